/-
  Printed: functions of the program as texts of the typed machine, as plain functions, and that the one is the other.
-/
import Derived.Test.YtffakkimlookoaaGreatKC
import Derived.KernelRfl
set_option linter.unusedVariables false
set_option linter.unusedSimpArgs false
set_option maxRecDepth 100000
namespace Lv
open Go (IntKind BinOp UnOp)
open Y (YF qn qf qt qr q1 qd qm qa qo ql qL qb qi qx qp qq qc qz qe qk qK qB qw qu qj Kp wn wf wt w1 sw sq sr wm wM wo wO wl wL wk wK wz wZ wx wX wb wB wi wI wr wR wq wQ we wE wc wY wj wh cv ca cx cn ce bl)
instance yI (i j n:Nat) (hs:List (Nat×Nat)):Decidable (Y.Nk i j n hs):=Y.Sv i j n hs
noncomputable def z8:YF:=⟨[],[.v .i,.b (.l .i)],[],.vw 1 .i,[.vw 3 1],
 sq [.as 3 (.k .nil),.Az [(.tmp 3 0,.i)]] [0,1] (.seq (.join [cv 12 .b] (qr [wn 5 [wm 0,wI .lss 0,wM],
 wf 7 8 [wm 0,wl 1,wZ,wB .gtr 8],
 qn [qp 12 7 11]] (Kp 4099)) (.cond 12 [0,1] [0,1] (sq [.st 1 (.tmp 1) (.k .nil),.Az [(.cell 1 0,.i)]] [0,1] (sr [wn 13 [wm 0,wh (.mm · true (.tmp 13) (.k (.int .i64 0))),wh (.mm · false (.tmp 14) (.k (.int .i64 10))),wh (.Kb · .i (.tmp 15))],
 qn [qa 3 16]] [1,3] .ret)) .skip)) (sr [wn 17 [wl 1,wm 0,wh (.sub · .i (.tmp 17) none (some (.tmp 18)))],
 qn [qa 4 19]] (Kp 19) (sr [wn 20 [wl 1,wm 0,wh (.sub · .i (.tmp 20) (some (.tmp 21)) none)],
 qn [qw 1 1 22]] [1,4] (sq [qm 23 4,qa 3 23] [1,3] .ret))))⟩
noncomputable def UI(p0:Int)(p1:(List Int))(v1:Bool):Option ((List Int)×(List Int)):=
 br v1
  (gd ((0<=if false=true then if 10>if true=true then if 0>p0 then 0 else p0 else if 0<p0 then 0 else p0 then 10 else if true=true then if 0>p0 then 0 else p0 else if 0<p0 then 0 else p0 else if 10<if true=true then if 0>p0 then 0 else p0 else if 0<p0 then 0 else p0 then 10 else if true=true then if 0>p0 then 0 else p0 else if 0<p0 then 0 else p0)/\(if false=true then if 10>if true=true then if 0>p0 then 0 else p0 else if 0<p0 then 0 else p0 then 10 else if true=true then if 0>p0 then 0 else p0 else if 0<p0 then 0 else p0 else if 10<if true=true then if 0>p0 then 0 else p0 else if 0<p0 then 0 else p0 then 10 else if true=true then if 0>p0 then 0 else p0 else if 0<p0 then 0 else p0)<=(↑lim:Int)) (
  some ((List.replicate (if false=true then if 10>if true=true then if 0>p0 then 0 else p0 else if 0<p0 then 0 else p0 then 10 else if true=true then if 0>p0 then 0 else p0 else if 0<p0 then 0 else p0 else if 10<if true=true then if 0>p0 then 0 else p0 else if 0<p0 then 0 else p0 then 10 else if true=true then if 0>p0 then 0 else p0 else if 0<p0 then 0 else p0).toNat 0,[]))))
  (gd (0<=p0/\p0<=(↑p1.length:Int)) (
  gd (0<=p0/\p0<=(↑p1.length:Int)) (
  some (List.take p0.toNat p1,List.drop p0.toNat p1))))
noncomputable def FR(p0:Int)(p1:(List Int)):Option ((List Int)×(List Int)):=
 br (decide (p0<0))
  (jn (UI p0 p1) true)
  (jn (UI p0 p1) (decide (p0>(↑p1.length:Int))))
noncomputable def Jr:GF:=z8.gf rfl rfl (fun a=>FR a.1 a.2.1) (fun a=>by kernel_rfl)
noncomputable def AAZ:YF:=⟨[],[.v (.l .i)],[],.ret [(.st 1),.b],[.cell 2 (some 9),.tmp 3],
 sq [.alloc 2 Cr,.Az [(.cell 2 0,.i)],qB 3 false] [0,2] (.seq (sw 5 [wm 0,wZ,wI .lss 9] (Kp 133) (.cond 7 [2] [0,2] (sq [.build 8 Cr [],.Az [(.tmp 8 0,.i)],qw 9 2 8,qB 3 false] [2,3] .ret) .skip)) (.seq (.BI (qd 0 [wn 9 [wm 0,wh (.ia · .i (.tmp 9) (.k (.int .i64 0))),wL,wm 0,wh (.ia · .i (.tmp 12) (.k (.int .i64 1))),wL,wm 0,wh (.ia · .i (.tmp 15) (.k (.int .i64 2))),wL,wm 0,wh (.ia · .i (.tmp 18) (.k (.int .i64 3))),wL,wm 0,wh (.ia · .i (.tmp 21) (.k (.int .i64 4))),wL,wm 0,wh (.ia · .i (.tmp 24) (.k (.int .i64 5))),wL,wm 0,wh (.ia · .i (.tmp 27) (.k (.int .i64 6))),wL,wm 0,wh (.ia · .i (.tmp 30) (.k (.int .i64 7))),wL,wm 0,wh (.sub · .i (.tmp 33) (some (.k (.int .i64 8))) none)]] (.both 0 (.op 26 none [10,13,16,19,22,25,28,31] (.call 35 DU [] rfl [(.tmp 34)])
 (.op 27 none [] (.build 36 Cr [(1,1,(.tmp 11)),(2,1,(.tmp 14)),(3,1,(.tmp 17)),(4,1,(.tmp 20)),(5,1,(.tmp 23)),(6,1,(.tmp 26)),(7,1,(.tmp 29)),(8,1,(.tmp 32)),(0,1,(.tmp 35))])
 (.op 28 none [10,13,16,19,22,25,28,31] (.alloc 4 Cr)
 (.nl [(.cell 4 0,.i)] (.op 29 none [] (.st 9 (.tmp 4) (.tmp 36))
 (.dr [9,10,11,12,13,14,15,16,17,18,19,20,21,22,23,24,25,26,27,28,29,30,31,32,33,34,35,36] .nil)))))) (.op 28 none [10,13,16,19,22,25,28,31] (.alloc 4 Cr)
 (.nl [(.cell 4 0,.i)] (.op 26 none [10,13,16,19,22,25,28,31] (.call 35 DU [] rfl [(.tmp 34)])
 (.op 27 none [] (.build 36 Cr [(1,1,(.tmp 11)),(2,1,(.tmp 14)),(3,1,(.tmp 17)),(4,1,(.tmp 20)),(5,1,(.tmp 23)),(6,1,(.tmp 26)),(7,1,(.tmp 29)),(8,1,(.tmp 32)),(0,1,(.tmp 35))])
 (.op 29 none [] (.st 9 (.tmp 4) (.tmp 36))
 (.dr [9,10,11,12,13,14,15,16,17,18,19,20,21,22,23,24,25,26,27,28,29,30,31,32,33,34,35,36] .nil)))))))) [2,4]) (.seq (sw 37 [wk 9 4,wY Bj rfl,wX] [2,4,39] (.cond 39 [2] [2,4] (sq [.build 40 Cr [],.Az [(.tmp 40 0,.i)],qw 9 2 40,qB 3 false] [2,3] .ret) .skip)) (sq [qL 41 9 4,qw 9 2 41,qB 3 true] [2,3] .ret))))⟩
noncomputable def mY(p0:(List Int)):Option (AQ×Bool):=
 br (decide ((↑p0.length:Int)<9))
  (some (AQ.mk [] 0 0 0 0 0 0 0 0,false))
  (bd (at? p0 0) fun x1=>
  bd (at? p0 1) fun x2=>
  bd (at? p0 2) fun x3=>
  bd (at? p0 3) fun x4=>
  bd (at? p0 4) fun x5=>
  bd (at? p0 5) fun x6=>
  bd (at? p0 6) fun x7=>
  bd (at? p0 7) fun x8=>
  gd ((0:Int)<=8/\8<=(↑p0.length:Int)) (
  bd (Ua (List.drop (Int.toNat 8) p0)) fun x9=>
  bd (Ua (List.drop (Int.toNat 8) p0)) fun x10=>
  eqv x9 x10 (
  ev8 x1 x2 x3 x4 x5 x6 x7 x8 (
  bd (R0 (AQ.mk x9 x1 x2 x3 x4 x5 x6 x7 x8)) fun x11=>
  br (!x11)
   (some (AQ.mk [] 0 0 0 0 0 0 0 0,false))
   (some (AQ.mk x9 x1 x2 x3 x4 x5 x6 x7 x8,true))))))
noncomputable def Jw:GF:=AAZ.gf rfl rfl (fun a=>mY a.1) (fun a=>by kernel_rfl)
noncomputable def vj(p0:(C.l (.st 5)).D)(p1:Int)(p2:(C.l (.st 5)).D):Option (C.l (.st 5)).D:=oo (.st 5) p0 p1 p2
noncomputable def Jx:GF:=AAx (.st 5) rfl
noncomputable def AAa:YF:=⟨[],[.v (.st 6),.v (.st 5)],[],.ret [(.st 6),.b],[.cell 4 (some 1),.tmp 5],
 sq [qu 2 0,qu 3 1,.alloc 4 [.nil],.Az [(.cell 4 0,(.l (.st 5)))],qB 5 false] (Kp 28) (sr [wn 9 [wk 1 2,wY E6 rfl],
 qn [.alloc 6 [.nil],.Az [(.cell 6 0,(.l (.st 5)))],qw 1 6 10]] (Kp 92) (.seq (.join [cv 18 .b] (qr [wn 11 [wk 1 2,wY CX rfl,wX,wM],
 wf 14 15 [wk 2 3,wY E0 rfl,wX],
 qn [qp 18 14 17]] (Kp 262236)) (.cond 18 [4,6] (Kp 92) (sq [qL 19 1 6,qw 1 4 19,qB 5 false] [4,5] .ret) .skip)) (sr [wn 20 [wo 0 6,wL,wo 0 3,wL,wI .rem 9,wE (.l (.st 5)) 21,wL],
 qn [qa 7 26]] (Kp 220) (sq [qK 8 0] (Kp 476) (.join [cv 8 .i] (bl 0 [cv 8 .i] (.seq (.join [cv 39 .b] (.BI (qd 0 [wn 27 [wm 8,wm 7,wZ,wB .lss 27,wM],
 wt 31 32 [wm 7,wm 8,wE (.st 5) 32,wK 2,wk 2 3,wc BG rfl [35,36],wI .lss 0],
 qn [qq 39 31 38]] .nil) [2,3,4,6,7,8,39]) (ce 39 [2,3,4,6,7,8] (Kp 476) 0)) (.block 1 (qr [wn 40 [wm 8,wI .add 1],
 qn [qa 8 41]] (Kp 476))))) (.seq (.BI (qd 0 [wn 42 [wo 0 6,wL,wo 0 3,wL,wI .rem 9,wm 7,wm 8,wk 2 3]] (.op 8 none [42,44] (.Ah 50 1 (.st 5) [(0,(.tmp 49))])
 (.op 9 none [42,44] (.call 51 Jx [] rfl [(.tmp 47),(.tmp 48),(.tmp 50)])
 (qd 10 [qn [qe 52 (.l (.st 5)) 43 46,qw 1 52 51]] .nil)))) [2,4,6]) (.seq (sw 53 [wk 1 6,wY CX rfl,wX] [2,4,6,55] (.cond 55 [2,4] [4,6] (sr [wn 56 [wk 1 2,wY E6 rfl],
 qn [qw 1 4 57,qB 5 false]] [4,5] .ret) .skip)) (sq [qL 58 1 6,qw 1 4 58,qB 5 true] [4,5] .ret))))))))⟩
noncomputable def Ug(p0:AP)(p1:AK)(x1:AP)(x5:(List AK))(v11:Int):Option (AP×Bool):=
 bd (vj x5 v11 [p1]) fun x12=>
 bd (at? x1.AJ (p1.At.tmod 9)) fun x13=>
 bd (at? x1.AJ (p1.At.tmod 9)) fun x14=>
 gd (Y.Nk (p1.At.tmod 9).toNat 0 [U.sl (C.st 5) x12].length [((p1.At.tmod 9).toNat,0)]) (
 bd (O9 (AP.mk (x1.AJ.set (p1.At.tmod 9).toNat x12))) fun x15=>
 br (!x15)
  (bd (dt p0) fun x16=>
  some (x16,false))
  (some ((AP.mk (x1.AJ.set (p1.At.tmod 9).toNat x12),true))))
noncomputable def Pj(p0:AP)(p1:AK)(x1:AP)(x5:(List AK))(L6:Int->Option (AP×Bool))(v7:Int)(v10:Bool):Option (AP×Bool):=
 br v10
  (L6 (w64 (v7+1)))
  (jn (Ug p0 p1 x1 x5) v7)
noncomputable def Pk(p0:AP)(p1:AK)(x1:AP)(x5:(List AK))(L6:Int->Option (AP×Bool))(v7:Int):Option (AP×Bool):=
 br (decide (v7<(↑(List.length x5):Int)))
  (bd (at? x5 v7) fun x8=>
  bd (O8 x8 p1) fun x9=>
  jn (Pj p0 p1 x1 x5 L6 v7) (decide (x9<0)))
  (jn (Pj p0 p1 x1 x5 L6 v7) false)
noncomputable def Uf(p0:AP)(p1:AK)(x1:AP)(v3:Bool):Option (AP×Bool):=
 br v3
  (some (x1,false))
  (bd (at? x1.AJ (p1.At.tmod 9)) fun x4=>
  bd (at? x1.AJ (p1.At.tmod 9)) fun x5=>
  AR (Pk p0 p1 x1 x5) big 0)
noncomputable def mZ(p0:AP)(p1:AK):Option (AP×Bool):=
 bd (dt p0) fun x1=>
 bd (O9 p0) fun x2=>
 br (!x2)
  (jn (Uf p0 p1 x1) true)
  (bd (cr p1) fun x17=>
  jn (Uf p0 p1 x1) (!x17))
noncomputable def Jy:GF:=AAa.gf rfl rfl (fun a=>mZ a.1 a.2.1) (fun a=>by kernel_rfl)
noncomputable def AAb:YF:=⟨[],[.v (.l (.st 5))],[],.ret [(.st 6),.b],[.cell 2 (some 1),.tmp 3],
 sq [.alloc 2 [.nil],.Az [(.cell 2 0,(.l (.st 5)))],qB 3 false] [0,2] (sq [qc 9 Jv rfl [],.alloc 4 [.nil],.Az [(.cell 4 0,(.l (.st 5)))],qw 1 4 9] (Kp 21) (.join [cx 4 (.st 6)] (sw 10 [wm 0,wZ,wj 0] (Kp 7188) (bl 0 [cv 12 .i,cx 4 (.st 6)] (sq [qb 13 .lss 12 11] (Kp 15380) (.seq (ce 13 (Kp 7188) [2,4] 0) (.seq (.block 1 (sr [wn 14 [we (.st 5) 10 12,wK 2],
 qn [.alloc 6 [.int .i64 0,.int .i64 0],qw 2 6 15]] (Kp 7252) (sr [wn 17 [wk 1 4,wk 2 6,wc Jy rfl [17,18]],
 qn [qm 16 19],
 wn 20 [wh (.ext · (.tmp 16) 0),wh (.ext · (.tmp 16) 1)],
 qn [.alloc 7 [.nil],.Az [(.cell 7 0,(.l (.st 5)))],qw 1 7 20,qa 8 21]] (Kp 7572) (.seq (sw 22 [wm 8,wX] (Kp 8395924) (.cond 23 [2] (Kp 7316) (sq [.build 24 [.nil] [],.Az [(.tmp 24 0,(.l (.st 5)))],qw 1 2 24,qB 3 false] [2,3] .ret) .skip)) (q1 [qL 25 1 7,qw 1 4 25] (Kp 7188)))))) (q1 [qi 26 .add 12 1,qm 12 26] (Kp 7188))))))) (sq [qL 27 1 4,qw 1 2 27,qB 3 true] [2,3] .ret)))⟩
noncomputable def fO(v7:AP):Option (AP×Bool):=
 some (v7,true)
noncomputable def Uh(p0:(List AK))(L2:(Int×AP)->Option (AP×Bool))(x_:(Int×AP)):Option (AP×Bool):=
 match x_ with
 |(v3,v4)=>br (decide (v3<(↑p0.length:Int)))
  (bd (at? p0 v3) fun x5=>
  bd (mZ v4 x5) fun x6=>
  br (!x6.snd)
   (some (AP.mk [],false))
   (L2 ((w64 (v3+1),x6.fst))))
  (jn (fO) v4)
noncomputable def ma(p0:(List AK)):Option (AP×Bool):=
 bd (rC) fun x1=>
 AR (Uh p0) big (0,x1)
noncomputable def Jz:GF:=AAb.gf rfl rfl (fun a=>ma a.1) (fun a=>by kernel_rfl)
noncomputable def AAc:YF:=⟨[],[.v (.l .i),.v (.l .i)],[],.ret [.b],[.tmp 4],
 sq [qB 4 false] [0,1] (.seq (sw 6 [wm 0,wZ,wm 1,wZ,wB .neq 7] (Kp 1027) (cn 10 [0,1] (sq [qB 4 false] [4] .ret))) (.join [] (sw 11 [wm 0,wZ,wj 0] (Kp 12291) (bl 0 [cv 13 .i] (sq [qb 14 .lss 13 12] (Kp 28675) (.seq (ce 14 (Kp 12291) [] 0) (.seq (.block 1 (sq [qm 15 13,qa 5 15] (Kp 12323) (.seq (.BI (qd 0 [wn 16 [wm 0,wm 5,wE .i 16,wL,wm 1,wm 5,wE .i 20,wL,wB .neq 19]] .nil) [0,1,12,13,24]) (cn 24 (Kp 12291) (sq [qB 4 false] [4] .ret))))) (q1 [qi 25 .add 13 1,qm 13 25] (Kp 12291))))))) (sq [qB 4 true] [4] .ret)))⟩
noncomputable def fP(_:PUnit):Option Bool:=
 some true
noncomputable def Ui(p0:(List Int))(p1:(List Int))(L1:Int->Option Bool)(v2:Int):Option Bool:=
 br (decide (v2<(↑p0.length:Int)))
  (bd (at? p0 v2) fun x3=>
  bd (at? p1 v2) fun x4=>
  br (x3 != x4)
   (some false)
   (L1 (w64 (v2+1))))
  (jn (fP) ())
noncomputable def mb(p0:(List Int))(p1:(List Int)):Option Bool:=
 br ((↑p0.length:Int) != (↑p1.length:Int))
  (some false)
  (AR (Ui p0 p1) big 0)
noncomputable def J0:GF:=AAc.gf rfl rfl (fun a=>mb a.1 a.2.1) (fun a=>by kernel_rfl)
noncomputable def AAd:YF:=⟨[Jr],[.v (.l .i)],[],.ret [(.st 8),.b],[.cell 2 (some 15),.tmp 3],
 sq [.alloc 2 A0,.Az [(.cell 2 0,.i),(.cell 2 11,(.st 2)),(.cell 2 12,(.st 7)),(.cell 2 13,.i),(.cell 2 14,.i)],qB 3 false] [0,2,7,9,47] (sq [qm 20 0,.alloc 4 [.nil],.Az [(.cell 4 0,.i)],qw 1 4 20] [0,2,4,7,9,47] (sq [.No 21 0 [.tmp 4],qa 5 21] (Kp 140737488356021) (sr [wn 22 [wm 5,wh (.CB · (.tmp 22) [.v,.b] [qj 1]),wh (.ia · .i (.tmp 23) (.k (.int .i64 0))),wL],
 qn [qa 6 25]] (Kp 140737488356085) (.seq (.join [cv 34 .b] (qr [wn 26 [wm 6,wc AO rfl [26,qj 9,qj 12],wX,wM],
 wf 29 30 [wm 6,wl 4,wZ,wB .gtr 30],
 qn [qp 34 29 33]] (Kp 140754668225253)) (.cond 34 [2,7,9,47] [0,2,5,6,9,47] (sq [.build 35 A0 [],.Az [(.tmp 35 0,.i),(.tmp 35 11,(.st 2)),(.tmp 35 12,(.st 7)),(.tmp 35 13,.i),(.tmp 35 14,.i)],qw 15 2 35,qB 3 false] [2,3,7,9,47] .ret) .skip)) (sr [wn 37 [wm 5,wm 6,wh (.CB · (.tmp 37) [.v,.b] [.tmp 38]),wY Jw rfl],
 qn [qm 36 40],
 wn 41 [wh (.ext · (.tmp 36) 0),wh (.ext · (.tmp 36) 1)],
 qn [.alloc 7 Cr,.Az [(.cell 7 0,.i)],qw 9 7 41,qa 8 42]] (Kp 140737488356261) (.seq (sw 43 [wm 8,wX] (Kp 158329674400421) (.cond 44 [2,7,9,47] (Kp 165) (sq [.build 45 A0 [],.Az [(.tmp 45 0,.i),(.tmp 45 11,(.st 2)),(.tmp 45 12,(.st 7)),(.tmp 45 13,.i),(.tmp 45 14,.i)],qw 15 2 45,qB 3 false] [2,3,7,9,47] .ret) .skip)) (sr [wn 46 [wk 9 7,wh (.build · A0 [(0,9,(.tmp 46))])],
 qn [.alloc 9 A0,.Az [(.cell 9 0,.i),(.cell 9 11,(.st 2)),(.cell 9 12,(.st 7)),(.cell 9 13,.i),(.cell 9 14,.i)],qw 1048591 9 47,.Az [(.cell 9 11,(.st 2)),(.cell 9 12,(.st 7)),(.cell 9 13,.i),(.cell 9 14,.i)]]] [0,2,5,7,9,47] (sr [wn 48 [wm 5,wh (.CB · (.tmp 48) [.v,.b] [qj 3])],
 qn [qa 10 49]] (Kp 140737488357029) (.seq (.BI (qd 0 [wn 50 [wm 10,wh (.ia · .i (.tmp 50) (.k (.int .i64 0))),wL,wm 10,wh (.ia · .i (.tmp 53) (.k (.int .i64 1))),wL,wo 9 9]] (.op 7 none [54] (.st 1 (.tmp 56) (.tmp 52))
 (qd 8 [qn [qo 57 10 9,qw 1 57 55]] .nil))) [0,2,5,7,9,10,47]) (.seq (sw 58 [wm 10,wh (.ia · .i (.tmp 58) (.k (.int .i64 2))),wL,wc AO rfl [60,qj 0,qj 40],wX] (Kp 4611826755915744933) (.cond 62 [2,7,9,47] (Kp 140737488357029) (sq [.build 63 A0 [],.Az [(.tmp 63 0,.i),(.tmp 63 11,(.st 2)),(.tmp 63 12,(.st 7)),(.tmp 63 13,.i),(.tmp 63 14,.i)],qw 15 2 63,qB 3 false] [2,3,7,9,47] .ret) .skip)) (.join [(true,4,.one,[.val (.l .i) (some (.old 0))]),(true,9,.one,[.al (.cell 7 0),.val .i none,.val .i none,.val .i none,.val .i none,.val .i none,.val .i none,.val .i none,.val .i none,.val .i none,.val .i none,.val (.l (.st 2)) none,.val (.l (.st 7)) none,.val (.l .i) none,.val (.l .i) none])] (sq [qK 11 0] (Kp 140737488359077) (bl 0 [cv 11 .i,(true,4,.one,[.val (.l .i) (some (.old 0))]),(true,9,.one,[.al (.cell 7 0),.val .i none,.val .i none,.val .i none,.val .i none,.val .i none,.val .i none,.val .i none,.val .i none,.val .i none,.val .i none,.val (.l (.st 2)) none,.val (.l (.st 7)) none,.val (.l .i) none,.val (.l .i) none])] (.seq (sw 64 [wm 11,wm 10,wh (.ia · .i (.tmp 65) (.k (.int .i64 2))),wL,wB .lss 64] (Kp 295148045916841184933) (ce 68 (Kp 140737488359077) [0,2,5,7,9,47] 0)) (.seq (.block 1 (sr [wn 71 [wm 5,wh (.CB · (.tmp 71) [.v,.b] [qj 10])],
 qn [qa 12 72]] (Kp 140737488363173) (.BI (qd 0 [wn 73 [wo 11 9,wL,wm 12,wh (.ia · .i (.tmp 75) (.k (.int .i64 0))),wL,wm 12,wh (.ia · .i (.tmp 78) (.k (.int .i64 1))),wL,wm 12,wh (.ia · .i (.tmp 81) (.k (.int .i64 2))),wL,wI .sub 1,wm 12,wh (.ia · .i (.tmp 85) (.k (.int .i64 3))),wL,wm 12,wh (.ia · .i (.tmp 88) (.k (.int .i64 4))),wL,wm 12,wh (.ia · .i (.tmp 91) (.k (.int .i64 5))),wL,wm 12,wh (.ia · .i (.tmp 94) (.k (.int .i64 6))),wL,wm 12,wh (.ia · .i (.tmp 97) (.k (.int .i64 7))),wL,wm 12,wh (.ia · .i (.tmp 100) (.k (.int .i64 8))),wL,wm 12,wh (.ia · .i (.tmp 103) (.k (.int .i64 9))),wL,wh (.build · Cz [(0,1,(.tmp 77)),(1,1,(.tmp 80)),(2,1,(.tmp 84)),(3,1,(.tmp 87)),(4,1,(.tmp 90)),(5,1,(.tmp 93)),(6,1,(.tmp 96)),(7,1,(.tmp 99)),(8,1,(.tmp 102)),(9,1,(.tmp 105))])]] (.op 34 none [73] (.Ah 107 1 (.st 2) [(0,(.tmp 106))])
 (qd 35 [wn 108 [wh (.app · (.st 2) true (.tmp 74) (.tmp 107)),wo 11 9],
 qn [qw 1 109 108]] .nil))) [0,2,5,7,9,10,11,47]))) (qr [wn 69 [wm 11,wI .add 1],
 qn [qa 11 70]] (Kp 140737488359077)))))) (.join [(true,4,.one,[.val (.l .i) (some (.old 0))]),(true,9,.one,[.al (.cell 7 0),.val .i none,.val .i none,.val .i none,.val .i none,.val .i none,.val .i none,.val .i none,.val .i none,.val .i none,.val .i none,.val (.l (.st 2)) none,.val (.l (.st 7)) none,.val (.l .i) none,.val (.l .i) none])] (sw 110 [wo 0 7,wL,wZ,wj 0] [0,2,5,7,9,47,111,112,113] (bl 2 [cv 113 .i,(true,4,.one,[.val (.l .i) (some (.old 0))]),(true,9,.one,[.al (.cell 7 0),.val .i none,.val .i none,.val .i none,.val .i none,.val .i none,.val .i none,.val .i none,.val .i none,.val .i none,.val .i none,.val (.l (.st 2)) none,.val (.l (.st 7)) none,.val (.l .i) none,.val (.l .i) none])] (sq [qb 114 .lss 113 112] [0,2,5,7,9,47,111,112,113,114] (.seq (ce 114 [0,2,5,7,9,47,111,112,113] [0,2,5,7,9,47] 2) (.seq (.block 3 (sr [wn 115 [wm 113,we .i 111 113,wL],
 qn [qa 13 115,qa 14 117]] (Kp 18173039004871896699997474640650917) (sr [wn 118 [wk 9 7,wo 11 9,wL,wm 13,wo 9 9,wL,wc Ey rfl [118,120,121,123],wh (.build · KR [(5,1,(.tmp 124))])],
 qn [.Az [(.tmp 125 6,(.l (.st 5)))],.alloc 15 KR,.Az [(.cell 15 5,(.st 4)),(.cell 15 6,(.l (.st 5)))],qw 7 15 125]] (Kp 18173039004871896699997474640683685) (.seq (.BI (qd 0 [wn 126 [wm 14,wm 5]] (qd 5 [wn 131 [wo 11 9,wL,wm 13]] (qd 9 [wn 135 [wo 11 9,wL,wm 13]] (.both 0 (.op 2 none [131,135] (.CB 128 (.tmp 127) [.v,.b] [(.k (.int .i64 1))])
 (qd 3 [wn 129 [wh (.ia · .i (.tmp 128) (.k (.int .i64 0))),wL]] (.both 0 (.op 8 none [129,135] (.call 134 CY [] rfl [(.tmp 132),(.tmp 133)])
 (.both 0 (.op 12 none [129] (.call 138 Bk [] rfl [(.tmp 136),(.tmp 137)])
 (.op 13 none [] (.build 139 Dl [(0,1,(.tmp 126)),(1,1,(.tmp 130)),(2,1,(.tmp 134)),(4,1,(.tmp 138))])
 (.op 14 none [129,131,135] (.alloc 16 Dl)
 (.op 15 none [] (.st 5 (.tmp 16) (.tmp 139))
 (.dr [126,127,128,129,130,131,132,133,134,135,136,137,138,139] .nil))))) (.op 14 none [129,131,135] (.alloc 16 Dl)
 (.op 12 none [129] (.call 138 Bk [] rfl [(.tmp 136),(.tmp 137)])
 (.op 13 none [] (.build 139 Dl [(0,1,(.tmp 126)),(1,1,(.tmp 130)),(2,1,(.tmp 134)),(4,1,(.tmp 138))])
 (.op 15 none [] (.st 5 (.tmp 16) (.tmp 139))
 (.dr [126,127,128,129,130,131,132,133,134,135,136,137,138,139] .nil))))))) (.op 14 none [129,131,135] (.alloc 16 Dl)
 (.op 8 none [129,135] (.call 134 CY [] rfl [(.tmp 132),(.tmp 133)])
 (.op 12 none [129] (.call 138 Bk [] rfl [(.tmp 136),(.tmp 137)])
 (.op 13 none [] (.build 139 Dl [(0,1,(.tmp 126)),(1,1,(.tmp 130)),(2,1,(.tmp 134)),(4,1,(.tmp 138))])
 (.op 15 none [] (.st 5 (.tmp 16) (.tmp 139))
 (.dr [126,127,128,129,130,131,132,133,134,135,136,137,138,139] .nil))))))))) (.op 14 none [131,135] (.alloc 16 Dl)
 (.op 2 none [131,135] (.CB 128 (.tmp 127) [.v,.b] [(.k (.int .i64 1))])
 (qd 3 [wn 129 [wh (.ia · .i (.tmp 128) (.k (.int .i64 0))),wL]] (.op 8 none [129,135] (.call 134 CY [] rfl [(.tmp 132),(.tmp 133)])
 (.op 12 none [129] (.call 138 Bk [] rfl [(.tmp 136),(.tmp 137)])
 (.op 13 none [] (.build 139 Dl [(0,1,(.tmp 126)),(1,1,(.tmp 130)),(2,1,(.tmp 134)),(4,1,(.tmp 138))])
 (.op 15 none [] (.st 5 (.tmp 16) (.tmp 139))
 (.dr [126,127,128,129,130,131,132,133,134,135,136,137,138,139] .nil)))))))))))) [0,2,5,7,9,13,14,15,16,47,111,112,113]) (sr [wn 140 [wm 14,wo 1 16,wL,wB .sub 140,wo 2 16,wL,wB .sub 143,wo 3 16],
 qn [qw 1 147 146]] (Kp 18173039004871896699997474640732837) (sr [wn 148 [wk 5 16,wo 0 15],
 qn [qw 5 149 148]] (Kp 18173039004871896699997474640667301) (sr [wn 151 [wo 11 9,wL,wm 13,wc E4 rfl [152,153],wY Jz rfl],
 qn [qm 150 155],
 wn 156 [wh (.ext · (.tmp 150) 0),wh (.ext · (.tmp 150) 1),wo 6 15],
 qn [qw 1 158 156]] [0,2,5,7,9,15,47,111,112,113] (qr [wn 159 [wo 12 9,wL,wk 7 15,wh (.Ah · 1 (.st 7) [(0,(.tmp 161))]),wh (.app · (.st 7) false (.tmp 160) (.tmp 162)),wo 12 9],
 qn [qw 1 164 163]] [0,2,5,7,9,47,111,112,113])))))))) (q1 [qi 165 .add 113 1,qm 113 165] [0,2,5,7,9,47,111,112,113])))))) (sr [wn 166 [wm 5,wh (.CB · (.tmp 166) [.v,.b] [qj 1]),wh (.ia · .i (.tmp 167) (.k (.int .i64 0))),wL],
 qn [qa 17 169]] (Kp 140737488487077) (.seq (sw 170 [wm 17,wc AO rfl [170,qj 0,qj 4],wX] [0,2,5,7,9,17,47,172] (.cond 172 [2,7,9,47] (Kp 140737488487077) (sq [.build 173 A0 [],.Az [(.tmp 173 0,.i),(.tmp 173 11,(.st 2)),(.tmp 173 12,(.st 7)),(.tmp 173 13,.i),(.tmp 173 14,.i)],qw 15 2 173,qB 3 false] [2,3,7,9,47] .ret) .skip)) (sr [wn 174 [wm 5,wm 17,wh (.CB · (.tmp 174) [.v,.b] [.tmp 175]),wY DU rfl,wo 13 9],
 qn [qw 1 178 177]] [0,2,5,7,9,47] (.join [(true,9,.one,[.al (.cell 7 0),.val .i none,.val .i none,.val .i none,.val .i none,.val .i none,.val .i none,.val .i none,.val .i none,.val .i none,.val .i none,.val (.l (.st 2)) none,.val (.l (.st 7)) none,.val (.l .i) none,.val (.l .i) none])] (sw 179 [wm 5,wo 8 7,wL,wh (.CB · (.tmp 179) [.v,.b] [.tmp 181]),wZ,wj 0] [0,2,7,9,47,182,183,184] (bl 4 [cv 184 .i,(true,9,.one,[.al (.cell 7 0),.val .i none,.val .i none,.val .i none,.val .i none,.val .i none,.val .i none,.val .i none,.val .i none,.val .i none,.val .i none,.val (.l (.st 2)) none,.val (.l (.st 7)) none,.val (.l .i) none,.val (.l .i) none])] (sq [qb 185 .lss 184 183] [0,2,7,9,47,182,183,184,185] (.seq (ce 185 [0,2,7,9,47,182,183,184] [0,2,7,9,47] 4) (.seq (.block 5 (sr [wn 186 [we .i 182 184,wL],
 qn [qa 19 187]] [0,2,7,9,19,47,182,183,184] (qr [wn 188 [wo 14 9,wL,wm 19,wI .sub 1,wh (.Ah · 1 .i [(0,(.tmp 191))]),wh (.app · .i true (.tmp 189) (.tmp 192)),wo 14 9],
 qn [qw 1 194 193]] [0,2,7,9,47,182,183,184]))) (q1 [qi 195 .add 184 1,qm 184 195] [0,2,7,9,47,182,183,184])))))) (.seq (.join [cv 205 .b] (qr [wn 196 [wk 15 9,wY Cv rfl,wX,wM],
 wf 199 200 [wk 15 9,wY Js rfl,wm 0,wc J0 rfl [201,202],wX],
 qn [qp 205 199 204]] [2,7,9,47,205]) (.cond 205 [2,7,9,47] [2,7,9,47] (sq [.build 206 A0 [],.Az [(.tmp 206 0,.i),(.tmp 206 11,(.st 2)),(.tmp 206 12,(.st 7)),(.tmp 206 13,.i),(.tmp 206 14,.i)],qw 15 2 206,qB 3 false] [2,3,7,9,47] .ret) .skip)) (sq [qL 207 15 9,qw 1048591 2 207,qB 3 true] [2,3,7,9,47] .ret))))))))))))))))))⟩
noncomputable def Um(x6:(AQ×Bool))(v133:Int)(v134:Int)(v135:Int)(v136:Int)(v137:Int)(v138:Int)(v139:Int)(v140:Int)(v141:Int)(v142:Int)(v143:(List AG))(v144:(List AU))(v145:(List Int))(v146:(List Int))(v148:Bool):Option (AH×Bool):=
 br v148
  (some ((AH.mk (AQ.mk [] 0 0 0 0 0 0 0 0) 0 0 [] [] [] [],false)))
  (some ((AH.mk (AQ.mk x6.fst.AN v133 v134 v135 v136 v137 v138 v139 v140) v141 v142 v143 v144 v145 v146,true)))
noncomputable def K3(p0:(List Int))(x6:(AQ×Bool))(x_:(PUnit×Int×Int×Int×Int×Int×Int×Int×Int×Int×Int×(List AG)×(List AU)×(List Int)×(List Int))):Option (AH×Bool):=
 match x_ with
 |(v132,v133,v134,v135,v136,v137,v138,v139,v140,v141,v142,v143,v144,v145,v146)=>bd (T0 (AH.mk (AQ.mk x6.fst.AN v133 v134 v135 v136 v137 v138 v139 v140) v141 v142 v143 v144 v145 v146)) fun x147=>
 br (!x147)
  (jn (Um x6 v133 v134 v135 v136 v137 v138 v139 v140 v141 v142 v143 v144 v145 v146) true)
  (bd (mN (AH.mk (AQ.mk x6.fst.AN v133 v134 v135 v136 v137 v138 v139 v140) v141 v142 v143 v144 v145 v146)) fun x149=>
  bd (mb x149 p0) fun x150=>
  jn (Um x6 v133 v134 v135 v136 v137 v138 v139 v140 v141 v142 v143 v144 v145 v146) (!x150))
noncomputable def Uo(p0:(List Int))(x6:(AQ×Bool))(x113:((List Int)×(List Int)))(L114:(Int×PUnit×Int×Int×Int×Int×Int×Int×Int×Int×Int×Int×(List AG)×(List AU)×(List Int)×(List Int))->Option (AH×Bool))(x_:(Int×PUnit×Int×Int×Int×Int×Int×Int×Int×Int×Int×Int×(List AG)×(List AU)×(List Int)×(List Int))):Option (AH×Bool):=
 match x_ with
 |(v115,v116,v117,v118,v119,v120,v121,v122,v123,v124,v125,v126,v127,v128,v129,v130)=>br (decide (v115<(↑(List.length x113.fst):Int)))
  (bd (at? x113.fst v115) fun x131=>
  gd (v130.length+[w64 (x131-1)].length<=lim) (
  L114 ((w64 (v115+1),(),v117,v118,v119,v120,v121,v122,v123,v124,v125,v126,v127,v128,v129,v130++[w64 (x131-1)]))))
  (jn (K3 p0 x6) (((),v117,v118,v119,v120,v121,v122,v123,v124,v125,v126,v127,v128,v129,v130)))
noncomputable def Ul(p0:(List Int))(x6:(AQ×Bool))(x_:((List Int)×PUnit×Int×Int×Int×Int×Int×Int×Int×Int×Int×Int×(List AG)×(List AU)×(List Int)×(List Int))):Option (AH×Bool):=
 match x_ with
 |(v92,v93,v94,v95,v96,v97,v98,v99,v100,v101,v102,v103,v104,v105,v106,v107)=>bd (FR 1 v92) fun x108=>
 bd (at? x108.fst 0) fun x109=>
 bd (BT x109 0 4) fun x110=>
 br (!x110)
  (some ((AH.mk (AQ.mk [] 0 0 0 0 0 0 0 0) 0 0 [] [] [] [],false)))
  (bd (FR x109 x108.snd) fun x111=>
  bd (Ua x111.fst) fun x112=>
  bd (FR x6.fst.BL x111.snd) fun x113=>
  AR (Uo p0 x6 x113) big ((0,(),v94,v95,v96,v97,v98,v99,v100,v101,v102,v103,v104,v105,x112,v107)))
noncomputable def fQ(p0:(List Int))(x6:(AQ×Bool))(L58:(Int×(List Int)×PUnit×Int×Int×Int×Int×Int×Int×Int×Int×Int×Int×(List AG)×(List AU)×(List Int)×(List Int))->Option (AH×Bool))(x_:(Int×(List Int)×PUnit×Int×Int×Int×Int×Int×Int×Int×Int×Int×Int×(List AG)×(List AU)×(List Int)×(List Int))):Option (AH×Bool):=
 match x_ with
 |(v59,v60,v61,v62,v63,v64,v65,v66,v67,v68,v69,v70,v71,v72,v73,v74,v75)=>br (decide (v59<(↑x6.fst.AN.length:Int)))
  (bd (at? x6.fst.AN v59) fun x76=>
  bd (at? x6.fst.AN v59) fun x77=>
  bd (TO x6.fst v72 v59 v70) fun x78=>
  bd (FR 1 v60) fun x79=>
  bd (at? x79.fst 0) fun x80=>
  bd (Ts v72 v59) fun x81=>
  bd (R4 v72 v59) fun x82=>
  bd (R4 v72 v59) fun x83=>
  ev4 x77 x80 x81 (0:Int) (
  eqv x82 x83 (
  bd (Ts v72 v59) fun x84=>
  bd (R4 v72 v59) fun x85=>
  ev2 x77 x80 (
  eqv x81 x84 (
  eqv (α:=Int) 0 0 (
  eqv x82 x85 (
  bd (FR 1 v60) fun x86=>
  bd (at? x86.fst 0) fun x87=>
  bd (Ts v72 v59) fun x88=>
  bd (R4 v72 v59) fun x89=>
  eqv x79.snd x86.snd (
  eqv x77 x77 (
  eqv x80 x87 (
  eqv x81 x88 (
  eqv (α:=Int) 0 0 (
  eqv x82 x89 (
  bd (Tq v72 v59) fun x90=>
  bd (ma x90) fun x91=>
  gd (List.length v73+[AU.mk (BX.mk x77 x80 x81 (w64 (w64 (x77-x80)-x81)) x82) x78 x91.fst].length<=lim) (
  L58 ((w64 (v59+1),x79.snd,(),v62,v63,v64,v65,v66,v67,v68,v69,v70,v71,v72,v73++[AU.mk (BX.mk x77 x80 x81 (w64 (w64 (x77-x80)-x81)) x82) x78 x91.fst],v74,v75))))))))))))))))
  (jn (Ul p0 x6) ((v60,(),v62,v63,v64,v65,v66,v67,v68,v69,v70,v71,v72,v73,v74,v75)))
noncomputable def Uk(p0:(List Int))(x6:(AQ×Bool))(x_:((List Int)×PUnit×Int×Int×Int×Int×Int×Int×Int×Int×Int×Int×(List AG)×(List AU)×(List Int)×(List Int))):Option (AH×Bool):=
 match x_ with
 |(v42,v43,v44,v45,v46,v47,v48,v49,v50,v51,v52,v53,v54,v55,v56,v57)=>AR (fQ p0 x6) big ((0,v42,(),v44,v45,v46,v47,v48,v49,v50,v51,v52,v53,v54,v55,v56,v57))
noncomputable def Un(p0:(List Int))(x6:(AQ×Bool))(x7:((List Int)×(List Int)))(L12:(Int×(List Int)×PUnit×Int×Int×Int×Int×Int×Int×Int×Int×Int×Int×(List AG)×(List AU)×(List Int)×(List Int))->Option (AH×Bool))(x_:(Int×(List Int)×PUnit×Int×Int×Int×Int×Int×Int×Int×Int×Int×Int×(List AG)×(List AU)×(List Int)×(List Int))):Option (AH×Bool):=
 match x_ with
 |(v13,v14,v15,v16,v17,v18,v19,v20,v21,v22,v23,v24,v25,v26,v27,v28,v29)=>bd (at? x7.fst 2) fun x30=>
 br (decide (v13<x30))
  (bd (FR 10 v14) fun x31=>
  bd (at? x31.fst 0) fun x32=>
  bd (at? x31.fst 1) fun x33=>
  bd (at? x31.fst 2) fun x34=>
  bd (at? x31.fst 3) fun x35=>
  bd (at? x31.fst 4) fun x36=>
  bd (at? x31.fst 5) fun x37=>
  bd (at? x31.fst 6) fun x38=>
  bd (at? x31.fst 7) fun x39=>
  bd (at? x31.fst 8) fun x40=>
  bd (at? x31.fst 9) fun x41=>
  gd (List.length v26+[AG.mk x32 x33 (w64 (x34-1)) x35 x36 x37 x38 x39 x40 x41].length<=lim) (
  L12 ((w64 (v13+1),x31.snd,(),v16,v17,v18,v19,v20,v21,v22,v23,v24,v25,v26++[AG.mk x32 x33 (w64 (x34-1)) x35 x36 x37 x38 x39 x40 x41],v27,v28,v29))))
  (jn (Uk p0 x6) ((v14,(),v16,v17,v18,v19,v20,v21,v22,v23,v24,v25,v26,v27,v28,v29)))
noncomputable def K2(p0:(List Int))(x1:((List Int)×(List Int)))(x2:Int)(v4:Bool):Option (AH×Bool):=
 br v4
  (some ((AH.mk (AQ.mk [] 0 0 0 0 0 0 0 0) 0 0 [] [] [] [],false)))
  (bd (FR x2 x1.snd) fun x5=>
  bd (mY x5.fst) fun x6=>
  br (!x6.snd)
   (some ((AH.mk (AQ.mk [] 0 0 0 0 0 0 0 0) 0 0 [] [] [] [],false)))
   (bd (FR 3 x5.snd) fun x7=>
   bd (at? x7.fst 0) fun x8=>
   bd (at? x7.fst 1) fun x9=>
   bd (at? x7.fst 2) fun x10=>
   bd (BT x10 0 40) fun x11=>
   br (!x11)
    (some ((AH.mk (AQ.mk [] 0 0 0 0 0 0 0 0) 0 0 [] [] [] [],false)))
    (AR (Un p0 x6 x7) big ((0,x7.snd,(),x6.fst.A2,x6.fst.Room,x6.fst.Aq,x6.fst.Au,x6.fst.As,x6.fst.Rest,x6.fst.A3,x6.fst.BL,x8,x9,[],[],[],[])))))
noncomputable def Uj(p0:(List Int)):Option (AH×Bool):=
 bd (FR 1 p0) fun x1=>
 bd (at? x1.fst 0) fun x2=>
 bd (BT x2 9 12) fun x3=>
 br (!x3)
  (jn (K2 p0 x1 x2) true)
  (jn (K2 p0 x1 x2) (decide (x2>(↑(List.length x1.snd):Int))))
noncomputable def GA:GF:=AAd.gf rfl rfl (fun a=>Uj a.1) (fun a=>by kernel_rfl)
noncomputable def AAe:YF:=⟨[],[.b (.st 16)],[],.ret [.i],[.tmp 2],
 sq [qK 2 0] [0] (.seq (.seq (.BI (qd 0 [qn [qm 3 0,.chk 4 (.tmp 3)],
 wn 5 [wO 1,wL,wm 0],
 qn [.chk 8 (.tmp 7)],
 wn 9 [wO 0,wL,wZ,wB .geq 6]] .nil) [0,12]) (.cond 12 [0] [0] (sq [qm 13 0,.chk 14 (.tmp 13),qo 15 2 14,.st 1 (.tmp 15) (.k (.bool true))] [0] (sq [qK 2 0] [0,2] .ret)) .skip)) (sr [wn 16 [wm 0,wm 0],
 qn [.chk 18 (.tmp 17)],
 wn 19 [wO 1,wL,wI .add 1],
 qn [.chk 22 (.tmp 16),qo 23 1 22,qw 1 23 21]] [0] (.seq (.BI (qd 0 [qn [qm 24 0,.chk 25 (.tmp 24)],
 wn 26 [wO 0,wL,wm 0],
 qn [.chk 29 (.tmp 28)],
 wn 30 [wO 1,wL,wI .sub 1,wE .i 27,wL],
 qn [qa 2 34]] .nil) [0,2]) .ret)))⟩
noncomputable def R5(p0:BD):Option (Int×BD):=
 br (decide (p0.at_>=(↑p0.LL.length:Int)))
  (some (0,BD.mk p0.LL p0.at_ true))
  (bd (at? p0.LL (w64 (w64 (p0.at_+1)-1))) fun x1=>
  some ((x1,BD.mk p0.LL (w64 (p0.at_+1)) p0.cH)))
noncomputable def Bl:GF:=AAe.gf rfl rfl (fun a=>R5 a.1) (fun a=>by kernel_rfl)
noncomputable def AAf:YF:=⟨[],[.b (.st 16),.v .i],[],.ret [.i],[.tmp 4],
 sq [qK 4 0] [0,1] (sr [wn 6 [wm 0,wY Bl rfl],
 qn [qa 5 7]] (Kp 35) (.seq (sw 8 [wm 5,wm 1,wc Ak rfl [8,qj 0,9],wX] (Kp 2081) (.cond 11 [0] [0,5] (sq [qm 12 0,.chk 13 (.tmp 12),qo 14 2 13,.st 1 (.tmp 14) (.k (.bool true))] [0] (sq [qK 4 0] [0,4] .ret)) .skip)) (sq [qm 15 5,qa 4 15] [0,4] .ret)))⟩
noncomputable def R6(p0:BD)(p1:Int):Option (Int×BD):=
 bd (R5 p0) fun x1=>
 bd (CU x1.fst 0 p1) fun x2=>
 br (!x2)
  (some (0,BD.mk x1.snd.LL x1.snd.at_ true))
  (some (x1.fst,x1.snd))
noncomputable def CZ:GF:=AAf.gf rfl rfl (fun a=>R6 a.1 a.2.1) (fun a=>by kernel_rfl)
noncomputable def AAg:YF:=⟨[],[.b (.st 16),.v .i],[],.ret [(.l .i)],[.tmp 4],
 sq [.as 4 (.k .nil),.Az [(.tmp 4 0,.i)]] [0,1] (sq [.Ah 7 0 .i [],qa 5 7] (Kp 35) (.join [cv 5 (.l .i),(true,0,.one,[.val (.st 16) (some (.old 0))])] (sq [qK 6 0] (Kp 99) (bl 0 [cv 5 (.l .i),cv 6 .i,(true,0,.one,[.val (.st 16) (some (.old 0))])] (.seq (sw 8 [wm 6,wm 1,wB .lss 8] (Kp 1123) (ce 10 (Kp 99) [0,5] 0)) (.seq (.block 1 (qr [wn 13 [wm 5,wm 0,wY Bl rfl,wh (.Ah · 1 .i [(0,(.tmp 15))]),wh (.app · .i true (.tmp 13) (.tmp 16))],
 qn [qa 5 17]] (Kp 99))) (qr [wn 11 [wm 6,wI .add 1],
 qn [qa 6 12]] (Kp 99)))))) (sq [qm 18 5,qa 4 18] [0,4] .ret)))⟩
noncomputable def fR(x_:((List Int)×BD)):Option ((List Int)×BD):=
 match x_ with
 |(v6,v7)=>some (v6,v7)
noncomputable def Up(p1:Int)(L1:((List Int)×Int×BD)->Option ((List Int)×BD))(x_:((List Int)×Int×BD)):Option ((List Int)×BD):=
 match x_ with
 |(v2,v3,v4)=>br (decide (v3<p1))
  (bd (R5 v4) fun x5=>
  gd (List.length v2+[x5.fst].length<=lim) (
  L1 ((v2++[x5.fst],w64 (v3+1),x5.snd))))
  (jn (fR) (v2,v4))
noncomputable def R7(p0:BD)(p1:Int):Option ((List Int)×BD):=
 AR (Up p1) big ([],0,p0)
noncomputable def Ca:GF:=AAg.gf rfl rfl (fun a=>R7 a.1 a.2.1) (fun a=>by kernel_rfl)
noncomputable def AAh:YF:=⟨[],[.v (.l .i)],[],.ret [(.st 1),.b],[.cell 2 (some 9),.tmp 3],
 sq [.alloc 2 Cr,.Az [(.cell 2 0,.i)],qB 3 false] [0,2] (.seq (sw 5 [wm 0,wZ,wI .lss 9] (Kp 133) (.cond 7 [2] [0,2] (sq [.build 8 Cr [],.Az [(.tmp 8 0,.i)],qw 9 2 8,qB 3 false] [2,3] .ret) .skip)) (.seq (.BI (qd 0 [wn 9 [wm 0,wh (.ia · .i (.tmp 9) (.k (.int .i64 0))),wL,wm 0,wh (.ia · .i (.tmp 12) (.k (.int .i64 1))),wL,wm 0,wh (.ia · .i (.tmp 15) (.k (.int .i64 2))),wL,wm 0,wh (.ia · .i (.tmp 18) (.k (.int .i64 3))),wL,wm 0,wh (.ia · .i (.tmp 21) (.k (.int .i64 4))),wL,wm 0,wh (.ia · .i (.tmp 24) (.k (.int .i64 5))),wL,wm 0,wh (.ia · .i (.tmp 27) (.k (.int .i64 6))),wL,wm 0,wh (.ia · .i (.tmp 30) (.k (.int .i64 7))),wL]] (qd 25 [wn 34 [wm 0,wh (.sub · .i (.tmp 34) (some (.k (.int .i64 8))) none)]] (.both 0 (.op 24 none [10,13,16,19,22,25,28,31] (.Ah 33 0 .i [])
 (.both 0 (.op 27 none [10,13,16,19,22,25,28,31] (.app 36 .i true (.tmp 33) (.tmp 35))
 (.op 28 none [] (.build 37 Cr [(1,1,(.tmp 11)),(2,1,(.tmp 14)),(3,1,(.tmp 17)),(4,1,(.tmp 20)),(5,1,(.tmp 23)),(6,1,(.tmp 26)),(7,1,(.tmp 29)),(8,1,(.tmp 32)),(0,1,(.tmp 36))])
 (.op 29 none [10,13,16,19,22,25,28,31] (.alloc 4 Cr)
 (.nl [(.cell 4 0,.i)] (.op 30 none [] (.st 9 (.tmp 4) (.tmp 37))
 (.dr [9,10,11,12,13,14,15,16,17,18,19,20,21,22,23,24,25,26,27,28,29,30,31,32,33,34,35,36,37] .nil)))))) (.op 29 none [10,13,16,19,22,25,28,31] (.alloc 4 Cr)
 (.nl [(.cell 4 0,.i)] (.op 27 none [10,13,16,19,22,25,28,31] (.app 36 .i true (.tmp 33) (.tmp 35))
 (.op 28 none [] (.build 37 Cr [(1,1,(.tmp 11)),(2,1,(.tmp 14)),(3,1,(.tmp 17)),(4,1,(.tmp 20)),(5,1,(.tmp 23)),(6,1,(.tmp 26)),(7,1,(.tmp 29)),(8,1,(.tmp 32)),(0,1,(.tmp 36))])
 (.op 30 none [] (.st 9 (.tmp 4) (.tmp 37))
 (.dr [9,10,11,12,13,14,15,16,17,18,19,20,21,22,23,24,25,26,27,28,29,30,31,32,33,34,35,36,37] .nil)))))))) (.op 29 none [10,13,16,19,22,25,28,31] (.alloc 4 Cr)
 (.nl [(.cell 4 0,.i)] (.op 24 none [10,13,16,19,22,25,28,31] (.Ah 33 0 .i [])
 (.op 27 none [10,13,16,19,22,25,28,31] (.app 36 .i true (.tmp 33) (.tmp 35))
 (.op 28 none [] (.build 37 Cr [(1,1,(.tmp 11)),(2,1,(.tmp 14)),(3,1,(.tmp 17)),(4,1,(.tmp 20)),(5,1,(.tmp 23)),(6,1,(.tmp 26)),(7,1,(.tmp 29)),(8,1,(.tmp 32)),(0,1,(.tmp 36))])
 (.op 30 none [] (.st 9 (.tmp 4) (.tmp 37))
 (.dr [9,10,11,12,13,14,15,16,17,18,19,20,21,22,23,24,25,26,27,28,29,30,31,32,33,34,35,36,37] .nil)))))))))) [2,4]) (.seq (sw 38 [wk 9 4,wY Ds rfl,wX] [2,4,40] (.cond 40 [2] [2,4] (sq [.build 41 Cr [],.Az [(.tmp 41 0,.i)],qw 9 2 41,qB 3 false] [2,3] .ret) .skip)) (sq [qL 42 9 4,qw 9 2 42,qB 3 true] [2,3] .ret))))⟩
noncomputable def mc(p0:(List Int)):Option (AQ×Bool):=
 br (decide ((↑p0.length:Int)<9))
  (some (AQ.mk [] 0 0 0 0 0 0 0 0,false))
  (bd (at? p0 0) fun x1=>
  bd (at? p0 1) fun x2=>
  bd (at? p0 2) fun x3=>
  bd (at? p0 3) fun x4=>
  bd (at? p0 4) fun x5=>
  bd (at? p0 5) fun x6=>
  bd (at? p0 6) fun x7=>
  bd (at? p0 7) fun x8=>
  gd ((0:Int)<=8/\8<=(↑p0.length:Int)) (
  gd (0+(List.drop (Int.toNat 8) p0).length<=lim) (
  gd (0+(List.drop (Int.toNat 8) p0).length<=lim) (
  ev8 ([]++List.drop (Int.toNat 8) p0) x1 x2 x3 x4 x5 x6 x7 (
  eqv x8 x8 (
  gd (0+(List.drop (Int.toNat 8) p0).length<=lim) (
  ev8 ([]++List.drop (Int.toNat 8) p0) x1 x2 x3 x4 x5 x6 x7 (
  eqv x8 x8 (
  bd (jB (AQ.mk ([]++List.drop (Int.toNat 8) p0) x1 x2 x3 x4 x5 x6 x7 x8)) fun x9=>
  br (!x9)
   (some (AQ.mk [] 0 0 0 0 0 0 0 0,false))
   (some ((AQ.mk ([]++List.drop (Int.toNat 8) p0) x1 x2 x3 x4 x5 x6 x7 x8,true))))))))))))
noncomputable def J1:GF:=AAh.gf rfl rfl (fun a=>mc a.1) (fun a=>by kernel_rfl)
noncomputable def AAi:YF:=⟨[],[.b (.st 16)],[],.ret [(.st 2)],[.cell 2 (some 10)],
 sq [.alloc 2 Cz] [0,2] (sr [wn 4 [wm 0,wc Ca rfl [4,qj 10]],
 qn [qa 3 5]] (Kp 13) (.seq (.BI (qd 0 [wn 6 [wm 3,wh (.ia · .i (.tmp 6) (.k (.int .i64 0))),wL,wm 3,wh (.ia · .i (.tmp 9) (.k (.int .i64 1))),wL,wm 3,wh (.ia · .i (.tmp 12) (.k (.int .i64 2))),wL]] (qd 11 [wn 17 [wm 3,wh (.ia · .i (.tmp 17) (.k (.int .i64 3))),wL,wm 3,wh (.ia · .i (.tmp 20) (.k (.int .i64 4))),wL,wm 3,wh (.ia · .i (.tmp 23) (.k (.int .i64 5))),wL,wm 3,wh (.ia · .i (.tmp 26) (.k (.int .i64 6))),wL,wm 3,wh (.ia · .i (.tmp 29) (.k (.int .i64 7))),wL,wm 3,wh (.ia · .i (.tmp 32) (.k (.int .i64 8))),wL,wm 3,wh (.ia · .i (.tmp 35) (.k (.int .i64 9))),wL]] (.op 9 none [7,10,18,21,24,27,30,33,36] (.call 15 E9 [] rfl [(.tmp 14),(.k (.int .i64 0))])
 (.op 10 none [] (.bin 16 .num .sub (.tmp 15) (.k (.int .i64 1)))
 (qd 32 [qn [.build 38 Cz [(0,1,(.tmp 8)),(1,1,(.tmp 11)),(2,1,(.tmp 16)),(3,1,(.tmp 19)),(4,1,(.tmp 22)),(5,1,(.tmp 25)),(6,1,(.tmp 28)),(7,1,(.tmp 31)),(8,1,(.tmp 34)),(9,1,(.tmp 37))],qw 10 2 38]] .nil))))) [0,2]) .ret))⟩
noncomputable def me(p0:BD):Option (AG×BD):=
 bd (R7 p0 10) fun x1=>
 bd (at? x1.fst 0) fun x2=>
 bd (at? x1.fst 0) fun x3=>
 bd (at? x1.fst 1) fun x4=>
 bd (at? x1.fst 1) fun x5=>
 bd (at? x1.fst 2) fun x6=>
 bd (at? x1.fst 2) fun x7=>
 bd (at? x1.fst 3) fun x8=>
 bd (at? x1.fst 3) fun x9=>
 bd (at? x1.fst 4) fun x10=>
 bd (at? x1.fst 4) fun x11=>
 bd (at? x1.fst 5) fun x12=>
 bd (at? x1.fst 5) fun x13=>
 bd (at? x1.fst 6) fun x14=>
 bd (at? x1.fst 6) fun x15=>
 bd (at? x1.fst 7) fun x16=>
 bd (at? x1.fst 7) fun x17=>
 bd (at? x1.fst 8) fun x18=>
 bd (at? x1.fst 8) fun x19=>
 bd (at? x1.fst 9) fun x20=>
 bd (at? x1.fst 9) fun x21=>
 bd (oP x7 0) fun x22=>
 some ((AG.mk x3 x5 (w64 (x22-1)) x9 x11 x13 x15 x17 x19 x21,x1.snd))
noncomputable def J2:GF:=AAi.gf rfl rfl (fun a=>me a.1) (fun a=>by kernel_rfl)
noncomputable def AAj:YF:=⟨[],[.v (.l (.st 5))],[],.ret [(.st 6),.b],[.cell 2 (some 1),.tmp 3],
 sq [.alloc 2 [.nil],.Az [(.cell 2 0,(.l (.st 5)))],qB 3 false] [0,2] (sq [qc 8 Ju rfl [],.alloc 4 [.nil],.Az [(.cell 4 0,(.l (.st 5)))],qw 1 4 8] (Kp 21) (.join [cx 4 (.st 6)] (sq [qK 5 0] (Kp 53) (bl 0 [cv 5 .i,cx 4 (.st 6)] (.seq (sw 9 [wm 5,wm 0,wZ,wB .lss 9] (Kp 4149) (ce 12 (Kp 53) [2,4] 0)) (.seq (.block 1 (.seq (.BI (qd 0 [wn 16 [wk 1 4,wm 0,wm 5,wE (.st 5) 17,wK 2]] (.both 0 (qd 5 [qn [qc 21 E7 rfl [16,20],qm 15 21],
 wn 22 [wh (.ext · (.tmp 15) 0),wh (.ext · (.tmp 15) 1)]] (.op 9 none [4,19] (.alloc 6 [.nil])
 (.nl [(.cell 6 0,(.l (.st 5)))] (qd 10 [qn [qw 1 6 22,qa 7 23]] (.dr [15,16,17,18,19,20,21,22,23] .nil))))) (.op 9 none [4,19] (.alloc 6 [.nil])
 (.nl [(.cell 6 0,(.l (.st 5)))] (qd 5 [qn [qc 21 E7 rfl [16,20],qm 15 21],
 wn 22 [wh (.ext · (.tmp 15) 0),wh (.ext · (.tmp 15) 1)]] (qd 10 [qn [qw 1 6 22,qa 7 23]] (.dr [15,16,17,18,19,20,21,22,23] .nil))))))) [0,2,4,5,6,7]) (.seq (sw 24 [wm 7,wX] (Kp 33554549) (.cond 25 [2] (Kp 117) (sq [.build 26 [.nil] [],.Az [(.tmp 26 0,(.l (.st 5)))],qw 1 2 26,qB 3 false] [2,3] .ret) .skip)) (q1 [qL 27 1 6,qw 1 4 27] (Kp 53))))) (qr [wn 13 [wm 5,wI .add 1],
 qn [qa 5 14]] (Kp 53)))))) (sq [qL 28 1 4,qw 1 2 28,qB 3 true] [2,3] .ret)))⟩
noncomputable def fS(v8:AP):Option (AP×Bool):=
 some (v8,true)
noncomputable def Uq(p0:(List AK))(L2:(Int×AP)->Option (AP×Bool))(x_:(Int×AP)):Option (AP×Bool):=
 match x_ with
 |(v3,v4)=>br (decide (v3<(↑p0.length:Int)))
  (bd (at? p0 v3) fun x5=>
  bd (eB v4 x5) fun x6=>
  bd (eB v4 x5) fun x7=>
  eqv x6.snd x7.snd (
  eqv x6.fst.AJ x7.fst.AJ (
  br (!x6.snd)
   (some (AP.mk [],false))
   (L2 ((w64 (v3+1),x6.fst))))))
  (jn (fS) v4)
noncomputable def mf(p0:(List AK)):Option (AP×Bool):=
 bd (mT) fun x1=>
 AR (Uq p0) big (0,x1)
noncomputable def J3:GF:=AAj.gf rfl rfl (fun a=>mf a.1) (fun a=>by kernel_rfl)
noncomputable def AAk:YF:=⟨[],[.v (.l .i),.v (.l .i)],[],.ret [.b],[.tmp 4],
 sq [qB 4 false] [0,1] (.seq (sw 6 [wm 0,wZ,wm 1,wZ,wB .neq 7] (Kp 1027) (cn 10 [0,1] (sq [qB 4 false] [4] .ret))) (.join [] (sq [qK 5 0] (Kp 35) (bl 0 [cv 5 .i] (.seq (sw 11 [wm 5,wm 0,wZ,wB .lss 11] (Kp 16419) (ce 14 (Kp 35) [] 0)) (.seq (.block 1 (.seq (.BI (qd 0 [wn 17 [wm 0,wm 5,wE .i 17,wL,wm 1,wm 5,wE .i 21,wL,wB .neq 20]] .nil) [0,1,5,25]) (cn 25 (Kp 35) (sq [qB 4 false] [4] .ret)))) (qr [wn 15 [wm 5,wI .add 1],
 qn [qa 5 16]] (Kp 35)))))) (sq [qB 4 true] [4] .ret)))⟩
noncomputable def fT(_:PUnit):Option Bool:=
 some true
noncomputable def Ur(p0:(List Int))(p1:(List Int))(L1:Int->Option Bool)(v2:Int):Option Bool:=
 br (decide (v2<(↑p0.length:Int)))
  (bd (at? p0 v2) fun x3=>
  bd (at? p1 v2) fun x4=>
  br (x3 != x4)
   (some false)
   (L1 (w64 (v2+1))))
  (jn (fT) ())
noncomputable def mg(p0:(List Int))(p1:(List Int)):Option Bool:=
 br ((↑p0.length:Int) != (↑p1.length:Int))
  (some false)
  (AR (Ur p0 p1) big 0)
noncomputable def J4:GF:=AAk.gf rfl rfl (fun a=>mg a.1 a.2.1) (fun a=>by kernel_rfl)
noncomputable def AAl:YF:=⟨[],[.v (.l .i)],[],.ret [(.st 8),.b],[.cell 2 (some 15),.tmp 3],
 sq [.alloc 2 A0,.Az [(.cell 2 0,.i),(.cell 2 11,(.st 2)),(.cell 2 12,(.st 7)),(.cell 2 13,.i),(.cell 2 14,.i)],qB 3 false] [0,2,7,36] (sr [wn 19 [wm 0,wh (.build · vY [(0,1,(.tmp 19))])],
 qn [qu 21 20,qa 4 21]] [0,2,4,7,36] (sr [wn 23 [wm 4,wm 4,wc CZ rfl [24,qj 12],wc Ca rfl [23,25],wY J1 rfl],
 qn [qm 22 27],
 wn 28 [wh (.ext · (.tmp 22) 0),wh (.ext · (.tmp 22) 1)],
 qn [.alloc 5 Cr,.Az [(.cell 5 0,.i)],qw 9 5 28,qa 6 29]] (Kp 68719476981) (.seq (sw 30 [wm 6,wX] (Kp 70866960565) (.cond 31 [2,5,7,36] (Kp 53) (sq [.build 32 A0 [],.Az [(.tmp 32 0,.i),(.tmp 32 11,(.st 2)),(.tmp 32 12,(.st 7)),(.tmp 32 13,.i),(.tmp 32 14,.i)],qw 15 2 32,qB 3 false] [2,3,5,7,36] .ret) .skip)) (.seq (.BI (qd 0 [wn 33 [wk 9 5,wm 4]] (.both 0 (.op 2 none [5] (.call 35 Bl [] rfl [(.tmp 34)])
 (.op 3 none [] (.build 36 A0 [(0,9,(.tmp 33)),(9,1,(.tmp 35))])
 (.op 4 none [5] (.alloc 7 A0)
 (.nl [(.cell 7 0,.i),(.cell 7 11,(.st 2)),(.cell 7 12,(.st 7)),(.cell 7 13,.i),(.cell 7 14,.i)] (.op 5 none [] (.st 1048591 (.tmp 7) (.tmp 36))
 (.nl [(.cell 7 11,(.st 2)),(.cell 7 12,(.st 7)),(.cell 7 13,.i),(.cell 7 14,.i)] (.dr [33,34,35] .nil))))))) (.op 4 none [5] (.alloc 7 A0)
 (.nl [(.cell 7 0,.i),(.cell 7 11,(.st 2)),(.cell 7 12,(.st 7)),(.cell 7 13,.i),(.cell 7 14,.i)] (.op 2 none [5] (.call 35 Bl [] rfl [(.tmp 34)])
 (.op 3 none [] (.build 36 A0 [(0,9,(.tmp 33)),(9,1,(.tmp 35))])
 (.op 5 none [] (.st 1048591 (.tmp 7) (.tmp 36))
 (.nl [(.cell 7 11,(.st 2)),(.cell 7 12,(.st 7)),(.cell 7 13,.i),(.cell 7 14,.i)] (.dr [33,34,35] .nil))))))))) [0,2,4,5,7,36]) (sr [wn 37 [wm 4,wY Bl rfl,wo 10 7],
 qn [qw 1 39 38]] (Kp 68719476917) (sr [wn 40 [wm 4,wc CZ rfl [40,qj 40]],
 qn [qa 8 41]] (Kp 68719477173) (.join [(true,7,.one,[.al (.cell 5 0),.val .i none,.val .i none,.val .i none,.val .i none,.val .i none,.val .i none,.val .i none,.val .i none,.val .i none,.val .i none,.val (.l (.st 2)) none,.val (.l (.st 7)) none,.val (.l .i) none,.val (.l .i) none]),(true,21,.one,[.val (.st 16) (some (.old 0))])] (sq [qK 9 0] (Kp 68719477685) (bl 0 [cv 9 .i,(true,7,.one,[.al (.cell 5 0),.val .i none,.val .i none,.val .i none,.val .i none,.val .i none,.val .i none,.val .i none,.val .i none,.val .i none,.val .i none,.val (.l (.st 2)) none,.val (.l (.st 7)) none,.val (.l .i) none,.val (.l .i) none]),(true,21,.one,[.val (.st 16) (some (.old 0))])] (.seq (sw 42 [wm 9,wm 8,wB .lss 42] (Kp 17660905522101) (ce 44 [0,2,4,5,7,8,9,36] (Kp 68719476917) 0)) (.seq (.block 1 (sr [wn 47 [wm 4,wY J2 rfl],
 qn [.alloc 10 Cz,qw 10 10 48]] (Kp 68719478709) (.seq (sw 49 [wk 9 5,wk 10 10,wo 9 7,wL,wc E8 rfl [49,50,52],wX] (Kp 18014467228960693) (.cond 54 [2,5,7,36] (Kp 68719478709) (sq [.build 55 A0 [],.Az [(.tmp 55 0,.i),(.tmp 55 11,(.st 2)),(.tmp 55 12,(.st 7)),(.tmp 55 13,.i),(.tmp 55 14,.i)],qw 15 2 55,qB 3 false] [2,3,5,7,36] .ret) .skip)) (qr [wn 56 [wo 11 7,wL,wk 10 10,wh (.Ah · 1 (.st 2) [(0,(.tmp 58))]),wh (.app · (.st 2) true (.tmp 57) (.tmp 59)),wo 11 7],
 qn [qw 1 61 60]] (Kp 68719477685))))) (qr [wn 45 [wm 9,wI .add 1],
 qn [qa 9 46]] (Kp 68719477685)))))) (.join [(true,7,.one,[.al (.cell 5 0),.val .i none,.val .i none,.val .i none,.val .i none,.val .i none,.val .i none,.val .i none,.val .i none,.val .i none,.val .i none,.val (.l (.st 2)) none,.val (.l (.st 7)) none,.val (.l .i) none,.val (.l .i) none]),(true,21,.one,[.val (.st 16) (some (.old 0))])] (sq [qK 11 0] (Kp 68719478965) (bl 2 [cv 11 .i,(true,7,.one,[.al (.cell 5 0),.val .i none,.val .i none,.val .i none,.val .i none,.val .i none,.val .i none,.val .i none,.val .i none,.val .i none,.val .i none,.val (.l (.st 2)) none,.val (.l (.st 7)) none,.val (.l .i) none,.val (.l .i) none]),(true,21,.one,[.val (.st 16) (some (.old 0))])] (.seq (sw 62 [wm 11,wo 0 5,wL,wZ,wB .lss 62] (Kp 73786976363557685429) (ce 66 [0,2,4,5,7,11,36] (Kp 68719476917) 2)) (.seq (.block 3 (sr [wn 69 [wm 4,wo 0 5,wL,wm 11,wE .i 71,wL,wc CZ rfl [69,74]],
 qn [qa 12 75]] (Kp 68719483061) (sr [wn 77 [wo 11 7,wL,wm 11,wc Ho rfl [78,79],wY J3 rfl],
 qn [qm 76 81],
 wn 82 [wh (.ext · (.tmp 76) 0),wh (.ext · (.tmp 76) 1)],
 qn [.alloc 13 [.nil],.Az [(.cell 13 0,(.l (.st 5)))],qw 1 13 82,qa 14 83]] (Kp 68719491253) (sr [wn 84 [wo 11 7,wL,wm 11,wc Hp rfl [85,86]],
 qn [qa 15 87]] (Kp 68719524021) (.seq (.BI (qd 0 [wn 88 [wo 0 5,wL,wm 11,wE .i 89,wL,wm 12,wm 15,wo 0 5,wL,wm 11,wE .i 96,wL,wm 12,wB .sub 99,wm 15,wB .sub 101,wo 11 7,wL,wm 11]] (.both 0 (.op 19 none [88,91,95,98] (.call 107 Ew [] rfl [(.tmp 105),(.tmp 106)])
 (.op 20 none [] (.build 108 Dl [(0,1,(.tmp 92)),(1,1,(.tmp 93)),(2,1,(.tmp 94)),(3,1,(.tmp 103)),(4,1,(.tmp 107))])
 (.op 21 none [88,91,95,98,104] (.alloc 16 Dl)
 (.op 22 none [] (.st 5 (.tmp 16) (.tmp 108))
 (.dr [88,89,90,91,92,93,94,95,96,97,98,99,100,101,102,103,104,105,106,107,108] .nil))))) (.op 21 none [88,91,95,98,104] (.alloc 16 Dl)
 (.op 19 none [88,91,95,98] (.call 107 Ew [] rfl [(.tmp 105),(.tmp 106)])
 (.op 20 none [] (.build 108 Dl [(0,1,(.tmp 92)),(1,1,(.tmp 93)),(2,1,(.tmp 94)),(3,1,(.tmp 103)),(4,1,(.tmp 107))])
 (.op 22 none [] (.st 5 (.tmp 16) (.tmp 108))
 (.dr [88,89,90,91,92,93,94,95,96,97,98,99,100,101,102,103,104,105,106,107,108] .nil))))))) [0,2,4,5,7,11,13,16,36]) (.BI (qd 0 [wn 109 [wo 12 7,wL,wk 5 16,wk 9 5,wo 11 7,wL,wm 11,wo 9 7,wL]] (.op 10 none [] (.ld 119 (some 1) (.tmp 13))
 (.op 9 none [13,16,109] (.call 118 Hv [] rfl [(.tmp 112),(.tmp 114),(.tmp 115),(.tmp 117)])
 (.op 11 none [] (.build 120 KR [(0,5,(.tmp 111)),(5,1,(.tmp 118)),(6,1,(.tmp 119))])
 (.op 12 none [109] (.Ah 121 1 (.st 7) [(0,(.tmp 120))])
 (qd 13 [wn 122 [wh (.app · (.st 7) false (.tmp 110) (.tmp 121)),wo 12 7],
 qn [qw 1 123 122]] .nil)))))) [0,2,4,5,7,11,36])))))) (qr [wn 67 [wm 11,wI .add 1],
 qn [qa 11 68]] (Kp 68719478965)))))) (sr [wn 124 [wm 4,wm 4,wo 0 5,wL,wZ,wc CZ rfl [125,128],wc Ca rfl [124,129],wo 13 7],
 qn [qw 1 131 130]] (Kp 68719476917) (sr [wn 132 [wm 4,wo 8 5,wL,wc Ca rfl [132,134]],
 qn [qa 17 135]] (Kp 68719607989) (.join [(true,7,.one,[.al (.cell 5 0),.val .i none,.val .i none,.val .i none,.val .i none,.val .i none,.val .i none,.val .i none,.val .i none,.val .i none,.val .i none,.val (.l (.st 2)) none,.val (.l (.st 7)) none,.val (.l .i) none,.val (.l .i) none])] (sq [qK 18 0] (Kp 68719870133) (bl 4 [cv 18 .i,(true,7,.one,[.al (.cell 5 0),.val .i none,.val .i none,.val .i none,.val .i none,.val .i none,.val .i none,.val .i none,.val .i none,.val .i none,.val .i none,.val (.l (.st 2)) none,.val (.l (.st 7)) none,.val (.l .i) none,.val (.l .i) none])] (.seq (sw 136 [wm 18,wm 17,wZ,wB .lss 136] [0,2,4,5,7,17,18,36,139] (ce 139 [0,2,4,5,7,17,18,36] (Kp 68719476917) 4)) (.seq (.block 5 (.BI (qd 0 [wn 142 [wo 14 7,wL,wm 17,wm 18,wE .i 144,wL]] (.op 6 none [142] (.call 148 E9 [] rfl [(.tmp 147),(.k (.int .i64 (-5)))])
 (.op 7 none [] (.bin 149 .num .sub (.tmp 148) (.k (.int .i64 1)))
 (.op 8 none [142] (.Ah 150 1 .i [(0,(.tmp 149))])
 (qd 9 [wn 151 [wh (.app · .i true (.tmp 143) (.tmp 150)),wo 14 7],
 qn [qw 1 152 151]] .nil))))) [0,2,4,5,7,17,18,36])) (qr [wn 140 [wm 18,wI .add 1],
 qn [qa 18 141]] (Kp 68719870133)))))) (.seq (.join [cv 168 .b] (qr [qn [qm 153 4,.chk 154 (.tmp 153)],
 wn 155 [wO 2,wL,wM],
 wf 157 158 [wk 15 7,wY FU rfl,wX],
 wn 161 [wR 157,wM],
 wf 162 163 [wk 15 7,wY Fe rfl,wm 0,wc J4 rfl [164,165],wX],
 qn [qp 168 162 167]] [2,5,7,36,168]) (.cond 168 [2,5,7,36] [2,5,7,36] (sq [.build 169 A0 [],.Az [(.tmp 169 0,.i),(.tmp 169 11,(.st 2)),(.tmp 169 12,(.st 7)),(.tmp 169 13,.i),(.tmp 169 14,.i)],qw 15 2 169,qB 3 false] [2,3,5,7,36] .ret) .skip)) (sq [qL 170 15 7,qw 1048591 2 170,qB 3 true] [2,3,5,7,36] .ret)))))))))))))⟩
noncomputable def Pl(x3:(AQ×Bool))(v115:Int)(v116:Int)(v117:Int)(v118:Int)(v119:Int)(v120:Int)(v121:Int)(v122:Int)(v123:Int)(v124:Int)(v125:(List AG))(v126:(List AU))(v127:(List Int))(v128:(List Int))(v129:Bool):Option (AH×Bool):=
 br v129
  (some ((AH.mk (AQ.mk [] 0 0 0 0 0 0 0 0) 0 0 [] [] [] [],false)))
  (some ((AH.mk (AQ.mk x3.fst.AN v115 v116 v117 v118 v119 v120 v121 v122) v123 v124 v125 v126 v127 v128,true)))
noncomputable def K4(p0:(List Int))(x3:(AQ×Bool))(x93:((List Int)×BD))(x_:(PUnit×Int×Int×Int×Int×Int×Int×Int×Int×Int×Int×(List AG)×(List AU)×(List Int)×(List Int))):Option (AH×Bool):=
 match x_ with
 |(v114,v115,v116,v117,v118,v119,v120,v121,v122,v123,v124,v125,v126,v127,v128)=>br x93.snd.cH
  (jn (Pl x3 v115 v116 v117 v118 v119 v120 v121 v122 v123 v124 v125 v126 v127 v128) true)
  (bd (oN (AH.mk (AQ.mk x3.fst.AN v115 v116 v117 v118 v119 v120 v121 v122) v123 v124 v125 v126 v127 v128)) fun x130=>
  br (!x130)
   (jn (Pl x3 v115 v116 v117 v118 v119 v120 v121 v122 v123 v124 v125 v126 v127 v128) true)
   (bd (dE (AH.mk (AQ.mk x3.fst.AN v115 v116 v117 v118 v119 v120 v121 v122) v123 v124 v125 v126 v127 v128)) fun x131=>
   bd (mg x131 p0) fun x132=>
   jn (Pl x3 v115 v116 v117 v118 v119 v120 v121 v122 v123 v124 v125 v126 v127 v128) (!x132)))
noncomputable def Uw(p0:(List Int))(x3:(AQ×Bool))(x93:((List Int)×BD))(L94:(Int×PUnit×Int×Int×Int×Int×Int×Int×Int×Int×Int×Int×(List AG)×(List AU)×(List Int)×(List Int))->Option (AH×Bool))(x_:(Int×PUnit×Int×Int×Int×Int×Int×Int×Int×Int×Int×Int×(List AG)×(List AU)×(List Int)×(List Int))):Option (AH×Bool):=
 match x_ with
 |(v95,v96,v97,v98,v99,v100,v101,v102,v103,v104,v105,v106,v107,v108,v109,v110)=>br (decide (v95<(↑(List.length x93.fst):Int)))
  (bd (at? x93.fst v95) fun x111=>
  bd (at? x93.fst v95) fun x112=>
  bd (oP x112 (-5)) fun x113=>
  gd (v110.length+[w64 (x113-1)].length<=lim) (
  L94 ((w64 (v95+1),(),v97,v98,v99,v100,v101,v102,v103,v104,v105,v106,v107,v108,v109,v110++[w64 (x113-1)]))))
  (jn (K4 p0 x3 x93) (((),v97,v98,v99,v100,v101,v102,v103,v104,v105,v106,v107,v108,v109,v110)))
noncomputable def Uu(p0:(List Int))(x3:(AQ×Bool))(x_:(PUnit×Int×Int×Int×Int×Int×Int×Int×Int×Int×Int×(List AG)×(List AU)×(List Int)×(List Int)×BD)):Option (AH×Bool):=
 match x_ with
 |(v75,v76,v77,v78,v79,v80,v81,v82,v83,v84,v85,v86,v87,v88,v89,v90)=>bd (R6 v90 (↑x3.fst.AN.length:Int)) fun x91=>
 bd (R7 x91.snd x91.fst) fun x92=>
 bd (R7 x92.snd x3.fst.BL) fun x93=>
 AR (Uw p0 x3 x93) big ((0,(),v76,v77,v78,v79,v80,v81,v82,v83,v84,v85,v86,v87,x92.fst,v89))
noncomputable def fU(p0:(List Int))(x3:(AQ×Bool))(L44:(Int×PUnit×Int×Int×Int×Int×Int×Int×Int×Int×Int×Int×(List AG)×(List AU)×(List Int)×(List Int)×BD)->Option (AH×Bool))(x_:(Int×PUnit×Int×Int×Int×Int×Int×Int×Int×Int×Int×Int×(List AG)×(List AU)×(List Int)×(List Int)×BD)):Option (AH×Bool):=
 match x_ with
 |(v45,v46,v47,v48,v49,v50,v51,v52,v53,v54,v55,v56,v57,v58,v59,v60,v61)=>br (decide (v45<(↑x3.fst.AN.length:Int)))
  (bd (at? x3.fst.AN v45) fun x62=>
  bd (at? x3.fst.AN v45) fun x63=>
  bd (R6 v61 x63) fun x64=>
  bd (qI v57 v45) fun x65=>
  bd (mf x65) fun x66=>
  bd (qJ v57 v45) fun x67=>
  bd (at? x3.fst.AN v45) fun x68=>
  bd (at? x3.fst.AN v45) fun x69=>
  bd (at? x3.fst.AN v45) fun x70=>
  bd (at? x3.fst.AN v45) fun x71=>
  bd (oM v57 v45) fun x72=>
  bd (oM v57 v45) fun x73=>
  ev4 x69 x64.fst x67 (w64 (w64 (x71-x64.fst)-x67)) (
  eqv x72 x73 (
  bd (rM x3.fst v57 v45 v55) fun x74=>
  gd (List.length v58+[AU.mk (BX.mk x69 x64.fst x67 (w64 (w64 (x71-x64.fst)-x67)) x72) x74 x66.fst].length<=lim) (
  L44 ((w64 (v45+1),(),v47,v48,v49,v50,v51,v52,v53,v54,v55,v56,v57,v58++[AU.mk (BX.mk x69 x64.fst x67 (w64 (w64 (x71-x64.fst)-x67)) x72) x74 x66.fst],v59,v60,x64.snd))))))
  (jn (Uu p0 x3) (((),v47,v48,v49,v50,v51,v52,v53,v54,v55,v56,v57,v58,v59,v60,v61)))
noncomputable def Ut(p0:(List Int))(x3:(AQ×Bool))(x_:(PUnit×Int×Int×Int×Int×Int×Int×Int×Int×Int×Int×(List AG)×(List AU)×(List Int)×(List Int)×BD)):Option (AH×Bool):=
 match x_ with
 |(v28,v29,v30,v31,v32,v33,v34,v35,v36,v37,v38,v39,v40,v41,v42,v43)=>AR (fU p0 x3) big ((0,(),v29,v30,v31,v32,v33,v34,v35,v36,v37,v38,v39,v40,v41,v42,v43))
noncomputable def Uv(p0:(List Int))(x3:(AQ×Bool))(x7:(Int×BD))(L8:(Int×PUnit×Int×Int×Int×Int×Int×Int×Int×Int×Int×Int×(List AG)×(List AU)×(List Int)×(List Int)×BD)->Option (AH×Bool))(x_:(Int×PUnit×Int×Int×Int×Int×Int×Int×Int×Int×Int×Int×(List AG)×(List AU)×(List Int)×(List Int)×BD)):Option (AH×Bool):=
 match x_ with
 |(v9,v10,v11,v12,v13,v14,v15,v16,v17,v18,v19,v20,v21,v22,v23,v24,v25)=>br (decide (v9<x7.fst))
  (bd (me v25) fun x26=>
  bd (oO x3.fst x26.fst v19) fun x27=>
  br (!x27)
   (some ((AH.mk (AQ.mk [] 0 0 0 0 0 0 0 0) 0 0 [] [] [] [],false)))
   (gd (List.length v21+[x26.fst].length<=lim) (
   L8 ((w64 (v9+1),(),v11,v12,v13,v14,v15,v16,v17,v18,v19,v20,v21++[x26.fst],v22,v23,v24,x26.snd)))))
  (jn (Ut p0 x3) (((),v11,v12,v13,v14,v15,v16,v17,v18,v19,v20,v21,v22,v23,v24,v25)))
noncomputable def YG(p0:(List Int)):Option (AH×Bool):=
 bd (R6 (BD.mk p0 0 false) 12) fun x1=>
 bd (R7 x1.snd x1.fst) fun x2=>
 bd (mc x2.fst) fun x3=>
 br (!x3.snd)
  (some ((AH.mk (AQ.mk [] 0 0 0 0 0 0 0 0) 0 0 [] [] [] [],false)))
  (bd (R5 x2.snd) fun x4=>
  bd (R5 x2.snd) fun x5=>
  ev8 x3.fst.A2 x3.fst.Room x3.fst.Aq x3.fst.Au x3.fst.As x3.fst.Rest x3.fst.A3 x3.fst.BL (
  eqv x4.fst x5.fst (
  ev8 (0:Int) x3.fst.A2 x3.fst.Room x3.fst.Aq x3.fst.Au x3.fst.As x3.fst.Rest x3.fst.A3 (
  eqv x3.fst.BL x3.fst.BL (
  eqv x4.fst x5.fst (
  ev5 (0:Int) ([]:List AG) ([]:List AU) ([]:List Int) ([]:List Int) (
  bw x4.snd x5.snd (
  bd (R5 x4.snd) fun x6=>
  bd (R6 x6.snd 40) fun x7=>
  AR (Uv p0 x3 x7) big ((0,(),x3.fst.A2,x3.fst.Room,x3.fst.Aq,x3.fst.Au,x3.fst.As,x3.fst.Rest,x3.fst.A3,x3.fst.BL,x4.fst,x6.fst,[],[],[],[],x7.snd))))))))))
noncomputable def ID:GF:=AAl.gf rfl rfl (fun a=>YG a.1) (fun a=>by kernel_rfl)
noncomputable def AAm:YF:=⟨[],[.v (.st 10),.v .i],[],.ret [(.st 9)],[.cell 4 (some 2)],
 sq [qu 2 0,.alloc 4 [.str [],.int .i64 0]] (Kp 22) (.seq (sw 5 [wm 1,wI .rem 2,wI .eql 0] (Kp 148) (.cond 7 [2,4] [2,4] (sr [wn 8 [wo 2 2,wK 2],
 qn [qw 2 4 9]] [4] .ret) .skip)) (sr [wn 10 [wo 4 2,wK 2],
 qn [qw 2 4 11]] [4] .ret))⟩
noncomputable def mh(p0:Be)(p1:Int):Option Dw:=
 br (p1.tmod 2==0)
  (some p0.IP)
  (some p0.Odd)
noncomputable def VL:GF:=AAm.gf rfl rfl (fun a=>mh a.1 a.2.1) (fun a=>by kernel_rfl)
noncomputable def AAn:YF:=⟨[],[.v .s],[],.ret [(.st 8),.i,.b],[.cell 2 (some 15),.tmp 3,.tmp 4],
 sq [.alloc 2 A0,.Az [(.cell 2 0,.i),(.cell 2 11,(.st 2)),(.cell 2 12,(.st 7)),(.cell 2 13,.i),(.cell 2 14,.i)],qK 3 0,qB 4 false] [0,2] (.seq (.join [cv 16 .b] (qr [wn 9 [wm 0,wh (.lens · (.tmp 9)),wI .lss 5,wM],
 wf 12 13 [wm 0,wh (.lens · (.tmp 13)),wI .gtr 20000],
 qn [qp 16 12 15]] [0,2,16]) (.cond 16 [2] [0,2] (sq [.build 17 A0 [],.Az [(.tmp 17 0,.i),(.tmp 17 11,(.st 2)),(.tmp 17 12,(.st 7)),(.tmp 17 13,.i),(.tmp 17 14,.i)],qw 15 2 17,qK 3 0,qB 4 false] (Kp 28) .ret) .skip)) (sr [wn 19 [wm 0,wh (.Kf · (.tmp 19) (some (.k (.int .i64 4))) none),wY NS rfl],
 qn [qm 18 21],
 wn 22 [wh (.ext · (.tmp 18) 0),wh (.ext · (.tmp 18) 1)],
 qn [qa 5 22,qa 6 23]] (Kp 101) (.seq (sw 24 [wm 6,wX] [0,2,5,25] (.cond 25 [2] (Kp 37) (sq [.build 26 A0 [],.Az [(.tmp 26 0,.i),(.tmp 26 11,(.st 2)),(.tmp 26 12,(.st 7)),(.tmp 26 13,.i),(.tmp 26 14,.i)],qw 15 2 26,qK 3 0,qB 4 false] (Kp 28) .ret) .skip)) (sr [wn 28 [wm 5,wh (.sub · .i (.tmp 28) (some (.k (.int .i64 1))) none),wY ID rfl],
 qn [qm 27 30],
 wn 31 [wh (.ext · (.tmp 27) 0),wh (.ext · (.tmp 27) 1)],
 qn [.alloc 7 A0,.Az [(.cell 7 0,.i),(.cell 7 11,(.st 2)),(.cell 7 12,(.st 7)),(.cell 7 13,.i),(.cell 7 14,.i)],qw 15 7 31,qa 8 32]] (Kp 421) (.seq (.join [cv 43 .b] (.BI (qd 0 [wn 33 [wm 8,wX,wM],
 wf 35 36 [wk 15 7,wm 5,wh (.ia · .i (.tmp 37) (.k (.int .i64 0))),wL]] (.op 8 (some (35,false)) [] (.mv 41 (.tmp 0))
 (.op 7 (some (35,false)) [] (.call 40 ND [] rfl [(.tmp 36),(.tmp 39)])
 (qd 9 [qf 35 [qb 42 .neq 40 41],
 qn [qp 43 35 42]] .nil)))) [2,5,7,43]) (.cond 43 [2] (Kp 164) (sq [.build 44 A0 [],.Az [(.tmp 44 0,.i),(.tmp 44 11,(.st 2)),(.tmp 44 12,(.st 7)),(.tmp 44 13,.i),(.tmp 44 14,.i)],qw 15 2 44,qK 3 0,qB 4 false] (Kp 28) .ret) .skip)) (.seq (.BI (qd 0 [wn 45 [wk 15 7,wm 5,wh (.ia · .i (.tmp 46) (.k (.int .i64 0))),wL]] (.op 4 none [47] (.st 15 (.tmp 2) (.tmp 45))
 (qd 5 [qn [qa 3 48,qB 4 true]] .nil))) [2,3,4]) .ret))))))⟩
noncomputable def Uy(x2:((List Int)×Bool))(x3:(AH×Bool))(v4:Bool):Option (AH×Int×Bool):=
 br v4
  (some ((AH.mk (AQ.mk [] 0 0 0 0 0 0 0 0) 0 0 [] [] [] [],0,false)))
  (bd (at? x2.fst 0) fun x5=>
  bd (at? x2.fst 0) fun x6=>
  some (x3.fst,x6,true))
noncomputable def Ux(p0:(List UInt8))(v1:Bool):Option (AH×Int×Bool):=
 br v1
  (some ((AH.mk (AQ.mk [] 0 0 0 0 0 0 0 0) 0 0 [] [] [] [],0,false)))
  (gd ((0:Int)<=4/\4<=(↑p0.length:Int)) (
  bd (mH (List.drop (Int.toNat 4) p0)) fun x2=>
  br (!x2.snd)
   (some ((AH.mk (AQ.mk [] 0 0 0 0 0 0 0 0) 0 0 [] [] [] [],0,false)))
   (gd ((0:Int)<=1/\1<=(↑(List.length x2.fst):Int)) (
   bd (YG (List.take (List.length x2.fst-Int.toNat 1) (List.drop (Int.toNat 1) x2.fst))) fun x3=>
   br (!x3.snd)
    (jn (Uy x2 x3) true)
    (bd (at? x2.fst 0) fun x7=>
    bd (at? x2.fst 0) fun x8=>
    bd (lg x3.fst x8) fun x9=>
    jn (Uy x2 x3) (x9 != p0))))))
noncomputable def fV(p0:(List UInt8)):Option (AH×Int×Bool):=
 br (decide ((↑p0.length:Int)<5))
  (jn (Ux p0) true)
  (jn (Ux p0) (decide ((↑p0.length:Int)>20000)))
noncomputable def LB:GF:=AAn.gf rfl rfl (fun a=>fV a.1) (fun a=>by kernel_rfl)
noncomputable def AAo:YF:=⟨[],[.v (.st 10),.v .i],[],.ret [(.st 8),.i,.b],[.cell 4 (some 15),.tmp 5,.tmp 6],
 sq [qu 2 0,.alloc 4 A0,.Az [(.cell 4 0,.i),(.cell 4 11,(.st 2)),(.cell 4 12,(.st 7)),(.cell 4 13,.i),(.cell 4 14,.i)],qK 5 0,qB 6 false] (Kp 22) (sr [wn 8 [wk 6 2,wm 1,wc VL rfl [8,9]],
 qn [.alloc 7 [.str [],.int .i64 0],qw 2 7 10]] [4,7] (.seq (sw 11 [wk 2 7,wY VJ rfl,wX] (Kp 8336) (.cond 13 [4] [4,7] (sq [.build 14 A0 [],.Az [(.tmp 14 0,.i),(.tmp 14 11,(.st 2)),(.tmp 14 12,(.st 7)),(.tmp 14 13,.i),(.tmp 14 14,.i)],qw 15 4 14,qK 5 0,qB 6 false] (Kp 112) .ret) .skip)) (sr [wn 15 [wo 0 7,wL,wo 1 7,wL,wh (.Kf · (.tmp 16) none (some (.tmp 18))),wY LB rfl,wh (.ext · (.tmp 20) 0),wh (.ext · (.tmp 20) 1),wh (.ext · (.tmp 20) 2)],
 qn [qw 15 4 21,qa 5 22,qa 6 23]] (Kp 112) .ret)))⟩
noncomputable def YH(p0:Be)(p1:Int):Option (AH×Int×Bool):=
 bd (mh p0 p1) fun x1=>
 bd (lN x1) fun x2=>
 br (!x2)
  (some ((AH.mk (AQ.mk [] 0 0 0 0 0 0 0 0) 0 0 [] [] [] [],0,false)))
  (gd (0<=x1.Safe/\x1.Safe<=(↑x1.Data.length:Int)) (
  bd (fV (List.take x1.Safe.toNat x1.Data)) fun x3=>
  some (x3.fst,x3.snd.fst,x3.snd.snd)))
noncomputable def LC:GF:=AAo.gf rfl rfl (fun a=>YH a.1 a.2.1) (fun a=>by kernel_rfl)
noncomputable def AAp:YF:=⟨[],[.v (.st 10)],[],.ret [.i],[.tmp 2],
 sq [qu 1 0,qK 2 0] [1] (sr [wn 10 [wk 6 1,wc LC rfl [10,qj 0]],
 qn [qm 9 11],
 wn 12 [wh (.ext · (.tmp 9) 0),wh (.ext · (.tmp 9) 1),wh (.ext · (.tmp 9) 2)],
 qn [.alloc 3 A0,.Az [(.cell 3 0,.i),(.cell 3 11,(.st 2)),(.cell 3 12,(.st 7)),(.cell 3 13,.i),(.cell 3 14,.i)],qw 15 3 12,qa 4 13,qa 5 14]] (Kp 50) (sr [wn 16 [wk 6 1,wc LC rfl [16,qj 1]],
 qn [qm 15 17],
 wn 18 [wh (.ext · (.tmp 15) 0),wh (.ext · (.tmp 15) 1),wh (.ext · (.tmp 15) 2)],
 qn [.alloc 6 A0,.Az [(.cell 6 0,.i),(.cell 6 11,(.st 2)),(.cell 6 12,(.st 7)),(.cell 6 13,.i),(.cell 6 14,.i)],qw 15 6 18,qa 7 19,qa 8 20]] (Kp 432) (.seq (.join [cv 30 .b] (qr [wn 21 [wm 5,wM],
 wt 22 23 [wm 8,wX,wM],
 wf 25 26 [wm 4,wm 7,wB .geq 26],
 qt 22 [qp 29 25 28],
 qn [qq 30 22 29]] [8,30]) (cn 30 [8] (sq [qK 2 0] [2] .ret))) (.seq (sq [qm 31 8] [31] (cn 31 [] (sq [qK 2 1] [2] .ret))) (sq [qK 2 (-1)] [2] .ret)))))⟩
noncomputable def Pm(x2:(AH×Int×Bool))(v3:Bool):Option Int:=
 br v3
  (some 0)
  (br x2.snd.snd
   (some 1)
   (some (-1)))
noncomputable def mi(p0:Be):Option Int:=
 bd (YH p0 0) fun x1=>
 bd (YH p0 1) fun x2=>
 br x1.snd.snd
  (br (!x2.snd.snd)
   (jn (Pm x2) true)
   (jn (Pm x2) (decide (x1.snd.fst>=x2.snd.fst))))
  (jn (Pm x2) false)
noncomputable def jN:GF:=AAp.gf rfl rfl (fun a=>mi a.1) (fun a=>by kernel_rfl)
noncomputable def AAq:YF:=⟨[],[.v (.st 10),.v .i],[],.ret [(.st 9)],[.cell 4 (some 2)],
 sq [qu 2 0,.alloc 4 [.str [],.int .i64 0]] (Kp 22) (.seq (sw 5 [wm 1,wI .rem 2,wI .eql 0] (Kp 148) (.cond 7 [2,4] [2,4] (sr [wn 8 [wo 2 2,wK 2],
 qn [qw 2 4 9]] [4] .ret) .skip)) (sr [wn 10 [wo 4 2,wK 2],
 qn [qw 2 4 11]] [4] .ret))⟩
noncomputable def mj(p0:Be)(p1:Int):Option Dw:=
 br (p1.tmod 2==0)
  (some p0.IP)
  (some p0.Odd)
noncomputable def VM:GF:=AAq.gf rfl rfl (fun a=>mj a.1 a.2.1) (fun a=>by kernel_rfl)
noncomputable def AAr:YF:=⟨[],[.v .s],[],.ret [(.st 8),.i,.b],[.cell 2 (some 15),.tmp 3,.tmp 4],
 sq [.alloc 2 A0,.Az [(.cell 2 0,.i),(.cell 2 11,(.st 2)),(.cell 2 12,(.st 7)),(.cell 2 13,.i),(.cell 2 14,.i)],qK 3 0,qB 4 false] [0,2] (.seq (sw 8 [wm 0,wh (.lens · (.tmp 8)),wI .lss 5] (Kp 1029) (.cond 10 [2] [0,2] (sq [.build 11 A0 [],.Az [(.tmp 11 0,.i),(.tmp 11 11,(.st 2)),(.tmp 11 12,(.st 7)),(.tmp 11 13,.i),(.tmp 11 14,.i)],qw 15 2 11,qK 3 0,qB 4 false] (Kp 28) .ret) .skip)) (sr [wn 13 [wm 0,wh (.Kf · (.tmp 13) (some (.k (.int .i64 4))) none),wY NU rfl],
 qn [qm 12 15],
 wn 16 [wh (.ext · (.tmp 12) 0),wh (.ext · (.tmp 12) 1)],
 qn [qa 5 16,qa 6 17]] (Kp 101) (.seq (sw 18 [wm 6,wX] (Kp 524325) (.cond 19 [2] (Kp 37) (sq [.build 20 A0 [],.Az [(.tmp 20 0,.i),(.tmp 20 11,(.st 2)),(.tmp 20 12,(.st 7)),(.tmp 20 13,.i),(.tmp 20 14,.i)],qw 15 2 20,qK 3 0,qB 4 false] (Kp 28) .ret) .skip)) (sr [wn 22 [wm 5,wh (.sub · .i (.tmp 22) (some (.k (.int .i64 1))) none),wY GA rfl],
 qn [qm 21 24],
 wn 25 [wh (.ext · (.tmp 21) 0),wh (.ext · (.tmp 21) 1)],
 qn [.alloc 7 A0,.Az [(.cell 7 0,.i),(.cell 7 11,(.st 2)),(.cell 7 12,(.st 7)),(.cell 7 13,.i),(.cell 7 14,.i)],qw 15 7 25,qa 6 26]] (Kp 229) (.seq (.join [cv 37 .b] (.BI (qd 0 [wn 27 [wm 6,wX,wM],
 wf 29 30 [wk 15 7,wm 5,wh (.ia · .i (.tmp 31) (.k (.int .i64 0))),wL]] (.op 8 (some (29,false)) [] (.mv 35 (.tmp 0))
 (.op 7 (some (29,false)) [] (.call 34 NX [] rfl [(.tmp 30),(.tmp 33)])
 (qd 9 [qf 29 [qb 36 .neq 34 35],
 qn [qp 37 29 36]] .nil)))) [2,5,7,37]) (.cond 37 [2] (Kp 164) (sq [.build 38 A0 [],.Az [(.tmp 38 0,.i),(.tmp 38 11,(.st 2)),(.tmp 38 12,(.st 7)),(.tmp 38 13,.i),(.tmp 38 14,.i)],qw 15 2 38,qK 3 0,qB 4 false] (Kp 28) .ret) .skip)) (.seq (.BI (qd 0 [wn 39 [wk 15 7,wm 5,wh (.ia · .i (.tmp 40) (.k (.int .i64 0))),wL]] (.op 4 none [41] (.st 15 (.tmp 2) (.tmp 39))
 (qd 5 [qn [qa 3 42,qB 4 true]] .nil))) [2,3,4]) .ret))))))⟩
noncomputable def Uz(x1:((List Int)×Bool))(x2:(AH×Bool))(v3:Bool):Option (AH×Int×Bool):=
 br v3
  (some ((AH.mk (AQ.mk [] 0 0 0 0 0 0 0 0) 0 0 [] [] [] [],0,false)))
  (bd (at? x1.fst 0) fun x4=>
  bd (at? x1.fst 0) fun x5=>
  some (x2.fst,x5,true))
noncomputable def YI(p0:(List UInt8)):Option (AH×Int×Bool):=
 br (decide ((↑p0.length:Int)<5))
  (some ((AH.mk (AQ.mk [] 0 0 0 0 0 0 0 0) 0 0 [] [] [] [],0,false)))
  (gd ((0:Int)<=4/\4<=(↑p0.length:Int)) (
  bd (mI (List.drop (Int.toNat 4) p0)) fun x1=>
  br (!x1.snd)
   (some ((AH.mk (AQ.mk [] 0 0 0 0 0 0 0 0) 0 0 [] [] [] [],0,false)))
   (gd ((0:Int)<=1/\1<=(↑(List.length x1.fst):Int)) (
   bd (Uj (List.take (List.length x1.fst-Int.toNat 1) (List.drop (Int.toNat 1) x1.fst))) fun x2=>
   br (!x2.snd)
    (jn (Uz x1 x2) true)
    (bd (at? x1.fst 0) fun x6=>
    bd (at? x1.fst 0) fun x7=>
    bd (mM x2.fst x7) fun x8=>
    jn (Uz x1 x2) (x8 != p0))))))
noncomputable def IE:GF:=AAr.gf rfl rfl (fun a=>YI a.1) (fun a=>by kernel_rfl)
noncomputable def AAs:YF:=⟨[],[.v (.st 10),.v .i],[],.ret [(.st 8),.i,.b],[.cell 4 (some 15),.tmp 5,.tmp 6],
 sq [qu 2 0,.alloc 4 A0,.Az [(.cell 4 0,.i),(.cell 4 11,(.st 2)),(.cell 4 12,(.st 7)),(.cell 4 13,.i),(.cell 4 14,.i)],qK 5 0,qB 6 false] (Kp 22) (sr [wn 8 [wk 6 2,wm 1,wc VM rfl [8,9]],
 qn [.alloc 7 [.str [],.int .i64 0],qw 2 7 10]] [4,7] (.seq (sw 11 [wk 2 7,wY VK rfl,wX] (Kp 8336) (.cond 13 [4] [4,7] (sq [.build 14 A0 [],.Az [(.tmp 14 0,.i),(.tmp 14 11,(.st 2)),(.tmp 14 12,(.st 7)),(.tmp 14 13,.i),(.tmp 14 14,.i)],qw 15 4 14,qK 5 0,qB 6 false] (Kp 112) .ret) .skip)) (sr [wn 15 [wo 0 7,wL,wo 1 7,wL,wh (.Kf · (.tmp 16) none (some (.tmp 18))),wY IE rfl,wh (.ext · (.tmp 20) 0),wh (.ext · (.tmp 20) 1),wh (.ext · (.tmp 20) 2)],
 qn [qw 15 4 21,qa 5 22,qa 6 23]] (Kp 112) .ret)))⟩
noncomputable def U0(p0:Be)(p1:Int):Option (AH×Int×Bool):=
 bd (mj p0 p1) fun x1=>
 bd (lr x1) fun x2=>
 br (!x2)
  (some ((AH.mk (AQ.mk [] 0 0 0 0 0 0 0 0) 0 0 [] [] [] [],0,false)))
  (gd (0<=x1.Safe/\x1.Safe<=(↑x1.Data.length:Int)) (
  bd (YI (List.take x1.Safe.toNat x1.Data)) fun x3=>
  some (x3.fst,x3.snd.fst,x3.snd.snd)))
noncomputable def IF:GF:=AAs.gf rfl rfl (fun a=>U0 a.1 a.2.1) (fun a=>by kernel_rfl)
noncomputable def AAt:YF:=⟨[],[.v (.st 10)],[],.ret [.i],[.tmp 2],
 sq [qu 1 0,qK 2 0] [1] (sr [wn 10 [wk 6 1,wc IF rfl [10,qj 0]],
 qn [qm 9 11],
 wn 12 [wh (.ext · (.tmp 9) 0),wh (.ext · (.tmp 9) 1),wh (.ext · (.tmp 9) 2)],
 qn [.alloc 3 A0,.Az [(.cell 3 0,.i),(.cell 3 11,(.st 2)),(.cell 3 12,(.st 7)),(.cell 3 13,.i),(.cell 3 14,.i)],qw 15 3 12,qa 4 13,qa 5 14]] (Kp 50) (sr [wn 16 [wk 6 1,wc IF rfl [16,qj 1]],
 qn [qm 15 17],
 wn 18 [wh (.ext · (.tmp 15) 0),wh (.ext · (.tmp 15) 1),wh (.ext · (.tmp 15) 2)],
 qn [.alloc 6 A0,.Az [(.cell 6 0,.i),(.cell 6 11,(.st 2)),(.cell 6 12,(.st 7)),(.cell 6 13,.i),(.cell 6 14,.i)],qw 15 6 18,qa 7 19,qa 8 20]] (Kp 432) (.seq (.block 0 (.join [cv 21 .b] (qr [wn 22 [wm 5,wX,wM],
 wt 24 25 [wm 8,wX],
 qn [qq 27 24 26,qa 21 27]] (Kp 2097584)) (.cond 21 [] (Kp 432) (sq [qK 2 (-1)] [2] .ret) (.join [cv 28 .b] (qr [wn 29 [wm 5,wX,wM],
 wf 31 32 [wm 8,wM],
 wt 33 34 [wm 7,wm 4,wB .gtr 34],
 qf 31 [qq 37 33 36],
 qn [qp 38 31 37,qa 28 38]] [28]) (cn 28 [] (sq [qK 2 1] [2] .ret)))))) (sq [qK 2 0] [2] .ret))))⟩
noncomputable def Pn(v4:Bool):Option Int:=
 br v4
  (some 1)
  (some 0)
noncomputable def U1(x1:(AH×Int×Bool))(x2:(AH×Int×Bool))(v3:Bool):Option Int:=
 br v3
  (some (-1))
  (br (!x1.snd.snd)
   (jn (Pn) true)
   (br x2.snd.snd
    (jn (Pn) (decide (x2.snd.fst>x1.snd.fst)))
    (jn (Pn) false)))
noncomputable def ml(p0:Be):Option Int:=
 bd (U0 p0 0) fun x1=>
 bd (U0 p0 1) fun x2=>
 br (!x1.snd.snd)
  (jn (U1 x1 x2) (!x2.snd.snd))
  (jn (U1 x1 x2) false)
noncomputable def jO:GF:=AAt.gf rfl rfl (fun a=>ml a.1) (fun a=>by kernel_rfl)
noncomputable def Mm:YF:=⟨[],[.v (.st 10)],[],.ret [.b],[.tmp 2],
 sq [qu 1 0,qB 2 false] [1] (sq [qK 3 1048576] [1,3] (sr [wn 6 [wk 6 1,wm 3,wc YU rfl [6,7]],
 qn [qa 3 8]] [1,3] (.seq (sw 9 [wm 3,wI .lss 0] [1,10] (cn 10 [1] (sq [qB 2 true] [2] .ret))) (sr [wn 11 [wk 6 1,wY KW rfl,wY jN rfl],
 qn [qa 4 13]] [1,4] (sr [wn 14 [wk 6 1,wY KW rfl,wY jO rfl],
 qn [qa 5 16]] [4,5] (.seq (sw 17 [wm 5,wm 4,wB .neq 17] [19] (cn 19 [] (sq [qB 2 false] [2] .ret))) (sq [qB 2 true] [2] .ret)))))))⟩
noncomputable def DD(p0:Be):Option Bool:=
 bd (qN p0 1048576) fun x1=>
 br (decide (x1<0))
  (some true)
  (bd (fN p0) fun x2=>
  bd (mi x2) fun x3=>
  bd (fN p0) fun x4=>
  bd (ml x4) fun x5=>
  br (x5 != x3)
   (some false)
   (some true))
noncomputable def Cw:GF:=Mm.gf rfl rfl (fun a=>DD a.1) (fun a=>by kernel_rfl)
end Lv
set_option maxRecDepth 100000
namespace Lv
open Go (IntKind BinOp UnOp)
open Y (YF qn qf qt qr q1 qd qm qa qo ql qL qb qi qx qp qq qc qz qe qk qK qB qw qu qj Kp wn wf wt w1 sw sq sr wm wM wo wO wl wL wk wK wz wZ wx wX wb wB wi wI wr wR wq wQ we wE wc wY wj wh cv ca cx cn ce bl)
noncomputable def Kg:YF:=⟨[],[.v (.l .i)],[],.ret [.b],[.tmp 2],
 sq [qB 2 false] [0] (.seq (sw 13 [wm 0,wZ,wI .gtr 1048576] [0,15] (cn 15 [0] (sq [qB 2 true] [2] .ret))) (sr [wn 17 [wm 0,wY P1 rfl,wY ID rfl],
 qn [qm 16 19],
 wn 20 [wh (.ext · (.tmp 16) 0),wh (.ext · (.tmp 16) 1)],
 qn [.alloc 3 A0,.Az [(.cell 3 0,.i),(.cell 3 11,(.st 2)),(.cell 3 12,(.st 7)),(.cell 3 13,.i),(.cell 3 14,.i)],qw 15 3 20,qa 4 21]] (Kp 25) (sr [wn 22 [wm 0,wY P1 rfl],
 qn [qa 5 23]] (Kp 57) (sr [wn 25 [wm 5,wY GA rfl],
 qn [qm 24 26],
 wn 27 [wh (.ext · (.tmp 24) 0),wh (.ext · (.tmp 24) 1)],
 qn [.alloc 6 A0,.Az [(.cell 6 0,.i),(.cell 6 11,(.st 2)),(.cell 6 12,(.st 7)),(.cell 6 13,.i),(.cell 6 14,.i)],qw 15 6 27,qa 7 28]] (Kp 249) (.seq (.join [cv 37 .b] (qr [wn 29 [wk 15 6,wk 15 3,wc Dy rfl [29,30],wX,wM],
 wf 33 34 [wm 7,wm 4,wh (.bin · .bool .neq (.tmp 34) (.tmp 35))],
 qn [qp 37 33 36]] (Kp 137438953721)) (cn 37 (Kp 249) (sq [qB 2 false] [2] .ret))) (.seq (sw 38 [wm 5,wm 0,wY P1 rfl,wc D1 rfl [38,40],wX] (Kp 4398046511353) (cn 42 (Kp 249) (sq [qB 2 false] [2] .ret))) (sq [qK 8 1] (Kp 505) (sr [wn 43 [wm 5,wm 8,wc D2 rfl [43,44]],
 qn [qa 8 45]] (Kp 473) (.seq (.join [cv 58 .b] (qr [wn 46 [wm 8,wI .lss 0,wM],
 wf 48 49 [wk 15 6,wk 15 3,wc Dy rfl [49,50],wX],
 wn 53 [wR 48,wM],
 wf 54 55 [wm 7,wm 4,wh (.bin · .bool .neq (.tmp 55) (.tmp 56))],
 qn [qp 58 54 57]] [0,3,4,6,58]) (cn 58 (Kp 89) (sq [qB 2 false] [2] .ret))) (sq [qK 9 1] (Kp 601) (sr [wn 59 [wk 15 6,wm 9,wc Jt rfl [59,60]],
 qn [qa 9 61]] (Kp 601) (sq [qK 10 1] (Kp 1625) (sr [wn 62 [wk 15 6,wm 10,wc EW rfl [62,63]],
 qn [qa 10 64]] (Kp 1625) (.seq (sw 65 [wm 10,wI .lss 0] [0,3,4,6,9,10,66] (cn 66 (Kp 1625) (sq [qB 2 false] [2] .ret))) (.seq (sw 67 [wm 10,wm 9,wB .neq 67] [0,3,4,6,9,69] (cn 69 (Kp 601) (sq [qB 2 false] [2] .ret))) (sr [wn 71 [wm 0,wY P1 rfl,wY GA rfl],
 qn [qm 70 73],
 wn 74 [wh (.ext · (.tmp 70) 0),wh (.ext · (.tmp 70) 1)],
 qn [.alloc 11 A0,.Az [(.cell 11 0,.i),(.cell 11 11,(.st 2)),(.cell 11 12,(.st 7)),(.cell 11 13,.i),(.cell 11 14,.i)],qw 15 11 74,qa 12 75]] (Kp 6744) (.seq (.join [cv 84 .b] (qr [wn 76 [wk 15 11,wk 15 3,wc Dy rfl [76,77],wX,wM],
 wf 80 81 [wm 12,wm 4,wh (.bin · .bool .neq (.tmp 81) (.tmp 82))],
 qn [qp 84 80 83]] [6,9,84]) (cn 84 [6,9] (sq [qB 2 false] [2] .ret))) (sq [qK 10 1] (Kp 1600) (sr [wn 85 [wk 15 6,wm 10,wc EW rfl [85,86]],
 qn [qa 10 87]] [9,10] (.seq (sw 88 [wm 10,wI .lss 0] [9,10,89] (cn 89 [9,10] (sq [qB 2 false] [2] .ret))) (.seq (sw 90 [wm 10,wm 9,wB .neq 90] [92] (cn 92 [] (sq [qB 2 false] [2] .ret))) (sq [qB 2 true] [2] .ret))))))))))))))))))))))⟩
noncomputable def C1(x4:(AH×Bool))(x11:(Int×AH))(v16:Bool):Option Bool:=
 br v16
  (some false)
  (bd (PT (AH.mk (AQ.mk x11.snd.AI.AN x4.fst.AI.A2 x4.fst.AI.Room x4.fst.AI.Aq x4.fst.AI.Au x4.fst.AI.As x4.fst.AI.Rest x4.fst.AI.A3 x4.fst.AI.BL) x4.fst.Now x4.fst.Ai x11.snd.AF x11.snd.AW x11.snd.BA x11.snd.BO) 1) fun x17=>
  br (decide (x17<0))
   (some false)
   (br (x17 != x11.fst)
    (some false)
    (some true)))
noncomputable def B7(p0:(List Int))(x2:(AH×Bool))(x4:(AH×Bool))(v10:Bool):Option Bool:=
 br v10
  (some false)
  (bd (YD x4.fst 1) fun x11=>
  bd (PT (AH.mk (AQ.mk x11.snd.AI.AN x4.fst.AI.A2 x4.fst.AI.Room x4.fst.AI.Aq x4.fst.AI.Au x4.fst.AI.As x4.fst.AI.Rest x4.fst.AI.A3 x4.fst.AI.BL) x4.fst.Now x4.fst.Ai x11.snd.AF x11.snd.AW x11.snd.BA x11.snd.BO) 1) fun x12=>
  br (decide (x12<0))
   (some false)
   (br (x12 != x11.fst)
    (some false)
    (bd (jA p0) fun x13=>
    bd (Uj x13) fun x14=>
    bd (Mo x14.fst x2.fst) fun x15=>
    br (!x15)
     (jn (C1 x4 x11) true)
     (jn (C1 x4 x11) (!x14.snd==x2.snd)))))
noncomputable def C0(p0:(List Int))(x2:(AH×Bool))(x3:(List Int))(x4:(AH×Bool))(v6:Bool):Option Bool:=
 br v6
  (some false)
  (bd (jA p0) fun x7=>
  bd (T5 x3 x7) fun x8=>
  br (!x8)
   (some false)
   (bd (UU x3 1) fun x9=>
   br (decide (x9.fst<0))
    (jn (B7 p0 x2 x4) true)
    (bd (Mo x4.fst x2.fst) fun x18=>
    br (!x18)
     (jn (B7 p0 x2 x4) true)
     (jn (B7 p0 x2 x4) (!x4.snd==x2.snd)))))
noncomputable def Cp(p0:(List Int)):Option Bool:=
 br (decide ((↑p0.length:Int)>1048576))
  (some true)
  (bd (jA p0) fun x1=>
  bd (YG x1) fun x2=>
  bd (jA p0) fun x3=>
  bd (Uj x3) fun x4=>
  bd (Mo x4.fst x2.fst) fun x5=>
  br (!x5)
   (jn (C0 p0 x2 x3 x4) true)
   (jn (C0 p0 x2 x3 x4) (!x4.snd==x2.snd)))
noncomputable def CV:GF:=Kg.gf rfl rfl (fun a=>Cp a.1) (fun a=>by kernel_rfl)
noncomputable def KQ:YF:=⟨[],[.v .s],[],.ret [.b],[.tmp 2],
 sq [qB 2 false] [0] (.seq (sw 14 [wm 0,wh (.lens · (.tmp 14)),wI .gtr 1048576] [0,16] (cn 16 [0] (sq [qB 2 true] [2] .ret))) (sr [wn 18 [wm 0,wY LB rfl],
 qn [qm 17 19],
 wn 20 [wh (.ext · (.tmp 17) 0),wh (.ext · (.tmp 17) 1),wh (.ext · (.tmp 17) 2)],
 qn [.alloc 3 A0,.Az [(.cell 3 0,.i),(.cell 3 11,(.st 2)),(.cell 3 12,(.st 7)),(.cell 3 13,.i),(.cell 3 14,.i)],qw 15 3 20,qa 4 21,qa 5 22]] (Kp 57) (sr [wn 24 [wm 0,wY IE rfl],
 qn [qm 23 25],
 wn 26 [wh (.ext · (.tmp 23) 0),wh (.ext · (.tmp 23) 1),wh (.ext · (.tmp 23) 2)],
 qn [.alloc 6 A0,.Az [(.cell 6 0,.i),(.cell 6 11,(.st 2)),(.cell 6 12,(.st 7)),(.cell 6 13,.i),(.cell 6 14,.i)],qw 15 6 26,qa 7 27,qa 8 28]] (Kp 505) (.seq (.join [cv 42 .b] (qr [wn 29 [wk 15 6,wk 15 3,wc Dy rfl [29,30],wX,wM],
 wf 33 34 [wm 7,wm 4,wB .neq 34],
 wn 37 [wR 33,wM],
 wf 38 39 [wm 8,wm 5,wh (.bin · .bool .neq (.tmp 39) (.tmp 40))],
 qn [qp 42 38 41]] (Kp 4398046511225)) (cn 42 (Kp 121) (sq [qB 2 false] [2] .ret))) (sq [qK 9 1] (Kp 633) (sr [wn 43 [wk 15 6,wm 9,wc Jt rfl [43,44]],
 qn [qa 9 45]] (Kp 633) (sq [qK 10 1] (Kp 1657) (sr [wn 46 [wk 15 6,wm 10,wc EW rfl [46,47]],
 qn [qa 10 48]] (Kp 1657) (.seq (sw 49 [wm 10,wI .lss 0] (Kp 1125899906844281) (cn 50 (Kp 1657) (sq [qB 2 false] [2] .ret))) (.seq (sw 51 [wm 10,wm 9,wB .neq 51] (Kp 9007199254741625) (cn 53 (Kp 633) (sq [qB 2 false] [2] .ret))) (sr [wn 55 [wm 0,wY IE rfl],
 qn [qm 54 56],
 wn 57 [wh (.ext · (.tmp 54) 0),wh (.ext · (.tmp 54) 1),wh (.ext · (.tmp 54) 2)],
 qn [.alloc 11 A0,.Az [(.cell 11 0,.i),(.cell 11 11,(.st 2)),(.cell 11 12,(.st 7)),(.cell 11 13,.i),(.cell 11 14,.i)],qw 15 11 57,qa 12 58,qa 13 59]] (Kp 14968) (.seq (.join [cv 73 .b] (qr [wn 60 [wk 15 11,wk 15 3,wc Dy rfl [60,61],wX,wM],
 wf 64 65 [wm 12,wm 4,wB .neq 65],
 wn 68 [wR 64,wM],
 wf 69 70 [wm 13,wm 5,wh (.bin · .bool .neq (.tmp 70) (.tmp 71))],
 qn [qp 73 69 72]] [6,9,73]) (cn 73 [6,9] (sq [qB 2 false] [2] .ret))) (sq [qK 10 1] (Kp 1600) (sr [wn 74 [wk 15 6,wm 10,wc EW rfl [74,75]],
 qn [qa 10 76]] [9,10] (.seq (sw 77 [wm 10,wI .lss 0] [9,10,78] (cn 78 [9,10] (sq [qB 2 false] [2] .ret))) (.seq (sw 79 [wm 10,wm 9,wB .neq 79] [81] (cn 81 [] (sq [qB 2 false] [2] .ret))) (sq [qB 2 true] [2] .ret)))))))))))))))))⟩
noncomputable def By(x2:(AH×Int×Bool))(x5:(Int×AH))(v9:Bool):Option Bool:=
 br v9
  (some false)
  (bd (PT (AH.mk (AQ.mk x5.snd.AI.AN x2.fst.AI.A2 x2.fst.AI.Room x2.fst.AI.Aq x2.fst.AI.Au x2.fst.AI.As x2.fst.AI.Rest x2.fst.AI.A3 x2.fst.AI.BL) x2.fst.Now x2.fst.Ai x5.snd.AF x5.snd.AW x5.snd.BA x5.snd.BO) 1) fun x10=>
  br (decide (x10<0))
   (some false)
   (br (x10 != x5.fst)
    (some false)
    (some true)))
noncomputable def Bw(p0:(List UInt8))(x1:(AH×Int×Bool))(x2:(AH×Int×Bool))(v4:Bool):Option Bool:=
 br v4
  (some false)
  (bd (YD x2.fst 1) fun x5=>
  bd (PT (AH.mk (AQ.mk x5.snd.AI.AN x2.fst.AI.A2 x2.fst.AI.Room x2.fst.AI.Aq x2.fst.AI.Au x2.fst.AI.As x2.fst.AI.Rest x2.fst.AI.A3 x2.fst.AI.BL) x2.fst.Now x2.fst.Ai x5.snd.AF x5.snd.AW x5.snd.BA x5.snd.BO) 1) fun x6=>
  br (decide (x6<0))
   (some false)
   (br (x6 != x5.fst)
    (some false)
    (bd (YI p0) fun x7=>
    bd (Mo x7.fst x1.fst) fun x8=>
    br (!x8)
     (jn (By x2 x5) true)
     (br (x7.snd.fst != x1.snd.fst)
      (jn (By x2 x5) true)
      (jn (By x2 x5) (!x7.snd.snd==x1.snd.snd))))))
noncomputable def CT(p0:(List UInt8)):Option Bool:=
 br (decide ((↑p0.length:Int)>1048576))
  (some true)
  (bd (fV p0) fun x1=>
  bd (YI p0) fun x2=>
  bd (Mo x2.fst x1.fst) fun x3=>
  br (!x3)
   (jn (Bw p0 x1 x2) true)
   (br (x2.snd.fst != x1.snd.fst)
    (jn (Bw p0 x1 x2) true)
    (jn (Bw p0 x1 x2) (!x2.snd.snd==x1.snd.snd))))
noncomputable def CK:GF:=KQ.gf rfl rfl (fun a=>CT a.1) (fun a=>by kernel_rfl)
noncomputable def KP:YF:=⟨[],[.v (.st 10),.v .i],[],.ret [.b],[.tmp 4],
 sq [qu 2 0,qB 4 false] [1,2] (sq [qK 5 1048576] (Kp 38) (sr [wn 17 [wk 6 2,wm 5,wc YU rfl [17,18]],
 qn [qa 5 19]] (Kp 38) (.seq (sw 20 [wm 5,wI .lss 0] [1,2,21] (cn 21 [1,2] (sq [qB 4 true] [4] .ret))) (sr [wn 23 [wk 6 2,wY KW rfl,wm 1,wc LC rfl [24,25]],
 qn [qm 22 26],
 wn 27 [wh (.ext · (.tmp 22) 0),wh (.ext · (.tmp 22) 1),wh (.ext · (.tmp 22) 2)],
 qn [.alloc 6 A0,.Az [(.cell 6 0,.i),(.cell 6 11,(.st 2)),(.cell 6 12,(.st 7)),(.cell 6 13,.i),(.cell 6 14,.i)],qw 15 6 27,qa 7 28,qa 8 29]] (Kp 454) (sr [wn 31 [wk 6 2,wY KW rfl,wm 1,wc IF rfl [32,33]],
 qn [qm 30 34],
 wn 35 [wh (.ext · (.tmp 30) 0),wh (.ext · (.tmp 30) 1),wh (.ext · (.tmp 30) 2)],
 qn [.alloc 9 A0,.Az [(.cell 9 0,.i),(.cell 9 11,(.st 2)),(.cell 9 12,(.st 7)),(.cell 9 13,.i),(.cell 9 14,.i)],qw 15 9 35,qa 10 36,qa 11 37]] (Kp 4038) (.seq (.join [cv 51 .b] (qr [wn 38 [wk 15 9,wk 15 6,wc Dy rfl [38,39],wX,wM],
 wf 42 43 [wm 10,wm 7,wB .neq 43],
 wn 46 [wR 42,wM],
 wf 47 48 [wm 11,wm 8,wh (.bin · .bool .neq (.tmp 48) (.tmp 49))],
 qn [qp 51 47 50]] (Kp 2251799813686214)) (cn 51 (Kp 966) (sq [qB 4 false] [4] .ret))) (sq [qK 12 1] (Kp 5062) (sr [wn 52 [wk 15 9,wm 12,wc Jt rfl [52,53]],
 qn [qa 12 54]] (Kp 5062) (sq [qK 13 1] (Kp 13254) (sr [wn 55 [wk 15 9,wm 13,wc EW rfl [55,56]],
 qn [qa 13 57]] (Kp 13254) (.seq (sw 58 [wm 13,wI .lss 0] (Kp 576460752303436742) (cn 59 (Kp 13254) (sq [qB 4 false] [4] .ret))) (.seq (sw 60 [wm 13,wm 12,wB .neq 60] (Kp 4611686018427392966) (cn 62 (Kp 5062) (sq [qB 4 false] [4] .ret))) (sr [wn 64 [wk 6 2,wY KW rfl,wm 1,wc IF rfl [65,66]],
 qn [qm 63 67],
 wn 68 [wh (.ext · (.tmp 63) 0),wh (.ext · (.tmp 63) 1),wh (.ext · (.tmp 63) 2)],
 qn [.alloc 14 A0,.Az [(.cell 14 0,.i),(.cell 14 11,(.st 2)),(.cell 14 12,(.st 7)),(.cell 14 13,.i),(.cell 14 14,.i)],qw 15 14 68,qa 15 69,qa 16 70]] (Kp 119744) (.seq (.join [cv 84 .b] (qr [wn 71 [wk 15 14,wk 15 6,wc Dy rfl [71,72],wX,wM],
 wf 75 76 [wm 15,wm 7,wB .neq 76],
 wn 79 [wR 75,wM],
 wf 80 81 [wm 16,wm 8,wh (.bin · .bool .neq (.tmp 81) (.tmp 82))],
 qn [qp 84 80 83]] [9,12,84]) (cn 84 [9,12] (sq [qB 4 false] [4] .ret))) (sq [qK 13 1] (Kp 12800) (sr [wn 85 [wk 15 9,wm 13,wc EW rfl [85,86]],
 qn [qa 13 87]] [12,13] (.seq (sw 88 [wm 13,wI .lss 0] [12,13,89] (cn 89 [12,13] (sq [qB 4 false] [4] .ret))) (.seq (sw 90 [wm 13,wm 12,wB .neq 90] [92] (cn 92 [] (sq [qB 4 false] [4] .ret))) (sq [qB 4 true] [4] .ret)))))))))))))))))))⟩
noncomputable def Bv(x5:(AH×Int×Bool))(x8:(Int×AH))(v13:Bool):Option Bool:=
 br v13
  (some false)
  (bd (PT (AH.mk (AQ.mk x8.snd.AI.AN x5.fst.AI.A2 x5.fst.AI.Room x5.fst.AI.Aq x5.fst.AI.Au x5.fst.AI.As x5.fst.AI.Rest x5.fst.AI.A3 x5.fst.AI.BL) x5.fst.Now x5.fst.Ai x8.snd.AF x8.snd.AW x8.snd.BA x8.snd.BO) 1) fun x14=>
  br (decide (x14<0))
   (some false)
   (br (x14 != x8.fst)
    (some false)
    (some true)))
noncomputable def Bu(p0:Be)(p1:Int)(x3:(AH×Int×Bool))(x5:(AH×Int×Bool))(v7:Bool):Option Bool:=
 br v7
  (some false)
  (bd (YD x5.fst 1) fun x8=>
  bd (PT (AH.mk (AQ.mk x8.snd.AI.AN x5.fst.AI.A2 x5.fst.AI.Room x5.fst.AI.Aq x5.fst.AI.Au x5.fst.AI.As x5.fst.AI.Rest x5.fst.AI.A3 x5.fst.AI.BL) x5.fst.Now x5.fst.Ai x8.snd.AF x8.snd.AW x8.snd.BA x8.snd.BO) 1) fun x9=>
  br (decide (x9<0))
   (some false)
   (br (x9 != x8.fst)
    (some false)
    (bd (fN p0) fun x10=>
    bd (U0 x10 p1) fun x11=>
    bd (Mo x11.fst x3.fst) fun x12=>
    br (!x12)
     (jn (Bv x5 x8) true)
     (br (x11.snd.fst != x3.snd.fst)
      (jn (Bv x5 x8) true)
      (jn (Bv x5 x8) (!x11.snd.snd==x3.snd.snd))))))
noncomputable def CS(p0:Be)(p1:Int):Option Bool:=
 bd (qN p0 1048576) fun x1=>
 br (decide (x1<0))
  (some true)
  (bd (fN p0) fun x2=>
  bd (YH x2 p1) fun x3=>
  bd (fN p0) fun x4=>
  bd (U0 x4 p1) fun x5=>
  bd (Mo x5.fst x3.fst) fun x6=>
  br (!x6)
   (jn (Bu p0 p1 x3 x5) true)
   (br (x5.snd.fst != x3.snd.fst)
    (jn (Bu p0 p1 x3 x5) true)
    (jn (Bu p0 p1 x3 x5) (!x5.snd.snd==x3.snd.snd))))
noncomputable def CJ:GF:=KP.gf rfl rfl (fun a=>CS a.1 a.2.1) (fun a=>by kernel_rfl)
end Lv
