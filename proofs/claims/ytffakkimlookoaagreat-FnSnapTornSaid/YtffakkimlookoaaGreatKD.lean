/-
  Printed: functions of the program as texts of the typed machine, as plain functions, and that the one is the other.
-/
import Derived.Test.YtffakkimlookoaaGreatKC
import Derived.KernelRfl
set_option linter.unusedVariables false
set_option linter.unusedSimpArgs false
set_option maxRecDepth 100000
namespace Lv
open Go (IntKind BinOp UnOp)
open Y (YF qn qf qt qr q1 qd qm qa qo ql qL qb qi qx qp qq qc qz qe qk qK qB qw qu qj Kp wn wf wt w1 sw sq sr wm wM wo wO wl wL wk wK wz wZ wx wX wb wB wi wI wr wR wq wQ we wE wc wY wj wh cv ca cx cn ce bl)
instance yX (i j n:Nat) (hs:List (Nat×Nat)):Decidable (Y.Jq i j n hs):=Y.Sj i j n hs
noncomputable def AAb:YF:=⟨[],[.v (.l .u)],[],.ret [(.l .i)],[.tmp 2],
 sq [.as 2 (.k .nil),.Av [(.tmp 2 0,.i)]] [0] (sr [wn 6 [wm 0,wY LF rfl],
 qn [qa 3 7]] [3] (sr [wn 8 [wm 3,wY HA rfl,wY Uu rfl],
 qn [qa 4 10]] [3,4] (sr [wn 11 [wm 3,wh (.AW · 9 .i [(0,(.k (.int .i64 (-1)))),(1,(.k (.int .i64 0))),(2,(.k (.int .i64 1))),(3,(.k (.int .i64 2))),(4,(.k (.int .i64 5))),(5,(.k (.int .i64 41))),(6,(.k (.int .i64 1000001))),(7,(.k (.int .i64 9223372036854775807))),(8,(.k (.int .i64 (-9223372036854775808))))]),wc B0 rfl [11,12]],
 qn [qa 5 13]] (Kp 56) (.join [cv 4 (.l .i)] (sw 14 [wm 3,wc AQ rfl [14,qj 6]] (Kp 32824) (.block 0 (sq [qi 17 .eql 15 0,qa 16 17] (Kp 98360) (.cond 16 [3,4,5] (Kp 32824) (sw 18 [wm 4,wZ,wI .gtr 0] (Kp 1048632) (.cond 20 (Kp 56) [4] (qr [wn 21 [wm 4,wm 3,wm 4,wZ,wc AQ rfl [22,24],wm 5,we .i 21 25],
 qn [qw 1 27 26]] [4]) .skip)) (sq [qi 29 .eql 15 1,qa 28 29] (Kp 268468280) (.cond 28 [3,4] [4,5,15] (qr [wn 30 [wm 4,wm 3,wm 4,wZ,wI .add 1,wc AQ rfl [31,34],wh (.sub · .i (.tmp 30) none (some (.tmp 35)))],
 qn [qa 4 36]] [4]) (sq [qi 38 .eql 15 2,qa 37 38] [4,5,37] (.cond 37 [4,5] [4] (qr [wn 39 [wm 4,wm 5,wh (.AW · 1 .i [(0,(.tmp 40))]),wh (.app · .i true (.tmp 39) (.tmp 41))],
 qn [qa 4 42]] [4]) .skip)))))))) (sq [qm 43 4,qa 2 43] [2] .ret)))))⟩
noncomputable def Ir(v9:(List Int)):Option (List Int):=
 some v9
noncomputable def mc(p0:(List UInt8)):Option (List Int):=
 bd (de p0) fun x1=>
 bd (X7 x1) fun x2=>
 bd (Rg x2.fst) fun x3=>
 bd (KO x2.snd ([-1,0,1,2,5,41,1000001,9223372036854775807,-9223372036854775808])) fun x4=>
 bd (A3 x4.snd 6) fun x5=>
 br (x5.fst==0)
  (br (decide ((↑(List.length x3):Int)>0))
   (bd (A3 x5.snd ((↑(List.length x3):Int))) fun x6=>
   bd (at? x3 x6.fst) fun x7=>
   bd (at? x3 x6.fst) fun x8=>
   jn (Ir) (List.set x3 (Int.toNat x6.fst) x4.fst))
   (jn (Ir) x3))
  (br (x5.fst==1)
   (bd (A3 x5.snd (w64 ((↑(List.length x3):Int)+1))) fun x10=>
   gd (0<=x10.fst/\x10.fst<=(↑(List.length x3):Int)) (
   jn (Ir) (List.take (Int.toNat x10.fst-0) (List.drop 0 x3))))
   (br (x5.fst==2)
    (gd (List.length x3+[x4.fst].length<=lim) (
    jn (Ir) (x3++[x4.fst])))
    (jn (Ir) x3)))
noncomputable def jQ:GF:=AAb.gf rfl rfl (fun a=>mc a.1) (fun a=>by kernel_rfl)
noncomputable def AAc:YF:=⟨[],[.v .i,.b (.l .i)],[],.vw 1 .i,[.vw 3 1],
 sq [.as 3 (.k .nil),.Av [(.tmp 3 0,.i)]] [0,1] (.seq (.join [cv 12 .b] (qr [wn 5 [wm 0,wI .lss 0,wM],
 wf 7 8 [wm 0,wl 1,wZ,wB .gtr 8],
 qn [qp 12 7 11]] (Kp 4099)) (.cond 12 [0,1] [0,1] (sq [.st 1 (.tmp 1) (.k .nil),.Av [(.cell 1 0,.i)]] [0,1] (sr [wn 13 [wm 0,wh (.mm · true (.tmp 13) (.k (.int .i64 0))),wh (.mm · false (.tmp 14) (.k (.int .i64 10))),wh (.Lh · .i (.tmp 15))],
 qn [qa 3 16]] [1,3] .ret)) .skip)) (sr [wn 17 [wl 1,wm 0,wh (.sub · .i (.tmp 17) none (some (.tmp 18)))],
 qn [qa 4 19]] (Kp 19) (sr [wn 20 [wl 1,wm 0,wh (.sub · .i (.tmp 20) (some (.tmp 21)) none)],
 qn [qw 1 1 22]] [1,4] (sq [qm 23 4,qa 3 23] [1,3] .ret))))⟩
noncomputable def UN(p0:Int)(p1:(List Int))(v1:Bool):Option ((List Int)×(List Int)):=
 br v1
  (gd ((0<=if false=true then if 10>if true=true then if 0>p0 then 0 else p0 else if 0<p0 then 0 else p0 then 10 else if true=true then if 0>p0 then 0 else p0 else if 0<p0 then 0 else p0 else if 10<if true=true then if 0>p0 then 0 else p0 else if 0<p0 then 0 else p0 then 10 else if true=true then if 0>p0 then 0 else p0 else if 0<p0 then 0 else p0)/\(if false=true then if 10>if true=true then if 0>p0 then 0 else p0 else if 0<p0 then 0 else p0 then 10 else if true=true then if 0>p0 then 0 else p0 else if 0<p0 then 0 else p0 else if 10<if true=true then if 0>p0 then 0 else p0 else if 0<p0 then 0 else p0 then 10 else if true=true then if 0>p0 then 0 else p0 else if 0<p0 then 0 else p0)<=(↑lim:Int)) (
  some ((List.replicate (if false=true then if 10>if true=true then if 0>p0 then 0 else p0 else if 0<p0 then 0 else p0 then 10 else if true=true then if 0>p0 then 0 else p0 else if 0<p0 then 0 else p0 else if 10<if true=true then if 0>p0 then 0 else p0 else if 0<p0 then 0 else p0 then 10 else if true=true then if 0>p0 then 0 else p0 else if 0<p0 then 0 else p0).toNat 0,[]))))
  (gd (0<=p0/\p0<=(↑p1.length:Int)) (
  gd (0<=p0/\p0<=(↑p1.length:Int)) (
  some (List.take p0.toNat p1,List.drop p0.toNat p1))))
noncomputable def E8(p0:Int)(p1:(List Int)):Option ((List Int)×(List Int)):=
 br (decide (p0<0))
  (jn (UN p0 p1) true)
  (jn (UN p0 p1) (decide (p0>(↑p1.length:Int))))
noncomputable def OD:GF:=AAc.gf rfl rfl (fun a=>E8 a.1 a.2.1) (fun a=>by kernel_rfl)
noncomputable def AAd:YF:=⟨[],[.v (.l .i)],[],.ret [(.st 1),.b],[.cell 2 (some 9),.tmp 3],
 sq [.alloc 2 B2,.Av [(.cell 2 0,.i)],qB 3 false] [0,2] (.seq (sw 5 [wm 0,wZ,wI .lss 9] (Kp 133) (.cond 7 [2] [0,2] (sq [.build 8 B2 [],.Av [(.tmp 8 0,.i)],qw 9 2 8,qB 3 false] [2,3] .ret) .skip)) (.seq (.A8 (qd 0 [wn 9 [wm 0,wh (.ia · .i (.tmp 9) (.k (.int .i64 0))),wL,wm 0,wh (.ia · .i (.tmp 12) (.k (.int .i64 1))),wL,wm 0,wh (.ia · .i (.tmp 15) (.k (.int .i64 2))),wL,wm 0,wh (.ia · .i (.tmp 18) (.k (.int .i64 3))),wL,wm 0,wh (.ia · .i (.tmp 21) (.k (.int .i64 4))),wL,wm 0,wh (.ia · .i (.tmp 24) (.k (.int .i64 5))),wL,wm 0,wh (.ia · .i (.tmp 27) (.k (.int .i64 6))),wL,wm 0,wh (.ia · .i (.tmp 30) (.k (.int .i64 7))),wL,wm 0,wh (.sub · .i (.tmp 33) (some (.k (.int .i64 8))) none)]] (.both 0 (.op 26 none [10,13,16,19,22,25,28,31] (.call 35 EO [] rfl [(.tmp 34)])
 (.op 27 none [] (.build 36 B2 [(1,1,(.tmp 11)),(2,1,(.tmp 14)),(3,1,(.tmp 17)),(4,1,(.tmp 20)),(5,1,(.tmp 23)),(6,1,(.tmp 26)),(7,1,(.tmp 29)),(8,1,(.tmp 32)),(0,1,(.tmp 35))])
 (.op 28 none [10,13,16,19,22,25,28,31] (.alloc 4 B2)
 (.nl [(.cell 4 0,.i)] (.op 29 none [] (.st 9 (.tmp 4) (.tmp 36))
 (.dr [9,10,11,12,13,14,15,16,17,18,19,20,21,22,23,24,25,26,27,28,29,30,31,32,33,34,35,36] .nil)))))) (.op 28 none [10,13,16,19,22,25,28,31] (.alloc 4 B2)
 (.nl [(.cell 4 0,.i)] (.op 26 none [10,13,16,19,22,25,28,31] (.call 35 EO [] rfl [(.tmp 34)])
 (.op 27 none [] (.build 36 B2 [(1,1,(.tmp 11)),(2,1,(.tmp 14)),(3,1,(.tmp 17)),(4,1,(.tmp 20)),(5,1,(.tmp 23)),(6,1,(.tmp 26)),(7,1,(.tmp 29)),(8,1,(.tmp 32)),(0,1,(.tmp 35))])
 (.op 29 none [] (.st 9 (.tmp 4) (.tmp 36))
 (.dr [9,10,11,12,13,14,15,16,17,18,19,20,21,22,23,24,25,26,27,28,29,30,31,32,33,34,35,36] .nil)))))))) [2,4]) (.seq (sw 37 [wk 9 4,wY Dg rfl,wX] [2,4,39] (.cond 39 [2] [2,4] (sq [.build 40 B2 [],.Av [(.tmp 40 0,.i)],qw 9 2 40,qB 3 false] [2,3] .ret) .skip)) (sq [qL 41 9 4,qw 9 2 41,qB 3 true] [2,3] .ret))))⟩
noncomputable def me(p0:(List Int)):Option (AO×Bool):=
 br (decide ((↑p0.length:Int)<9))
  (some (AO.mk [] 0 0 0 0 0 0 0 0,false))
  (bd (at? p0 0) fun x1=>
  bd (at? p0 1) fun x2=>
  bd (at? p0 2) fun x3=>
  bd (at? p0 3) fun x4=>
  bd (at? p0 4) fun x5=>
  bd (at? p0 5) fun x6=>
  bd (at? p0 6) fun x7=>
  bd (at? p0 7) fun x8=>
  gd ((0:Int)<=8/\8<=(↑p0.length:Int)) (
  bd (T3 (List.drop (Int.toNat 8) p0)) fun x9=>
  bd (T3 (List.drop (Int.toNat 8) p0)) fun x10=>
  eqv x9 x10 (
  ev8 x1 x2 x3 x4 x5 x6 x7 x8 (
  bd (cV (AO.mk x9 x1 x2 x3 x4 x5 x6 x7 x8)) fun x11=>
  br (!x11)
   (some (AO.mk [] 0 0 0 0 0 0 0 0,false))
   (some (AO.mk x9 x1 x2 x3 x4 x5 x6 x7 x8,true))))))
noncomputable def OE:GF:=AAd.gf rfl rfl (fun a=>me a.1) (fun a=>by kernel_rfl)
noncomputable def wD(p0:(C.l (.st 5)).D)(p1:Int)(p2:(C.l (.st 5)).D):Option (C.l (.st 5)).D:=o6 (.st 5) p0 p1 p2
noncomputable def OF:GF:=AA6 (.st 5) rfl
noncomputable def AAe:YF:=⟨[],[.v (.st 6),.v (.st 5)],[],.ret [(.st 6),.b],[.cell 4 (some 1),.tmp 5],
 sq [qu 2 0,qu 3 1,.alloc 4 [.nil],.Av [(.cell 4 0,(.l (.st 5)))],qB 5 false] (Kp 28) (sr [wn 9 [wk 1 2,wY G6 rfl],
 qn [.alloc 6 [.nil],.Av [(.cell 6 0,(.l (.st 5)))],qw 1 6 10]] (Kp 92) (.seq (.join [cv 18 .b] (qr [wn 11 [wk 1 2,wY DJ rfl,wX,wM],
 wf 14 15 [wk 2 3,wY G1 rfl,wX],
 qn [qp 18 14 17]] (Kp 262236)) (.cond 18 [4,6] (Kp 92) (sq [qL 19 1 6,qw 1 4 19,qB 5 false] [4,5] .ret) .skip)) (sr [wn 20 [wo 0 6,wL,wo 0 3,wL,wI .rem 9,wE (.l (.st 5)) 21,wL],
 qn [qa 7 26]] (Kp 220) (sq [qK 8 0] (Kp 476) (.join [cv 8 .i] (bl 0 [cv 8 .i] (.seq (.join [cv 39 .b] (.A8 (qd 0 [wn 27 [wm 8,wm 7,wZ,wB .lss 27,wM],
 wt 31 32 [wm 7,wm 8,wE (.st 5) 32,wK 2,wk 2 3,wc Bg rfl [35,36],wI .lss 0],
 qn [qq 39 31 38]] .nil) [2,3,4,6,7,8,39]) (ce 39 [2,3,4,6,7,8] (Kp 476) 0)) (.block 1 (qr [wn 40 [wm 8,wI .add 1],
 qn [qa 8 41]] (Kp 476))))) (.seq (.A8 (qd 0 [wn 42 [wo 0 6,wL,wo 0 3,wL,wI .rem 9,wm 7,wm 8,wk 2 3]] (.op 8 none [42,44] (.AW 50 1 (.st 5) [(0,(.tmp 49))])
 (.op 9 none [42,44] (.call 51 OF [] rfl [(.tmp 47),(.tmp 48),(.tmp 50)])
 (qd 10 [qn [qe 52 (.l (.st 5)) 43 46,qw 1 52 51]] .nil)))) [2,4,6]) (.seq (sw 53 [wk 1 6,wY DJ rfl,wX] [2,4,6,55] (.cond 55 [2,4] [4,6] (sr [wn 56 [wk 1 2,wY G6 rfl],
 qn [qw 1 4 57,qB 5 false]] [4,5] .ret) .skip)) (sq [qL 58 1 6,qw 1 4 58,qB 5 true] [4,5] .ret))))))))⟩
noncomputable def UP(p0:AK)(p1:AN)(x1:AK)(x5:(List AN))(v11:Int):Option (AK×Bool):=
 bd (wD x5 v11 [p1]) fun x12=>
 bd (at? x1.AJ (p1.At.tmod 9)) fun x13=>
 bd (at? x1.AJ (p1.At.tmod 9)) fun x14=>
 gd (Y.Jq (p1.At.tmod 9).toNat 0 [U.sl (C.st 5) x12].length [((p1.At.tmod 9).toNat,0)]) (
 bd (Oz (AK.mk (x1.AJ.set (p1.At.tmod 9).toNat x12))) fun x15=>
 br (!x15)
  (bd (dX p0) fun x16=>
  some (x16,false))
  (some ((AK.mk (x1.AJ.set (p1.At.tmod 9).toNat x12),true))))
noncomputable def PS(p0:AK)(p1:AN)(x1:AK)(x5:(List AN))(L6:Int->Option (AK×Bool))(v7:Int)(v10:Bool):Option (AK×Bool):=
 br v10
  (L6 (w64 (v7+1)))
  (jn (UP p0 p1 x1 x5) v7)
noncomputable def PT(p0:AK)(p1:AN)(x1:AK)(x5:(List AN))(L6:Int->Option (AK×Bool))(v7:Int):Option (AK×Bool):=
 br (decide (v7<(↑(List.length x5):Int)))
  (bd (at? x5 v7) fun x8=>
  bd (Oy x8 p1) fun x9=>
  jn (PS p0 p1 x1 x5 L6 v7) (decide (x9<0)))
  (jn (PS p0 p1 x1 x5 L6 v7) false)
noncomputable def UO(p0:AK)(p1:AN)(x1:AK)(v3:Bool):Option (AK×Bool):=
 br v3
  (some (x1,false))
  (bd (at? x1.AJ (p1.At.tmod 9)) fun x4=>
  bd (at? x1.AJ (p1.At.tmod 9)) fun x5=>
  AT (PT p0 p1 x1 x5) big 0)
noncomputable def mf(p0:AK)(p1:AN):Option (AK×Bool):=
 bd (dX p0) fun x1=>
 bd (Oz p0) fun x2=>
 br (!x2)
  (jn (UO p0 p1 x1) true)
  (bd (dF p1) fun x17=>
  jn (UO p0 p1 x1) (!x17))
noncomputable def OG:GF:=AAe.gf rfl rfl (fun a=>mf a.1 a.2.1) (fun a=>by kernel_rfl)
noncomputable def AAf:YF:=⟨[],[.v (.l (.st 5))],[],.ret [(.st 6),.b],[.cell 2 (some 1),.tmp 3],
 sq [.alloc 2 [.nil],.Av [(.cell 2 0,(.l (.st 5)))],qB 3 false] [0,2] (sq [qc 9 N8 rfl [],.alloc 4 [.nil],.Av [(.cell 4 0,(.l (.st 5)))],qw 1 4 9] (Kp 21) (.join [cx 4 (.st 6)] (sw 10 [wm 0,wZ,wj 0] (Kp 7188) (bl 0 [cv 12 .i,cx 4 (.st 6)] (sq [qb 13 .lss 12 11] (Kp 15380) (.seq (ce 13 (Kp 7188) [2,4] 0) (.seq (.block 1 (sr [wn 14 [we (.st 5) 10 12,wK 2],
 qn [.alloc 6 [.int .i64 0,.int .i64 0],qw 2 6 15]] (Kp 7252) (sr [wn 17 [wk 1 4,wk 2 6,wc OG rfl [17,18]],
 qn [qm 16 19],
 wn 20 [wh (.ext · (.tmp 16) 0),wh (.ext · (.tmp 16) 1)],
 qn [.alloc 7 [.nil],.Av [(.cell 7 0,(.l (.st 5)))],qw 1 7 20,qa 8 21]] (Kp 7572) (.seq (sw 22 [wm 8,wX] (Kp 8395924) (.cond 23 [2] (Kp 7316) (sq [.build 24 [.nil] [],.Av [(.tmp 24 0,(.l (.st 5)))],qw 1 2 24,qB 3 false] [2,3] .ret) .skip)) (q1 [qL 25 1 7,qw 1 4 25] (Kp 7188)))))) (q1 [qi 26 .add 12 1,qm 12 26] (Kp 7188))))))) (sq [qL 27 1 4,qw 1 2 27,qB 3 true] [2,3] .ret)))⟩
noncomputable def fA(v7:AK):Option (AK×Bool):=
 some (v7,true)
noncomputable def UQ(p0:(List AN))(L2:(Int×AK)->Option (AK×Bool))(x_:(Int×AK)):Option (AK×Bool):=
 match x_ with
 |(v3,v4)=>br (decide (v3<(↑p0.length:Int)))
  (bd (at? p0 v3) fun x5=>
  bd (mf v4 x5) fun x6=>
  br (!x6.snd)
   (some (AK.mk [],false))
   (L2 ((w64 (v3+1),x6.fst))))
  (jn (fA) v4)
noncomputable def mg(p0:(List AN)):Option (AK×Bool):=
 bd (rD) fun x1=>
 AT (UQ p0) big (0,x1)
noncomputable def OH:GF:=AAf.gf rfl rfl (fun a=>mg a.1) (fun a=>by kernel_rfl)
noncomputable def AAg:YF:=⟨[],[.v (.l .i),.v (.l .i)],[],.ret [.b],[.tmp 4],
 sq [qB 4 false] [0,1] (.seq (sw 6 [wm 0,wZ,wm 1,wZ,wB .neq 7] (Kp 1027) (cn 10 [0,1] (sq [qB 4 false] [4] .ret))) (.join [] (sw 11 [wm 0,wZ,wj 0] (Kp 12291) (bl 0 [cv 13 .i] (sq [qb 14 .lss 13 12] (Kp 28675) (.seq (ce 14 (Kp 12291) [] 0) (.seq (.block 1 (sq [qm 15 13,qa 5 15] (Kp 12323) (.seq (.A8 (qd 0 [wn 16 [wm 0,wm 5,wE .i 16,wL,wm 1,wm 5,wE .i 20,wL,wB .neq 19]] .nil) [0,1,12,13,24]) (cn 24 (Kp 12291) (sq [qB 4 false] [4] .ret))))) (q1 [qi 25 .add 13 1,qm 13 25] (Kp 12291))))))) (sq [qB 4 true] [4] .ret)))⟩
noncomputable def fB(_:PUnit):Option Bool:=
 some true
noncomputable def UR(p0:(List Int))(p1:(List Int))(L1:Int->Option Bool)(v2:Int):Option Bool:=
 br (decide (v2<(↑p0.length:Int)))
  (bd (at? p0 v2) fun x3=>
  bd (at? p1 v2) fun x4=>
  br (x3 != x4)
   (some false)
   (L1 (w64 (v2+1))))
  (jn (fB) ())
noncomputable def mh(p0:(List Int))(p1:(List Int)):Option Bool:=
 br ((↑p0.length:Int) != (↑p1.length:Int))
  (some false)
  (AT (UR p0 p1) big 0)
noncomputable def OI:GF:=AAg.gf rfl rfl (fun a=>mh a.1 a.2.1) (fun a=>by kernel_rfl)
noncomputable def AAh:YF:=⟨[OD],[.v (.l .i)],[],.ret [(.st 8),.b],[.cell 2 (some 15),.tmp 3],
 sq [.alloc 2 A9,.Av [(.cell 2 0,.i),(.cell 2 11,(.st 2)),(.cell 2 12,(.st 7)),(.cell 2 13,.i),(.cell 2 14,.i)],qB 3 false] [0,2,7,9,47] (sq [qm 20 0,.alloc 4 [.nil],.Av [(.cell 4 0,.i)],qw 1 4 20] [0,2,4,7,9,47] (sq [.OL 21 0 [.tmp 4],qa 5 21] (Kp 140737488356021) (sr [wn 22 [wm 5,wh (.CJ · (.tmp 22) [.v,.b] [qj 1]),wh (.ia · .i (.tmp 23) (.k (.int .i64 0))),wL],
 qn [qa 6 25]] (Kp 140737488356085) (.seq (.join [cv 34 .b] (qr [wn 26 [wm 6,wc Af rfl [26,qj 9,qj 12],wX,wM],
 wf 29 30 [wm 6,wl 4,wZ,wB .gtr 30],
 qn [qp 34 29 33]] (Kp 140754668225253)) (.cond 34 [2,7,9,47] [0,2,5,6,9,47] (sq [.build 35 A9 [],.Av [(.tmp 35 0,.i),(.tmp 35 11,(.st 2)),(.tmp 35 12,(.st 7)),(.tmp 35 13,.i),(.tmp 35 14,.i)],qw 15 2 35,qB 3 false] [2,3,7,9,47] .ret) .skip)) (sr [wn 37 [wm 5,wm 6,wh (.CJ · (.tmp 37) [.v,.b] [.tmp 38]),wY OE rfl],
 qn [qm 36 40],
 wn 41 [wh (.ext · (.tmp 36) 0),wh (.ext · (.tmp 36) 1)],
 qn [.alloc 7 B2,.Av [(.cell 7 0,.i)],qw 9 7 41,qa 8 42]] (Kp 140737488356261) (.seq (sw 43 [wm 8,wX] (Kp 158329674400421) (.cond 44 [2,7,9,47] (Kp 165) (sq [.build 45 A9 [],.Av [(.tmp 45 0,.i),(.tmp 45 11,(.st 2)),(.tmp 45 12,(.st 7)),(.tmp 45 13,.i),(.tmp 45 14,.i)],qw 15 2 45,qB 3 false] [2,3,7,9,47] .ret) .skip)) (sr [wn 46 [wk 9 7,wh (.build · A9 [(0,9,(.tmp 46))])],
 qn [.alloc 9 A9,.Av [(.cell 9 0,.i),(.cell 9 11,(.st 2)),(.cell 9 12,(.st 7)),(.cell 9 13,.i),(.cell 9 14,.i)],qw 1048591 9 47,.Av [(.cell 9 11,(.st 2)),(.cell 9 12,(.st 7)),(.cell 9 13,.i),(.cell 9 14,.i)]]] [0,2,5,7,9,47] (sr [wn 48 [wm 5,wh (.CJ · (.tmp 48) [.v,.b] [qj 3])],
 qn [qa 10 49]] (Kp 140737488357029) (.seq (.A8 (qd 0 [wn 50 [wm 10,wh (.ia · .i (.tmp 50) (.k (.int .i64 0))),wL,wm 10,wh (.ia · .i (.tmp 53) (.k (.int .i64 1))),wL,wo 9 9]] (.op 7 none [54] (.st 1 (.tmp 56) (.tmp 52))
 (qd 8 [qn [qo 57 10 9,qw 1 57 55]] .nil))) [0,2,5,7,9,10,47]) (.seq (sw 58 [wm 10,wh (.ia · .i (.tmp 58) (.k (.int .i64 2))),wL,wc Af rfl [60,qj 0,qj 40],wX] (Kp 4611826755915744933) (.cond 62 [2,7,9,47] (Kp 140737488357029) (sq [.build 63 A9 [],.Av [(.tmp 63 0,.i),(.tmp 63 11,(.st 2)),(.tmp 63 12,(.st 7)),(.tmp 63 13,.i),(.tmp 63 14,.i)],qw 15 2 63,qB 3 false] [2,3,7,9,47] .ret) .skip)) (.join [(true,4,.one,[.val (.l .i) (some (.old 0))]),(true,9,.one,[.al (.cell 7 0),.val .i none,.val .i none,.val .i none,.val .i none,.val .i none,.val .i none,.val .i none,.val .i none,.val .i none,.val .i none,.val (.l (.st 2)) none,.val (.l (.st 7)) none,.val (.l .i) none,.val (.l .i) none])] (sq [qK 11 0] (Kp 140737488359077) (bl 0 [cv 11 .i,(true,4,.one,[.val (.l .i) (some (.old 0))]),(true,9,.one,[.al (.cell 7 0),.val .i none,.val .i none,.val .i none,.val .i none,.val .i none,.val .i none,.val .i none,.val .i none,.val .i none,.val .i none,.val (.l (.st 2)) none,.val (.l (.st 7)) none,.val (.l .i) none,.val (.l .i) none])] (.seq (sw 64 [wm 11,wm 10,wh (.ia · .i (.tmp 65) (.k (.int .i64 2))),wL,wB .lss 64] (Kp 295148045916841184933) (ce 68 (Kp 140737488359077) [0,2,5,7,9,47] 0)) (.seq (.block 1 (sr [wn 71 [wm 5,wh (.CJ · (.tmp 71) [.v,.b] [qj 10])],
 qn [qa 12 72]] (Kp 140737488363173) (.A8 (qd 0 [wn 73 [wo 11 9,wL,wm 12,wh (.ia · .i (.tmp 75) (.k (.int .i64 0))),wL,wm 12,wh (.ia · .i (.tmp 78) (.k (.int .i64 1))),wL,wm 12,wh (.ia · .i (.tmp 81) (.k (.int .i64 2))),wL,wI .sub 1,wm 12,wh (.ia · .i (.tmp 85) (.k (.int .i64 3))),wL,wm 12,wh (.ia · .i (.tmp 88) (.k (.int .i64 4))),wL,wm 12,wh (.ia · .i (.tmp 91) (.k (.int .i64 5))),wL,wm 12,wh (.ia · .i (.tmp 94) (.k (.int .i64 6))),wL,wm 12,wh (.ia · .i (.tmp 97) (.k (.int .i64 7))),wL,wm 12,wh (.ia · .i (.tmp 100) (.k (.int .i64 8))),wL,wm 12,wh (.ia · .i (.tmp 103) (.k (.int .i64 9))),wL,wh (.build · BM [(0,1,(.tmp 77)),(1,1,(.tmp 80)),(2,1,(.tmp 84)),(3,1,(.tmp 87)),(4,1,(.tmp 90)),(5,1,(.tmp 93)),(6,1,(.tmp 96)),(7,1,(.tmp 99)),(8,1,(.tmp 102)),(9,1,(.tmp 105))])]] (.op 34 none [73] (.AW 107 1 (.st 2) [(0,(.tmp 106))])
 (qd 35 [wn 108 [wh (.app · (.st 2) true (.tmp 74) (.tmp 107)),wo 11 9],
 qn [qw 1 109 108]] .nil))) [0,2,5,7,9,10,11,47]))) (qr [wn 69 [wm 11,wI .add 1],
 qn [qa 11 70]] (Kp 140737488359077)))))) (.join [(true,4,.one,[.val (.l .i) (some (.old 0))]),(true,9,.one,[.al (.cell 7 0),.val .i none,.val .i none,.val .i none,.val .i none,.val .i none,.val .i none,.val .i none,.val .i none,.val .i none,.val .i none,.val (.l (.st 2)) none,.val (.l (.st 7)) none,.val (.l .i) none,.val (.l .i) none])] (sw 110 [wo 0 7,wL,wZ,wj 0] [0,2,5,7,9,47,111,112,113] (bl 2 [cv 113 .i,(true,4,.one,[.val (.l .i) (some (.old 0))]),(true,9,.one,[.al (.cell 7 0),.val .i none,.val .i none,.val .i none,.val .i none,.val .i none,.val .i none,.val .i none,.val .i none,.val .i none,.val .i none,.val (.l (.st 2)) none,.val (.l (.st 7)) none,.val (.l .i) none,.val (.l .i) none])] (sq [qb 114 .lss 113 112] [0,2,5,7,9,47,111,112,113,114] (.seq (ce 114 [0,2,5,7,9,47,111,112,113] [0,2,5,7,9,47] 2) (.seq (.block 3 (sr [wn 115 [wm 113,we .i 111 113,wL],
 qn [qa 13 115,qa 14 117]] (Kp 18173039004871896699997474640650917) (sr [wn 118 [wk 9 7,wo 11 9,wL,wm 13,wo 9 9,wL,wc G4 rfl [118,120,121,123],wh (.build · Cn [(5,1,(.tmp 124))])],
 qn [.Av [(.tmp 125 6,(.l (.st 5)))],.alloc 15 Cn,.Av [(.cell 15 5,(.st 4)),(.cell 15 6,(.l (.st 5)))],qw 7 15 125]] (Kp 18173039004871896699997474640683685) (.seq (.A8 (qd 0 [wn 126 [wm 14,wm 5]] (qd 5 [wn 131 [wo 11 9,wL,wm 13]] (qd 9 [wn 135 [wo 11 9,wL,wm 13]] (.both 0 (.op 2 none [131,135] (.CJ 128 (.tmp 127) [.v,.b] [(.k (.int .i64 1))])
 (qd 3 [wn 129 [wh (.ia · .i (.tmp 128) (.k (.int .i64 0))),wL]] (.both 0 (.op 8 none [129,135] (.call 134 DK [] rfl [(.tmp 132),(.tmp 133)])
 (.both 0 (.op 12 none [129] (.call 138 Cg [] rfl [(.tmp 136),(.tmp 137)])
 (.op 13 none [] (.build 139 Bf [(0,1,(.tmp 126)),(1,1,(.tmp 130)),(2,1,(.tmp 134)),(4,1,(.tmp 138))])
 (.op 14 none [129,131,135] (.alloc 16 Bf)
 (.op 15 none [] (.st 5 (.tmp 16) (.tmp 139))
 (.dr [126,127,128,129,130,131,132,133,134,135,136,137,138,139] .nil))))) (.op 14 none [129,131,135] (.alloc 16 Bf)
 (.op 12 none [129] (.call 138 Cg [] rfl [(.tmp 136),(.tmp 137)])
 (.op 13 none [] (.build 139 Bf [(0,1,(.tmp 126)),(1,1,(.tmp 130)),(2,1,(.tmp 134)),(4,1,(.tmp 138))])
 (.op 15 none [] (.st 5 (.tmp 16) (.tmp 139))
 (.dr [126,127,128,129,130,131,132,133,134,135,136,137,138,139] .nil))))))) (.op 14 none [129,131,135] (.alloc 16 Bf)
 (.op 8 none [129,135] (.call 134 DK [] rfl [(.tmp 132),(.tmp 133)])
 (.op 12 none [129] (.call 138 Cg [] rfl [(.tmp 136),(.tmp 137)])
 (.op 13 none [] (.build 139 Bf [(0,1,(.tmp 126)),(1,1,(.tmp 130)),(2,1,(.tmp 134)),(4,1,(.tmp 138))])
 (.op 15 none [] (.st 5 (.tmp 16) (.tmp 139))
 (.dr [126,127,128,129,130,131,132,133,134,135,136,137,138,139] .nil))))))))) (.op 14 none [131,135] (.alloc 16 Bf)
 (.op 2 none [131,135] (.CJ 128 (.tmp 127) [.v,.b] [(.k (.int .i64 1))])
 (qd 3 [wn 129 [wh (.ia · .i (.tmp 128) (.k (.int .i64 0))),wL]] (.op 8 none [129,135] (.call 134 DK [] rfl [(.tmp 132),(.tmp 133)])
 (.op 12 none [129] (.call 138 Cg [] rfl [(.tmp 136),(.tmp 137)])
 (.op 13 none [] (.build 139 Bf [(0,1,(.tmp 126)),(1,1,(.tmp 130)),(2,1,(.tmp 134)),(4,1,(.tmp 138))])
 (.op 15 none [] (.st 5 (.tmp 16) (.tmp 139))
 (.dr [126,127,128,129,130,131,132,133,134,135,136,137,138,139] .nil)))))))))))) [0,2,5,7,9,13,14,15,16,47,111,112,113]) (sr [wn 140 [wm 14,wo 1 16,wL,wB .sub 140,wo 2 16,wL,wB .sub 143,wo 3 16],
 qn [qw 1 147 146]] (Kp 18173039004871896699997474640732837) (sr [wn 148 [wk 5 16,wo 0 15],
 qn [qw 5 149 148]] (Kp 18173039004871896699997474640667301) (sr [wn 151 [wo 11 9,wL,wm 13,wc Gz rfl [152,153],wY OH rfl],
 qn [qm 150 155],
 wn 156 [wh (.ext · (.tmp 150) 0),wh (.ext · (.tmp 150) 1),wo 6 15],
 qn [qw 1 158 156]] [0,2,5,7,9,15,47,111,112,113] (qr [wn 159 [wo 12 9,wL,wk 7 15,wh (.AW · 1 (.st 7) [(0,(.tmp 161))]),wh (.app · (.st 7) false (.tmp 160) (.tmp 162)),wo 12 9],
 qn [qw 1 164 163]] [0,2,5,7,9,47,111,112,113])))))))) (q1 [qi 165 .add 113 1,qm 113 165] [0,2,5,7,9,47,111,112,113])))))) (sr [wn 166 [wm 5,wh (.CJ · (.tmp 166) [.v,.b] [qj 1]),wh (.ia · .i (.tmp 167) (.k (.int .i64 0))),wL],
 qn [qa 17 169]] (Kp 140737488487077) (.seq (sw 170 [wm 17,wc Af rfl [170,qj 0,qj 4],wX] [0,2,5,7,9,17,47,172] (.cond 172 [2,7,9,47] (Kp 140737488487077) (sq [.build 173 A9 [],.Av [(.tmp 173 0,.i),(.tmp 173 11,(.st 2)),(.tmp 173 12,(.st 7)),(.tmp 173 13,.i),(.tmp 173 14,.i)],qw 15 2 173,qB 3 false] [2,3,7,9,47] .ret) .skip)) (sr [wn 174 [wm 5,wm 17,wh (.CJ · (.tmp 174) [.v,.b] [.tmp 175]),wY EO rfl,wo 13 9],
 qn [qw 1 178 177]] [0,2,5,7,9,47] (.join [(true,9,.one,[.al (.cell 7 0),.val .i none,.val .i none,.val .i none,.val .i none,.val .i none,.val .i none,.val .i none,.val .i none,.val .i none,.val .i none,.val (.l (.st 2)) none,.val (.l (.st 7)) none,.val (.l .i) none,.val (.l .i) none])] (sw 179 [wm 5,wo 8 7,wL,wh (.CJ · (.tmp 179) [.v,.b] [.tmp 181]),wZ,wj 0] [0,2,7,9,47,182,183,184] (bl 4 [cv 184 .i,(true,9,.one,[.al (.cell 7 0),.val .i none,.val .i none,.val .i none,.val .i none,.val .i none,.val .i none,.val .i none,.val .i none,.val .i none,.val .i none,.val (.l (.st 2)) none,.val (.l (.st 7)) none,.val (.l .i) none,.val (.l .i) none])] (sq [qb 185 .lss 184 183] [0,2,7,9,47,182,183,184,185] (.seq (ce 185 [0,2,7,9,47,182,183,184] [0,2,7,9,47] 4) (.seq (.block 5 (sr [wn 186 [we .i 182 184,wL],
 qn [qa 19 187]] [0,2,7,9,19,47,182,183,184] (qr [wn 188 [wo 14 9,wL,wm 19,wI .sub 1,wh (.AW · 1 .i [(0,(.tmp 191))]),wh (.app · .i true (.tmp 189) (.tmp 192)),wo 14 9],
 qn [qw 1 194 193]] [0,2,7,9,47,182,183,184]))) (q1 [qi 195 .add 184 1,qm 184 195] [0,2,7,9,47,182,183,184])))))) (.seq (.join [cv 205 .b] (qr [wn 196 [wk 15 9,wY Dh rfl,wX,wM],
 wf 199 200 [wk 15 9,wY G8 rfl,wm 0,wc OI rfl [201,202],wX],
 qn [qp 205 199 204]] [2,7,9,47,205]) (.cond 205 [2,7,9,47] [2,7,9,47] (sq [.build 206 A9 [],.Av [(.tmp 206 0,.i),(.tmp 206 11,(.st 2)),(.tmp 206 12,(.st 7)),(.tmp 206 13,.i),(.tmp 206 14,.i)],qw 15 2 206,qB 3 false] [2,3,7,9,47] .ret) .skip)) (sq [qL 207 15 9,qw 1048591 2 207,qB 3 true] [2,3,7,9,47] .ret))))))))))))))))))⟩
noncomputable def UU(x6:(AO×Bool))(v133:Int)(v134:Int)(v135:Int)(v136:Int)(v137:Int)(v138:Int)(v139:Int)(v140:Int)(v141:Int)(v142:Int)(v143:(List AI))(v144:(List Am))(v145:(List Int))(v146:(List Int))(v148:Bool):Option (AF×Bool):=
 br v148
  (some ((AF.mk (AO.mk [] 0 0 0 0 0 0 0 0) 0 0 [] [] [] [],false)))
  (some ((AF.mk (AO.mk x6.fst.AM v133 v134 v135 v136 v137 v138 v139 v140) v141 v142 v143 v144 v145 v146,true)))
noncomputable def Kz(p0:(List Int))(x6:(AO×Bool))(x_:(PUnit×Int×Int×Int×Int×Int×Int×Int×Int×Int×Int×(List AI)×(List Am)×(List Int)×(List Int))):Option (AF×Bool):=
 match x_ with
 |(v132,v133,v134,v135,v136,v137,v138,v139,v140,v141,v142,v143,v144,v145,v146)=>bd (Tj (AF.mk (AO.mk x6.fst.AM v133 v134 v135 v136 v137 v138 v139 v140) v141 v142 v143 v144 v145 v146)) fun x147=>
 br (!x147)
  (jn (UU x6 v133 v134 v135 v136 v137 v138 v139 v140 v141 v142 v143 v144 v145 v146) true)
  (bd (NG (AF.mk (AO.mk x6.fst.AM v133 v134 v135 v136 v137 v138 v139 v140) v141 v142 v143 v144 v145 v146)) fun x149=>
  bd (mh x149 p0) fun x150=>
  jn (UU x6 v133 v134 v135 v136 v137 v138 v139 v140 v141 v142 v143 v144 v145 v146) (!x150))
noncomputable def UX(p0:(List Int))(x6:(AO×Bool))(x113:((List Int)×(List Int)))(L114:(Int×PUnit×Int×Int×Int×Int×Int×Int×Int×Int×Int×Int×(List AI)×(List Am)×(List Int)×(List Int))->Option (AF×Bool))(x_:(Int×PUnit×Int×Int×Int×Int×Int×Int×Int×Int×Int×Int×(List AI)×(List Am)×(List Int)×(List Int))):Option (AF×Bool):=
 match x_ with
 |(v115,v116,v117,v118,v119,v120,v121,v122,v123,v124,v125,v126,v127,v128,v129,v130)=>br (decide (v115<(↑(List.length x113.fst):Int)))
  (bd (at? x113.fst v115) fun x131=>
  gd (v130.length+[w64 (x131-1)].length<=lim) (
  L114 ((w64 (v115+1),(),v117,v118,v119,v120,v121,v122,v123,v124,v125,v126,v127,v128,v129,v130++[w64 (x131-1)]))))
  (jn (Kz p0 x6) (((),v117,v118,v119,v120,v121,v122,v123,v124,v125,v126,v127,v128,v129,v130)))
noncomputable def UT(p0:(List Int))(x6:(AO×Bool))(x_:((List Int)×PUnit×Int×Int×Int×Int×Int×Int×Int×Int×Int×Int×(List AI)×(List Am)×(List Int)×(List Int))):Option (AF×Bool):=
 match x_ with
 |(v92,v93,v94,v95,v96,v97,v98,v99,v100,v101,v102,v103,v104,v105,v106,v107)=>bd (E8 1 v92) fun x108=>
 bd (at? x108.fst 0) fun x109=>
 bd (Ce x109 0 4) fun x110=>
 br (!x110)
  (some ((AF.mk (AO.mk [] 0 0 0 0 0 0 0 0) 0 0 [] [] [] [],false)))
  (bd (E8 x109 x108.snd) fun x111=>
  bd (T3 x111.fst) fun x112=>
  bd (E8 x6.fst.Bd x111.snd) fun x113=>
  AT (UX p0 x6 x113) big ((0,(),v94,v95,v96,v97,v98,v99,v100,v101,v102,v103,v104,v105,x112,v107)))
noncomputable def fC(p0:(List Int))(x6:(AO×Bool))(L58:(Int×(List Int)×PUnit×Int×Int×Int×Int×Int×Int×Int×Int×Int×Int×(List AI)×(List Am)×(List Int)×(List Int))->Option (AF×Bool))(x_:(Int×(List Int)×PUnit×Int×Int×Int×Int×Int×Int×Int×Int×Int×Int×(List AI)×(List Am)×(List Int)×(List Int))):Option (AF×Bool):=
 match x_ with
 |(v59,v60,v61,v62,v63,v64,v65,v66,v67,v68,v69,v70,v71,v72,v73,v74,v75)=>br (decide (v59<(↑x6.fst.AM.length:Int)))
  (bd (at? x6.fst.AM v59) fun x76=>
  bd (at? x6.fst.AM v59) fun x77=>
  bd (TQ x6.fst v72 v59 v70) fun x78=>
  bd (E8 1 v60) fun x79=>
  bd (at? x79.fst 0) fun x80=>
  bd (Tc v72 v59) fun x81=>
  bd (Rf v72 v59) fun x82=>
  bd (Rf v72 v59) fun x83=>
  ev4 x77 x80 x81 (0:Int) (
  eqv x82 x83 (
  bd (Tc v72 v59) fun x84=>
  bd (Rf v72 v59) fun x85=>
  ev2 x77 x80 (
  eqv x81 x84 (
  eqv (α:=Int) 0 0 (
  eqv x82 x85 (
  bd (E8 1 v60) fun x86=>
  bd (at? x86.fst 0) fun x87=>
  bd (Tc v72 v59) fun x88=>
  bd (Rf v72 v59) fun x89=>
  eqv x79.snd x86.snd (
  eqv x77 x77 (
  eqv x80 x87 (
  eqv x81 x88 (
  eqv (α:=Int) 0 0 (
  eqv x82 x89 (
  bd (TF v72 v59) fun x90=>
  bd (mg x90) fun x91=>
  gd (List.length v73+[Am.mk (BH.mk x77 x80 x81 (w64 (w64 (x77-x80)-x81)) x82) x78 x91.fst].length<=lim) (
  L58 ((w64 (v59+1),x79.snd,(),v62,v63,v64,v65,v66,v67,v68,v69,v70,v71,v72,v73++[Am.mk (BH.mk x77 x80 x81 (w64 (w64 (x77-x80)-x81)) x82) x78 x91.fst],v74,v75))))))))))))))))
  (jn (UT p0 x6) ((v60,(),v62,v63,v64,v65,v66,v67,v68,v69,v70,v71,v72,v73,v74,v75)))
noncomputable def US(p0:(List Int))(x6:(AO×Bool))(x_:((List Int)×PUnit×Int×Int×Int×Int×Int×Int×Int×Int×Int×Int×(List AI)×(List Am)×(List Int)×(List Int))):Option (AF×Bool):=
 match x_ with
 |(v42,v43,v44,v45,v46,v47,v48,v49,v50,v51,v52,v53,v54,v55,v56,v57)=>AT (fC p0 x6) big ((0,v42,(),v44,v45,v46,v47,v48,v49,v50,v51,v52,v53,v54,v55,v56,v57))
noncomputable def UW(p0:(List Int))(x6:(AO×Bool))(x7:((List Int)×(List Int)))(L12:(Int×(List Int)×PUnit×Int×Int×Int×Int×Int×Int×Int×Int×Int×Int×(List AI)×(List Am)×(List Int)×(List Int))->Option (AF×Bool))(x_:(Int×(List Int)×PUnit×Int×Int×Int×Int×Int×Int×Int×Int×Int×Int×(List AI)×(List Am)×(List Int)×(List Int))):Option (AF×Bool):=
 match x_ with
 |(v13,v14,v15,v16,v17,v18,v19,v20,v21,v22,v23,v24,v25,v26,v27,v28,v29)=>bd (at? x7.fst 2) fun x30=>
 br (decide (v13<x30))
  (bd (E8 10 v14) fun x31=>
  bd (at? x31.fst 0) fun x32=>
  bd (at? x31.fst 1) fun x33=>
  bd (at? x31.fst 2) fun x34=>
  bd (at? x31.fst 3) fun x35=>
  bd (at? x31.fst 4) fun x36=>
  bd (at? x31.fst 5) fun x37=>
  bd (at? x31.fst 6) fun x38=>
  bd (at? x31.fst 7) fun x39=>
  bd (at? x31.fst 8) fun x40=>
  bd (at? x31.fst 9) fun x41=>
  gd (List.length v26+[AI.mk x32 x33 (w64 (x34-1)) x35 x36 x37 x38 x39 x40 x41].length<=lim) (
  L12 ((w64 (v13+1),x31.snd,(),v16,v17,v18,v19,v20,v21,v22,v23,v24,v25,v26++[AI.mk x32 x33 (w64 (x34-1)) x35 x36 x37 x38 x39 x40 x41],v27,v28,v29))))
  (jn (US p0 x6) ((v14,(),v16,v17,v18,v19,v20,v21,v22,v23,v24,v25,v26,v27,v28,v29)))
noncomputable def Ky(p0:(List Int))(x1:((List Int)×(List Int)))(x2:Int)(v4:Bool):Option (AF×Bool):=
 br v4
  (some ((AF.mk (AO.mk [] 0 0 0 0 0 0 0 0) 0 0 [] [] [] [],false)))
  (bd (E8 x2 x1.snd) fun x5=>
  bd (me x5.fst) fun x6=>
  br (!x6.snd)
   (some ((AF.mk (AO.mk [] 0 0 0 0 0 0 0 0) 0 0 [] [] [] [],false)))
   (bd (E8 3 x5.snd) fun x7=>
   bd (at? x7.fst 0) fun x8=>
   bd (at? x7.fst 1) fun x9=>
   bd (at? x7.fst 2) fun x10=>
   bd (Ce x10 0 40) fun x11=>
   br (!x11)
    (some ((AF.mk (AO.mk [] 0 0 0 0 0 0 0 0) 0 0 [] [] [] [],false)))
    (AT (UW p0 x6 x7) big ((0,x7.snd,(),x6.fst.BG,x6.fst.Room,x6.fst.As,x6.fst.A2,x6.fst.Ax,x6.fst.Rest,x6.fst.BA,x6.fst.Bd,x8,x9,[],[],[],[])))))
noncomputable def Rh(p0:(List Int)):Option (AF×Bool):=
 bd (E8 1 p0) fun x1=>
 bd (at? x1.fst 0) fun x2=>
 bd (Ce x2 9 12) fun x3=>
 br (!x3)
  (jn (Ky p0 x1 x2) true)
  (jn (Ky p0 x1 x2) (decide (x2>(↑(List.length x1.snd):Int))))
noncomputable def IK:GF:=AAh.gf rfl rfl (fun a=>Rh a.1) (fun a=>by kernel_rfl)
noncomputable def AAi:YF:=⟨[],[.b (.st 16)],[],.ret [.i],[.tmp 2],
 sq [qK 2 0] [0] (.seq (.seq (.A8 (qd 0 [qn [qm 3 0,.chk 4 (.tmp 3)],
 wn 5 [wO 1,wL,wm 0],
 qn [.chk 8 (.tmp 7)],
 wn 9 [wO 0,wL,wZ,wB .geq 6]] .nil) [0,12]) (.cond 12 [0] [0] (sq [qm 13 0,.chk 14 (.tmp 13),qo 15 2 14,.st 1 (.tmp 15) (.k (.bool true))] [0] (sq [qK 2 0] [0,2] .ret)) .skip)) (sr [wn 16 [wm 0,wm 0],
 qn [.chk 18 (.tmp 17)],
 wn 19 [wO 1,wL,wI .add 1],
 qn [.chk 22 (.tmp 16),qo 23 1 22,qw 1 23 21]] [0] (.seq (.A8 (qd 0 [qn [qm 24 0,.chk 25 (.tmp 24)],
 wn 26 [wO 0,wL,wm 0],
 qn [.chk 29 (.tmp 28)],
 wn 30 [wO 1,wL,wI .sub 1,wE .i 27,wL],
 qn [qa 2 34]] .nil) [0,2]) .ret)))⟩
noncomputable def Ri(p0:BQ):Option (Int×BQ):=
 br (decide (p0.at_>=(↑p0.Lg.length:Int)))
  (some (0,BQ.mk p0.Lg p0.at_ true))
  (bd (at? p0.Lg (w64 (w64 (p0.at_+1)-1))) fun x1=>
  some ((x1,BQ.mk p0.Lg (w64 (p0.at_+1)) p0.cD)))
noncomputable def HC:GF:=AAi.gf rfl rfl (fun a=>Ri a.1) (fun a=>by kernel_rfl)
noncomputable def AAj:YF:=⟨[],[.b (.st 16),.v .i],[],.ret [.i],[.tmp 4],
 sq [qK 4 0] [0,1] (sr [wn 6 [wm 0,wY HC rfl],
 qn [qa 5 7]] (Kp 35) (.seq (sw 8 [wm 5,wm 1,wc Az rfl [8,qj 0,9],wX] (Kp 2081) (.cond 11 [0] [0,5] (sq [qm 12 0,.chk 13 (.tmp 12),qo 14 2 13,.st 1 (.tmp 14) (.k (.bool true))] [0] (sq [qK 4 0] [0,4] .ret)) .skip)) (sq [qm 15 5,qa 4 15] [0,4] .ret)))⟩
noncomputable def Rj(p0:BQ)(p1:Int):Option (Int×BQ):=
 bd (Ri p0) fun x1=>
 bd (CY x1.fst 0 p1) fun x2=>
 br (!x2)
  (some (0,BQ.mk x1.snd.Lg x1.snd.at_ true))
  (some (x1.fst,x1.snd))
noncomputable def Jn:GF:=AAj.gf rfl rfl (fun a=>Rj a.1 a.2.1) (fun a=>by kernel_rfl)
noncomputable def AAk:YF:=⟨[],[.b (.st 16),.v .i],[],.ret [(.l .i)],[.tmp 4],
 sq [.as 4 (.k .nil),.Av [(.tmp 4 0,.i)]] [0,1] (sq [.AW 7 0 .i [],qa 5 7] (Kp 35) (.join [cv 5 (.l .i),(true,0,.one,[.val (.st 16) (some (.old 0))])] (sq [qK 6 0] (Kp 99) (bl 0 [cv 5 (.l .i),cv 6 .i,(true,0,.one,[.val (.st 16) (some (.old 0))])] (.seq (sw 8 [wm 6,wm 1,wB .lss 8] (Kp 1123) (ce 10 (Kp 99) [0,5] 0)) (.seq (.block 1 (qr [wn 13 [wm 5,wm 0,wY HC rfl,wh (.AW · 1 .i [(0,(.tmp 15))]),wh (.app · .i true (.tmp 13) (.tmp 16))],
 qn [qa 5 17]] (Kp 99))) (qr [wn 11 [wm 6,wI .add 1],
 qn [qa 6 12]] (Kp 99)))))) (sq [qm 18 5,qa 4 18] [0,4] .ret)))⟩
noncomputable def fD(x_:((List Int)×BQ)):Option ((List Int)×BQ):=
 match x_ with
 |(v6,v7)=>some (v6,v7)
noncomputable def UY(p1:Int)(L1:((List Int)×Int×BQ)->Option ((List Int)×BQ))(x_:((List Int)×Int×BQ)):Option ((List Int)×BQ):=
 match x_ with
 |(v2,v3,v4)=>br (decide (v3<p1))
  (bd (Ri v4) fun x5=>
  gd (List.length v2+[x5.fst].length<=lim) (
  L1 ((v2++[x5.fst],w64 (v3+1),x5.snd))))
  (jn (fD) (v2,v4))
noncomputable def Rk(p0:BQ)(p1:Int):Option ((List Int)×BQ):=
 AT (UY p1) big ([],0,p0)
noncomputable def Jo:GF:=AAk.gf rfl rfl (fun a=>Rk a.1 a.2.1) (fun a=>by kernel_rfl)
noncomputable def AAl:YF:=⟨[],[.v (.l .i)],[],.ret [(.st 1),.b],[.cell 2 (some 9),.tmp 3],
 sq [.alloc 2 B2,.Av [(.cell 2 0,.i)],qB 3 false] [0,2] (.seq (sw 5 [wm 0,wZ,wI .lss 9] (Kp 133) (.cond 7 [2] [0,2] (sq [.build 8 B2 [],.Av [(.tmp 8 0,.i)],qw 9 2 8,qB 3 false] [2,3] .ret) .skip)) (.seq (.A8 (qd 0 [wn 9 [wm 0,wh (.ia · .i (.tmp 9) (.k (.int .i64 0))),wL,wm 0,wh (.ia · .i (.tmp 12) (.k (.int .i64 1))),wL,wm 0,wh (.ia · .i (.tmp 15) (.k (.int .i64 2))),wL,wm 0,wh (.ia · .i (.tmp 18) (.k (.int .i64 3))),wL,wm 0,wh (.ia · .i (.tmp 21) (.k (.int .i64 4))),wL,wm 0,wh (.ia · .i (.tmp 24) (.k (.int .i64 5))),wL,wm 0,wh (.ia · .i (.tmp 27) (.k (.int .i64 6))),wL,wm 0,wh (.ia · .i (.tmp 30) (.k (.int .i64 7))),wL]] (qd 25 [wn 34 [wm 0,wh (.sub · .i (.tmp 34) (some (.k (.int .i64 8))) none)]] (.both 0 (.op 24 none [10,13,16,19,22,25,28,31] (.AW 33 0 .i [])
 (.both 0 (.op 27 none [10,13,16,19,22,25,28,31] (.app 36 .i true (.tmp 33) (.tmp 35))
 (.op 28 none [] (.build 37 B2 [(1,1,(.tmp 11)),(2,1,(.tmp 14)),(3,1,(.tmp 17)),(4,1,(.tmp 20)),(5,1,(.tmp 23)),(6,1,(.tmp 26)),(7,1,(.tmp 29)),(8,1,(.tmp 32)),(0,1,(.tmp 36))])
 (.op 29 none [10,13,16,19,22,25,28,31] (.alloc 4 B2)
 (.nl [(.cell 4 0,.i)] (.op 30 none [] (.st 9 (.tmp 4) (.tmp 37))
 (.dr [9,10,11,12,13,14,15,16,17,18,19,20,21,22,23,24,25,26,27,28,29,30,31,32,33,34,35,36,37] .nil)))))) (.op 29 none [10,13,16,19,22,25,28,31] (.alloc 4 B2)
 (.nl [(.cell 4 0,.i)] (.op 27 none [10,13,16,19,22,25,28,31] (.app 36 .i true (.tmp 33) (.tmp 35))
 (.op 28 none [] (.build 37 B2 [(1,1,(.tmp 11)),(2,1,(.tmp 14)),(3,1,(.tmp 17)),(4,1,(.tmp 20)),(5,1,(.tmp 23)),(6,1,(.tmp 26)),(7,1,(.tmp 29)),(8,1,(.tmp 32)),(0,1,(.tmp 36))])
 (.op 30 none [] (.st 9 (.tmp 4) (.tmp 37))
 (.dr [9,10,11,12,13,14,15,16,17,18,19,20,21,22,23,24,25,26,27,28,29,30,31,32,33,34,35,36,37] .nil)))))))) (.op 29 none [10,13,16,19,22,25,28,31] (.alloc 4 B2)
 (.nl [(.cell 4 0,.i)] (.op 24 none [10,13,16,19,22,25,28,31] (.AW 33 0 .i [])
 (.op 27 none [10,13,16,19,22,25,28,31] (.app 36 .i true (.tmp 33) (.tmp 35))
 (.op 28 none [] (.build 37 B2 [(1,1,(.tmp 11)),(2,1,(.tmp 14)),(3,1,(.tmp 17)),(4,1,(.tmp 20)),(5,1,(.tmp 23)),(6,1,(.tmp 26)),(7,1,(.tmp 29)),(8,1,(.tmp 32)),(0,1,(.tmp 36))])
 (.op 30 none [] (.st 9 (.tmp 4) (.tmp 37))
 (.dr [9,10,11,12,13,14,15,16,17,18,19,20,21,22,23,24,25,26,27,28,29,30,31,32,33,34,35,36,37] .nil)))))))))) [2,4]) (.seq (sw 38 [wk 9 4,wY Dv rfl,wX] [2,4,40] (.cond 40 [2] [2,4] (sq [.build 41 B2 [],.Av [(.tmp 41 0,.i)],qw 9 2 41,qB 3 false] [2,3] .ret) .skip)) (sq [qL 42 9 4,qw 9 2 42,qB 3 true] [2,3] .ret))))⟩
noncomputable def mi(p0:(List Int)):Option (AO×Bool):=
 br (decide ((↑p0.length:Int)<9))
  (some (AO.mk [] 0 0 0 0 0 0 0 0,false))
  (bd (at? p0 0) fun x1=>
  bd (at? p0 1) fun x2=>
  bd (at? p0 2) fun x3=>
  bd (at? p0 3) fun x4=>
  bd (at? p0 4) fun x5=>
  bd (at? p0 5) fun x6=>
  bd (at? p0 6) fun x7=>
  bd (at? p0 7) fun x8=>
  gd ((0:Int)<=8/\8<=(↑p0.length:Int)) (
  gd (0+(List.drop (Int.toNat 8) p0).length<=lim) (
  gd (0+(List.drop (Int.toNat 8) p0).length<=lim) (
  ev8 ([]++List.drop (Int.toNat 8) p0) x1 x2 x3 x4 x5 x6 x7 (
  eqv x8 x8 (
  gd (0+(List.drop (Int.toNat 8) p0).length<=lim) (
  ev8 ([]++List.drop (Int.toNat 8) p0) x1 x2 x3 x4 x5 x6 x7 (
  eqv x8 x8 (
  bd (ZO (AO.mk ([]++List.drop (Int.toNat 8) p0) x1 x2 x3 x4 x5 x6 x7 x8)) fun x9=>
  br (!x9)
   (some (AO.mk [] 0 0 0 0 0 0 0 0,false))
   (some ((AO.mk ([]++List.drop (Int.toNat 8) p0) x1 x2 x3 x4 x5 x6 x7 x8,true))))))))))))
noncomputable def jR:GF:=AAl.gf rfl rfl (fun a=>mi a.1) (fun a=>by kernel_rfl)
noncomputable def AAm:YF:=⟨[],[.b (.st 16)],[],.ret [(.st 2)],[.cell 2 (some 10)],
 sq [.alloc 2 BM] [0,2] (sr [wn 4 [wm 0,wc Jo rfl [4,qj 10]],
 qn [qa 3 5]] (Kp 13) (.seq (.A8 (qd 0 [wn 6 [wm 3,wh (.ia · .i (.tmp 6) (.k (.int .i64 0))),wL,wm 3,wh (.ia · .i (.tmp 9) (.k (.int .i64 1))),wL,wm 3,wh (.ia · .i (.tmp 12) (.k (.int .i64 2))),wL]] (qd 11 [wn 17 [wm 3,wh (.ia · .i (.tmp 17) (.k (.int .i64 3))),wL,wm 3,wh (.ia · .i (.tmp 20) (.k (.int .i64 4))),wL,wm 3,wh (.ia · .i (.tmp 23) (.k (.int .i64 5))),wL,wm 3,wh (.ia · .i (.tmp 26) (.k (.int .i64 6))),wL,wm 3,wh (.ia · .i (.tmp 29) (.k (.int .i64 7))),wL,wm 3,wh (.ia · .i (.tmp 32) (.k (.int .i64 8))),wL,wm 3,wh (.ia · .i (.tmp 35) (.k (.int .i64 9))),wL]] (.op 9 none [7,10,18,21,24,27,30,33,36] (.call 15 HD [] rfl [(.tmp 14),(.k (.int .i64 0))])
 (.op 10 none [] (.bin 16 .num .sub (.tmp 15) (.k (.int .i64 1)))
 (qd 32 [qn [.build 38 BM [(0,1,(.tmp 8)),(1,1,(.tmp 11)),(2,1,(.tmp 16)),(3,1,(.tmp 19)),(4,1,(.tmp 22)),(5,1,(.tmp 25)),(6,1,(.tmp 28)),(7,1,(.tmp 31)),(8,1,(.tmp 34)),(9,1,(.tmp 37))],qw 10 2 38]] .nil))))) [0,2]) .ret))⟩
noncomputable def mj(p0:BQ):Option (AI×BQ):=
 bd (Rk p0 10) fun x1=>
 bd (at? x1.fst 0) fun x2=>
 bd (at? x1.fst 0) fun x3=>
 bd (at? x1.fst 1) fun x4=>
 bd (at? x1.fst 1) fun x5=>
 bd (at? x1.fst 2) fun x6=>
 bd (at? x1.fst 2) fun x7=>
 bd (at? x1.fst 3) fun x8=>
 bd (at? x1.fst 3) fun x9=>
 bd (at? x1.fst 4) fun x10=>
 bd (at? x1.fst 4) fun x11=>
 bd (at? x1.fst 5) fun x12=>
 bd (at? x1.fst 5) fun x13=>
 bd (at? x1.fst 6) fun x14=>
 bd (at? x1.fst 6) fun x15=>
 bd (at? x1.fst 7) fun x16=>
 bd (at? x1.fst 7) fun x17=>
 bd (at? x1.fst 8) fun x18=>
 bd (at? x1.fst 8) fun x19=>
 bd (at? x1.fst 9) fun x20=>
 bd (at? x1.fst 9) fun x21=>
 bd (jE x7 0) fun x22=>
 some ((AI.mk x3 x5 (w64 (x22-1)) x9 x11 x13 x15 x17 x19 x21,x1.snd))
noncomputable def jS:GF:=AAm.gf rfl rfl (fun a=>mj a.1) (fun a=>by kernel_rfl)
noncomputable def AAn:YF:=⟨[],[.v (.l (.st 5))],[],.ret [(.st 6),.b],[.cell 2 (some 1),.tmp 3],
 sq [.alloc 2 [.nil],.Av [(.cell 2 0,(.l (.st 5)))],qB 3 false] [0,2] (sq [qc 8 Dx rfl [],.alloc 4 [.nil],.Av [(.cell 4 0,(.l (.st 5)))],qw 1 4 8] (Kp 21) (.join [cx 4 (.st 6)] (sq [qK 5 0] (Kp 53) (bl 0 [cv 5 .i,cx 4 (.st 6)] (.seq (sw 9 [wm 5,wm 0,wZ,wB .lss 9] (Kp 4149) (ce 12 (Kp 53) [2,4] 0)) (.seq (.block 1 (.seq (.A8 (qd 0 [wn 16 [wk 1 4,wm 0,wm 5,wE (.st 5) 17,wK 2]] (.both 0 (qd 5 [qn [qc 21 El rfl [16,20],qm 15 21],
 wn 22 [wh (.ext · (.tmp 15) 0),wh (.ext · (.tmp 15) 1)]] (.op 9 none [4,19] (.alloc 6 [.nil])
 (.nl [(.cell 6 0,(.l (.st 5)))] (qd 10 [qn [qw 1 6 22,qa 7 23]] (.dr [15,16,17,18,19,20,21,22,23] .nil))))) (.op 9 none [4,19] (.alloc 6 [.nil])
 (.nl [(.cell 6 0,(.l (.st 5)))] (qd 5 [qn [qc 21 El rfl [16,20],qm 15 21],
 wn 22 [wh (.ext · (.tmp 15) 0),wh (.ext · (.tmp 15) 1)]] (qd 10 [qn [qw 1 6 22,qa 7 23]] (.dr [15,16,17,18,19,20,21,22,23] .nil))))))) [0,2,4,5,6,7]) (.seq (sw 24 [wm 7,wX] (Kp 33554549) (.cond 25 [2] (Kp 117) (sq [.build 26 [.nil] [],.Av [(.tmp 26 0,(.l (.st 5)))],qw 1 2 26,qB 3 false] [2,3] .ret) .skip)) (q1 [qL 27 1 6,qw 1 4 27] (Kp 53))))) (qr [wn 13 [wm 5,wI .add 1],
 qn [qa 5 14]] (Kp 53)))))) (sq [qL 28 1 4,qw 1 2 28,qB 3 true] [2,3] .ret)))⟩
noncomputable def fE(v8:AK):Option (AK×Bool):=
 some (v8,true)
noncomputable def UZ(p0:(List AN))(L2:(Int×AK)->Option (AK×Bool))(x_:(Int×AK)):Option (AK×Bool):=
 match x_ with
 |(v3,v4)=>br (decide (v3<(↑p0.length:Int)))
  (bd (at? p0 v3) fun x5=>
  bd (UH v4 x5) fun x6=>
  bd (UH v4 x5) fun x7=>
  eqv x6.snd x7.snd (
  eqv x6.fst.AJ x7.fst.AJ (
  br (!x6.snd)
   (some (AK.mk [],false))
   (L2 ((w64 (v3+1),x6.fst))))))
  (jn (fE) v4)
noncomputable def ml(p0:(List AN)):Option (AK×Bool):=
 bd (T2) fun x1=>
 AT (UZ p0) big (0,x1)
noncomputable def jT:GF:=AAn.gf rfl rfl (fun a=>ml a.1) (fun a=>by kernel_rfl)
noncomputable def AAo:YF:=⟨[],[.v (.l .i),.v (.l .i)],[],.ret [.b],[.tmp 4],
 sq [qB 4 false] [0,1] (.seq (sw 6 [wm 0,wZ,wm 1,wZ,wB .neq 7] (Kp 1027) (cn 10 [0,1] (sq [qB 4 false] [4] .ret))) (.join [] (sq [qK 5 0] (Kp 35) (bl 0 [cv 5 .i] (.seq (sw 11 [wm 5,wm 0,wZ,wB .lss 11] (Kp 16419) (ce 14 (Kp 35) [] 0)) (.seq (.block 1 (.seq (.A8 (qd 0 [wn 17 [wm 0,wm 5,wE .i 17,wL,wm 1,wm 5,wE .i 21,wL,wB .neq 20]] .nil) [0,1,5,25]) (cn 25 (Kp 35) (sq [qB 4 false] [4] .ret)))) (qr [wn 15 [wm 5,wI .add 1],
 qn [qa 5 16]] (Kp 35)))))) (sq [qB 4 true] [4] .ret)))⟩
noncomputable def fF(_:PUnit):Option Bool:=
 some true
noncomputable def Ub(p0:(List Int))(p1:(List Int))(L1:Int->Option Bool)(v2:Int):Option Bool:=
 br (decide (v2<(↑p0.length:Int)))
  (bd (at? p0 v2) fun x3=>
  bd (at? p1 v2) fun x4=>
  br (x3 != x4)
   (some false)
   (L1 (w64 (v2+1))))
  (jn (fF) ())
noncomputable def Ua(p0:(List Int))(p1:(List Int)):Option Bool:=
 br ((↑p0.length:Int) != (↑p1.length:Int))
  (some false)
  (AT (Ub p0 p1) big 0)
noncomputable def IL:GF:=AAo.gf rfl rfl (fun a=>Ua a.1 a.2.1) (fun a=>by kernel_rfl)
noncomputable def AAG:YF:=⟨[],[.v (.l .i)],[],.ret [(.st 8),.b],[.cell 2 (some 15),.tmp 3],
 sq [.alloc 2 A9,.Av [(.cell 2 0,.i),(.cell 2 11,(.st 2)),(.cell 2 12,(.st 7)),(.cell 2 13,.i),(.cell 2 14,.i)],qB 3 false] [0,2,7,36] (sr [wn 19 [wm 0,wh (.build · vm [(0,1,(.tmp 19))])],
 qn [qu 21 20,qa 4 21]] [0,2,4,7,36] (sr [wn 23 [wm 4,wm 4,wc Jn rfl [24,qj 12],wc Jo rfl [23,25],wY jR rfl],
 qn [qm 22 27],
 wn 28 [wh (.ext · (.tmp 22) 0),wh (.ext · (.tmp 22) 1)],
 qn [.alloc 5 B2,.Av [(.cell 5 0,.i)],qw 9 5 28,qa 6 29]] (Kp 68719476981) (.seq (sw 30 [wm 6,wX] (Kp 70866960565) (.cond 31 [2,5,7,36] (Kp 53) (sq [.build 32 A9 [],.Av [(.tmp 32 0,.i),(.tmp 32 11,(.st 2)),(.tmp 32 12,(.st 7)),(.tmp 32 13,.i),(.tmp 32 14,.i)],qw 15 2 32,qB 3 false] [2,3,5,7,36] .ret) .skip)) (.seq (.A8 (qd 0 [wn 33 [wk 9 5,wm 4]] (.both 0 (.op 2 none [5] (.call 35 HC [] rfl [(.tmp 34)])
 (.op 3 none [] (.build 36 A9 [(0,9,(.tmp 33)),(9,1,(.tmp 35))])
 (.op 4 none [5] (.alloc 7 A9)
 (.nl [(.cell 7 0,.i),(.cell 7 11,(.st 2)),(.cell 7 12,(.st 7)),(.cell 7 13,.i),(.cell 7 14,.i)] (.op 5 none [] (.st 1048591 (.tmp 7) (.tmp 36))
 (.nl [(.cell 7 11,(.st 2)),(.cell 7 12,(.st 7)),(.cell 7 13,.i),(.cell 7 14,.i)] (.dr [33,34,35] .nil))))))) (.op 4 none [5] (.alloc 7 A9)
 (.nl [(.cell 7 0,.i),(.cell 7 11,(.st 2)),(.cell 7 12,(.st 7)),(.cell 7 13,.i),(.cell 7 14,.i)] (.op 2 none [5] (.call 35 HC [] rfl [(.tmp 34)])
 (.op 3 none [] (.build 36 A9 [(0,9,(.tmp 33)),(9,1,(.tmp 35))])
 (.op 5 none [] (.st 1048591 (.tmp 7) (.tmp 36))
 (.nl [(.cell 7 11,(.st 2)),(.cell 7 12,(.st 7)),(.cell 7 13,.i),(.cell 7 14,.i)] (.dr [33,34,35] .nil))))))))) [0,2,4,5,7,36]) (sr [wn 37 [wm 4,wY HC rfl,wo 10 7],
 qn [qw 1 39 38]] (Kp 68719476917) (sr [wn 40 [wm 4,wc Jn rfl [40,qj 40]],
 qn [qa 8 41]] (Kp 68719477173) (.join [(true,7,.one,[.al (.cell 5 0),.val .i none,.val .i none,.val .i none,.val .i none,.val .i none,.val .i none,.val .i none,.val .i none,.val .i none,.val .i none,.val (.l (.st 2)) none,.val (.l (.st 7)) none,.val (.l .i) none,.val (.l .i) none]),(true,21,.one,[.val (.st 16) (some (.old 0))])] (sq [qK 9 0] (Kp 68719477685) (bl 0 [cv 9 .i,(true,7,.one,[.al (.cell 5 0),.val .i none,.val .i none,.val .i none,.val .i none,.val .i none,.val .i none,.val .i none,.val .i none,.val .i none,.val .i none,.val (.l (.st 2)) none,.val (.l (.st 7)) none,.val (.l .i) none,.val (.l .i) none]),(true,21,.one,[.val (.st 16) (some (.old 0))])] (.seq (sw 42 [wm 9,wm 8,wB .lss 42] (Kp 17660905522101) (ce 44 [0,2,4,5,7,8,9,36] (Kp 68719476917) 0)) (.seq (.block 1 (sr [wn 47 [wm 4,wY jS rfl],
 qn [.alloc 10 BM,qw 10 10 48]] (Kp 68719478709) (.seq (sw 49 [wk 9 5,wk 10 10,wo 9 7,wL,wc Ix rfl [49,50,52],wX] (Kp 18014467228960693) (.cond 54 [2,5,7,36] (Kp 68719478709) (sq [.build 55 A9 [],.Av [(.tmp 55 0,.i),(.tmp 55 11,(.st 2)),(.tmp 55 12,(.st 7)),(.tmp 55 13,.i),(.tmp 55 14,.i)],qw 15 2 55,qB 3 false] [2,3,5,7,36] .ret) .skip)) (qr [wn 56 [wo 11 7,wL,wk 10 10,wh (.AW · 1 (.st 2) [(0,(.tmp 58))]),wh (.app · (.st 2) true (.tmp 57) (.tmp 59)),wo 11 7],
 qn [qw 1 61 60]] (Kp 68719477685))))) (qr [wn 45 [wm 9,wI .add 1],
 qn [qa 9 46]] (Kp 68719477685)))))) (.join [(true,7,.one,[.al (.cell 5 0),.val .i none,.val .i none,.val .i none,.val .i none,.val .i none,.val .i none,.val .i none,.val .i none,.val .i none,.val .i none,.val (.l (.st 2)) none,.val (.l (.st 7)) none,.val (.l .i) none,.val (.l .i) none]),(true,21,.one,[.val (.st 16) (some (.old 0))])] (sq [qK 11 0] (Kp 68719478965) (bl 2 [cv 11 .i,(true,7,.one,[.al (.cell 5 0),.val .i none,.val .i none,.val .i none,.val .i none,.val .i none,.val .i none,.val .i none,.val .i none,.val .i none,.val .i none,.val (.l (.st 2)) none,.val (.l (.st 7)) none,.val (.l .i) none,.val (.l .i) none]),(true,21,.one,[.val (.st 16) (some (.old 0))])] (.seq (sw 62 [wm 11,wo 0 5,wL,wZ,wB .lss 62] (Kp 73786976363557685429) (ce 66 [0,2,4,5,7,11,36] (Kp 68719476917) 2)) (.seq (.block 3 (sr [wn 69 [wm 4,wo 0 5,wL,wm 11,wE .i 71,wL,wc Jn rfl [69,74]],
 qn [qa 12 75]] (Kp 68719483061) (sr [wn 77 [wo 11 7,wL,wm 11,wc I0 rfl [78,79],wY jT rfl],
 qn [qm 76 81],
 wn 82 [wh (.ext · (.tmp 76) 0),wh (.ext · (.tmp 76) 1)],
 qn [.alloc 13 [.nil],.Av [(.cell 13 0,(.l (.st 5)))],qw 1 13 82,qa 14 83]] (Kp 68719491253) (sr [wn 84 [wo 11 7,wL,wm 11,wc Fp rfl [85,86]],
 qn [qa 15 87]] (Kp 68719524021) (.seq (.A8 (qd 0 [wn 88 [wo 0 5,wL,wm 11,wE .i 89,wL,wm 12,wm 15,wo 0 5,wL,wm 11,wE .i 96,wL,wm 12,wB .sub 99,wm 15,wB .sub 101,wo 11 7,wL,wm 11]] (.both 0 (.op 19 none [88,91,95,98] (.call 107 Ej [] rfl [(.tmp 105),(.tmp 106)])
 (.op 20 none [] (.build 108 Bf [(0,1,(.tmp 92)),(1,1,(.tmp 93)),(2,1,(.tmp 94)),(3,1,(.tmp 103)),(4,1,(.tmp 107))])
 (.op 21 none [88,91,95,98,104] (.alloc 16 Bf)
 (.op 22 none [] (.st 5 (.tmp 16) (.tmp 108))
 (.dr [88,89,90,91,92,93,94,95,96,97,98,99,100,101,102,103,104,105,106,107,108] .nil))))) (.op 21 none [88,91,95,98,104] (.alloc 16 Bf)
 (.op 19 none [88,91,95,98] (.call 107 Ej [] rfl [(.tmp 105),(.tmp 106)])
 (.op 20 none [] (.build 108 Bf [(0,1,(.tmp 92)),(1,1,(.tmp 93)),(2,1,(.tmp 94)),(3,1,(.tmp 103)),(4,1,(.tmp 107))])
 (.op 22 none [] (.st 5 (.tmp 16) (.tmp 108))
 (.dr [88,89,90,91,92,93,94,95,96,97,98,99,100,101,102,103,104,105,106,107,108] .nil))))))) [0,2,4,5,7,11,13,16,36]) (.A8 (qd 0 [wn 109 [wo 12 7,wL,wk 5 16,wk 9 5,wo 11 7,wL,wm 11,wo 9 7,wL]] (.op 10 none [] (.ld 119 (some 1) (.tmp 13))
 (.op 9 none [13,16,109] (.call 118 Iz [] rfl [(.tmp 112),(.tmp 114),(.tmp 115),(.tmp 117)])
 (.op 11 none [] (.build 120 Cn [(0,5,(.tmp 111)),(5,1,(.tmp 118)),(6,1,(.tmp 119))])
 (.op 12 none [109] (.AW 121 1 (.st 7) [(0,(.tmp 120))])
 (qd 13 [wn 122 [wh (.app · (.st 7) false (.tmp 110) (.tmp 121)),wo 12 7],
 qn [qw 1 123 122]] .nil)))))) [0,2,4,5,7,11,36])))))) (qr [wn 67 [wm 11,wI .add 1],
 qn [qa 11 68]] (Kp 68719478965)))))) (sr [wn 124 [wm 4,wm 4,wo 0 5,wL,wZ,wc Jn rfl [125,128],wc Jo rfl [124,129],wo 13 7],
 qn [qw 1 131 130]] (Kp 68719476917) (sr [wn 132 [wm 4,wo 8 5,wL,wc Jo rfl [132,134]],
 qn [qa 17 135]] (Kp 68719607989) (.join [(true,7,.one,[.al (.cell 5 0),.val .i none,.val .i none,.val .i none,.val .i none,.val .i none,.val .i none,.val .i none,.val .i none,.val .i none,.val .i none,.val (.l (.st 2)) none,.val (.l (.st 7)) none,.val (.l .i) none,.val (.l .i) none])] (sq [qK 18 0] (Kp 68719870133) (bl 4 [cv 18 .i,(true,7,.one,[.al (.cell 5 0),.val .i none,.val .i none,.val .i none,.val .i none,.val .i none,.val .i none,.val .i none,.val .i none,.val .i none,.val .i none,.val (.l (.st 2)) none,.val (.l (.st 7)) none,.val (.l .i) none,.val (.l .i) none])] (.seq (sw 136 [wm 18,wm 17,wZ,wB .lss 136] [0,2,4,5,7,17,18,36,139] (ce 139 [0,2,4,5,7,17,18,36] (Kp 68719476917) 4)) (.seq (.block 5 (.A8 (qd 0 [wn 142 [wo 14 7,wL,wm 17,wm 18,wE .i 144,wL]] (.op 6 none [142] (.call 148 HD [] rfl [(.tmp 147),(.k (.int .i64 (-5)))])
 (.op 7 none [] (.bin 149 .num .sub (.tmp 148) (.k (.int .i64 1)))
 (.op 8 none [142] (.AW 150 1 .i [(0,(.tmp 149))])
 (qd 9 [wn 151 [wh (.app · .i true (.tmp 143) (.tmp 150)),wo 14 7],
 qn [qw 1 152 151]] .nil))))) [0,2,4,5,7,17,18,36])) (qr [wn 140 [wm 18,wI .add 1],
 qn [qa 18 141]] (Kp 68719870133)))))) (.seq (.join [cv 168 .b] (qr [qn [qm 153 4,.chk 154 (.tmp 153)],
 wn 155 [wO 2,wL,wM],
 wf 157 158 [wk 15 7,wY Fq rfl,wX],
 wn 161 [wR 157,wM],
 wf 162 163 [wk 15 7,wY Uu rfl,wm 0,wc IL rfl [164,165],wX],
 qn [qp 168 162 167]] [2,5,7,36,168]) (.cond 168 [2,5,7,36] [2,5,7,36] (sq [.build 169 A9 [],.Av [(.tmp 169 0,.i),(.tmp 169 11,(.st 2)),(.tmp 169 12,(.st 7)),(.tmp 169 13,.i),(.tmp 169 14,.i)],qw 15 2 169,qB 3 false] [2,3,5,7,36] .ret) .skip)) (sq [qL 170 15 7,qw 1048591 2 170,qB 3 true] [2,3,5,7,36] .ret)))))))))))))⟩
noncomputable def PM(x3:(AO×Bool))(v115:Int)(v116:Int)(v117:Int)(v118:Int)(v119:Int)(v120:Int)(v121:Int)(v122:Int)(v123:Int)(v124:Int)(v125:(List AI))(v126:(List Am))(v127:(List Int))(v128:(List Int))(v129:Bool):Option (AF×Bool):=
 br v129
  (some ((AF.mk (AO.mk [] 0 0 0 0 0 0 0 0) 0 0 [] [] [] [],false)))
  (some ((AF.mk (AO.mk x3.fst.AM v115 v116 v117 v118 v119 v120 v121 v122) v123 v124 v125 v126 v127 v128,true)))
noncomputable def Kt(p0:(List Int))(x3:(AO×Bool))(x93:((List Int)×BQ))(x_:(PUnit×Int×Int×Int×Int×Int×Int×Int×Int×Int×Int×(List AI)×(List Am)×(List Int)×(List Int))):Option (AF×Bool):=
 match x_ with
 |(v114,v115,v116,v117,v118,v119,v120,v121,v122,v123,v124,v125,v126,v127,v128)=>br x93.snd.cD
  (jn (PM x3 v115 v116 v117 v118 v119 v120 v121 v122 v123 v124 v125 v126 v127 v128) true)
  (bd (Qd (AF.mk (AO.mk x3.fst.AM v115 v116 v117 v118 v119 v120 v121 v122) v123 v124 v125 v126 v127 v128)) fun x130=>
  br (!x130)
   (jn (PM x3 v115 v116 v117 v118 v119 v120 v121 v122 v123 v124 v125 v126 v127 v128) true)
   (bd (Rg (AF.mk (AO.mk x3.fst.AM v115 v116 v117 v118 v119 v120 v121 v122) v123 v124 v125 v126 v127 v128)) fun x131=>
   bd (Ua x131 p0) fun x132=>
   jn (PM x3 v115 v116 v117 v118 v119 v120 v121 v122 v123 v124 v125 v126 v127 v128) (!x132)))
noncomputable def T8(p0:(List Int))(x3:(AO×Bool))(x93:((List Int)×BQ))(L94:(Int×PUnit×Int×Int×Int×Int×Int×Int×Int×Int×Int×Int×(List AI)×(List Am)×(List Int)×(List Int))->Option (AF×Bool))(x_:(Int×PUnit×Int×Int×Int×Int×Int×Int×Int×Int×Int×Int×(List AI)×(List Am)×(List Int)×(List Int))):Option (AF×Bool):=
 match x_ with
 |(v95,v96,v97,v98,v99,v100,v101,v102,v103,v104,v105,v106,v107,v108,v109,v110)=>br (decide (v95<(↑(List.length x93.fst):Int)))
  (bd (at? x93.fst v95) fun x111=>
  bd (at? x93.fst v95) fun x112=>
  bd (jE x112 (-5)) fun x113=>
  gd (v110.length+[w64 (x113-1)].length<=lim) (
  L94 ((w64 (v95+1),(),v97,v98,v99,v100,v101,v102,v103,v104,v105,v106,v107,v108,v109,v110++[w64 (x113-1)]))))
  (jn (Kt p0 x3 x93) (((),v97,v98,v99,v100,v101,v102,v103,v104,v105,v106,v107,v108,v109,v110)))
noncomputable def T6(p0:(List Int))(x3:(AO×Bool))(x_:(PUnit×Int×Int×Int×Int×Int×Int×Int×Int×Int×Int×(List AI)×(List Am)×(List Int)×(List Int)×BQ)):Option (AF×Bool):=
 match x_ with
 |(v75,v76,v77,v78,v79,v80,v81,v82,v83,v84,v85,v86,v87,v88,v89,v90)=>bd (Rj v90 (↑x3.fst.AM.length:Int)) fun x91=>
 bd (Rk x91.snd x91.fst) fun x92=>
 bd (Rk x92.snd x3.fst.Bd) fun x93=>
 AT (T8 p0 x3 x93) big ((0,(),v76,v77,v78,v79,v80,v81,v82,v83,v84,v85,v86,v87,x92.fst,v89))
noncomputable def eL(p0:(List Int))(x3:(AO×Bool))(L44:(Int×PUnit×Int×Int×Int×Int×Int×Int×Int×Int×Int×Int×(List AI)×(List Am)×(List Int)×(List Int)×BQ)->Option (AF×Bool))(x_:(Int×PUnit×Int×Int×Int×Int×Int×Int×Int×Int×Int×Int×(List AI)×(List Am)×(List Int)×(List Int)×BQ)):Option (AF×Bool):=
 match x_ with
 |(v45,v46,v47,v48,v49,v50,v51,v52,v53,v54,v55,v56,v57,v58,v59,v60,v61)=>br (decide (v45<(↑x3.fst.AM.length:Int)))
  (bd (at? x3.fst.AM v45) fun x62=>
  bd (at? x3.fst.AM v45) fun x63=>
  bd (Rj v61 x63) fun x64=>
  bd (jF v57 v45) fun x65=>
  bd (ml x65) fun x66=>
  bd (jD v57 v45) fun x67=>
  bd (at? x3.fst.AM v45) fun x68=>
  bd (at? x3.fst.AM v45) fun x69=>
  bd (at? x3.fst.AM v45) fun x70=>
  bd (at? x3.fst.AM v45) fun x71=>
  bd (cU v57 v45) fun x72=>
  bd (cU v57 v45) fun x73=>
  ev4 x69 x64.fst x67 (w64 (w64 (x71-x64.fst)-x67)) (
  eqv x72 x73 (
  bd (oZ x3.fst v57 v45 v55) fun x74=>
  gd (List.length v58+[Am.mk (BH.mk x69 x64.fst x67 (w64 (w64 (x71-x64.fst)-x67)) x72) x74 x66.fst].length<=lim) (
  L44 ((w64 (v45+1),(),v47,v48,v49,v50,v51,v52,v53,v54,v55,v56,v57,v58++[Am.mk (BH.mk x69 x64.fst x67 (w64 (w64 (x71-x64.fst)-x67)) x72) x74 x66.fst],v59,v60,x64.snd))))))
  (jn (T6 p0 x3) (((),v47,v48,v49,v50,v51,v52,v53,v54,v55,v56,v57,v58,v59,v60,v61)))
noncomputable def T5(p0:(List Int))(x3:(AO×Bool))(x_:(PUnit×Int×Int×Int×Int×Int×Int×Int×Int×Int×Int×(List AI)×(List Am)×(List Int)×(List Int)×BQ)):Option (AF×Bool):=
 match x_ with
 |(v28,v29,v30,v31,v32,v33,v34,v35,v36,v37,v38,v39,v40,v41,v42,v43)=>AT (eL p0 x3) big ((0,(),v29,v30,v31,v32,v33,v34,v35,v36,v37,v38,v39,v40,v41,v42,v43))
noncomputable def T7(p0:(List Int))(x3:(AO×Bool))(x7:(Int×BQ))(L8:(Int×PUnit×Int×Int×Int×Int×Int×Int×Int×Int×Int×Int×(List AI)×(List Am)×(List Int)×(List Int)×BQ)->Option (AF×Bool))(x_:(Int×PUnit×Int×Int×Int×Int×Int×Int×Int×Int×Int×Int×(List AI)×(List Am)×(List Int)×(List Int)×BQ)):Option (AF×Bool):=
 match x_ with
 |(v9,v10,v11,v12,v13,v14,v15,v16,v17,v18,v19,v20,v21,v22,v23,v24,v25)=>br (decide (v9<x7.fst))
  (bd (mj v25) fun x26=>
  bd (oU x3.fst x26.fst v19) fun x27=>
  br (!x27)
   (some ((AF.mk (AO.mk [] 0 0 0 0 0 0 0 0) 0 0 [] [] [] [],false)))
   (gd (List.length v21+[x26.fst].length<=lim) (
   L8 ((w64 (v9+1),(),v11,v12,v13,v14,v15,v16,v17,v18,v19,v20,v21++[x26.fst],v22,v23,v24,x26.snd)))))
  (jn (T5 p0 x3) (((),v11,v12,v13,v14,v15,v16,v17,v18,v19,v20,v21,v22,v23,v24,v25)))
noncomputable def T4(p0:(List Int)):Option (AF×Bool):=
 bd (Rj (BQ.mk p0 0 false) 12) fun x1=>
 bd (Rk x1.snd x1.fst) fun x2=>
 bd (mi x2.fst) fun x3=>
 br (!x3.snd)
  (some ((AF.mk (AO.mk [] 0 0 0 0 0 0 0 0) 0 0 [] [] [] [],false)))
  (bd (Ri x2.snd) fun x4=>
  bd (Ri x2.snd) fun x5=>
  ev8 x3.fst.BG x3.fst.Room x3.fst.As x3.fst.A2 x3.fst.Ax x3.fst.Rest x3.fst.BA x3.fst.Bd (
  eqv x4.fst x5.fst (
  ev8 (0:Int) x3.fst.BG x3.fst.Room x3.fst.As x3.fst.A2 x3.fst.Ax x3.fst.Rest x3.fst.BA (
  eqv x3.fst.Bd x3.fst.Bd (
  eqv x4.fst x5.fst (
  ev5 (0:Int) ([]:List AI) ([]:List Am) ([]:List Int) ([]:List Int) (
  bg x4.snd x5.snd (
  bd (Ri x4.snd) fun x6=>
  bd (Rj x6.snd 40) fun x7=>
  AT (T7 p0 x3 x7) big ((0,(),x3.fst.BG,x3.fst.Room,x3.fst.As,x3.fst.A2,x3.fst.Ax,x3.fst.Rest,x3.fst.BA,x3.fst.Bd,x4.fst,x6.fst,[],[],[],[],x7.snd))))))))))
noncomputable def jO:GF:=AAG.gf rfl rfl (fun a=>T4 a.1) (fun a=>by kernel_rfl)
noncomputable def AAH:YF:=⟨[],[.v (.l .i),.v (.l .i)],[],.ret [.b],[.tmp 4],
 sq [qB 4 false] [0,1] (.seq (sw 6 [wm 0,wZ,wm 1,wZ,wB .neq 7] (Kp 1027) (cn 10 [0,1] (sq [qB 4 false] [4] .ret))) (.join [] (sq [qK 5 0] (Kp 35) (bl 0 [cv 5 .i] (.seq (sw 11 [wm 5,wm 0,wZ,wB .lss 11] (Kp 16419) (ce 14 (Kp 35) [] 0)) (.seq (.block 1 (.seq (.A8 (qd 0 [wn 17 [wm 0,wm 5,wE .i 17,wL,wm 1,wm 5,wE .i 21,wL,wB .neq 20]] .nil) [0,1,5,25]) (cn 25 (Kp 35) (sq [qB 4 false] [4] .ret)))) (qr [wn 15 [wm 5,wI .add 1],
 qn [qa 5 16]] (Kp 35)))))) (sq [qB 4 true] [4] .ret)))⟩
noncomputable def eM(_:PUnit):Option Bool:=
 some true
noncomputable def T9(p0:(List Int))(p1:(List Int))(L1:Int->Option Bool)(v2:Int):Option Bool:=
 br (decide (v2<(↑p0.length:Int)))
  (bd (at? p0 v2) fun x3=>
  bd (at? p1 v2) fun x4=>
  br (x3 != x4)
   (some false)
   (L1 (w64 (v2+1))))
  (jn (eM) ())
noncomputable def X6(p0:(List Int))(p1:(List Int)):Option Bool:=
 br ((↑p0.length:Int) != (↑p1.length:Int))
  (some false)
  (AT (T9 p0 p1) big 0)
noncomputable def jP:GF:=AAH.gf rfl rfl (fun a=>X6 a.1 a.2.1) (fun a=>by kernel_rfl)
noncomputable def Xf:YF:=⟨[],[.v (.l .u)],[],.ret [.b],[.tmp 2],
 sq [qB 2 false] [0] (.seq (sw 8 [wm 0,wY Jl rfl] [0,9] (cn 9 [0] (sq [qB 2 true] [2] .ret))) (sr [wn 10 [wm 0,wY jQ rfl],
 qn [qa 3 11]] [3] (sr [wn 13 [wm 3,wY IK rfl],
 qn [qm 12 14],
 wn 15 [wh (.ext · (.tmp 12) 0),wh (.ext · (.tmp 12) 1)],
 qn [.alloc 4 A9,.Av [(.cell 4 0,.i),(.cell 4 11,(.st 2)),(.cell 4 12,(.st 7)),(.cell 4 13,.i),(.cell 4 14,.i)],qw 15 4 15,qa 5 16]] (Kp 56) (sr [wn 18 [wm 3,wY jO rfl],
 qn [qm 17 19],
 wn 20 [wh (.ext · (.tmp 17) 0),wh (.ext · (.tmp 17) 1)],
 qn [.alloc 6 A9,.Av [(.cell 6 0,.i),(.cell 6 11,(.st 2)),(.cell 6 12,(.st 7)),(.cell 6 13,.i),(.cell 6 14,.i)],qw 15 6 20,qa 7 21]] (Kp 184) (.seq (sw 22 [wm 5,wm 7,wh (.bin · .bool .neq (.tmp 22) (.tmp 23))] [3,4,5,24] (cn 24 (Kp 56) (sq [qB 2 false] [2] .ret))) (.join [cv 2 .b] (qr [wn 25 [wm 5,wX,wM],
 wt 27 28 [wo 12 4,wL,wZ,wI .eql 0],
 wn 32 [wQ 27,wM],
 wf 33 34 [wm 5,wM],
 wt 35 36 [wk 15 4,wY Fq rfl],
 wf 33 38 [wQ 35,wM],
 wt 39 40 [wk 15 4,wY G8 rfl,wm 3,wc jP rfl [41,42]],
 qf 33 [qq 44 39 43],
 qn [qp 45 33 44,qa 2 45]] [2]) .ret))))))⟩
noncomputable def Bv(v5:Bool):Option Bool:=
 some v5
noncomputable def Fc(p0:(List UInt8)):Option Bool:=
 bd (db p0) fun x1=>
 br x1
  (some true)
  (bd (mc p0) fun x2=>
  bd (Rh x2) fun x3=>
  bd (T4 x2) fun x4=>
  br (!x3.snd==x4.snd)
   (some false)
   (br (!x3.snd)
    (br ((↑x3.fst.AR.length:Int)==0)
     (jn (Bv) true)
     (br x3.snd
      (bd (Qd x3.fst) fun x6=>
      br x6
       (bd (NG x3.fst) fun x7=>
       bd (X6 x7 x2) fun x8=>
       jn (Bv) x8)
       (jn (Bv) false))
      (jn (Bv) false)))
    (br x3.snd
     (bd (Qd x3.fst) fun x9=>
     br x9
      (bd (NG x3.fst) fun x10=>
      bd (X6 x10 x2) fun x11=>
      jn (Bv) x11)
      (jn (Bv) false))
     (jn (Bv) false))))
noncomputable def Eh:GF:=Xf.gf rfl rfl (fun a=>Fc a.1) (fun a=>by kernel_rfl)
noncomputable def EI(x2:((List Int)×Bool))(x3:(AF×Bool))(v4:Bool):Option (AF×Int×Bool):=
 br v4
  (some ((AF.mk (AO.mk [] 0 0 0 0 0 0 0 0) 0 0 [] [] [] [],0,false)))
  (bd (at? x2.fst 0) fun x5=>
  bd (at? x2.fst 0) fun x6=>
  some (x3.fst,x6,true))
noncomputable def EH(p0:(List UInt8))(v1:Bool):Option (AF×Int×Bool):=
 br v1
  (some ((AF.mk (AO.mk [] 0 0 0 0 0 0 0 0) 0 0 [] [] [] [],0,false)))
  (gd ((0:Int)<=4/\4<=(↑p0.length:Int)) (
  bd (Gs (List.drop (Int.toNat 4) p0)) fun x2=>
  br (!x2.snd)
   (some ((AF.mk (AO.mk [] 0 0 0 0 0 0 0 0) 0 0 [] [] [] [],0,false)))
   (gd ((0:Int)<=1/\1<=(↑(List.length x2.fst):Int)) (
   bd (T4 (List.take (List.length x2.fst-Int.toNat 1) (List.drop (Int.toNat 1) x2.fst))) fun x3=>
   br (!x3.snd)
    (jn (EI x2 x3) true)
    (bd (at? x2.fst 0) fun x7=>
    bd (at? x2.fst 0) fun x8=>
    bd (Fx x3.fst x8) fun x9=>
    jn (EI x2 x3) (x9 != p0))))))
noncomputable def KL(p0:(List UInt8)):Option (AF×Int×Bool):=
 br (decide ((↑p0.length:Int)<5))
  (jn (EH p0) true)
  (jn (EH p0) (decide ((↑p0.length:Int)>20000)))
noncomputable def AAI:YF:=⟨[],[.v .s],[],.ret [(.st 8),.i,.b],[.cell 2 (some 15),.tmp 3,.tmp 4],
 sq [.alloc 2 A9,.Av [(.cell 2 0,.i),(.cell 2 11,(.st 2)),(.cell 2 12,(.st 7)),(.cell 2 13,.i),(.cell 2 14,.i)],qK 3 0,qB 4 false] [0,2] (.seq (sw 8 [wm 0,wh (.lens · (.tmp 8)),wI .lss 5] (Kp 1029) (.cond 10 [2] [0,2] (sq [.build 11 A9 [],.Av [(.tmp 11 0,.i),(.tmp 11 11,(.st 2)),(.tmp 11 12,(.st 7)),(.tmp 11 13,.i),(.tmp 11 14,.i)],qw 15 2 11,qK 3 0,qB 4 false] (Kp 28) .ret) .skip)) (sr [wn 13 [wm 0,wh (.M8 · (.tmp 13) (some (.k (.int .i64 4))) none),wY Ut rfl],
 qn [qm 12 15],
 wn 16 [wh (.ext · (.tmp 12) 0),wh (.ext · (.tmp 12) 1)],
 qn [qa 5 16,qa 6 17]] (Kp 101) (.seq (sw 18 [wm 6,wX] (Kp 524325) (.cond 19 [2] (Kp 37) (sq [.build 20 A9 [],.Av [(.tmp 20 0,.i),(.tmp 20 11,(.st 2)),(.tmp 20 12,(.st 7)),(.tmp 20 13,.i),(.tmp 20 14,.i)],qw 15 2 20,qK 3 0,qB 4 false] (Kp 28) .ret) .skip)) (sr [wn 22 [wm 5,wh (.sub · .i (.tmp 22) (some (.k (.int .i64 1))) none),wY IK rfl],
 qn [qm 21 24],
 wn 25 [wh (.ext · (.tmp 21) 0),wh (.ext · (.tmp 21) 1)],
 qn [.alloc 7 A9,.Av [(.cell 7 0,.i),(.cell 7 11,(.st 2)),(.cell 7 12,(.st 7)),(.cell 7 13,.i),(.cell 7 14,.i)],qw 15 7 25,qa 6 26]] (Kp 229) (.seq (.join [cv 37 .b] (.A8 (qd 0 [wn 27 [wm 6,wX,wM],
 wf 29 30 [wk 15 7,wm 5,wh (.ia · .i (.tmp 31) (.k (.int .i64 0))),wL]] (.op 8 (some (29,false)) [] (.mv 35 (.tmp 0))
 (.op 7 (some (29,false)) [] (.call 34 Jm [] rfl [(.tmp 30),(.tmp 33)])
 (qd 9 [qf 29 [qb 36 .neq 34 35],
 qn [qp 37 29 36]] .nil)))) [2,5,7,37]) (.cond 37 [2] (Kp 164) (sq [.build 38 A9 [],.Av [(.tmp 38 0,.i),(.tmp 38 11,(.st 2)),(.tmp 38 12,(.st 7)),(.tmp 38 13,.i),(.tmp 38 14,.i)],qw 15 2 38,qK 3 0,qB 4 false] (Kp 28) .ret) .skip)) (.seq (.A8 (qd 0 [wn 39 [wk 15 7,wm 5,wh (.ia · .i (.tmp 40) (.k (.int .i64 0))),wL]] (.op 4 none [41] (.st 15 (.tmp 2) (.tmp 39))
 (qd 5 [qn [qa 3 42,qB 4 true]] .nil))) [2,3,4]) .ret))))))⟩
noncomputable def UA(x1:((List Int)×Bool))(x2:(AF×Bool))(v3:Bool):Option (AF×Int×Bool):=
 br v3
  (some ((AF.mk (AO.mk [] 0 0 0 0 0 0 0 0) 0 0 [] [] [] [],0,false)))
  (bd (at? x1.fst 0) fun x4=>
  bd (at? x1.fst 0) fun x5=>
  some (x2.fst,x5,true))
noncomputable def Ku(p0:(List UInt8)):Option (AF×Int×Bool):=
 br (decide ((↑p0.length:Int)<5))
  (some ((AF.mk (AO.mk [] 0 0 0 0 0 0 0 0) 0 0 [] [] [] [],0,false)))
  (gd ((0:Int)<=4/\4<=(↑p0.length:Int)) (
  bd (mF (List.drop (Int.toNat 4) p0)) fun x1=>
  br (!x1.snd)
   (some ((AF.mk (AO.mk [] 0 0 0 0 0 0 0 0) 0 0 [] [] [] [],0,false)))
   (gd ((0:Int)<=1/\1<=(↑(List.length x1.fst):Int)) (
   bd (Rh (List.take (List.length x1.fst-Int.toNat 1) (List.drop (Int.toNat 1) x1.fst))) fun x2=>
   br (!x2.snd)
    (jn (UA x1 x2) true)
    (bd (at? x1.fst 0) fun x6=>
    bd (at? x1.fst 0) fun x7=>
    bd (X5 x2.fst x7) fun x8=>
    jn (UA x1 x2) (x8 != p0))))))
noncomputable def LI:GF:=AAI.gf rfl rfl (fun a=>Ku a.1) (fun a=>by kernel_rfl)
noncomputable def AAJ:YF:=⟨[],[.b (.st 17),.v (.st 1),.v .i],[],.ret [(.st 2)],[.cell 6 (some 10)],
 sq [qu 4 1,.alloc 6 BM] (Kp 85) (sq [.build 9 BM [(0,1,(.k (.int .i64 3))),(2,1,(.k (.int .i64 (-1)))),(3,1,(.k (.int .i64 1))),(6,1,(.k (.int .i64 1))),(7,1,(.k (.int .i64 1)))],.alloc 7 BM,qw 10 7 9] (Kp 213) (.join [(true,0,.one,[.val (.st 17) (some (.old 0))]),cx 7 (.st 2)] (sw 10 [wk 9 4,wY Dv rfl] (Kp 2261) (.cond 11 [0,2,4,6,7] (Kp 193) (qr [wn 12 [wm 0,wk 9 4,wm 2,wc IJ rfl [12,13,14]],
 qn [qw 10 7 15]] (Kp 193)) .skip)) (sr [wn 16 [wm 0,wh (.AW · 9 .i [(0,(.k (.int .i64 (-1)))),(1,(.k (.int .i64 0))),(2,(.k (.int .i64 2))),(3,(.k (.int .i64 5))),(4,(.k (.int .i64 7))),(5,(.k (.int .i64 1000000))),(6,(.k (.int .i64 1000001))),(7,(.k (.int .i64 9223372036854775807))),(8,(.k (.int .i64 (-9223372036854775808))))]),wc B0 rfl [16,17]],
 qn [qa 8 18]] (Kp 449) (.join [(true,0,.one,[.val (.st 17) (some (.old 0))]),cx 7 (.st 2)] (sw 19 [wm 0,wc AQ rfl [19,qj 24]] (Kp 1049025) (.block 0 (sq [qi 22 .eql 20 0,qa 21 22] (Kp 3146177) (.cond 21 [0,6,7] (Kp 1049025) (qr [wn 23 [wm 0,wh (.AW · 4 .i [(0,(.k (.int .i64 0))),(1,(.k (.int .i64 999))),(2,(.k (.int .i64 1000))),(3,(.k (.int .i64 (-1))))]),wc B0 rfl [23,24],wo 0 7],
 qn [qw 1 26 25]] (Kp 193)) (sq [qi 28 .eql 20 1,qa 27 28] (Kp 135266753) (.cond 27 [0,6,7,8] (Kp 1049025) (qr [wn 29 [wm 8,wo 1 7],
 qn [qw 1 30 29]] (Kp 193)) (sq [qi 32 .eql 20 2,qa 31 32] (Kp 2148532673) (.cond 31 [0,6,7,8] (Kp 1049025) (qr [wn 33 [wm 8,wo 2 7],
 qn [qw 1 34 33]] (Kp 193)) (sq [qi 36 .eql 20 3,qa 35 36] (Kp 34360787393) (.cond 35 [0,6,7,8] (Kp 1049025) (qr [wn 37 [wm 8,wo 3 7],
 qn [qw 1 38 37]] (Kp 193)) (sq [qi 40 .eql 20 4,qa 39 40] (Kp 549756862913) (.cond 39 [0,6,7,8] (Kp 1049025) (qr [wn 41 [wm 8,wo 4 7],
 qn [qw 1 42 41]] (Kp 193)) (sq [qi 44 .eql 20 5,qa 43 44] (Kp 8796094071233) (.cond 43 [0,6,7,8] (Kp 1049025) (qr [wn 45 [wm 8,wo 5 7],
 qn [qw 1 46 45]] (Kp 193)) (sq [qi 48 .eql 20 6,qa 47 48] [0,6,7,8,20,47] (.cond 47 [0,6,7,8] (Kp 1049025) (qr [wn 49 [wm 8,wo 6 7],
 qn [qw 1 50 49]] (Kp 193)) (sq [qi 52 .eql 20 7,qa 51 52] [0,6,7,8,20,51] (.cond 51 [0,6,7,8] (Kp 1049025) (qr [wn 53 [wm 8,wo 7 7],
 qn [qw 1 54 53]] (Kp 193)) (sq [qi 56 .eql 20 8,qa 55 56] [0,6,7,8,20,55] (.cond 55 [0,6,7,8] (Kp 1049025) (qr [wn 57 [wm 8,wo 8 7],
 qn [qw 1 58 57]] (Kp 193)) (sq [qi 60 .eql 20 9,qa 59 60] [0,6,7,8,59] (.cond 59 [0,6,7,8] (Kp 193) (qr [wn 61 [wm 8,wo 9 7],
 qn [qw 1 62 61]] (Kp 193)) .skip)))))))))))))))))))))) (sq [qL 63 10 7,qw 10 6 63] [0,6] .ret)))))⟩
noncomputable def DR(x_:(AH×AI)):Option (AI×AH):=
 match x_ with
 |(v8,v9)=>some (v9,v8)
noncomputable def PN(x_:(AH×AI)):Option (AI×AH):=
 match x_ with
 |(v3,v4)=>bd (KO v3 ([-1,0,2,5,7,1000000,1000001,9223372036854775807,-9223372036854775808])) fun x5=>
 bd (A3 x5.snd 24) fun x6=>
 br (x6.fst==0)
  (bd (KO x6.snd ([0,999,1000,-1])) fun x7=>
  jn (DR) (x7.snd,AI.mk x7.fst v4.A4 v4.CB v4.As v4.CX v4.Since v4.Ah v4.State v4.BW v4.CA))
  (br (x6.fst==1)
   (jn (DR) (x6.snd,AI.mk v4.Id x5.fst v4.CB v4.As v4.CX v4.Since v4.Ah v4.State v4.BW v4.CA))
   (br (x6.fst==2)
    (jn (DR) (x6.snd,AI.mk v4.Id v4.A4 x5.fst v4.As v4.CX v4.Since v4.Ah v4.State v4.BW v4.CA))
    (br (x6.fst==3)
     (jn (DR) (x6.snd,AI.mk v4.Id v4.A4 v4.CB x5.fst v4.CX v4.Since v4.Ah v4.State v4.BW v4.CA))
     (br (x6.fst==4)
      (jn (DR) (x6.snd,AI.mk v4.Id v4.A4 v4.CB v4.As x5.fst v4.Since v4.Ah v4.State v4.BW v4.CA))
      (br (x6.fst==5)
       (jn (DR) (x6.snd,AI.mk v4.Id v4.A4 v4.CB v4.As v4.CX x5.fst v4.Ah v4.State v4.BW v4.CA))
       (br (x6.fst==6)
        (jn (DR) (x6.snd,AI.mk v4.Id v4.A4 v4.CB v4.As v4.CX v4.Since x5.fst v4.State v4.BW v4.CA))
        (br (x6.fst==7)
         (jn (DR) (x6.snd,AI.mk v4.Id v4.A4 v4.CB v4.As v4.CX v4.Since v4.Ah x5.fst v4.BW v4.CA))
         (br (x6.fst==8)
          (jn (DR) (x6.snd,AI.mk v4.Id v4.A4 v4.CB v4.As v4.CX v4.Since v4.Ah v4.State x5.fst v4.CA))
          (br (x6.fst==9)
           (jn (DR) (x6.snd,AI.mk v4.Id v4.A4 v4.CB v4.As v4.CX v4.Since v4.Ah v4.State v4.BW x5.fst))
           (jn (DR) (x6.snd,v4)))))))))))
noncomputable def mS(p0:AH)(p1:AO)(p2:Int):Option (AI×AH):=
 bd (ZO p1) fun x1=>
 br x1
  (bd (eT p0 p1 p2) fun x2=>
  jn (PN) (x2.snd,x2.fst))
  (jn (PN) ((p0,AI.mk 3 0 (-1) 1 0 0 1 1 0 0)))
noncomputable def Uy:GF:=AAJ.gf rfl rfl (fun a=>mS a.1 a.2.1 a.2.2.1) (fun a=>by kernel_rfl)
noncomputable def AAK:YF:=⟨[],[.b (.st 17)],[],.ret [(.st 3)],[.cell 2 (some 5)],
 sq [.alloc 2 Bf] [0,2] (sr [wn 4 [wm 0,wc AQ rfl [4,qj 6],wm 0,wc AQ rfl [6,qj 6],wm 0,wc AQ rfl [8,qj 8],wh (.build · Bf [(1,1,(.tmp 5)),(2,1,(.tmp 7)),(3,1,(.tmp 9))])],
 qn [.alloc 3 Bf,qw 5 3 10]] (Kp 13) (sr [wn 11 [wo 1 3,wL,wo 2 3,wL,wB .add 12,wo 3 3,wL,wB .add 15,wo 0 3],
 qn [qw 1 19 18]] (Kp 13) (sr [wn 20 [wm 0,wo 3 3,wL,wI .add 1,wc AQ rfl [20,23],wo 4 3],
 qn [qw 1 25 24]] (Kp 13) (sq [qL 26 5 3,qw 5 2 26] [0,2] .ret))))⟩
noncomputable def eO(p0:AH):Option (BH×AH):=
 bd (A3 p0 6) fun x1=>
 bd (A3 x1.snd 6) fun x2=>
 bd (A3 x2.snd 8) fun x3=>
 bd (A3 x3.snd (w64 (x3.fst+1))) fun x4=>
 some ((BH.mk (w64 (w64 (x1.fst+x2.fst)+x3.fst)) x1.fst x2.fst x3.fst x4.fst,x4.snd))
noncomputable def LJ:GF:=AAK.gf rfl rfl (fun a=>eO a.1) (fun a=>by kernel_rfl)
noncomputable def AAL:YF:=⟨[],[.b (.st 17)],[],.ret [(.st 3)],[.cell 2 (some 5)],
 sq [.alloc 2 Bf] [0,2] (sr [wn 5 [wm 0,wY LJ rfl],
 qn [.alloc 3 Bf,qw 5 3 6]] (Kp 13) (sr [wn 7 [wm 0,wh (.AW · 6 .i [(0,(.k (.int .i64 (-1)))),(1,(.k (.int .i64 0))),(2,(.k (.int .i64 60))),(3,(.k (.int .i64 61))),(4,(.k (.int .i64 9223372036854775807))),(5,(.k (.int .i64 (-9223372036854775808))))]),wc B0 rfl [7,8]],
 qn [qa 4 9]] (Kp 29) (.join [(true,0,.one,[.val (.st 17) (some (.old 0))]),cx 3 (.st 3)] (sw 10 [wm 0,wc AQ rfl [10,qj 16]] (Kp 2077) (.block 0 (sq [qi 13 .eql 11 0,qa 12 13] (Kp 6173) (.cond 12 [0,2,3,4] (Kp 2077) (qr [wn 14 [wm 4,wo 0 3],
 qn [qw 1 15 14]] (Kp 13)) (sq [qi 17 .eql 11 1,qa 16 17] (Kp 67613) (.cond 16 [0,2,3,4] (Kp 2077) (qr [wn 18 [wm 4,wo 1 3],
 qn [qw 1 19 18]] (Kp 13)) (sq [qi 21 .eql 11 2,qa 20 21] (Kp 1050653) (.cond 20 [0,2,3,4] (Kp 2077) (qr [wn 22 [wm 4,wo 2 3],
 qn [qw 1 23 22]] (Kp 13)) (sq [qi 25 .eql 11 3,qa 24 25] (Kp 16779293) (.cond 24 [0,2,3,4] (Kp 2077) (qr [wn 26 [wm 4,wo 3 3],
 qn [qw 1 27 26]] (Kp 13)) (sq [qi 29 .eql 11 4,qa 28 29] (Kp 268435485) (.cond 28 [0,2,3,4] (Kp 13) (qr [wn 30 [wm 4,wo 4 3],
 qn [qw 1 31 30]] (Kp 13)) .skip)))))))))))) (sq [qL 32 5 3,qw 5 2 32] [0,2] .ret))))⟩
noncomputable def Gu(x_:(AH×BH)):Option (BH×AH):=
 match x_ with
 |(v4,v5)=>some (v5,v4)
noncomputable def mT(p0:AH):Option (BH×AH):=
 bd (eO p0) fun x1=>
 bd (KO x1.snd ([-1,0,60,61,9223372036854775807,-9223372036854775808])) fun x2=>
 bd (A3 x2.snd 16) fun x3=>
 br (x3.fst==0)
  (jn (Gu) (x3.snd,BH.mk x2.fst x1.fst.Co x1.fst.Eb x1.fst.JR x1.fst.M3))
  (br (x3.fst==1)
   (jn (Gu) (x3.snd,BH.mk x1.fst.Total x2.fst x1.fst.Eb x1.fst.JR x1.fst.M3))
   (br (x3.fst==2)
    (jn (Gu) (x3.snd,BH.mk x1.fst.Total x1.fst.Co x2.fst x1.fst.JR x1.fst.M3))
    (br (x3.fst==3)
     (jn (Gu) (x3.snd,BH.mk x1.fst.Total x1.fst.Co x1.fst.Eb x2.fst x1.fst.M3))
     (br (x3.fst==4)
      (jn (Gu) (x3.snd,BH.mk x1.fst.Total x1.fst.Co x1.fst.Eb x1.fst.JR x2.fst))
      (jn (Gu) (x3.snd,x1.fst))))))
noncomputable def Uz:GF:=AAL.gf rfl rfl (fun a=>mT a.1) (fun a=>by kernel_rfl)
noncomputable def AAM:YF:=⟨[],[.b (.st 17)],[],.ret [(.st 4)],[.cell 2 (some 4)],
 sq [.alloc 2 C7] [0,2] (sr [wn 5 [wm 0,wc AQ rfl [5,qj 4],wm 0,wc AQ rfl [7,qj 20],wh (.bin · .num .add (.k (.int .i64 1)) (.tmp 8)),wm 0,wc AQ rfl [10,qj 12],wh (.bin · .num .add (.k (.int .i64 1)) (.tmp 11)),wm 0,wc AQ rfl [13,qj 6],wh (.bin · .num .add (.k (.int .i64 1)) (.tmp 14)),wh (.build · C7 [(0,1,(.tmp 6)),(1,1,(.tmp 9)),(2,1,(.tmp 12)),(3,1,(.tmp 15))])],
 qn [.alloc 3 C7,qw 4 3 16]] (Kp 13) (sr [wn 17 [wm 0,wh (.AW · 8 .i [(0,(.k (.int .i64 (-1)))),(1,(.k (.int .i64 0))),(2,(.k (.int .i64 5))),(3,(.k (.int .i64 7))),(4,(.k (.int .i64 1000))),(5,(.k (.int .i64 1000001))),(6,(.k (.int .i64 9223372036854775807))),(7,(.k (.int .i64 (-9223372036854775808))))]),wc B0 rfl [17,18]],
 qn [qa 4 19]] (Kp 29) (.join [(true,0,.one,[.val (.st 17) (some (.old 0))]),cx 3 (.st 4)] (sw 20 [wm 0,wc AQ rfl [20,qj 30]] (Kp 2097181) (.block 0 (sq [qi 23 .eql 21 0,qa 22 23] (Kp 6291485) (.cond 22 [0,2,3,4] (Kp 2097181) (qr [wn 24 [wm 4,wo 0 3],
 qn [qw 1 25 24]] (Kp 13)) (sq [qi 27 .eql 21 1,qa 26 27] (Kp 69206045) (.cond 26 [0,2,3,4] (Kp 2097181) (qr [wn 28 [wm 4,wo 1 3],
 qn [qw 1 29 28]] (Kp 13)) (sq [qi 31 .eql 21 2,qa 30 31] (Kp 1075839005) (.cond 30 [0,2,3,4] (Kp 2097181) (qr [wn 32 [wm 4,wo 2 3],
 qn [qw 1 33 32]] (Kp 13)) (sq [qi 35 .eql 21 3,qa 34 35] [0,2,3,4,34] (.cond 34 [0,2,3,4] (Kp 13) (qr [wn 36 [wm 4,wo 3 3],
 qn [qw 1 37 36]] (Kp 13)) .skip)))))))))) (sq [qL 38 4 3,qw 4 2 38] [0,2] .ret))))⟩
noncomputable def Ip(x_:(AH×AD)):Option (AD×AH):=
 match x_ with
 |(v7,v8)=>some (v8,v7)
noncomputable def eP(p0:AH):Option (AD×AH):=
 bd (A3 p0 4) fun x1=>
 bd (A3 x1.snd 20) fun x2=>
 bd (A3 x2.snd 12) fun x3=>
 bd (A3 x3.snd 6) fun x4=>
 bd (KO x4.snd ([-1,0,5,7,1000,1000001,9223372036854775807,-9223372036854775808])) fun x5=>
 bd (A3 x5.snd 30) fun x6=>
 br (x6.fst==0)
  (jn (Ip) ((x6.snd,AD.mk x5.fst (w64 (1+x2.fst)) (w64 (1+x3.fst)) (w64 (1+x4.fst)))))
  (br (x6.fst==1)
   (jn (Ip) ((x6.snd,AD.mk x1.fst x5.fst (w64 (1+x3.fst)) (w64 (1+x4.fst)))))
   (br (x6.fst==2)
    (jn (Ip) ((x6.snd,AD.mk x1.fst (w64 (1+x2.fst)) x5.fst (w64 (1+x4.fst)))))
    (br (x6.fst==3)
     (jn (Ip) ((x6.snd,AD.mk x1.fst (w64 (1+x2.fst)) (w64 (1+x3.fst)) x5.fst)))
     (jn (Ip) ((x6.snd,AD.mk x1.fst (w64 (1+x2.fst)) (w64 (1+x3.fst)) (w64 (1+x4.fst))))))))
noncomputable def LK:GF:=AAM.gf rfl rfl (fun a=>eP a.1) (fun a=>by kernel_rfl)
noncomputable def AAN:YF:=⟨[],[.v (.l (.st 4)),.v (.st 4)],[],.ret [(.l (.st 4)),.b],[.tmp 4,.tmp 5],
 sq [qu 3 1,.as 4 (.k .nil),.Av [(.tmp 4 0,(.st 4))],qB 5 false] [0,3] (sr [wn 7 [wm 0,wk 4 3,wc NH rfl [7,8]],
 qn [qa 6 9]] [0,6] (.seq (.join [cv 17 .b] (qr [wn 10 [wm 0,wY Iy rfl,wX,wM],
 wf 13 14 [wm 6,wY Iy rfl,wX],
 qn [qp 17 13 16]] [0,6,17]) (.cond 17 [0] [6] (sr [wn 18 [wm 0,wY Hw rfl],
 qn [qa 4 19,qB 5 false]] [4,5] .ret) .skip)) (sq [qm 20 6,qa 4 20,qB 5 true] [4,5] .ret)))⟩
noncomputable def UB(p0:(List AD))(x1:(List AD))(v3:Bool):Option ((List AD)×Bool):=
 br v3
  (bd (oX p0) fun x4=>
  some (x4,false))
  (some (x1,true))
noncomputable def mU(p0:(List AD))(p1:AD):Option ((List AD)×Bool):=
 bd (oY p0 p1) fun x1=>
 bd (oV p0) fun x2=>
 br (!x2)
  (jn (UB p0 x1) true)
  (bd (oV x1) fun x5=>
  jn (UB p0 x1) (!x5))
noncomputable def U0:GF:=AAN.gf rfl rfl (fun a=>mU a.1 a.2.1) (fun a=>by kernel_rfl)
noncomputable def AAO:YF:=⟨[],[.b (.st 17)],[],.ret [(.l (.st 4))],[.tmp 2],
 sq [.as 2 (.k .nil),.Av [(.tmp 2 0,(.st 4))]] [0] (sq [.AW 7 0 (.st 4) [],qa 3 7] [0,3] (sr [wn 8 [wm 0,wc AQ rfl [8,qj 9]],
 qn [qa 4 9]] (Kp 25) (.join [cv 4 .i,(true,0,.one,[.val (.st 17) (some (.old 0))])] (sw 10 [wm 0,wc Bk rfl [10,qj 12]] (Kp 2073) (.cond 11 [0,3] (Kp 25) (qr [wn 12 [wm 0,wc AQ rfl [12,qj 4],wh (.bin · .num .add (.k (.int .i64 10)) (.tmp 13))],
 qn [qa 4 14]] (Kp 25)) .skip)) (.join [cv 3 (.l (.st 4)),(true,0,.one,[.val (.st 17) (some (.old 0))])] (sq [qK 5 0] (Kp 57) (bl 0 [cv 3 (.l (.st 4)),cv 5 .i,(true,0,.one,[.val (.st 17) (some (.old 0))])] (.seq (sw 15 [wm 5,wm 4,wB .lss 15] (Kp 131129) (ce 17 (Kp 57) [0,3] 0)) (.seq (.block 1 (sr [wn 20 [wm 0,wY LK rfl],
 qn [.alloc 6 C7,qw 4 6 21]] (Kp 121) (.join [cx 6 (.st 4)] (sw 22 [wm 4,wI .gtr 9] (Kp 8388729) (.cond 23 [0,3,4,5,6] (Kp 121) (qr [wn 24 [wm 5,wh (.bin · .num .add (.k (.int .i64 100)) (.tmp 24)),wo 2 6],
 qn [qw 1 26 25]] (Kp 121)) .skip)) (qr [wn 28 [wm 3,wk 4 6,wc U0 rfl [28,29]],
 qn [qm 27 30],
 wn 31 [wh (.ext · (.tmp 27) 0),wh (.ext · (.tmp 27) 1)],
 qn [qa 3 31]] (Kp 57))))) (qr [wn 18 [wm 5,wI .add 1],
 qn [qa 5 19]] (Kp 57)))))) (sq [qm 33 3,qa 2 33] [0,2] .ret)))))⟩
noncomputable def UC(L6:((List AD)×Int×AH)->Option ((List AD)×AH))(v7:(List AD))(v8:Int)(x10:(AD×AH))(v11:AD):Option ((List AD)×AH):=
 bd (mU v7 v11) fun x12=>
 L6 ((x12.fst,w64 (v8+1),x10.snd))
noncomputable def eR(x_:((List AD)×AH)):Option ((List AD)×AH):=
 match x_ with
 |(v13,v14)=>some (v13,v14)
noncomputable def eS(v4:Int)(L6:((List AD)×Int×AH)->Option ((List AD)×AH))(x_:((List AD)×Int×AH)):Option ((List AD)×AH):=
 match x_ with
 |(v7,v8,v9)=>br (decide (v8<v4))
  (bd (eP v9) fun x10=>
  br (decide (v4>9))
   (jn (UC L6 v7 v8 x10) (AD.mk x10.fst.Level x10.fst.Ah (w64 (100+v8)) x10.fst.As))
   (jn (UC L6 v7 v8 x10) x10.fst))
  (jn (eR) (v7,v9))
noncomputable def PO(x_:(Int×AH)):Option ((List AD)×AH):=
 match x_ with
 |(v4,v5)=>AT (eS v4) big ([],0,v5)
noncomputable def eQ(p0:AH):Option ((List AD)×AH):=
 bd (A3 p0 9) fun x1=>
 bd (KN x1.snd 12) fun x2=>
 br x2.fst
  (bd (A3 x2.snd 4) fun x3=>
  jn (PO) ((w64 (10+x3.fst),x3.snd)))
  (jn (PO) (x1.fst,x2.snd))
noncomputable def LL:GF:=AAO.gf rfl rfl (fun a=>eQ a.1) (fun a=>by kernel_rfl)
noncomputable def AAP:YF:=⟨[],[.b (.st 17)],[],.ret [(.l (.st 4))],[.tmp 2],
 sq [.as 2 (.k .nil),.Av [(.tmp 2 0,(.st 4))]] [0] (sr [wn 5 [wm 0,wY LL rfl],
 qn [qa 3 6]] [0,3] (.join [cv 3 (.l (.st 4)),(true,0,.one,[.val (.st 17) (some (.old 0))])] (sw 7 [wm 0,wc AQ rfl [7,qj 10]] (Kp 265) (.block 0 (sq [qi 10 .eql 8 0,qa 9 10] (Kp 777) (.cond 9 [0,3] (Kp 265) (qr [wn 11 [wm 3,wm 0,wY LK rfl,wh (.AW · 1 (.st 4) [(0,(.tmp 13))]),wh (.app · (.st 4) true (.tmp 11) (.tmp 14))],
 qn [qa 3 15]] [0,3]) (sq [qi 17 .eql 8 1,qa 16 17] [0,3,16] (.cond 16 [0,3] [0,3] (sw 18 [wm 3,wZ,wI .gtr 1] [0,3,20] (.cond 20 [0,3] [0,3] (sr [wn 21 [wm 3,wh (.ia · (.st 4) (.tmp 21) (.k (.int .i64 0))),wK 4],
 qn [.alloc 4 C7,qw 4 4 23]] (Kp 25) (sr [wn 24 [wm 3,wm 3,wh (.ia · (.st 4) (.tmp 25) (.k (.int .i64 1))),wK 4,wh (.ia · (.st 4) (.tmp 24) (.k (.int .i64 0)))],
 qn [qw 4 28 27]] (Kp 25) (qr [wn 29 [wm 3,wk 4 4,wh (.ia · (.st 4) (.tmp 29) (.k (.int .i64 1)))],
 qn [qw 4 31 30]] [0,3]))) .skip)) .skip)))))) (sq [qm 32 3,qa 2 32] [0,2] .ret)))⟩
noncomputable def Kv(x_:((List AD)×AH)):Option ((List AD)×AH):=
 match x_ with
 |(v4,v5)=>some (v4,v5)
noncomputable def mV(p0:AH):Option ((List AD)×AH):=
 bd (eQ p0) fun x1=>
 bd (A3 x1.snd 10) fun x2=>
 br (x2.fst==0)
  (bd (eP x2.snd) fun x3=>
  gd (List.length x1.fst+[x3.fst].length<=lim) (
  jn (Kv) (x1.fst++[x3.fst],x3.snd)))
  (br (x2.fst==1)
   (br (decide ((↑(List.length x1.fst):Int)>1))
    (bd (at? x1.fst 0) fun x6=>
    bd (at? x1.fst 0) fun x7=>
    bd (at? x1.fst 1) fun x8=>
    bd (at? x1.fst 1) fun x9=>
    bd (at? x1.fst 0) fun x10=>
    bd (at? x1.fst 0) fun x11=>
    bd (at? (List.set x1.fst (Int.toNat 0) x9) 1) fun x12=>
    bd (at? (List.set x1.fst (Int.toNat 0) x9) 1) fun x13=>
    jn (Kv) (((List.set x1.fst (Int.toNat 0) x9).set (Int.toNat 1) x7,x2.snd)))
    (jn (Kv) (x1.fst,x2.snd)))
   (jn (Kv) (x1.fst,x2.snd)))
noncomputable def U1:GF:=AAP.gf rfl rfl (fun a=>mV a.1) (fun a=>by kernel_rfl)
noncomputable def AAp:YF:=⟨[],[.b (.st 17)],[],.ret [(.st 5)],[.cell 2 (some 2)],
 sq [.alloc 2 [.int .i64 0,.int .i64 0]] [0,2] (sr [wn 4 [wm 0,wc AQ rfl [4,qj 24],wh (.bin · .num .add (.k (.int .i64 1)) (.tmp 5)),wm 0,wc AQ rfl [7,qj 12],wh (.bin · .num .add (.k (.int .i64 1)) (.tmp 8)),wh (.build · [.int .i64 0,.int .i64 0] [(0,1,(.tmp 6)),(1,1,(.tmp 9))])],
 qn [.alloc 3 [.int .i64 0,.int .i64 0],qw 2 3 10]] (Kp 13) (.join [(true,0,.one,[.val (.st 17) (some (.old 0))]),cx 3 (.st 5)] (sw 11 [wm 0,wc AQ rfl [11,qj 20]] (Kp 4109) (.block 0 (sq [qi 14 .eql 12 0,qa 13 14] (Kp 12301) (.cond 13 [0,2,3] (Kp 4109) (qr [wn 15 [wm 0,wh (.AW · 7 .i [(0,(.k (.int .i64 0))),(1,(.k (.int .i64 (-1)))),(2,(.k (.int .i64 (-9)))),(3,(.k (.int .i64 1000008))),(4,(.k (.int .i64 1000009))),(5,(.k (.int .i64 9223372036854775807))),(6,(.k (.int .i64 (-9223372036854775808))))]),wc B0 rfl [15,16],wo 0 3],
 qn [qw 1 18 17]] (Kp 13)) (sq [qi 20 .eql 12 1,qa 19 20] (Kp 524301) (.cond 19 [0,2,3] (Kp 13) (qr [wn 21 [wm 0,wh (.AW · 4 .i [(0,(.k (.int .i64 0))),(1,(.k (.int .i64 999))),(2,(.k (.int .i64 1000))),(3,(.k (.int .i64 (-1))))]),wc B0 rfl [21,22],wo 1 3],
 qn [qw 1 24 23]] (Kp 13)) .skip)))))) (sq [qL 25 2 3,qw 2 2 25] [0,2] .ret)))⟩
noncomputable def PU(x_:(AH×AN)):Option (AN×AH):=
 match x_ with
 |(v5,v6)=>some (v6,v5)
noncomputable def fG(p0:AH):Option (AN×AH):=
 bd (A3 p0 24) fun x1=>
 bd (A3 x1.snd 12) fun x2=>
 bd (A3 x2.snd 20) fun x3=>
 br (x3.fst==0)
  (bd (KO x3.snd ([0,-1,-9,1000008,1000009,9223372036854775807,-9223372036854775808])) fun x4=>
  jn (PU) ((x4.snd,AN.mk x4.fst (w64 (1+x2.fst)))))
  (br (x3.fst==1)
   (bd (KO x3.snd ([0,999,1000,-1])) fun x7=>
   jn (PU) ((x7.snd,AN.mk (w64 (1+x1.fst)) x7.fst)))
   (jn (PU) ((x3.snd,AN.mk (w64 (1+x1.fst)) (w64 (1+x2.fst))))))
noncomputable def LN:GF:=AAp.gf rfl rfl (fun a=>fG a.1) (fun a=>by kernel_rfl)
noncomputable def AAq:YF:=⟨[],[.b (.st 17)],[],.ret [(.l (.st 5))],[.tmp 2],
 sq [.as 2 (.k .nil),.Av [(.tmp 2 0,(.st 5))]] [0] (sq [.AW 6 0 (.st 5) [],qa 3 6] [0,3] (sr [wn 7 [wm 0,wc AQ rfl [7,qj 8]],
 qn [qa 4 8]] (Kp 25) (.join [cv 3 (.l (.st 5)),(true,0,.one,[.val (.st 17) (some (.old 0))])] (sq [qK 5 0] (Kp 57) (bl 0 [cv 3 (.l (.st 5)),cv 5 .i,(true,0,.one,[.val (.st 17) (some (.old 0))])] (.seq (sw 9 [wm 5,wm 4,wB .lss 9] (Kp 2105) (ce 11 (Kp 57) [0,3] 0)) (.seq (.block 1 (qr [wn 14 [wm 3,wm 0,wY LN rfl,wh (.AW · 1 (.st 5) [(0,(.tmp 16))]),wh (.app · (.st 5) true (.tmp 14) (.tmp 17))],
 qn [qa 3 18]] (Kp 57))) (qr [wn 12 [wm 5,wI .add 1],
 qn [qa 5 13]] (Kp 57)))))) (sq [qm 19 3,qa 2 19] [0,2] .ret))))⟩
noncomputable def fH(x_:((List AN)×AH)):Option ((List AN)×AH):=
 match x_ with
 |(v7,v8)=>some (v7,v8)
noncomputable def fI(x1:(Int×AH))(L2:((List AN)×Int×AH)->Option ((List AN)×AH))(x_:((List AN)×Int×AH)):Option ((List AN)×AH):=
 match x_ with
 |(v3,v4,v5)=>br (decide (v4<x1.fst))
  (bd (fG v5) fun x6=>
  gd (List.length v3+[x6.fst].length<=lim) (
  L2 ((v3++[x6.fst],w64 (v4+1),x6.snd))))
  (jn (fH) (v3,v5))
noncomputable def mq(p0:AH):Option ((List AN)×AH):=
 bd (A3 p0 8) fun x1=>
 AT (fI x1) big ([],0,x1.snd)
noncomputable def U2:GF:=AAq.gf rfl rfl (fun a=>mq a.1) (fun a=>by kernel_rfl)
end Lv
set_option maxRecDepth 100000
namespace Lv
open Go (IntKind BinOp UnOp)
open Y (YF qn qf qt qr q1 qd qm qa qo ql qL qb qi qx qp qq qc qz qe qk qK qB qw qu qj Kp wn wf wt w1 sw sq sr wm wM wo wO wl wL wk wK wz wZ wx wX wb wB wi wI wr wR wq wQ we wE wc wY wj wh cv ca cx cn ce bl)
noncomputable def AAr:YF:=⟨[],[.b (.st 17)],[],.ret [(.st 6)],[.cell 2 (some 1)],
 sq [.alloc 2 [.nil],.Av [(.cell 2 0,(.l (.st 5)))]] [0,2] (sq [qc 7 Dx rfl [],.alloc 3 [.nil],.Av [(.cell 3 0,(.l (.st 5)))],qw 1 3 7] (Kp 13) (sr [wn 8 [wm 0,wY U2 rfl],
 qn [qa 4 9]] (Kp 29) (.join [cv 4 (.l (.st 5)),(true,0,.one,[.val (.st 17) (some (.old 0))])] (sw 10 [wm 0,wc Bk rfl [10,qj 10]] (Kp 2077) (.cond 11 [0,2,3,4] (Kp 29) (sq [qK 5 0] (Kp 61) (bl 0 [cv 4 (.l (.st 5)),cv 5 .i] (.seq (sw 12 [wm 5,wI .lss 10] (Kp 8253) (ce 13 [0,2,3,4,5] (Kp 29) 0)) (.seq (.block 1 (qr [wn 16 [wm 4,wm 5,wh (.bin · .num .add (.k (.int .i64 3)) (.tmp 17)),wm 5,wh (.bin · .num .add (.k (.int .i64 100)) (.tmp 19)),wh (.build · [.int .i64 0,.int .i64 0] [(0,1,(.tmp 18)),(1,1,(.tmp 20))]),wh (.AW · 1 (.st 5) [(0,(.tmp 21))]),wh (.app · (.st 5) true (.tmp 16) (.tmp 22))],
 qn [qa 4 23]] (Kp 61))) (qr [wn 14 [wm 5,wI .add 1],
 qn [qa 5 15]] (Kp 61)))))) .skip)) (.join [cx 3 (.st 6)] (sq [qK 6 0] (Kp 93) (bl 2 [cv 6 .i,cx 3 (.st 6)] (.seq (sw 24 [wm 6,wm 4,wZ,wB .lss 24] (Kp 134217821) (ce 27 [0,2,3,4,6] (Kp 13) 2)) (.seq (.block 3 (.A8 (qd 0 [wn 31 [wk 1 3,wm 4,wm 6,wE (.st 5) 32,wK 2,wc El rfl [31,35]],
 qn [qm 30 36],
 wn 37 [wh (.ext · (.tmp 30) 0),wh (.ext · (.tmp 30) 1)],
 qn [qw 1 3 37]] .nil) [0,2,3,4,6])) (qr [wn 28 [wm 6,wI .add 1],
 qn [qa 6 29]] (Kp 93)))))) (sq [qL 39 1 3,qw 1 2 39] [0,2] .ret)))))⟩
noncomputable def fK(v8:AH)(v15:AK):Option (AK×AH):=
 some (v15,v8)
noncomputable def fM(v7:(List AN))(v8:AH)(L9:(Int×AK)->Option (AK×AH))(x_:(Int×AK)):Option (AK×AH):=
 match x_ with
 |(v10,v11)=>br (decide (v10<(↑(List.length v7):Int)))
  (bd (at? v7 v10) fun x12=>
  bd (at? v7 v10) fun x13=>
  bd (UH v11 x13) fun x14=>
  L9 ((w64 (v10+1),x14.fst)))
  (jn (fK v8) v11)
noncomputable def PV(x1:AK)(x_:((List AN)×AH)):Option (AK×AH):=
 match x_ with
 |(v7,v8)=>AT (fM v7 v8) big (0,x1)
noncomputable def fL(x1:AK)(x3:(Bool×AH))(L4:((List AN)×Int)->Option (AK×AH))(x_:((List AN)×Int)):Option (AK×AH):=
 match x_ with
 |(v5,v6)=>br (decide (v6<10))
  (gd (List.length v5+[AN.mk (w64 (3+v6)) (w64 (100+v6))].length<=lim) (
  L4 ((v5++[AN.mk (w64 (3+v6)) (w64 (100+v6))],w64 (v6+1)))))
  (jn (PV x1) (v5,x3.snd))
noncomputable def fJ(p0:AH):Option (AK×AH):=
 bd (T2) fun x1=>
 bd (mq p0) fun x2=>
 bd (KN x2.snd 10) fun x3=>
 br x3.fst
  (AT (fL x1 x3) big (x2.fst,0))
  (jn (PV x1) (x2.fst,x3.snd))
noncomputable def LO:GF:=AAr.gf rfl rfl (fun a=>fJ a.1) (fun a=>by kernel_rfl)
noncomputable def AAs:YF:=⟨[],[.b (.st 17)],[],.ret [(.st 6)],[.cell 2 (some 1)],
 sq [.alloc 2 [.nil],.Av [(.cell 2 0,(.l (.st 5)))]] [0,2] (sr [wn 5 [wm 0,wY LO rfl],
 qn [.alloc 3 [.nil],.Av [(.cell 3 0,(.l (.st 5)))],qw 1 3 6]] (Kp 13) (.join [(true,0,.one,[.val (.st 17) (some (.old 0))]),cx 3 (.st 6)] (sw 7 [wm 0,wc AQ rfl [7,qj 10]] (Kp 269) (.block 0 (sq [qi 10 .eql 8 0,qa 9 10] (Kp 781) (.cond 9 [0,2,3] (Kp 269) (sr [wn 11 [wm 0,wc AQ rfl [11,qj 9]],
 qn [qa 4 12]] (Kp 29) (.A8 (qd 0 [wn 13 [wo 0 3,wL,wm 4,wo 0 3,wL,wm 4,wE (.l (.st 5)) 17,wL,wm 0]] (.op 9 none [13,16,19] (.call 22 LN [] rfl [(.tmp 21)])
 (.op 10 none [13,16,19] (.AW 23 1 (.st 5) [(0,(.tmp 22))])
 (.op 11 none [13] (.app 24 (.st 5) true (.tmp 20) (.tmp 23))
 (qd 12 [qn [qe 25 (.l (.st 5)) 14 15,qw 1 25 24]] .nil))))) [0,2,3])) (sq [qi 27 .eql 8 1,qa 26 27] (Kp 67109133) (.cond 26 [0,2,3] (Kp 269) (.A8 (qd 0 [wn 28 [wo 0 3,wL,wm 0]] (.op 3 none [28] (.call 31 AQ [] rfl [(.tmp 30),(.k (.int .i64 10))])
 (qd 4 [wn 32 [wh (.sub · (.l (.st 5)) (.tmp 29) none (some (.tmp 31))),wo 0 3],
 qn [qw 1 33 32]] .nil))) [0,2,3]) (sq [qi 35 .eql 8 2,qa 34 35] [0,2,3,34] (.cond 34 [0,2,3] (Kp 13) (qr [wn 36 [wo 0 3,wL,wh (.AW · 0 (.st 5) []),wh (.AW · 1 (.l (.st 5)) [(0,(.tmp 38))]),wh (.app · (.l (.st 5)) false (.tmp 37) (.tmp 39)),wo 0 3],
 qn [qw 1 41 40]] (Kp 13)) .skip)))))))) (sq [qL 42 1 3,qw 1 2 42] [0,2] .ret)))⟩
noncomputable def K0(x_:(AH×AK)):Option (AK×AH):=
 match x_ with
 |(v9,v10)=>some (v10,v9)
noncomputable def mr(p0:AH):Option (AK×AH):=
 bd (fJ p0) fun x1=>
 bd (A3 x1.snd 10) fun x2=>
 br (x2.fst==0)
  (bd (A3 x2.snd 9) fun x3=>
  bd (at? x1.fst.AJ x3.fst) fun x4=>
  bd (at? x1.fst.AJ x3.fst) fun x5=>
  bd (fG x3.snd) fun x6=>
  gd (List.length x5+[x6.fst].length<=lim) (
  bd (at? x1.fst.AJ x3.fst) fun x7=>
  bd (at? x1.fst.AJ x3.fst) fun x8=>
  gd (Y.Jq (Int.toNat x3.fst) 0 [U.sl (C.st 5) (x5++[x6.fst])].length [(Int.toNat x3.fst,0)]) (
  jn (K0) ((x6.snd,AK.mk (x1.fst.AJ.set (Int.toNat x3.fst) (x5++[x6.fst])))))))
  (br (x2.fst==1)
   (bd (A3 x2.snd 10) fun x11=>
   gd (0<=x11.fst/\x11.fst<=(↑x1.fst.AJ.length:Int)) (
   jn (K0) ((x11.snd,AK.mk (List.take (Int.toNat x11.fst-0) (List.drop 0 x1.fst.AJ))))))
   (br (x2.fst==2)
    (gd (x1.fst.AJ.length+1<=lim) (
    jn (K0) ((x2.snd,AK.mk (x1.fst.AJ++[[]])))))
    (jn (K0) (x2.snd,x1.fst))))
noncomputable def U3:GF:=AAs.gf rfl rfl (fun a=>mr a.1) (fun a=>by kernel_rfl)
noncomputable def AAt:YF:=⟨[],[.b (.st 17)],[],.ret [(.st 7)],[.cell 2 (some 7)],
 sq [.alloc 2 Cn,.Av [(.cell 2 5,(.st 4)),(.cell 2 6,(.l (.st 5)))]] [0,2] (sr [wn 3 [wm 0,wY LJ rfl,wm 0,wY LL rfl,wm 0,wY LO rfl,wh (.build · Cn [(0,5,(.tmp 4)),(5,1,(.tmp 6)),(6,1,(.tmp 8))])],
 qn [qw 7 2 9]] [0,2] .ret)⟩
noncomputable def rG(p0:AH):Option (Am×AH):=
 bd (eO p0) fun x1=>
 bd (eQ x1.snd) fun x2=>
 bd (fJ x2.snd) fun x3=>
 some (Am.mk x1.fst x2.fst x3.fst,x3.snd)
noncomputable def U4:GF:=AAt.gf rfl rfl (fun a=>rG a.1) (fun a=>by kernel_rfl)
noncomputable def AAu:YF:=⟨[],[.b (.st 17)],[],.ret [(.st 7)],[.cell 2 (some 7)],
 sq [.alloc 2 Cn,.Av [(.cell 2 5,(.st 4)),(.cell 2 6,(.l (.st 5)))]] [0,2] (.seq (sw 4 [wm 0,wc Bk rfl [4,qj 4]] (Kp 37) (.cond 5 [0,2] [0,2] (sr [wn 6 [wm 0,wY Uz rfl,wm 0,wY U1 rfl,wm 0,wY U3 rfl,wh (.build · Cn [(0,5,(.tmp 7)),(5,1,(.tmp 9)),(6,1,(.tmp 11))])],
 qn [qw 7 2 12]] [0,2] .ret) .skip)) (sr [wn 13 [wm 0,wY U4 rfl],
 qn [.alloc 3 Cn,.Av [(.cell 3 5,(.st 4)),(.cell 3 6,(.l (.st 5)))],qw 7 3 14]] (Kp 13) (.join [cx 3 (.st 7)] (sw 15 [wo 0 3,wO 0,wL,wI .eql 0] (Kp 262157) (.cond 18 [0,2,3] (Kp 13) (qr [wn 19 [wh (.build · Bf [(0,1,(.k (.int .i64 3))),(1,1,(.k (.int .i64 1))),(3,1,(.k (.int .i64 2)))]),wo 0 3],
 qn [qw 5 20 19]] (Kp 13)) .skip)) (sq [qL 21 7 3,qw 7 2 21] [0,2] .ret))))⟩
noncomputable def Uc(x5:(Am×AH))(v6:Am):Option (Am×AH):=
 some (v6,x5.snd)
noncomputable def mu(p0:AH):Option (Am×AH):=
 bd (KN p0 4) fun x1=>
 br x1.fst
  (bd (mT x1.snd) fun x2=>
  bd (mV x2.snd) fun x3=>
  bd (mr x3.snd) fun x4=>
  some (Am.mk x2.fst x3.fst x4.fst,x4.snd))
  (bd (rG x1.snd) fun x5=>
  br (x5.fst.AM.Total==0)
   (jn (Uc x5) (Am.mk (BH.mk 3 1 0 2 0) x5.fst.Row x5.fst.Gk))
   (jn (Uc x5) x5.fst))
noncomputable def U5:GF:=AAu.gf rfl rfl (fun a=>mu a.1) (fun a=>by kernel_rfl)
noncomputable def AAv:YF:=⟨[],[.b (.st 17)],[],.ret [(.st 8)],[.cell 2 (some 15)],
 sq [.alloc 2 A9,.Av [(.cell 2 0,.i),(.cell 2 11,(.st 2)),(.cell 2 12,(.st 7)),(.cell 2 13,.i),(.cell 2 14,.i)]] [0,2] (sr [wn 5 [wm 0,wY HA rfl],
 qn [.alloc 3 A9,.Av [(.cell 3 0,.i),(.cell 3 11,(.st 2)),(.cell 3 12,(.st 7)),(.cell 3 13,.i),(.cell 3 14,.i)],qw 15 3 6]] (Kp 13) (sr [wn 7 [wm 0,wh (.AW · 9 .i [(0,(.k (.int .i64 (-1)))),(1,(.k (.int .i64 0))),(2,(.k (.int .i64 1))),(3,(.k (.int .i64 3))),(4,(.k (.int .i64 1000000))),(5,(.k (.int .i64 1000001))),(6,(.k (.int .i64 1000002))),(7,(.k (.int .i64 9223372036854775807))),(8,(.k (.int .i64 (-9223372036854775808))))]),wc B0 rfl [7,8]],
 qn [qa 4 9]] (Kp 29) (.join [(true,0,.one,[.val (.st 17) (some (.old 0))]),cx 3 (.st 8)] (sw 10 [wm 0,wc AQ rfl [10,qj 40]] (Kp 2077) (.block 0 (sq [qi 13 .eql 11 0,qa 12 13] (Kp 6173) (.cond 12 [0,2,3,4] (Kp 2077) (qr [wn 14 [wm 4,wo 9 3],
 qn [qw 1 15 14]] (Kp 13)) (sq [qi 17 .eql 11 1,qa 16 17] (Kp 67613) (.cond 16 [0,2,3,4] (Kp 2077) (qr [wn 18 [wm 4,wo 10 3],
 qn [qw 1 19 18]] (Kp 13)) (sq [qi 21 .eql 11 2,qa 20 21] (Kp 1050653) (.cond 20 [0,2,3,4] (Kp 2077) (qr [wn 22 [wo 13 3,wL,wm 4,wh (.AW · 1 .i [(0,(.tmp 24))]),wh (.app · .i true (.tmp 23) (.tmp 25)),wo 13 3],
 qn [qw 1 27 26]] (Kp 13)) (sq [qi 29 .eql 11 3,qa 28 29] (Kp 268437533) (.cond 28 [0,2,3,4] (Kp 2077) (qr [wn 30 [wo 14 3,wL,wm 4,wh (.AW · 1 .i [(0,(.tmp 32))]),wh (.app · .i true (.tmp 31) (.tmp 33)),wo 14 3],
 qn [qw 1 35 34]] (Kp 13)) (sq [qi 37 .eql 11 4,qa 36 37] (Kp 68719478813) (.cond 36 [0,2,3] (Kp 2077) (.A8 (qd 0 [wn 38 [wo 11 3,wL,wm 0,wo 0 3,wK 9,wo 9 3,wL]] (.op 7 none [38] (.call 45 Uy [] rfl [(.tmp 40),(.tmp 42),(.tmp 44)])
 (.op 8 none [38] (.AW 46 1 (.st 2) [(0,(.tmp 45))])
 (qd 9 [wn 47 [wh (.app · (.st 2) true (.tmp 39) (.tmp 46)),wo 11 3],
 qn [qw 1 48 47]] .nil)))) [0,2,3]) (sq [qi 50 .eql 11 5,qa 49 50] [0,2,3,4,11,49] (.cond 49 [0,2,3,4] (Kp 2077) (sw 51 [wo 11 3,wL,wZ,wI .gtr 0] [0,2,3,4,54] (.cond 54 [0,2,3,4] (Kp 13) (qr [wn 55 [wo 11 3,wL,wm 4,wh (.ia · (.st 2) (.tmp 56) (.k (.int .i64 0))),wO 5],
 qn [qw 1 59 57]] (Kp 13)) .skip)) (sq [qi 61 .eql 11 6,qa 60 61] [0,2,3,4,11,60] (.cond 60 [0,2,3] (Kp 2077) (qr [wn 62 [wo 12 3,wL,wo 12 3,wL,wZ,wI .sub 1,wh (.sub · (.st 7) (.tmp 63) none (some (.tmp 67))),wo 12 3],
 qn [qw 1 69 68]] (Kp 13)) (sq [qi 71 .eql 11 7,qa 70 71] [0,2,3,4,11,70] (.cond 70 [0,2,3] (Kp 2077) (.A8 (qd 0 [wn 72 [wo 12 3,wL,wm 0]] (.op 3 none [72] (.call 75 U5 [] rfl [(.tmp 74)])
 (qd 4 [qn [.ia 76 (.st 7) (.tmp 73) (.k (.int .i64 0)),qw 7 76 75]] .nil))) [0,2,3]) (sq [qi 78 .eql 11 8,qa 77 78] [0,2,3,4,11,77] (.cond 77 [0,2,3,4] (Kp 2061) (qr [wn 79 [wm 4,wo 0 3,wO 2],
 qn [qw 1 81 79]] (Kp 13)) (sq [qi 83 .eql 11 9,qa 82 83] [0,2,3,82] (.cond 82 [0,2,3] (Kp 13) (sw 84 [wo 11 3,wL,wZ,wI .gtr 1] [0,2,3,87] (.cond 87 [0,2,3] (Kp 13) (.A8 (qd 0 [wn 88 [wo 11 3,wL,wo 11 3,wL,wh (.ia · (.st 2) (.tmp 91) (.k (.int .i64 1))),wO 6,wL,wh (.ia · (.st 2) (.tmp 89) (.k (.int .i64 0))),wO 6],
 qn [qw 1 96 94]] .nil) [0,2,3]) .skip)) .skip)))))))))))))))))))))) (sq [qL 97 15 3,qw 15 2 97] [0,2] .ret))))⟩
noncomputable def Cq(x_:(AH×AF)):Option (AF×AH):=
 match x_ with
 |(v4,v5)=>some (v5,v4)
noncomputable def mw(p0:AH):Option (AF×AH):=
 bd (X7 p0) fun x1=>
 bd (KO x1.snd ([-1,0,1,3,1000000,1000001,1000002,9223372036854775807,-9223372036854775808])) fun x2=>
 bd (A3 x2.snd 40) fun x3=>
 br (x3.fst==0)
  (jn (Cq) (x3.snd,AF.mk x1.fst.AS x2.fst x1.fst.Ah x1.fst.AE x1.fst.AR x1.fst.A7 x1.fst.BC))
  (br (x3.fst==1)
   (jn (Cq) (x3.snd,AF.mk x1.fst.AS x1.fst.Now x2.fst x1.fst.AE x1.fst.AR x1.fst.A7 x1.fst.BC))
   (br (x3.fst==2)
    (gd (x1.fst.A7.length+[x2.fst].length<=lim) (
    jn (Cq) ((x3.snd,AF.mk x1.fst.AS x1.fst.Now x1.fst.Ah x1.fst.AE x1.fst.AR (x1.fst.A7++[x2.fst]) x1.fst.BC))))
    (br (x3.fst==3)
     (gd (x1.fst.BC.length+[x2.fst].length<=lim) (
     jn (Cq) ((x3.snd,AF.mk x1.fst.AS x1.fst.Now x1.fst.Ah x1.fst.AE x1.fst.AR x1.fst.A7 (x1.fst.BC++[x2.fst])))))
     (br (x3.fst==4)
      (bd (mS x3.snd x1.fst.AS x1.fst.Now) fun x6=>
      gd (x1.fst.AE.length+[x6.fst].length<=lim) (
      jn (Cq) ((x6.snd,AF.mk x1.fst.AS x1.fst.Now x1.fst.Ah (x1.fst.AE++[x6.fst]) x1.fst.AR x1.fst.A7 x1.fst.BC))))
      (br (x3.fst==5)
       (br (decide ((↑x1.fst.AE.length:Int)>0))
        (bd (at? x1.fst.AE 0) fun x7=>
        bd (at? x1.fst.AE 0) fun x8=>
        jn (Cq) ((x3.snd,AF.mk x1.fst.AS x1.fst.Now x1.fst.Ah (x1.fst.AE.set (Int.toNat 0) (AI.mk x8.Id x8.A4 x8.CB x8.As x8.CX x2.fst x8.Ah x8.State x8.BW x8.CA)) x1.fst.AR x1.fst.A7 x1.fst.BC)))
        (jn (Cq) (x3.snd,x1.fst)))
       (br (x3.fst==6)
        (gd (0<=w64 ((↑x1.fst.AR.length:Int)-1)/\w64 ((↑x1.fst.AR.length:Int)-1)<=(↑x1.fst.AR.length:Int)) (
        jn (Cq) ((x3.snd,AF.mk x1.fst.AS x1.fst.Now x1.fst.Ah x1.fst.AE (List.take ((w64 ((↑x1.fst.AR.length:Int)-1)).toNat-0) (List.drop 0 x1.fst.AR)) x1.fst.A7 x1.fst.BC))))
        (br (x3.fst==7)
         (bd (mu x3.snd) fun x9=>
         bd (at? x1.fst.AR 0) fun x10=>
         bd (at? x1.fst.AR 0) fun x11=>
         jn (Cq) ((x9.snd,AF.mk x1.fst.AS x1.fst.Now x1.fst.Ah x1.fst.AE (x1.fst.AR.set (Int.toNat 0) x9.fst) x1.fst.A7 x1.fst.BC)))
         (br (x3.fst==8)
          (jn (Cq) ((x3.snd,AF.mk (AO.mk x1.fst.AS.AM x1.fst.AS.BG x2.fst x1.fst.AS.As x1.fst.AS.A2 x1.fst.AS.Ax x1.fst.AS.Rest x1.fst.AS.BA x1.fst.AS.Bd) x1.fst.Now x1.fst.Ah x1.fst.AE x1.fst.AR x1.fst.A7 x1.fst.BC)))
          (br (x3.fst==9)
           (br (decide ((↑x1.fst.AE.length:Int)>1))
            (bd (at? x1.fst.AE 1) fun x12=>
            bd (at? x1.fst.AE 1) fun x13=>
            bd (at? x1.fst.AE 0) fun x14=>
            bd (at? x1.fst.AE 0) fun x15=>
            jn (Cq) ((x3.snd,AF.mk x1.fst.AS x1.fst.Now x1.fst.Ah (x1.fst.AE.set (Int.toNat 0) (AI.mk x15.Id x15.A4 x15.CB x15.As x15.CX x15.Since x13.Ah x15.State x15.BW x15.CA)) x1.fst.AR x1.fst.A7 x1.fst.BC)))
            (jn (Cq) (x3.snd,x1.fst)))
           (jn (Cq) (x3.snd,x1.fst)))))))))))
noncomputable def U6:GF:=AAv.gf rfl rfl (fun a=>mw a.1) (fun a=>by kernel_rfl)
noncomputable def AAw:YF:=⟨[],[.b (.st 17)],[],.ret [.i],[.tmp 2],
 sq [qK 2 0] [0] (sr [wn 3 [wm 0,wh (.AW · 9 .i [(0,(.k (.int .i64 0))),(1,(.k (.int .i64 0))),(2,(.k (.int .i64 1))),(3,(.k (.int .i64 7))),(4,(.k (.int .i64 300))),(5,(.k (.int .i64 1000000))),(6,(.k (.int .i64 1000001))),(7,(.k (.int .i64 (-1)))),(8,(.k (.int .i64 9223372036854775807)))]),wc B0 rfl [3,4]],
 qn [qa 2 5]] [0,2] .ret)⟩
noncomputable def rH(p0:AH):Option (Int×AH):=
 bd (KO p0 ([0,0,1,7,300,1000000,1000001,-1,9223372036854775807])) fun x1=>
 some (x1.fst,x1.snd)
noncomputable def U7:GF:=AAw.gf rfl rfl (fun a=>rH a.1) (fun a=>by kernel_rfl)
noncomputable def AAx:YF:=⟨[],[.v (.l .u)],[],.ret [(.st 8),.i],[.cell 2 (some 15),.tmp 3],
 sq [.alloc 2 A9,.Av [(.cell 2 0,.i),(.cell 2 11,(.st 2)),(.cell 2 12,(.st 7)),(.cell 2 13,.i),(.cell 2 14,.i)],qK 3 0] [0,2] (sr [wn 6 [wm 0,wY LF rfl],
 qn [qa 4 7]] [2,4] (sr [wn 8 [wm 4,wY HA rfl],
 qn [.alloc 5 A9,.Av [(.cell 5 0,.i),(.cell 5 11,(.st 2)),(.cell 5 12,(.st 7)),(.cell 5 13,.i),(.cell 5 14,.i)],qw 15 5 9]] (Kp 52) (.join [cx 5 (.st 8),(true,7,.one,[.val (.st 17) (some (.old 0))])] (sw 10 [wm 4,wc Bk rfl [10,qj 8]] (Kp 2100) (.cond 11 [2,4,5] (Kp 52) (qr [wn 12 [wm 4,wY U6 rfl],
 qn [qw 15 5 13]] (Kp 52)) .skip)) (.seq (.A8 (qd 0 [wn 14 [wk 15 5,wm 4]] (.op 2 none [5] (.call 16 U7 [] rfl [(.tmp 15)])
 (qd 3 [qn [qw 15 2 14,qa 3 16]] .nil))) [2,3]) .ret))))⟩
noncomputable def PW(x_:(AF×AH)):Option (AF×Int):=
 match x_ with
 |(v5,v6)=>bd (rH v6) fun x7=>
 some (v5,x7.fst)
noncomputable def fN(p0:(List UInt8)):Option (AF×Int):=
 bd (de p0) fun x1=>
 bd (X7 x1) fun x2=>
 bd (KN x2.snd 8) fun x3=>
 br x3.fst
  (bd (mw x3.snd) fun x4=>
  jn (PW) (x4.fst,x4.snd))
  (jn (PW) (x2.fst,x3.snd))
noncomputable def Qw:GF:=AAx.gf rfl rfl (fun a=>fN a.1) (fun a=>by kernel_rfl)
noncomputable def QQ:YF:=⟨[],[.v (.l .u)],[],.ret [.b],[.tmp 2],
 sq [qB 2 false] [0] (.seq (sw 14 [wm 0,wY Jl rfl] [0,15] (cn 15 [0] (sq [qB 2 true] [2] .ret))) (sr [wn 17 [wm 0,wY Qw rfl],
 qn [qm 16 18],
 wn 19 [wh (.ext · (.tmp 16) 0),wh (.ext · (.tmp 16) 1)],
 qn [.alloc 3 A9,.Av [(.cell 3 0,.i),(.cell 3 11,(.st 2)),(.cell 3 12,(.st 7)),(.cell 3 13,.i),(.cell 3 14,.i)],qw 15 3 19,qa 4 20]] [0,3] (sr [wn 21 [wk 15 3,wc Jm rfl [21,qj 5]],
 qn [qa 5 22]] (Kp 41) (.seq (sw 23 [wk 15 3,wY Fq rfl,wX] [0,5,25] (.cond 25 [5] [0,5] (sr [wn 26 [wm 5,wh (.bin · .num .eql (.tmp 26) (.k (.str [])))],
 qn [qa 2 27]] [2] .ret) .skip)) (.seq (sw 28 [wm 5,wh (.lens · (.tmp 28)),wI .lss 20] [0,5,30] (cn 30 [0,5] (sq [qB 2 false] [2] .ret))) (sr [wn 32 [wm 5,wm 0,wc HB rfl [33,qj 1],wI .mul 256,wm 0,wc HB rfl [36,qj 2],wB .add 35,wm 5,wh (.lens · (.tmp 39)),wB .rem 38,wh (.M8 · (.tmp 32) none (some (.tmp 41))),wY LI rfl],
 qn [qm 31 43],
 wn 44 [wh (.ext · (.tmp 31) 0),wh (.ext · (.tmp 31) 1),wh (.ext · (.tmp 31) 2)],
 qn [.alloc 6 A9,.Av [(.cell 6 0,.i),(.cell 6 11,(.st 2)),(.cell 6 12,(.st 7)),(.cell 6 13,.i),(.cell 6 14,.i)],qw 15 6 44,qa 7 45,qa 8 46]] (Kp 289) (sr [wn 47 [wm 5,wh (.Jb · (.tmp 47))],
 qn [qa 9 48]] (Kp 769) (sr [wn 49 [wm 0,wc HB rfl [49,qj 3],wI .mul 256,wm 0,wc HB rfl [52,qj 4],wB .add 51,wm 9,wZ,wB .rem 54],
 qn [qa 10 57]] (Kp 1793) (.seq (.A8 (qd 0 [wn 58 [wm 9,wm 10,wm 9,wm 10,wE .u 60,wL,wm 0]] (.op 7 none [62] (.call 65 HB [] rfl [(.tmp 64),(.k (.int .i64 5))])
 (qd 8 [wn 66 [wI .rem 255,wh (.bin · .num .add (.k (.int .i64 1)) (.tmp 66)),wh (.cvI · .u8 (.tmp 67)),wB .xor 63,we .u 58 59],
 qn [qw 1 70 69]] .nil))) [8,9]) (sr [wn 72 [wm 9,wh (.He · (.tmp 72)),wY LI rfl],
 qn [qm 71 74],
 wn 75 [wh (.ext · (.tmp 71) 0),wh (.ext · (.tmp 71) 1),wh (.ext · (.tmp 71) 2)],
 qn [.alloc 11 A9,.Av [(.cell 11 0,.i),(.cell 11 11,(.st 2)),(.cell 11 12,(.st 7)),(.cell 11 13,.i),(.cell 11 14,.i)],qw 15 11 75,qa 12 76,qa 13 77]] [8,13] (.join [cv 2 .b] (qr [wn 78 [wm 8,wX,wM],
 wt 80 81 [wm 13,wX],
 qn [qq 83 80 82,qa 2 83]] [2]) .ret)))))))))))⟩
noncomputable def Df(v16:Bool):Option Bool:=
 some v16
noncomputable def DZ(p0:(List UInt8)):Option Bool:=
 bd (db p0) fun x1=>
 br x1
  (some true)
  (bd (fN p0) fun x2=>
  bd (X5 x2.fst 5) fun x3=>
  bd (Qd x2.fst) fun x4=>
  br (!x4)
   (some (x3==[]))
   (br (decide ((↑(List.length x3):Int)<20))
    (some false)
    (bd (Iq p0 1) fun x5=>
    bd (Iq p0 2) fun x6=>
    gd ((↑(List.length x3):Int)≠0) (
    gd (0<=(w64 (w64 (x5*256)+x6)).tmod (↑(List.length x3):Int)/\(w64 (w64 (x5*256)+x6)).tmod (↑(List.length x3):Int)<=(↑(List.length x3):Int)) (
    bd (Ku (List.take ((w64 (w64 (x5*256)+x6)).tmod (↑(List.length x3):Int)).toNat x3)) fun x7=>
    bd (Iq p0 3) fun x8=>
    bd (Iq p0 4) fun x9=>
    gd ((↑(List.length x3):Int)≠0) (
    bd (at? x3 ((w64 (w64 (x8*256)+x9)).tmod (↑(List.length x3):Int))) fun x10=>
    bd (at? x3 ((w64 (w64 (x8*256)+x9)).tmod (↑(List.length x3):Int))) fun x11=>
    bd (Iq p0 5) fun x12=>
    bd (at? x3 ((w64 (w64 (x8*256)+x9)).tmod (↑(List.length x3):Int))) fun x13=>
    bd (at? x3 ((w64 (w64 (x8*256)+x9)).tmod (↑(List.length x3):Int))) fun x14=>
    bd (Ku (List.set x3 ((w64 (w64 (x8*256)+x9)).tmod (↑(List.length x3):Int)).toNat (toB (↑(BitVec.ofInt Go.IntKind.u8.bits (↑(UInt8.toNat x11):Int) ^^^ BitVec.ofInt Go.IntKind.u8.bits (↑(toB (w64 (1+Int.tmod x12 255))).toNat:Int)).toNat:Int)))) fun x15=>
    br (!x7.snd.snd)
     (jn (Df) (!x15.snd.snd))
     (jn (Df) false)))))))
noncomputable def DH:GF:=QQ.gf rfl rfl (fun a=>DZ a.1) (fun a=>by kernel_rfl)
noncomputable def AAy:YF:=⟨[],[.v (.st 1),.v (.st 1)],[],.ret [.b],[.tmp 4],
 sq [qu 2 0,qu 3 1,qB 4 false] [2,3] (.join [cv 4 .b] (qr [wn 5 [wo 0 2,wL,wo 0 3,wL,wc IL rfl [6,8],wM],
 wt 10 11 [wo 1 2,wL,wo 1 3,wL,wB .eql 12],
 wn 16 [wQ 10,wM],
 wt 17 18 [wo 2 2,wL,wo 2 3,wL,wB .eql 19],
 wn 23 [wQ 17,wM],
 wt 24 25 [wo 3 2,wL,wo 3 3,wL,wB .eql 26],
 wn 30 [wQ 24,wM],
 wt 31 32 [wo 4 2,wL,wo 4 3,wL,wB .eql 33],
 wn 37 [wQ 31,wM],
 wt 38 39 [wo 5 2,wL,wo 5 3,wL,wB .eql 40],
 wn 44 [wQ 38,wM],
 wt 45 46 [wo 6 2,wL,wo 6 3,wL,wB .eql 47],
 wn 51 [wQ 45,wM],
 wt 52 53 [wo 7 2,wL,wo 7 3,wL,wB .eql 54],
 wn 58 [wQ 52,wM],
 wt 59 60 [wo 8 2,wL,wo 8 3,wL,wB .eql 61],
 qn [qq 65 59 64,qa 4 65]] [4]) .ret)⟩
noncomputable def D2(v2:Bool):Option Bool:=
 some v2
noncomputable def my(p0:AO)(p1:AO):Option Bool:=
 bd (Ua p0.AM p1.AM) fun x1=>
 br x1
  (br (p0.BG==p1.BG)
   (br (p0.Room==p1.Room)
    (br (p0.As==p1.As)
     (br (p0.A2==p1.A2)
      (br (p0.Ax==p1.Ax)
       (br (p0.Rest==p1.Rest)
        (br (p0.BA==p1.BA)
         (jn (D2) (p0.Bd==p1.Bd))
         (jn (D2) false))
        (jn (D2) false))
       (jn (D2) false))
      (jn (D2) false))
     (jn (D2) false))
    (jn (D2) false))
   (jn (D2) false))
  (jn (D2) false)
noncomputable def jU:GF:=AAy.gf rfl rfl (fun a=>my a.1 a.2.1) (fun a=>by kernel_rfl)
noncomputable def AAz:YF:=⟨[],[.v (.st 6),.v (.st 6)],[],.ret [.b],[.tmp 4],
 sq [qu 2 0,qu 3 1,qB 4 false] [2,3] (.join [cv 4 .b] (.A8 (qd 0 [wn 5 [wk 1 2,wY Di rfl,wM],
 wt 7 8 [wk 1 3,wY Di rfl],
 wn 10 [wQ 7,wM],
 qt 11 [qL 12 1 2]] (.op 9 (some (11,true)) [] (.ld 14 (some 1) (.tmp 3))
 (.op 8 (some (11,true)) [3] (.call 13 LW [] rfl [(.tmp 12)])
 (qd 10 [wt 11 15 [wY LW rfl,wc Ph rfl [13,15]],
 qn [qq 17 11 16,qa 4 17]] .nil)))) [4]) .ret)⟩
noncomputable def PX(v6:Bool):Option Bool:=
 some v6
noncomputable def mz(p0:AK)(p1:AK):Option Bool:=
 bd (ZX p0) fun x1=>
 br x1
  (bd (ZX p1) fun x2=>
  br x2
   (bd (oe p0) fun x3=>
   bd (oe p1) fun x4=>
   bd (rP x3 x4) fun x5=>
   jn (PX) x5)
   (jn (PX) false))
  (jn (PX) false)
noncomputable def jV:GF:=AAz.gf rfl rfl (fun a=>mz a.1 a.2.1) (fun a=>by kernel_rfl)
noncomputable def AA0:YF:=⟨[],[.v (.st 7),.v (.st 7)],[],.ret [.b],[.tmp 4],
 sq [qu 2 0,qu 3 1,qB 4 false] [2,3] (.join [cv 4 .b] (qr [wn 5 [wk 7 2,wY LU rfl,wM],
 wt 7 8 [wk 7 3,wY LU rfl],
 wn 10 [wQ 7,wM],
 wt 11 12 [wo 0 2,wK 5,wo 0 3,wK 5,wh (.bin · (.agg [.i,.i,.i,.i,.i]) .eql (.tmp 13) (.tmp 15))],
 wn 17 [wQ 11,wM],
 wt 18 19 [wo 5 2,wL,wo 5 3,wL,wc Pg rfl [20,22]],
 wn 24 [wQ 18,wM],
 wt 25 26 [wo 6 2,wK 1,wo 6 3,wK 1,wc jV rfl [27,29]],
 qn [qq 31 25 30,qa 4 31]] [4]) .ret)⟩
noncomputable def Is(v5:Bool):Option Bool:=
 some v5
noncomputable def m0(p0:Am)(p1:Am):Option Bool:=
 bd (oW p0) fun x1=>
 br x1
  (bd (oW p1) fun x2=>
  br x2
   (br (p0.AM.Total==p1.AM.Total&&(p0.AM.Co==p1.AM.Co&&(p0.AM.Eb==p1.AM.Eb&&(p0.AM.JR==p1.AM.JR&&(p0.AM.M3==p1.AM.M3&&true)))))
    (bd (rO p0.Row p1.Row) fun x3=>
    br x3
     (bd (mz p0.Gk p1.Gk) fun x4=>
     jn (Is) x4)
     (jn (Is) false))
    (jn (Is) false))
   (jn (Is) false))
  (jn (Is) false)
noncomputable def jW:GF:=AA0.gf rfl rfl (fun a=>m0 a.1 a.2.1) (fun a=>by kernel_rfl)
noncomputable def AA1:YF:=⟨[],[.v (.st 8),.v (.st 8)],[],.ret [.b],[.tmp 4],
 sq [qu 2 0,qu 3 1,qB 4 false] [2,3] (.seq (.join [cv 61 .b] (qr [wn 7 [wk 15 2,wY Fq rfl,wX,wM],
 wf 10 11 [wk 15 3,wY Fq rfl,wX],
 wn 14 [wR 10,wM],
 wf 15 16 [wo 0 2,wK 9,wo 0 3,wK 9,wc jU rfl [17,19],wX],
 wn 22 [wR 15,wM],
 wf 23 24 [wo 9 2,wL,wo 9 3,wL,wB .neq 25],
 wn 29 [wR 23,wM],
 wf 30 31 [wo 10 2,wL,wo 10 3,wL,wB .neq 32],
 wn 36 [wR 30,wM],
 wf 37 38 [wo 11 2,wL,wZ,wo 11 3,wL,wZ,wB .neq 40],
 wn 45 [wR 37,wM],
 wf 46 47 [wo 13 2,wL,wo 13 3,wL,wc IL rfl [48,50],wX],
 wn 53 [wR 46,wM],
 wf 54 55 [wo 14 2,wL,wo 14 3,wL,wc IL rfl [56,58],wX],
 qn [qp 61 54 60]] [2,3,61]) (cn 61 [2,3] (sq [qB 4 false] [4] .ret))) (.join [] (sq [qK 5 0] (Kp 44) (bl 0 [cv 5 .i] (.seq (sw 62 [wm 5,wo 11 2,wL,wZ,wB .lss 62] [2,3,5,66] (ce 66 (Kp 44) [2,3] 0)) (.seq (.block 1 (.seq (.A8 (qd 0 [wn 69 [wo 11 2,wL,wm 5,wE (.st 2) 70,wK 10,wo 11 3,wL,wm 5,wE (.st 2) 75,wK 10,wh (.bin · (.agg [.i,.i,.i,.i,.i,.i,.i,.i,.i,.i]) .neq (.tmp 73) (.tmp 78))]] .nil) [2,3,5,79]) (cn 79 (Kp 44) (sq [qB 4 false] [4] .ret)))) (qr [wn 67 [wm 5,wI .add 1],
 qn [qa 5 68]] (Kp 44)))))) (.join [] (sq [qK 6 0] (Kp 76) (bl 2 [cv 6 .i] (.seq (sw 80 [wm 6,wo 12 2,wL,wZ,wB .lss 80] [2,3,6,84] (ce 84 (Kp 76) [] 2)) (.seq (.block 3 (.seq (.A8 (qd 0 [wn 87 [wo 12 2,wL,wm 6,wE (.st 7) 88,wK 7,wo 12 3,wL,wm 6,wE (.st 7) 93,wK 7,wc jW rfl [91,96],wX]] .nil) [2,3,6,98]) (cn 98 (Kp 76) (sq [qB 4 false] [4] .ret)))) (qr [wn 85 [wm 6,wI .add 1],
 qn [qa 6 86]] (Kp 76)))))) (sq [qB 4 true] [4] .ret))))⟩
noncomputable def fP(_:PUnit):Option Bool:=
 some true
noncomputable def PZ(p0:AF)(p1:AF)(L7:Int->Option Bool)(v8:Int):Option Bool:=
 br (decide (v8<(↑p0.AR.length:Int)))
  (bd (at? p0.AR v8) fun x9=>
  bd (at? p1.AR v8) fun x10=>
  bd (m0 x9 x10) fun x11=>
  br (!x11)
   (some false)
   (L7 (w64 (v8+1))))
  (jn (fP) ())
noncomputable def PY(p0:AF)(p1:AF)(_:PUnit):Option Bool:=
 AT (PZ p0 p1) big 0
noncomputable def fQ(p0:AF)(p1:AF)(L3:Int->Option Bool)(v4:Int):Option Bool:=
 br (decide (v4<(↑p0.AE.length:Int)))
  (bd (at? p0.AE v4) fun x5=>
  bd (at? p1.AE v4) fun x6=>
  br (!(x5.Id==x6.Id&&(x5.A4==x6.A4&&(x5.CB==x6.CB&&(x5.As==x6.As&&(x5.CX==x6.CX&&(x5.Since==x6.Since&&(x5.Ah==x6.Ah&&(x5.State==x6.State&&(x5.BW==x6.BW&&(x5.CA==x6.CA&&true)))))))))))
   (some false)
   (L3 (w64 (v4+1))))
  (jn (PY p0 p1) ())
noncomputable def Eg(p0:AF)(p1:AF)(v2:Bool):Option Bool:=
 br v2
  (some false)
  (AT (fQ p0 p1) big 0)
noncomputable def fO(p0:AF)(p1:AF):Option Bool:=
 bd (Qd p0) fun x1=>
 br (!x1)
  (jn (Eg p0 p1) true)
  (bd (Qd p1) fun x12=>
  br (!x12)
   (jn (Eg p0 p1) true)
   (bd (my p0.AS p1.AS) fun x13=>
   br (!x13)
    (jn (Eg p0 p1) true)
    (br (p0.Now != p1.Now)
     (jn (Eg p0 p1) true)
     (br (p0.Ah != p1.Ah)
      (jn (Eg p0 p1) true)
      (br ((↑p0.AE.length:Int) != (↑p1.AE.length:Int))
       (jn (Eg p0 p1) true)
       (bd (Ua p0.A7 p1.A7) fun x14=>
       br (!x14)
        (jn (Eg p0 p1) true)
        (bd (Ua p0.BC p1.BC) fun x15=>
        jn (Eg p0 p1) (!x15))))))))
noncomputable def U8:GF:=AA1.gf rfl rfl (fun a=>fO a.1 a.2.1) (fun a=>by kernel_rfl)
noncomputable def Xg:YF:=⟨[],[.v (.l .u)],[],.ret [.b],[.tmp 2],
 sq [qB 2 false] [0] (.seq (sw 11 [wm 0,wY Jl rfl] [0,12] (cn 12 [0] (sq [qB 2 true] [2] .ret))) (sr [wn 14 [wm 0,wY Qw rfl],
 qn [qm 13 15],
 wn 16 [wh (.ext · (.tmp 13) 0),wh (.ext · (.tmp 13) 1)],
 qn [.alloc 3 A9,.Av [(.cell 3 0,.i),(.cell 3 11,(.st 2)),(.cell 3 12,(.st 7)),(.cell 3 13,.i),(.cell 3 14,.i)],qw 15 3 16,qa 4 17]] [3,4] (sr [wn 18 [wk 15 3,wm 4,wc Jm rfl [18,19]],
 qn [qa 5 20]] (Kp 56) (sr [wn 22 [wm 5,wY LI rfl],
 qn [qm 21 23],
 wn 24 [wh (.ext · (.tmp 21) 0),wh (.ext · (.tmp 21) 1),wh (.ext · (.tmp 21) 2)],
 qn [.alloc 6 A9,.Av [(.cell 6 0,.i),(.cell 6 11,(.st 2)),(.cell 6 12,(.st 7)),(.cell 6 13,.i),(.cell 6 14,.i)],qw 15 6 24,qa 7 25,qa 8 26]] (Kp 504) (sr [wn 28 [wk 15 3,wY G8 rfl,wY IK rfl],
 qn [qm 27 30],
 wn 31 [wh (.ext · (.tmp 27) 0),wh (.ext · (.tmp 27) 1)],
 qn [.alloc 9 A9,.Av [(.cell 9 0,.i),(.cell 9 11,(.st 2)),(.cell 9 12,(.st 7)),(.cell 9 13,.i),(.cell 9 14,.i)],qw 15 9 31,qa 10 32]] (Kp 2040) (.seq (sw 33 [wk 15 3,wY Fq rfl,wX] (Kp 34359740408) (.cond 35 [5,8,10] (Kp 2040) (.join [cv 2 .b] (qr [wn 36 [wm 5,wh (.bin · .num .eql (.tmp 36) (.k (.str []))),wM],
 wt 38 39 [wm 8,wX],
 wn 41 [wQ 38,wM],
 wt 42 43 [wm 10,wX],
 qn [qq 45 42 44,qa 2 45]] [2]) .ret) .skip)) (.seq (.join [cv 51 .b] (qr [wn 46 [wm 4,wI .lss 0,wM],
 wf 48 49 [wm 4,wI .gtr 1000000],
 qn [qp 51 48 50]] (Kp 2251799813687288)) (.cond 51 [5,8,10] (Kp 2008) (.join [cv 2 .b] (qr [wn 52 [wm 5,wh (.bin · .num .eql (.tmp 52) (.k (.str []))),wM],
 wt 54 55 [wm 8,wX],
 wn 57 [wQ 54,wM],
 qt 58 [qm 59 10],
 qn [qq 60 58 59,qa 2 60]] [2]) .ret) .skip)) (.join [cv 2 .b] (qr [wn 61 [wm 8,wM],
 wt 62 63 [wm 7,wm 4,wB .eql 63],
 wn 66 [wQ 62,wM],
 wt 67 68 [wk 15 6,wk 15 3,wc U8 rfl [68,69]],
 wn 71 [wQ 67,wM],
 qt 72 [qm 73 10],
 wn 74 [wQ 72,wM],
 wt 75 76 [wk 15 9,wk 15 3,wc U8 rfl [76,77]],
 qn [qq 79 75 78,qa 2 79]] [2]) .ret))))))))⟩
noncomputable def BN(v8:Bool):Option Bool:=
 some v8
noncomputable def FK(x2:(AF×Int))(x3:(List UInt8))(x4:(AF×Int×Bool))(x6:(AF×Bool))(v9:Bool):Option Bool:=
 br v9
  (br (x3==[])
   (br (!x4.snd.snd)
    (jn (BN) x6.snd)
    (jn (BN) false))
   (jn (BN) false))
  (br x4.snd.snd
   (br (x4.snd.fst==x2.snd)
    (bd (fO x4.fst x2.fst) fun x10=>
    br x10
     (br x6.snd
      (bd (fO x6.fst x2.fst) fun x11=>
      jn (BN) x11)
      (jn (BN) false))
     (jn (BN) false))
    (jn (BN) false))
   (jn (BN) false))
noncomputable def Fe(p0:(List UInt8)):Option Bool:=
 bd (db p0) fun x1=>
 br x1
  (some true)
  (bd (fN p0) fun x2=>
  bd (X5 x2.fst x2.snd) fun x3=>
  bd (Ku x3) fun x4=>
  bd (NG x2.fst) fun x5=>
  bd (Rh x5) fun x6=>
  bd (Qd x2.fst) fun x7=>
  br (!x7)
   (br (x3==[])
    (br (!x4.snd.snd)
     (jn (BN) (!x6.snd))
     (jn (BN) false))
    (jn (BN) false))
   (br (decide (x2.snd<0))
    (jn (FK x2 x3 x4 x6) true)
    (jn (FK x2 x3 x4 x6) (decide (x2.snd>1000000)))))
noncomputable def Ei:GF:=Xg.gf rfl rfl (fun a=>Fe a.1) (fun a=>by kernel_rfl)
end Lv
