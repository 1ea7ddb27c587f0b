/-
  Printed: functions of the program as texts of the typed machine, as plain functions, and that the one is the other.
-/
import Derived.Test.YtffakkimlookoaaGreatKB
import Derived.KernelRfl
set_option linter.unusedVariables false
set_option linter.unusedSimpArgs false
set_option maxRecDepth 100000
namespace Lv
open Go (IntKind BinOp UnOp)
open Y (YF qn qf qt qr q1 qd qm qa qo ql qL qb qi qx qp qq qc qz qe qk qK qB qw qu qj Kp wn wf wt w1 sw sq sr wm wM wo wO wl wL wk wK wz wZ wx wX wb wB wi wI wr wR wq wQ we wE wc wY wj wh cv ca cx cn ce bl)
noncomputable def zx:YF:=⟨[],[.v (.l .u),.v .i],[],.ret [.i,.i,.b],[.tmp 4,.tmp 5,.tmp 6],
 sq [qK 4 0,qK 5 0,qB 6 false] [0,1] (sq [qK 7 0] (Kp 131) (.join [] (sq [qK 8 0] (Kp 387) (bl 0 [cv 7 .i,cv 8 .i] (.seq (sw 10 [wm 8,wI .lss 5] (Kp 2435) (ce 11 (Kp 387) [] 0)) (.seq (.block 1 (.seq (.join [cv 23 .b] (qr [wn 14 [wm 1,wI .lss 0,wM],
 wf 16 17 [wm 1,wm 0,wZ,wm 8,wB .sub 19,wB .geq 17],
 qn [qp 23 16 22]] (Kp 8388995)) (cn 23 (Kp 387) (sq [qK 4 0,qK 5 0,qB 6 false] (Kp 112) .ret))) (sr [wn 24 [wm 0,wm 1,wm 8,wB .add 25,wE .u 24,wL,wh (.cvI · .i64 (.tmp 29))],
 qn [qa 9 30]] (Kp 899) (sr [wn 31 [wm 7,wm 9,wI .rem 128,wm 8,wh (.bin · .num .mul (.k (.int .i64 7)) (.tmp 34)),wB .shl 33,wB .or 31],
 qn [qa 7 37]] (Kp 899) (sw 38 [wm 9,wI .lss 128] (Kp 549755814787) (.cond 39 [1,7,8,9] (Kp 387) (.seq (.join [cv 49 .b] (qr [wn 40 [wm 8,wI .gtr 0,wM],
 wt 42 43 [wm 9,wI .eql 0],
 wn 45 [wQ 42,wM],
 wf 46 47 [wm 7,wI .gtr 2147483647],
 qn [qp 49 46 48]] [1,7,8,49]) (cn 49 (Kp 386) (sq [qK 4 0,qK 5 0,qB 6 false] (Kp 112) .ret))) (sr [wn 50 [wm 7,wm 1,wm 8,wB .add 51,wI .add 1],
 qn [qa 4 50,qa 5 54,qB 6 true]] (Kp 112) .ret)) .skip)))))) (qr [wn 12 [wm 8,wI .add 1],
 qn [qa 8 13]] (Kp 387)))))) (sq [qK 4 0,qK 5 0,qB 6 false] (Kp 112) .ret)))⟩
noncomputable def PV(p1:Int)(v2:Int)(v3:Int)(x5:UInt8)(v6:Bool):Option (Int×Int×Bool):=
 br v6
  (some (0,0,false))
  (some ((orI v2 (XB ((w64 (↑(UInt8.toNat x5):Int)).tmod 128) (w64 (7*v3))),w64 (w64 (p1+v3)+1),true)))
noncomputable def PU(p0:(List UInt8))(p1:Int)(L1:(Int×Int)->Option (Int×Int×Bool))(v2:Int)(v3:Int)(v4:Bool):Option (Int×Int×Bool):=
 br v4
  (some (0,0,false))
  (bd (at? p0 (w64 (p1+v3))) fun x5=>
  gd (¬w64 (7*v3)<0) (
  br (decide (w64 (↑(UInt8.toNat x5):Int)<128))
   (br (decide (v3>0))
    (br (w64 (↑(UInt8.toNat x5):Int)==0)
     (jn (PV p1 v2 v3 x5) true)
     (jn (PV p1 v2 v3 x5) (decide (orI v2 (XB ((w64 (↑(UInt8.toNat x5):Int)).tmod 128) (w64 (7*v3)))>2147483647))))
    (jn (PV p1 v2 v3 x5) (decide (orI v2 (XB ((w64 (↑(UInt8.toNat x5):Int)).tmod 128) (w64 (7*v3)))>2147483647))))
   (L1 ((orI v2 (XB ((w64 (↑(UInt8.toNat x5):Int)).tmod 128) (w64 (7*v3))),w64 (v3+1))))))
noncomputable def dw(_:PUnit):Option (Int×Int×Bool):=
 some (0,0,false)
noncomputable def Ii(p0:(List UInt8))(p1:Int)(L1:(Int×Int)->Option (Int×Int×Bool))(x_:(Int×Int)):Option (Int×Int×Bool):=
 match x_ with
 |(v2,v3)=>br (decide (v3<5))
  (br (decide (p1<0))
   (jn (PU p0 p1 L1 v2 v3) true)
   (jn (PU p0 p1 L1 v2 v3) (decide (p1>=w64 ((↑p0.length:Int)-v3)))))
  (jn (dw) ())
noncomputable def dv(p0:(List UInt8))(p1:Int):Option (Int×Int×Bool):=
 AR (Ii p0 p1) big (0,0)
noncomputable def NR:GF:=zx.gf rfl rfl (fun a=>dv a.1 a.2.1) (fun a=>by kernel_rfl)
noncomputable def zy:YF:=⟨[],[.v .s],[],.ret [(.l .i),.b],[.tmp 2,.tmp 3],
 sq [.as 2 (.k .nil),.Az [(.tmp 2 0,.i)],qB 3 false] [0] (sr [wn 10 [wm 0,wh (.Ib · (.tmp 10))],
 qn [qa 4 11]] [4] (sq [.Ah 12 0 .i [],qa 5 12] [4,5] (sq [qK 6 0] (Kp 112) (.join [cv 5 (.l .i)] (bl 0 [cv 5 (.l .i),cv 6 .i] (.seq (sw 13 [wm 6,wm 4,wZ,wB .lss 13] (Kp 65648) (ce 16 (Kp 112) [5] 0)) (.block 1 (sr [wn 18 [wm 4,wm 6,wc NR rfl [18,19]],
 qn [qm 17 20],
 wn 21 [wh (.ext · (.tmp 17) 0),wh (.ext · (.tmp 17) 1),wh (.ext · (.tmp 17) 2)],
 qn [qa 7 21,qa 8 22,qa 9 23]] (Kp 944) (.seq (sw 24 [wm 9,wX] (Kp 33554864) (cn 25 (Kp 432) (sq [.Ah 26 0 .i [],qa 2 26,qB 3 false] [2,3] .ret))) (sr [wn 27 [wm 5,wm 7,wh (.Ah · 1 .i [(0,(.tmp 28))]),wh (.app · .i true (.tmp 27) (.tmp 29))],
 qn [qa 5 30]] (Kp 304) (q1 [qm 31 8,qa 6 31] (Kp 112)))))))) (sq [qm 32 5,qa 2 32,qB 3 true] [2,3] .ret)))))⟩
noncomputable def dx(v5:(List Int)):Option ((List Int)×Bool):=
 some (v5,true)
noncomputable def UE(p0:(List UInt8))(L1:((List Int)×Int)->Option ((List Int)×Bool))(x_:((List Int)×Int)):Option ((List Int)×Bool):=
 match x_ with
 |(v2,v3)=>br (decide (v3<(↑p0.length:Int)))
  (bd (dv p0 v3) fun x4=>
  br (!x4.snd.snd)
   (some ([],false))
   (gd (List.length v2+[x4.fst].length<=lim) (
   L1 (v2++[x4.fst],x4.snd.fst))))
  (jn (dx) v2)
noncomputable def mH(p0:(List UInt8)):Option ((List Int)×Bool):=
 AR (UE p0) big ([],0)
noncomputable def NS:GF:=zy.gf rfl rfl (fun a=>mH a.1) (fun a=>by kernel_rfl)
noncomputable def z5:YF:=⟨[],[.v (.l .u),.v .i],[],.ret [.i,.i,.b],[.tmp 4,.tmp 5,.tmp 6],
 sq [qK 4 0,qK 5 0,qB 6 false] [0,1] (.seq (sw 10 [wm 1,wm 0,wZ,wI .sub 1,wc AO rfl [10,qj 0,13],wX] [0,1,15] (cn 15 [0,1] (sq [qK 4 0,qK 5 0,qB 6 false] (Kp 112) .ret))) (sq [qK 7 0] (Kp 131) (.join [] (sq [qK 8 0] (Kp 387) (bl 0 [cv 7 .i,cv 8 .i] (.seq (.join [cv 25 .b] (qr [wn 16 [wm 8,wI .lss 5,wM],
 wt 18 19 [wm 1,wm 8,wB .add 19,wm 0,wZ,wB .lss 21],
 qn [qq 25 18 24]] (Kp 33554819)) (ce 25 (Kp 387) [] 0)) (.seq (.block 1 (sr [wn 28 [wm 0,wm 1,wm 8,wB .add 29,wE .u 28,wL,wh (.cvI · .i64 (.tmp 33))],
 qn [qa 9 34]] (Kp 899) (sr [wn 35 [wm 7,wm 9,wI .rem 128,wm 8,wh (.bin · .num .mul (.k (.int .i64 7)) (.tmp 38)),wB .shl 37,wB .add 35],
 qn [qa 7 41]] (Kp 899) (sw 42 [wm 9,wI .lss 128] [0,1,7,8,43] (.cond 43 [1,7,8] (Kp 387) (.seq (sw 44 [wm 7,wY DT rfl,wZ,wm 8,wI .add 1,wB .neq 46] [1,7,8,49] (cn 49 (Kp 386) (sq [qK 4 0,qK 5 0,qB 6 false] (Kp 112) .ret))) (sr [wn 50 [wm 7,wm 1,wm 8,wB .add 51,wI .add 1],
 qn [qa 4 50,qa 5 54,qB 6 true]] (Kp 112) .ret)) .skip))))) (qr [wn 26 [wm 8,wI .add 1],
 qn [qa 8 27]] (Kp 387)))))) (sq [qK 4 0,qK 5 0,qB 6 false] (Kp 112) .ret))))⟩
noncomputable def UF(_:PUnit):Option (Int×Int×Bool):=
 some (0,0,false)
noncomputable def PW(p0:(List UInt8))(p1:Int)(L2:(Int×Int)->Option (Int×Int×Bool))(v3:Int)(v4:Int)(v5:Bool):Option (Int×Int×Bool):=
 br v5
  (bd (at? p0 (w64 (p1+v4))) fun x6=>
  gd (¬w64 (7*v4)<0) (
  br (decide (w64 (↑(UInt8.toNat x6):Int)<128))
   (bd (UM (w64 (v3+XB ((w64 (↑(UInt8.toNat x6):Int)).tmod 128) (w64 (7*v4))))) fun x7=>
   br ((↑(List.length x7):Int) != w64 (v4+1))
    (some (0,0,false))
    (some ((w64 (v3+XB ((w64 (↑(UInt8.toNat x6):Int)).tmod 128) (w64 (7*v4))),w64 (w64 (p1+v4)+1),true))))
   (L2 ((w64 (v3+XB ((w64 (↑(UInt8.toNat x6):Int)).tmod 128) (w64 (7*v4))),w64 (v4+1))))))
  (jn (UF) ())
noncomputable def K1(p0:(List UInt8))(p1:Int)(L2:(Int×Int)->Option (Int×Int×Bool))(x_:(Int×Int)):Option (Int×Int×Bool):=
 match x_ with
 |(v3,v4)=>br (decide (v4<5))
  (jn (PW p0 p1 L2 v3 v4) (decide (w64 (p1+v4)<(↑p0.length:Int))))
  (jn (PW p0 p1 L2 v3 v4) false)
noncomputable def dy(p0:(List UInt8))(p1:Int):Option (Int×Int×Bool):=
 bd (BT p1 0 (w64 ((↑p0.length:Int)-1))) fun x1=>
 br (!x1)
  (some (0,0,false))
  (AR (K1 p0 p1) big (0,0))
noncomputable def NT:GF:=z5.gf rfl rfl (fun a=>dy a.1 a.2.1) (fun a=>by kernel_rfl)
noncomputable def z6:YF:=⟨[],[.v .s],[],.ret [(.l .i),.b],[.tmp 2,.tmp 3],
 sq [.as 2 (.k .nil),.Az [(.tmp 2 0,.i)],qB 3 false] [0] (sr [wn 10 [wm 0,wh (.Ib · (.tmp 10))],
 qn [qa 4 11]] [4] (sq [.as 5 (.k .nil),.Az [(.tmp 5 0,.i)]] [4,5] (.join [cv 5 (.l .i)] (sq [qK 6 0] (Kp 112) (bl 0 [cv 5 (.l .i),cv 6 .i] (.seq (sw 12 [wm 6,wm 4,wZ,wB .lss 12] (Kp 32880) (ce 15 (Kp 112) [5] 0)) (.block 1 (sr [wn 17 [wm 4,wm 6,wc NT rfl [17,18]],
 qn [qm 16 19],
 wn 20 [wh (.ext · (.tmp 16) 0),wh (.ext · (.tmp 16) 1),wh (.ext · (.tmp 16) 2)],
 qn [qa 7 20,qa 8 21,qa 9 22]] (Kp 944) (.seq (sw 23 [wm 9,wX] (Kp 16777648) (cn 24 (Kp 432) (sq [.as 2 (.k .nil),.Az [(.tmp 2 0,.i)],qB 3 false] [2,3] .ret))) (sr [wn 25 [wm 5,wm 7,wh (.Ah · 1 .i [(0,(.tmp 26))]),wh (.app · .i true (.tmp 25) (.tmp 27))],
 qn [qa 5 28]] (Kp 304) (q1 [qm 29 8,qa 6 29] (Kp 112))))))))) (sq [qm 30 5,qa 2 30,qB 3 true] [2,3] .ret))))⟩
noncomputable def eA(v5:(List Int)):Option ((List Int)×Bool):=
 some (v5,true)
noncomputable def UG(p0:(List UInt8))(L1:((List Int)×Int)->Option ((List Int)×Bool))(x_:((List Int)×Int)):Option ((List Int)×Bool):=
 match x_ with
 |(v2,v3)=>br (decide (v3<(↑p0.length:Int)))
  (bd (dy p0 v3) fun x4=>
  br (!x4.snd.snd)
   (some ([],false))
   (gd (List.length v2+[x4.fst].length<=lim) (
   L1 (v2++[x4.fst],x4.snd.fst))))
  (jn (eA) v2)
noncomputable def mI(p0:(List UInt8)):Option ((List Int)×Bool):=
 AR (UG p0) big ([],0)
noncomputable def NU:GF:=z6.gf rfl rfl (fun a=>mI a.1) (fun a=>by kernel_rfl)
noncomputable def Ox(p0:Int)(p1:Int):Option Int:=
 br (decide (p0<p1))
  (some p0)
  (some p1)
noncomputable def z7:YF:=⟨[],[.v (.st 6),.v (.st 5)],[],.ret [(.st 6),.b],[.cell 4 (some 1),.tmp 5],
 sq [qu 2 0,qu 3 1,.alloc 4 [.nil],.Az [(.cell 4 0,(.l (.st 5)))],qB 5 false] (Kp 28) (sr [wn 8 [wk 1 2,wY E5 rfl],
 qn [.alloc 6 [.nil],.Az [(.cell 6 0,(.l (.st 5)))],qw 1 6 9]] (Kp 92) (.seq (.join [cv 17 .b] (qr [wn 10 [wk 1 2,wY Dt rfl,wX,wM],
 wf 13 14 [wo 0 3,wL,wI .lss 1],
 qn [qp 17 13 16]] (Kp 131164)) (.cond 17 [4,6] (Kp 92) (sq [qL 18 1 6,qw 1 4 18,qB 5 false] [4,5] .ret) .skip)) (sr [wn 19 [wo 0 3,wL,wI .rem 9],
 qn [qa 7 21]] (Kp 220) (.seq (.BI (qd 0 [wn 22 [wo 0 6,wL,wm 7,wo 0 6,wL,wm 7,wE (.l (.st 5)) 26,wL,wk 2 3]] (.op 9 none [22] (.call 31 Ev [] rfl [(.tmp 29),(.tmp 30)])
 (qd 10 [qn [qe 32 (.l (.st 5)) 23 24,qw 1 32 31]] .nil))) [2,4,6]) (.seq (sw 33 [wk 1 6,wY Dt rfl,wX] [2,4,6,35] (.cond 35 [2,4] [4,6] (sr [wn 36 [wk 1 2,wY E5 rfl],
 qn [qw 1 4 37,qB 5 false]] [4,5] .ret) .skip)) (sq [qL 38 1 6,qw 1 4 38,qB 5 true] [4,5] .ret))))))⟩
noncomputable def UH(p0:AP)(p1:AK)(x1:AP)(v3:Bool):Option (AP×Bool):=
 br v3
  (some (x1,false))
  (bd (at? x1.AJ (p1.At.tmod 9)) fun x4=>
  bd (at? x1.AJ (p1.At.tmod 9)) fun x5=>
  bd (oL x5 p1) fun x6=>
  bd (at? x1.AJ (p1.At.tmod 9)) fun x7=>
  bd (at? x1.AJ (p1.At.tmod 9)) fun x8=>
  bd (jC (AP.mk (x1.AJ.set (p1.At.tmod 9).toNat x6))) fun x9=>
  br (!x9)
   (bd (dp p0) fun x10=>
   some (x10,false))
   (some ((AP.mk (x1.AJ.set (p1.At.tmod 9).toNat x6),true))))
noncomputable def eB(p0:AP)(p1:AK):Option (AP×Bool):=
 bd (dp p0) fun x1=>
 bd (jC p0) fun x2=>
 br (!x2)
  (jn (UH p0 p1 x1) true)
  (jn (UH p0 p1 x1) (decide (p1.At<1)))
noncomputable def E7:GF:=z7.gf rfl rfl (fun a=>eB a.1 a.2.1) (fun a=>by kernel_rfl)
end Lv
set_option maxRecDepth 100000
namespace Lv
open Go (IntKind BinOp UnOp)
open Y (YF qn qf qt qr q1 qd qm qa qo ql qL qb qi qx qp qq qc qz qe qk qK qB qw qu qj Kp wn wf wt w1 sw sq sr wm wM wo wO wl wL wk wK wz wZ wx wX wb wB wi wI wr wR wq wQ we wE wc wY wj wh cv ca cx cn ce bl)
end Lv
