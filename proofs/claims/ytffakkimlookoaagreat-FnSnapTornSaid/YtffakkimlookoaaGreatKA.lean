/-
  Printed: functions of the program as texts of the typed machine, as plain functions, and that the one is the other.
-/
import Derived.Test.YtffakkimlookoaaGreatTB
import Derived.KernelRfl
set_option linter.unusedVariables false
set_option linter.unusedSimpArgs false
set_option maxRecDepth 100000
namespace Lv
open Go (IntKind BinOp UnOp)
open Y (YF qn qf qt qr q1 qd qm qa qo ql qL qb qi qx qp qq qc qz qe qk qK qB qw qu qj Kp wn wf wt w1 sw sq sr wm wM wo wO wl wL wk wK wz wZ wx wX wb wB wi wI wr wR wq wQ we wE wc wY wj wh cv ca cx cn ce bl)
noncomputable def ABJ:YF:=⟨[],[.v .i,.v .i,.v .i],[],.ret [.b],[.tmp 6],
 sq [qB 6 false] (Kp 7) (.join [cv 6 .b] (qr [wn 7 [wm 0,wm 1,wB .geq 7,wM],
 wt 10 11 [wm 0,wm 2,wB .leq 11],
 qn [qq 14 10 13,qa 6 14]] [6]) .ret)⟩
noncomputable def SR(v1:Bool):Option Bool:=
 some v1
noncomputable def CY(p0:Int)(p1:Int)(p2:Int):Option Bool:=
 br (decide (p0>=p1))
  (jn (SR) (decide (p0<=p2)))
  (jn (SR) false)
noncomputable def Az:GF:=ABJ.gf rfl rfl (fun a=>CY a.1 a.2.1 a.2.2.1) (fun a=>by kernel_rfl)
noncomputable def ABK:YF:=⟨[],[.v (.st 1)],[],.ret [.b],[.tmp 2],
 sq [qu 1 0,qB 2 false] [1] (.seq (.join [cv 32 .b] (qr [wn 4 [wo 0 1,wL,wZ,wc Az rfl [6,qj 1,qj 4],wX,wM],
 wf 9 10 [wo 1 1,wL,wc Az rfl [11,qj 1,qj 5],wX],
 wn 14 [wR 9,wM],
 wf 15 16 [wo 2 1,wL,wc Az rfl [17,qj 1,qj 10],wX],
 wn 20 [wR 15,wM],
 wf 21 22 [wo 3 1,wL,wc Az rfl [23,qj 1,qj 6],wX],
 wn 26 [wR 21,wM],
 wf 27 28 [wo 4 1,wL,wc Az rfl [29,qj 1,qj 12],wX],
 qn [qp 32 27 31]] [1,32]) (cn 32 [1] (sq [qB 2 false] [2] .ret))) (.join [] (sq [qK 3 0] [1,3] (bl 0 [cv 3 .i] (.seq (sw 33 [wm 3,wo 0 1,wL,wZ,wB .lss 33] [1,3,37] (ce 37 [1,3] [1] 0)) (.seq (.block 1 (sw 40 [wo 0 1,wL,wm 3,wE .i 41,wL,wc Az rfl [44,qj 1,qj 60],wX] [1,3,46] (cn 46 [1,3] (sq [qB 2 false] [2] .ret)))) (qr [wn 38 [wm 3,wI .add 1],
 qn [qa 3 39]] [1,3]))))) (.join [cv 2 .b] (qr [wn 47 [wo 5 1,wL,wc Az rfl [48,qj 1,qj 8],wM],
 wt 50 51 [wo 6 1,wL,wc Az rfl [52,qj 0,qj 8]],
 wn 54 [wQ 50,wM],
 wt 55 56 [wo 7 1,wL,wc Az rfl [57,qj 1,qj 4]],
 wn 59 [wQ 55,wM],
 wt 60 61 [wo 8 1,wL,wc Az rfl [62,qj 1,qj 3]],
 qn [qq 64 60 63,qa 2 64]] [2]) .ret)))⟩
noncomputable def Ox(v11:Bool):Option Bool:=
 some v11
noncomputable def lq(p0:AO)(_:PUnit):Option Bool:=
 bd (CY p0.Ax 1 8) fun x7=>
 br x7
  (bd (CY p0.Rest 0 8) fun x8=>
  br x8
   (bd (CY p0.BA 1 4) fun x9=>
   br x9
    (bd (CY p0.Bd 1 3) fun x10=>
    jn (Ox) x10)
    (jn (Ox) false))
   (jn (Ox) false))
  (jn (Ox) false)
noncomputable def ZP(p0:AO)(L3:Int->Option Bool)(v4:Int):Option Bool:=
 br (decide (v4<(↑p0.AM.length:Int)))
  (bd (at? p0.AM v4) fun x5=>
  bd (CY x5 1 60) fun x6=>
  br (!x6)
   (some false)
   (L3 (w64 (v4+1))))
  (jn (lq p0) ())
noncomputable def Jd(p0:AO)(v2:Bool):Option Bool:=
 br v2
  (some false)
  (AT (ZP p0) big 0)
noncomputable def ZO(p0:AO):Option Bool:=
 bd (CY (↑p0.AM.length:Int) 1 4) fun x1=>
 br (!x1)
  (jn (Jd p0) true)
  (bd (CY p0.BG 1 5) fun x12=>
  br (!x12)
   (jn (Jd p0) true)
   (bd (CY p0.Room 1 10) fun x13=>
   br (!x13)
    (jn (Jd p0) true)
    (bd (CY p0.As 1 6) fun x14=>
    br (!x14)
     (jn (Jd p0) true)
     (bd (CY p0.A2 1 12) fun x15=>
     jn (Jd p0) (!x15)))))
noncomputable def Dv:GF:=ABK.gf rfl rfl (fun a=>ZO a.1) (fun a=>by kernel_rfl)
noncomputable def ABL:YF:=⟨[],[.v (.st 1),.v (.st 2),.v .i],[],.ret [.b],[.tmp 6],
 sq [qu 3 0,qu 4 1,qB 6 false] (Kp 28) (.seq (.join [cv 47 .b] (qr [wn 7 [wk 9 3,wY Dv rfl,wX,wM],
 wf 10 11 [wm 2,wc Az rfl [11,qj 0,qj 1000000],wX],
 wn 14 [wR 10,wM],
 wf 15 16 [wo 0 4,wL,wc Az rfl [17,qj 1,qj 999],wX],
 wn 20 [wR 15,wM],
 wf 21 22 [wo 1 4,wL,wo 0 3,wL,wZ,wI .sub 1,wc Az rfl [23,qj 0,27],wX],
 wn 30 [wR 21,wM],
 wf 31 32 [wo 2 4,wL,wo 0 3,wL,wZ,wI .sub 1,wc Az rfl [33,qj (-1),37],wX],
 wn 40 [wR 31,wM],
 wf 41 42 [wo 2 4,wL,wo 1 4,wL,wB .eql 43],
 qn [qp 47 41 46]] [2,3,4,47]) (cn 47 (Kp 28) (sq [qB 6 false] [6] .ret))) (.seq (.join [cv 84 .b] (qr [wn 48 [wo 3 4,wL,wo 3 3,wL,wc Az rfl [49,qj 1,51],wX,wM],
 wf 54 55 [wo 4 4,wL,wo 1 3,wL,wI .sub 1,wc Az rfl [56,qj 0,59],wX],
 wn 62 [wR 54,wM],
 wf 63 64 [wo 5 4,wL,wm 2,wc Az rfl [65,qj 0,66],wX],
 wn 69 [wR 63,wM],
 wf 70 71 [wo 6 4,wL,wc Az rfl [72,qj 1,qj 1000000],wX],
 wn 75 [wR 70,wM],
 wf 76 77 [wo 9 4,wL,wo 7 3,wL,wI .sub 1,wc Az rfl [78,qj 0,81],wX],
 qn [qp 84 76 83]] [2,3,4,84]) (cn 84 (Kp 28) (sq [qB 6 false] [6] .ret))) (.join [cv 6 .b] (qr [wn 85 [wo 7 4,wL,wI .eql 1,wM],
 wt 88 89 [wo 8 4,wL,wm 2,wo 6 3,wL,wB .add 91,wc Az rfl [90,qj 0,94]],
 wn 96 [wQ 88,wM],
 wf 97 98 [wo 7 4,wL,wI .eql 2,wM],
 wt 101 102 [wo 8 4,wL,wm 2,wo 5 3,wL,wB .add 104,wc Az rfl [103,qj 1,107]],
 qf 97 [qq 109 101 108],
 qn [qp 110 97 109,qa 6 110]] [6]) .ret)))⟩
noncomputable def Mf(v6:Bool):Option Bool:=
 some v6
noncomputable def Je(p0:AO)(p1:AI)(p2:Int)(v4:Bool):Option Bool:=
 br v4
  (some false)
  (br (p1.State==1)
   (bd (CY p1.BW 0 (w64 (p2+p0.Rest))) fun x5=>
   br x5
    (jn (Mf) true)
    (br (p1.State==2)
     (bd (CY p1.BW 1 (w64 (p2+p0.Ax))) fun x7=>
     jn (Mf) x7)
     (jn (Mf) false)))
   (br (p1.State==2)
    (bd (CY p1.BW 1 (w64 (p2+p0.Ax))) fun x8=>
    jn (Mf) x8)
    (jn (Mf) false)))
noncomputable def Ht(p0:AO)(p1:AI)(p2:Int)(v2:Bool):Option Bool:=
 br v2
  (some false)
  (bd (CY p1.As 1 p0.As) fun x3=>
  br (!x3)
   (jn (Je p0 p1 p2) true)
   (bd (CY p1.CX 0 (w64 (p0.BG-1))) fun x9=>
   br (!x9)
    (jn (Je p0 p1 p2) true)
    (bd (CY p1.Since 0 p2) fun x10=>
    br (!x10)
     (jn (Je p0 p1 p2) true)
     (bd (CY p1.Ah 1 1000000) fun x11=>
     br (!x11)
      (jn (Je p0 p1 p2) true)
      (bd (CY p1.CA 0 (w64 (p0.BA-1))) fun x12=>
      jn (Je p0 p1 p2) (!x12))))))
noncomputable def oU(p0:AO)(p1:AI)(p2:Int):Option Bool:=
 bd (ZO p0) fun x1=>
 br (!x1)
  (jn (Ht p0 p1 p2) true)
  (bd (CY p2 0 1000000) fun x13=>
  br (!x13)
   (jn (Ht p0 p1 p2) true)
   (bd (CY p1.Id 1 999) fun x14=>
   br (!x14)
    (jn (Ht p0 p1 p2) true)
    (bd (CY p1.A4 0 (w64 ((↑p0.AM.length:Int)-1))) fun x15=>
    br (!x15)
     (jn (Ht p0 p1 p2) true)
     (bd (CY p1.CB (-1) (w64 ((↑p0.AM.length:Int)-1))) fun x16=>
     br (!x16)
      (jn (Ht p0 p1 p2) true)
      (jn (Ht p0 p1 p2) (p1.CB==p1.A4))))))
noncomputable def Ix:GF:=ABL.gf rfl rfl (fun a=>oU a.1 a.2.1 a.2.2.1) (fun a=>by kernel_rfl)
noncomputable def ABM:YF:=⟨[],[.v (.st 8)],[],.ret [.b],[.tmp 2],
 sq [qu 1 0,qB 2 false] [1] (.join [] (sq [qK 3 0] [1,3] (bl 0 [cv 3 .i] (.seq (sw 7 [wm 3,wo 11 1,wL,wZ,wB .lss 7] (Kp 2058) (ce 11 [1,3] [] 0)) (.join [] (.block 1 (sr [wn 14 [wo 11 1,wL,wm 3,wE (.st 2) 15,wK 10],
 qn [.alloc 4 BM,qw 10 4 18]] (Kp 26) (.seq (.join [cv 48 .b] (.A8 (qd 0 [wn 19 [wo 0 1,wK 9,wk 10 4,wo 9 1,wL,wc Ix rfl [20,21,23],wX,wM],
 wf 26 27 [wo 6 4,wL,wo 10 1,wL,wB .geq 28],
 wn 32 [wR 26,wM],
 wf 33 34 [wm 3,wI .gtr 0,wM],
 wt 36 37 [wo 11 1,wL,wm 3,wI .sub 1,wE (.st 2) 38,wO 0,wL,wo 0 4,wL,wB .geq 43],
 qf 33 [qq 47 36 46],
 qn [qp 48 33 47]] .nil) [1,3,4,48]) (cn 48 (Kp 26) (sq [qB 2 false] [2] .ret))) (sq [qK 5 0] (Kp 58) (bl 2 [cv 5 .i] (.seq (sw 49 [wm 5,wm 3,wB .lss 49] [1,3,4,5,51] (ce 51 (Kp 58) [1,3] 2)) (.seq (.block 3 (sr [wn 54 [wo 11 1,wL,wm 5,wE (.st 2) 55,wK 10],
 qn [.alloc 6 BM,qw 10 6 58]] (Kp 122) (.join [cv 91 .b] (qr [wn 59 [wo 6 6,wL,wo 6 4,wL,wB .eql 60,wM],
 wf 64 65 [wo 6 6,wL,wo 6 4,wL,wB .lss 66,wM],
 wt 70 71 [wo 5 6,wL,wo 5 4,wL,wB .gtr 72],
 qf 64 [qq 76 70 75],
 wn 77 [wR 64,wM],
 wf 78 79 [wo 6 6,wL,wo 6 4,wL,wB .gtr 80,wM],
 wt 84 85 [wo 5 6,wL,wo 5 4,wL,wB .lss 86],
 qf 78 [qq 90 84 89],
 qn [qp 91 78 90]] [1,3,4,5,91]) (cn 91 (Kp 58) (sq [qB 2 false] [2] .ret))))) (qr [wn 52 [wm 5,wI .add 1],
 qn [qa 5 53]] (Kp 58))))))))) (qr [wn 12 [wm 3,wI .add 1],
 qn [qa 3 13]] [1,3]))))) (sq [qB 2 true] [2] .ret))⟩
noncomputable def Hu(L6:Int->Option Bool)(v7:Int)(v9:Bool):Option Bool:=
 br v9
  (some false)
  (L6 (w64 (v7+1)))
noncomputable def mW(L1:Int->Option Bool)(v2:Int)(_:PUnit):Option Bool:=
 L1 (w64 (v2+1))
noncomputable def ZR(p0:AF)(L1:Int->Option Bool)(v2:Int)(x3:AI)(L6:Int->Option Bool)(v7:Int):Option Bool:=
 br (decide (v7<v2))
  (bd (at? p0.AE v7) fun x8=>
  br (x8.Ah==x3.Ah)
   (jn (Hu L6 v7) true)
   (br (decide (x8.Ah<x3.Ah))
    (br (decide (x8.Since>x3.Since))
     (jn (Hu L6 v7) true)
     (br (decide (x8.Ah>x3.Ah))
      (jn (Hu L6 v7) (decide (x8.Since<x3.Since)))
      (jn (Hu L6 v7) false)))
    (br (decide (x8.Ah>x3.Ah))
     (jn (Hu L6 v7) (decide (x8.Since<x3.Since)))
     (jn (Hu L6 v7) false))))
  (jn (mW L1 v2) ())
noncomputable def Mi(p0:AF)(L1:Int->Option Bool)(v2:Int)(x3:AI)(v5:Bool):Option Bool:=
 br v5
  (some false)
  (AT (ZR p0 L1 v2 x3) big 0)
noncomputable def mX(_:PUnit):Option Bool:=
 some true
noncomputable def ZQ(p0:AF)(L1:Int->Option Bool)(v2:Int):Option Bool:=
 br (decide (v2<(↑p0.AE.length:Int)))
  (bd (at? p0.AE v2) fun x3=>
  bd (oU p0.AS x3 p0.Now) fun x4=>
  br (!x4)
   (jn (Mi p0 L1 v2 x3) true)
   (br (decide (x3.Ah>=p0.Ah))
    (jn (Mi p0 L1 v2 x3) true)
    (br (decide (v2>0))
     (bd (at? p0.AE (w64 (v2-1))) fun x10=>
     jn (Mi p0 L1 v2 x3) (decide (x10.Id>=x3.Id)))
     (jn (Mi p0 L1 v2 x3) false))))
  (jn (mX) ())
noncomputable def uX(p0:AF):Option Bool:=
 AT (ZQ p0) big 0
noncomputable def Ux:GF:=ABM.gf rfl rfl (fun a=>uX a.1) (fun a=>by kernel_rfl)
noncomputable def ABN:YF:=⟨[],[.v (.l .i),.v .i],[],.ret [.b],[.tmp 4],
 sq [qB 4 false] [0,1] (.join [] (sq [qK 5 0] (Kp 35) (bl 0 [cv 5 .i] (.seq (sw 6 [wM,wm 0,wZ,wB .lss 6] (Kp 547) (ce 9 (Kp 35) [] 0)) (.seq (.block 1 (sw 12 [wm 0,wm 5,wE .i 12,wL,wm 1,wB .eql 15] (Kp 131107) (cn 17 (Kp 35) (sq [qB 4 true] [4] .ret)))) (qr [wn 10 [wm 5,wI .add 1],
 qn [qa 5 11]] (Kp 35)))))) (sq [qB 4 false] [4] .ret))⟩
noncomputable def mn(_:PUnit):Option Bool:=
 some false
noncomputable def mo(p0:(List Int))(p1:Int)(L1:Int->Option Bool)(v2:Int):Option Bool:=
 br (decide (v2<(↑p0.length:Int)))
  (bd (at? p0 v2) fun x3=>
  br (x3==p1)
   (some true)
   (L1 (w64 (v2+1))))
  (jn (mn) ())
noncomputable def rF(p0:(List Int))(p1:Int):Option Bool:=
 AT (mo p0 p1) big 0
noncomputable def LM:GF:=ABN.gf rfl rfl (fun a=>rF a.1 a.2.1) (fun a=>by kernel_rfl)
noncomputable def ABO:YF:=⟨[],[.v (.st 8)],[],.ret [.b],[.tmp 2],
 sq [qu 1 0,qB 2 false] [1] (.join [] (sq [qK 3 0] [1,3] (bl 0 [cv 3 .i] (.seq (sw 5 [wm 3,wo 13 1,wL,wZ,wB .lss 5] (Kp 522) (ce 9 [1,3] [1] 0)) (.seq (.block 1 (.join [cv 34 .b] (.A8 (qd 0 [wn 12 [wo 13 1,wL,wm 3,wE .i 13,wL,wo 12 1,wL,wZ,wI .sub 1,wc Az rfl [16,qj 0,20],wX,wM],
 wf 23 24 [wo 13 1,wL,wm 3,wh (.sub · .i (.tmp 25) none (some (.tmp 26))),wo 13 1,wL,wm 3,wE .i 29,wL,wc LM rfl [27,32]],
 qn [qp 34 23 33]] .nil) [1,3,34]) (cn 34 [1,3] (sq [qB 2 false] [2] .ret)))) (qr [wn 10 [wm 3,wI .add 1],
 qn [qa 3 11]] [1,3]))))) (.join [] (sq [qK 4 0] [1,4] (bl 2 [cv 4 .i] (.seq (sw 35 [wm 4,wo 14 1,wL,wZ,wB .lss 35] [1,4,39] (ce 39 [1,4] [1] 2)) (.seq (.block 3 (.seq (.A8 (qd 0 [wn 42 [wo 14 1,wL,wm 4,wE .i 43,wL,wo 12 1,wL,wZ,wI .sub 1,wc Az rfl [46,qj (-1),50],wX]] .nil) [1,4,52]) (cn 52 [1,4] (sq [qB 2 false] [2] .ret)))) (qr [wn 40 [wm 4,wI .add 1],
 qn [qa 4 41]] [1,4]))))) (sr [wn 53 [wo 14 1,wL,wZ,wo 0 1,wO 8,wL,wB .eql 55],
 qn [qa 2 59]] [2] .ret)))⟩
noncomputable def ZS(L1:Int->Option Bool)(v2:Int)(v5:Bool):Option Bool:=
 br v5
  (some false)
  (L1 (w64 (v2+1)))
noncomputable def m3(p0:AF)(_:PUnit):Option Bool:=
 some ((↑p0.BC.length:Int)==p0.AS.Bd)
noncomputable def ZU(p0:AF)(L8:Int->Option Bool)(v9:Int):Option Bool:=
 br (decide (v9<(↑p0.BC.length:Int)))
  (bd (at? p0.BC v9) fun x10=>
  bd (CY x10 (-1) (w64 ((↑p0.AR.length:Int)-1))) fun x11=>
  br (!x11)
   (some false)
   (L8 (w64 (v9+1))))
  (jn (m3 p0) ())
noncomputable def SS(p0:AF)(_:PUnit):Option Bool:=
 AT (ZU p0) big 0
noncomputable def ZT(p0:AF)(L1:Int->Option Bool)(v2:Int):Option Bool:=
 br (decide (v2<(↑p0.A7.length:Int)))
  (bd (at? p0.A7 v2) fun x3=>
  bd (CY x3 0 (w64 ((↑p0.AR.length:Int)-1))) fun x4=>
  br (!x4)
   (jn (ZS L1 v2) true)
   (gd (0<=v2/\v2<=(↑p0.A7.length:Int)) (
   bd (at? p0.A7 v2) fun x6=>
   bd (rF (List.take v2.toNat p0.A7) x6) fun x7=>
   jn (ZS L1 v2) x7)))
  (jn (SS p0) ())
noncomputable def uY(p0:AF):Option Bool:=
 AT (ZT p0) big 0
noncomputable def U9:GF:=ABO.gf rfl rfl (fun a=>uY a.1) (fun a=>by kernel_rfl)
noncomputable def ABP:YF:=⟨[],[.v (.st 3)],[],.ret [.b],[.tmp 2],
 sq [qu 1 0,qB 2 false] [1] (.join [cv 2 .b] (qr [wn 3 [wo 0 1,wL,wc Az rfl [4,qj 1,qj 60],wM],
 wt 6 7 [wo 1 1,wL,wo 0 1,wL,wc Az rfl [8,qj 0,10]],
 wn 12 [wQ 6,wM],
 wt 13 14 [wo 2 1,wL,wo 0 1,wL,wc Az rfl [15,qj 0,17]],
 wn 19 [wQ 13,wM],
 wt 20 21 [wo 3 1,wL,wo 0 1,wL,wc Az rfl [22,qj 0,24]],
 wn 26 [wQ 20,wM],
 wt 27 28 [wo 1 1,wL,wo 2 1,wL,wB .add 29,wo 3 1,wL,wB .add 32,wo 0 1,wL,wB .eql 35],
 wn 39 [wQ 27,wM],
 wt 40 41 [wo 4 1,wL,wo 3 1,wL,wc Az rfl [42,qj 0,44]],
 qn [qq 46 40 45,qa 2 46]] [2]) .ret)⟩
noncomputable def Jf(v6:Bool):Option Bool:=
 some v6
noncomputable def rI(p0:BH):Option Bool:=
 bd (CY p0.Total 1 60) fun x1=>
 br x1
  (bd (CY p0.Co 0 p0.Total) fun x2=>
  br x2
   (bd (CY p0.Eb 0 p0.Total) fun x3=>
   br x3
    (bd (CY p0.JR 0 p0.Total) fun x4=>
    br x4
     (br (w64 (w64 (p0.Co+p0.Eb)+p0.JR)==p0.Total)
      (bd (CY p0.M3 0 p0.JR) fun x5=>
      jn (Jf) x5)
      (jn (Jf) false))
     (jn (Jf) false))
    (jn (Jf) false))
   (jn (Jf) false))
  (jn (Jf) false)
noncomputable def LP:GF:=ABP.gf rfl rfl (fun a=>rI a.1) (fun a=>by kernel_rfl)
noncomputable def ABQ:YF:=⟨[],[.v (.st 4),.v (.st 4)],[],.ret [.b],[.tmp 4],
 sq [qu 2 0,qu 3 1,qB 4 false] [2,3] (.join [cv 4 .b] (qr [wn 5 [wo 0 2,wL,wo 0 3,wL,wB .lss 6,wM],
 wf 10 11 [wo 0 2,wL,wo 0 3,wL,wB .eql 12,wM],
 wt 16 17 [wo 1 2,wL,wo 1 3,wL,wB .lss 18],
 qf 10 [qq 22 16 21],
 qn [qp 23 10 22,qa 4 23]] [4]) .ret)⟩
noncomputable def SU(v1:Bool):Option Bool:=
 some v1
noncomputable def rJ(p0:AD)(p1:AD):Option Bool:=
 br (decide (p0.Level<p1.Level))
  (jn (SU) true)
  (br (p0.Level==p1.Level)
   (jn (SU) (decide (p0.Ah<p1.Ah)))
   (jn (SU) false))
noncomputable def LQ:GF:=ABQ.gf rfl rfl (fun a=>rJ a.1 a.2.1) (fun a=>by kernel_rfl)
noncomputable def ABR:YF:=⟨[],[.v (.l (.st 4)),.v .i],[],.ret [.i],[.tmp 4],
 sq [qK 4 0] [0,1] (.join [] (sq [qK 5 0] (Kp 35) (bl 0 [cv 5 .i] (.seq (sw 6 [wM,wm 0,wZ,wB .lss 6] (Kp 547) (ce 9 (Kp 35) [] 0)) (.seq (.block 1 (sw 12 [wm 0,wm 5,wE (.st 4) 12,wO 2,wL,wm 1,wB .eql 16] (Kp 262179) (.cond 18 [5] (Kp 35) (sq [qm 19 5,qa 4 19] [4] .ret) .skip))) (qr [wn 10 [wm 5,wI .add 1],
 qn [qa 5 11]] (Kp 35)))))) (sq [qK 4 (-1)] [4] .ret))⟩
noncomputable def m4(_:PUnit):Option Int:=
 some (-1)
noncomputable def ZV(p0:(List AD))(p1:Int)(L1:Int->Option Int)(v2:Int):Option Int:=
 br (decide (v2<(↑p0.length:Int)))
  (bd (at? p0 v2) fun x3=>
  br (x3.Id==p1)
   (some v2)
   (L1 (w64 (v2+1))))
  (jn (m4) ())
noncomputable def rK(p0:(List AD))(p1:Int):Option Int:=
 AT (ZV p0 p1) big 0
noncomputable def VA:GF:=ABR.gf rfl rfl (fun a=>rK a.1 a.2.1) (fun a=>by kernel_rfl)
noncomputable def ABS:YF:=⟨[],[.v (.l (.st 4))],[],.ret [.b],[.tmp 2],
 sq [qB 2 false] [0] (.seq (sw 5 [wm 0,wZ,wI .gtr 10] [0,7] (cn 7 [0] (sq [qB 2 false] [2] .ret))) (.join [] (sq [qK 3 0] [0,3] (bl 0 [cv 3 .i] (.seq (sw 8 [wm 3,wm 0,wZ,wB .lss 8] (Kp 2057) (ce 11 [0,3] [] 0)) (.seq (.block 1 (sr [wn 14 [wm 0,wm 3,wE (.st 4) 14,wK 4],
 qn [.alloc 4 C7,qw 4 4 17]] (Kp 25) (.seq (.join [cv 39 .b] (qr [wn 18 [wo 0 4,wL,wc Az rfl [19,qj 0,qj 4],wX,wM],
 wf 22 23 [wo 1 4,wL,wc Az rfl [24,qj 1,qj 1000000],wX],
 wn 27 [wR 22,wM],
 wf 28 29 [wo 2 4,wL,wc Az rfl [30,qj 1,qj 999],wX],
 wn 33 [wR 28,wM],
 wf 34 35 [wo 3 4,wL,wc Az rfl [36,qj 1,qj 6],wX],
 qn [qp 39 34 38]] [0,3,4,39]) (cn 39 (Kp 25) (sq [qB 2 false] [2] .ret))) (.join [cv 59 .b] (.A8 (qd 0 [wn 40 [wm 3,wI .gtr 0,wM],
 wt 42 43 [wm 0,wm 3,wI .sub 1,wE (.st 4) 43,wK 4,wk 4 4,wc LQ rfl [47,48],wX],
 wn 51 [wQ 42,wM],
 wf 52 53 [wm 0,wo 2 4,wL]] (.op 17 (some (52,false)) [] (.mv 57 (.tmp 3))
 (.op 16 (some (52,false)) [] (.call 56 VA [] rfl [(.tmp 53),(.tmp 55)])
 (qd 18 [qf 52 [qb 58 .neq 56 57],
 qn [qp 59 52 58]] .nil)))) [0,3,59]) (cn 59 [0,3] (sq [qB 2 false] [2] .ret)))))) (qr [wn 12 [wm 3,wI .add 1],
 qn [qa 3 13]] [0,3]))))) (sq [qB 2 true] [2] .ret)))⟩
noncomputable def Pb(L1:Int->Option Bool)(v2:Int)(v8:Bool):Option Bool:=
 br v8
  (some false)
  (L1 (w64 (v2+1)))
noncomputable def Mj(p0:(List AD))(L1:Int->Option Bool)(v2:Int)(x3:AD)(v5:Bool):Option Bool:=
 br v5
  (some false)
  (br (decide (v2>0))
   (bd (at? p0 (w64 (v2-1))) fun x6=>
   bd (rJ x6 x3) fun x7=>
   br (!x7)
    (jn (Pb L1 v2) true)
    (bd (rK p0 x3.Id) fun x9=>
    jn (Pb L1 v2) (x9 != v2)))
   (bd (rK p0 x3.Id) fun x10=>
   jn (Pb L1 v2) (x10 != v2)))
noncomputable def m5(_:PUnit):Option Bool:=
 some true
noncomputable def ZW(p0:(List AD))(L1:Int->Option Bool)(v2:Int):Option Bool:=
 br (decide (v2<(↑p0.length:Int)))
  (bd (at? p0 v2) fun x3=>
  bd (CY x3.Level 0 4) fun x4=>
  br (!x4)
   (jn (Mj p0 L1 v2 x3) true)
   (bd (CY x3.Ah 1 1000000) fun x11=>
   br (!x11)
    (jn (Mj p0 L1 v2 x3) true)
    (bd (CY x3.Id 1 999) fun x12=>
    br (!x12)
     (jn (Mj p0 L1 v2 x3) true)
     (bd (CY x3.As 1 6) fun x13=>
     jn (Mj p0 L1 v2 x3) (!x13)))))
  (jn (m5) ())
noncomputable def oV(p0:(List AD)):Option Bool:=
 br (decide ((↑p0.length:Int)>10))
  (some false)
  (AT (ZW p0) big 0)
noncomputable def Iy:GF:=ABS.gf rfl rfl (fun a=>oV a.1) (fun a=>by kernel_rfl)
noncomputable def ABT:YF:=⟨[],[.v (.st 6)],[],.ret [(.l (.st 5))],[.tmp 2],
 sq [qu 1 0,.as 2 (.k .nil),.Av [(.tmp 2 0,(.st 5))]] [1] (sq [.AW 5 0 (.st 5) [],qa 3 5] [1,3] (.join [cv 3 (.l (.st 5))] (sq [qK 4 0] (Kp 26) (bl 0 [cv 3 (.l (.st 5)),cv 4 .i] (.seq (sw 6 [wm 4,wo 0 1,wL,wZ,wB .lss 6] (Kp 1050) (ce 10 (Kp 26) [3] 0)) (.seq (.block 1 (qr [wn 13 [wm 3,wo 0 1,wL,wm 4,wE (.l (.st 5)) 15,wL,wh (.app · (.st 5) true (.tmp 13) (.tmp 18))],
 qn [qa 3 19]] (Kp 26))) (qr [wn 11 [wm 4,wI .add 1],
 qn [qa 4 12]] (Kp 26)))))) (sq [qm 20 3,qa 2 20] [2] .ret)))⟩
noncomputable def m6(v5:(List AN)):Option (List AN):=
 some v5
noncomputable def m7(p0:AK)(L1:((List AN)×Int)->Option (List AN))(x_:((List AN)×Int)):Option (List AN):=
 match x_ with
 |(v2,v3)=>br (decide (v3<(↑p0.AJ.length:Int)))
  (bd (at? p0.AJ v3) fun x4=>
  gd (List.length v2+List.length x4<=lim) (
  L1 ((v2++x4,w64 (v3+1)))))
  (jn (m6) v2)
noncomputable def rL(p0:AK):Option (List AN):=
 AT (m7 p0) big ([],0)
noncomputable def LR:GF:=ABT.gf rfl rfl (fun a=>rL a.1) (fun a=>by kernel_rfl)
noncomputable def ABU:YF:=⟨[],[.v (.st 5),.v (.st 5)],[],.ret [.b],[.tmp 4],
 sq [qu 2 0,qu 3 1,qB 4 false] [2,3] (.join [cv 4 .b] (qr [wn 5 [wo 0 2,wL,wo 0 3,wL,wB .lss 6,wM],
 wf 10 11 [wo 0 2,wL,wo 0 3,wL,wB .eql 12,wM],
 wt 16 17 [wo 1 2,wL,wo 1 3,wL,wB .lss 18],
 qf 10 [qq 22 16 21],
 qn [qp 23 10 22,qa 4 23]] [4]) .ret)⟩
noncomputable def SV(v1:Bool):Option Bool:=
 some v1
noncomputable def rM(p0:AN)(p1:AN):Option Bool:=
 br (decide (p0.At<p1.At))
  (jn (SV) true)
  (br (p0.At==p1.At)
   (jn (SV) (decide (p0.Id<p1.Id)))
   (jn (SV) false))
noncomputable def LS:GF:=ABU.gf rfl rfl (fun a=>rM a.1 a.2.1) (fun a=>by kernel_rfl)
noncomputable def ABV:YF:=⟨[],[.v (.st 6)],[],.ret [.b],[.tmp 2],
 sq [qu 1 0,qB 2 false] [1] (sr [wn 8 [wk 1 1,wY LR rfl],
 qn [qa 3 9]] [1,3] (.seq (.join [cv 18 .b] (qr [wn 10 [wo 0 1,wL,wZ,wI .neq 9,wM],
 wf 14 15 [wm 3,wZ,wI .gtr 10],
 qn [qp 18 14 17]] [1,3,18]) (cn 18 [1,3] (sq [qB 2 false] [2] .ret))) (.join [] (sq [qK 4 0] (Kp 26) (bl 0 [cv 4 .i] (.seq (sw 19 [wm 4,wm 3,wZ,wB .lss 19] (Kp 4194330) (ce 22 (Kp 26) [1] 0)) (.join [] (.block 1 (.seq (.join [cv 40 .b] (qr [wn 25 [wm 3,wm 4,wE (.st 5) 25,wO 0,wL,wc Az rfl [29,qj 1,qj 1000008],wX,wM],
 wf 32 33 [wm 3,wm 4,wE (.st 5) 33,wO 1,wL,wc Az rfl [37,qj 1,qj 999],wX],
 qn [qp 40 32 39]] [1,3,4,40]) (cn 40 (Kp 26) (sq [qB 2 false] [2] .ret))) (sq [qK 5 0] (Kp 58) (bl 2 [cv 5 .i] (.seq (sw 41 [wm 5,wm 4,wB .lss 41] [1,3,4,5,43] (ce 43 [1,3,4,5] (Kp 26) 2)) (.seq (.block 3 (.seq (.A8 (qd 0 [wn 46 [wm 3,wm 5,wE (.st 5) 46,wO 1,wL,wm 3,wm 4,wE (.st 5) 51,wO 1,wL,wB .eql 50]] .nil) [1,3,4,5,56]) (cn 56 (Kp 58) (sq [qB 2 false] [2] .ret)))) (qr [wn 44 [wm 5,wI .add 1],
 qn [qa 5 45]] (Kp 58)))))))) (qr [wn 23 [wm 4,wI .add 1],
 qn [qa 4 24]] (Kp 26)))))) (.join [] (sq [qK 6 0] [1,6] (bl 4 [cv 6 .i] (.seq (sw 57 [wm 6,wo 0 1,wL,wZ,wB .lss 57] [1,6,61] (ce 61 [1,6] [] 4)) (.join [] (.block 5 (sq [qK 7 0] (Kp 194) (bl 6 [cv 7 .i] (.seq (sw 64 [wm 7,wo 0 1,wL,wm 6,wE (.l (.st 5)) 66,wL,wZ,wB .lss 64] [1,6,7,71] (ce 71 (Kp 194) [1,6] 6)) (.seq (.block 7 (.join [cv 110 .b] (.A8 (qd 0 [wn 74 [wo 0 1,wL,wm 6,wE (.l (.st 5)) 75,wL,wm 7,wE (.st 5) 78,wO 0,wL,wI .rem 9,wm 6,wB .neq 83,wM],
 wf 86 87 [wm 7,wI .gtr 0,wM],
 wt 89 90 [wo 0 1,wL,wm 6,wE (.l (.st 5)) 91,wL,wm 7,wI .sub 1,wE (.st 5) 94,wK 2,wo 0 1,wL,wm 6,wE (.l (.st 5)) 100,wL,wm 7,wE (.st 5) 103,wK 2,wc LS rfl [98,106],wX],
 qf 86 [qq 109 89 108],
 qn [qp 110 86 109]] .nil) [1,6,7,110]) (cn 110 (Kp 194) (sq [qB 2 false] [2] .ret)))) (qr [wn 72 [wm 7,wI .add 1],
 qn [qa 7 73]] (Kp 194))))))) (qr [wn 62 [wm 6,wI .add 1],
 qn [qa 6 63]] [1,6]))))) (sq [qB 2 true] [2] .ret)))))⟩
noncomputable def m8(L3:Int->Option Bool)(v4:Int)(_:PUnit):Option Bool:=
 L3 (w64 (v4+1))
noncomputable def ZZ(x1:(List AN))(L3:Int->Option Bool)(v4:Int)(L9:Int->Option Bool)(v10:Int):Option Bool:=
 br (decide (v10<v4))
  (bd (at? x1 v10) fun x11=>
  bd (at? x1 v10) fun x12=>
  bd (at? x1 v4) fun x13=>
  bd (at? x1 v4) fun x14=>
  br (x12.Id==x14.Id)
   (some false)
   (L9 (w64 (v10+1))))
  (jn (m8 L3 v4) ())
noncomputable def SX(x1:(List AN))(L3:Int->Option Bool)(v4:Int)(v8:Bool):Option Bool:=
 br v8
  (some false)
  (AT (ZZ x1 L3 v4) big 0)
noncomputable def SZ(L20:Int->Option Bool)(v21:Int)(v25:Bool):Option Bool:=
 br v25
  (some false)
  (L20 (w64 (v21+1)))
noncomputable def fR(L18:Int->Option Bool)(v19:Int)(_:PUnit):Option Bool:=
 L18 (w64 (v19+1))
noncomputable def Zb(p0:AK)(L18:Int->Option Bool)(v19:Int)(L20:Int->Option Bool)(v21:Int):Option Bool:=
 bd (at? p0.AJ v19) fun x22=>
 br (decide (v21<(↑(List.length x22):Int)))
  (bd (at? p0.AJ v19) fun x23=>
  bd (at? x23 v21) fun x24=>
  br (x24.At.tmod 9 != v19)
   (jn (SZ L20 v21) true)
   (br (decide (v21>0))
    (bd (at? p0.AJ v19) fun x26=>
    bd (at? x26 (w64 (v21-1))) fun x27=>
    bd (at? p0.AJ v19) fun x28=>
    bd (at? x28 v21) fun x29=>
    bd (rM x27 x29) fun x30=>
    jn (SZ L20 v21) (!x30))
    (jn (SZ L20 v21) false)))
  (jn (fR L18 v19) ())
noncomputable def fS(_:PUnit):Option Bool:=
 some true
noncomputable def Za(p0:AK)(L18:Int->Option Bool)(v19:Int):Option Bool:=
 br (decide (v19<(↑p0.AJ.length:Int)))
  (AT (Zb p0 L18 v19) big 0)
  (jn (fS) ())
noncomputable def SY(p0:AK)(_:PUnit):Option Bool:=
 AT (Za p0) big 0
noncomputable def ZY(p0:AK)(x1:(List AN))(L3:Int->Option Bool)(v4:Int):Option Bool:=
 br (decide (v4<(↑(List.length x1):Int)))
  (bd (at? x1 v4) fun x5=>
  bd (at? x1 v4) fun x6=>
  bd (CY x6.At 1 1000008) fun x7=>
  br (!x7)
   (jn (SX x1 L3 v4) true)
   (bd (at? x1 v4) fun x15=>
   bd (at? x1 v4) fun x16=>
   bd (CY x16.Id 1 999) fun x17=>
   jn (SX x1 L3 v4) (!x17)))
  (jn (SY p0) ())
noncomputable def SW(p0:AK)(x1:(List AN))(v2:Bool):Option Bool:=
 br v2
  (some false)
  (AT (ZY p0 x1) big 0)
noncomputable def ZX(p0:AK):Option Bool:=
 bd (rL p0) fun x1=>
 br ((↑p0.AJ.length:Int) != 9)
  (jn (SW p0 x1) true)
  (jn (SW p0 x1) (decide ((↑(List.length x1):Int)>10)))
noncomputable def Di:GF:=ABV.gf rfl rfl (fun a=>ZX a.1) (fun a=>by kernel_rfl)
noncomputable def ABW:YF:=⟨[],[.v (.st 7)],[],.ret [.b],[.tmp 2],
 sq [qu 1 0,qB 2 false] [1] (.join [cv 2 .b] (qr [wn 3 [wo 0 1,wK 5,wY LP rfl,wM],
 wt 6 7 [wo 5 1,wL,wY Iy rfl],
 wn 10 [wQ 6,wM],
 wt 11 12 [wo 6 1,wK 1,wY Di rfl],
 qn [qq 15 11 14,qa 2 15]] [2]) .ret)⟩
noncomputable def Sa(v4:Bool):Option Bool:=
 some v4
noncomputable def oW(p0:Am):Option Bool:=
 bd (rI p0.AM) fun x1=>
 br x1
  (bd (oV p0.Row) fun x2=>
  br x2
   (bd (ZX p0.Gk) fun x3=>
   jn (Sa) x3)
   (jn (Sa) false))
  (jn (Sa) false)
noncomputable def LU:GF:=ABW.gf rfl rfl (fun a=>oW a.1) (fun a=>by kernel_rfl)
noncomputable def ABX:YF:=⟨[],[.v .i,.v .i],[],.ret [.i],[.tmp 4],
 sq [qK 4 0] [0,1] (.seq (sw 5 [wm 0,wm 1,wB .gtr 5] (Kp 131) (.cond 7 [0] [1] (sq [qm 8 0,qa 4 8] [4] .ret) .skip)) (sq [qm 9 1,qa 4 9] [4] .ret))⟩
noncomputable def jE(p0:Int)(p1:Int):Option Int:=
 br (decide (p0>p1))
  (some p0)
  (some p1)
noncomputable def HD:GF:=ABX.gf rfl rfl (fun a=>jE a.1 a.2.1) (fun a=>by kernel_rfl)
noncomputable def ABY:YF:=⟨[],[.v (.st 1),.v .i,.v .i],[],.ret [.i],[.tmp 6],
 sq [qu 3 0,qK 6 0] (Kp 14) (sr [wn 7 [wm 1,wm 2,wo 4 3,wL,wB .quo 8,wB .sub 7,wc HD rfl [qj 0,12]],
 qn [qa 6 13]] [6] .ret)⟩
noncomputable def uZ(p0:AO)(p1:Int)(p2:Int):Option Int:=
 gd (p0.A2≠0) (
 bd (jE 0 (w64 (p1-w64 (p2.tdiv p0.A2)))) fun x1=>
 some x1)
noncomputable def VB:GF:=ABY.gf rfl rfl (fun a=>uZ a.1 a.2.1 a.2.2.1) (fun a=>by kernel_rfl)
noncomputable def ABZ:YF:=⟨[],[.v (.st 1),.v (.st 2),.v .i],[],.ret [.i],[.tmp 6],
 sq [qu 3 0,qu 4 1,qK 6 0] (Kp 28) (.seq (sw 7 [wk 9 3,wk 10 4,wm 2,wc Ix rfl [7,8,9],wX] (Kp 2076) (cn 11 (Kp 28) (sq [qK 6 (-1)] [6] .ret))) (sr [wn 12 [wk 9 3,wo 4 4,wL,wm 2,wo 5 4,wL,wB .sub 15,wc VB rfl [12,14,18]],
 qn [qa 6 19]] [6] .ret))⟩
noncomputable def ua(p0:AO)(p1:AI)(p2:Int):Option Int:=
 bd (oU p0 p1 p2) fun x1=>
 br (!x1)
  (some (-1))
  (bd (uZ p0 p1.CX (w64 (p2-p1.Since))) fun x2=>
  some x2)
noncomputable def VC:GF:=ABZ.gf rfl rfl (fun a=>ua a.1 a.2.1 a.2.2.1) (fun a=>by kernel_rfl)
noncomputable def ABa:YF:=⟨[],[.v (.st 1),.v (.st 2),.v .i],[],.ret [(.st 4),.b],[.cell 6 (some 4),.tmp 7],
 sq [qu 3 0,qu 4 1,.alloc 6 C7,qB 7 false] (Kp 92) (sr [wn 9 [wk 9 3,wk 10 4,wm 2,wc VC rfl [9,10,11]],
 qn [qa 8 12]] (Kp 336) (.seq (.join [cv 19 .b] (qr [wn 13 [wm 8,wI .lss 0,wM],
 wf 15 16 [wo 7 4,wL,wI .neq 1],
 qn [qp 19 15 18]] (Kp 524624)) (.cond 19 [6] (Kp 336) (sq [.build 20 C7 [],qw 4 6 20,qB 7 false] [6,7] .ret) .skip)) (sr [wn 21 [wm 8,wo 6 4,wL,wo 0 4,wL,wo 3 4,wL,wh (.build · C7 [(0,1,(.tmp 21)),(1,1,(.tmp 23)),(2,1,(.tmp 25)),(3,1,(.tmp 27))])],
 qn [qw 4 6 28,qB 7 true]] [6,7] .ret)))⟩
noncomputable def Zc(p1:AI)(x1:Int)(v2:Bool):Option (AD×Bool):=
 br v2
  (some (AD.mk 0 0 0 0,false))
  (some (AD.mk x1 p1.Ah p1.Id p1.As,true))
noncomputable def rN(p0:AO)(p1:AI)(p2:Int):Option (AD×Bool):=
 bd (ua p0 p1 p2) fun x1=>
 br (decide (x1<0))
  (jn (Zc p1 x1) true)
  (jn (Zc p1 x1) (p1.State != 1))
noncomputable def LV:GF:=ABa.gf rfl rfl (fun a=>rN a.1 a.2.1 a.2.2.1) (fun a=>by kernel_rfl)
noncomputable def ABb:YF:=⟨[],[.v (.l (.st 4))],[],.ret [(.l (.st 4))],[.tmp 2],
 sq [.as 2 (.k .nil),.Av [(.tmp 2 0,(.st 4))]] [0] (sr [wn 3 [wh (.AW · 0 (.st 4) []),wm 0,wh (.app · (.st 4) true (.tmp 3) (.tmp 4))],
 qn [qa 2 5]] [2] .ret)⟩
noncomputable def oX(p0:(List AD)):Option (List AD):=
 gd (0+p0.length<=lim) (
 some ([]++p0))
noncomputable def Hw:GF:=ABb.gf rfl rfl (fun a=>oX a.1) (fun a=>by kernel_rfl)
noncomputable def ABc:YF:=⟨[],[.v (.l (.st 4)),.v (.st 4)],[],.ret [(.l (.st 4))],[.tmp 4],
 sq [qu 3 1,.as 4 (.k .nil),.Av [(.tmp 4 0,(.st 4))]] [0,3] (sq [qK 5 0] (Kp 41) (.join [cv 5 .i] (bl 0 [cv 5 .i] (.seq (.join [cv 18 .b] (.A8 (qd 0 [wn 7 [wm 5,wm 0,wZ,wB .lss 7,wM],
 wt 11 12 [wm 0,wm 5,wE (.st 4) 12,wK 4,wk 4 3,wc LQ rfl [15,16]],
 qn [qq 18 11 17]] .nil) [0,3,5,18]) (ce 18 [0,3,5] (Kp 41) 0)) (.block 1 (qr [wn 19 [wm 5,wI .add 1],
 qn [qa 5 20]] (Kp 41))))) (.seq (.A8 (qd 0 [wn 21 [wm 0,wm 5,wh (.sub · (.st 4) (.tmp 21) none (some (.tmp 22)))]] (.op 4 none [] (.ld 25 (some 4) (.tmp 3))
 (.both 0 (.op 3 none [3] (.call 24 Hw [] rfl [(.tmp 23)])
 (qd 5 [wn 26 [wh (.AW · 1 (.st 4) [(0,(.tmp 25))]),wh (.app · (.st 4) true (.tmp 24) (.tmp 26))],
 qn [qa 6 27]] (.dr [21,22,23,24,25,26,27] .nil))) (.op 5 none [] (.AW 26 1 (.st 4) [(0,(.tmp 25))])
 (.op 3 none [3] (.call 24 Hw [] rfl [(.tmp 23)])
 (qd 6 [qn [.app 27 (.st 4) true (.tmp 24) (.tmp 26),qa 6 27]] (.dr [21,22,23,24,25,26,27] .nil))))))) [0,5,6]) (sr [wn 28 [wm 6,wm 0,wm 5,wh (.sub · (.st 4) (.tmp 29) (some (.tmp 30)) none),wh (.app · (.st 4) true (.tmp 28) (.tmp 31))],
 qn [qa 4 32]] [4] .ret))))⟩
noncomputable def Zd(p0:(List AD))(p1:AD)(v6:Int):Option (List AD):=
 gd (0<=v6/\v6<=(↑p0.length:Int)) (
 bd (oX (List.take v6.toNat p0)) fun x7=>
 gd (List.length x7+[p1].length<=lim) (
 bd (oX (List.take v6.toNat p0)) fun x8=>
 gd (List.length x8+[p1].length<=lim) (
 eqv (x7++[p1]) (x8++[p1]) (
 gd (0<=v6/\v6<=(↑p0.length:Int)) (
 gd ((x7++[p1]).length+(List.drop v6.toNat p0).length<=lim) (
 some (x7++[p1]++List.drop v6.toNat p0)))))))
noncomputable def Sb(p0:(List AD))(p1:AD)(L1:Int->Option (List AD))(v2:Int)(v5:Bool):Option (List AD):=
 br v5
  (L1 (w64 (v2+1)))
  (jn (Zd p0 p1) v2)
noncomputable def Ze(p0:(List AD))(p1:AD)(L1:Int->Option (List AD))(v2:Int):Option (List AD):=
 br (decide (v2<(↑p0.length:Int)))
  (bd (at? p0 v2) fun x3=>
  bd (rJ x3 p1) fun x4=>
  jn (Sb p0 p1 L1 v2) x4)
  (jn (Sb p0 p1 L1 v2) false)
noncomputable def oY(p0:(List AD))(p1:AD):Option (List AD):=
 AT (Ze p0 p1) big 0
noncomputable def NH:GF:=ABc.gf rfl rfl (fun a=>oY a.1 a.2.1) (fun a=>by kernel_rfl)
noncomputable def ABd:YF:=⟨[],[.v (.st 1),.v (.l (.st 2)),.v .i,.v .i],[],.ret [(.l (.st 4))],[.tmp 8],
 sq [qu 4 0,.as 8 (.k .nil),.Av [(.tmp 8 0,(.st 4))]] (Kp 30) (sq [.AW 13 0 (.st 4) [],qa 9 13] (Kp 542) (.join [cv 9 (.l (.st 4))] (sr [wn 14 [wm 1,wZ,wI .sub 1],
 qn [qa 10 16]] (Kp 1566) (bl 0 [cv 9 (.l (.st 4)),cv 10 .i] (.seq (sw 17 [wm 10,wI .geq 0] (Kp 263710) (ce 18 (Kp 1566) [9] 0)) (.join [cv 9 (.l (.st 4))] (.block 1 (.seq (.A8 (qd 0 [wn 22 [wk 9 4,wm 1,wm 10,wE (.st 2) 23,wK 10,wm 3]] (.both 0 (qd 6 [qn [qc 28 LV rfl [22,26,27],qm 21 28],
 wn 29 [wh (.ext · (.tmp 21) 0),wh (.ext · (.tmp 21) 1)]] (.op 10 none [4,25] (.alloc 11 C7)
 (qd 11 [qn [qw 4 11 29,qa 12 30]] (.dr [21,22,23,24,25,26,27,28,29,30] .nil)))) (.op 10 none [4,25] (.alloc 11 C7)
 (qd 6 [qn [qc 28 LV rfl [22,26,27],qm 21 28],
 wn 29 [wh (.ext · (.tmp 21) 0),wh (.ext · (.tmp 21) 1)]] (qd 11 [qn [qw 4 11 29,qa 12 30]] (.dr [21,22,23,24,25,26,27,28,29,30] .nil)))))) [1,2,3,4,9,10,11,12]) (.join [cv 40 .b] (qr [wn 31 [wm 12,wM],
 wt 32 33 [wm 1,wm 10,wE (.st 2) 33,wO 1,wL,wm 2,wB .eql 37],
 qn [qq 40 32 39]] (Kp 1099511631390)) (.cond 40 [1,2,3,4,9,10,11] (Kp 1566) (qr [wn 41 [wm 9,wk 4 11,wc NH rfl [41,42]],
 qn [qa 9 43]] (Kp 1566)) .skip)))) (qr [wn 19 [wm 10,wI .sub 1],
 qn [qa 10 20]] (Kp 1566)))))) (sq [qm 44 9,qa 8 44] [8] .ret)))⟩
noncomputable def Zg(L1:((List AD)×Int)->Option (List AD))(v3:Int)(v10:(List AD)):Option (List AD):=
 L1 ((v10,w64 (v3-1)))
noncomputable def Zf(L1:((List AD)×Int)->Option (List AD))(v2:(List AD))(v3:Int)(x5:(AD×Bool))(v8:Bool):Option (List AD):=
 br v8
  (bd (oY v2 x5.fst) fun x9=>
  jn (Zg L1 v3) x9)
  (jn (Zg L1 v3) v2)
noncomputable def m9(v11:(List AD)):Option (List AD):=
 some v11
noncomputable def nA(p0:AO)(p1:(List AI))(p2:Int)(p3:Int)(L1:((List AD)×Int)->Option (List AD))(x_:((List AD)×Int)):Option (List AD):=
 match x_ with
 |(v2,v3)=>br (decide (v3>=0))
  (bd (at? p1 v3) fun x4=>
  bd (rN p0 x4 p3) fun x5=>
  bd (rN p0 x4 p3) fun x6=>
  eqv x5.snd x6.snd (
  bc x5.fst x6.fst (
  br x5.snd
   (bd (at? p1 v3) fun x7=>
   jn (Zf L1 v2 v3 x5) (x7.A4==p2))
   (jn (Zf L1 v2 v3 x5) false))))
  (jn (m9) v2)
noncomputable def oZ(p0:AO)(p1:(List AI))(p2:Int)(p3:Int):Option (List AD):=
 AT (nA p0 p1 p2 p3) big (([],w64 ((↑p1.length:Int)-1)))
noncomputable def Iz:GF:=ABd.gf rfl rfl (fun a=>oZ a.1 a.2.1 a.2.2.1 a.2.2.2.1) (fun a=>by kernel_rfl)
noncomputable def ABe:YF:=⟨[],[.v (.l (.st 4)),.v (.l (.st 4))],[],.ret [.b],[.tmp 4],
 sq [qB 4 false] [0,1] (.seq (sw 6 [wm 0,wZ,wm 1,wZ,wB .neq 7] (Kp 1027) (cn 10 [0,1] (sq [qB 4 false] [4] .ret))) (.join [] (sq [qK 5 0] (Kp 35) (bl 0 [cv 5 .i] (.seq (sw 11 [wm 5,wm 0,wZ,wB .lss 11] (Kp 16419) (ce 14 (Kp 35) [] 0)) (.seq (.block 1 (.seq (.A8 (qd 0 [wn 17 [wm 0,wm 5,wE (.st 4) 17,wK 4,wm 1,wm 5,wE (.st 4) 21,wK 4,wh (.bin · (.agg [.i,.i,.i,.i]) .neq (.tmp 20) (.tmp 24))]] .nil) [0,1,5,25]) (cn 25 (Kp 35) (sq [qB 4 false] [4] .ret)))) (qr [wn 15 [wm 5,wI .add 1],
 qn [qa 5 16]] (Kp 35)))))) (sq [qB 4 true] [4] .ret)))⟩
noncomputable def nB(_:PUnit):Option Bool:=
 some true
noncomputable def Zh(p0:(List AD))(p1:(List AD))(L1:Int->Option Bool)(v2:Int):Option Bool:=
 br (decide (v2<(↑p0.length:Int)))
  (bd (at? p0 v2) fun x3=>
  bd (at? p1 v2) fun x4=>
  br (!(x3.Level==x4.Level&&(x3.Ah==x4.Ah&&(x3.Id==x4.Id&&(x3.As==x4.As&&true)))))
   (some false)
   (L1 (w64 (v2+1))))
  (jn (nB) ())
noncomputable def rO(p0:(List AD))(p1:(List AD)):Option Bool:=
 br ((↑p0.length:Int) != (↑p1.length:Int))
  (some false)
  (AT (Zh p0 p1) big 0)
noncomputable def Pg:GF:=ABe.gf rfl rfl (fun a=>rO a.1 a.2.1) (fun a=>by kernel_rfl)
noncomputable def ABf:YF:=⟨[],[.v (.l (.st 5)),.v (.st 5)],[],.ret [(.l (.st 5))],[.tmp 4],
 sq [qu 3 1,.as 4 (.k .nil),.Av [(.tmp 4 0,(.st 5))]] [0,3] (sq [qK 5 0] (Kp 41) (.join [cv 5 .i] (bl 0 [cv 5 .i] (.seq (.join [cv 18 .b] (.A8 (qd 0 [wn 7 [wm 5,wm 0,wZ,wB .lss 7,wM],
 wt 11 12 [wm 0,wm 5,wE (.st 5) 12,wK 2,wk 2 3,wc LS rfl [15,16]],
 qn [qq 18 11 17]] .nil) [0,3,5,18]) (ce 18 [0,3,5] (Kp 41) 0)) (.block 1 (qr [wn 19 [wm 5,wI .add 1],
 qn [qa 5 20]] (Kp 41))))) (sr [wn 21 [wh (.AW · 0 (.st 5) []),wm 0,wm 5,wh (.sub · (.st 5) (.tmp 22) none (some (.tmp 23))),wh (.app · (.st 5) true (.tmp 21) (.tmp 24))],
 qn [qa 6 25]] (Kp 105) (sr [wn 26 [wm 6,wk 2 3,wh (.AW · 1 (.st 5) [(0,(.tmp 27))]),wh (.app · (.st 5) true (.tmp 26) (.tmp 28))],
 qn [qa 6 29]] (Kp 97) (sr [wn 30 [wm 6,wm 0,wm 5,wh (.sub · (.st 5) (.tmp 31) (some (.tmp 32)) none),wh (.app · (.st 5) true (.tmp 30) (.tmp 33))],
 qn [qa 4 34]] [4] .ret)))))⟩
noncomputable def Zi(p0:(List AN))(p1:AN)(v6:Int):Option (List AN):=
 gd (0<=v6/\v6<=(↑p0.length:Int)) (
 gd (0+(List.take v6.toNat p0).length<=lim) (
 gd (([]++List.take v6.toNat p0).length+[p1].length<=lim) (
 gd (0<=v6/\v6<=(↑p0.length:Int)) (
 gd (([]++List.take v6.toNat p0++[p1]).length+(List.drop v6.toNat p0).length<=lim) (
 some ([]++List.take v6.toNat p0++[p1]++List.drop v6.toNat p0))))))
noncomputable def Sd(p0:(List AN))(p1:AN)(L1:Int->Option (List AN))(v2:Int)(v5:Bool):Option (List AN):=
 br v5
  (L1 (w64 (v2+1)))
  (jn (Zi p0 p1) v2)
noncomputable def Zj(p0:(List AN))(p1:AN)(L1:Int->Option (List AN))(v2:Int):Option (List AN):=
 br (decide (v2<(↑p0.length:Int)))
  (bd (at? p0 v2) fun x3=>
  bd (rM x3 p1) fun x4=>
  jn (Sd p0 p1 L1 v2) x4)
  (jn (Sd p0 p1 L1 v2) false)
noncomputable def od(p0:(List AN))(p1:AN):Option (List AN):=
 AT (Zj p0 p1) big 0
noncomputable def HE:GF:=ABf.gf rfl rfl (fun a=>od a.1 a.2.1) (fun a=>by kernel_rfl)
noncomputable def ABg:YF:=⟨[],[.v (.st 6)],[],.ret [(.l (.st 5))],[.tmp 2],
 sq [qu 1 0,.as 2 (.k .nil),.Av [(.tmp 2 0,(.st 5))]] [1] (sq [.AW 6 0 (.st 5) [],qa 3 6] [1,3] (.seq (sw 7 [wk 1 1,wY Di rfl,wX] (Kp 522) (.cond 9 [3] [1,3] (sq [qm 10 3,qa 2 10] [2] .ret) .skip)) (sr [wn 11 [wk 1 1,wY LR rfl],
 qn [qa 4 12]] [3,4] (.join [cv 3 (.l (.st 5))] (sq [qK 5 0] (Kp 56) (bl 0 [cv 3 (.l (.st 5)),cv 5 .i] (.seq (sw 13 [wm 5,wm 4,wZ,wB .lss 13] (Kp 65592) (ce 16 (Kp 56) [3] 0)) (.seq (.block 1 (qr [wn 19 [wm 3,wm 4,wm 5,wE (.st 5) 20,wK 2,wc HE rfl [19,23]],
 qn [qa 3 24]] (Kp 56))) (qr [wn 17 [wm 5,wI .add 1],
 qn [qa 5 18]] (Kp 56)))))) (sq [qm 25 3,qa 2 25] [2] .ret)))))⟩
noncomputable def nC(v9:(List AN)):Option (List AN):=
 some v9
noncomputable def Zk(x2:(List AN))(L3:((List AN)×Int)->Option (List AN))(x_:((List AN)×Int)):Option (List AN):=
 match x_ with
 |(v4,v5)=>br (decide (v5<(↑(List.length x2):Int)))
  (bd (at? x2 v5) fun x6=>
  bd (at? x2 v5) fun x7=>
  bd (od v4 x7) fun x8=>
  L3 ((x8,w64 (v5+1))))
  (jn (nC) v4)
noncomputable def oe(p0:AK):Option (List AN):=
 bd (ZX p0) fun x1=>
 br (!x1)
  (some [])
  (bd (rL p0) fun x2=>
  AT (Zk x2) big ([],0))
noncomputable def LW:GF:=ABg.gf rfl rfl (fun a=>oe a.1) (fun a=>by kernel_rfl)
noncomputable def ABh:YF:=⟨[],[.v (.l (.st 2)),.v .i],[],.ret [(.l (.st 5))],[.tmp 4],
 sq [.as 4 (.k .nil),.Av [(.tmp 4 0,(.st 5))]] [0,1] (sq [.AW 7 0 (.st 5) [],qa 5 7] (Kp 35) (.join [cv 5 (.l (.st 5))] (sq [qK 6 0] (Kp 99) (bl 0 [cv 5 (.l (.st 5)),cv 6 .i] (.seq (sw 8 [wm 6,wm 0,wZ,wB .lss 8] (Kp 2147) (ce 11 (Kp 99) [5] 0)) (.join [cv 5 (.l (.st 5))] (.block 1 (.join [cv 28 .b] (qr [wn 14 [wm 0,wm 6,wE (.st 2) 14,wO 7,wL,wI .eql 2,wM],
 wt 20 21 [wm 0,wm 6,wE (.st 2) 21,wO 1,wL,wm 1,wB .eql 25],
 qn [qq 28 20 27]] (Kp 268435555)) (.cond 28 [0,1,5,6] (Kp 99) (.A8 (qd 0 [wn 29 [wm 5,wm 0,wm 6,wE (.st 2) 30,wO 8,wL,wm 0,wm 6,wE (.st 2) 35,wO 0,wL,wh (.build · [.int .i64 0,.int .i64 0] [(0,1,(.tmp 34)),(1,1,(.tmp 39))]),wc HE rfl [29,40]],
 qn [qa 5 41]] .nil) [0,1,5,6]) .skip))) (qr [wn 12 [wm 6,wI .add 1],
 qn [qa 6 13]] (Kp 99)))))) (sq [qm 42 5,qa 4 42] [4] .ret)))⟩
noncomputable def Zm(L1:((List AN)×Int)->Option (List AN))(v3:Int)(v10:(List AN)):Option (List AN):=
 L1 ((v10,w64 (v3+1)))
noncomputable def Zl(p0:(List AI))(L1:((List AN)×Int)->Option (List AN))(v2:(List AN))(v3:Int)(v6:Bool):Option (List AN):=
 br v6
  (bd (at? p0 v3) fun x7=>
  bd (at? p0 v3) fun x8=>
  bd (od v2 (AN.mk x7.BW x8.Id)) fun x9=>
  jn (Zm L1 v3) x9)
  (jn (Zm L1 v3) v2)
noncomputable def nD(v11:(List AN)):Option (List AN):=
 some v11
noncomputable def Zn(p0:(List AI))(p1:Int)(L1:((List AN)×Int)->Option (List AN))(x_:((List AN)×Int)):Option (List AN):=
 match x_ with
 |(v2,v3)=>br (decide (v3<(↑p0.length:Int)))
  (bd (at? p0 v3) fun x4=>
  br (x4.State==2)
   (bd (at? p0 v3) fun x5=>
   jn (Zl p0 L1 v2 v3) (x5.A4==p1))
   (jn (Zl p0 L1 v2 v3) false))
  (jn (nD) v2)
noncomputable def jF(p0:(List AI))(p1:Int):Option (List AN):=
 AT (Zn p0 p1) big ([],0)
noncomputable def I0:GF:=ABh.gf rfl rfl (fun a=>jF a.1 a.2.1) (fun a=>by kernel_rfl)
noncomputable def ABi:YF:=⟨[],[.v (.l (.st 5)),.v (.l (.st 5))],[],.ret [.b],[.tmp 4],
 sq [qB 4 false] [0,1] (.seq (sw 6 [wm 0,wZ,wm 1,wZ,wB .neq 7] (Kp 1027) (cn 10 [0,1] (sq [qB 4 false] [4] .ret))) (.join [] (sq [qK 5 0] (Kp 35) (bl 0 [cv 5 .i] (.seq (sw 11 [wm 5,wm 0,wZ,wB .lss 11] (Kp 16419) (ce 14 (Kp 35) [] 0)) (.seq (.block 1 (.seq (.A8 (qd 0 [wn 17 [wm 0,wm 5,wE (.st 5) 17,wK 2,wm 1,wm 5,wE (.st 5) 21,wK 2,wh (.bin · (.agg [.i,.i]) .neq (.tmp 20) (.tmp 24))]] .nil) [0,1,5,25]) (cn 25 (Kp 35) (sq [qB 4 false] [4] .ret)))) (qr [wn 15 [wm 5,wI .add 1],
 qn [qa 5 16]] (Kp 35)))))) (sq [qB 4 true] [4] .ret)))⟩
noncomputable def nE(_:PUnit):Option Bool:=
 some true
noncomputable def Zo(p0:(List AN))(p1:(List AN))(L1:Int->Option Bool)(v2:Int):Option Bool:=
 br (decide (v2<(↑p0.length:Int)))
  (bd (at? p0 v2) fun x3=>
  bd (at? p1 v2) fun x4=>
  br (!(x3.At==x4.At&&(x3.Id==x4.Id&&true)))
   (some false)
   (L1 (w64 (v2+1))))
  (jn (nE) ())
noncomputable def rP(p0:(List AN))(p1:(List AN)):Option Bool:=
 br ((↑p0.length:Int) != (↑p1.length:Int))
  (some false)
  (AT (Zo p0 p1) big 0)
noncomputable def Ph:GF:=ABi.gf rfl rfl (fun a=>rP a.1 a.2.1) (fun a=>by kernel_rfl)
noncomputable def AA9:YF:=⟨[],[.v (.l (.st 2)),.v .i],[],.ret [.i],[.tmp 4],
 sq [qK 4 0] [0,1] (sq [qK 5 0] (Kp 35) (.join [cv 5 .i] (sq [qK 6 0] (Kp 99) (bl 0 [cv 5 .i,cv 6 .i] (.seq (sw 7 [wM,wm 0,wZ,wB .lss 7] (Kp 1123) (ce 10 (Kp 99) [5] 0)) (.join [cv 5 .i] (.block 1 (.join [cv 35 .b] (qr [wn 13 [wm 0,wm 6,wE (.st 2) 13,wO 7,wL,wI .eql 2,wM],
 wt 19 20 [wm 0,wm 6,wE (.st 2) 20,wO 1,wL,wm 1,wB .eql 24],
 wn 27 [wQ 19,wM],
 wt 28 29 [wm 0,wm 6,wE (.st 2) 29,wO 3,wL,wc Az rfl [33,qj 1,qj 6]],
 qn [qq 35 28 34]] [0,1,5,6,35]) (.cond 35 [0,1,5,6] (Kp 99) (qr [wn 36 [wm 5,wm 0,wm 6,wE (.st 2) 37,wO 3,wL,wB .add 36],
 qn [qa 5 42]] (Kp 99)) .skip))) (qr [wn 11 [wm 6,wI .add 1],
 qn [qa 6 12]] (Kp 99)))))) (sq [qm 43 5,qa 4 43] [4] .ret)))⟩
noncomputable def ZC(L1:(Int×Int)->Option Int)(v3:Int)(v10:Int):Option Int:=
 L1 ((v10,w64 (v3+1)))
noncomputable def SO(p0:(List AI))(L1:(Int×Int)->Option Int)(v2:Int)(v3:Int)(v8:Bool):Option Int:=
 br v8
  (bd (at? p0 v3) fun x9=>
  jn (ZC L1 v3) (w64 (v2+x9.As)))
  (jn (ZC L1 v3) v2)
noncomputable def lX(v11:Int):Option Int:=
 some v11
noncomputable def ZD(p0:(List AI))(p1:Int)(L1:(Int×Int)->Option Int)(x_:(Int×Int)):Option Int:=
 match x_ with
 |(v2,v3)=>br (decide (v3<(↑p0.length:Int)))
  (bd (at? p0 v3) fun x4=>
  br (x4.State==2)
   (bd (at? p0 v3) fun x5=>
   br (x5.A4==p1)
    (bd (at? p0 v3) fun x6=>
    bd (CY x6.As 1 6) fun x7=>
    jn (SO p0 L1 v2 v3) x7)
    (jn (SO p0 L1 v2 v3) false))
   (jn (SO p0 L1 v2 v3) false))
  (jn (lX) v2)
noncomputable def jD(p0:(List AI))(p1:Int):Option Int:=
 AT (ZD p0 p1) big (0,0)
noncomputable def Fp:GF:=AA9.gf rfl rfl (fun a=>jD a.1 a.2.1) (fun a=>by kernel_rfl)
noncomputable def ABA:YF:=⟨[],[.v (.l (.st 2)),.v .i],[],.ret [.i],[.tmp 4],
 sq [qK 4 0] [0,1] (sq [qK 5 0] (Kp 35) (.join [cv 5 .i] (sq [qK 6 0] (Kp 99) (bl 0 [cv 5 .i,cv 6 .i] (.seq (sw 7 [wM,wm 0,wZ,wB .lss 7] (Kp 1123) (ce 10 (Kp 99) [5] 0)) (.join [cv 5 .i] (.block 1 (.join [cv 27 .b] (qr [wn 13 [wm 0,wm 6,wE (.st 2) 13,wO 2,wL,wm 1,wB .eql 17,wM],
 wt 20 21 [wm 0,wm 6,wE (.st 2) 21,wO 3,wL,wc Az rfl [25,qj 1,qj 6]],
 qn [qq 27 20 26]] (Kp 134217827)) (.cond 27 [0,1,5,6] (Kp 99) (qr [wn 28 [wm 5,wm 0,wm 6,wE (.st 2) 29,wO 3,wL,wB .add 28],
 qn [qa 5 34]] (Kp 99)) .skip))) (qr [wn 11 [wm 6,wI .add 1],
 qn [qa 6 12]] (Kp 99)))))) (sq [qm 35 5,qa 4 35] [4] .ret)))⟩
noncomputable def ZF(L1:(Int×Int)->Option Int)(v3:Int)(v9:Int):Option Int:=
 L1 ((v9,w64 (v3+1)))
noncomputable def ZE(p0:(List AI))(L1:(Int×Int)->Option Int)(v2:Int)(v3:Int)(v7:Bool):Option Int:=
 br v7
  (bd (at? p0 v3) fun x8=>
  jn (ZF L1 v3) (w64 (v2+x8.As)))
  (jn (ZF L1 v3) v2)
noncomputable def lY(v10:Int):Option Int:=
 some v10
noncomputable def ZG(p0:(List AI))(p1:Int)(L1:(Int×Int)->Option Int)(x_:(Int×Int)):Option Int:=
 match x_ with
 |(v2,v3)=>br (decide (v3<(↑p0.length:Int)))
  (bd (at? p0 v3) fun x4=>
  br (x4.CB==p1)
   (bd (at? p0 v3) fun x5=>
   bd (CY x5.As 1 6) fun x6=>
   jn (ZE p0 L1 v2 v3) x6)
   (jn (ZE p0 L1 v2 v3) false))
  (jn (lY) v2)
noncomputable def cU(p0:(List AI))(p1:Int):Option Int:=
 AT (ZG p0 p1) big (0,0)
noncomputable def Ej:GF:=ABA.gf rfl rfl (fun a=>cU a.1 a.2.1) (fun a=>by kernel_rfl)
noncomputable def ABB:YF:=⟨[],[.v (.st 1),.v (.st 7),.v (.l (.st 2)),.v .i,.v .i],[],.ret [.b],[.tmp 10],
 sq [qu 5 0,qu 6 1,qB 10 false] (Kp 124) (.join [cv 10 .b] (.A8 (qd 0 [wn 11 [wk 7 6,wY LU rfl,wM],
 wt 13 14 [wo 5 6,wL,wk 9 5,wm 2,wm 3,wm 4]] (.op 9 (some (13,true)) [14] (.call 20 Iz [] rfl [(.tmp 16),(.tmp 17),(.tmp 18),(.tmp 19)])
 (qd 10 [qt 13 [qc 21 Pg rfl [15,20]],
 wn 22 [wQ 13,wM],
 wt 23 24 [wo 6 6,wK 1]] (qd 16 [wt 23 27 [wm 2,wm 3]] (.op 15 (some (23,true)) [] (.call 26 LW [] rfl [(.tmp 25)])
 (qd 18 [wt 23 29 [wc I0 rfl [27,28],wc Ph rfl [26,29]],
 wn 31 [wQ 23,wM],
 wt 32 33 [wo 0 6,wO 2,wL,wm 2,wm 3]] (.op 27 (some (32,true)) [34] (.call 38 Fp [] rfl [(.tmp 36),(.tmp 37)])
 (qd 28 [qt 32 [qb 39 .eql 35 38],
 wn 40 [wQ 32,wM],
 wt 41 42 [wo 0 6,wO 4,wL,wm 2,wm 3]] (.op 36 (some (41,true)) [43] (.call 47 Ej [] rfl [(.tmp 45),(.tmp 46)])
 (qd 37 [qt 41 [qb 48 .eql 44 47],
 qn [qq 49 41 48,qa 10 49]] .nil)))))))))) [10]) .ret)⟩
noncomputable def MU(v9:Bool):Option Bool:=
 some v9
noncomputable def uV(p0:AO)(p1:Am)(p2:(List AI))(p3:Int)(p4:Int):Option Bool:=
 bd (oW p1) fun x1=>
 br x1
  (bd (oZ p0 p2 p3 p4) fun x2=>
  bd (rO p1.Row x2) fun x3=>
  br x3
   (bd (oe p1.Gk) fun x4=>
   bd (jF p2 p3) fun x5=>
   bd (rP x4 x5) fun x6=>
   br x6
    (bd (jD p2 p3) fun x7=>
    br (p1.AM.Eb==x7)
     (bd (cU p2 p3) fun x8=>
     jn (MU) (p1.AM.M3==x8))
     (jn (MU) false))
    (jn (MU) false))
   (jn (MU) false))
  (jn (MU) false)
noncomputable def Up:GF:=ABB.gf rfl rfl (fun a=>uV a.1 a.2.1 a.2.2.1 a.2.2.2.1 a.2.2.2.2.1) (fun a=>by kernel_rfl)
noncomputable def ABC:YF:=⟨[],[.v (.l (.st 2)),.v .i],[],.ret [.i],[.tmp 4],
 sq [qK 4 0] [0,1] (sq [qK 5 0] (Kp 35) (.join [cv 5 .i] (sq [qK 6 0] (Kp 99) (bl 0 [cv 5 .i,cv 6 .i] (.seq (sw 7 [wM,wm 0,wZ,wB .lss 7] (Kp 1123) (ce 10 (Kp 99) [5] 0)) (.join [cv 5 .i] (.block 1 (sw 13 [wm 0,wm 6,wE (.st 2) 13,wO 1,wL,wm 1,wB .eql 17] (Kp 524387) (.cond 19 [0,1,5,6] (Kp 99) (qr [wn 20 [wm 5,wI .add 1],
 qn [qa 5 21]] (Kp 99)) .skip))) (qr [wn 11 [wm 6,wI .add 1],
 qn [qa 6 12]] (Kp 99)))))) (sq [qm 22 5,qa 4 22] [4] .ret)))⟩
noncomputable def ZH(L1:(Int×Int)->Option Int)(v3:Int)(v5:Int):Option Int:=
 L1 ((v5,w64 (v3+1)))
noncomputable def lZ(v6:Int):Option Int:=
 some v6
noncomputable def ZI(p0:(List AI))(p1:Int)(L1:(Int×Int)->Option Int)(x_:(Int×Int)):Option Int:=
 match x_ with
 |(v2,v3)=>br (decide (v3<(↑p0.length:Int)))
  (bd (at? p0 v3) fun x4=>
  br (x4.A4==p1)
   (jn (ZH L1 v3) (w64 (v2+1)))
   (jn (ZH L1 v3) v2))
  (jn (lZ) v2)
noncomputable def qR(p0:(List AI))(p1:Int):Option Int:=
 AT (ZI p0 p1) big (0,0)
noncomputable def LD:GF:=ABC.gf rfl rfl (fun a=>qR a.1 a.2.1) (fun a=>by kernel_rfl)
noncomputable def ABD:YF:=⟨[],[.v (.st 8)],[],.ret [.b],[.tmp 2],
 sq [qu 1 0,qB 2 false] [1] (.seq (.join [cv 35 .b] (qr [wn 4 [wo 0 1,wK 9,wY Dv rfl,wX,wM],
 wf 8 9 [wo 9 1,wL,wc Az rfl [10,qj 0,qj 1000000],wX],
 wn 13 [wR 8,wM],
 wf 14 15 [wo 10 1,wL,wc Az rfl [16,qj 1,qj 1000001],wX],
 wn 19 [wR 14,wM],
 wf 20 21 [wo 11 1,wL,wZ,wI .gtr 40],
 wn 25 [wR 20,wM],
 wf 26 27 [wo 12 1,wL,wZ,wo 0 1,wO 0,wL,wZ,wB .neq 29],
 qn [qp 35 26 34]] [1,35]) (cn 35 [1] (sq [qB 2 false] [2] .ret))) (.seq (.join [cv 43 .b] (qr [wn 36 [wk 15 1,wY Ux rfl,wX,wM],
 wf 39 40 [wk 15 1,wY U9 rfl,wX],
 qn [qp 43 39 42]] [1,43]) (cn 43 [1] (sq [qB 2 false] [2] .ret))) (.join [] (sq [qK 3 0] [1,3] (bl 0 [cv 3 .i] (.seq (sw 44 [wm 3,wo 12 1,wL,wZ,wB .lss 44] [1,3,48] (ce 48 [1,3] [] 0)) (.seq (.block 1 (.join [cv 90 .b] (.A8 (qd 0 [wn 51 [wo 12 1,wL,wm 3,wE (.st 7) 52,wO 0,wO 0,wL,wo 0 1,wO 0,wL,wm 3,wE .i 60,wL,wB .neq 57,wM],
 wf 65 66 [wo 0 1,wK 9,wo 12 1,wL,wm 3,wE (.st 7) 69,wK 7,wo 11 1,wL,wm 3,wo 9 1,wL,wc Up rfl [67,72,74,75,77],wX],
 wn 80 [wR 65,wM],
 wf 81 82 [wo 11 1,wL,wm 3]] (qd 35 [wf 81 86 [wo 0 1,wO 2,wL]] (.op 34 (some (81,false)) [87] (.call 85 LD [] rfl [(.tmp 83),(.tmp 84)])
 (qd 38 [qf 81 [qb 89 .gtr 85 88],
 qn [qp 90 81 89]] .nil)))) [1,3,90]) (cn 90 [1,3] (sq [qB 2 false] [2] .ret)))) (qr [wn 49 [wm 3,wI .add 1],
 qn [qa 3 50]] [1,3]))))) (sq [qB 2 true] [2] .ret))))⟩
noncomputable def Ol(L5:Int->Option Bool)(v6:Int)(v9:Bool):Option Bool:=
 br v9
  (some false)
  (L5 (w64 (v6+1)))
noncomputable def lf(_:PUnit):Option Bool:=
 some true
noncomputable def ZJ(p0:AF)(L5:Int->Option Bool)(v6:Int):Option Bool:=
 br (decide (v6<(↑p0.AR.length:Int)))
  (bd (at? p0.AR v6) fun x7=>
  bd (at? p0.AS.AM v6) fun x8=>
  br (x7.AM.Total != x8)
   (jn (Ol L5 v6) true)
   (bd (at? p0.AR v6) fun x10=>
   bd (uV p0.AS x10 p0.AE v6 p0.Now) fun x11=>
   br (!x11)
    (jn (Ol L5 v6) true)
    (bd (qR p0.AE v6) fun x12=>
    jn (Ol L5 v6) (decide (x12>p0.AS.Room)))))
  (jn (lf) ())
noncomputable def SP(p0:AF)(v4:Bool):Option Bool:=
 br v4
  (some false)
  (AT (ZJ p0) big 0)
noncomputable def Hr(p0:AF)(v2:Bool):Option Bool:=
 br v2
  (some false)
  (bd (uX p0) fun x3=>
  br (!x3)
   (jn (SP p0) true)
   (bd (uY p0) fun x13=>
   jn (SP p0) (!x13)))
noncomputable def Qd(p0:AF):Option Bool:=
 bd (ZO p0.AS) fun x1=>
 br (!x1)
  (jn (Hr p0) true)
  (bd (CY p0.Now 0 1000000) fun x14=>
  br (!x14)
   (jn (Hr p0) true)
   (bd (CY p0.Ah 1 1000001) fun x15=>
   br (!x15)
    (jn (Hr p0) true)
    (br (decide ((↑p0.AE.length:Int)>40))
     (jn (Hr p0) true)
     (jn (Hr p0) ((↑p0.AR.length:Int) != (↑p0.AS.AM.length:Int))))))
noncomputable def Fq:GF:=ABD.gf rfl rfl (fun a=>Qd a.1) (fun a=>by kernel_rfl)
noncomputable def KM(p0:Int):Option Bool:=
 bd (CY p0 0 9999) fun x1=>
 some x1
noncomputable def ABE:YF:=⟨[],[.v .i,.v .i,.v .i],[],.ret [.b],[.tmp 6],
 sq [qB 6 false] (Kp 7) (.join [cv 6 .b] (qr [wn 7 [wm 0,wm 1,wB .geq 7,wM],
 wt 10 11 [wm 0,wm 2,wB .leq 11],
 qn [qq 14 10 13,qa 6 14]] [6]) .ret)⟩
noncomputable def SQ(v1:Bool):Option Bool:=
 some v1
noncomputable def Ce(p0:Int)(p1:Int)(p2:Int):Option Bool:=
 br (decide (p0>=p1))
  (jn (SQ) (decide (p0<=p2)))
  (jn (SQ) false)
noncomputable def Af:GF:=ABE.gf rfl rfl (fun a=>Ce a.1 a.2.1 a.2.2.1) (fun a=>by kernel_rfl)
noncomputable def ABF:YF:=⟨[],[.v (.st 1)],[],.ret [.b],[.tmp 2],
 sq [qu 1 0,qB 2 false] [1] (.seq (sw 5 [wo 0 1,wL,wZ,wc Af rfl [7,qj 1,qj 4],wX] [1,9] (cn 9 [1] (sq [qB 2 false] [2] .ret))) (.join [] (sw 10 [wo 0 1,wL,wZ,wj 0] (Kp 14338) (bl 0 [cv 13 .i] (sq [qb 14 .lss 13 12] (Kp 30722) (.seq (ce 14 (Kp 14338) [1] 0) (.seq (.block 1 (sr [wn 15 [we .i 11 13,wL],
 qn [qa 4 16]] (Kp 14354) (sw 17 [wm 4,wc Af rfl [17,qj 1,qj 60],wX] (Kp 538626) (cn 19 (Kp 14338) (sq [qB 2 false] [2] .ret))))) (q1 [qi 20 .add 13 1,qm 13 20] (Kp 14338))))))) (.join [cv 2 .b] (qr [wn 21 [wo 1 1,wL,wc Af rfl [22,qj 1,qj 5],wM],
 wt 24 25 [wo 2 1,wL,wc Af rfl [26,qj 1,qj 10]],
 wn 28 [wQ 24,wM],
 wt 29 30 [wo 3 1,wL,wc Af rfl [31,qj 1,qj 6]],
 wn 33 [wQ 29,wM],
 wt 34 35 [wo 4 1,wL,wc Af rfl [36,qj 1,qj 12]],
 wn 38 [wQ 34,wM],
 wt 39 40 [wo 5 1,wL,wc Af rfl [41,qj 1,qj 8]],
 wn 43 [wQ 39,wM],
 wt 44 45 [wo 7 1,wL,wc Af rfl [46,qj 1,qj 4]],
 wn 48 [wQ 44,wM],
 wt 49 50 [wo 8 1,wL,wc Af rfl [51,qj 1,qj 3]],
 wn 53 [wQ 49,wM],
 wt 54 55 [wo 6 1,wL,wc Af rfl [56,qj 0,qj 8]],
 qn [qq 58 54 57,qa 2 58]] [2]) .ret)))⟩
noncomputable def GK(v14:Bool):Option Bool:=
 some v14
noncomputable def lg(p0:AO)(_:PUnit):Option Bool:=
 bd (Ce p0.BG 1 5) fun x6=>
 br x6
  (bd (Ce p0.Room 1 10) fun x7=>
  br x7
   (bd (Ce p0.As 1 6) fun x8=>
   br x8
    (bd (Ce p0.A2 1 12) fun x9=>
    br x9
     (bd (Ce p0.Ax 1 8) fun x10=>
     br x10
      (bd (Ce p0.BA 1 4) fun x11=>
      br x11
       (bd (Ce p0.Bd 1 3) fun x12=>
       br x12
        (bd (Ce p0.Rest 0 8) fun x13=>
        jn (GK) x13)
        (jn (GK) false))
       (jn (GK) false))
      (jn (GK) false))
     (jn (GK) false))
    (jn (GK) false))
   (jn (GK) false))
  (jn (GK) false)
noncomputable def ZK(p0:AO)(L2:Int->Option Bool)(v3:Int):Option Bool:=
 br (decide (v3<(↑p0.AM.length:Int)))
  (bd (at? p0.AM v3) fun x4=>
  bd (Ce x4 1 60) fun x5=>
  br (!x5)
   (some false)
   (L2 (w64 (v3+1))))
  (jn (lg p0) ())
noncomputable def cV(p0:AO):Option Bool:=
 bd (Ce (↑p0.AM.length:Int) 1 4) fun x1=>
 br (!x1)
  (some false)
  (AT (ZK p0) big 0)
noncomputable def Dg:GF:=ABF.gf rfl rfl (fun a=>cV a.1) (fun a=>by kernel_rfl)
noncomputable def ABG:YF:=⟨[],[.v .i,.v .i],[],.ret [.b],[.tmp 4],
 sq [qB 4 false] [0,1] (sr [wn 5 [wm 0,wm 1,wI .sub 1,wc Af rfl [5,qj 0,7]],
 qn [qa 4 8]] [4] .ret)⟩
noncomputable def ZL(p0:Int)(p1:Int):Option Bool:=
 bd (Ce p0 0 (w64 (p1-1))) fun x1=>
 some x1
noncomputable def DB:GF:=ABG.gf rfl rfl (fun a=>ZL a.1 a.2.1) (fun a=>by kernel_rfl)
noncomputable def ABH:YF:=⟨[],[.v (.st 1),.v (.st 2),.v .i],[],.ret [.b],[.tmp 6],
 sq [qu 3 0,qu 4 1,qB 6 false] (Kp 28) (.seq (.join [cv 46 .b] (qr [wn 7 [wk 9 3,wY Dg rfl,wX,wM],
 wf 10 11 [wm 2,wc Af rfl [11,qj 0,qj 1000000],wX],
 wn 14 [wR 10,wM],
 wf 15 16 [wo 0 4,wL,wc Af rfl [17,qj 1,qj 999],wX],
 wn 20 [wR 15,wM],
 wf 21 22 [wo 1 4,wL,wo 0 3,wL,wZ,wc DB rfl [23,26],wX],
 wn 29 [wR 21,wM],
 wf 30 31 [wo 2 4,wL,wo 0 3,wL,wZ,wI .sub 1,wc Af rfl [32,qj (-1),36],wX],
 wn 39 [wR 30,wM],
 wf 40 41 [wo 2 4,wL,wo 1 4,wL,wB .eql 42],
 qn [qp 46 40 45]] [2,3,4,46]) (cn 46 (Kp 28) (sq [qB 6 false] [6] .ret))) (.seq (.join [cv 81 .b] (qr [wn 47 [wo 3 4,wL,wo 3 3,wL,wc Af rfl [48,qj 1,50],wX,wM],
 wf 53 54 [wo 4 4,wL,wo 1 3,wL,wc DB rfl [55,57],wX],
 wn 60 [wR 53,wM],
 wf 61 62 [wo 5 4,wL,wm 2,wc Af rfl [63,qj 0,64],wX],
 wn 67 [wR 61,wM],
 wf 68 69 [wo 6 4,wL,wc Af rfl [70,qj 1,qj 1000000],wX],
 wn 73 [wR 68,wM],
 wf 74 75 [wo 9 4,wL,wo 7 3,wL,wc DB rfl [76,78],wX],
 qn [qp 81 74 80]] [2,3,4,81]) (cn 81 (Kp 28) (sq [qB 6 false] [6] .ret))) (.join [cv 6 .b] (qr [wn 82 [wo 7 4,wL,wI .eql 1,wM],
 wt 85 86 [wo 8 4,wL,wm 2,wo 6 3,wL,wB .add 88,wc Af rfl [87,qj 0,91]],
 wn 93 [wQ 85,wM],
 wf 94 95 [wo 7 4,wL,wI .eql 2,wM],
 wt 98 99 [wo 8 4,wL,wm 2,wo 5 3,wL,wB .add 101,wc Af rfl [100,qj 1,104]],
 qf 94 [qq 106 98 105],
 qn [qp 107 94 106,qa 6 107]] [6]) .ret)))⟩
noncomputable def MV(v6:Bool):Option Bool:=
 some v6
noncomputable def Jc(p0:AO)(p1:AI)(p2:Int)(v4:Bool):Option Bool:=
 br v4
  (some false)
  (br (p1.State==1)
   (bd (Ce p1.BW 0 (w64 (p2+p0.Rest))) fun x5=>
   br x5
    (jn (MV) true)
    (br (p1.State==2)
     (bd (Ce p1.BW 1 (w64 (p2+p0.Ax))) fun x7=>
     jn (MV) x7)
     (jn (MV) false)))
   (br (p1.State==2)
    (bd (Ce p1.BW 1 (w64 (p2+p0.Ax))) fun x8=>
    jn (MV) x8)
    (jn (MV) false)))
noncomputable def Hs(p0:AO)(p1:AI)(p2:Int)(v2:Bool):Option Bool:=
 br v2
  (some false)
  (bd (Ce p1.As 1 p0.As) fun x3=>
  br (!x3)
   (jn (Jc p0 p1 p2) true)
   (bd (ZL p1.CX p0.BG) fun x9=>
   br (!x9)
    (jn (Jc p0 p1 p2) true)
    (bd (Ce p1.Since 0 p2) fun x10=>
    br (!x10)
     (jn (Jc p0 p1 p2) true)
     (bd (Ce p1.Ah 1 1000000) fun x11=>
     br (!x11)
      (jn (Jc p0 p1 p2) true)
      (bd (ZL p1.CA p0.BA) fun x12=>
      jn (Jc p0 p1 p2) (!x12))))))
noncomputable def oT(p0:AO)(p1:AI)(p2:Int):Option Bool:=
 bd (cV p0) fun x1=>
 br (!x1)
  (jn (Hs p0 p1 p2) true)
  (bd (Ce p2 0 1000000) fun x13=>
  br (!x13)
   (jn (Hs p0 p1 p2) true)
   (bd (Ce p1.Id 1 999) fun x14=>
   br (!x14)
    (jn (Hs p0 p1 p2) true)
    (bd (ZL p1.A4 (↑p0.AM.length:Int)) fun x15=>
    br (!x15)
     (jn (Hs p0 p1 p2) true)
     (bd (Ce p1.CB (-1) (w64 ((↑p0.AM.length:Int)-1))) fun x16=>
     br (!x16)
      (jn (Hs p0 p1 p2) true)
      (jn (Hs p0 p1 p2) (p1.CB==p1.A4))))))
noncomputable def Gx:GF:=ABH.gf rfl rfl (fun a=>oT a.1 a.2.1 a.2.2.1) (fun a=>by kernel_rfl)
noncomputable def ABI:YF:=⟨[],[.v (.l (.st 2)),.v .i],[],.ret [.i],[.tmp 4],
 sq [qK 4 0] [0,1] (sq [qK 5 0] (Kp 35) (.join [cv 5 .i] (sw 8 [wm 0,wZ,wj 0] (Kp 1826) (bl 0 [cv 5 .i,cv 10 .i] (sq [qb 11 .lss 10 9] (Kp 3874) (.seq (ce 11 (Kp 1826) [5] 0) (.join [cv 5 .i] (.block 1 (sr [wn 12 [we (.st 2) 8 10,wK 10],
 qn [.alloc 7 BM,qw 10 7 13]] (Kp 1954) (sw 14 [wo 1 7,wL,wm 1,wB .eql 15] (Kp 132898) (.cond 17 [1,5,8,9,10] (Kp 1826) (qr [wn 18 [wm 5,wI .add 1],
 qn [qa 5 19]] (Kp 1826)) .skip)))) (q1 [qi 20 .add 10 1,qm 10 20] (Kp 1826))))))) (sq [qm 21 5,qa 4 21] [4] .ret)))⟩
noncomputable def ZM(L1:(Int×Int)->Option Int)(v3:Int)(v5:Int):Option Int:=
 L1 ((v5,w64 (v3+1)))
noncomputable def lh(v6:Int):Option Int:=
 some v6
noncomputable def ZN(p0:(List AI))(p1:Int)(L1:(Int×Int)->Option Int)(x_:(Int×Int)):Option Int:=
 match x_ with
 |(v2,v3)=>br (decide (v3<(↑p0.length:Int)))
  (bd (at? p0 v3) fun x4=>
  br (x4.A4==p1)
   (jn (ZM L1 v3) (w64 (v2+1)))
   (jn (ZM L1 v3) v2))
  (jn (lh) v2)
noncomputable def uW(p0:(List AI))(p1:Int):Option Int:=
 AT (ZN p0 p1) big (0,0)
noncomputable def Uq:GF:=ABI.gf rfl rfl (fun a=>uW a.1 a.2.1) (fun a=>by kernel_rfl)
noncomputable def y8:YF:=⟨[],[.v (.st 3)],[],.ret [.b],[.tmp 2],
 sq [qu 1 0,qB 2 false] [1] (.join [cv 2 .b] (qr [wn 3 [wo 0 1,wL,wc Af rfl [4,qj 1,qj 60],wM],
 wt 6 7 [wo 1 1,wL,wo 0 1,wL,wc Af rfl [8,qj 0,10]],
 wn 12 [wQ 6,wM],
 wt 13 14 [wo 2 1,wL,wo 0 1,wL,wc Af rfl [15,qj 0,17]],
 wn 19 [wQ 13,wM],
 wt 20 21 [wo 3 1,wL,wo 0 1,wL,wc Af rfl [22,qj 0,24]],
 wn 26 [wQ 20,wM],
 wt 27 28 [wo 1 1,wL,wo 2 1,wL,wB .add 29,wo 3 1,wL,wB .add 32,wo 0 1,wL,wB .eql 35],
 wn 39 [wQ 27,wM],
 wt 40 41 [wo 4 1,wL,wo 3 1,wL,wc Af rfl [42,qj 0,44]],
 qn [qq 46 40 45,qa 2 46]] [2]) .ret)⟩
noncomputable def Gt(v6:Bool):Option Bool:=
 some v6
noncomputable def lr(p0:BH):Option Bool:=
 bd (Ce p0.Total 1 60) fun x1=>
 br x1
  (bd (Ce p0.Co 0 p0.Total) fun x2=>
  br x2
   (bd (Ce p0.Eb 0 p0.Total) fun x3=>
   br x3
    (bd (Ce p0.JR 0 p0.Total) fun x4=>
    br x4
     (br (w64 (w64 (p0.Co+p0.Eb)+p0.JR)==p0.Total)
      (bd (Ce p0.M3 0 p0.JR) fun x5=>
      jn (Gt) x5)
      (jn (Gt) false))
     (jn (Gt) false))
    (jn (Gt) false))
   (jn (Gt) false))
  (jn (Gt) false)
noncomputable def Nj:GF:=y8.gf rfl rfl (fun a=>lr a.1) (fun a=>by kernel_rfl)
noncomputable def y9:YF:=⟨[],[.v .i],[],.ret [.b],[.tmp 2],
 sq [qB 2 false] [0] (sr [wn 3 [wm 0,wm 0,wB .neq 3],
 qn [qa 2 5]] [2] .ret)⟩
noncomputable def lu(p0:Int):Option Bool:=
 some (p0 != p0)
noncomputable def G0:GF:=y9.gf rfl rfl (fun a=>lu a.1) (fun a=>by kernel_rfl)
noncomputable def zA:YF:=⟨[],[.v .i,.v .i],[],.ret [.i],[.tmp 4],
 sq [qK 4 0] [0,1] (sr [wn 7 [wm 0,wY G0 rfl],
 qn [qa 5 8]] (Kp 35) (sr [wn 9 [wm 1,wY G0 rfl],
 qn [qa 6 10]] (Kp 99) (.seq (sq [qm 11 5] (Kp 2115) (.cond 11 [6] (Kp 67) (.seq (sq [qm 12 6] [12] (cn 12 [] (sq [qK 4 0] [4] .ret))) (sq [qK 4 (-1)] [4] .ret)) .skip)) (.seq (sq [qm 13 6] (Kp 8195) (cn 13 [0,1] (sq [qK 4 1] [4] .ret))) (.seq (sw 14 [wm 0,wm 1,wB .lss 14] [0,1,16] (cn 16 [0,1] (sq [qK 4 (-1)] [4] .ret))) (.seq (sw 17 [wm 0,wm 1,wB .gtr 17] [19] (cn 19 [] (sq [qK 4 1] [4] .ret))) (sq [qK 4 0] [4] .ret)))))))⟩
noncomputable def TG(p0:Int)(p1:Int):Option Int:=
 bd (lu p0) fun x1=>
 bd (lu p1) fun x2=>
 br x1
  (br x2
   (some 0)
   (some (-1)))
  (br x2
   (some 1)
   (br (decide (p0<p1))
    (some (-1))
    (br (decide (p0>p1))
     (some 1)
     (some 0))))
noncomputable def DI:GF:=zA.gf rfl rfl (fun a=>TG a.1 a.2.1) (fun a=>by kernel_rfl)
noncomputable def zB:YF:=⟨[],[.v (.st 4),.v (.st 4)],[],.ret [.i],[.tmp 4],
 sq [qu 2 0,qu 3 1,qK 4 0] [2,3] (.seq (sr [wn 6 [wo 0 2,wL,wo 0 3,wL,wc DI rfl [7,9]],
 qn [qa 5 10]] (Kp 44) (sw 11 [wm 5,wI .neq 0] (Kp 4140) (.cond 12 [5] [2,3] (sq [qm 13 5,qa 4 13] [4] .ret) .skip))) (sr [wn 14 [wo 1 2,wL,wo 1 3,wL,wc DI rfl [15,17]],
 qn [qa 4 18]] [4] .ret))⟩
noncomputable def Rc(p0:AD)(p1:AD):Option Int:=
 bd (TG p0.Level p1.Level) fun x1=>
 br (x1 != 0)
  (some x1)
  (bd (TG p0.Ah p1.Ah) fun x2=>
  some x2)
noncomputable def CZ:GF:=zB.gf rfl rfl (fun a=>Rc a.1 a.2.1) (fun a=>by kernel_rfl)
noncomputable def zC:YF:=⟨[],[.v (.st 4),.v (.st 4)],[],.ret [.b],[.tmp 4],
 sq [qu 2 0,qu 3 1,qB 4 false] [2,3] (sr [wn 5 [wk 4 2,wk 4 3,wc CZ rfl [5,6],wI .lss 0],
 qn [qa 4 8]] [4] .ret)⟩
noncomputable def lz(p0:AD)(p1:AD):Option Bool:=
 bd (Rc p0 p1) fun x1=>
 some (decide (x1<0))
noncomputable def Nk:GF:=zC.gf rfl rfl (fun a=>lz a.1 a.2.1) (fun a=>by kernel_rfl)
noncomputable def zD:YF:=⟨[],[.v (.st 4),.p .i],[],.ret [.b],[.tmp 3],
 sq [qu 2 0,qB 3 false] [1,2] (sr [wn 4 [wo 2 2,wL,wl 1,wB .eql 5],
 qn [qa 3 7]] [3] .ret)⟩
noncomputable def qU(p0:AD)(p1:Int):Option Bool:=
 some (p0.Id==p1)
noncomputable def Jk:GF:=zD.gf rfl rfl (fun a=>qU a.1 a.2.1) (fun a=>by kernel_rfl)
noncomputable def zE:YF:=⟨[Jk],[.v (.l (.st 4)),.f Jk.x [(true,.i)]],[0],.ret [.i],[.tmp 4],
 sq [qK 4 0] [0,1] (.join [] (sw 6 [wm 0,wZ,wj 0] (Kp 387) (bl 0 [cv 8 .i] (sq [qb 9 .lss 8 7] (Kp 899) (.seq (ce 9 (Kp 387) [] 0) (.seq (.block 1 (sq [qm 10 8,qa 5 10] (Kp 419) (sw 11 [wm 1,wm 0,wm 5,wE (.st 4) 12,wK 4,wh (.CJ · (.tmp 11) [.v,.p] [.tmp 15])] (Kp 65955) (.cond 16 [5] (Kp 387) (sq [qm 17 5,qa 4 17] [4] .ret) .skip)))) (q1 [qi 18 .add 8 1,qm 8 18] (Kp 387))))))) (sq [qK 4 (-1)] [4] .ret))⟩
noncomputable def dC(_:PUnit):Option Int:=
 some (-1)
noncomputable def TH(p0:(List AD))(c1_0:Int)(L1:Int->Option Int)(v2:Int):Option Int:=
 br (decide (v2<(↑p0.length:Int)))
  (bd (at? p0 v2) fun x3=>
  bd (qU x3 c1_0) fun x4=>
  br x4
   (some v2)
   (L1 (w64 (v2+1))))
  (jn (dC) ())
noncomputable def qV(p0:(List AD))(c1_0:Int):Option Int:=
 AT (TH p0 c1_0) big 0
noncomputable def Nl:GF:=zE.gf rfl rfl (fun a=>qV a.1 a.2.1.1) (fun a=>by kernel_rfl)
noncomputable def zF:YF:=⟨[Jk],[.v (.l (.st 4)),.v .i],[],.ret [.i],[.tmp 4],
 sq [qu 3 1,qK 4 0] [0,3] (sr [wn 5 [wm 0,wh (.OL · 0 [.tmp 3]),wh (.call · Nl [0] rfl [.tmp 5,.tmp 6])],
 qn [qa 4 7]] [4] .ret)⟩
noncomputable def dD(p0:(List AD))(p1:Int):Option Int:=
 bd (qV p0 p1) fun x1=>
 some x1
noncomputable def Nm:GF:=zF.gf rfl rfl (fun a=>dD a.1 a.2.1) (fun a=>by kernel_rfl)
end Lv
set_option maxRecDepth 100000
namespace Lv
open Go (IntKind BinOp UnOp)
open Y (YF qn qf qt qr q1 qd qm qa qo ql qL qb qi qx qp qq qc qz qe qk qK qB qw qu qj Kp wn wf wt w1 sw sq sr wm wM wo wO wl wL wk wK wz wZ wx wX wb wB wi wI wr wR wq wQ we wE wc wY wj wh cv ca cx cn ce bl)
noncomputable def zG:YF:=⟨[],[.v (.l (.st 4))],[],.ret [.b],[.tmp 2],
 sq [qB 2 false] [0] (.seq (sw 5 [wm 0,wZ,wI .gtr 10] [0,7] (cn 7 [0] (sq [qB 2 false] [2] .ret))) (.join [] (sw 8 [wm 0,wZ,wj 0] (Kp 1793) (bl 0 [cv 10 .i] (sq [qb 11 .lss 10 9] (Kp 3841) (.seq (ce 11 (Kp 1793) [] 0) (.seq (.block 1 (sr [wn 12 [wm 10,we (.st 4) 8 10,wK 4],
 qn [.alloc 4 C7,qa 3 12,qw 4 4 14]] (Kp 1817) (.seq (.join [cv 35 .b] (.A8 (qd 0 [wn 15 [wm 3,wI .gtr 0,wM],
 wt 17 18 [wm 0,wm 3,wI .sub 1,wE (.st 4) 18,wK 4,wk 4 4,wc Nk rfl [22,23],wX],
 wn 26 [wQ 17,wM],
 wf 27 28 [wm 0,wm 3,wh (.sub · (.st 4) (.tmp 28) none (some (.tmp 29))),wo 2 4,wL,wc Nm rfl [30,32],wI .geq 0],
 qn [qp 35 27 34]] .nil) [0,4,8,9,10,35]) (cn 35 (Kp 1809) (sq [qB 2 false] [2] .ret))) (.join [cv 57 .b] (qr [wn 36 [wo 0 4,wL,wc DB rfl [37,qj 5],wX,wM],
 wf 40 41 [wo 1 4,wL,wc Af rfl [42,qj 1,qj 1000000],wX],
 wn 45 [wR 40,wM],
 wf 46 47 [wo 2 4,wL,wc Af rfl [48,qj 1,qj 999],wX],
 wn 51 [wR 46,wM],
 wf 52 53 [wo 3 4,wL,wc Af rfl [54,qj 1,qj 6],wX],
 qn [qp 57 52 56]] [0,8,9,10,57]) (cn 57 (Kp 1793) (sq [qB 2 false] [2] .ret)))))) (q1 [qi 58 .add 10 1,qm 10 58] (Kp 1793))))))) (sq [qB 2 true] [2] .ret)))⟩
noncomputable def Il(L1:Int->Option Bool)(v2:Int)(v8:Bool):Option Bool:=
 br v8
  (some false)
  (L1 (w64 (v2+1)))
noncomputable def Kk(L1:Int->Option Bool)(v2:Int)(x3:AD)(v6:Bool):Option Bool:=
 br v6
  (some false)
  (bd (ZL x3.Level 5) fun x7=>
  br (!x7)
   (jn (Il L1 v2) true)
   (bd (Ce x3.Ah 1 1000000) fun x9=>
   br (!x9)
    (jn (Il L1 v2) true)
    (bd (Ce x3.Id 1 999) fun x10=>
    br (!x10)
     (jn (Il L1 v2) true)
     (bd (Ce x3.As 1 6) fun x11=>
     jn (Il L1 v2) (!x11)))))
noncomputable def dE(_:PUnit):Option Bool:=
 some true
noncomputable def TI(p0:(List AD))(L1:Int->Option Bool)(v2:Int):Option Bool:=
 br (decide (v2<(↑p0.length:Int)))
  (bd (at? p0 v2) fun x3=>
  br (decide (v2>0))
   (bd (at? p0 (w64 (v2-1))) fun x4=>
   bd (lz x4 x3) fun x5=>
   br (!x5)
    (jn (Kk L1 v2 x3) true)
    (gd (0<=v2/\v2<=(↑p0.length:Int)) (
    bd (dD (List.take v2.toNat p0) x3.Id) fun x12=>
    jn (Kk L1 v2 x3) (decide (x12>=0)))))
   (gd (0<=v2/\v2<=(↑p0.length:Int)) (
   bd (dD (List.take v2.toNat p0) x3.Id) fun x13=>
   jn (Kk L1 v2 x3) (decide (x13>=0)))))
  (jn (dE) ())
noncomputable def l7(p0:(List AD)):Option Bool:=
 br (decide ((↑p0.length:Int)>10))
  (some false)
  (AT (TI p0) big 0)
noncomputable def Nn:GF:=zG.gf rfl rfl (fun a=>l7 a.1) (fun a=>by kernel_rfl)
noncomputable def zH:YF:=⟨[],[.v (.st 5)],[],.ret [.b],[.tmp 2],
 sq [qu 1 0,qB 2 false] [1] (.join [cv 2 .b] (qr [wn 3 [wo 0 1,wL,wc Af rfl [4,qj 1,qj 1000008],wM],
 wt 6 7 [wo 1 1,wL,wc Af rfl [8,qj 1,qj 999]],
 qn [qq 10 6 9,qa 2 10]] [2]) .ret)⟩
noncomputable def TJ(v3:Bool):Option Bool:=
 some v3
noncomputable def dF(p0:AN):Option Bool:=
 bd (Ce p0.At 1 1000008) fun x1=>
 br x1
  (bd (Ce p0.Id 1 999) fun x2=>
  jn (TJ) x2)
  (jn (TJ) false)
noncomputable def G1:GF:=zH.gf rfl rfl (fun a=>dF a.1) (fun a=>by kernel_rfl)
noncomputable def zI:YF:=⟨[],[.v (.st 5),.v (.st 5)],[],.ret [.i],[.tmp 4],
 sq [qu 2 0,qu 3 1,qK 4 0] [2,3] (.seq (sr [wn 6 [wo 0 2,wL,wo 0 3,wL,wc DI rfl [7,9]],
 qn [qa 5 10]] (Kp 44) (sw 11 [wm 5,wI .neq 0] (Kp 4140) (.cond 12 [5] [2,3] (sq [qm 13 5,qa 4 13] [4] .ret) .skip))) (sr [wn 14 [wo 1 2,wL,wo 1 3,wL,wc DI rfl [15,17]],
 qn [qa 4 18]] [4] .ret))⟩
noncomputable def Oy(p0:AN)(p1:AN):Option Int:=
 bd (TG p0.At p1.At) fun x1=>
 br (x1 != 0)
  (some x1)
  (bd (TG p0.Id p1.Id) fun x2=>
  some x2)
noncomputable def Bg:GF:=zI.gf rfl rfl (fun a=>Oy a.1 a.2.1) (fun a=>by kernel_rfl)
noncomputable def zJ:YF:=⟨[],[.v (.st 6)],[],.ret [.b],[.tmp 2],
 sq [qu 1 0,qB 2 false] [1] (.seq (sw 9 [wo 0 1,wL,wZ,wI .neq 9] [1,12] (cn 12 [1] (sq [qB 2 false] [2] .ret))) (sq [.mmk 13,qa 3 13] [1,3] (sq [qK 4 0] (Kp 26) (.join [cv 3 .m,cv 4 .i] (sw 14 [wo 0 1,wL,wZ,wj 0] (Kp 229400) (bl 0 [cv 3 .m,cv 4 .i,cv 17 .i] (sq [qb 18 .lss 17 16] (Kp 491544) (.seq (ce 18 (Kp 229400) [3,4] 0) (.join [cv 3 .m,cv 4 .i] (.block 1 (sr [wn 19 [wm 17,we (.l (.st 5)) 15 17,wL],
 qn [qa 5 19,qa 6 21]] (Kp 229496) (sw 22 [wm 6,wZ,wj 0] (Kp 29589624) (bl 2 [cv 3 .m,cv 4 .i,cv 24 .i] (sq [qb 25 .lss 24 23] (Kp 63144056) (.seq (ce 25 [3,4,5,6,15,16,17,22,23,24] (Kp 229400) 2) (.seq (.block 3 (sr [wn 26 [wm 24,we (.st 5) 22 24,wK 2],
 qn [.alloc 8 [.int .i64 0,.int .i64 0],qa 7 26,qw 2 8 28]] (Kp 29590008) (.seq (.join [cv 52 .b] (.A8 (qd 0 [wn 29 [wk 2 8,wY G1 rfl,wX,wM],
 wf 32 33 [wo 0 8,wL,wI .rem 9,wm 5,wB .neq 35],
 wn 38 [wR 32,wM],
 wf 39 40 [wm 7,wI .gtr 0,wM],
 wt 42 43 [wm 6,wm 7,wI .sub 1,wE (.st 5) 43,wK 2,wk 2 8,wc Bg rfl [47,48],wI .gtr 0],
 qf 39 [qq 51 42 50],
 qn [qp 52 39 51]] .nil) [3,4,5,6,8,15,16,17,22,23,24,52]) (cn 52 (Kp 29589880) (sq [qB 2 false] [2] .ret))) (sr [wn 53 [wm 3,wo 1 8,wL,wh (.M5 · (.tmp 53) (.tmp 55)),wI .add 1],
 qn [.Li (.tmp 53) (.tmp 55) (.tmp 57)]] (Kp 29589624) (qr [wn 58 [wm 4,wI .add 1],
 qn [qa 4 59]] (Kp 29589624)))))) (q1 [qi 60 .add 24 1,qm 24 60] (Kp 29589624))))))))) (q1 [qi 61 .add 17 1,qm 17 61] (Kp 229400))))))) (.join [cv 2 .b] (qr [wn 62 [wm 4,wI .leq 10,wM],
 wt 64 65 [wm 3,wh (.M6 · (.tmp 65)),wm 4,wB .eql 66],
 qn [qq 69 64 68,qa 2 69]] [2]) .ret)))))⟩
noncomputable def Kl(L6:((List (Int×Int))×Int×Int)->Option Bool)(v7:(List (Int×Int)))(v8:Int)(v9:Int)(x10:AN)(v12:Bool):Option Bool:=
 br v12
  (some false)
  (L6 ((Dy v7 x10.Id (w64 (Fz v7 x10.Id+1)),w64 (v8+1),w64 (v9+1))))
noncomputable def dG(L1:((List (Int×Int))×Int×Int)->Option Bool)(v4:Int)(x_:((List (Int×Int))×Int)):Option Bool:=
 match x_ with
 |(v15,v16)=>L1 ((v15,v16,w64 (v4+1)))
noncomputable def TM(L1:((List (Int×Int))×Int×Int)->Option Bool)(v4:Int)(x5:(List AN))(L6:((List (Int×Int))×Int×Int)->Option Bool)(x_:((List (Int×Int))×Int×Int)):Option Bool:=
 match x_ with
 |(v7,v8,v9)=>br (decide (v9<(↑(List.length x5):Int)))
  (bd (at? x5 v9) fun x10=>
  bd (dF x10) fun x11=>
  br (!x11)
   (jn (Kl L6 v7 v8 v9 x10) true)
   (br (x10.At.tmod 9 != v4)
    (jn (Kl L6 v7 v8 v9 x10) true)
    (br (decide (v9>0))
     (bd (at? x5 (w64 (v9-1))) fun x13=>
     bd (Oy x13 x10) fun x14=>
     jn (Kl L6 v7 v8 v9 x10) (decide (x14>0)))
     (jn (Kl L6 v7 v8 v9 x10) false))))
  (jn (dG L1 v4) (v7,v8))
noncomputable def TK(v19:Bool):Option Bool:=
 some v19
noncomputable def O0(x_:((List (Int×Int))×Int)):Option Bool:=
 match x_ with
 |(v17,v18)=>br (decide (v18<=10))
  (jn (TK) ((↑(List.length v17):Int)==v18))
  (jn (TK) false)
noncomputable def TL(p0:AK)(L1:((List (Int×Int))×Int×Int)->Option Bool)(x_:((List (Int×Int))×Int×Int)):Option Bool:=
 match x_ with
 |(v2,v3,v4)=>br (decide (v4<(↑p0.AJ.length:Int)))
  (bd (at? p0.AJ v4) fun x5=>
  AT (TM L1 v4 x5) big (v2,v3,0))
  (jn (O0) (v2,v3))
noncomputable def Oz(p0:AK):Option Bool:=
 br ((↑p0.AJ.length:Int) != 9)
  (some false)
  (AT (TL p0) big ([],0,0))
noncomputable def DJ:GF:=zJ.gf rfl rfl (fun a=>Oz a.1) (fun a=>by kernel_rfl)
noncomputable def zK:YF:=⟨[],[.v (.st 7)],[],.ret [.b],[.tmp 2],
 sq [qu 1 0,qB 2 false] [1] (.join [cv 2 .b] (qr [wn 3 [wo 0 1,wK 5,wY Nj rfl,wM],
 wt 6 7 [wo 5 1,wL,wY Nn rfl],
 wn 10 [wQ 6,wM],
 wt 11 12 [wo 6 1,wK 1,wY DJ rfl],
 qn [qq 15 11 14,qa 2 15]] [2]) .ret)⟩
noncomputable def O1(v4:Bool):Option Bool:=
 some v4
noncomputable def l8(p0:Am):Option Bool:=
 bd (lr p0.AM) fun x1=>
 br x1
  (bd (l7 p0.Row) fun x2=>
  br x2
   (bd (Oz p0.Gk) fun x3=>
   jn (O1) x3)
   (jn (O1) false))
  (jn (O1) false)
noncomputable def No:GF:=zK.gf rfl rfl (fun a=>l8 a.1) (fun a=>by kernel_rfl)
noncomputable def zL:YF:=⟨[],[.v (.st 1),.v .i,.v .i],[],.ret [.i],[.tmp 6],
 sq [qu 3 0,qK 6 0] (Kp 14) (.seq (.join [cv 20 .b] (qr [wn 7 [wk 9 3,wY Dg rfl,wX,wM],
 wf 10 11 [wm 1,wo 1 3,wL,wc DB rfl [11,13],wX],
 wn 16 [wR 10,wM],
 wf 17 18 [wm 2,wI .lss 0],
 qn [qp 20 17 19]] (Kp 1048590)) (cn 20 (Kp 14) (sq [qK 6 (-1)] [6] .ret))) (sr [wn 21 [wm 1,wm 2,wo 4 3,wL,wB .quo 22,wB .sub 21,wh (.mm · true (.k (.int .i64 0)) (.tmp 26))],
 qn [qa 6 27]] [6] .ret))⟩
noncomputable def O2(p0:AO)(p1:Int)(p2:Int)(v2:Bool):Option Int:=
 br v2
  (some (-1))
  (gd (p0.A2≠0) (
  some (if true=true then if w64 (p1-w64 (p2.tdiv p0.A2))>0 then w64 (p1-w64 (p2.tdiv p0.A2)) else 0 else if w64 (p1-w64 (p2.tdiv p0.A2))<0 then w64 (p1-w64 (p2.tdiv p0.A2)) else 0)))
noncomputable def qW(p0:AO)(p1:Int)(p2:Int):Option Int:=
 bd (cV p0) fun x1=>
 br (!x1)
  (jn (O2 p0 p1 p2) true)
  (bd (ZL p1 p0.BG) fun x3=>
  br (!x3)
   (jn (O2 p0 p1 p2) true)
   (jn (O2 p0 p1 p2) (decide (p2<0))))
noncomputable def Np:GF:=zL.gf rfl rfl (fun a=>qW a.1 a.2.1 a.2.2.1) (fun a=>by kernel_rfl)
noncomputable def zM:YF:=⟨[],[.v (.st 1),.v (.st 2),.v .i],[],.ret [.i],[.tmp 6],
 sq [qu 3 0,qu 4 1,qK 6 0] (Kp 28) (.seq (sw 7 [wk 9 3,wk 10 4,wm 2,wc Gx rfl [7,8,9],wX] (Kp 2076) (cn 11 (Kp 28) (sq [qK 6 (-1)] [6] .ret))) (sr [wn 12 [wk 9 3,wo 4 4,wL,wm 2,wo 5 4,wL,wB .sub 15,wc Np rfl [12,14,18]],
 qn [qa 6 19]] [6] .ret))⟩
noncomputable def l9(p0:AO)(p1:AI)(p2:Int):Option Int:=
 bd (oT p0 p1 p2) fun x1=>
 br (!x1)
  (some (-1))
  (bd (qW p0 p1.CX (w64 (p2-p1.Since))) fun x2=>
  some x2)
noncomputable def Nq:GF:=zM.gf rfl rfl (fun a=>l9 a.1 a.2.1 a.2.2.1) (fun a=>by kernel_rfl)
noncomputable def zN:YF:=⟨[],[.v (.st 1),.v (.st 2),.v .i],[],.ret [(.st 4),.b],[.cell 6 (some 4),.tmp 7],
 sq [qu 3 0,qu 4 1,.alloc 6 C7,qB 7 false] (Kp 92) (.seq (.join [cv 17 .b] (qr [wn 8 [wk 9 3,wk 10 4,wm 2,wc Gx rfl [8,9,10],wX,wM],
 wf 13 14 [wo 7 4,wL,wI .neq 1],
 qn [qp 17 13 16]] (Kp 131164)) (.cond 17 [6] (Kp 92) (sq [.build 18 C7 [],qw 4 6 18,qB 7 false] [6,7] .ret) .skip)) (.seq (.A8 (qd 0 [wn 19 [wk 9 3,wk 10 4,wm 2]] (qd 4 [wn 23 [wo 6 4,wL,wo 0 4,wL,wo 3 4,wL]] (.op 3 none [23,25,27] (.call 22 Nq [] rfl [(.tmp 19),(.tmp 20),(.tmp 21)])
 (qd 10 [qn [.build 29 C7 [(0,1,(.tmp 22)),(1,1,(.tmp 24)),(2,1,(.tmp 26)),(3,1,(.tmp 28))],qw 4 6 29,qB 7 true]] .nil)))) [6,7]) .ret))⟩
noncomputable def TN(p0:AO)(p1:AI)(p2:Int)(v2:Bool):Option (AD×Bool):=
 br v2
  (some (AD.mk 0 0 0 0,false))
  (bd (l9 p0 p1 p2) fun x3=>
  some (AD.mk x3 p1.Ah p1.Id p1.As,true))
noncomputable def mA(p0:AO)(p1:AI)(p2:Int):Option (AD×Bool):=
 bd (oT p0 p1 p2) fun x1=>
 br (!x1)
  (jn (TN p0 p1 p2) true)
  (jn (TN p0 p1 p2) (p1.State != 1))
noncomputable def Nr:GF:=zN.gf rfl rfl (fun a=>mA a.1 a.2.1 a.2.2.1) (fun a=>by kernel_rfl)
noncomputable def zO:YF:=⟨[CZ],[.m (.l (.st 4)),.v .i,.v .i,.f CZ.x []],[0],.ret [],[],
 sr [wn 10 [wm 1,wI .add 1],
 qn [qa 8 11]] (Kp 271) (bl 0 [cv 0 (.l (.st 4)),cv 8 .i] (.seq (sw 12 [wm 8,wm 2,wB .lss 12] (Kp 16655) (ce 14 (Kp 271) [0] 0)) (.join [cv 0 (.l (.st 4))] (.block 1 (sq [qm 17 8,qa 9 17] (Kp 783) (bl 2 [cv 0 (.l (.st 4)),cv 9 .i] (.seq (.join [cv 34 .b] (.A8 (qd 0 [wn 18 [wm 9,wm 1,wB .gtr 18,wM],
 wt 21 22 [wm 3,wm 0,wm 9,wE (.st 4) 23,wK 4,wm 0,wm 9,wI .sub 1,wE (.st 4) 27,wK 4,wh (.CJ · (.tmp 22) [.v,.v] [.tmp 26,.tmp 31]),wI .lss 0],
 qn [qq 34 21 33]] .nil) [0,1,2,3,8,9,34]) (ce 34 [0,1,2,3,8,9] (Kp 271) 2)) (.seq (.block 3 (.A8 (qd 0 [wn 37 [wm 0,wm 9,wm 0,wm 9,wI .sub 1,wm 0,wm 9,wI .sub 1,wE (.st 4) 42,wK 4,wm 0,wm 9,wE (.st 4) 47,wK 4,we (.st 4) 37 38],
 qn [qw 4 51 46,qe 52 (.st 4) 39 41,qw 4 52 50]] .nil) [0,1,2,3,8,9])) (qr [wn 35 [wm 9,wI .sub 1],
 qn [qa 9 36]] (Kp 783))))))) (qr [wn 15 [wm 8,wI .add 1],
 qn [qa 8 16]] (Kp 271)))))⟩
noncomputable def O3(L1:((List AD)×Int)->Option (List AD))(v3:Int)(v21:(List AD)):Option (List AD):=
 L1 ((v21,w64 (v3+1)))
noncomputable def Km(L1:((List AD)×Int)->Option (List AD))(v3:Int)(L4:((List AD)×Int)->Option (List AD))(v5:(List AD))(v6:Int)(v12:Bool):Option (List AD):=
 br v12
  (bd (at? v5 (w64 (v6-1))) fun x13=>
  bd (at? v5 (w64 (v6-1))) fun x14=>
  bd (at? v5 v6) fun x15=>
  bd (at? v5 v6) fun x16=>
  bd (at? v5 v6) fun x17=>
  bd (at? v5 v6) fun x18=>
  bd (at? (List.set v5 v6.toNat x14) (w64 (v6-1))) fun x19=>
  bd (at? (List.set v5 v6.toNat x14) (w64 (v6-1))) fun x20=>
  L4 (((List.set v5 v6.toNat x14).set (w64 (v6-1)).toNat x16,w64 (v6-1))))
  (jn (O3 L1 v3) v5)
noncomputable def O5(p1:Int)(L1:((List AD)×Int)->Option (List AD))(v3:Int)(L4:((List AD)×Int)->Option (List AD))(x_:((List AD)×Int)):Option (List AD):=
 match x_ with
 |(v5,v6)=>br (decide (v6>p1))
  (bd (at? v5 v6) fun x7=>
  bd (at? v5 v6) fun x8=>
  bd (at? v5 (w64 (v6-1))) fun x9=>
  bd (at? v5 (w64 (v6-1))) fun x10=>
  bd (Rc x8 x10) fun x11=>
  jn (Km L1 v3 L4 v5 v6) (decide (x11<0)))
  (jn (Km L1 v3 L4 v5 v6) false)
noncomputable def O4(p1:Int)(p2:Int)(L1:((List AD)×Int)->Option (List AD))(x_:((List AD)×Int)):Option (List AD):=
 match x_ with
 |(v2,v3)=>br (decide (v3<p2))
  (AT (O5 p1 L1 v3) big (v2,v3))
  (some v2)
noncomputable def TO(p0:(List AD))(p1:Int)(p2:Int):Option (List AD):=
 AT (O4 p1 p2) big ((p0,w64 (p1+1)))
noncomputable def G2:GF:=zO.gf rfl rfl (fun a=>TO a.1 a.2.1 a.2.2.1) (fun a=>by kernel_rfl)
noncomputable def zP:YF:=⟨[CZ],[.m (.l (.st 4)),.v .i,.v .i,.v .i,.f CZ.x []],[0],.ret [],[],
 sq [qK 10 0] (Kp 1039) (bl 0 [cv 0 (.l (.st 4)),cv 10 .i] (.seq (sw 11 [wM,wm 3,wB .lss 11] (Kp 9231) (ce 13 (Kp 1039) [0] 0)) (.seq (.block 1 (.A8 (qd 0 [wn 16 [wm 0,wm 1,wm 10,wB .add 17,wm 0,wm 2,wm 10,wB .add 21,wm 0,wm 2,wm 10,wB .add 25,wE (.st 4) 24,wK 4,wm 0,wm 1,wm 10,wB .add 31,wE (.st 4) 30,wK 4,we (.st 4) 16 19],
 qn [qw 4 36 29,qe 37 (.st 4) 20 23,qw 4 37 35]] .nil) [0,1,2,3,10])) (qr [wn 14 [wm 10,wI .add 1],
 qn [qa 10 15]] (Kp 1039)))))⟩
noncomputable def dH(p1:Int)(p2:Int)(p3:Int)(L1:((List AD)×Int)->Option (List AD))(x_:((List AD)×Int)):Option (List AD):=
 match x_ with
 |(v2,v3)=>br (decide (v3<p3))
  (bd (at? v2 (w64 (p2+v3))) fun x4=>
  bd (at? v2 (w64 (p2+v3))) fun x5=>
  bd (at? v2 (w64 (p1+v3))) fun x6=>
  bd (at? v2 (w64 (p1+v3))) fun x7=>
  bd (at? v2 (w64 (p1+v3))) fun x8=>
  bd (at? v2 (w64 (p1+v3))) fun x9=>
  bd (at? (List.set v2 (w64 (p1+v3)).toNat x5) (w64 (p2+v3))) fun x10=>
  bd (at? (List.set v2 (w64 (p1+v3)).toNat x5) (w64 (p2+v3))) fun x11=>
  L1 (((List.set v2 (w64 (p1+v3)).toNat x5).set (w64 (p2+v3)).toNat x7,w64 (v3+1))))
  (some v2)
noncomputable def Xx(p0:(List AD))(p1:Int)(p2:Int)(p3:Int):Option (List AD):=
 AT (dH p1 p2 p3) big (p0,0)
noncomputable def EN:GF:=zP.gf rfl rfl (fun a=>Xx a.1 a.2.1 a.2.2.1 a.2.2.2.1) (fun a=>by kernel_rfl)
noncomputable def zQ:YF:=⟨[CZ],[.m (.l (.st 4)),.v .i,.v .i,.v .i,.f CZ.x []],[0],.ret [],[],
 sr [wn 12 [wm 2,wm 1,wB .sub 12],
 qn [qa 10 14]] (Kp 1053) (sr [wn 15 [wm 3,wm 2,wB .sub 15],
 qn [qa 11 17]] (Kp 3093) (.join [cv 0 (.l (.st 4)),cv 10 .i] (bl 0 [cv 0 (.l (.st 4)),cv 10 .i,cv 11 .i] (.seq (sw 18 [wm 10,wm 11,wB .neq 18] (Kp 1051669) (ce 20 [0,2,4,10,11] (Kp 1045) 0)) (.block 1 (sw 21 [wm 10,wm 11,wB .gtr 21] (Kp 8391701) (.cond 23 [0,2,4,10,11] (Kp 3093) (sw 24 [wm 0,wm 2,wm 10,wB .sub 25,wm 2,wm 11,wm 4,wh (.call · EN [0] rfl [.tmp 24,.tmp 27,.tmp 28,.tmp 29,.tmp 30])] (Kp 3093) (qr [wn 32 [wm 10,wm 11,wB .sub 32],
 qn [qa 10 34]] (Kp 3093))) (sw 35 [wm 0,wm 2,wm 10,wB .sub 36,wm 2,wm 11,wB .add 39,wm 10,wB .sub 41,wm 10,wm 4,wh (.call · EN [0] rfl [.tmp 35,.tmp 38,.tmp 43,.tmp 44,.tmp 45])] (Kp 3093) (qr [wn 47 [wm 11,wm 10,wB .sub 47],
 qn [qa 11 49]] (Kp 3093)))))))) (w1 50 [wm 0,wm 2,wm 10,wB .sub 51,wm 2,wm 10,wm 4,wh (.call · EN [0] rfl [.tmp 50,.tmp 53,.tmp 54,.tmp 55,.tmp 56])] [0])))⟩
noncomputable def dI(p2:Int)(x_:((List AD)×Int)):Option (List AD):=
 match x_ with
 |(v7,v8)=>bd (Xx v7 (w64 (p2-v8)) p2 v8) fun x9=>
 some x9
noncomputable def dJ(p2:Int)(L1:((List AD)×Int×Int)->Option (List AD))(x_:((List AD)×Int×Int)):Option (List AD):=
 match x_ with
 |(v2,v3,v4)=>br (v3 != v4)
  (br (decide (v3>v4))
   (bd (Xx v2 (w64 (p2-v3)) p2 v4) fun x5=>
   L1 ((x5,w64 (v3-v4),v4)))
   (bd (Xx v2 (w64 (p2-v3)) (w64 (w64 (p2+v4)-v3)) v3) fun x6=>
   L1 ((x6,v3,w64 (v4-v3)))))
  (jn (dI p2) (v2,v3))
noncomputable def mB(p0:(List AD))(p1:Int)(p2:Int)(p3:Int):Option (List AD):=
 AT (dJ p2) big ((p0,w64 (p2-p1),w64 (p3-p2)))
noncomputable def Ns:GF:=zQ.gf rfl rfl (fun a=>mB a.1 a.2.1 a.2.2.1 a.2.2.2.1) (fun a=>by kernel_rfl)
abbrev DX:=bq [.m (.l (.st 4)),.v .i,.v .i,.v .i,.f CZ.x []] (.ret [])
noncomputable def Me(rE:DX)(p0:(List AD))(p1:Int)(p2:Int)(p3:Int):Option (List AD):=rE.d (p0,p1,p2,p3,(),())
noncomputable def zR(rE:DX):YF:=⟨[CZ],[.m (.l (.st 4)),.v .i,.v .i,.v .i,.f CZ.x []],[0],.ret [],[],
 .join [] (sw 25 [wm 2,wm 1,wB .sub 25,wI .eql 1] (Kp 268435487) (.cond 28 [0,1,2,3,4] (Kp 31) (sq [qm 29 2,qa 10 29] (Kp 1051) (sq [qm 30 3,qa 11 30] (Kp 3091) (.join [cv 10 .i] (bl 0 [cv 10 .i,cv 11 .i] (.seq (sw 31 [wm 10,wm 11,wB .lss 31] (Kp 8589937683) (ce 33 [0,1,4,10,11] (Kp 1027) 0)) (.block 1 (sr [wn 34 [wm 10,wm 11,wB .add 34,wh (.cvI · .u64 (.tmp 36)),wh (.bin · .num .shr (.tmp 37) (.k (.int .u64 1))),wh (.cvI · .i64 (.tmp 38))],
 qn [qa 12 39]] (Kp 7187) (.seq (.A8 (qd 0 [wn 40 [wm 4,wm 0,wm 12,wE (.st 4) 41,wK 4,wm 0,wm 1,wE (.st 4) 45,wK 4,wh (.CJ · (.tmp 40) [.v,.v] [.tmp 44,.tmp 48]),wI .lss 0]] .nil) [0,1,4,10,11,12,50]) (.cond 50 [0,1,4,11,12] (Kp 5139) (qr [wn 51 [wm 12,wI .add 1],
 qn [qa 10 52]] (Kp 3091)) (q1 [qm 53 12,qa 11 53] (Kp 3091)))))))) (.join [cv 0 (.l (.st 4))] (sq [qm 54 1,qa 13 54] (Kp 9217) (bl 2 [cv 0 (.l (.st 4)),cv 13 .i] (.seq (sw 55 [wm 13,wm 10,wI .sub 1,wB .lss 55] [0,10,13,58] (ce 58 (Kp 9217) [0] 2)) (.seq (.block 3 (.A8 (qd 0 [wn 61 [wm 0,wm 13,wm 0,wm 13,wI .add 1,wm 0,wm 13,wI .add 1,wE (.st 4) 66,wK 4,wm 0,wm 13,wE (.st 4) 71,wK 4,we (.st 4) 61 62],
 qn [qw 4 75 70,qe 76 (.st 4) 63 65,qw 4 76 74]] .nil) [0,10,13])) (qr [wn 59 [wm 13,wI .add 1],
 qn [qa 13 60]] (Kp 9217)))))) .ret)))) .skip)) (.join [] (sw 77 [wm 3,wm 2,wB .sub 77,wI .eql 1] [0,1,2,3,4,80] (.cond 80 [0,1,2,4] (Kp 31) (sq [qm 81 1,qa 14 81] (Kp 16405) (sq [qm 82 2,qa 15 82] (Kp 49173) (.join [cv 14 .i] (bl 4 [cv 14 .i,cv 15 .i] (.seq (sw 83 [wm 14,wm 15,wB .lss 83] [0,2,4,14,15,85] (ce 85 (Kp 49173) [0,2,14] 4)) (.block 5 (sr [wn 86 [wm 14,wm 15,wB .add 86,wh (.cvI · .u64 (.tmp 88)),wh (.bin · .num .shr (.tmp 89) (.k (.int .u64 1))),wh (.cvI · .i64 (.tmp 90))],
 qn [qa 16 91]] (Kp 114709) (.seq (.A8 (qd 0 [wn 92 [wm 4,wm 0,wm 2,wE (.st 4) 93,wK 4,wm 0,wm 16,wE (.st 4) 97,wK 4,wh (.CJ · (.tmp 92) [.v,.v] [.tmp 96,.tmp 100]),wI .lss 0,wX]] .nil) [0,2,4,14,15,16,103]) (.cond 103 [0,2,4,15,16] (Kp 81941) (qr [wn 104 [wm 16,wI .add 1],
 qn [qa 14 105]] (Kp 49173)) (q1 [qm 106 16,qa 15 106] (Kp 49173)))))))) (.join [cv 0 (.l (.st 4))] (sq [qm 107 2,qa 17 107] [0,14,17] (bl 6 [cv 0 (.l (.st 4)),cv 17 .i] (.seq (sw 108 [wm 17,wm 14,wB .gtr 108] [0,14,17,110] (ce 110 [0,14,17] [0] 6)) (.seq (.block 7 (.A8 (qd 0 [wn 113 [wm 0,wm 17,wm 0,wm 17,wI .sub 1,wm 0,wm 17,wI .sub 1,wE (.st 4) 118,wK 4,wm 0,wm 17,wE (.st 4) 123,wK 4,we (.st 4) 113 114],
 qn [qw 4 127 122,qe 128 (.st 4) 115 117,qw 4 128 126]] .nil) [0,14,17])) (qr [wn 111 [wm 17,wI .sub 1],
 qn [qa 17 112]] [0,14,17]))))) .ret)))) .skip)) (sr [wn 129 [wm 1,wm 3,wB .add 129,wh (.cvI · .u64 (.tmp 131)),wh (.bin · .num .shr (.tmp 132) (.k (.int .u64 1))),wh (.cvI · .i64 (.tmp 133))],
 qn [qa 18 134]] (Kp 262175) (sr [wn 135 [wm 18,wm 2,wB .add 135],
 qn [qa 19 137]] (Kp 786463) (sq [qK 20 0,qK 21 0] (Kp 786463) (.join [cv 20 .i,cv 21 .i] (sw 138 [wm 2,wm 18,wB .gtr 138] [0,1,2,3,4,18,19,140] (.cond 140 [0,1,2,3,4,18,19] (Kp 786463) (sr [wn 141 [wm 19,wm 3,wB .sub 141],
 qn [qa 20 143]] (Kp 1835039) (q1 [qm 144 18,qa 21 144] (Kp 3932191))) (sq [qm 145 1,qa 20 145] (Kp 1835039) (q1 [qm 146 2,qa 21 146] (Kp 3932191))))) (sr [wn 147 [wm 19,wI .sub 1],
 qn [qa 22 148]] (Kp 8126495) (.join [cv 20 .i] (bl 8 [cv 20 .i,cv 21 .i] (.seq (sw 149 [wm 20,wm 21,wB .lss 149] [0,1,2,3,4,18,19,20,21,22,151] (ce 151 [0,1,2,3,4,18,19,20,21,22] (Kp 1835039) 8)) (.block 9 (sr [wn 152 [wm 20,wm 21,wB .add 152,wh (.cvI · .u64 (.tmp 154)),wh (.bin · .num .shr (.tmp 155) (.k (.int .u64 1))),wh (.cvI · .i64 (.tmp 156))],
 qn [qa 23 157]] (Kp 16515103) (.seq (.A8 (qd 0 [wn 158 [wm 4,wm 0,wm 22,wm 23,wB .sub 160,wE (.st 4) 159,wK 4,wm 0,wm 23,wE (.st 4) 165,wK 4,wh (.CJ · (.tmp 158) [.v,.v] [.tmp 164,.tmp 168]),wI .lss 0,wX]] .nil) [0,1,2,3,4,18,19,20,21,22,23,171]) (.cond 171 [0,1,2,3,4,18,19,21,22,23] (Kp 14417951) (qr [wn 172 [wm 23,wI .add 1],
 qn [qa 20 173]] (Kp 8126495)) (q1 [qm 174 23,qa 21 174] (Kp 8126495)))))))) (sr [wn 175 [wm 19,wm 20,wB .sub 175],
 qn [qa 24 177]] (Kp 18087967) (.join [cv 0 (.l (.st 4))] (.join [cv 185 .b] (qr [wn 178 [wm 20,wm 2,wB .lss 178,wM],
 wt 181 182 [wm 2,wm 24,wB .lss 182],
 qn [qq 185 181 184]] [0,1,2,3,4,18,20,24,185]) (.cond 185 [0,1,2,3,4,18,20,24] (Kp 18087963) (w1 186 [wm 0,wm 20,wm 2,wm 24,wm 4,wh (.call · Ns [0] rfl [.tmp 186,.tmp 187,.tmp 188,.tmp 189,.tmp 190])] (Kp 18087963)) .skip)) (.join [cv 0 (.l (.st 4))] (.join [cv 199 .b] (qr [wn 192 [wm 1,wm 20,wB .lss 192,wM],
 wt 195 196 [wm 20,wm 18,wB .lss 196],
 qn [qq 199 195 198]] [0,1,3,4,18,20,24,199]) (.cond 199 [0,1,3,4,18,20,24] (Kp 17039385) (w1 200 [wm 0,wm 1,wm 20,wm 18,wm 4,wh (.call · rE.gf [0] rfl [.tmp 200,.tmp 201,.tmp 202,.tmp 203,.tmp 204])] (Kp 17039385)) .skip)) (.join [cv 213 .b] (qr [wn 206 [wm 18,wm 24,wB .lss 206,wM],
 wt 209 210 [wm 24,wm 3,wB .lss 210],
 qn [qq 213 209 212]] [0,3,4,18,24,213]) (.cond 213 (Kp 17039385) [0] (w1 214 [wm 0,wm 18,wm 24,wm 3,wm 4,wh (.call · rE.gf [0] rfl [.tmp 214,.tmp 215,.tmp 216,.tmp 217,.tmp 218])] [0]) .skip))))))))))))⟩
noncomputable def O6(v21:(List AD)):Option (List AD):=
 some v21
noncomputable def dP(v9:Int)(L10:((List AD)×Int)->Option (List AD))(x_:((List AD)×Int)):Option (List AD):=
 match x_ with
 |(v11,v12)=>br (decide (v12<w64 (v9-1)))
  (bd (at? v11 (w64 (v12+1))) fun x13=>
  bd (at? v11 (w64 (v12+1))) fun x14=>
  bd (at? v11 v12) fun x15=>
  bd (at? v11 v12) fun x16=>
  bd (at? v11 v12) fun x17=>
  bd (at? v11 v12) fun x18=>
  bd (at? (List.set v11 v12.toNat x14) (w64 (v12+1))) fun x19=>
  bd (at? (List.set v11 v12.toNat x14) (w64 (v12+1))) fun x20=>
  L10 (((List.set v11 v12.toNat x14).set (w64 (v12+1)).toNat x16,w64 (v12+1))))
  (jn (O6) v11)
noncomputable def dK(p0:(List AD))(p1:Int)(v9:Int):Option (List AD):=
 AT (dP v9) big (p0,p1)
noncomputable def dO(p0:(List AD))(p1:Int)(L1:(Int×Int)->Option (List AD))(x_:(Int×Int)):Option (List AD):=
 match x_ with
 |(v2,v3)=>br (decide (v2<v3))
  (bd (at? p0 (w64 (BE (Go.IntKind.u64.wrap (w64 (v2+v3))) 1))) fun x4=>
  bd (at? p0 (w64 (BE (Go.IntKind.u64.wrap (w64 (v2+v3))) 1))) fun x5=>
  bd (at? p0 p1) fun x6=>
  bd (at? p0 p1) fun x7=>
  bd (Rc x5 x7) fun x8=>
  br (decide (x8<0))
   (L1 ((w64 (w64 (BE (Go.IntKind.u64.wrap (w64 (v2+v3))) 1)+1),v3)))
   (L1 ((v2,w64 (BE (Go.IntKind.u64.wrap (w64 (v2+v3))) 1)))))
  (jn (dK p0 p1) v2)
noncomputable def dR(v30:Int)(L31:((List AD)×Int)->Option (List AD))(x_:((List AD)×Int)):Option (List AD):=
 match x_ with
 |(v32,v33)=>br (decide (v33>v30))
  (bd (at? v32 (w64 (v33-1))) fun x34=>
  bd (at? v32 (w64 (v33-1))) fun x35=>
  bd (at? v32 v33) fun x36=>
  bd (at? v32 v33) fun x37=>
  bd (at? v32 v33) fun x38=>
  bd (at? v32 v33) fun x39=>
  bd (at? (List.set v32 v33.toNat x35) (w64 (v33-1))) fun x40=>
  bd (at? (List.set v32 v33.toNat x35) (w64 (v33-1))) fun x41=>
  L31 (((List.set v32 v33.toNat x35).set (w64 (v33-1)).toNat x37,w64 (v33-1))))
  (jn (O6) v32)
noncomputable def dM(p0:(List AD))(p2:Int)(v30:Int):Option (List AD):=
 AT (dR v30) big (p0,p2)
noncomputable def dQ(p0:(List AD))(p2:Int)(L22:(Int×Int)->Option (List AD))(x_:(Int×Int)):Option (List AD):=
 match x_ with
 |(v23,v24)=>br (decide (v23<v24))
  (bd (at? p0 p2) fun x25=>
  bd (at? p0 p2) fun x26=>
  bd (at? p0 (w64 (BE (Go.IntKind.u64.wrap (w64 (v23+v24))) 1))) fun x27=>
  bd (at? p0 (w64 (BE (Go.IntKind.u64.wrap (w64 (v23+v24))) 1))) fun x28=>
  bd (Rc x26 x28) fun x29=>
  br (!decide (x29<0))
   (L22 ((w64 (w64 (BE (Go.IntKind.u64.wrap (w64 (v23+v24))) 1)+1),v24)))
   (L22 ((v23,w64 (BE (Go.IntKind.u64.wrap (w64 (v23+v24))) 1)))))
  (jn (dM p0 p2) v23)
noncomputable def Ql(rE:DX)(p1:Int)(p2:Int)(p3:Int)(v52:Int)(v58:(List AD))(v59:Bool):Option (List AD):=
 br v59
  (bd (Me rE v58 (w64 (BE (Go.IntKind.u64.wrap (w64 (p1+p3))) 1)) (w64 (w64 (w64 (BE (Go.IntKind.u64.wrap (w64 (p1+p3))) 1)+p2)-v52)) p3) fun x60=>
  some x60)
  (some v58)
noncomputable def Mc(rE:DX)(p1:Int)(p2:Int)(p3:Int)(v52:Int)(v58:(List AD)):Option (List AD):=
 br (decide (w64 (BE (Go.IntKind.u64.wrap (w64 (p1+p3))) 1)<w64 (w64 (w64 (BE (Go.IntKind.u64.wrap (w64 (p1+p3))) 1)+p2)-v52)))
  (jn (Ql rE p1 p2 p3 v52 v58) (decide (w64 (w64 (w64 (BE (Go.IntKind.u64.wrap (w64 (p1+p3))) 1)+p2)-v52)<p3)))
  (jn (Ql rE p1 p2 p3 v52 v58) false)
noncomputable def Qk(rE:DX)(p1:Int)(p2:Int)(p3:Int)(v52:Int)(v55:(List AD))(v56:Bool):Option (List AD):=
 br v56
  (bd (Me rE v55 p1 v52 (w64 (BE (Go.IntKind.u64.wrap (w64 (p1+p3))) 1))) fun x57=>
  jn (Mc rE p1 p2 p3 v52) x57)
  (jn (Mc rE p1 p2 p3 v52) v55)
noncomputable def Mb(rE:DX)(p1:Int)(p2:Int)(p3:Int)(v52:Int)(v55:(List AD)):Option (List AD):=
 br (decide (p1<v52))
  (jn (Qk rE p1 p2 p3 v52 v55) (decide (v52<w64 (BE (Go.IntKind.u64.wrap (w64 (p1+p3))) 1))))
  (jn (Qk rE p1 p2 p3 v52 v55) false)
noncomputable def Qj(rE:DX)(p0:(List AD))(p1:Int)(p2:Int)(p3:Int)(v52:Int)(v53:Bool):Option (List AD):=
 br v53
  (bd (mB p0 v52 p2 (w64 (w64 (w64 (BE (Go.IntKind.u64.wrap (w64 (p1+p3))) 1)+p2)-v52))) fun x54=>
  jn (Mb rE p1 p2 p3 v52) x54)
  (jn (Mb rE p1 p2 p3 v52) p0)
noncomputable def Qi(rE:DX)(p0:(List AD))(p1:Int)(p2:Int)(p3:Int)(v52:Int):Option (List AD):=
 br (decide (v52<p2))
  (jn (Qj rE p0 p1 p2 p3 v52) (decide (p2<w64 (w64 (w64 (BE (Go.IntKind.u64.wrap (w64 (p1+p3))) 1)+p2)-v52))))
  (jn (Qj rE p0 p1 p2 p3 v52) false)
noncomputable def Xy(rE:DX)(p0:(List AD))(p1:Int)(p2:Int)(p3:Int)(L44:(Int×Int)->Option (List AD))(x_:(Int×Int)):Option (List AD):=
 match x_ with
 |(v45,v46)=>br (decide (v45<v46))
  (bd (at? p0 (w64 (w64 (w64 (w64 (BE (Go.IntKind.u64.wrap (w64 (p1+p3))) 1)+p2)-1)-w64 (BE (Go.IntKind.u64.wrap (w64 (v45+v46))) 1)))) fun x47=>
  bd (at? p0 (w64 (w64 (w64 (w64 (BE (Go.IntKind.u64.wrap (w64 (p1+p3))) 1)+p2)-1)-w64 (BE (Go.IntKind.u64.wrap (w64 (v45+v46))) 1)))) fun x48=>
  bd (at? p0 (w64 (BE (Go.IntKind.u64.wrap (w64 (v45+v46))) 1))) fun x49=>
  bd (at? p0 (w64 (BE (Go.IntKind.u64.wrap (w64 (v45+v46))) 1))) fun x50=>
  bd (Rc x48 x50) fun x51=>
  br (!decide (x51<0))
   (L44 ((w64 (w64 (BE (Go.IntKind.u64.wrap (w64 (v45+v46))) 1)+1),v46)))
   (L44 ((v45,w64 (BE (Go.IntKind.u64.wrap (w64 (v45+v46))) 1)))))
  (jn (Qi rE p0 p1 p2 p3) v45)
noncomputable def Ma(rE:DX)(p0:(List AD))(p1:Int)(p2:Int)(p3:Int)(x_:(Int×Int)):Option (List AD):=
 match x_ with
 |(v42,v43)=>AT (Xy rE p0 p1 p2 p3) big (v42,v43)
noncomputable def dN(rE:DX)(p0:(List AD))(p1:Int)(p2:Int)(p3:Int)(_:PUnit):Option (List AD):=
 br (decide (p2>w64 (BE (Go.IntKind.u64.wrap (w64 (p1+p3))) 1)))
  (jn (Ma rE p0 p1 p2 p3) ((w64 (w64 (w64 (BE (Go.IntKind.u64.wrap (w64 (p1+p3))) 1)+p2)-p3),w64 (BE (Go.IntKind.u64.wrap (w64 (p1+p3))) 1))))
  (jn (Ma rE p0 p1 p2 p3) (p1,p2))
noncomputable def dL(rE:DX)(p0:(List AD))(p1:Int)(p2:Int)(p3:Int)(_:PUnit):Option (List AD):=
 br (w64 (p3-p2)==1)
  (AT (dQ p0 p2) big (p1,p2))
  (jn (dN rE p0 p1 p2 p3) ())
noncomputable def jC(rE:DX)(p0:(List AD))(p1:Int)(p2:Int)(p3:Int):Option (List AD):=
 br (w64 (p2-p1)==1)
  (AT (dO p0 p1) big (p2,p3))
  (jn (dL rE p0 p1 p2 p3) ())
noncomputable def Um(rE:DX):GF:=(zR rE).gf rfl rfl (fun a=>jC rE a.1 a.2.1 a.2.2.1 a.2.2.2.1) (fun a=>by kernel_rfl)
noncomputable def GG:Nat->DX
 |0=>.nil _ _
 |k+1=>.of (Um (GG k))
noncomputable def qX(p0:(List AD))(p1:Int)(p2:Int)(p3:Int):Option (List AD):=(GG 7).d (p0,p1,p2,p3,(),())
noncomputable def G3:GF:=(GG 7).gf
noncomputable def zS:YF:=⟨[CZ],[.m (.l (.st 4)),.v .i,.f CZ.x []],[0],.ret [],[],
 sq [qK 6 20] (Kp 71) (sq [qm 10 6,qK 7 0,qa 8 10] (Kp 455) (.join [cv 0 (.l (.st 4)),cv 7 .i] (bl 0 [cv 0 (.l (.st 4)),cv 7 .i,cv 8 .i] (.seq (sw 11 [wm 8,wm 1,wB .leq 11] (Kp 8647) (ce 13 [0,1,2,6,7,8] (Kp 199) 0)) (.block 1 (sw 14 [wm 0,wm 7,wm 8,wm 2,wh (.call · G2 [0] rfl [.tmp 14,.tmp 15,.tmp 16,.tmp 17])] (Kp 327) (sq [qm 19 8,qa 7 19] (Kp 455) (qr [wn 20 [wm 8,wm 6,wB .add 20],
 qn [qa 8 22]] (Kp 455))))))) (sw 23 [wm 0,wm 7,wm 1,wm 2,wh (.call · G2 [0] rfl [.tmp 23,.tmp 24,.tmp 25,.tmp 26])] (Kp 71) (bl 2 [cv 0 (.l (.st 4)),cv 6 .i] (.seq (sw 28 [wm 6,wm 1,wB .lss 28] (Kp 1073741895) (ce 30 (Kp 71) [0] 2)) (.block 3 (sr [wn 31 [wm 6,wh (.bin · .num .mul (.k (.int .i64 2)) (.tmp 31))],
 qn [qK 7 0,qa 8 32]] (Kp 455) (.join [cv 0 (.l (.st 4)),cv 7 .i] (bl 4 [cv 0 (.l (.st 4)),cv 7 .i,cv 8 .i] (.seq (sw 33 [wm 8,wm 1,wB .leq 33] (Kp 34359738823) (ce 35 [0,1,2,6,7,8] (Kp 199) 4)) (.block 5 (sw 36 [wm 0,wm 7,wm 7,wm 6,wB .add 38,wm 8,wm 2,wh (.call · G3 [0] rfl [.tmp 36,.tmp 37,.tmp 40,.tmp 41,.tmp 42])] (Kp 327) (sq [qm 44 8,qa 7 44] (Kp 455) (qr [wn 45 [wm 8,wm 6,wh (.bin · .num .mul (.k (.int .i64 2)) (.tmp 46)),wB .add 45],
 qn [qa 8 48]] (Kp 455))))))) (.join [cv 0 (.l (.st 4))] (sr [wn 49 [wm 7,wm 6,wB .add 49],
 qn [qa 9 51]] (Kp 711) (sw 52 [wm 9,wm 1,wB .lss 52] [0,1,2,6,7,9,54] (.cond 54 [0,1,2,6,7,9] (Kp 71) (w1 55 [wm 0,wm 7,wm 9,wm 1,wm 2,wh (.call · G3 [0] rfl [.tmp 55,.tmp 56,.tmp 57,.tmp 58,.tmp 59])] (Kp 71)) .skip))) (qr [wn 61 [wm 6,wI .mul 2],
 qn [qa 6 62]] (Kp 71)))))))))))⟩
noncomputable def O7(L9:((List AD)×Int)->Option (List AD))(v11:Int)(v20:(List AD)):Option (List AD):=
 L9 ((v20,w64 (v11*2)))
noncomputable def dS(p1:Int)(L9:((List AD)×Int)->Option (List AD))(v11:Int)(x_:((List AD)×Int)):Option (List AD):=
 match x_ with
 |(v17,v18)=>br (decide (w64 (v18+v11)<p1))
  (bd (qX v17 v18 (w64 (v18+v11)) p1) fun x19=>
  jn (O7 L9 v11) x19)
  (jn (O7 L9 v11) v17)
noncomputable def dT(p1:Int)(L9:((List AD)×Int)->Option (List AD))(v11:Int)(L12:((List AD)×Int×Int)->Option (List AD))(x_:((List AD)×Int×Int)):Option (List AD):=
 match x_ with
 |(v13,v14,v15)=>br (decide (v15<=p1))
  (bd (qX v13 v14 (w64 (v14+v11)) v15) fun x16=>
  L12 ((x16,v15,w64 (v15+w64 (2*v11)))))
  (jn (dS p1 L9 v11) (v13,v14))
noncomputable def O8(p1:Int)(L9:((List AD)×Int)->Option (List AD))(x_:((List AD)×Int)):Option (List AD):=
 match x_ with
 |(v10,v11)=>br (decide (v11<p1))
  (AT (dT p1 L9 v11) big ((v10,0,w64 (2*v11))))
  (some v10)
noncomputable def TP(p1:Int)(x_:((List AD)×Int)):Option (List AD):=
 match x_ with
 |(v6,v7)=>bd (TO v6 v7 p1) fun x8=>
 AT (O8 p1) big (x8,20)
noncomputable def Kn(p1:Int)(L1:((List AD)×Int×Int)->Option (List AD))(x_:((List AD)×Int×Int)):Option (List AD):=
 match x_ with
 |(v2,v3,v4)=>br (decide (v4<=p1))
  (bd (TO v2 v3 v4) fun x5=>
  L1 ((x5,v4,w64 (v4+20))))
  (jn (TP p1) (v2,v3))
noncomputable def mC(p0:(List AD))(p1:Int):Option (List AD):=
 AT (Kn p1) big (p0,0,20)
noncomputable def Nt:GF:=zS.gf rfl rfl (fun a=>mC a.1 a.2.1) (fun a=>by kernel_rfl)
noncomputable def zT:YF:=⟨[CZ],[.m (.l (.st 4)),.f CZ.x []],[0],.ret [],[],
 w1 4 [wm 0,wm 0,wZ,wm 1,wh (.call · Nt [0] rfl [.tmp 4,.tmp 6,.tmp 7])] [0]⟩
noncomputable def Xz(p0:(List AD)):Option (List AD):=
 bd (mC p0 (↑p0.length:Int)) fun x1=>
 some x1
noncomputable def Nu:GF:=zT.gf rfl rfl (fun a=>Xz a.1) (fun a=>by kernel_rfl)
noncomputable def zU:YF:=⟨[CZ],[.v (.st 1),.v (.l (.st 2)),.v .i,.v .i],[],.ret [(.l (.st 4))],[.tmp 8],
 sq [qu 4 0,.as 8 (.k .nil),.Av [(.tmp 8 0,(.st 4))]] (Kp 30) (sq [.as 9 (.k .nil),.Av [(.tmp 9 0,(.st 4))]] (Kp 542) (.join [cv 9 (.l (.st 4))] (sw 14 [wm 1,wZ,wj 0] (Kp 115228) (bl 0 [cv 9 (.l (.st 4)),cv 16 .i] (sq [qb 17 .lss 16 15] (Kp 246300) (.seq (ce 17 (Kp 115228) [9] 0) (.join [cv 9 (.l (.st 4))] (.block 1 (sr [wn 18 [we (.st 2) 14 16,wK 10],
 qn [.alloc 11 BM,qw 10 11 19]] (Kp 117276) (sr [wn 21 [wk 9 4,wk 10 11,wm 3,wc Nr rfl [21,22,23]],
 qn [qm 20 24],
 wn 25 [wh (.ext · (.tmp 20) 0),wh (.ext · (.tmp 20) 1)],
 qn [.alloc 12 C7,qw 4 12 25,qa 13 26]] (Kp 129564) (.join [cv 33 .b] (qr [wn 27 [wm 13,wM],
 wt 28 29 [wo 1 11,wL,wm 2,wB .eql 30],
 qn [qq 33 28 32]] (Kp 8590053916)) (.cond 33 [2,3,4,9,12,14,15,16] (Kp 115228) (qr [wn 34 [wm 9,wk 4 12,wh (.AW · 1 (.st 4) [(0,(.tmp 35))]),wh (.app · (.st 4) true (.tmp 34) (.tmp 36))],
 qn [qa 9 37]] (Kp 115228)) .skip))))) (q1 [qi 38 .add 16 1,qm 16 38] (Kp 115228))))))) (sw 39 [wm 9,wh (.call · Nu [0] rfl [.tmp 39,(.fn 0)])] [9] (sq [qm 41 9,qa 8 41] [8] .ret))))⟩
noncomputable def PB(L1:((List AD)×Int)->Option (List AD))(v3:Int)(v7:(List AD)):Option (List AD):=
 L1 ((v7,w64 (v3+1)))
noncomputable def O9(L1:((List AD)×Int)->Option (List AD))(v2:(List AD))(v3:Int)(x5:(AD×Bool))(v6:Bool):Option (List AD):=
 br v6
  (gd (List.length v2+[x5.fst].length<=lim) (
  jn (PB L1 v3) (v2++[x5.fst])))
  (jn (PB L1 v3) v2)
noncomputable def Ko(v8:(List AD)):Option (List AD):=
 bd (Xz v8) fun x9=>
 some x9
noncomputable def Kq(p0:AO)(p1:(List AI))(p2:Int)(p3:Int)(L1:((List AD)×Int)->Option (List AD))(x_:((List AD)×Int)):Option (List AD):=
 match x_ with
 |(v2,v3)=>br (decide (v3<(↑p1.length:Int)))
  (bd (at? p1 v3) fun x4=>
  bd (mA p0 x4 p3) fun x5=>
  br x5.snd
   (jn (O9 L1 v2 v3 x5) (x4.A4==p2))
   (jn (O9 L1 v2 v3 x5) false))
  (jn (Ko) v2)
noncomputable def TQ(p0:AO)(p1:(List AI))(p2:Int)(p3:Int):Option (List AD):=
 AT (Kq p0 p1 p2 p3) big ([],0)
noncomputable def G4:GF:=zU.gf rfl rfl (fun a=>TQ a.1 a.2.1 a.2.2.1 a.2.2.2.1) (fun a=>by kernel_rfl)
noncomputable def zV:YF:=⟨[],[.v (.l (.st 4)),.v (.l (.st 4))],[],.ret [.b],[.tmp 4],
 sq [qB 4 false] [0,1] (.seq (sw 6 [wm 0,wZ,wm 1,wZ,wB .neq 7] (Kp 1027) (cn 10 [0,1] (sq [qB 4 false] [4] .ret))) (.join [] (sw 11 [wm 0,wZ,wj 0] (Kp 12291) (bl 0 [cv 13 .i] (sq [qb 14 .lss 13 12] (Kp 28675) (.seq (ce 14 (Kp 12291) [] 0) (.seq (.block 1 (sq [qm 15 13,qa 5 15] (Kp 12323) (.seq (.A8 (qd 0 [wn 16 [wm 0,wm 5,wE (.st 4) 16,wK 4,wm 1,wm 5,wE (.st 4) 20,wK 4,wh (.bin · (.agg [.i,.i,.i,.i]) .neq (.tmp 19) (.tmp 23))]] .nil) [0,1,12,13,24]) (cn 24 (Kp 12291) (sq [qB 4 false] [4] .ret))))) (q1 [qi 25 .add 13 1,qm 13 25] (Kp 12291))))))) (sq [qB 4 true] [4] .ret)))⟩
noncomputable def dU(_:PUnit):Option Bool:=
 some true
noncomputable def TR(p0:(List AD))(p1:(List AD))(L1:Int->Option Bool)(v2:Int):Option Bool:=
 br (decide (v2<(↑p0.length:Int)))
  (bd (at? p0 v2) fun x3=>
  bd (at? p1 v2) fun x4=>
  br (!(x3.Level==x4.Level&&(x3.Ah==x4.Ah&&(x3.Id==x4.Id&&(x3.As==x4.As&&true)))))
   (some false)
   (L1 (w64 (v2+1))))
  (jn (dU) ())
noncomputable def mD(p0:(List AD))(p1:(List AD)):Option Bool:=
 br ((↑p0.length:Int) != (↑p1.length:Int))
  (some false)
  (AT (TR p0 p1) big 0)
noncomputable def Nv:GF:=zV.gf rfl rfl (fun a=>mD a.1 a.2.1) (fun a=>by kernel_rfl)
noncomputable def zW:YF:=⟨[],[.v (.ki .u64)],[],.ret [.i],[.tmp 2],
 sq [qK 2 0] [0,2] (.join [(false,0,.one,[.num .u64]),cv 2 .i] (sw 3 [wm 0,wh (.bin · .num .geq (.tmp 3) (.k (.int .u64 4294967296)))] (Kp 21) (.cond 4 [0] [0,2] (sr [wn 5 [wm 0,wh (.bin · .num .shr (.tmp 5) (.k (.int .u64 32)))],
 qn [qa 0 6]] [0] (q1 [qK 2 32] [0,2])) .skip)) (.join [(false,0,.one,[.num .u64]),cv 2 .i] (sw 7 [wm 0,wh (.bin · .num .geq (.tmp 7) (.k (.int .u64 65536)))] (Kp 261) (.cond 8 [0,2] [0,2] (sr [wn 9 [wm 0,wh (.bin · .num .shr (.tmp 9) (.k (.int .u64 16)))],
 qn [qa 0 10]] [0,2] (qr [wn 11 [wm 2,wI .add 16],
 qn [qa 2 12]] [0,2])) .skip)) (.join [(false,0,.one,[.num .u64]),cv 2 .i] (sw 13 [wm 0,wh (.bin · .num .geq (.tmp 13) (.k (.int .u64 256)))] [0,2,14] (.cond 14 [0,2] [0,2] (sr [wn 15 [wm 0,wh (.bin · .num .shr (.tmp 15) (.k (.int .u64 8)))],
 qn [qa 0 16]] [0,2] (qr [wn 17 [wm 2,wI .add 8],
 qn [qa 2 18]] [0,2])) .skip)) (sr [wn 19 [wm 2,wm 0,wh (.cvI · .u8 (.tmp 20)),wh (.ix · (.k (.str [0,1,2,2,3,3,3,3,4,4,4,4,4,4,4,4,5,5,5,5,5,5,5,5,5,5,5,5,5,5,5,5,6,6,6,6,6,6,6,6,6,6,6,6,6,6,6,6,6,6,6,6,6,6,6,6,6,6,6,6,6,6,6,6,7,7,7,7,7,7,7,7,7,7,7,7,7,7,7,7,7,7,7,7,7,7,7,7,7,7,7,7,7,7,7,7,7,7,7,7,7,7,7,7,7,7,7,7,7,7,7,7,7,7,7,7,7,7,7,7,7,7,7,7,7,7,7,7,8,8,8,8,8,8,8,8,8,8,8,8,8,8,8,8,8,8,8,8,8,8,8,8,8,8,8,8,8,8,8,8,8,8,8,8,8,8,8,8,8,8,8,8,8,8,8,8,8,8,8,8,8,8,8,8,8,8,8,8,8,8,8,8,8,8,8,8,8,8,8,8,8,8,8,8,8,8,8,8,8,8,8,8,8,8,8,8,8,8,8,8,8,8,8,8,8,8,8,8,8,8,8,8,8,8,8,8,8,8,8,8,8,8,8,8,8,8,8,8,8,8,8,8,8,8,8,8])) (.tmp 21)),wh (.cvI · .i64 (.tmp 22)),wB .add 19],
 qn [qa 2 24]] [2] .ret))))⟩
noncomputable def TU(x_:(Int×Int)):Option Int:=
 match x_ with
 |(v5,v6)=>bd (α:=UInt8) (at? [0,1,2,2,3,3,3,3,4,4,4,4,4,4,4,4,5,5,5,5,5,5,5,5,5,5,5,5,5,5,5,5,6,6,6,6,6,6,6,6,6,6,6,6,6,6,6,6,6,6,6,6,6,6,6,6,6,6,6,6,6,6,6,6,7,7,7,7,7,7,7,7,7,7,7,7,7,7,7,7,7,7,7,7,7,7,7,7,7,7,7,7,7,7,7,7,7,7,7,7,7,7,7,7,7,7,7,7,7,7,7,7,7,7,7,7,7,7,7,7,7,7,7,7,7,7,7,7,8,8,8,8,8,8,8,8,8,8,8,8,8,8,8,8,8,8,8,8,8,8,8,8,8,8,8,8,8,8,8,8,8,8,8,8,8,8,8,8,8,8,8,8,8,8,8,8,8,8,8,8,8,8,8,8,8,8,8,8,8,8,8,8,8,8,8,8,8,8,8,8,8,8,8,8,8,8,8,8,8,8,8,8,8,8,8,8,8,8,8,8,8,8,8,8,8,8,8,8,8,8,8,8,8,8,8,8,8,8,8,8,8,8,8,8,8,8,8,8,8,8,8,8,8,8,8,8] (↑(toB v5).toNat:Int)) fun x7=>
 some (w64 (v6+w64 (↑x7.toNat:Int)))
noncomputable def TT(x_:(Int×Int)):Option Int:=
 match x_ with
 |(v3,v4)=>br (decide (v3>=256))
  (jn (TU) ((BE v3 8,w64 (v4+8))))
  (jn (TU) (v3,v4))
noncomputable def TS(x_:(Int×Int)):Option Int:=
 match x_ with
 |(v1,v2)=>br (decide (v1>=65536))
  (jn (TT) ((BE v1 16,w64 (v2+16))))
  (jn (TT) (v1,v2))
noncomputable def qY(p0:Int):Option Int:=
 br (decide (p0>=4294967296))
  (jn (TS) (BE p0 32,32))
  (jn (TS) (p0,0))
noncomputable def Nw:GF:=zW.gf rfl rfl (fun a=>qY a.1) (fun a=>by kernel_rfl)
noncomputable def zX:YF:=⟨[],[.v (.ki .u64)],[],.ret [.i],[.tmp 2],
 sq [qK 2 0] [0] (.seq (.scope .skip) (sr [wn 6 [wm 0,wY Nw rfl],
 qn [qa 2 7]] [2] .ret))⟩
noncomputable def mE(p0:Int):Option Int:=
 bd (qY p0) fun x1=>
 some x1
noncomputable def Nx:GF:=zX.gf rfl rfl (fun a=>mE a.1) (fun a=>by kernel_rfl)
noncomputable def yx:YF:=⟨[Bg],[.m (.l (.st 5)),.v .i,.v .i,.f Bg.x []],[0],.ret [],[],
 sr [wn 10 [wm 1,wI .add 1],
 qn [qa 8 11]] (Kp 271) (bl 0 [cv 0 (.l (.st 5)),cv 8 .i] (.seq (sw 12 [wm 8,wm 2,wB .lss 12] (Kp 16655) (ce 14 (Kp 271) [0] 0)) (.join [cv 0 (.l (.st 5))] (.block 1 (sq [qm 17 8,qa 9 17] (Kp 783) (bl 2 [cv 0 (.l (.st 5)),cv 9 .i] (.seq (.join [cv 34 .b] (.A8 (qd 0 [wn 18 [wm 9,wm 1,wB .gtr 18,wM],
 wt 21 22 [wm 3,wm 0,wm 9,wE (.st 5) 23,wK 2,wm 0,wm 9,wI .sub 1,wE (.st 5) 27,wK 2,wh (.CJ · (.tmp 22) [.v,.v] [.tmp 26,.tmp 31]),wI .lss 0],
 qn [qq 34 21 33]] .nil) [0,1,2,3,8,9,34]) (ce 34 [0,1,2,3,8,9] (Kp 271) 2)) (.seq (.block 3 (.A8 (qd 0 [wn 37 [wm 0,wm 9,wm 0,wm 9,wI .sub 1,wm 0,wm 9,wI .sub 1,wE (.st 5) 42,wK 2,wm 0,wm 9,wE (.st 5) 47,wK 2,we (.st 5) 37 38],
 qn [qw 2 51 46,qe 52 (.st 5) 39 41,qw 2 52 50]] .nil) [0,1,2,3,8,9])) (qr [wn 35 [wm 9,wI .sub 1],
 qn [qa 9 36]] (Kp 783))))))) (qr [wn 15 [wm 8,wI .add 1],
 qn [qa 8 16]] (Kp 271)))))⟩
noncomputable def Om(L1:((List AN)×Int)->Option (List AN))(v3:Int)(v21:(List AN)):Option (List AN):=
 L1 ((v21,w64 (v3+1)))
noncomputable def Kg(L1:((List AN)×Int)->Option (List AN))(v3:Int)(L4:((List AN)×Int)->Option (List AN))(v5:(List AN))(v6:Int)(v12:Bool):Option (List AN):=
 br v12
  (bd (at? v5 (w64 (v6-1))) fun x13=>
  bd (at? v5 (w64 (v6-1))) fun x14=>
  bd (at? v5 v6) fun x15=>
  bd (at? v5 v6) fun x16=>
  bd (at? v5 v6) fun x17=>
  bd (at? v5 v6) fun x18=>
  bd (at? (List.set v5 v6.toNat x14) (w64 (v6-1))) fun x19=>
  bd (at? (List.set v5 v6.toNat x14) (w64 (v6-1))) fun x20=>
  L4 (((List.set v5 v6.toNat x14).set (w64 (v6-1)).toNat x16,w64 (v6-1))))
  (jn (Om L1 v3) v5)
noncomputable def Oo(p1:Int)(L1:((List AN)×Int)->Option (List AN))(v3:Int)(L4:((List AN)×Int)->Option (List AN))(x_:((List AN)×Int)):Option (List AN):=
 match x_ with
 |(v5,v6)=>br (decide (v6>p1))
  (bd (at? v5 v6) fun x7=>
  bd (at? v5 v6) fun x8=>
  bd (at? v5 (w64 (v6-1))) fun x9=>
  bd (at? v5 (w64 (v6-1))) fun x10=>
  bd (Oy x8 x10) fun x11=>
  jn (Kg L1 v3 L4 v5 v6) (decide (x11<0)))
  (jn (Kg L1 v3 L4 v5 v6) false)
noncomputable def On(p1:Int)(p2:Int)(L1:((List AN)×Int)->Option (List AN))(x_:((List AN)×Int)):Option (List AN):=
 match x_ with
 |(v2,v3)=>br (decide (v3<p2))
  (AT (Oo p1 L1 v3) big (v2,v3))
  (some v2)
noncomputable def Rb(p0:(List AN))(p1:Int)(p2:Int):Option (List AN):=
 AT (On p1 p2) big ((p0,w64 (p1+1)))
noncomputable def EL:GF:=yx.gf rfl rfl (fun a=>Rb a.1 a.2.1 a.2.2.1) (fun a=>by kernel_rfl)
noncomputable def yy:YF:=⟨[Bg],[.m (.l (.st 5)),.v .i,.v .i,.v .i,.f Bg.x []],[0],.ret [],[],
 sq [qB 10 true] (Kp 1055) (sq [qB 11 true] (Kp 3103) (bl 0 [] (.block 1 (sr [wn 21 [wm 2,wm 1,wB .sub 21],
 qn [qa 12 23]] (Kp 7199) (.seq (sw 24 [wm 12,wI .leq 12] (Kp 33561631) (.cond 25 [0,1,2,4] (Kp 7199) (sw 26 [wm 0,wm 1,wm 2,wm 4,wh (.call · EL [0] rfl [.tmp 26,.tmp 27,.tmp 28,.tmp 29])] [0] .ret) .skip)) (.seq (sw 31 [wm 3,wI .eql 0] (Kp 4294974495) (.cond 32 [0,1,2,4] (Kp 7199) (sr [wn 33 [wm 0,wm 1,wm 2,wm 4],
 qn [.bad (some 37)]] [0] .ret) .skip)) (.seq (sw 38 [wm 10,wX] (Kp 549755821087) (.cond 39 [0,1,2,3,4,10,11,12] (Kp 7199) (sr [wn 40 [wm 0,wm 1,wm 2,wm 4],
 qn [.bad (some 44)]] (Kp 7199) (qr [wn 45 [wm 3,wI .sub 1],
 qn [qa 3 46]] (Kp 7199))) .skip)) (sr [wn 48 [wm 0,wm 1,wm 2,wm 4],
 qn [.bad (some 52),qm 47 52],
 wn 53 [wh (.ext · (.tmp 47) 0),wh (.ext · (.tmp 47) 1)],
 qn [qa 13 53,qa 14 54]] (Kp 31775) (.seq (sw 55 [wm 14,wI .eql 2] (Kp 72057594037959711) (.cond 56 [0,1,2,3,4,10,11,12,13] (Kp 31775) (sr [wn 57 [wm 0,wm 1,wm 2,wm 4],
 qn [.bad (some 61)]] (Kp 15391) (sr [wn 62 [wm 2,wI .sub 1,wm 13,wm 1,wB .sub 64,wB .sub 63],
 qn [qa 13 67]] (Kp 15391) (q1 [qK 14 1] (Kp 31775)))) .skip)) (.seq (sr [wn 68 [wm 10,wM],
 qt 69 [qm 70 11],
 wn 71 [wQ 69,wM],
 wt 72 73 [wm 14,wI .eql 1],
 qn [qq 75 72 74]] (Kp 37778931862957161724959) (.cond 75 [0,1,2,3,4,10,11,12,13] (Kp 15391) (sr [wn 76 [wm 0,wm 1,wm 2,wm 4],
 qn [.bad (some 80)]] (Kp 1208925819614629174721567) (.cond 80 [0] (Kp 15391) .ret .skip)) .skip)) (.seq (.seq (.A8 (qd 0 [wn 81 [wm 1,wI .gtr 0,wM],
 wt 83 84 [wm 4,wm 0,wm 1,wI .sub 1,wE (.st 5) 85,wK 2,wm 0,wm 13,wE (.st 5) 90,wK 2],
 qt 83 [.bad (some 94)],
 wt 83 95 [wI .lss 0,wX],
 qn [qq 97 83 96]] .nil) [0,1,2,3,4,10,11,12,13,97]) (.cond 97 [0,1,2,3,4,10,11,13] (Kp 12319) (sr [wn 98 [wm 0,wm 1,wm 2,wm 13,wm 4],
 qn [.bad (some 103),qa 15 103]] (Kp 35869) (sq [qm 104 15,qa 1 104] (Kp 3103) (.exit 1))) .skip)) (sr [wn 106 [wm 0,wm 1,wm 2,wm 13,wm 4],
 qn [.bad (some 111),qm 105 111],
 wn 112 [wh (.ext · (.tmp 105) 0),wh (.ext · (.tmp 105) 1)],
 qn [qa 16 112,qa 17 113]] (Kp 200735) (sq [qm 114 17,qa 11 114] (Kp 71711) (sr [wn 115 [wm 16,wm 1,wB .sub 115,wm 2,wm 16,wB .sub 118],
 qn [qa 18 117,qa 19 120]] (Kp 858143) (sr [wn 121 [wm 12,wI .quo 8],
 qn [qa 20 122]] (Kp 1902623) (sw 123 [wm 18,wm 19,wB .lss 123] [0,1,2,3,4,11,16,18,19,20,125] (.cond 125 [0,1,2,3,4,11,16,18,20] (Kp 1640479) (sr [wn 126 [wm 18,wm 20,wB .geq 126],
 qn [qa 10 128]] (Kp 68639) (sr [wn 129 [wm 0,wm 1,wm 16,wm 3,wm 4],
 qn [.bad (some 134)]] (Kp 68637) (qr [wn 135 [wm 16,wI .add 1],
 qn [qa 1 136]] (Kp 3103)))) (sr [wn 137 [wm 19,wm 20,wB .geq 137],
 qn [qa 10 139]] (Kp 68639) (sr [wn 140 [wm 0,wm 16,wI .add 1,wm 2,wm 3,wm 4],
 qn [.bad (some 146)]] (Kp 68635) (q1 [qm 147 16,qa 2 147] (Kp 3103)))))))))))))))))))))⟩
noncomputable def cW(p0:(List AN))(p1:Int)(p2:Int)(p3:Int)(L1:PUnit->Option (List AN))(_:PUnit):Option (List AN):=
 br (decide (w64 (p2-p1)<=12))
  (bd (Rb p0 p1 p2) fun x2=>
  some x2)
  (br (p3==0)
   (none)
   (none))
noncomputable def qS(p0:(List AN))(p1:Int)(p2:Int)(p3:Int):Option (List AN):=
 AT (cW p0 p1 p2 p3) big ()
noncomputable def Nc:GF:=yy.gf rfl rfl (fun a=>qS a.1 a.2.1 a.2.2.1 a.2.2.2.1) (fun a=>by kernel_rfl)
noncomputable def yz:YF:=⟨[Bg],[.m (.l (.st 5)),.f Bg.x []],[0],.ret [],[],
 sr [wn 5 [wm 0,wZ],
 qn [qa 4 6]] (Kp 19) (w1 7 [wm 0,wm 4,wm 4,wh (.cvI · .u64 (.tmp 9)),wY Nx rfl,wm 1,wh (.call · Nc [0] rfl [.tmp 7,qj 0,.tmp 8,.tmp 11,.tmp 12])] [0])⟩
noncomputable def lj(p0:(List AN)):Option (List AN):=
 bd (mE (Go.IntKind.u64.wrap (↑p0.length:Int))) fun x1=>
 bd (qS p0 0 (↑p0.length:Int) x1) fun x2=>
 some x2
noncomputable def Nd:GF:=yz.gf rfl rfl (fun a=>lj a.1) (fun a=>by kernel_rfl)
noncomputable def y1:YF:=⟨[Bg],[.v (.st 6)],[],.ret [(.l (.st 5))],[.tmp 2],
 sq [qu 1 0,.as 2 (.k .nil),.Av [(.tmp 2 0,(.st 5))]] [1] (.seq (sw 6 [wk 1 1,wY DJ rfl,wX] [1,8] (cn 8 [1] (sq [.as 2 (.k .nil),.Av [(.tmp 2 0,(.st 5))]] [2] .ret))) (sq [.as 3 (.k .nil),.Av [(.tmp 3 0,(.st 5))]] [1,3] (.join [cv 3 (.l (.st 5))] (sw 9 [wo 0 1,wL,wZ,wj 0] (Kp 7176) (bl 0 [cv 3 (.l (.st 5)),cv 12 .i] (sq [qb 13 .lss 12 11] (Kp 15368) (.seq (ce 13 (Kp 7176) [3] 0) (.seq (.block 1 (sr [wn 14 [we (.l (.st 5)) 10 12,wL],
 qn [qa 5 15]] (Kp 7208) (qr [wn 16 [wm 3,wm 5,wh (.app · (.st 5) true (.tmp 16) (.tmp 17))],
 qn [qa 3 18]] (Kp 7176)))) (q1 [qi 19 .add 12 1,qm 12 19] (Kp 7176))))))) (sw 20 [wm 3,wh (.call · Nd [0] rfl [.tmp 20,(.fn 0)])] [3] (sq [qm 22 3,qa 2 22] [2] .ret)))))⟩
noncomputable def cX(v6:(List AN)):Option (List AN):=
 bd (lj v6) fun x7=>
 some x7
noncomputable def cY(p0:AK)(L2:((List AN)×Int)->Option (List AN))(x_:((List AN)×Int)):Option (List AN):=
 match x_ with
 |(v3,v4)=>br (decide (v4<(↑p0.AJ.length:Int)))
  (bd (at? p0.AJ v4) fun x5=>
  gd (List.length v3+List.length x5<=lim) (
  L2 ((v3++x5,w64 (v4+1)))))
  (jn (cX) v3)
noncomputable def lk(p0:AK):Option (List AN):=
 bd (Oz p0) fun x1=>
 br (!x1)
  (some [])
  (AT (cY p0) big ([],0))
noncomputable def Nf:GF:=y1.gf rfl rfl (fun a=>lk a.1) (fun a=>by kernel_rfl)
noncomputable def y2:YF:=⟨[Bg],[.m (.l (.st 5)),.v .i,.v .i,.v .i,.f Bg.x []],[0],.ret [],[],
 sq [qK 10 0] (Kp 1039) (bl 0 [cv 0 (.l (.st 5)),cv 10 .i] (.seq (sw 11 [wM,wm 3,wB .lss 11] (Kp 9231) (ce 13 (Kp 1039) [0] 0)) (.seq (.block 1 (.A8 (qd 0 [wn 16 [wm 0,wm 1,wm 10,wB .add 17,wm 0,wm 2,wm 10,wB .add 21,wm 0,wm 2,wm 10,wB .add 25,wE (.st 5) 24,wK 2,wm 0,wm 1,wm 10,wB .add 31,wE (.st 5) 30,wK 2,we (.st 5) 16 19],
 qn [qw 2 36 29,qe 37 (.st 5) 20 23,qw 2 37 35]] .nil) [0,1,2,3,10])) (qr [wn 14 [wm 10,wI .add 1],
 qn [qa 10 15]] (Kp 1039)))))⟩
noncomputable def cZ(p1:Int)(p2:Int)(p3:Int)(L1:((List AN)×Int)->Option (List AN))(x_:((List AN)×Int)):Option (List AN):=
 match x_ with
 |(v2,v3)=>br (decide (v3<p3))
  (bd (at? v2 (w64 (p2+v3))) fun x4=>
  bd (at? v2 (w64 (p2+v3))) fun x5=>
  bd (at? v2 (w64 (p1+v3))) fun x6=>
  bd (at? v2 (w64 (p1+v3))) fun x7=>
  bd (at? v2 (w64 (p1+v3))) fun x8=>
  bd (at? v2 (w64 (p1+v3))) fun x9=>
  bd (at? (List.set v2 (w64 (p1+v3)).toNat x5) (w64 (p2+v3))) fun x10=>
  bd (at? (List.set v2 (w64 (p1+v3)).toNat x5) (w64 (p2+v3))) fun x11=>
  L1 (((List.set v2 (w64 (p1+v3)).toNat x5).set (w64 (p2+v3)).toNat x7,w64 (v3+1))))
  (some v2)
noncomputable def Xu(p0:(List AN))(p1:Int)(p2:Int)(p3:Int):Option (List AN):=
 AT (cZ p1 p2 p3) big (p0,0)
noncomputable def EM:GF:=y2.gf rfl rfl (fun a=>Xu a.1 a.2.1 a.2.2.1 a.2.2.2.1) (fun a=>by kernel_rfl)
noncomputable def y3:YF:=⟨[Bg],[.m (.l (.st 5)),.v .i,.v .i,.v .i,.f Bg.x []],[0],.ret [],[],
 sr [wn 12 [wm 2,wm 1,wB .sub 12],
 qn [qa 10 14]] (Kp 1053) (sr [wn 15 [wm 3,wm 2,wB .sub 15],
 qn [qa 11 17]] (Kp 3093) (.join [cv 0 (.l (.st 5)),cv 10 .i] (bl 0 [cv 0 (.l (.st 5)),cv 10 .i,cv 11 .i] (.seq (sw 18 [wm 10,wm 11,wB .neq 18] (Kp 1051669) (ce 20 [0,2,4,10,11] (Kp 1045) 0)) (.block 1 (sw 21 [wm 10,wm 11,wB .gtr 21] (Kp 8391701) (.cond 23 [0,2,4,10,11] (Kp 3093) (sw 24 [wm 0,wm 2,wm 10,wB .sub 25,wm 2,wm 11,wm 4,wh (.call · EM [0] rfl [.tmp 24,.tmp 27,.tmp 28,.tmp 29,.tmp 30])] (Kp 3093) (qr [wn 32 [wm 10,wm 11,wB .sub 32],
 qn [qa 10 34]] (Kp 3093))) (sw 35 [wm 0,wm 2,wm 10,wB .sub 36,wm 2,wm 11,wB .add 39,wm 10,wB .sub 41,wm 10,wm 4,wh (.call · EM [0] rfl [.tmp 35,.tmp 38,.tmp 43,.tmp 44,.tmp 45])] (Kp 3093) (qr [wn 47 [wm 11,wm 10,wB .sub 47],
 qn [qa 11 49]] (Kp 3093)))))))) (w1 50 [wm 0,wm 2,wm 10,wB .sub 51,wm 2,wm 10,wm 4,wh (.call · EM [0] rfl [.tmp 50,.tmp 53,.tmp 54,.tmp 55,.tmp 56])] [0])))⟩
noncomputable def cg(p2:Int)(x_:((List AN)×Int)):Option (List AN):=
 match x_ with
 |(v7,v8)=>bd (Xu v7 (w64 (p2-v8)) p2 v8) fun x9=>
 some x9
noncomputable def ch(p2:Int)(L1:((List AN)×Int×Int)->Option (List AN))(x_:((List AN)×Int×Int)):Option (List AN):=
 match x_ with
 |(v2,v3,v4)=>br (v3 != v4)
  (br (decide (v3>v4))
   (bd (Xu v2 (w64 (p2-v3)) p2 v4) fun x5=>
   L1 ((x5,w64 (v3-v4),v4)))
   (bd (Xu v2 (w64 (p2-v3)) (w64 (w64 (p2+v4)-v3)) v3) fun x6=>
   L1 ((x6,v3,w64 (v4-v3)))))
  (jn (cg p2) (v2,v3))
noncomputable def ll(p0:(List AN))(p1:Int)(p2:Int)(p3:Int):Option (List AN):=
 AT (ch p2) big ((p0,w64 (p2-p1),w64 (p3-p2)))
noncomputable def Ng:GF:=y3.gf rfl rfl (fun a=>ll a.1 a.2.1 a.2.2.1 a.2.2.2.1) (fun a=>by kernel_rfl)
abbrev DW:=bq [.m (.l (.st 5)),.v .i,.v .i,.v .i,.f Bg.x []] (.ret [])
noncomputable def MZ(rE:DW)(p0:(List AN))(p1:Int)(p2:Int)(p3:Int):Option (List AN):=rE.d (p0,p1,p2,p3,(),())
noncomputable def y4(rE:DW):YF:=⟨[Bg],[.m (.l (.st 5)),.v .i,.v .i,.v .i,.f Bg.x []],[0],.ret [],[],
 .join [] (sw 25 [wm 2,wm 1,wB .sub 25,wI .eql 1] (Kp 268435487) (.cond 28 [0,1,2,3,4] (Kp 31) (sq [qm 29 2,qa 10 29] (Kp 1051) (sq [qm 30 3,qa 11 30] (Kp 3091) (.join [cv 10 .i] (bl 0 [cv 10 .i,cv 11 .i] (.seq (sw 31 [wm 10,wm 11,wB .lss 31] (Kp 8589937683) (ce 33 [0,1,4,10,11] (Kp 1027) 0)) (.block 1 (sr [wn 34 [wm 10,wm 11,wB .add 34,wh (.cvI · .u64 (.tmp 36)),wh (.bin · .num .shr (.tmp 37) (.k (.int .u64 1))),wh (.cvI · .i64 (.tmp 38))],
 qn [qa 12 39]] (Kp 7187) (.seq (.A8 (qd 0 [wn 40 [wm 4,wm 0,wm 12,wE (.st 5) 41,wK 2,wm 0,wm 1,wE (.st 5) 45,wK 2,wh (.CJ · (.tmp 40) [.v,.v] [.tmp 44,.tmp 48]),wI .lss 0]] .nil) [0,1,4,10,11,12,50]) (.cond 50 [0,1,4,11,12] (Kp 5139) (qr [wn 51 [wm 12,wI .add 1],
 qn [qa 10 52]] (Kp 3091)) (q1 [qm 53 12,qa 11 53] (Kp 3091)))))))) (.join [cv 0 (.l (.st 5))] (sq [qm 54 1,qa 13 54] (Kp 9217) (bl 2 [cv 0 (.l (.st 5)),cv 13 .i] (.seq (sw 55 [wm 13,wm 10,wI .sub 1,wB .lss 55] [0,10,13,58] (ce 58 (Kp 9217) [0] 2)) (.seq (.block 3 (.A8 (qd 0 [wn 61 [wm 0,wm 13,wm 0,wm 13,wI .add 1,wm 0,wm 13,wI .add 1,wE (.st 5) 66,wK 2,wm 0,wm 13,wE (.st 5) 71,wK 2,we (.st 5) 61 62],
 qn [qw 2 75 70,qe 76 (.st 5) 63 65,qw 2 76 74]] .nil) [0,10,13])) (qr [wn 59 [wm 13,wI .add 1],
 qn [qa 13 60]] (Kp 9217)))))) .ret)))) .skip)) (.join [] (sw 77 [wm 3,wm 2,wB .sub 77,wI .eql 1] [0,1,2,3,4,80] (.cond 80 [0,1,2,4] (Kp 31) (sq [qm 81 1,qa 14 81] (Kp 16405) (sq [qm 82 2,qa 15 82] (Kp 49173) (.join [cv 14 .i] (bl 4 [cv 14 .i,cv 15 .i] (.seq (sw 83 [wm 14,wm 15,wB .lss 83] [0,2,4,14,15,85] (ce 85 (Kp 49173) [0,2,14] 4)) (.block 5 (sr [wn 86 [wm 14,wm 15,wB .add 86,wh (.cvI · .u64 (.tmp 88)),wh (.bin · .num .shr (.tmp 89) (.k (.int .u64 1))),wh (.cvI · .i64 (.tmp 90))],
 qn [qa 16 91]] (Kp 114709) (.seq (.A8 (qd 0 [wn 92 [wm 4,wm 0,wm 2,wE (.st 5) 93,wK 2,wm 0,wm 16,wE (.st 5) 97,wK 2,wh (.CJ · (.tmp 92) [.v,.v] [.tmp 96,.tmp 100]),wI .lss 0,wX]] .nil) [0,2,4,14,15,16,103]) (.cond 103 [0,2,4,15,16] (Kp 81941) (qr [wn 104 [wm 16,wI .add 1],
 qn [qa 14 105]] (Kp 49173)) (q1 [qm 106 16,qa 15 106] (Kp 49173)))))))) (.join [cv 0 (.l (.st 5))] (sq [qm 107 2,qa 17 107] [0,14,17] (bl 6 [cv 0 (.l (.st 5)),cv 17 .i] (.seq (sw 108 [wm 17,wm 14,wB .gtr 108] [0,14,17,110] (ce 110 [0,14,17] [0] 6)) (.seq (.block 7 (.A8 (qd 0 [wn 113 [wm 0,wm 17,wm 0,wm 17,wI .sub 1,wm 0,wm 17,wI .sub 1,wE (.st 5) 118,wK 2,wm 0,wm 17,wE (.st 5) 123,wK 2,we (.st 5) 113 114],
 qn [qw 2 127 122,qe 128 (.st 5) 115 117,qw 2 128 126]] .nil) [0,14,17])) (qr [wn 111 [wm 17,wI .sub 1],
 qn [qa 17 112]] [0,14,17]))))) .ret)))) .skip)) (sr [wn 129 [wm 1,wm 3,wB .add 129,wh (.cvI · .u64 (.tmp 131)),wh (.bin · .num .shr (.tmp 132) (.k (.int .u64 1))),wh (.cvI · .i64 (.tmp 133))],
 qn [qa 18 134]] (Kp 262175) (sr [wn 135 [wm 18,wm 2,wB .add 135],
 qn [qa 19 137]] (Kp 786463) (sq [qK 20 0,qK 21 0] (Kp 786463) (.join [cv 20 .i,cv 21 .i] (sw 138 [wm 2,wm 18,wB .gtr 138] [0,1,2,3,4,18,19,140] (.cond 140 [0,1,2,3,4,18,19] (Kp 786463) (sr [wn 141 [wm 19,wm 3,wB .sub 141],
 qn [qa 20 143]] (Kp 1835039) (q1 [qm 144 18,qa 21 144] (Kp 3932191))) (sq [qm 145 1,qa 20 145] (Kp 1835039) (q1 [qm 146 2,qa 21 146] (Kp 3932191))))) (sr [wn 147 [wm 19,wI .sub 1],
 qn [qa 22 148]] (Kp 8126495) (.join [cv 20 .i] (bl 8 [cv 20 .i,cv 21 .i] (.seq (sw 149 [wm 20,wm 21,wB .lss 149] [0,1,2,3,4,18,19,20,21,22,151] (ce 151 [0,1,2,3,4,18,19,20,21,22] (Kp 1835039) 8)) (.block 9 (sr [wn 152 [wm 20,wm 21,wB .add 152,wh (.cvI · .u64 (.tmp 154)),wh (.bin · .num .shr (.tmp 155) (.k (.int .u64 1))),wh (.cvI · .i64 (.tmp 156))],
 qn [qa 23 157]] (Kp 16515103) (.seq (.A8 (qd 0 [wn 158 [wm 4,wm 0,wm 22,wm 23,wB .sub 160,wE (.st 5) 159,wK 2,wm 0,wm 23,wE (.st 5) 165,wK 2,wh (.CJ · (.tmp 158) [.v,.v] [.tmp 164,.tmp 168]),wI .lss 0,wX]] .nil) [0,1,2,3,4,18,19,20,21,22,23,171]) (.cond 171 [0,1,2,3,4,18,19,21,22,23] (Kp 14417951) (qr [wn 172 [wm 23,wI .add 1],
 qn [qa 20 173]] (Kp 8126495)) (q1 [qm 174 23,qa 21 174] (Kp 8126495)))))))) (sr [wn 175 [wm 19,wm 20,wB .sub 175],
 qn [qa 24 177]] (Kp 18087967) (.join [cv 0 (.l (.st 5))] (.join [cv 185 .b] (qr [wn 178 [wm 20,wm 2,wB .lss 178,wM],
 wt 181 182 [wm 2,wm 24,wB .lss 182],
 qn [qq 185 181 184]] [0,1,2,3,4,18,20,24,185]) (.cond 185 [0,1,2,3,4,18,20,24] (Kp 18087963) (w1 186 [wm 0,wm 20,wm 2,wm 24,wm 4,wh (.call · Ng [0] rfl [.tmp 186,.tmp 187,.tmp 188,.tmp 189,.tmp 190])] (Kp 18087963)) .skip)) (.join [cv 0 (.l (.st 5))] (.join [cv 199 .b] (qr [wn 192 [wm 1,wm 20,wB .lss 192,wM],
 wt 195 196 [wm 20,wm 18,wB .lss 196],
 qn [qq 199 195 198]] [0,1,3,4,18,20,24,199]) (.cond 199 [0,1,3,4,18,20,24] (Kp 17039385) (w1 200 [wm 0,wm 1,wm 20,wm 18,wm 4,wh (.call · rE.gf [0] rfl [.tmp 200,.tmp 201,.tmp 202,.tmp 203,.tmp 204])] (Kp 17039385)) .skip)) (.join [cv 213 .b] (qr [wn 206 [wm 18,wm 24,wB .lss 206,wM],
 wt 209 210 [wm 24,wm 3,wB .lss 210],
 qn [qq 213 209 212]] [0,3,4,18,24,213]) (.cond 213 (Kp 17039385) [0] (w1 214 [wm 0,wm 18,wm 24,wm 3,wm 4,wh (.call · rE.gf [0] rfl [.tmp 214,.tmp 215,.tmp 216,.tmp 217,.tmp 218])] [0]) .skip))))))))))))⟩
noncomputable def Oq(v21:(List AN)):Option (List AN):=
 some v21
noncomputable def cw(v9:Int)(L10:((List AN)×Int)->Option (List AN))(x_:((List AN)×Int)):Option (List AN):=
 match x_ with
 |(v11,v12)=>br (decide (v12<w64 (v9-1)))
  (bd (at? v11 (w64 (v12+1))) fun x13=>
  bd (at? v11 (w64 (v12+1))) fun x14=>
  bd (at? v11 v12) fun x15=>
  bd (at? v11 v12) fun x16=>
  bd (at? v11 v12) fun x17=>
  bd (at? v11 v12) fun x18=>
  bd (at? (List.set v11 v12.toNat x14) (w64 (v12+1))) fun x19=>
  bd (at? (List.set v11 v12.toNat x14) (w64 (v12+1))) fun x20=>
  L10 (((List.set v11 v12.toNat x14).set (w64 (v12+1)).toNat x16,w64 (v12+1))))
  (jn (Oq) v11)
noncomputable def cj(p0:(List AN))(p1:Int)(v9:Int):Option (List AN):=
 AT (cw v9) big (p0,p1)
noncomputable def cu(p0:(List AN))(p1:Int)(L1:(Int×Int)->Option (List AN))(x_:(Int×Int)):Option (List AN):=
 match x_ with
 |(v2,v3)=>br (decide (v2<v3))
  (bd (at? p0 (w64 (BE (Go.IntKind.u64.wrap (w64 (v2+v3))) 1))) fun x4=>
  bd (at? p0 (w64 (BE (Go.IntKind.u64.wrap (w64 (v2+v3))) 1))) fun x5=>
  bd (at? p0 p1) fun x6=>
  bd (at? p0 p1) fun x7=>
  bd (Oy x5 x7) fun x8=>
  br (decide (x8<0))
   (L1 ((w64 (w64 (BE (Go.IntKind.u64.wrap (w64 (v2+v3))) 1)+1),v3)))
   (L1 ((v2,w64 (BE (Go.IntKind.u64.wrap (w64 (v2+v3))) 1)))))
  (jn (cj p0 p1) v2)
noncomputable def cz(v30:Int)(L31:((List AN)×Int)->Option (List AN))(x_:((List AN)×Int)):Option (List AN):=
 match x_ with
 |(v32,v33)=>br (decide (v33>v30))
  (bd (at? v32 (w64 (v33-1))) fun x34=>
  bd (at? v32 (w64 (v33-1))) fun x35=>
  bd (at? v32 v33) fun x36=>
  bd (at? v32 v33) fun x37=>
  bd (at? v32 v33) fun x38=>
  bd (at? v32 v33) fun x39=>
  bd (at? (List.set v32 v33.toNat x35) (w64 (v33-1))) fun x40=>
  bd (at? (List.set v32 v33.toNat x35) (w64 (v33-1))) fun x41=>
  L31 (((List.set v32 v33.toNat x35).set (w64 (v33-1)).toNat x37,w64 (v33-1))))
  (jn (Oq) v32)
noncomputable def cl(p0:(List AN))(p2:Int)(v30:Int):Option (List AN):=
 AT (cz v30) big (p0,p2)
noncomputable def cy(p0:(List AN))(p2:Int)(L22:(Int×Int)->Option (List AN))(x_:(Int×Int)):Option (List AN):=
 match x_ with
 |(v23,v24)=>br (decide (v23<v24))
  (bd (at? p0 p2) fun x25=>
  bd (at? p0 p2) fun x26=>
  bd (at? p0 (w64 (BE (Go.IntKind.u64.wrap (w64 (v23+v24))) 1))) fun x27=>
  bd (at? p0 (w64 (BE (Go.IntKind.u64.wrap (w64 (v23+v24))) 1))) fun x28=>
  bd (Oy x26 x28) fun x29=>
  br (!decide (x29<0))
   (L22 ((w64 (w64 (BE (Go.IntKind.u64.wrap (w64 (v23+v24))) 1)+1),v24)))
   (L22 ((v23,w64 (BE (Go.IntKind.u64.wrap (w64 (v23+v24))) 1)))))
  (jn (cl p0 p2) v23)
noncomputable def Qh(rE:DW)(p1:Int)(p2:Int)(p3:Int)(v52:Int)(v58:(List AN))(v59:Bool):Option (List AN):=
 br v59
  (bd (MZ rE v58 (w64 (BE (Go.IntKind.u64.wrap (w64 (p1+p3))) 1)) (w64 (w64 (w64 (BE (Go.IntKind.u64.wrap (w64 (p1+p3))) 1)+p2)-v52)) p3) fun x60=>
  some x60)
  (some v58)
noncomputable def MY(rE:DW)(p1:Int)(p2:Int)(p3:Int)(v52:Int)(v58:(List AN)):Option (List AN):=
 br (decide (w64 (BE (Go.IntKind.u64.wrap (w64 (p1+p3))) 1)<w64 (w64 (w64 (BE (Go.IntKind.u64.wrap (w64 (p1+p3))) 1)+p2)-v52)))
  (jn (Qh rE p1 p2 p3 v52 v58) (decide (w64 (w64 (w64 (BE (Go.IntKind.u64.wrap (w64 (p1+p3))) 1)+p2)-v52)<p3)))
  (jn (Qh rE p1 p2 p3 v52 v58) false)
noncomputable def Qg(rE:DW)(p1:Int)(p2:Int)(p3:Int)(v52:Int)(v55:(List AN))(v56:Bool):Option (List AN):=
 br v56
  (bd (MZ rE v55 p1 v52 (w64 (BE (Go.IntKind.u64.wrap (w64 (p1+p3))) 1))) fun x57=>
  jn (MY rE p1 p2 p3 v52) x57)
  (jn (MY rE p1 p2 p3 v52) v55)
noncomputable def MX(rE:DW)(p1:Int)(p2:Int)(p3:Int)(v52:Int)(v55:(List AN)):Option (List AN):=
 br (decide (p1<v52))
  (jn (Qg rE p1 p2 p3 v52 v55) (decide (v52<w64 (BE (Go.IntKind.u64.wrap (w64 (p1+p3))) 1))))
  (jn (Qg rE p1 p2 p3 v52 v55) false)
noncomputable def Qf(rE:DW)(p0:(List AN))(p1:Int)(p2:Int)(p3:Int)(v52:Int)(v53:Bool):Option (List AN):=
 br v53
  (bd (ll p0 v52 p2 (w64 (w64 (w64 (BE (Go.IntKind.u64.wrap (w64 (p1+p3))) 1)+p2)-v52))) fun x54=>
  jn (MX rE p1 p2 p3 v52) x54)
  (jn (MX rE p1 p2 p3 v52) p0)
noncomputable def Qe(rE:DW)(p0:(List AN))(p1:Int)(p2:Int)(p3:Int)(v52:Int):Option (List AN):=
 br (decide (v52<p2))
  (jn (Qf rE p0 p1 p2 p3 v52) (decide (p2<w64 (w64 (w64 (BE (Go.IntKind.u64.wrap (w64 (p1+p3))) 1)+p2)-v52))))
  (jn (Qf rE p0 p1 p2 p3 v52) false)
noncomputable def Xv(rE:DW)(p0:(List AN))(p1:Int)(p2:Int)(p3:Int)(L44:(Int×Int)->Option (List AN))(x_:(Int×Int)):Option (List AN):=
 match x_ with
 |(v45,v46)=>br (decide (v45<v46))
  (bd (at? p0 (w64 (w64 (w64 (w64 (BE (Go.IntKind.u64.wrap (w64 (p1+p3))) 1)+p2)-1)-w64 (BE (Go.IntKind.u64.wrap (w64 (v45+v46))) 1)))) fun x47=>
  bd (at? p0 (w64 (w64 (w64 (w64 (BE (Go.IntKind.u64.wrap (w64 (p1+p3))) 1)+p2)-1)-w64 (BE (Go.IntKind.u64.wrap (w64 (v45+v46))) 1)))) fun x48=>
  bd (at? p0 (w64 (BE (Go.IntKind.u64.wrap (w64 (v45+v46))) 1))) fun x49=>
  bd (at? p0 (w64 (BE (Go.IntKind.u64.wrap (w64 (v45+v46))) 1))) fun x50=>
  bd (Oy x48 x50) fun x51=>
  br (!decide (x51<0))
   (L44 ((w64 (w64 (BE (Go.IntKind.u64.wrap (w64 (v45+v46))) 1)+1),v46)))
   (L44 ((v45,w64 (BE (Go.IntKind.u64.wrap (w64 (v45+v46))) 1)))))
  (jn (Qe rE p0 p1 p2 p3) v45)
noncomputable def MW(rE:DW)(p0:(List AN))(p1:Int)(p2:Int)(p3:Int)(x_:(Int×Int)):Option (List AN):=
 match x_ with
 |(v42,v43)=>AT (Xv rE p0 p1 p2 p3) big (v42,v43)
noncomputable def cm(rE:DW)(p0:(List AN))(p1:Int)(p2:Int)(p3:Int)(_:PUnit):Option (List AN):=
 br (decide (p2>w64 (BE (Go.IntKind.u64.wrap (w64 (p1+p3))) 1)))
  (jn (MW rE p0 p1 p2 p3) ((w64 (w64 (w64 (BE (Go.IntKind.u64.wrap (w64 (p1+p3))) 1)+p2)-p3),w64 (BE (Go.IntKind.u64.wrap (w64 (p1+p3))) 1))))
  (jn (MW rE p0 p1 p2 p3) (p1,p2))
noncomputable def ck(rE:DW)(p0:(List AN))(p1:Int)(p2:Int)(p3:Int)(_:PUnit):Option (List AN):=
 br (w64 (p3-p2)==1)
  (AT (cy p0 p2) big (p1,p2))
  (jn (cm rE p0 p1 p2 p3) ())
noncomputable def jB(rE:DW)(p0:(List AN))(p1:Int)(p2:Int)(p3:Int):Option (List AN):=
 br (w64 (p2-p1)==1)
  (AT (cu p0 p1) big (p2,p3))
  (jn (ck rE p0 p1 p2 p3) ())
noncomputable def Ul(rE:DW):GF:=(y4 rE).gf rfl rfl (fun a=>jB rE a.1 a.2.1 a.2.2.1 a.2.2.2.1) (fun a=>by kernel_rfl)
noncomputable def GD:Nat->DW
 |0=>.nil _ _
 |k+1=>.of (Ul (GD k))
noncomputable def qT(p0:(List AN))(p1:Int)(p2:Int)(p3:Int):Option (List AN):=(GD 7).d (p0,p1,p2,p3,(),())
noncomputable def Gy:GF:=(GD 7).gf
noncomputable def y5:YF:=⟨[Bg],[.m (.l (.st 5)),.v .i,.f Bg.x []],[0],.ret [],[],
 sq [qK 6 20] (Kp 71) (sq [qm 10 6,qK 7 0,qa 8 10] (Kp 455) (.join [cv 0 (.l (.st 5)),cv 7 .i] (bl 0 [cv 0 (.l (.st 5)),cv 7 .i,cv 8 .i] (.seq (sw 11 [wm 8,wm 1,wB .leq 11] (Kp 8647) (ce 13 [0,1,2,6,7,8] (Kp 199) 0)) (.block 1 (sw 14 [wm 0,wm 7,wm 8,wm 2,wh (.call · EL [0] rfl [.tmp 14,.tmp 15,.tmp 16,.tmp 17])] (Kp 327) (sq [qm 19 8,qa 7 19] (Kp 455) (qr [wn 20 [wm 8,wm 6,wB .add 20],
 qn [qa 8 22]] (Kp 455))))))) (sw 23 [wm 0,wm 7,wm 1,wm 2,wh (.call · EL [0] rfl [.tmp 23,.tmp 24,.tmp 25,.tmp 26])] (Kp 71) (bl 2 [cv 0 (.l (.st 5)),cv 6 .i] (.seq (sw 28 [wm 6,wm 1,wB .lss 28] (Kp 1073741895) (ce 30 (Kp 71) [0] 2)) (.block 3 (sr [wn 31 [wm 6,wh (.bin · .num .mul (.k (.int .i64 2)) (.tmp 31))],
 qn [qK 7 0,qa 8 32]] (Kp 455) (.join [cv 0 (.l (.st 5)),cv 7 .i] (bl 4 [cv 0 (.l (.st 5)),cv 7 .i,cv 8 .i] (.seq (sw 33 [wm 8,wm 1,wB .leq 33] (Kp 34359738823) (ce 35 [0,1,2,6,7,8] (Kp 199) 4)) (.block 5 (sw 36 [wm 0,wm 7,wm 7,wm 6,wB .add 38,wm 8,wm 2,wh (.call · Gy [0] rfl [.tmp 36,.tmp 37,.tmp 40,.tmp 41,.tmp 42])] (Kp 327) (sq [qm 44 8,qa 7 44] (Kp 455) (qr [wn 45 [wm 8,wm 6,wh (.bin · .num .mul (.k (.int .i64 2)) (.tmp 46)),wB .add 45],
 qn [qa 8 48]] (Kp 455))))))) (.join [cv 0 (.l (.st 5))] (sr [wn 49 [wm 7,wm 6,wB .add 49],
 qn [qa 9 51]] (Kp 711) (sw 52 [wm 9,wm 1,wB .lss 52] [0,1,2,6,7,9,54] (.cond 54 [0,1,2,6,7,9] (Kp 71) (w1 55 [wm 0,wm 7,wm 9,wm 1,wm 2,wh (.call · Gy [0] rfl [.tmp 55,.tmp 56,.tmp 57,.tmp 58,.tmp 59])] (Kp 71)) .skip))) (qr [wn 61 [wm 6,wI .mul 2],
 qn [qa 6 62]] (Kp 71)))))))))))⟩
noncomputable def Ot(L9:((List AN)×Int)->Option (List AN))(v11:Int)(v20:(List AN)):Option (List AN):=
 L9 ((v20,w64 (v11*2)))
noncomputable def dA(p1:Int)(L9:((List AN)×Int)->Option (List AN))(v11:Int)(x_:((List AN)×Int)):Option (List AN):=
 match x_ with
 |(v17,v18)=>br (decide (w64 (v18+v11)<p1))
  (bd (qT v17 v18 (w64 (v18+v11)) p1) fun x19=>
  jn (Ot L9 v11) x19)
  (jn (Ot L9 v11) v17)
noncomputable def dB(p1:Int)(L9:((List AN)×Int)->Option (List AN))(v11:Int)(L12:((List AN)×Int×Int)->Option (List AN))(x_:((List AN)×Int×Int)):Option (List AN):=
 match x_ with
 |(v13,v14,v15)=>br (decide (v15<=p1))
  (bd (qT v13 v14 (w64 (v14+v11)) v15) fun x16=>
  L12 ((x16,v15,w64 (v15+w64 (2*v11)))))
  (jn (dA p1 L9 v11) (v13,v14))
noncomputable def Ou(p1:Int)(L9:((List AN)×Int)->Option (List AN))(x_:((List AN)×Int)):Option (List AN):=
 match x_ with
 |(v10,v11)=>br (decide (v11<p1))
  (AT (dB p1 L9 v11) big ((v10,0,w64 (2*v11))))
  (some v10)
noncomputable def TE(p1:Int)(x_:((List AN)×Int)):Option (List AN):=
 match x_ with
 |(v6,v7)=>bd (Rb v6 v7 p1) fun x8=>
 AT (Ou p1) big (x8,20)
noncomputable def Kh(p1:Int)(L1:((List AN)×Int×Int)->Option (List AN))(x_:((List AN)×Int×Int)):Option (List AN):=
 match x_ with
 |(v2,v3,v4)=>br (decide (v4<=p1))
  (bd (Rb v2 v3 v4) fun x5=>
  L1 ((x5,v4,w64 (v4+20))))
  (jn (TE p1) (v2,v3))
noncomputable def ln(p0:(List AN))(p1:Int):Option (List AN):=
 AT (Kh p1) big (p0,0,20)
noncomputable def Nh:GF:=y5.gf rfl rfl (fun a=>ln a.1 a.2.1) (fun a=>by kernel_rfl)
noncomputable def y6:YF:=⟨[Bg],[.m (.l (.st 5)),.f Bg.x []],[0],.ret [],[],
 w1 4 [wm 0,wm 0,wZ,wm 1,wh (.call · Nh [0] rfl [.tmp 4,.tmp 6,.tmp 7])] [0]⟩
noncomputable def Xw(p0:(List AN)):Option (List AN):=
 bd (ln p0 (↑p0.length:Int)) fun x1=>
 some x1
noncomputable def Ni:GF:=y6.gf rfl rfl (fun a=>Xw a.1) (fun a=>by kernel_rfl)
noncomputable def y7:YF:=⟨[Bg],[.v (.l (.st 2)),.v .i],[],.ret [(.l (.st 5))],[.tmp 4],
 sq [.as 4 (.k .nil),.Av [(.tmp 4 0,(.st 5))]] [0,1] (sq [.as 5 (.k .nil),.Av [(.tmp 5 0,(.st 5))]] (Kp 35) (.join [cv 5 (.l (.st 5))] (sw 8 [wm 0,wZ,wj 0] (Kp 1826) (bl 0 [cv 5 (.l (.st 5)),cv 10 .i] (sq [qb 11 .lss 10 9] (Kp 3874) (.seq (ce 11 (Kp 1826) [5] 0) (.join [cv 5 (.l (.st 5))] (.block 1 (sr [wn 12 [we (.st 2) 8 10,wK 10],
 qn [.alloc 7 BM,qw 10 7 13]] (Kp 1954) (.join [cv 22 .b] (qr [wn 14 [wo 7 7,wL,wI .eql 2,wM],
 wt 17 18 [wo 1 7,wL,wm 1,wB .eql 19],
 qn [qq 22 17 21]] (Kp 4196258)) (.cond 22 [1,5,7,8,9,10] (Kp 1826) (qr [wn 23 [wm 5,wo 8 7,wL,wo 0 7,wL,wh (.build · [.int .i64 0,.int .i64 0] [(0,1,(.tmp 25)),(1,1,(.tmp 27))]),wh (.AW · 1 (.st 5) [(0,(.tmp 28))]),wh (.app · (.st 5) true (.tmp 23) (.tmp 29))],
 qn [qa 5 30]] (Kp 1826)) .skip)))) (q1 [qi 31 .add 10 1,qm 10 31] (Kp 1826))))))) (sw 32 [wm 5,wh (.call · Ni [0] rfl [.tmp 32,(.fn 0)])] [5] (sq [qm 34 5,qa 4 34] [4] .ret))))⟩
noncomputable def Ow(L1:((List AN)×Int)->Option (List AN))(v3:Int)(v6:(List AN)):Option (List AN):=
 L1 ((v6,w64 (v3+1)))
noncomputable def Ov(L1:((List AN)×Int)->Option (List AN))(v2:(List AN))(v3:Int)(x4:AI)(v5:Bool):Option (List AN):=
 br v5
  (gd (List.length v2+[AN.mk x4.BW x4.Id].length<=lim) (
  jn (Ow L1 v3) (v2++[AN.mk x4.BW x4.Id])))
  (jn (Ow L1 v3) v2)
noncomputable def Ki(v7:(List AN)):Option (List AN):=
 bd (Xw v7) fun x8=>
 some x8
noncomputable def Kj(p0:(List AI))(p1:Int)(L1:((List AN)×Int)->Option (List AN))(x_:((List AN)×Int)):Option (List AN):=
 match x_ with
 |(v2,v3)=>br (decide (v3<(↑p0.length:Int)))
  (bd (at? p0 v3) fun x4=>
  br (x4.State==2)
   (jn (Ov L1 v2 v3 x4) (x4.A4==p1))
   (jn (Ov L1 v2 v3 x4) false))
  (jn (Ki) v2)
noncomputable def TF(p0:(List AI))(p1:Int):Option (List AN):=
 AT (Kj p0 p1) big ([],0)
noncomputable def Gz:GF:=y7.gf rfl rfl (fun a=>TF a.1 a.2.1) (fun a=>by kernel_rfl)
noncomputable def zi:YF:=⟨[],[.v (.l (.st 5)),.v (.l (.st 5))],[],.ret [.b],[.tmp 4],
 sq [qB 4 false] [0,1] (.seq (sw 6 [wm 0,wZ,wm 1,wZ,wB .neq 7] (Kp 1027) (cn 10 [0,1] (sq [qB 4 false] [4] .ret))) (.join [] (sw 11 [wm 0,wZ,wj 0] (Kp 12291) (bl 0 [cv 13 .i] (sq [qb 14 .lss 13 12] (Kp 28675) (.seq (ce 14 (Kp 12291) [] 0) (.seq (.block 1 (sq [qm 15 13,qa 5 15] (Kp 12323) (.seq (.A8 (qd 0 [wn 16 [wm 0,wm 5,wE (.st 5) 16,wK 2,wm 1,wm 5,wE (.st 5) 20,wK 2,wh (.bin · (.agg [.i,.i]) .neq (.tmp 19) (.tmp 23))]] .nil) [0,1,12,13,24]) (cn 24 (Kp 12291) (sq [qB 4 false] [4] .ret))))) (q1 [qi 25 .add 13 1,qm 13 25] (Kp 12291))))))) (sq [qB 4 true] [4] .ret)))⟩
noncomputable def dk(_:PUnit):Option Bool:=
 some true
noncomputable def Tb(p0:(List AN))(p1:(List AN))(L1:Int->Option Bool)(v2:Int):Option Bool:=
 br (decide (v2<(↑p0.length:Int)))
  (bd (at? p0 v2) fun x3=>
  bd (at? p1 v2) fun x4=>
  br (!(x3.At==x4.At&&(x3.Id==x4.Id&&true)))
   (some false)
   (L1 (w64 (v2+1))))
  (jn (dk) ())
noncomputable def mI(p0:(List AN))(p1:(List AN)):Option Bool:=
 br ((↑p0.length:Int) != (↑p1.length:Int))
  (some false)
  (AT (Tb p0 p1) big 0)
noncomputable def N0:GF:=zi.gf rfl rfl (fun a=>mI a.1 a.2.1) (fun a=>by kernel_rfl)
noncomputable def zj:YF:=⟨[],[.v (.l (.st 2)),.v .i],[],.ret [.i],[.tmp 4],
 sq [qK 4 0] [0,1] (sq [qK 5 0] (Kp 35) (.join [cv 5 .i] (sw 8 [wm 0,wZ,wj 0] (Kp 1826) (bl 0 [cv 5 .i,cv 10 .i] (sq [qb 11 .lss 10 9] (Kp 3874) (.seq (ce 11 (Kp 1826) [5] 0) (.join [cv 5 .i] (.block 1 (sr [wn 12 [we (.st 2) 8 10,wK 10],
 qn [.alloc 7 BM,qw 10 7 13]] (Kp 1954) (.join [cv 27 .b] (qr [wn 14 [wo 7 7,wL,wI .eql 2,wM],
 wt 17 18 [wo 1 7,wL,wm 1,wB .eql 19],
 wn 22 [wQ 17,wM],
 wt 23 24 [wo 3 7,wL,wc Af rfl [25,qj 1,qj 6]],
 qn [qq 27 23 26]] (Kp 134219682)) (.cond 27 [1,5,7,8,9,10] (Kp 1826) (qr [wn 28 [wm 5,wo 3 7,wL,wB .add 28],
 qn [qa 5 31]] (Kp 1826)) .skip)))) (q1 [qi 32 .add 10 1,qm 10 32] (Kp 1826))))))) (sq [qm 33 5,qa 4 33] [4] .ret)))⟩
noncomputable def Td(L1:(Int×Int)->Option Int)(v3:Int)(v7:Int):Option Int:=
 L1 ((v7,w64 (v3+1)))
noncomputable def PD(L1:(Int×Int)->Option Int)(v2:Int)(v3:Int)(x4:AI)(v6:Bool):Option Int:=
 br v6
  (jn (Td L1 v3) (w64 (v2+x4.As)))
  (jn (Td L1 v3) v2)
noncomputable def dm(v8:Int):Option Int:=
 some v8
noncomputable def Te(p0:(List AI))(p1:Int)(L1:(Int×Int)->Option Int)(x_:(Int×Int)):Option Int:=
 match x_ with
 |(v2,v3)=>br (decide (v3<(↑p0.length:Int)))
  (bd (at? p0 v3) fun x4=>
  br (x4.State==2)
   (br (x4.A4==p1)
    (bd (Ce x4.As 1 6) fun x5=>
    jn (PD L1 v2 v3 x4) x5)
    (jn (PD L1 v2 v3 x4) false))
   (jn (PD L1 v2 v3 x4) false))
  (jn (dm) v2)
noncomputable def Tc(p0:(List AI))(p1:Int):Option Int:=
 AT (Te p0 p1) big (0,0)
noncomputable def DK:GF:=zj.gf rfl rfl (fun a=>Tc a.1 a.2.1) (fun a=>by kernel_rfl)
noncomputable def zk:YF:=⟨[],[.v (.l (.st 2)),.v .i],[],.ret [.i],[.tmp 4],
 sq [qK 4 0] [0,1] (sq [qK 5 0] (Kp 35) (.join [cv 5 .i] (sw 8 [wm 0,wZ,wj 0] (Kp 1826) (bl 0 [cv 5 .i,cv 10 .i] (sq [qb 11 .lss 10 9] (Kp 3874) (.seq (ce 11 (Kp 1826) [5] 0) (.join [cv 5 .i] (.block 1 (sr [wn 12 [we (.st 2) 8 10,wK 10],
 qn [.alloc 7 BM,qw 10 7 13]] (Kp 1954) (.join [cv 22 .b] (qr [wn 14 [wo 2 7,wL,wm 1,wB .eql 15,wM],
 wt 18 19 [wo 3 7,wL,wc Af rfl [20,qj 1,qj 6]],
 qn [qq 22 18 21]] (Kp 4196258)) (.cond 22 [1,5,7,8,9,10] (Kp 1826) (qr [wn 23 [wm 5,wo 3 7,wL,wB .add 23],
 qn [qa 5 26]] (Kp 1826)) .skip)))) (q1 [qi 27 .add 10 1,qm 10 27] (Kp 1826))))))) (sq [qm 28 5,qa 4 28] [4] .ret)))⟩
noncomputable def Tg(L1:(Int×Int)->Option Int)(v3:Int)(v7:Int):Option Int:=
 L1 ((v7,w64 (v3+1)))
noncomputable def Tf(L1:(Int×Int)->Option Int)(v2:Int)(v3:Int)(x4:AI)(v6:Bool):Option Int:=
 br v6
  (jn (Tg L1 v3) (w64 (v2+x4.As)))
  (jn (Tg L1 v3) v2)
noncomputable def dn(v8:Int):Option Int:=
 some v8
noncomputable def Th(p0:(List AI))(p1:Int)(L1:(Int×Int)->Option Int)(x_:(Int×Int)):Option Int:=
 match x_ with
 |(v2,v3)=>br (decide (v3<(↑p0.length:Int)))
  (bd (at? p0 v3) fun x4=>
  br (x4.CB==p1)
   (bd (Ce x4.As 1 6) fun x5=>
   jn (Tf L1 v2 v3 x4) x5)
   (jn (Tf L1 v2 v3 x4) false))
  (jn (dn) v2)
noncomputable def Rf(p0:(List AI))(p1:Int):Option Int:=
 AT (Th p0 p1) big (0,0)
noncomputable def Cg:GF:=zk.gf rfl rfl (fun a=>Rf a.1 a.2.1) (fun a=>by kernel_rfl)
noncomputable def zl:YF:=⟨[],[.v (.st 1),.v (.st 7),.v (.l (.st 2)),.v .i,.v .i],[],.ret [.b],[.tmp 10],
 sq [qu 5 0,qu 6 1,qB 10 false] (Kp 124) (.join [cv 10 .b] (.A8 (qd 0 [wn 11 [wk 7 6,wY No rfl,wM],
 wt 13 14 [wo 5 6,wL,wk 9 5,wm 2,wm 3,wm 4]] (.op 9 (some (13,true)) [14] (.call 20 G4 [] rfl [(.tmp 16),(.tmp 17),(.tmp 18),(.tmp 19)])
 (qd 10 [qt 13 [qc 21 Nv rfl [15,20]],
 wn 22 [wQ 13,wM],
 wt 23 24 [wo 6 6,wK 1]] (qd 16 [wt 23 27 [wm 2,wm 3]] (.op 15 (some (23,true)) [] (.call 26 Nf [] rfl [(.tmp 25)])
 (qd 18 [wt 23 29 [wc Gz rfl [27,28],wc N0 rfl [26,29]],
 wn 31 [wQ 23,wM],
 wt 32 33 [wo 0 6,wO 2,wL,wm 2,wm 3]] (.op 27 (some (32,true)) [34] (.call 38 DK [] rfl [(.tmp 36),(.tmp 37)])
 (qd 28 [qt 32 [qb 39 .eql 35 38],
 wn 40 [wQ 32,wM],
 wt 41 42 [wo 0 6,wO 4,wL,wm 2,wm 3]] (.op 36 (some (41,true)) [43] (.call 47 Cg [] rfl [(.tmp 45),(.tmp 46)])
 (qd 37 [qt 41 [qb 48 .eql 44 47],
 qn [qq 49 41 48,qa 10 49]] .nil)))))))))) [10]) .ret)⟩
noncomputable def Im(v9:Bool):Option Bool:=
 some v9
noncomputable def mJ(p0:AO)(p1:Am)(p2:(List AI))(p3:Int)(p4:Int):Option Bool:=
 bd (l8 p1) fun x1=>
 br x1
  (bd (TQ p0 p2 p3 p4) fun x2=>
  bd (mD p1.Row x2) fun x3=>
  br x3
   (bd (lk p1.Gk) fun x4=>
   bd (TF p2 p3) fun x5=>
   bd (mI x4 x5) fun x6=>
   br x6
    (bd (Tc p2 p3) fun x7=>
    br (p1.AM.Eb==x7)
     (bd (Rf p2 p3) fun x8=>
     jn (Im) (p1.AM.M3==x8))
     (jn (Im) false))
    (jn (Im) false))
   (jn (Im) false))
  (jn (Im) false)
noncomputable def N1:GF:=zl.gf rfl rfl (fun a=>mJ a.1 a.2.1 a.2.2.1 a.2.2.2.1 a.2.2.2.2.1) (fun a=>by kernel_rfl)
noncomputable def zm:YF:=⟨[],[.v (.l .i),.v .i],[],.ret [.i],[.tmp 4],
 sq [qK 4 0] [0,1] (.join [] (sw 6 [wm 0,wZ,wj 0] (Kp 387) (bl 0 [cv 8 .i] (sq [qb 9 .lss 8 7] (Kp 899) (.seq (ce 9 (Kp 387) [] 0) (.seq (.block 1 (sq [qm 10 8,qa 5 10] (Kp 419) (sw 11 [wm 1,wm 0,wm 5,wE .i 12,wL,wB .eql 11] (Kp 65955) (.cond 16 [5] (Kp 387) (sq [qm 17 5,qa 4 17] [4] .ret) .skip)))) (q1 [qi 18 .add 8 1,qm 8 18] (Kp 387))))))) (sq [qK 4 (-1)] [4] .ret))⟩
noncomputable def dp(_:PUnit):Option Int:=
 some (-1)
noncomputable def Ti(p0:(List Int))(p1:Int)(L1:Int->Option Int)(v2:Int):Option Int:=
 br (decide (v2<(↑p0.length:Int)))
  (bd (at? p0 v2) fun x3=>
  br (p1==x3)
   (some v2)
   (L1 (w64 (v2+1))))
  (jn (dp) ())
noncomputable def qZ(p0:(List Int))(p1:Int):Option Int:=
 AT (Ti p0 p1) big 0
noncomputable def N2:GF:=zm.gf rfl rfl (fun a=>qZ a.1 a.2.1) (fun a=>by kernel_rfl)
noncomputable def zn:YF:=⟨[],[.v (.l .i),.v .i],[],.ret [.b],[.tmp 4],
 sq [qB 4 false] [0,1] (sr [wn 5 [wm 0,wm 1,wc N2 rfl [5,6],wI .geq 0],
 qn [qa 4 8]] [4] .ret)⟩
noncomputable def mK(p0:(List Int))(p1:Int):Option Bool:=
 bd (qZ p0 p1) fun x1=>
 some (decide (x1>=0))
noncomputable def N3:GF:=zn.gf rfl rfl (fun a=>mK a.1 a.2.1) (fun a=>by kernel_rfl)
noncomputable def zo:YF:=⟨[],[.v (.st 8)],[],.ret [.b],[.tmp 2],
 sq [qu 1 0,qB 2 false] [1] (sr [wn 14 [wo 0 1,wO 0,wL,wZ],
 qn [qa 3 17]] [1,3] (.seq (.join [cv 49 .b] (qr [wn 18 [wo 0 1,wK 9,wY Dg rfl,wX,wM],
 wf 22 23 [wo 9 1,wL,wc Af rfl [24,qj 0,qj 1000000],wX],
 wn 27 [wR 22,wM],
 wf 28 29 [wo 10 1,wL,wc Af rfl [30,qj 1,qj 1000001],wX],
 wn 33 [wR 28,wM],
 wf 34 35 [wo 12 1,wL,wZ,wm 3,wB .neq 37],
 wn 40 [wR 34,wM],
 wf 41 42 [wo 14 1,wL,wZ,wo 0 1,wO 8,wL,wB .neq 44],
 qn [qp 49 41 48]] [1,3,49]) (cn 49 [1,3] (sq [qB 2 false] [2] .ret))) (.seq (sw 50 [wo 11 1,wL,wZ,wI .gtr 40] [1,3,53] (cn 53 [1,3] (sq [qB 2 false] [2] .ret))) (.join [] (sw 54 [wo 11 1,wL,wZ,wj 0] [1,3,55,56,57] (bl 0 [cv 57 .i] (sq [qb 58 .lss 57 56] [1,3,55,56,57,58] (.seq (ce 58 [1,3,55,56,57] [1,3] 0) (.join [] (.block 1 (sr [wn 59 [wm 57,we (.st 2) 55 57,wK 10],
 qn [.alloc 5 BM,qa 4 59,qw 10 5 61]] (Kp 252201579132747834) (.seq (.join [cv 91 .b] (.A8 (qd 0 [wn 62 [wo 0 1,wK 9,wk 10 5,wo 9 1,wL,wc Gx rfl [63,64,66],wX,wM],
 wf 69 70 [wo 6 5,wL,wo 10 1,wL,wB .geq 71],
 wn 75 [wR 69,wM],
 wf 76 77 [wm 4,wI .gtr 0,wM],
 wt 79 80 [wo 11 1,wL,wm 4,wI .sub 1,wE (.st 2) 81,wO 0,wL,wo 0 5,wL,wB .geq 86],
 qf 76 [qq 90 79 89],
 qn [qp 91 76 90]] .nil) [1,3,4,5,55,56,57,91]) (cn 91 (Kp 252201579132747834) (sq [qB 2 false] [2] .ret))) (sw 92 [wo 11 1,wL,wm 4,wh (.sub · (.st 2) (.tmp 93) none (some (.tmp 94))),wZ,wj 0] [1,3,5,55,56,57,95,96,97] (bl 2 [cv 97 .i] (sq [qb 98 .lss 97 96] (Kp 594211218857234733530712375338) (.seq (ce 98 [1,3,5,55,56,57,95,96,97] [1,3,55,56,57] 2) (.seq (.block 3 (sr [wn 99 [we (.st 2) 95 97,wK 10],
 qn [.alloc 7 BM,qw 10 7 100]] (Kp 277298568800177383156536574122) (.join [cv 133 .b] (qr [wn 101 [wo 6 5,wL,wo 6 7,wL,wB .eql 102,wM],
 wf 106 107 [wo 6 5,wL,wo 6 7,wL,wB .lss 108,wM],
 wt 112 113 [wo 5 5,wL,wo 5 7,wL,wB .gtr 114],
 qf 106 [qq 118 112 117],
 wn 119 [wR 106,wM],
 wf 120 121 [wo 6 7,wL,wo 6 5,wL,wB .lss 122,wM],
 wt 126 127 [wo 5 7,wL,wo 5 5,wL,wB .gtr 128],
 qf 120 [qq 132 126 131],
 qn [qp 133 120 132]] [1,3,5,55,56,57,95,96,97,133]) (cn 133 [1,3,5,55,56,57,95,96,97] (sq [qB 2 false] [2] .ret))))) (q1 [qi 134 .add 97 1,qm 97 134] [1,3,5,55,56,57,95,96,97]))))))))) (q1 [qi 135 .add 57 1,qm 57 135] [1,3,55,56,57])))))) (.join [] (sw 136 [wo 12 1,wL,wZ,wj 0] [1,3,137,138,139] (bl 4 [cv 139 .i] (sq [qb 140 .lss 139 138] [1,3,137,138,139,140] (.seq (ce 140 [1,3,137,138,139] [1,3] 4) (.seq (.block 5 (sr [wn 141 [wm 139,we (.st 7) 137 139,wK 7],
 qn [.alloc 9 Cn,.Av [(.cell 9 5,(.st 4)),(.cell 9 6,(.l (.st 5)))],qa 8 141,qw 7 9 143]] [1,3,8,9,137,138,139] (.join [cv 175 .b] (.A8 (qd 0 [wn 144 [wo 0 9,wO 0,wL,wo 0 1,wO 0,wL,wm 8,wE .i 149,wL,wB .neq 146,wM],
 wf 154 155 [wo 11 1,wL,wm 8]] (qd 15 [wf 154 159 [wo 0 1,wO 2,wL]] (.op 14 (some (154,false)) [160] (.call 158 Uq [] rfl [(.tmp 156),(.tmp 157)])
 (qd 18 [qf 154 [qb 162 .gtr 158 161],
 wn 163 [wR 154,wM],
 wf 164 165 [wo 0 1,wK 9,wk 7 9,wo 11 1,wL,wm 8,wo 9 1,wL,wc N1 rfl [166,167,169,170,172],wX],
 qn [qp 175 164 174]] .nil)))) [1,3,137,138,139,175]) (cn 175 [1,3,137,138,139] (sq [qB 2 false] [2] .ret))))) (q1 [qi 176 .add 139 1,qm 139 176] [1,3,137,138,139])))))) (.join [] (sw 177 [wo 13 1,wL,wZ,wj 0] [1,3,178,179,180] (bl 6 [cv 180 .i] (sq [qb 181 .lss 180 179] [1,3,178,179,180,181] (.seq (ce 181 [1,3,178,179,180] [1,3] 6) (.seq (.block 7 (sr [wn 182 [wm 180,we .i 178 180,wL],
 qn [qa 10 182,qa 11 184]] [1,3,10,11,178,179,180] (.join [cv 196 .b] (qr [wn 185 [wm 11,wm 3,wc DB rfl [185,186],wX,wM],
 wf 189 190 [wo 13 1,wL,wm 10,wh (.sub · .i (.tmp 191) none (some (.tmp 192))),wm 11,wc N3 rfl [193,194]],
 qn [qp 196 189 195]] [1,3,178,179,180,196]) (cn 196 [1,3,178,179,180] (sq [qB 2 false] [2] .ret))))) (q1 [qi 197 .add 180 1,qm 180 197] [1,3,178,179,180])))))) (.join [] (sw 198 [wo 14 1,wL,wZ,wj 0] [3,199,200,201] (bl 8 [cv 201 .i] (sq [qb 202 .lss 201 200] [3,199,200,201,202] (.seq (ce 202 [3,199,200,201] [] 8) (.seq (.block 9 (sr [wn 203 [we .i 199 201,wL],
 qn [qa 13 204]] [3,13,199,200,201] (sw 205 [wm 13,wm 3,wI .sub 1,wc Af rfl [205,qj (-1),207],wX] [3,199,200,201,209] (cn 209 [3,199,200,201] (sq [qB 2 false] [2] .ret))))) (q1 [qi 210 .add 201 1,qm 201 210] [3,199,200,201])))))) (sq [qB 2 true] [2] .ret))))))))⟩
noncomputable def Fo(L8:Int->Option Bool)(v9:Int)(v11:Bool):Option Bool:=
 br v11
  (some false)
  (L8 (w64 (v9+1)))
noncomputable def dq(L3:Int->Option Bool)(v4:Int)(_:PUnit):Option Bool:=
 L3 (w64 (v4+1))
noncomputable def Tl(p0:AF)(L3:Int->Option Bool)(v4:Int)(x5:AI)(L8:Int->Option Bool)(v9:Int):Option Bool:=
 br (decide (v9<(↑(List.take v4.toNat p0.AE).length:Int)))
  (bd (at? (List.take v4.toNat p0.AE) v9) fun x10=>
  br (x5.Ah==x10.Ah)
   (jn (Fo L8 v9) true)
   (br (decide (x5.Ah<x10.Ah))
    (br (decide (x5.Since>x10.Since))
     (jn (Fo L8 v9) true)
     (br (decide (x10.Ah<x5.Ah))
      (jn (Fo L8 v9) (decide (x10.Since>x5.Since)))
      (jn (Fo L8 v9) false)))
    (br (decide (x10.Ah<x5.Ah))
     (jn (Fo L8 v9) (decide (x10.Since>x5.Since)))
     (jn (Fo L8 v9) false))))
  (jn (dq L3 v4) ())
noncomputable def Io(p0:AF)(L3:Int->Option Bool)(v4:Int)(x5:AI)(v7:Bool):Option Bool:=
 br v7
  (some false)
  (gd (0<=v4/\v4<=(↑p0.AE.length:Int)) (
  AT (Tl p0 L3 v4 x5) big 0))
noncomputable def Ks(L13:Int->Option Bool)(v14:Int)(v17:Bool):Option Bool:=
 br v17
  (some false)
  (L13 (w64 (v14+1)))
noncomputable def Qm(L20:Int->Option Bool)(v21:Int)(v24:Bool):Option Bool:=
 br v24
  (some false)
  (L20 (w64 (v21+1)))
noncomputable def X2(_:PUnit):Option Bool:=
 some true
noncomputable def Qo(p0:AF)(L26:Int->Option Bool)(v27:Int):Option Bool:=
 br (decide (v27<(↑p0.BC.length:Int)))
  (bd (at? p0.BC v27) fun x28=>
  bd (Ce x28 (-1) (w64 ((↑p0.AS.AM.length:Int)-1))) fun x29=>
  br (!x29)
   (some false)
   (L26 (w64 (v27+1))))
  (jn (X2) ())
noncomputable def Mh(p0:AF)(_:PUnit):Option Bool:=
 AT (Qo p0) big 0
noncomputable def Qn(p0:AF)(L20:Int->Option Bool)(v21:Int):Option Bool:=
 br (decide (v21<(↑p0.A7.length:Int)))
  (bd (at? p0.A7 v21) fun x22=>
  bd (ZL x22 (↑p0.AS.AM.length:Int)) fun x23=>
  br (!x23)
   (jn (Qm L20 v21) true)
   (gd (0<=v21/\v21<=(↑p0.A7.length:Int)) (
   bd (mK (List.take v21.toNat p0.A7) x22) fun x25=>
   jn (Qm L20 v21) x25)))
  (jn (Mh p0) ())
noncomputable def Mg(p0:AF)(_:PUnit):Option Bool:=
 AT (Qn p0) big 0
noncomputable def Tm(p0:AF)(L13:Int->Option Bool)(v14:Int):Option Bool:=
 br (decide (v14<(↑p0.AR.length:Int)))
  (bd (at? p0.AR v14) fun x15=>
  bd (at? p0.AS.AM v14) fun x16=>
  br (x15.AM.Total != x16)
   (jn (Ks L13 v14) true)
   (bd (uW p0.AE v14) fun x18=>
   br (decide (x18>p0.AS.Room))
    (jn (Ks L13 v14) true)
    (bd (mJ p0.AS x15 p0.AE v14 p0.Now) fun x19=>
    jn (Ks L13 v14) (!x19))))
  (jn (Mg p0) ())
noncomputable def PE(p0:AF)(_:PUnit):Option Bool:=
 AT (Tm p0) big 0
noncomputable def Tk(p0:AF)(L3:Int->Option Bool)(v4:Int):Option Bool:=
 br (decide (v4<(↑p0.AE.length:Int)))
  (bd (at? p0.AE v4) fun x5=>
  bd (oT p0.AS x5 p0.Now) fun x6=>
  br (!x6)
   (jn (Io p0 L3 v4 x5) true)
   (br (decide (x5.Ah>=p0.Ah))
    (jn (Io p0 L3 v4 x5) true)
    (br (decide (v4>0))
     (bd (at? p0.AE (w64 (v4-1))) fun x12=>
     jn (Io p0 L3 v4 x5) (decide (x12.Id>=x5.Id)))
     (jn (Io p0 L3 v4 x5) false))))
  (jn (PE p0) ())
noncomputable def Fm(p0:AF)(v2:Bool):Option Bool:=
 br v2
  (some false)
  (br (decide ((↑p0.AE.length:Int)>40))
   (some false)
   (AT (Tk p0) big 0))
noncomputable def Tj(p0:AF):Option Bool:=
 bd (cV p0.AS) fun x1=>
 br (!x1)
  (jn (Fm p0) true)
  (bd (Ce p0.Now 0 1000000) fun x30=>
  br (!x30)
   (jn (Fm p0) true)
   (bd (Ce p0.Ah 1 1000001) fun x31=>
   br (!x31)
    (jn (Fm p0) true)
    (br ((↑p0.AR.length:Int) != (↑p0.AS.AM.length:Int))
     (jn (Fm p0) true)
     (jn (Fm p0) ((↑p0.BC.length:Int) != p0.AS.Bd)))))
noncomputable def Dh:GF:=zo.gf rfl rfl (fun a=>Tj a.1) (fun a=>by kernel_rfl)
noncomputable def Kf(p0:Int):Option Bool:=
 bd (Ce p0 0 9999) fun x1=>
 some x1
noncomputable def Ok(p0:QS)(p1:QS):Option Bool:=
 br (p0.Kind != p1.Kind)
  (some false)
  (br (p0.Id != p1.Id)
   (some false)
   (br (p0.A4 != p1.A4)
    (some false)
    (br (p0.CB != p1.CB)
     (some false)
     (br (p0.As != p1.As)
      (some false)
      (br (p0.CX != p1.CX)
       (some false)
       (some true))))))
noncomputable def zp:YF:=⟨[],[.v (.st 1)],[],.ret [(.l .i)],[.tmp 2],
 sq [qu 1 0,.as 2 (.k .nil),.Av [(.tmp 2 0,.i)]] [1] (.seq (sw 3 [wk 9 1,wY Dv rfl,wX] [1,5] (cn 5 [1] (sq [.AW 6 0 .i [],qa 2 6] [2] .ret))) (sr [wn 7 [wo 1 1,wL,wo 2 1,wL,wo 3 1,wL,wo 4 1,wL,wo 5 1,wL,wo 6 1,wL,wo 7 1,wL,wo 8 1,wL,wh (.AW · 8 .i [(0,(.tmp 8)),(1,(.tmp 10)),(2,(.tmp 12)),(3,(.tmp 14)),(4,(.tmp 16)),(5,(.tmp 18)),(6,(.tmp 20)),(7,(.tmp 22))]),wo 0 1,wL,wh (.app · .i true (.tmp 23) (.tmp 25))],
 qn [qa 2 26]] [2] .ret))⟩
noncomputable def mL(p0:AO):Option (List Int):=
 bd (ZO p0) fun x1=>
 br (!x1)
  (some [])
  (gd ([p0.BG,p0.Room,p0.As,p0.A2,p0.Ax,p0.Rest,p0.BA,p0.Bd].length+p0.AM.length<=lim) (
  some ([p0.BG,p0.Room,p0.As,p0.A2,p0.Ax,p0.Rest,p0.BA,p0.Bd]++p0.AM)))
noncomputable def jL:GF:=zp.gf rfl rfl (fun a=>mL a.1) (fun a=>by kernel_rfl)
noncomputable def zq:YF:=⟨[],[.v (.st 8)],[],.ret [(.l .i)],[.tmp 2],
 sq [qu 1 0,.as 2 (.k .nil),.Av [(.tmp 2 0,.i)]] [1] (.seq (sw 9 [wk 15 1,wY Fq rfl,wX] [1,11] (cn 11 [1] (sq [.AW 12 0 .i [],qa 2 12] [2] .ret))) (sr [wn 13 [wo 0 1,wK 9,wY jL rfl],
 qn [qa 3 15]] [1,3] (sr [wn 16 [wm 3,wZ,wh (.AW · 1 .i [(0,(.tmp 17))]),wm 3,wh (.app · .i true (.tmp 18) (.tmp 19))],
 qn [qa 4 20]] [1,4] (sr [wn 21 [wm 4,wo 9 1,wL,wo 10 1,wL,wo 11 1,wL,wZ,wh (.AW · 3 .i [(0,(.tmp 23)),(1,(.tmp 25)),(2,(.tmp 28))]),wh (.app · .i true (.tmp 21) (.tmp 29))],
 qn [qa 4 30]] [1,4] (.join [cv 4 (.l .i)] (sq [qK 5 0] (Kp 50) (bl 0 [cv 4 (.l .i),cv 5 .i] (.seq (sw 31 [wm 5,wo 11 1,wL,wZ,wB .lss 31] [1,4,5,35] (ce 35 (Kp 50) [1,4] 0)) (.seq (.block 1 (sr [wn 38 [wo 11 1,wL,wm 5,wE (.st 2) 39,wK 10],
 qn [.alloc 6 BM,qw 10 6 42]] (Kp 114) (qr [wn 43 [wm 4,wo 0 6,wL,wo 1 6,wL,wo 2 6,wL,wI .add 1,wo 3 6,wL,wo 4 6,wL,wo 5 6,wL,wo 6 6,wL,wo 7 6,wL,wo 8 6,wL,wo 9 6,wL,wh (.AW · 10 .i [(0,(.tmp 45)),(1,(.tmp 47)),(2,(.tmp 50)),(3,(.tmp 52)),(4,(.tmp 54)),(5,(.tmp 56)),(6,(.tmp 58)),(7,(.tmp 60)),(8,(.tmp 62)),(9,(.tmp 64))]),wh (.app · .i true (.tmp 43) (.tmp 65))],
 qn [qa 4 66]] (Kp 50)))) (qr [wn 36 [wm 5,wI .add 1],
 qn [qa 5 37]] (Kp 50)))))) (.join [cv 4 (.l .i)] (sq [qK 7 0] (Kp 146) (bl 2 [cv 4 (.l .i),cv 7 .i] (.seq (sw 67 [wm 7,wo 12 1,wL,wZ,wB .lss 67] [1,4,7,71] (ce 71 (Kp 146) [1,4] 2)) (.seq (.block 3 (qr [wn 74 [wm 4,wo 12 1,wL,wm 7,wE (.st 7) 76,wO 0,wO 1,wL,wh (.AW · 1 .i [(0,(.tmp 81))]),wh (.app · .i true (.tmp 74) (.tmp 82))],
 qn [qa 4 83]] (Kp 146))) (qr [wn 72 [wm 7,wI .add 1],
 qn [qa 7 73]] (Kp 146)))))) (sr [wn 84 [wm 4,wo 13 1,wL,wZ,wh (.AW · 1 .i [(0,(.tmp 87))]),wh (.app · .i true (.tmp 84) (.tmp 88))],
 qn [qa 4 89]] [1,4] (sr [wn 90 [wm 4,wo 13 1,wL,wh (.app · .i true (.tmp 90) (.tmp 92))],
 qn [qa 4 93]] [1,4] (.join [cv 4 (.l .i)] (sq [qK 8 0] (Kp 274) (bl 4 [cv 4 (.l .i),cv 8 .i] (.seq (sw 94 [wm 8,wo 14 1,wL,wZ,wB .lss 94] [1,4,8,98] (ce 98 (Kp 274) [4] 4)) (.seq (.block 5 (qr [wn 101 [wm 4,wo 14 1,wL,wm 8,wE .i 103,wL,wI .add 1,wh (.AW · 1 .i [(0,(.tmp 107))]),wh (.app · .i true (.tmp 101) (.tmp 108))],
 qn [qa 4 109]] (Kp 274))) (qr [wn 99 [wm 8,wI .add 1],
 qn [qa 8 100]] (Kp 274)))))) (sq [qm 110 4,qa 2 110] [2] .ret))))))))))⟩
noncomputable def dt(v17:(List Int)):Option (List Int):=
 some v17
noncomputable def Tp(p0:AF)(L13:((List Int)×Int)->Option (List Int))(x_:((List Int)×Int)):Option (List Int):=
 match x_ with
 |(v14,v15)=>br (decide (v15<(↑p0.BC.length:Int)))
  (bd (at? p0.BC v15) fun x16=>
  gd (List.length v14+[w64 (x16+1)].length<=lim) (
  L13 ((v14++[w64 (x16+1)],w64 (v15+1)))))
  (jn (dt) v14)
noncomputable def PG(p0:AF)(v12:(List Int)):Option (List Int):=
 gd (v12.length+[(↑p0.A7.length:Int)].length<=lim) (
 gd ((v12++[(↑p0.A7.length:Int)]).length+p0.A7.length<=lim) (
 AT (Tp p0) big ((v12++[(↑p0.A7.length:Int)]++p0.A7,0))))
noncomputable def To(p0:AF)(L8:((List Int)×Int)->Option (List Int))(x_:((List Int)×Int)):Option (List Int):=
 match x_ with
 |(v9,v10)=>br (decide (v10<(↑p0.AR.length:Int)))
  (bd (at? p0.AR v10) fun x11=>
  gd (List.length v9+[x11.AM.Co].length<=lim) (
  L8 ((v9++[x11.AM.Co],w64 (v10+1)))))
  (jn (PG p0) v9)
noncomputable def PF(p0:AF)(v7:(List Int)):Option (List Int):=
 AT (To p0) big (v7,0)
noncomputable def Tn(p0:AF)(L3:((List Int)×Int)->Option (List Int))(x_:((List Int)×Int)):Option (List Int):=
 match x_ with
 |(v4,v5)=>br (decide (v5<(↑p0.AE.length:Int)))
  (bd (at? p0.AE v5) fun x6=>
  gd (List.length v4+[x6.Id,x6.A4,w64 (x6.CB+1),x6.As,x6.CX,x6.Since,x6.Ah,x6.State,x6.BW,x6.CA].length<=lim) (
  L3 ((v4++[x6.Id,x6.A4,w64 (x6.CB+1),x6.As,x6.CX,x6.Since,x6.Ah,x6.State,x6.BW,x6.CA],w64 (v5+1)))))
  (jn (PF p0) v4)
noncomputable def Rg(p0:AF):Option (List Int):=
 bd (Qd p0) fun x1=>
 br (!x1)
  (some [])
  (bd (mL p0.AS) fun x2=>
  gd ([(↑(List.length x2):Int)].length+List.length x2<=lim) (
  gd (([(↑(List.length x2):Int)]++x2).length+[p0.Now,p0.Ah,(↑p0.AE.length:Int)].length<=lim) (
  AT (Tn p0) big (([(↑(List.length x2):Int)]++x2++[p0.Now,p0.Ah,(↑p0.AE.length:Int)],0)))))
noncomputable def Uu:GF:=zq.gf rfl rfl (fun a=>Rg a.1) (fun a=>by kernel_rfl)
noncomputable def Ij(x_:(Int×(List UInt8))):Option (List UInt8):=
 match x_ with
 |(v5,v6)=>gd (v6.length+[toB v5].length<=lim) (
 some (v6++[toB v5]))
noncomputable def Ik(L2:(Int×(List UInt8))->Option (List UInt8))(x_:(Int×(List UInt8))):Option (List UInt8):=
 match x_ with
 |(v3,v4)=>br (decide (v3>127))
  (gd (v4.length+[toB (w64 (Int.tmod v3 128+128))].length<=lim) (
  L2 ((w64 (Int.tdiv v3 128),v4++[toB (w64 (Int.tmod v3 128+128))]))))
  (jn (Ij) (v3,v4))
noncomputable def Fg(p0:Int):Option (List UInt8):=
 bd (CY p0 0 2147483647) fun x1=>
 br (!x1)
  (some [])
  (AT (Ik) big (p0,[]))
noncomputable def Hp(v6:(List UInt8)):Option (List UInt8):=
 some v6
noncomputable def Ee(p0:(List Int))(L1:((List UInt8)×Int)->Option (List UInt8))(x_:((List UInt8)×Int)):Option (List UInt8):=
 match x_ with
 |(v2,v3)=>br (decide (v3<(↑p0.length:Int)))
  (bd (at? p0 v3) fun x4=>
  bd (Fg x4) fun x5=>
  gd (List.length v2+List.length x5<=lim) (
  L1 ((v2++x5,w64 (v3+1)))))
  (jn (Hp) v2)
noncomputable def Gr(p0:(List Int)):Option (List UInt8):=
 AT (Ee p0) big ([],0)
noncomputable def IG(L5:(Int×Int)->Option Int)(v7:Int)(v8:Int):Option Int:=
 L5 ((v8,w64 (v7+1)))
noncomputable def NC(L1:(Int×Int)->Option Int)(v3:Int)(v9:Int):Option Int:=
 L1 ((v9,w64 (v3+1)))
noncomputable def II(L1:(Int×Int)->Option Int)(v3:Int)(L5:(Int×Int)->Option Int)(x_:(Int×Int)):Option Int:=
 match x_ with
 |(v6,v7)=>br (decide (v7<8))
  (br (Int.tmod v6 2==1)
   (jn (IG L5 v7) (NA (w64 (Int.tdiv v6 2)) 3988292384))
   (jn (IG L5 v7) (w64 (Int.tdiv v6 2))))
  (jn (NC L1 v3) v6)
noncomputable def ND(v10:Int):Option Int:=
 some (NA v10 4294967295)
noncomputable def IH(p0:(List UInt8))(L1:(Int×Int)->Option Int)(x_:(Int×Int)):Option Int:=
 match x_ with
 |(v2,v3)=>br (decide (v3<(↑p0.length:Int)))
  (bd (at? p0 v3) fun x4=>
  AT (II L1 v3) big ((NA v2 (w64 (↑(UInt8.toNat x4):Int)),0)))
  (jn (ND) v2)
noncomputable def NX(p0:(List UInt8)):Option Int:=
 AT (IH p0) big (4294967295,0)
noncomputable def NF(p0:Int):Option (List UInt8):=
 some ([toB (BE p0 24),toB (BE p0 16),toB (BE p0 8),toB p0])
noncomputable def EJ(p0:AF)(p1:Int)(v2:Bool):Option (List UInt8):=
 br v2
  (some [])
  (bd (Rg p0) fun x3=>
  gd ([p1].length+List.length x3<=lim) (
  bd (Gr ([p1]++x3)) fun x4=>
  bd (NX x4) fun x5=>
  bd (NF x5) fun x6=>
  gd (List.length x6+List.length x4<=bL) (
  some (x6++x4))))
noncomputable def Fx(p0:AF)(p1:Int):Option (List UInt8):=
 bd (Qd p0) fun x1=>
 br (!x1)
  (jn (EJ p0 p1) true)
  (bd (CY p1 0 1000000) fun x7=>
  jn (EJ p0 p1) (!x7))
end Lv
