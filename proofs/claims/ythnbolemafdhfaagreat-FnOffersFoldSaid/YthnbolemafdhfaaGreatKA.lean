/-
  Printed: functions of the program as texts of the typed machine, as plain functions, and that the one is the other.
-/
import Derived.Test.YthnbolemafdhfaaGreatTB
import Derived.KernelRfl
set_option linter.unusedVariables false
set_option linter.unusedSimpArgs false
set_option linter.unusedSectionVars false
set_option maxRecDepth 100000
namespace Lv
open Go (IntKind BinOp UnOp)
open Y (YF qn qf qt qr q1 qd qm qa qo ql qL qb qi qx qp qq qc qz qe qk qK qB qw qu qj Kp wn wf wt w1 sw sq sr wm wM wo wO wl wL wk wK wz wZ wx wX wb wB wi wI wr wR wq wQ we wE wc wY wj wh cv ca cx cn ce bl)
noncomputable def AB3:YF:=⟨[],[.v .i,.v .i,.v .i],[],.ret [.b],[.tmp 6],
 sq [qB 6 false] (Kp 7) (.join [cv 6 .b] (qr [wn 7 [wm 0,wm 1,wB .geq 7,wM],
 wt 10 11 [wm 0,wm 2,wB .leq 11],
 qn [qq 14 10 13,qa 6 14]] [6]) .ret)⟩
noncomputable def Qq(v1:Bool):Option Bool:=
 some v1
noncomputable def CN(p0:Int)(p1:Int)(p2:Int):Option Bool:=
 br (decide (p0>=p1))
  (jn (Qq) (decide (p0<=p2)))
  (jn (Qq) false)
noncomputable def Ax:GF:=AB3.gf rfl rfl (fun a=>CN a.1 a.2.1 a.2.2.1) (fun a=>by kernel_rfl)
noncomputable def AB4:YF:=⟨[],[.v (.st 1)],[],.ret [.b],[.tmp 2],
 sq [qu 1 0,qB 2 false] [1] (.seq (.join [cv 32 .b] (qr [wn 4 [wo 0 1,wL,wZ,wc Ax rfl [6,qj 1,qj 4],wX,wM],
 wf 9 10 [wo 1 1,wL,wc Ax rfl [11,qj 1,qj 5],wX],
 wn 14 [wR 9,wM],
 wf 15 16 [wo 2 1,wL,wc Ax rfl [17,qj 1,qj 10],wX],
 wn 20 [wR 15,wM],
 wf 21 22 [wo 3 1,wL,wc Ax rfl [23,qj 1,qj 6],wX],
 wn 26 [wR 21,wM],
 wf 27 28 [wo 4 1,wL,wc Ax rfl [29,qj 1,qj 12],wX],
 qn [qp 32 27 31]] [1,32]) (cn 32 [1] (sq [qB 2 false] [2] .ret))) (.join [] (sq [qK 3 0] [1,3] (bl 0 [cv 3 .i] (.seq (sw 33 [wm 3,wo 0 1,wL,wZ,wB .lss 33] [1,3,37] (ce 37 [1,3] [1] 0)) (.seq (.block 1 (sw 40 [wo 0 1,wL,wm 3,wE .i 41,wL,wc Ax rfl [44,qj 1,qj 60],wX] [1,3,46] (cn 46 [1,3] (sq [qB 2 false] [2] .ret)))) (qr [wn 38 [wm 3,wI .add 1],
 qn [qa 3 39]] [1,3]))))) (.join [cv 2 .b] (qr [wn 47 [wo 5 1,wL,wc Ax rfl [48,qj 1,qj 8],wM],
 wt 50 51 [wo 6 1,wL,wc Ax rfl [52,qj 0,qj 8]],
 wn 54 [wQ 50,wM],
 wt 55 56 [wo 7 1,wL,wc Ax rfl [57,qj 1,qj 4]],
 wn 59 [wQ 55,wM],
 wt 60 61 [wo 8 1,wL,wc Ax rfl [62,qj 1,qj 3]],
 qn [qq 64 60 63,qa 2 64]] [2]) .ret)))⟩
noncomputable def Nb(v11:Bool):Option Bool:=
 some v11
noncomputable def j7(p0:AN)(_:PUnit):Option Bool:=
 bd (CN p0.BI 1 8) fun x7=>
 br x7
  (bd (CN p0.Rest 0 8) fun x8=>
  br x8
   (bd (CN p0.BF 1 4) fun x9=>
   br x9
    (bd (CN p0.Cc 1 3) fun x10=>
    jn (Nb) x10)
    (jn (Nb) false))
   (jn (Nb) false))
  (jn (Nb) false)
noncomputable def Xu(p0:AN)(L3:Int->Option Bool)(v4:Int):Option Bool:=
 br (decide (v4<(↑p0.AM.length:Int)))
  (bd (at? p0.AM v4) fun x5=>
  bd (CN x5 1 60) fun x6=>
  br (!x6)
   (some false)
   (L3 (w64 (v4+1))))
  (jn (j7 p0) ())
noncomputable def I3(p0:AN)(v2:Bool):Option Bool:=
 br v2
  (some false)
  (Ap (Xu p0) big 0)
noncomputable def fc(p0:AN):Option Bool:=
 bd (CN (↑p0.AM.length:Int) 1 4) fun x1=>
 br (!x1)
  (jn (I3 p0) true)
  (bd (CN p0.Bq 1 5) fun x12=>
  br (!x12)
   (jn (I3 p0) true)
   (bd (CN p0.Room 1 10) fun x13=>
   br (!x13)
    (jn (I3 p0) true)
    (bd (CN p0.AY 1 6) fun x14=>
    br (!x14)
     (jn (I3 p0) true)
     (bd (CN p0.CI 1 12) fun x15=>
     jn (I3 p0) (!x15)))))
noncomputable def Hd:GF:=AB4.gf rfl rfl (fun a=>fc a.1) (fun a=>by kernel_rfl)
noncomputable def AB5:YF:=⟨[],[.v (.st 1),.v (.st 2),.v .i],[],.ret [.b],[.tmp 6],
 sq [qu 3 0,qu 4 1,qB 6 false] (Kp 28) (.seq (.join [cv 47 .b] (qr [wn 7 [wk 9 3,wY Hd rfl,wX,wM],
 wf 10 11 [wm 2,wc Ax rfl [11,qj 0,qj 1000000],wX],
 wn 14 [wR 10,wM],
 wf 15 16 [wo 0 4,wL,wc Ax rfl [17,qj 1,qj 999],wX],
 wn 20 [wR 15,wM],
 wf 21 22 [wo 1 4,wL,wo 0 3,wL,wZ,wI .sub 1,wc Ax rfl [23,qj 0,27],wX],
 wn 30 [wR 21,wM],
 wf 31 32 [wo 2 4,wL,wo 0 3,wL,wZ,wI .sub 1,wc Ax rfl [33,qj (-1),37],wX],
 wn 40 [wR 31,wM],
 wf 41 42 [wo 2 4,wL,wo 1 4,wL,wB .eql 43],
 qn [qp 47 41 46]] [2,3,4,47]) (cn 47 (Kp 28) (sq [qB 6 false] [6] .ret))) (.seq (.join [cv 84 .b] (qr [wn 48 [wo 3 4,wL,wo 3 3,wL,wc Ax rfl [49,qj 1,51],wX,wM],
 wf 54 55 [wo 4 4,wL,wo 1 3,wL,wI .sub 1,wc Ax rfl [56,qj 0,59],wX],
 wn 62 [wR 54,wM],
 wf 63 64 [wo 5 4,wL,wm 2,wc Ax rfl [65,qj 0,66],wX],
 wn 69 [wR 63,wM],
 wf 70 71 [wo 6 4,wL,wc Ax rfl [72,qj 1,qj 1000000],wX],
 wn 75 [wR 70,wM],
 wf 76 77 [wo 9 4,wL,wo 7 3,wL,wI .sub 1,wc Ax rfl [78,qj 0,81],wX],
 qn [qp 84 76 83]] [2,3,4,84]) (cn 84 (Kp 28) (sq [qB 6 false] [6] .ret))) (.join [cv 6 .b] (qr [wn 85 [wo 7 4,wL,wI .eql 1,wM],
 wt 88 89 [wo 8 4,wL,wm 2,wo 6 3,wL,wB .add 91,wc Ax rfl [90,qj 0,94]],
 wn 96 [wQ 88,wM],
 wf 97 98 [wo 7 4,wL,wI .eql 2,wM],
 wt 101 102 [wo 8 4,wL,wm 2,wo 5 3,wL,wB .add 104,wc Ax rfl [103,qj 1,107]],
 qf 97 [qq 109 101 108],
 qn [qp 110 97 109,qa 6 110]] [6]) .ret)))⟩
noncomputable def Lb(v6:Bool):Option Bool:=
 some v6
noncomputable def I4(p0:AN)(p1:AH)(p2:Int)(v4:Bool):Option Bool:=
 br v4
  (some false)
  (br (p1.State==1)
   (bd (CN p1.Bh 0 (w64 (p2+p0.Rest))) fun x5=>
   br x5
    (jn (Lb) true)
    (br (p1.State==2)
     (bd (CN p1.Bh 1 (w64 (p2+p0.BI))) fun x7=>
     jn (Lb) x7)
     (jn (Lb) false)))
   (br (p1.State==2)
    (bd (CN p1.Bh 1 (w64 (p2+p0.BI))) fun x8=>
    jn (Lb) x8)
    (jn (Lb) false)))
noncomputable def HV(p0:AN)(p1:AH)(p2:Int)(v2:Bool):Option Bool:=
 br v2
  (some false)
  (bd (CN p1.AY 1 p0.AY) fun x3=>
  br (!x3)
   (jn (I4 p0 p1 p2) true)
   (bd (CN p1.Bb 0 (w64 (p0.Bq-1))) fun x9=>
   br (!x9)
    (jn (I4 p0 p1 p2) true)
    (bd (CN p1.Since 0 p2) fun x10=>
    br (!x10)
     (jn (I4 p0 p1 p2) true)
     (bd (CN p1.AQ 1 1000000) fun x11=>
     br (!x11)
      (jn (I4 p0 p1 p2) true)
      (bd (CN p1.Ba 0 (w64 (p0.BF-1))) fun x12=>
      jn (I4 p0 p1 p2) (!x12))))))
noncomputable def m0(p0:AN)(p1:AH)(p2:Int):Option Bool:=
 bd (fc p0) fun x1=>
 br (!x1)
  (jn (HV p0 p1 p2) true)
  (bd (CN p2 0 1000000) fun x13=>
  br (!x13)
   (jn (HV p0 p1 p2) true)
   (bd (CN p1.Id 1 999) fun x14=>
   br (!x14)
    (jn (HV p0 p1 p2) true)
    (bd (CN p1.AK 0 (w64 ((↑p0.AM.length:Int)-1))) fun x15=>
    br (!x15)
     (jn (HV p0 p1 p2) true)
     (bd (CN p1.Ay (-1) (w64 ((↑p0.AM.length:Int)-1))) fun x16=>
     br (!x16)
      (jn (HV p0 p1 p2) true)
      (jn (HV p0 p1 p2) (p1.Ay==p1.AK))))))
noncomputable def Kg:GF:=AB5.gf rfl rfl (fun a=>m0 a.1 a.2.1 a.2.2.1) (fun a=>by kernel_rfl)
noncomputable def AB6:YF:=⟨[],[.v (.st 8)],[],.ret [.b],[.tmp 2],
 sq [qu 1 0,qB 2 false] [1] (.join [] (sq [qK 3 0] [1,3] (bl 0 [cv 3 .i] (.seq (sw 7 [wm 3,wo 11 1,wL,wZ,wB .lss 7] (Kp 2058) (ce 11 [1,3] [] 0)) (.join [] (.block 1 (sr [wn 14 [wo 11 1,wL,wm 3,wE (.st 2) 15,wK 10],
 qn [.alloc 4 BS,qw 10 4 18]] (Kp 26) (.seq (.join [cv 48 .b] (.BW (qd 0 [wn 19 [wo 0 1,wK 9,wk 10 4,wo 9 1,wL,wc Kg rfl [20,21,23],wX,wM],
 wf 26 27 [wo 6 4,wL,wo 10 1,wL,wB .geq 28],
 wn 32 [wR 26,wM],
 wf 33 34 [wm 3,wI .gtr 0,wM],
 wt 36 37 [wo 11 1,wL,wm 3,wI .sub 1,wE (.st 2) 38,wO 0,wL,wo 0 4,wL,wB .geq 43],
 qf 33 [qq 47 36 46],
 qn [qp 48 33 47]] .nil) [1,3,4,48]) (cn 48 (Kp 26) (sq [qB 2 false] [2] .ret))) (sq [qK 5 0] (Kp 58) (bl 2 [cv 5 .i] (.seq (sw 49 [wm 5,wm 3,wB .lss 49] [1,3,4,5,51] (ce 51 (Kp 58) [1,3] 2)) (.seq (.block 3 (sr [wn 54 [wo 11 1,wL,wm 5,wE (.st 2) 55,wK 10],
 qn [.alloc 6 BS,qw 10 6 58]] (Kp 122) (.join [cv 91 .b] (qr [wn 59 [wo 6 6,wL,wo 6 4,wL,wB .eql 60,wM],
 wf 64 65 [wo 6 6,wL,wo 6 4,wL,wB .lss 66,wM],
 wt 70 71 [wo 5 6,wL,wo 5 4,wL,wB .gtr 72],
 qf 64 [qq 76 70 75],
 wn 77 [wR 64,wM],
 wf 78 79 [wo 6 6,wL,wo 6 4,wL,wB .gtr 80,wM],
 wt 84 85 [wo 5 6,wL,wo 5 4,wL,wB .lss 86],
 qf 78 [qq 90 84 89],
 qn [qp 91 78 90]] [1,3,4,5,91]) (cn 91 (Kp 58) (sq [qB 2 false] [2] .ret))))) (qr [wn 52 [wm 5,wI .add 1],
 qn [qa 5 53]] (Kp 58))))))))) (qr [wn 12 [wm 3,wI .add 1],
 qn [qa 3 13]] [1,3]))))) (sq [qB 2 true] [2] .ret))⟩
noncomputable def HW(L6:Int->Option Bool)(v7:Int)(v9:Bool):Option Bool:=
 br v9
  (some false)
  (L6 (w64 (v7+1)))
noncomputable def kd(L1:Int->Option Bool)(v2:Int)(_:PUnit):Option Bool:=
 L1 (w64 (v2+1))
noncomputable def Xw(p0:AA)(L1:Int->Option Bool)(v2:Int)(x3:AH)(L6:Int->Option Bool)(v7:Int):Option Bool:=
 br (decide (v7<v2))
  (bd (at? p0.AB v7) fun x8=>
  br (x8.AQ==x3.AQ)
   (jn (HW L6 v7) true)
   (br (decide (x8.AQ<x3.AQ))
    (br (decide (x8.Since>x3.Since))
     (jn (HW L6 v7) true)
     (br (decide (x8.AQ>x3.AQ))
      (jn (HW L6 v7) (decide (x8.Since<x3.Since)))
      (jn (HW L6 v7) false)))
    (br (decide (x8.AQ>x3.AQ))
     (jn (HW L6 v7) (decide (x8.Since<x3.Since)))
     (jn (HW L6 v7) false))))
  (jn (kd L1 v2) ())
noncomputable def Lc(p0:AA)(L1:Int->Option Bool)(v2:Int)(x3:AH)(v5:Bool):Option Bool:=
 br v5
  (some false)
  (Ap (Xw p0 L1 v2 x3) big 0)
noncomputable def kf(_:PUnit):Option Bool:=
 some true
noncomputable def Xv(p0:AA)(L1:Int->Option Bool)(v2:Int):Option Bool:=
 br (decide (v2<(↑p0.AB.length:Int)))
  (bd (at? p0.AB v2) fun x3=>
  bd (m0 p0.AG x3 p0.Now) fun x4=>
  br (!x4)
   (jn (Lc p0 L1 v2 x3) true)
   (br (decide (x3.AQ>=p0.AQ))
    (jn (Lc p0 L1 v2 x3) true)
    (br (decide (v2>0))
     (bd (at? p0.AB (w64 (v2-1))) fun x10=>
     jn (Lc p0 L1 v2 x3) (decide (x10.Id>=x3.Id)))
     (jn (Lc p0 L1 v2 x3) false))))
  (jn (kf) ())
noncomputable def wN(p0:AA):Option Bool:=
 Ap (Xv p0) big 0
noncomputable def cJ:GF:=AB6.gf rfl rfl (fun a=>wN a.1) (fun a=>by kernel_rfl)
noncomputable def AB7:YF:=⟨[],[.v (.l .i),.v .i],[],.ret [.b],[.tmp 4],
 sq [qB 4 false] [0,1] (.join [] (sq [qK 5 0] (Kp 35) (bl 0 [cv 5 .i] (.seq (sw 6 [wM,wm 0,wZ,wB .lss 6] (Kp 547) (ce 9 (Kp 35) [] 0)) (.seq (.block 1 (sw 12 [wm 0,wm 5,wE .i 12,wL,wm 1,wB .eql 15] (Kp 131107) (cn 17 (Kp 35) (sq [qB 4 true] [4] .ret)))) (qr [wn 10 [wm 5,wI .add 1],
 qn [qa 5 11]] (Kp 35)))))) (sq [qB 4 false] [4] .ret))⟩
noncomputable def kv(_:PUnit):Option Bool:=
 some false
noncomputable def kx(p0:(List Int))(p1:Int)(L1:Int->Option Bool)(v2:Int):Option Bool:=
 br (decide (v2<(↑p0.length:Int)))
  (bd (at? p0 v2) fun x3=>
  br (x3==p1)
   (some true)
   (L1 (w64 (v2+1))))
  (jn (kv) ())
noncomputable def m3(p0:(List Int))(p1:Int):Option Bool:=
 Ap (kx p0 p1) big 0
noncomputable def Kq:GF:=AB7.gf rfl rfl (fun a=>m3 a.1 a.2.1) (fun a=>by kernel_rfl)
noncomputable def AB8:YF:=⟨[],[.v (.st 8)],[],.ret [.b],[.tmp 2],
 sq [qu 1 0,qB 2 false] [1] (.join [] (sq [qK 3 0] [1,3] (bl 0 [cv 3 .i] (.seq (sw 5 [wm 3,wo 13 1,wL,wZ,wB .lss 5] (Kp 522) (ce 9 [1,3] [1] 0)) (.seq (.block 1 (.join [cv 34 .b] (.BW (qd 0 [wn 12 [wo 13 1,wL,wm 3,wE .i 13,wL,wo 12 1,wL,wZ,wI .sub 1,wc Ax rfl [16,qj 0,20],wX,wM],
 wf 23 24 [wo 13 1,wL,wm 3,wh (.sub · .i (.tmp 25) none (some (.tmp 26))),wo 13 1,wL,wm 3,wE .i 29,wL,wc Kq rfl [27,32]],
 qn [qp 34 23 33]] .nil) [1,3,34]) (cn 34 [1,3] (sq [qB 2 false] [2] .ret)))) (qr [wn 10 [wm 3,wI .add 1],
 qn [qa 3 11]] [1,3]))))) (.join [] (sq [qK 4 0] [1,4] (bl 2 [cv 4 .i] (.seq (sw 35 [wm 4,wo 14 1,wL,wZ,wB .lss 35] [1,4,39] (ce 39 [1,4] [1] 2)) (.seq (.block 3 (.seq (.BW (qd 0 [wn 42 [wo 14 1,wL,wm 4,wE .i 43,wL,wo 12 1,wL,wZ,wI .sub 1,wc Ax rfl [46,qj (-1),50],wX]] .nil) [1,4,52]) (cn 52 [1,4] (sq [qB 2 false] [2] .ret)))) (qr [wn 40 [wm 4,wI .add 1],
 qn [qa 4 41]] [1,4]))))) (sr [wn 53 [wo 14 1,wL,wZ,wo 0 1,wO 8,wL,wB .eql 55],
 qn [qa 2 59]] [2] .ret)))⟩
noncomputable def Xx(L1:Int->Option Bool)(v2:Int)(v5:Bool):Option Bool:=
 br v5
  (some false)
  (L1 (w64 (v2+1)))
noncomputable def ky(p0:AA)(_:PUnit):Option Bool:=
 some ((↑p0.AS.length:Int)==p0.AG.Cc)
noncomputable def Xz(p0:AA)(L8:Int->Option Bool)(v9:Int):Option Bool:=
 br (decide (v9<(↑p0.AS.length:Int)))
  (bd (at? p0.AS v9) fun x10=>
  bd (CN x10 (-1) (w64 ((↑p0.AE.length:Int)-1))) fun x11=>
  br (!x11)
   (some false)
   (L8 (w64 (v9+1))))
  (jn (ky p0) ())
noncomputable def Qr(p0:AA)(_:PUnit):Option Bool:=
 Ap (Xz p0) big 0
noncomputable def Xy(p0:AA)(L1:Int->Option Bool)(v2:Int):Option Bool:=
 br (decide (v2<(↑p0.AW.length:Int)))
  (bd (at? p0.AW v2) fun x3=>
  bd (CN x3 0 (w64 ((↑p0.AE.length:Int)-1))) fun x4=>
  br (!x4)
   (jn (Xx L1 v2) true)
   (gd (0<=v2/\v2<=(↑p0.AW.length:Int)) (
   bd (at? p0.AW v2) fun x6=>
   bd (m3 (List.take v2.toNat p0.AW) x6) fun x7=>
   jn (Xx L1 v2) x7)))
  (jn (Qr p0) ())
noncomputable def wP(p0:AA):Option Bool:=
 Ap (Xy p0) big 0
noncomputable def cK:GF:=AB8.gf rfl rfl (fun a=>wP a.1) (fun a=>by kernel_rfl)
noncomputable def AB9:YF:=⟨[],[.v (.st 3)],[],.ret [.b],[.tmp 2],
 sq [qu 1 0,qB 2 false] [1] (.join [cv 2 .b] (qr [wn 3 [wo 0 1,wL,wc Ax rfl [4,qj 1,qj 60],wM],
 wt 6 7 [wo 1 1,wL,wo 0 1,wL,wc Ax rfl [8,qj 0,10]],
 wn 12 [wQ 6,wM],
 wt 13 14 [wo 2 1,wL,wo 0 1,wL,wc Ax rfl [15,qj 0,17]],
 wn 19 [wQ 13,wM],
 wt 20 21 [wo 3 1,wL,wo 0 1,wL,wc Ax rfl [22,qj 0,24]],
 wn 26 [wQ 20,wM],
 wt 27 28 [wo 1 1,wL,wo 2 1,wL,wB .add 29,wo 3 1,wL,wB .add 32,wo 0 1,wL,wB .eql 35],
 wn 39 [wQ 27,wM],
 wt 40 41 [wo 4 1,wL,wo 3 1,wL,wc Ax rfl [42,qj 0,44]],
 qn [qq 46 40 45,qa 2 46]] [2]) .ret)⟩
noncomputable def I5(v6:Bool):Option Bool:=
 some v6
noncomputable def fe(p0:Am):Option Bool:=
 bd (CN p0.Total 1 60) fun x1=>
 br x1
  (bd (CN p0.Co 0 p0.Total) fun x2=>
  br x2
   (bd (CN p0.Cp 0 p0.Total) fun x3=>
   br x3
    (bd (CN p0.Dz 0 p0.Total) fun x4=>
    br x4
     (br (w64 (w64 (p0.Co+p0.Cp)+p0.Dz)==p0.Total)
      (bd (CN p0.EB 0 p0.Dz) fun x5=>
      jn (I5) x5)
      (jn (I5) false))
     (jn (I5) false))
    (jn (I5) false))
   (jn (I5) false))
  (jn (I5) false)
noncomputable def He:GF:=AB9.gf rfl rfl (fun a=>fe a.1) (fun a=>by kernel_rfl)
noncomputable def ACA:YF:=⟨[],[.v (.st 4),.v (.st 4)],[],.ret [.b],[.tmp 4],
 sq [qu 2 0,qu 3 1,qB 4 false] [2,3] (.join [cv 4 .b] (qr [wn 5 [wo 0 2,wL,wo 0 3,wL,wB .lss 6,wM],
 wf 10 11 [wo 0 2,wL,wo 0 3,wL,wB .eql 12,wM],
 wt 16 17 [wo 1 2,wL,wo 1 3,wL,wB .lss 18],
 qf 10 [qq 22 16 21],
 qn [qp 23 10 22,qa 4 23]] [4]) .ret)⟩
noncomputable def Qs(v1:Bool):Option Bool:=
 some v1
noncomputable def rG(p0:AT)(p1:AT):Option Bool:=
 br (decide (p0.Level<p1.Level))
  (jn (Qs) true)
  (br (p0.Level==p1.Level)
   (jn (Qs) (decide (p0.AQ<p1.AQ)))
   (jn (Qs) false))
noncomputable def QI:GF:=ACA.gf rfl rfl (fun a=>rG a.1 a.2.1) (fun a=>by kernel_rfl)
noncomputable def ACB:YF:=⟨[],[.v (.l (.st 4)),.v .i],[],.ret [.i],[.tmp 4],
 sq [qK 4 0] [0,1] (.join [] (sq [qK 5 0] (Kp 35) (bl 0 [cv 5 .i] (.seq (sw 6 [wM,wm 0,wZ,wB .lss 6] (Kp 547) (ce 9 (Kp 35) [] 0)) (.seq (.block 1 (sw 12 [wm 0,wm 5,wE (.st 4) 12,wO 2,wL,wm 1,wB .eql 16] (Kp 262179) (.cond 18 [5] (Kp 35) (sq [qm 19 5,qa 4 19] [4] .ret) .skip))) (qr [wn 10 [wm 5,wI .add 1],
 qn [qa 5 11]] (Kp 35)))))) (sq [qK 4 (-1)] [4] .ret))⟩
noncomputable def kz(_:PUnit):Option Int:=
 some (-1)
noncomputable def X0(p0:(List AT))(p1:Int)(L1:Int->Option Int)(v2:Int):Option Int:=
 br (decide (v2<(↑p0.length:Int)))
  (bd (at? p0 v2) fun x3=>
  br (x3.Id==p1)
   (some v2)
   (L1 (w64 (v2+1))))
  (jn (kz) ())
noncomputable def m4(p0:(List AT))(p1:Int):Option Int:=
 Ap (X0 p0 p1) big 0
noncomputable def QJ:GF:=ACB.gf rfl rfl (fun a=>m4 a.1 a.2.1) (fun a=>by kernel_rfl)
noncomputable def ACC:YF:=⟨[],[.v (.l (.st 4))],[],.ret [.b],[.tmp 2],
 sq [qB 2 false] [0] (.seq (sw 5 [wm 0,wZ,wI .gtr 10] [0,7] (cn 7 [0] (sq [qB 2 false] [2] .ret))) (.join [] (sq [qK 3 0] [0,3] (bl 0 [cv 3 .i] (.seq (sw 8 [wm 3,wm 0,wZ,wB .lss 8] (Kp 2057) (ce 11 [0,3] [] 0)) (.seq (.block 1 (sr [wn 14 [wm 0,wm 3,wE (.st 4) 14,wK 4],
 qn [.alloc 4 Eh,qw 4 4 17]] (Kp 25) (.seq (.join [cv 39 .b] (qr [wn 18 [wo 0 4,wL,wc Ax rfl [19,qj 0,qj 4],wX,wM],
 wf 22 23 [wo 1 4,wL,wc Ax rfl [24,qj 1,qj 1000000],wX],
 wn 27 [wR 22,wM],
 wf 28 29 [wo 2 4,wL,wc Ax rfl [30,qj 1,qj 999],wX],
 wn 33 [wR 28,wM],
 wf 34 35 [wo 3 4,wL,wc Ax rfl [36,qj 1,qj 6],wX],
 qn [qp 39 34 38]] [0,3,4,39]) (cn 39 (Kp 25) (sq [qB 2 false] [2] .ret))) (.join [cv 59 .b] (.BW (qd 0 [wn 40 [wm 3,wI .gtr 0,wM],
 wt 42 43 [wm 0,wm 3,wI .sub 1,wE (.st 4) 43,wK 4,wk 4 4,wc QI rfl [47,48],wX],
 wn 51 [wQ 42,wM],
 wf 52 53 [wm 0,wo 2 4,wL]] (.op 17 (some (52,false)) [] (.mv 57 (.tmp 3))
 (.op 16 (some (52,false)) [] (.call 56 QJ [] rfl [(.tmp 53),(.tmp 55)])
 (qd 18 [qf 52 [qb 58 .neq 56 57],
 qn [qp 59 52 58]] .nil)))) [0,3,59]) (cn 59 [0,3] (sq [qB 2 false] [2] .ret)))))) (qr [wn 12 [wm 3,wI .add 1],
 qn [qa 3 13]] [0,3]))))) (sq [qB 2 true] [2] .ret)))⟩
noncomputable def N3(L1:Int->Option Bool)(v2:Int)(v8:Bool):Option Bool:=
 br v8
  (some false)
  (L1 (w64 (v2+1)))
noncomputable def Ld(p0:(List AT))(L1:Int->Option Bool)(v2:Int)(x3:AT)(v5:Bool):Option Bool:=
 br v5
  (some false)
  (br (decide (v2>0))
   (bd (at? p0 (w64 (v2-1))) fun x6=>
   bd (rG x6 x3) fun x7=>
   br (!x7)
    (jn (N3 L1 v2) true)
    (bd (m4 p0 x3.Id) fun x9=>
    jn (N3 L1 v2) (x9 != v2)))
   (bd (m4 p0 x3.Id) fun x10=>
   jn (N3 L1 v2) (x10 != v2)))
noncomputable def lA(_:PUnit):Option Bool:=
 some true
noncomputable def X1(p0:(List AT))(L1:Int->Option Bool)(v2:Int):Option Bool:=
 br (decide (v2<(↑p0.length:Int)))
  (bd (at? p0 v2) fun x3=>
  bd (CN x3.Level 0 4) fun x4=>
  br (!x4)
   (jn (Ld p0 L1 v2 x3) true)
   (bd (CN x3.AQ 1 1000000) fun x11=>
   br (!x11)
    (jn (Ld p0 L1 v2 x3) true)
    (bd (CN x3.Id 1 999) fun x12=>
    br (!x12)
     (jn (Ld p0 L1 v2 x3) true)
     (bd (CN x3.AY 1 6) fun x13=>
     jn (Ld p0 L1 v2 x3) (!x13)))))
  (jn (lA) ())
noncomputable def m5(p0:(List AT)):Option Bool:=
 br (decide ((↑p0.length:Int)>10))
  (some false)
  (Ap (X1 p0) big 0)
noncomputable def Kr:GF:=ACC.gf rfl rfl (fun a=>m5 a.1) (fun a=>by kernel_rfl)
noncomputable def ACD:YF:=⟨[],[.v (.st 6)],[],.ret [(.l (.st 5))],[.tmp 2],
 sq [qu 1 0,.as 2 (.k .nil),.A6 [(.tmp 2 0,(.st 5))]] [1] (sq [.AR 5 0 (.st 5) [],qa 3 5] [1,3] (.join [cv 3 (.l (.st 5))] (sq [qK 4 0] (Kp 26) (bl 0 [cv 3 (.l (.st 5)),cv 4 .i] (.seq (sw 6 [wm 4,wo 0 1,wL,wZ,wB .lss 6] (Kp 1050) (ce 10 (Kp 26) [3] 0)) (.seq (.block 1 (qr [wn 13 [wm 3,wo 0 1,wL,wm 4,wE (.l (.st 5)) 15,wL,wh (.app · (.st 5) true (.tmp 13) (.tmp 18))],
 qn [qa 3 19]] (Kp 26))) (qr [wn 11 [wm 4,wI .add 1],
 qn [qa 4 12]] (Kp 26)))))) (sq [qm 20 3,qa 2 20] [2] .ret)))⟩
noncomputable def lB(v5:(List Ag)):Option (List Ag):=
 some v5
noncomputable def lC(p0:AU)(L1:((List Ag)×Int)->Option (List Ag))(x_:((List Ag)×Int)):Option (List Ag):=
 match x_ with
 |(v2,v3)=>br (decide (v3<(↑p0.AP.length:Int)))
  (bd (at? p0.AP v3) fun x4=>
  gd (List.length v2+List.length x4<=lim) (
  L1 ((v2++x4,w64 (v3+1)))))
  (jn (lB) v2)
noncomputable def rH(p0:AU):Option (List Ag):=
 Ap (lC p0) big ([],0)
noncomputable def QK:GF:=ACD.gf rfl rfl (fun a=>rH a.1) (fun a=>by kernel_rfl)
noncomputable def ACE:YF:=⟨[],[.v (.st 5),.v (.st 5)],[],.ret [.b],[.tmp 4],
 sq [qu 2 0,qu 3 1,qB 4 false] [2,3] (.join [cv 4 .b] (qr [wn 5 [wo 0 2,wL,wo 0 3,wL,wB .lss 6,wM],
 wf 10 11 [wo 0 2,wL,wo 0 3,wL,wB .eql 12,wM],
 wt 16 17 [wo 1 2,wL,wo 1 3,wL,wB .lss 18],
 qf 10 [qq 22 16 21],
 qn [qp 23 10 22,qa 4 23]] [4]) .ret)⟩
noncomputable def Qt(v1:Bool):Option Bool:=
 some v1
noncomputable def rI(p0:Ag)(p1:Ag):Option Bool:=
 br (decide (p0.At<p1.At))
  (jn (Qt) true)
  (br (p0.At==p1.At)
   (jn (Qt) (decide (p0.Id<p1.Id)))
   (jn (Qt) false))
noncomputable def QL:GF:=ACE.gf rfl rfl (fun a=>rI a.1 a.2.1) (fun a=>by kernel_rfl)
noncomputable def ACF:YF:=⟨[],[.v (.st 6)],[],.ret [.b],[.tmp 2],
 sq [qu 1 0,qB 2 false] [1] (sr [wn 8 [wk 1 1,wY QK rfl],
 qn [qa 3 9]] [1,3] (.seq (.join [cv 18 .b] (qr [wn 10 [wo 0 1,wL,wZ,wI .neq 9,wM],
 wf 14 15 [wm 3,wZ,wI .gtr 10],
 qn [qp 18 14 17]] [1,3,18]) (cn 18 [1,3] (sq [qB 2 false] [2] .ret))) (.join [] (sq [qK 4 0] (Kp 26) (bl 0 [cv 4 .i] (.seq (sw 19 [wm 4,wm 3,wZ,wB .lss 19] (Kp 4194330) (ce 22 (Kp 26) [1] 0)) (.join [] (.block 1 (.seq (.join [cv 40 .b] (qr [wn 25 [wm 3,wm 4,wE (.st 5) 25,wO 0,wL,wc Ax rfl [29,qj 1,qj 1000008],wX,wM],
 wf 32 33 [wm 3,wm 4,wE (.st 5) 33,wO 1,wL,wc Ax rfl [37,qj 1,qj 999],wX],
 qn [qp 40 32 39]] [1,3,4,40]) (cn 40 (Kp 26) (sq [qB 2 false] [2] .ret))) (sq [qK 5 0] (Kp 58) (bl 2 [cv 5 .i] (.seq (sw 41 [wm 5,wm 4,wB .lss 41] [1,3,4,5,43] (ce 43 [1,3,4,5] (Kp 26) 2)) (.seq (.block 3 (.seq (.BW (qd 0 [wn 46 [wm 3,wm 5,wE (.st 5) 46,wO 1,wL,wm 3,wm 4,wE (.st 5) 51,wO 1,wL,wB .eql 50]] .nil) [1,3,4,5,56]) (cn 56 (Kp 58) (sq [qB 2 false] [2] .ret)))) (qr [wn 44 [wm 5,wI .add 1],
 qn [qa 5 45]] (Kp 58)))))))) (qr [wn 23 [wm 4,wI .add 1],
 qn [qa 4 24]] (Kp 26)))))) (.join [] (sq [qK 6 0] [1,6] (bl 4 [cv 6 .i] (.seq (sw 57 [wm 6,wo 0 1,wL,wZ,wB .lss 57] [1,6,61] (ce 61 [1,6] [] 4)) (.join [] (.block 5 (sq [qK 7 0] (Kp 194) (bl 6 [cv 7 .i] (.seq (sw 64 [wm 7,wo 0 1,wL,wm 6,wE (.l (.st 5)) 66,wL,wZ,wB .lss 64] [1,6,7,71] (ce 71 (Kp 194) [1,6] 6)) (.seq (.block 7 (.join [cv 110 .b] (.BW (qd 0 [wn 74 [wo 0 1,wL,wm 6,wE (.l (.st 5)) 75,wL,wm 7,wE (.st 5) 78,wO 0,wL,wI .rem 9,wm 6,wB .neq 83,wM],
 wf 86 87 [wm 7,wI .gtr 0,wM],
 wt 89 90 [wo 0 1,wL,wm 6,wE (.l (.st 5)) 91,wL,wm 7,wI .sub 1,wE (.st 5) 94,wK 2,wo 0 1,wL,wm 6,wE (.l (.st 5)) 100,wL,wm 7,wE (.st 5) 103,wK 2,wc QL rfl [98,106],wX],
 qf 86 [qq 109 89 108],
 qn [qp 110 86 109]] .nil) [1,6,7,110]) (cn 110 (Kp 194) (sq [qB 2 false] [2] .ret)))) (qr [wn 72 [wm 7,wI .add 1],
 qn [qa 7 73]] (Kp 194))))))) (qr [wn 62 [wm 6,wI .add 1],
 qn [qa 6 63]] [1,6]))))) (sq [qB 2 true] [2] .ret)))))⟩
noncomputable def lD(L3:Int->Option Bool)(v4:Int)(_:PUnit):Option Bool:=
 L3 (w64 (v4+1))
noncomputable def YB(x1:(List Ag))(L3:Int->Option Bool)(v4:Int)(L9:Int->Option Bool)(v10:Int):Option Bool:=
 br (decide (v10<v4))
  (bd (at? x1 v10) fun x11=>
  bd (at? x1 v10) fun x12=>
  bd (at? x1 v4) fun x13=>
  bd (at? x1 v4) fun x14=>
  br (x12.Id==x14.Id)
   (some false)
   (L9 (w64 (v10+1))))
  (jn (lD L3 v4) ())
noncomputable def Qv(x1:(List Ag))(L3:Int->Option Bool)(v4:Int)(v8:Bool):Option Bool:=
 br v8
  (some false)
  (Ap (YB x1 L3 v4) big 0)
noncomputable def Qx(L20:Int->Option Bool)(v21:Int)(v25:Bool):Option Bool:=
 br v25
  (some false)
  (L20 (w64 (v21+1)))
noncomputable def bh(L18:Int->Option Bool)(v19:Int)(_:PUnit):Option Bool:=
 L18 (w64 (v19+1))
noncomputable def YD(p0:AU)(L18:Int->Option Bool)(v19:Int)(L20:Int->Option Bool)(v21:Int):Option Bool:=
 bd (at? p0.AP v19) fun x22=>
 br (decide (v21<(↑(List.length x22):Int)))
  (bd (at? p0.AP v19) fun x23=>
  bd (at? x23 v21) fun x24=>
  br (x24.At.tmod 9 != v19)
   (jn (Qx L20 v21) true)
   (br (decide (v21>0))
    (bd (at? p0.AP v19) fun x26=>
    bd (at? x26 (w64 (v21-1))) fun x27=>
    bd (at? p0.AP v19) fun x28=>
    bd (at? x28 v21) fun x29=>
    bd (rI x27 x29) fun x30=>
    jn (Qx L20 v21) (!x30))
    (jn (Qx L20 v21) false)))
  (jn (bh L18 v19) ())
noncomputable def bj(_:PUnit):Option Bool:=
 some true
noncomputable def YC(p0:AU)(L18:Int->Option Bool)(v19:Int):Option Bool:=
 br (decide (v19<(↑p0.AP.length:Int)))
  (Ap (YD p0 L18 v19) big 0)
  (jn (bj) ())
noncomputable def Qw(p0:AU)(_:PUnit):Option Bool:=
 Ap (YC p0) big 0
noncomputable def YA(p0:AU)(x1:(List Ag))(L3:Int->Option Bool)(v4:Int):Option Bool:=
 br (decide (v4<(↑(List.length x1):Int)))
  (bd (at? x1 v4) fun x5=>
  bd (at? x1 v4) fun x6=>
  bd (CN x6.At 1 1000008) fun x7=>
  br (!x7)
   (jn (Qv x1 L3 v4) true)
   (bd (at? x1 v4) fun x15=>
   bd (at? x1 v4) fun x16=>
   bd (CN x16.Id 1 999) fun x17=>
   jn (Qv x1 L3 v4) (!x17)))
  (jn (Qw p0) ())
noncomputable def Qu(p0:AU)(x1:(List Ag))(v2:Bool):Option Bool:=
 br v2
  (some false)
  (Ap (YA p0 x1) big 0)
noncomputable def bg(p0:AU):Option Bool:=
 bd (rH p0) fun x1=>
 br ((↑p0.AP.length:Int) != 9)
  (jn (Qu p0 x1) true)
  (jn (Qu p0 x1) (decide ((↑(List.length x1):Int)>10)))
noncomputable def F3:GF:=ACF.gf rfl rfl (fun a=>bg a.1) (fun a=>by kernel_rfl)
noncomputable def ACG:YF:=⟨[],[.v (.st 7)],[],.ret [.b],[.tmp 2],
 sq [qu 1 0,qB 2 false] [1] (.join [cv 2 .b] (qr [wn 3 [wo 0 1,wK 5,wY He rfl,wM],
 wt 6 7 [wo 5 1,wL,wY Kr rfl],
 wn 10 [wQ 6,wM],
 wt 11 12 [wo 6 1,wK 1,wY F3 rfl],
 qn [qq 15 11 14,qa 2 15]] [2]) .ret)⟩
noncomputable def Qy(v4:Bool):Option Bool:=
 some v4
noncomputable def wS(p0:AZ):Option Bool:=
 bd (fe p0.AM) fun x1=>
 br x1
  (bd (m5 p0.Row) fun x2=>
  br x2
   (bd (bg p0.BL) fun x3=>
   jn (Qy) x3)
   (jn (Qy) false))
  (jn (Qy) false)
noncomputable def cL:GF:=ACG.gf rfl rfl (fun a=>wS a.1) (fun a=>by kernel_rfl)
noncomputable def ACH:YF:=⟨[],[.v .i,.v .i],[],.ret [.i],[.tmp 4],
 sq [qK 4 0] [0,1] (.seq (sw 5 [wm 0,wm 1,wB .gtr 5] (Kp 131) (.cond 7 [0] [1] (sq [qm 8 0,qa 4 8] [4] .ret) .skip)) (sq [qm 9 1,qa 4 9] [4] .ret))⟩
noncomputable def Jw(p0:Int)(p1:Int):Option Int:=
 br (decide (p0>p1))
  (some p0)
  (some p1)
noncomputable def Bm:GF:=ACH.gf rfl rfl (fun a=>Jw a.1 a.2.1) (fun a=>by kernel_rfl)
noncomputable def ACI:YF:=⟨[],[.v (.st 1),.v .i,.v .i],[],.ret [.i],[.tmp 6],
 sq [qu 3 0,qK 6 0] (Kp 14) (sr [wn 7 [wm 1,wm 2,wo 4 3,wL,wB .quo 8,wB .sub 7,wc Bm rfl [qj 0,12]],
 qn [qa 6 13]] [6] .ret)⟩
noncomputable def wT(p0:AN)(p1:Int)(p2:Int):Option Int:=
 gd (p0.CI≠0) (
 bd (Jw 0 (w64 (p1-w64 (p2.tdiv p0.CI)))) fun x1=>
 some x1)
noncomputable def cM:GF:=ACI.gf rfl rfl (fun a=>wT a.1 a.2.1 a.2.2.1) (fun a=>by kernel_rfl)
noncomputable def ACJ:YF:=⟨[],[.v (.st 1),.v (.st 2),.v .i],[],.ret [.i],[.tmp 6],
 sq [qu 3 0,qu 4 1,qK 6 0] (Kp 28) (.seq (sw 7 [wk 9 3,wk 10 4,wm 2,wc Kg rfl [7,8,9],wX] (Kp 2076) (cn 11 (Kp 28) (sq [qK 6 (-1)] [6] .ret))) (sr [wn 12 [wk 9 3,wo 4 4,wL,wm 2,wo 5 4,wL,wB .sub 15,wc cM rfl [12,14,18]],
 qn [qa 6 19]] [6] .ret))⟩
noncomputable def wV(p0:AN)(p1:AH)(p2:Int):Option Int:=
 bd (m0 p0 p1 p2) fun x1=>
 br (!x1)
  (some (-1))
  (bd (wT p0 p1.Bb (w64 (p2-p1.Since))) fun x2=>
  some x2)
noncomputable def cN:GF:=ACJ.gf rfl rfl (fun a=>wV a.1 a.2.1 a.2.2.1) (fun a=>by kernel_rfl)
noncomputable def ACK:YF:=⟨[],[.v (.st 1),.v (.st 2),.v .i],[],.ret [(.st 4),.b],[.cell 6 (some 4),.tmp 7],
 sq [qu 3 0,qu 4 1,.alloc 6 Eh,qB 7 false] (Kp 92) (sr [wn 9 [wk 9 3,wk 10 4,wm 2,wc cN rfl [9,10,11]],
 qn [qa 8 12]] (Kp 336) (.seq (.join [cv 19 .b] (qr [wn 13 [wm 8,wI .lss 0,wM],
 wf 15 16 [wo 7 4,wL,wI .neq 1],
 qn [qp 19 15 18]] (Kp 524624)) (.cond 19 [6] (Kp 336) (sq [.build 20 Eh [],qw 4 6 20,qB 7 false] [6,7] .ret) .skip)) (sr [wn 21 [wm 8,wo 6 4,wL,wo 0 4,wL,wo 3 4,wL,wh (.build · Eh [(0,1,(.tmp 21)),(1,1,(.tmp 23)),(2,1,(.tmp 25)),(3,1,(.tmp 27))])],
 qn [qw 4 6 28,qB 7 true]] [6,7] .ret)))⟩
noncomputable def YE(p1:AH)(x1:Int)(v2:Bool):Option (AT×Bool):=
 br v2
  (some (AT.mk 0 0 0 0,false))
  (some (AT.mk x1 p1.AQ p1.Id p1.AY,true))
noncomputable def m6(p0:AN)(p1:AH)(p2:Int):Option (AT×Bool):=
 bd (wV p0 p1 p2) fun x1=>
 br (decide (x1<0))
  (jn (YE p1 x1) true)
  (jn (YE p1 x1) (p1.State != 1))
noncomputable def Ks:GF:=ACK.gf rfl rfl (fun a=>m6 a.1 a.2.1 a.2.2.1) (fun a=>by kernel_rfl)
noncomputable def ACL:YF:=⟨[],[.v (.l (.st 4))],[],.ret [(.l (.st 4))],[.tmp 2],
 sq [.as 2 (.k .nil),.A6 [(.tmp 2 0,(.st 4))]] [0] (sr [wn 3 [wh (.AR · 0 (.st 4) []),wm 0,wh (.app · (.st 4) true (.tmp 3) (.tmp 4))],
 qn [qa 2 5]] [2] .ret)⟩
noncomputable def VX(p0:(List AT)):Option (List AT):=
 gd (0+p0.length<=lim) (
 some ([]++p0))
noncomputable def Es:GF:=ACL.gf rfl rfl (fun a=>VX a.1) (fun a=>by kernel_rfl)
noncomputable def ACN:YF:=⟨[],[.v (.l (.st 4)),.v (.st 4)],[],.ret [(.l (.st 4))],[.tmp 4],
 sq [qu 3 1,.as 4 (.k .nil),.A6 [(.tmp 4 0,(.st 4))]] [0,3] (sq [qK 5 0] (Kp 41) (.join [cv 5 .i] (bl 0 [cv 5 .i] (.seq (.join [cv 18 .b] (.BW (qd 0 [wn 7 [wm 5,wm 0,wZ,wB .lss 7,wM],
 wt 11 12 [wm 0,wm 5,wE (.st 4) 12,wK 4,wk 4 3,wc QI rfl [15,16]],
 qn [qq 18 11 17]] .nil) [0,3,5,18]) (ce 18 [0,3,5] (Kp 41) 0)) (.block 1 (qr [wn 19 [wm 5,wI .add 1],
 qn [qa 5 20]] (Kp 41))))) (.seq (.BW (qd 0 [wn 21 [wm 0,wm 5,wh (.sub · (.st 4) (.tmp 21) none (some (.tmp 22)))]] (.op 4 none [] (.ld 25 (some 4) (.tmp 3))
 (.both 0 (.op 3 none [3] (.call 24 Es [] rfl [(.tmp 23)])
 (qd 5 [wn 26 [wh (.AR · 1 (.st 4) [(0,(.tmp 25))]),wh (.app · (.st 4) true (.tmp 24) (.tmp 26))],
 qn [qa 6 27]] (.dr [21,22,23,24,25,26,27] .nil))) (.op 5 none [] (.AR 26 1 (.st 4) [(0,(.tmp 25))])
 (.op 3 none [3] (.call 24 Es [] rfl [(.tmp 23)])
 (qd 6 [qn [.app 27 (.st 4) true (.tmp 24) (.tmp 26),qa 6 27]] (.dr [21,22,23,24,25,26,27] .nil))))))) [0,5,6]) (sr [wn 28 [wm 6,wm 0,wm 5,wh (.sub · (.st 4) (.tmp 29) (some (.tmp 30)) none),wh (.app · (.st 4) true (.tmp 28) (.tmp 31))],
 qn [qa 4 32]] [4] .ret))))⟩
noncomputable def YG(p0:(List AT))(p1:AT)(v6:Int):Option (List AT):=
 gd (0<=v6/\v6<=(↑p0.length:Int)) (
 bd (VX (List.take v6.toNat p0)) fun x7=>
 gd (List.length x7+[p1].length<=lim) (
 bd (VX (List.take v6.toNat p0)) fun x8=>
 gd (List.length x8+[p1].length<=lim) (
 eqv (x7++[p1]) (x8++[p1]) (
 gd (0<=v6/\v6<=(↑p0.length:Int)) (
 gd ((x7++[p1]).length+(List.drop v6.toNat p0).length<=lim) (
 some (x7++[p1]++List.drop v6.toNat p0)))))))
noncomputable def Qz(p0:(List AT))(p1:AT)(L1:Int->Option (List AT))(v2:Int)(v5:Bool):Option (List AT):=
 br v5
  (L1 (w64 (v2+1)))
  (jn (YG p0 p1) v2)
noncomputable def YH(p0:(List AT))(p1:AT)(L1:Int->Option (List AT))(v2:Int):Option (List AT):=
 br (decide (v2<(↑p0.length:Int)))
  (bd (at? p0 v2) fun x3=>
  bd (rG x3 p1) fun x4=>
  jn (Qz p0 p1 L1 v2) x4)
  (jn (Qz p0 p1 L1 v2) false)
noncomputable def bk(p0:(List AT))(p1:AT):Option (List AT):=
 Ap (YH p0 p1) big 0
noncomputable def Kt:GF:=ACN.gf rfl rfl (fun a=>bk a.1 a.2.1) (fun a=>by kernel_rfl)
noncomputable def ACO:YF:=⟨[],[.v (.st 1),.v (.l (.st 2)),.v .i,.v .i],[],.ret [(.l (.st 4))],[.tmp 8],
 sq [qu 4 0,.as 8 (.k .nil),.A6 [(.tmp 8 0,(.st 4))]] (Kp 30) (sq [.AR 13 0 (.st 4) [],qa 9 13] (Kp 542) (.join [cv 9 (.l (.st 4))] (sr [wn 14 [wm 1,wZ,wI .sub 1],
 qn [qa 10 16]] (Kp 1566) (bl 0 [cv 9 (.l (.st 4)),cv 10 .i] (.seq (sw 17 [wm 10,wI .geq 0] (Kp 263710) (ce 18 (Kp 1566) [9] 0)) (.join [cv 9 (.l (.st 4))] (.block 1 (.seq (.BW (qd 0 [wn 22 [wk 9 4,wm 1,wm 10,wE (.st 2) 23,wK 10,wm 3]] (.both 0 (qd 6 [qn [qc 28 Ks rfl [22,26,27],qm 21 28],
 wn 29 [wh (.ext · (.tmp 21) 0),wh (.ext · (.tmp 21) 1)]] (.op 10 none [4,25] (.alloc 11 Eh)
 (qd 11 [qn [qw 4 11 29,qa 12 30]] (.dr [21,22,23,24,25,26,27,28,29,30] .nil)))) (.op 10 none [4,25] (.alloc 11 Eh)
 (qd 6 [qn [qc 28 Ks rfl [22,26,27],qm 21 28],
 wn 29 [wh (.ext · (.tmp 21) 0),wh (.ext · (.tmp 21) 1)]] (qd 11 [qn [qw 4 11 29,qa 12 30]] (.dr [21,22,23,24,25,26,27,28,29,30] .nil)))))) [1,2,3,4,9,10,11,12]) (.join [cv 40 .b] (qr [wn 31 [wm 12,wM],
 wt 32 33 [wm 1,wm 10,wE (.st 2) 33,wO 1,wL,wm 2,wB .eql 37],
 qn [qq 40 32 39]] (Kp 1099511631390)) (.cond 40 [1,2,3,4,9,10,11] (Kp 1566) (qr [wn 41 [wm 9,wk 4 11,wc Kt rfl [41,42]],
 qn [qa 9 43]] (Kp 1566)) .skip)))) (qr [wn 19 [wm 10,wI .sub 1],
 qn [qa 10 20]] (Kp 1566)))))) (sq [qm 44 9,qa 8 44] [8] .ret)))⟩
noncomputable def YJ(L1:((List AT)×Int)->Option (List AT))(v3:Int)(v10:(List AT)):Option (List AT):=
 L1 ((v10,w64 (v3-1)))
noncomputable def YI(L1:((List AT)×Int)->Option (List AT))(v2:(List AT))(v3:Int)(x5:(AT×Bool))(v8:Bool):Option (List AT):=
 br v8
  (bd (bk v2 x5.fst) fun x9=>
  jn (YJ L1 v3) x9)
  (jn (YJ L1 v3) v2)
noncomputable def lE(v11:(List AT)):Option (List AT):=
 some v11
noncomputable def lF(p0:AN)(p1:(List AH))(p2:Int)(p3:Int)(L1:((List AT)×Int)->Option (List AT))(x_:((List AT)×Int)):Option (List AT):=
 match x_ with
 |(v2,v3)=>br (decide (v3>=0))
  (bd (at? p1 v3) fun x4=>
  bd (m6 p0 x4 p3) fun x5=>
  bd (m6 p0 x4 p3) fun x6=>
  eqv x5.snd x6.snd (
  Zk x5.fst x6.fst (
  br x5.snd
   (bd (at? p1 v3) fun x7=>
   jn (YI L1 v2 v3 x5) (x7.AK==p2))
   (jn (YI L1 v2 v3 x5) false))))
  (jn (lE) v2)
noncomputable def m7(p0:AN)(p1:(List AH))(p2:Int)(p3:Int):Option (List AT):=
 Ap (lF p0 p1 p2 p3) big (([],w64 ((↑p1.length:Int)-1)))
noncomputable def Ku:GF:=ACO.gf rfl rfl (fun a=>m7 a.1 a.2.1 a.2.2.1 a.2.2.2.1) (fun a=>by kernel_rfl)
noncomputable def ACP:YF:=⟨[],[.v (.l (.st 4)),.v (.l (.st 4))],[],.ret [.b],[.tmp 4],
 sq [qB 4 false] [0,1] (.seq (sw 6 [wm 0,wZ,wm 1,wZ,wB .neq 7] (Kp 1027) (cn 10 [0,1] (sq [qB 4 false] [4] .ret))) (.join [] (sq [qK 5 0] (Kp 35) (bl 0 [cv 5 .i] (.seq (sw 11 [wm 5,wm 0,wZ,wB .lss 11] (Kp 16419) (ce 14 (Kp 35) [] 0)) (.seq (.block 1 (.seq (.BW (qd 0 [wn 17 [wm 0,wm 5,wE (.st 4) 17,wK 4,wm 1,wm 5,wE (.st 4) 21,wK 4,wh (.bin · (.agg [.i,.i,.i,.i]) .neq (.tmp 20) (.tmp 24))]] .nil) [0,1,5,25]) (cn 25 (Kp 35) (sq [qB 4 false] [4] .ret)))) (qr [wn 15 [wm 5,wI .add 1],
 qn [qa 5 16]] (Kp 35)))))) (sq [qB 4 true] [4] .ret)))⟩
noncomputable def lG(_:PUnit):Option Bool:=
 some true
noncomputable def YK(p0:(List AT))(p1:(List AT))(L1:Int->Option Bool)(v2:Int):Option Bool:=
 br (decide (v2<(↑p0.length:Int)))
  (bd (at? p0 v2) fun x3=>
  bd (at? p1 v2) fun x4=>
  br (!(x3.Level==x4.Level&&(x3.AQ==x4.AQ&&(x3.Id==x4.Id&&(x3.AY==x4.AY&&true)))))
   (some false)
   (L1 (w64 (v2+1))))
  (jn (lG) ())
noncomputable def wW(p0:(List AT))(p1:(List AT)):Option Bool:=
 br ((↑p0.length:Int) != (↑p1.length:Int))
  (some false)
  (Ap (YK p0 p1) big 0)
noncomputable def cO:GF:=ACP.gf rfl rfl (fun a=>wW a.1 a.2.1) (fun a=>by kernel_rfl)
noncomputable def ACQ:YF:=⟨[],[.v (.l (.st 5)),.v (.st 5)],[],.ret [(.l (.st 5))],[.tmp 4],
 sq [qu 3 1,.as 4 (.k .nil),.A6 [(.tmp 4 0,(.st 5))]] [0,3] (sq [qK 5 0] (Kp 41) (.join [cv 5 .i] (bl 0 [cv 5 .i] (.seq (.join [cv 18 .b] (.BW (qd 0 [wn 7 [wm 5,wm 0,wZ,wB .lss 7,wM],
 wt 11 12 [wm 0,wm 5,wE (.st 5) 12,wK 2,wk 2 3,wc QL rfl [15,16]],
 qn [qq 18 11 17]] .nil) [0,3,5,18]) (ce 18 [0,3,5] (Kp 41) 0)) (.block 1 (qr [wn 19 [wm 5,wI .add 1],
 qn [qa 5 20]] (Kp 41))))) (sr [wn 21 [wh (.AR · 0 (.st 5) []),wm 0,wm 5,wh (.sub · (.st 5) (.tmp 22) none (some (.tmp 23))),wh (.app · (.st 5) true (.tmp 21) (.tmp 24))],
 qn [qa 6 25]] (Kp 105) (sr [wn 26 [wm 6,wk 2 3,wh (.AR · 1 (.st 5) [(0,(.tmp 27))]),wh (.app · (.st 5) true (.tmp 26) (.tmp 28))],
 qn [qa 6 29]] (Kp 97) (sr [wn 30 [wm 6,wm 0,wm 5,wh (.sub · (.st 5) (.tmp 31) (some (.tmp 32)) none),wh (.app · (.st 5) true (.tmp 30) (.tmp 33))],
 qn [qa 4 34]] [4] .ret)))))⟩
noncomputable def YL(p0:(List Ag))(p1:Ag)(v6:Int):Option (List Ag):=
 gd (0<=v6/\v6<=(↑p0.length:Int)) (
 gd (0+(List.take v6.toNat p0).length<=lim) (
 gd (([]++List.take v6.toNat p0).length+[p1].length<=lim) (
 gd (0<=v6/\v6<=(↑p0.length:Int)) (
 gd (([]++List.take v6.toNat p0++[p1]).length+(List.drop v6.toNat p0).length<=lim) (
 some ([]++List.take v6.toNat p0++[p1]++List.drop v6.toNat p0))))))
noncomputable def Q0(p0:(List Ag))(p1:Ag)(L1:Int->Option (List Ag))(v2:Int)(v5:Bool):Option (List Ag):=
 br v5
  (L1 (w64 (v2+1)))
  (jn (YL p0 p1) v2)
noncomputable def YM(p0:(List Ag))(p1:Ag)(L1:Int->Option (List Ag))(v2:Int):Option (List Ag):=
 br (decide (v2<(↑p0.length:Int)))
  (bd (at? p0 v2) fun x3=>
  bd (rI x3 p1) fun x4=>
  jn (Q0 p0 p1 L1 v2) x4)
  (jn (Q0 p0 p1 L1 v2) false)
noncomputable def m8(p0:(List Ag))(p1:Ag):Option (List Ag):=
 Ap (YM p0 p1) big 0
noncomputable def Kv:GF:=ACQ.gf rfl rfl (fun a=>m8 a.1 a.2.1) (fun a=>by kernel_rfl)
noncomputable def ACR:YF:=⟨[],[.v (.st 6)],[],.ret [(.l (.st 5))],[.tmp 2],
 sq [qu 1 0,.as 2 (.k .nil),.A6 [(.tmp 2 0,(.st 5))]] [1] (sq [.AR 6 0 (.st 5) [],qa 3 6] [1,3] (.seq (sw 7 [wk 1 1,wY F3 rfl,wX] (Kp 522) (.cond 9 [3] [1,3] (sq [qm 10 3,qa 2 10] [2] .ret) .skip)) (sr [wn 11 [wk 1 1,wY QK rfl],
 qn [qa 4 12]] [3,4] (.join [cv 3 (.l (.st 5))] (sq [qK 5 0] (Kp 56) (bl 0 [cv 3 (.l (.st 5)),cv 5 .i] (.seq (sw 13 [wm 5,wm 4,wZ,wB .lss 13] (Kp 65592) (ce 16 (Kp 56) [3] 0)) (.seq (.block 1 (qr [wn 19 [wm 3,wm 4,wm 5,wE (.st 5) 20,wK 2,wc Kv rfl [19,23]],
 qn [qa 3 24]] (Kp 56))) (qr [wn 17 [wm 5,wI .add 1],
 qn [qa 5 18]] (Kp 56)))))) (sq [qm 25 3,qa 2 25] [2] .ret)))))⟩
noncomputable def lH(v9:(List Ag)):Option (List Ag):=
 some v9
noncomputable def YN(x2:(List Ag))(L3:((List Ag)×Int)->Option (List Ag))(x_:((List Ag)×Int)):Option (List Ag):=
 match x_ with
 |(v4,v5)=>br (decide (v5<(↑(List.length x2):Int)))
  (bd (at? x2 v5) fun x6=>
  bd (at? x2 v5) fun x7=>
  bd (m8 v4 x7) fun x8=>
  L3 ((x8,w64 (v5+1))))
  (jn (lH) v4)
noncomputable def rJ(p0:AU):Option (List Ag):=
 bd (bg p0) fun x1=>
 br (!x1)
  (some [])
  (bd (rH p0) fun x2=>
  Ap (YN x2) big ([],0))
noncomputable def QM:GF:=ACR.gf rfl rfl (fun a=>rJ a.1) (fun a=>by kernel_rfl)
noncomputable def ACS:YF:=⟨[],[.v (.l (.st 2)),.v .i],[],.ret [(.l (.st 5))],[.tmp 4],
 sq [.as 4 (.k .nil),.A6 [(.tmp 4 0,(.st 5))]] [0,1] (sq [.AR 7 0 (.st 5) [],qa 5 7] (Kp 35) (.join [cv 5 (.l (.st 5))] (sq [qK 6 0] (Kp 99) (bl 0 [cv 5 (.l (.st 5)),cv 6 .i] (.seq (sw 8 [wm 6,wm 0,wZ,wB .lss 8] (Kp 2147) (ce 11 (Kp 99) [5] 0)) (.join [cv 5 (.l (.st 5))] (.block 1 (.join [cv 28 .b] (qr [wn 14 [wm 0,wm 6,wE (.st 2) 14,wO 7,wL,wI .eql 2,wM],
 wt 20 21 [wm 0,wm 6,wE (.st 2) 21,wO 1,wL,wm 1,wB .eql 25],
 qn [qq 28 20 27]] (Kp 268435555)) (.cond 28 [0,1,5,6] (Kp 99) (.BW (qd 0 [wn 29 [wm 5,wm 0,wm 6,wE (.st 2) 30,wO 8,wL,wm 0,wm 6,wE (.st 2) 35,wO 0,wL,wh (.build · [.int .i64 0,.int .i64 0] [(0,1,(.tmp 34)),(1,1,(.tmp 39))]),wc Kv rfl [29,40]],
 qn [qa 5 41]] .nil) [0,1,5,6]) .skip))) (qr [wn 12 [wm 6,wI .add 1],
 qn [qa 6 13]] (Kp 99)))))) (sq [qm 42 5,qa 4 42] [4] .ret)))⟩
noncomputable def YQ(L1:((List Ag)×Int)->Option (List Ag))(v3:Int)(v10:(List Ag)):Option (List Ag):=
 L1 ((v10,w64 (v3+1)))
noncomputable def YP(p0:(List AH))(L1:((List Ag)×Int)->Option (List Ag))(v2:(List Ag))(v3:Int)(v6:Bool):Option (List Ag):=
 br v6
  (bd (at? p0 v3) fun x7=>
  bd (at? p0 v3) fun x8=>
  bd (m8 v2 (Ag.mk x7.Bh x8.Id)) fun x9=>
  jn (YQ L1 v3) x9)
  (jn (YQ L1 v3) v2)
noncomputable def lI(v11:(List Ag)):Option (List Ag):=
 some v11
noncomputable def YR(p0:(List AH))(p1:Int)(L1:((List Ag)×Int)->Option (List Ag))(x_:((List Ag)×Int)):Option (List Ag):=
 match x_ with
 |(v2,v3)=>br (decide (v3<(↑p0.length:Int)))
  (bd (at? p0 v3) fun x4=>
  br (x4.State==2)
   (bd (at? p0 v3) fun x5=>
   jn (YP p0 L1 v2 v3) (x5.AK==p1))
   (jn (YP p0 L1 v2 v3) false))
  (jn (lI) v2)
noncomputable def m9(p0:(List AH))(p1:Int):Option (List Ag):=
 Ap (YR p0 p1) big ([],0)
noncomputable def QN:GF:=ACS.gf rfl rfl (fun a=>m9 a.1 a.2.1) (fun a=>by kernel_rfl)
noncomputable def ACT:YF:=⟨[],[.v (.l (.st 5)),.v (.l (.st 5))],[],.ret [.b],[.tmp 4],
 sq [qB 4 false] [0,1] (.seq (sw 6 [wm 0,wZ,wm 1,wZ,wB .neq 7] (Kp 1027) (cn 10 [0,1] (sq [qB 4 false] [4] .ret))) (.join [] (sq [qK 5 0] (Kp 35) (bl 0 [cv 5 .i] (.seq (sw 11 [wm 5,wm 0,wZ,wB .lss 11] (Kp 16419) (ce 14 (Kp 35) [] 0)) (.seq (.block 1 (.seq (.BW (qd 0 [wn 17 [wm 0,wm 5,wE (.st 5) 17,wK 2,wm 1,wm 5,wE (.st 5) 21,wK 2,wh (.bin · (.agg [.i,.i]) .neq (.tmp 20) (.tmp 24))]] .nil) [0,1,5,25]) (cn 25 (Kp 35) (sq [qB 4 false] [4] .ret)))) (qr [wn 15 [wm 5,wI .add 1],
 qn [qa 5 16]] (Kp 35)))))) (sq [qB 4 true] [4] .ret)))⟩
noncomputable def lJ(_:PUnit):Option Bool:=
 some true
noncomputable def YS(p0:(List Ag))(p1:(List Ag))(L1:Int->Option Bool)(v2:Int):Option Bool:=
 br (decide (v2<(↑p0.length:Int)))
  (bd (at? p0 v2) fun x3=>
  bd (at? p1 v2) fun x4=>
  br (!(x3.At==x4.At&&(x3.Id==x4.Id&&true)))
   (some false)
   (L1 (w64 (v2+1))))
  (jn (lJ) ())
noncomputable def wa(p0:(List Ag))(p1:(List Ag)):Option Bool:=
 br ((↑p0.length:Int) != (↑p1.length:Int))
  (some false)
  (Ap (YS p0 p1) big 0)
noncomputable def cP:GF:=ACT.gf rfl rfl (fun a=>wa a.1 a.2.1) (fun a=>by kernel_rfl)
noncomputable def ABt:YF:=⟨[],[.v (.l (.st 2)),.v .i],[],.ret [.i],[.tmp 4],
 sq [qK 4 0] [0,1] (sq [qK 5 0] (Kp 35) (.join [cv 5 .i] (sq [qK 6 0] (Kp 99) (bl 0 [cv 5 .i,cv 6 .i] (.seq (sw 7 [wM,wm 0,wZ,wB .lss 7] (Kp 1123) (ce 10 (Kp 99) [5] 0)) (.join [cv 5 .i] (.block 1 (.join [cv 35 .b] (qr [wn 13 [wm 0,wm 6,wE (.st 2) 13,wO 7,wL,wI .eql 2,wM],
 wt 19 20 [wm 0,wm 6,wE (.st 2) 20,wO 1,wL,wm 1,wB .eql 24],
 wn 27 [wQ 19,wM],
 wt 28 29 [wm 0,wm 6,wE (.st 2) 29,wO 3,wL,wc Ax rfl [33,qj 1,qj 6]],
 qn [qq 35 28 34]] [0,1,5,6,35]) (.cond 35 [0,1,5,6] (Kp 99) (qr [wn 36 [wm 5,wm 0,wm 6,wE (.st 2) 37,wO 3,wL,wB .add 36],
 qn [qa 5 42]] (Kp 99)) .skip))) (qr [wn 11 [wm 6,wI .add 1],
 qn [qa 6 12]] (Kp 99)))))) (sq [qm 43 5,qa 4 43] [4] .ret)))⟩
noncomputable def Xm(L1:(Int×Int)->Option Int)(v3:Int)(v10:Int):Option Int:=
 L1 ((v10,w64 (v3+1)))
noncomputable def Qo(p0:(List AH))(L1:(Int×Int)->Option Int)(v2:Int)(v3:Int)(v8:Bool):Option Int:=
 br v8
  (bd (at? p0 v3) fun x9=>
  jn (Xm L1 v3) (w64 (v2+x9.AY)))
  (jn (Xm L1 v3) v2)
noncomputable def jq(v11:Int):Option Int:=
 some v11
noncomputable def Xn(p0:(List AH))(p1:Int)(L1:(Int×Int)->Option Int)(x_:(Int×Int)):Option Int:=
 match x_ with
 |(v2,v3)=>br (decide (v3<(↑p0.length:Int)))
  (bd (at? p0 v3) fun x4=>
  br (x4.State==2)
   (bd (at? p0 v3) fun x5=>
   br (x5.AK==p1)
    (bd (at? p0 v3) fun x6=>
    bd (CN x6.AY 1 6) fun x7=>
    jn (Qo p0 L1 v2 v3) x7)
    (jn (Qo p0 L1 v2 v3) false))
   (jn (Qo p0 L1 v2 v3) false))
  (jn (jq) v2)
noncomputable def mu(p0:(List AH))(p1:Int):Option Int:=
 Ap (Xn p0 p1) big (0,0)
noncomputable def KS:GF:=ABt.gf rfl rfl (fun a=>mu a.1 a.2.1) (fun a=>by kernel_rfl)
noncomputable def ABu:YF:=⟨[],[.v (.l (.st 2)),.v .i],[],.ret [.i],[.tmp 4],
 sq [qK 4 0] [0,1] (sq [qK 5 0] (Kp 35) (.join [cv 5 .i] (sq [qK 6 0] (Kp 99) (bl 0 [cv 5 .i,cv 6 .i] (.seq (sw 7 [wM,wm 0,wZ,wB .lss 7] (Kp 1123) (ce 10 (Kp 99) [5] 0)) (.join [cv 5 .i] (.block 1 (.join [cv 27 .b] (qr [wn 13 [wm 0,wm 6,wE (.st 2) 13,wO 2,wL,wm 1,wB .eql 17,wM],
 wt 20 21 [wm 0,wm 6,wE (.st 2) 21,wO 3,wL,wc Ax rfl [25,qj 1,qj 6]],
 qn [qq 27 20 26]] (Kp 134217827)) (.cond 27 [0,1,5,6] (Kp 99) (qr [wn 28 [wm 5,wm 0,wm 6,wE (.st 2) 29,wO 3,wL,wB .add 28],
 qn [qa 5 34]] (Kp 99)) .skip))) (qr [wn 11 [wm 6,wI .add 1],
 qn [qa 6 12]] (Kp 99)))))) (sq [qm 35 5,qa 4 35] [4] .ret)))⟩
noncomputable def Xp(L1:(Int×Int)->Option Int)(v3:Int)(v9:Int):Option Int:=
 L1 ((v9,w64 (v3+1)))
noncomputable def Xo(p0:(List AH))(L1:(Int×Int)->Option Int)(v2:Int)(v3:Int)(v7:Bool):Option Int:=
 br v7
  (bd (at? p0 v3) fun x8=>
  jn (Xp L1 v3) (w64 (v2+x8.AY)))
  (jn (Xp L1 v3) v2)
noncomputable def jr(v10:Int):Option Int:=
 some v10
noncomputable def Xq(p0:(List AH))(p1:Int)(L1:(Int×Int)->Option Int)(x_:(Int×Int)):Option Int:=
 match x_ with
 |(v2,v3)=>br (decide (v3<(↑p0.length:Int)))
  (bd (at? p0 v3) fun x4=>
  br (x4.Ay==p1)
   (bd (at? p0 v3) fun x5=>
   bd (CN x5.AY 1 6) fun x6=>
   jn (Xo p0 L1 v2 v3) x6)
   (jn (Xo p0 L1 v2 v3) false))
  (jn (jr) v2)
noncomputable def mw(p0:(List AH))(p1:Int):Option Int:=
 Ap (Xq p0 p1) big (0,0)
noncomputable def KT:GF:=ABu.gf rfl rfl (fun a=>mw a.1 a.2.1) (fun a=>by kernel_rfl)
noncomputable def ABv:YF:=⟨[],[.v (.st 1),.v (.st 7),.v (.l (.st 2)),.v .i,.v .i],[],.ret [.b],[.tmp 10],
 sq [qu 5 0,qu 6 1,qB 10 false] (Kp 124) (.join [cv 10 .b] (.BW (qd 0 [wn 11 [wk 7 6,wY cL rfl,wM],
 wt 13 14 [wo 5 6,wL,wk 9 5,wm 2,wm 3,wm 4]] (.op 9 (some (13,true)) [14] (.call 20 Ku [] rfl [(.tmp 16),(.tmp 17),(.tmp 18),(.tmp 19)])
 (qd 10 [qt 13 [qc 21 cO rfl [15,20]],
 wn 22 [wQ 13,wM],
 wt 23 24 [wo 6 6,wK 1]] (qd 16 [wt 23 27 [wm 2,wm 3]] (.op 15 (some (23,true)) [] (.call 26 QM [] rfl [(.tmp 25)])
 (qd 18 [wt 23 29 [wc QN rfl [27,28],wc cP rfl [26,29]],
 wn 31 [wQ 23,wM],
 wt 32 33 [wo 0 6,wO 2,wL,wm 2,wm 3]] (.op 27 (some (32,true)) [34] (.call 38 KS [] rfl [(.tmp 36),(.tmp 37)])
 (qd 28 [qt 32 [qb 39 .eql 35 38],
 wn 40 [wQ 32,wM],
 wt 41 42 [wo 0 6,wO 4,wL,wm 2,wm 3]] (.op 36 (some (41,true)) [43] (.call 47 KT [] rfl [(.tmp 45),(.tmp 46)])
 (qd 37 [qt 41 [qb 48 .eql 44 47],
 qn [qq 49 41 48,qa 10 49]] .nil)))))))))) [10]) .ret)⟩
noncomputable def LZ(v9:Bool):Option Bool:=
 some v9
noncomputable def wG(p0:AN)(p1:AZ)(p2:(List AH))(p3:Int)(p4:Int):Option Bool:=
 bd (wS p1) fun x1=>
 br x1
  (bd (m7 p0 p2 p3 p4) fun x2=>
  bd (wW p1.Row x2) fun x3=>
  br x3
   (bd (rJ p1.BL) fun x4=>
   bd (m9 p2 p3) fun x5=>
   bd (wa x4 x5) fun x6=>
   br x6
    (bd (mu p2 p3) fun x7=>
    br (p1.AM.Cp==x7)
     (bd (mw p2 p3) fun x8=>
     jn (LZ) (p1.AM.EB==x8))
     (jn (LZ) false))
    (jn (LZ) false))
   (jn (LZ) false))
  (jn (LZ) false)
noncomputable def cG:GF:=ABv.gf rfl rfl (fun a=>wG a.1 a.2.1 a.2.2.1 a.2.2.2.1 a.2.2.2.2.1) (fun a=>by kernel_rfl)
noncomputable def ABw:YF:=⟨[],[.v (.l (.st 2)),.v .i],[],.ret [.i],[.tmp 4],
 sq [qK 4 0] [0,1] (sq [qK 5 0] (Kp 35) (.join [cv 5 .i] (sq [qK 6 0] (Kp 99) (bl 0 [cv 5 .i,cv 6 .i] (.seq (sw 7 [wM,wm 0,wZ,wB .lss 7] (Kp 1123) (ce 10 (Kp 99) [5] 0)) (.join [cv 5 .i] (.block 1 (sw 13 [wm 0,wm 6,wE (.st 2) 13,wO 1,wL,wm 1,wB .eql 17] (Kp 524387) (.cond 19 [0,1,5,6] (Kp 99) (qr [wn 20 [wm 5,wI .add 1],
 qn [qa 5 21]] (Kp 99)) .skip))) (qr [wn 11 [wm 6,wI .add 1],
 qn [qa 6 12]] (Kp 99)))))) (sq [qm 22 5,qa 4 22] [4] .ret)))⟩
noncomputable def Xr(L1:(Int×Int)->Option Int)(v3:Int)(v5:Int):Option Int:=
 L1 ((v5,w64 (v3+1)))
noncomputable def js(v6:Int):Option Int:=
 some v6
noncomputable def Xs(p0:(List AH))(p1:Int)(L1:(Int×Int)->Option Int)(x_:(Int×Int)):Option Int:=
 match x_ with
 |(v2,v3)=>br (decide (v3<(↑p0.length:Int)))
  (bd (at? p0 v3) fun x4=>
  br (x4.AK==p1)
   (jn (Xr L1 v3) (w64 (v2+1)))
   (jn (Xr L1 v3) v2))
  (jn (js) v2)
noncomputable def fb(p0:(List AH))(p1:Int):Option Int:=
 Ap (Xs p0 p1) big (0,0)
noncomputable def Hc:GF:=ABw.gf rfl rfl (fun a=>fb a.1 a.2.1) (fun a=>by kernel_rfl)
noncomputable def ABx:YF:=⟨[],[.v (.st 8)],[],.ret [.b],[.tmp 2],
 sq [qu 1 0,qB 2 false] [1] (.seq (.join [cv 35 .b] (qr [wn 4 [wo 0 1,wK 9,wY Hd rfl,wX,wM],
 wf 8 9 [wo 9 1,wL,wc Ax rfl [10,qj 0,qj 1000000],wX],
 wn 13 [wR 8,wM],
 wf 14 15 [wo 10 1,wL,wc Ax rfl [16,qj 1,qj 1000001],wX],
 wn 19 [wR 14,wM],
 wf 20 21 [wo 11 1,wL,wZ,wI .gtr 40],
 wn 25 [wR 20,wM],
 wf 26 27 [wo 12 1,wL,wZ,wo 0 1,wO 0,wL,wZ,wB .neq 29],
 qn [qp 35 26 34]] [1,35]) (cn 35 [1] (sq [qB 2 false] [2] .ret))) (.seq (.join [cv 43 .b] (qr [wn 36 [wk 15 1,wY cJ rfl,wX,wM],
 wf 39 40 [wk 15 1,wY cK rfl,wX],
 qn [qp 43 39 42]] [1,43]) (cn 43 [1] (sq [qB 2 false] [2] .ret))) (.join [] (sq [qK 3 0] [1,3] (bl 0 [cv 3 .i] (.seq (sw 44 [wm 3,wo 12 1,wL,wZ,wB .lss 44] [1,3,48] (ce 48 [1,3] [] 0)) (.seq (.block 1 (.join [cv 90 .b] (.BW (qd 0 [wn 51 [wo 12 1,wL,wm 3,wE (.st 7) 52,wO 0,wO 0,wL,wo 0 1,wO 0,wL,wm 3,wE .i 60,wL,wB .neq 57,wM],
 wf 65 66 [wo 0 1,wK 9,wo 12 1,wL,wm 3,wE (.st 7) 69,wK 7,wo 11 1,wL,wm 3,wo 9 1,wL,wc cG rfl [67,72,74,75,77],wX],
 wn 80 [wR 65,wM],
 wf 81 82 [wo 11 1,wL,wm 3]] (qd 35 [wf 81 86 [wo 0 1,wO 2,wL]] (.op 34 (some (81,false)) [87] (.call 85 Hc [] rfl [(.tmp 83),(.tmp 84)])
 (qd 38 [qf 81 [qb 89 .gtr 85 88],
 qn [qp 90 81 89]] .nil)))) [1,3,90]) (cn 90 [1,3] (sq [qB 2 false] [2] .ret)))) (qr [wn 49 [wm 3,wI .add 1],
 qn [qa 3 50]] [1,3]))))) (sq [qB 2 true] [2] .ret))))⟩
noncomputable def NW(L5:Int->Option Bool)(v6:Int)(v9:Bool):Option Bool:=
 br v9
  (some false)
  (L5 (w64 (v6+1)))
noncomputable def jt(_:PUnit):Option Bool:=
 some true
noncomputable def Xt(p0:AA)(L5:Int->Option Bool)(v6:Int):Option Bool:=
 br (decide (v6<(↑p0.AE.length:Int)))
  (bd (at? p0.AE v6) fun x7=>
  bd (at? p0.AG.AM v6) fun x8=>
  br (x7.AM.Total != x8)
   (jn (NW L5 v6) true)
   (bd (at? p0.AE v6) fun x10=>
   bd (wG p0.AG x10 p0.AB v6 p0.Now) fun x11=>
   br (!x11)
    (jn (NW L5 v6) true)
    (bd (fb p0.AB v6) fun x12=>
    jn (NW L5 v6) (decide (x12>p0.AG.Room)))))
  (jn (jt) ())
noncomputable def Qp(p0:AA)(v4:Bool):Option Bool:=
 br v4
  (some false)
  (Ap (Xt p0) big 0)
noncomputable def HU(p0:AA)(v2:Bool):Option Bool:=
 br v2
  (some false)
  (bd (wN p0) fun x3=>
  br (!x3)
   (jn (Qp p0) true)
   (bd (wP p0) fun x13=>
   jn (Qp p0) (!x13)))
noncomputable def my(p0:AA):Option Bool:=
 bd (fc p0.AG) fun x1=>
 br (!x1)
  (jn (HU p0) true)
  (bd (CN p0.Now 0 1000000) fun x14=>
  br (!x14)
   (jn (HU p0) true)
   (bd (CN p0.AQ 1 1000001) fun x15=>
   br (!x15)
    (jn (HU p0) true)
    (br (decide ((↑p0.AB.length:Int)>40))
     (jn (HU p0) true)
     (jn (HU p0) ((↑p0.AE.length:Int) != (↑p0.AG.AM.length:Int))))))
noncomputable def MT:GF:=ABx.gf rfl rfl (fun a=>my a.1) (fun a=>by kernel_rfl)
noncomputable def ABy:YF:=⟨[],[.v .i],[],.ret [.b],[.tmp 2],
 sq [qB 2 false] [0] (sr [wn 3 [wm 0,wc Ax rfl [3,qj 0,qj 9999]],
 qn [qa 2 4]] [2] .ret)⟩
noncomputable def Qg(p0:Int):Option Bool:=
 bd (CN p0 0 9999) fun x1=>
 some x1
noncomputable def G1:GF:=ABy.gf rfl rfl (fun a=>Qg a.1) (fun a=>by kernel_rfl)
noncomputable def ABz:YF:=⟨[],[.v (.st 0)],[],.ret [.b],[.tmp 2],
 sq [qu 1 0,qB 2 false] [1] (.seq (sw 3 [wo 0 1,wL] [1,4] (.block 0 (sq [qi 6 .eql 4 1,qa 5 6] (Kp 50) (.cond 5 [1] [1,4] (.join [cv 2 .b] (qr [wn 7 [wo 1 1,wL,wY G1 rfl,wM],
 wt 10 11 [wo 2 1,wL,wY G1 rfl],
 wn 14 [wQ 10,wM],
 wt 15 16 [wo 3 1,wL,wc Ax rfl [17,qj (-1),qj 9999]],
 wn 19 [wQ 15,wM],
 wt 20 21 [wo 4 1,wL,wY G1 rfl],
 wn 24 [wQ 20,wM],
 wt 25 26 [wo 5 1,wL,wY G1 rfl],
 qn [qq 29 25 28,qa 2 29]] [2]) .ret) (.join [cv 30 .b] (sq [qi 31 .eql 4 2,qa 30 31] [1,4,30] (.cond 30 [1,4,30] [1,4] .skip (sq [qi 32 .eql 4 4,qa 30 32] [1,4,30] (.cond 30 [1,4,30] [1,4] .skip (sq [qi 33 .eql 4 5,qa 30 33] [1,4,30] (.cond 30 [1,4,30] [1,4] .skip (q1 [qi 34 .eql 4 7,qa 30 34] [1,4,30]))))))) (.cond 30 [1] [1,4] (.join [cv 2 .b] (qr [wn 35 [wo 1 1,wL,wY G1 rfl,wM],
 wt 38 39 [wk 6 1,wo 0 1,wL,wo 1 1,wL,wh (.build · B3 [(0,1,(.tmp 41)),(1,1,(.tmp 43))]),wh (.bin · (.agg [.i,.i,.i,.i,.i,.i]) .eql (.tmp 39) (.tmp 44))],
 qn [qq 46 38 45,qa 2 46]] [2]) .ret) (sq [qi 48 .eql 4 3,qa 47 48] [1,4,47] (.cond 47 [1] [1,4] (.join [cv 2 .b] (qr [wn 49 [wo 2 1,wL,wY G1 rfl,wM],
 wt 52 53 [wo 4 1,wL,wY G1 rfl],
 wn 56 [wQ 52,wM],
 wt 57 58 [wk 6 1,wo 0 1,wL,wo 2 1,wL,wo 4 1,wL,wh (.build · B3 [(0,1,(.tmp 60)),(2,1,(.tmp 62)),(4,1,(.tmp 64))]),wh (.bin · (.agg [.i,.i,.i,.i,.i,.i]) .eql (.tmp 58) (.tmp 65))],
 qn [qq 67 57 66,qa 2 67]] [2]) .ret) (sq [qi 69 .eql 4 6,qa 68 69] [1,68] (.cond 68 [1] [] (sr [wn 70 [wk 6 1,wo 0 1,wL,wh (.build · B3 [(0,1,(.tmp 72))]),wh (.bin · (.agg [.i,.i,.i,.i,.i,.i]) .eql (.tmp 70) (.tmp 73))],
 qn [qa 2 74]] [2] .ret) .skip)))))))))) (sq [qB 2 false] [2] .ret))⟩
noncomputable def Eg(v6:Bool):Option Bool:=
 some v6
noncomputable def NX(p0:Aq)(v7:Bool):Option Bool:=
 br v7
  (bd (Qg p0.Id) fun x8=>
  br x8
   (jn (Eg) (p0.Kind==p0.Kind&&(p0.Id==p0.Id&&(p0.AK==0&&(p0.Ay==0&&(p0.AY==0&&(p0.Bb==0&&true)))))))
   (jn (Eg) false))
  (br (p0.Kind==3)
   (bd (Qg p0.AK) fun x9=>
   br x9
    (bd (Qg p0.AY) fun x10=>
    br x10
     (jn (Eg) (p0.Kind==p0.Kind&&(p0.Id==0&&(p0.AK==p0.AK&&(p0.Ay==0&&(p0.AY==p0.AY&&(p0.Bb==0&&true)))))))
     (jn (Eg) false))
    (jn (Eg) false))
   (br (p0.Kind==6)
    (some (p0.Kind==p0.Kind&&(p0.Id==0&&(p0.AK==0&&(p0.Ay==0&&(p0.AY==0&&(p0.Bb==0&&true)))))))
    (some false)))
noncomputable def wH(p0:Aq):Option Bool:=
 br (p0.Kind==1)
  (bd (Qg p0.Id) fun x1=>
  br x1
   (bd (Qg p0.AK) fun x2=>
   br x2
    (bd (CN p0.Ay (-1) 9999) fun x3=>
    br x3
     (bd (Qg p0.AY) fun x4=>
     br x4
      (bd (Qg p0.Bb) fun x5=>
      jn (Eg) x5)
      (jn (Eg) false))
     (jn (Eg) false))
    (jn (Eg) false))
   (jn (Eg) false))
  (br (p0.Kind==2)
   (jn (NX p0) (p0.Kind==2))
   (br (p0.Kind==4)
    (jn (NX p0) (p0.Kind==4))
    (br (p0.Kind==5)
     (jn (NX p0) (p0.Kind==5))
     (jn (NX p0) (p0.Kind==7)))))
noncomputable def cH:GF:=ABz.gf rfl rfl (fun a=>wH a.1) (fun a=>by kernel_rfl)
noncomputable def FW(v1:Bool):Option Bool:=
 some v1
noncomputable def Fo(p0:Int)(p1:Int)(p2:Int):Option Bool:=
 br (decide (p0>=p1))
  (jn (FW) (decide (p0<=p2)))
  (jn (FW) false)
end Lv
set_option maxRecDepth 100000
namespace Lv
open Go (IntKind BinOp UnOp)
open Y (YF qn qf qt qr q1 qd qm qa qo ql qL qb qi qx qp qq qc qz qe qk qK qB qw qu qj Kp wn wf wt w1 sw sq sr wm wM wo wO wl wL wk wK wz wZ wx wX wb wB wi wI wr wR wq wQ we wE wc wY wj wh cv ca cx cn ce bl)
noncomputable def J8(p0:Int):Option Bool:=
 bd (Fo p0 0 9999) fun x1=>
 some x1
noncomputable def NV(p0:Aq)(p1:Aq):Option Bool:=
 br (p0.Kind != p1.Kind)
  (some false)
  (br (p0.Id != p1.Id)
   (some false)
   (br (p0.AK != p1.AK)
    (some false)
    (br (p0.Ay != p1.Ay)
     (some false)
     (br (p0.AY != p1.AY)
      (some false)
      (br (p0.Bb != p1.Bb)
       (some false)
       (some true))))))
noncomputable def IE(x_:(Int×(List UInt8))):Option (List UInt8):=
 match x_ with
 |(v5,v6)=>gd (v6.length+[toB v5].length<=lim) (
 some (v6++[toB v5]))
noncomputable def IF(L2:(Int×(List UInt8))->Option (List UInt8))(x_:(Int×(List UInt8))):Option (List UInt8):=
 match x_ with
 |(v3,v4)=>br (decide (v3>127))
  (gd (v4.length+[toB (w64 (Int.tmod v3 128+128))].length<=lim) (
  L2 ((w64 (Int.tdiv v3 128),v4++[toB (w64 (Int.tmod v3 128+128))]))))
  (jn (IE) (v3,v4))
noncomputable def MP(p0:Int):Option (List UInt8):=
 bd (CN p0 0 2147483647) fun x1=>
 br (!x1)
  (some [])
  (Ap (IF) big (p0,[]))
end Lv
