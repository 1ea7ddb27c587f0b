/-
  Printed: functions of the program as texts of the typed machine, as plain functions, and that the one is the other.
-/
import Derived.Test.YthnbolemafdhfaaGreatKD
import Derived.KernelRfl
set_option linter.unusedVariables false
set_option linter.unusedSimpArgs false
set_option linter.unusedSectionVars false
set_option maxRecDepth 100000
namespace Lv
open Go (IntKind BinOp UnOp)
open Y (YF qn qf qt qr q1 qd qm qa qo ql qL qb qi qx qp qq qc qz qe qk qK qB qw qu qj Kp wn wf wt w1 sw sq sr wm wM wo wO wl wL wk wK wz wZ wx wX wb wB wi wI wr wR wq wQ we wE wc wY wj wh cv ca cx cn ce bl)
noncomputable def AA5:YF:=⟨[],[.b (.st 17)],[],.ret [(.st 8)],[.cell 2 (some 15)],
 sq [.alloc 2 Ae,.A6 [(.cell 2 0,.i),(.cell 2 11,(.st 2)),(.cell 2 12,(.st 7)),(.cell 2 13,.i),(.cell 2 14,.i)]] [0,2] (.seq (sw 5 [wm 0,wc BD rfl [5,qj 3]] (Kp 69) (.cond 6 [0,2] [0,2] (sr [wn 7 [wm 0,wY Kc rfl],
 qn [qw 15 2 8]] [0,2] .ret) .skip)) (sr [wn 10 [wm 0,wY Ka rfl,wY KZ rfl],
 qn [qm 9 12],
 wn 13 [wh (.ext · (.tmp 9) 0),wh (.ext · (.tmp 9) 1)],
 qn [.alloc 3 Ae,.A6 [(.cell 3 0,.i),(.cell 3 11,(.st 2)),(.cell 3 12,(.st 7)),(.cell 3 13,.i),(.cell 3 14,.i)],qw 15 3 13,qa 4 14]] (Kp 13) (sq [qL 15 15 3,qw 15 2 15] [0,2] .ret)))⟩
noncomputable def kO(p0:AI):Option (AA×AI):=
 bd (Ea p0 3) fun x1=>
 br x1.fst
  (bd (aw x1.snd) fun x2=>
  some (x2.fst,x2.snd))
  (bd (ak x1.snd) fun x3=>
  bd (Vx x3.fst) fun x4=>
  some (x4.fst,x3.snd))
noncomputable def TH:GF:=AA5.gf rfl rfl (fun a=>kO a.1) (fun a=>by kernel_rfl)
noncomputable def AA6:YF:=⟨[],[.v (.l .u),.v .i,.v .i],[],.ret [.i],[.tmp 6],
 sq [qK 6 0] (Kp 7) (sr [wn 8 [wm 1,wm 0,wZ,wI .quo 4,wB .add 8],
 qn [qa 7 12]] [2,7] (.seq (sw 13 [wm 7,wm 2,wB .gtr 13] [2,7,15] (.cond 15 [2] [7] (sq [qm 16 2,qa 6 16] [6] .ret) .skip)) (sq [qm 17 7,qa 6 17] [6] .ret)))⟩
noncomputable def kP(p0:(List UInt8))(p1:Int)(p2:Int):Option Int:=
 br (decide (w64 (p1+w64 ((↑p0.length:Int).tdiv 4))>p2))
  (some p2)
  (some (w64 (p1+w64 ((↑p0.length:Int).tdiv 4))))
noncomputable def TI:GF:=AA6.gf rfl rfl (fun a=>kP a.1 a.2.1 a.2.2.1) (fun a=>by kernel_rfl)
noncomputable def AA7:YF:=⟨[],[.b (.st 17),.v (.st 8)],[],.ret [(.st 0)],[.cell 4 (some 6)],
 sq [qu 3 1,.alloc 4 B3] (Kp 25) (.join [(true,0,.one,[.val (.st 17) (some (.old 0))])] (sq [qK 5 0] (Kp 57) (bl 0 [cv 5 .i,(true,0,.one,[.val (.st 17) (some (.old 0))])] (.seq (sw 6 [wM,wo 11 3,wL,wZ,wB .lss 6] (Kp 1081) (ce 10 [0,3,4,5] (Kp 25) 0)) (.seq (.block 1 (.join [cv 23 .b,(true,0,.one,[.val (.st 17) (some (.old 0))])] (qr [wn 13 [wo 11 3,wL,wm 5,wE (.st 2) 14,wO 7,wL,wI .eql 2,wM],
 wt 20 21 [wm 0,wc BD rfl [21,qj 3]],
 qn [qq 23 20 22]] (Kp 8388665)) (.cond 23 [0,3,4,5] (Kp 57) (.seq (.BW (.op 0 none [] (.mv 24 (.tmp 0))
 (qd 3 [wn 27 [wo 11 3,wL,wm 5,wE (.st 2) 28,wO 0,wL]] (.op 1 none [27,31] (.AR 25 3 .i [(0,(.k (.int .i64 4))),(1,(.k (.int .i64 4))),(2,(.k (.int .i64 5)))])
 (.op 2 none [27,31] (.call 26 B9 [] rfl [(.tmp 24),(.tmp 25)])
 (qd 9 [qn [.build 33 B3 [(0,1,(.tmp 26)),(1,1,(.tmp 32))],qw 6 4 33]] .nil))))) [0,4]) .ret) .skip))) (qr [wn 11 [wm 5,wI .add 1],
 qn [qa 5 12]] (Kp 57)))))) (.seq (sw 34 [wm 0,wc BD rfl [34,qj 4]] [0,3,4,35] (.cond 35 [0,4] (Kp 25) (sq [.build 36 B3 [(0,1,(.k (.int .i64 6)))],qw 6 4 36] [0,4] .ret) .skip)) (sr [wn 37 [wm 0,wo 14 3,wL,wZ,wc Bm rfl [qj 1,40],wc AJ rfl [37,41],wh (.build · B3 [(0,1,(.k (.int .i64 7))),(1,1,(.tmp 42))])],
 qn [qw 6 4 43]] [0,4] .ret)))⟩
noncomputable def Np(p1:AA)(L1:(Int×AI)->Option (Aq×AI))(v2:Int)(x_:(Bool×AI)):Option (Aq×AI):=
 match x_ with
 |(v6,v7)=>br v6
  (bd (at? p1.AB v2) fun x8=>
  bd (Jq v7 ([4,4,5])) fun x9=>
  some (Aq.mk x9.fst x8.Id 0 0 0 0,x9.snd))
  (L1 ((w64 (v2+1),v7)))
noncomputable def bK(p1:AA)(v10:AI):Option (Aq×AI):=
 bd (Ea v10 4) fun x11=>
 br x11.fst
  (some (Aq.mk 6 0 0 0 0 0,x11.snd))
  (bd (Jw 1 (↑p1.AS.length:Int)) fun x12=>
  bd (Ao x11.snd x12) fun x13=>
  some (Aq.mk 7 x13.fst 0 0 0 0,x13.snd))
noncomputable def bL(p1:AA)(L1:(Int×AI)->Option (Aq×AI))(x_:(Int×AI)):Option (Aq×AI):=
 match x_ with
 |(v2,v3)=>br (decide (v2<(↑p1.AB.length:Int)))
  (bd (at? p1.AB v2) fun x4=>
  br (x4.State==2)
   (bd (Ea v3 3) fun x5=>
   jn (Np p1 L1 v2) (x5.fst,x5.snd))
   (jn (Np p1 L1 v2) (false,v3)))
  (jn (bK p1) v3)
noncomputable def bJ(p0:AI)(p1:AA):Option (Aq×AI):=
 Ap (bL p1) big (0,p0)
noncomputable def TJ:GF:=AA7.gf rfl rfl (fun a=>bJ a.1 a.2.1) (fun a=>by kernel_rfl)
noncomputable def AA8:YF:=⟨[],[.v (.st 8),.v .i],[],.ret [.i],[.tmp 4],
 sq [qu 2 0,qK 4 0] [1,2] (sr [wn 5 [wo 11 2,wL,wm 1,wc E3 rfl [6,7]],
 qn [qa 4 8]] [4] .ret)⟩
noncomputable def Fx(p0:AA)(p1:Int):Option Int:=
 bd (Nd p0.AB p1) fun x1=>
 some x1
noncomputable def BU:GF:=AA8.gf rfl rfl (fun a=>Fx a.1 a.2.1) (fun a=>by kernel_rfl)
noncomputable def AA9:YF:=⟨[],[.v (.st 8),.v .i],[],.ret [.i],[.tmp 4],
 sq [qu 2 0,qK 4 0] [1,2] (.seq (.BW (qd 0 [wn 5 [wo 12 2,wL,wm 1,wE (.st 7) 6,wO 0,wO 3,wL,wo 12 2,wL,wm 1,wE (.st 7) 13,wO 0,wO 4,wL,wB .sub 11],
 qn [qa 4 19]] .nil) [4]) .ret)⟩
noncomputable def bM(p0:AA)(p1:Int):Option Int:=
 bd (at? p0.AE p1) fun x1=>
 bd (at? p0.AE p1) fun x2=>
 some (w64 (x1.AM.Dz-x2.AM.EB))
noncomputable def Ki:GF:=AA9.gf rfl rfl (fun a=>bM a.1 a.2.1) (fun a=>by kernel_rfl)
noncomputable def ABA:YF:=⟨[],[.v (.st 8),.v (.st 0)],[],.ret [.i],[.tmp 4],
 sq [qu 2 0,qu 3 1,qK 4 0] [2,3] (.seq (.join [cv 25 .b] (qr [wn 5 [wo 2 3,wL,wo 12 2,wL,wZ,wB .geq 6,wM],
 wf 11 12 [wo 3 3,wL,wo 12 2,wL,wZ,wB .geq 13],
 wn 18 [wR 11,wM],
 wf 19 20 [wo 3 3,wL,wo 2 3,wL,wB .eql 21],
 qn [qp 25 19 24]] [2,3,25]) (cn 25 [2,3] (sq [qK 4 4] [4] .ret))) (.seq (sw 26 [wo 4 3,wL,wo 0 2,wO 3,wL,wc Ax rfl [27,qj 1,30],wX] [2,3,32] (cn 32 [2,3] (sq [qK 4 5] [4] .ret))) (.seq (sw 33 [wo 5 3,wL,wo 0 2,wO 1,wL,wB .geq 34] [2,3,38] (cn 38 [2,3] (sq [qK 4 6] [4] .ret))) (.seq (sw 39 [wo 1 3,wL,wc Ax rfl [40,qj 1,qj 999],wX] [2,3,42] (cn 42 [2,3] (sq [qK 4 7] [4] .ret))) (.seq (sw 43 [wk 15 2,wo 1 3,wL,wc BU rfl [43,45],wI .geq 0] [2,3,47] (cn 47 [2,3] (sq [qK 4 8] [4] .ret))) (.seq (.seq (.BW (qd 0 [wn 48 [wo 11 2,wL,wo 2 3,wL]] (qd 5 [wn 53 [wo 0 2,wO 2,wL]] (.op 4 none [54] (.call 52 Hc [] rfl [(.tmp 49),(.tmp 51)])
 (.op 8 none [] (.bin 56 .num .geq (.tmp 52) (.tmp 55))
 .nil)))) [2,3,56]) (cn 56 [2,3] (sq [qK 4 9] [4] .ret))) (.seq (.join [cv 68 .b] (.BW (qd 0 [wn 57 [wo 3 3,wL,wI .geq 0,wM],
 wt 60 61 [wk 15 2,wo 3 3,wL]] (qd 8 [wt 60 65 [wo 4 3,wL]] (.op 7 (some (60,true)) [65] (.call 64 Ki [] rfl [(.tmp 61),(.tmp 63)])
 (qd 10 [qt 60 [qb 67 .lss 64 66],
 qn [qq 68 60 67]] .nil)))) [2,68]) (cn 68 [2] (sq [qK 4 10] [4] .ret))) (.seq (sw 69 [wo 10 2,wL,wI .gtr 1000000] [71] (cn 71 [] (sq [qK 4 11] [4] .ret))) (sq [qK 4 0] [4] .ret)))))))))⟩
noncomputable def R5(p0:AA)(v7:Bool):Option Int:=
 br v7
  (some 10)
  (br (decide (p0.AQ>1000000))
   (some 11)
   (some 0))
noncomputable def KF(p0:AA)(p1:Aq)(v1:Bool):Option Int:=
 br v1
  (some 4)
  (bd (CN p1.AY 1 p0.AG.AY) fun x2=>
  br (!x2)
   (some 5)
   (br (decide (p1.Bb>=p0.AG.Bq))
    (some 6)
    (bd (CN p1.Id 1 999) fun x3=>
    br (!x3)
     (some 7)
     (bd (Fx p0 p1.Id) fun x4=>
     br (decide (x4>=0))
      (some 8)
      (bd (fb p0.AB p1.AK) fun x5=>
      br (decide (x5>=p0.AG.Room))
       (some 9)
       (br (decide (p1.Ay>=0))
        (bd (bM p0 p1.Ay) fun x6=>
        jn (R5 p0) (decide (x6<p1.AY)))
        (jn (R5 p0) false)))))))
noncomputable def kQ(p0:AA)(p1:Aq):Option Int:=
 br (decide (p1.AK>=(↑p0.AE.length:Int)))
  (jn (KF p0 p1) true)
  (br (decide (p1.Ay>=(↑p0.AE.length:Int)))
   (jn (KF p0 p1) true)
   (jn (KF p0 p1) (p1.Ay==p1.AK)))
noncomputable def TK:GF:=ABA.gf rfl rfl (fun a=>kQ a.1 a.2.1) (fun a=>by kernel_rfl)
noncomputable def ABB:YF:=⟨[],[.v (.st 2),.v .i],[],.ret [.b],[.tmp 4],
 sq [qu 2 0,qB 4 false] [1,2] (.join [cv 4 .b] (qr [wn 5 [wo 7 2,wL,wI .eql 2,wM],
 wt 8 9 [wo 8 2,wL,wm 1,wB .leq 10],
 qn [qq 13 8 12,qa 4 13]] [4]) .ret)⟩
noncomputable def R6(v1:Bool):Option Bool:=
 some v1
noncomputable def kR(p0:AH)(p1:Int):Option Bool:=
 br (p0.State==2)
  (jn (R6) (decide (p0.Bh<=p1)))
  (jn (R6) false)
noncomputable def TL:GF:=ABB.gf rfl rfl (fun a=>kR a.1 a.2.1) (fun a=>by kernel_rfl)
noncomputable def ABC:YF:=⟨[],[.v (.st 8),.v .i],[],.ret [.i],[.tmp 4],
 sq [qu 2 0,qK 4 0] [1,2] (sr [wn 6 [wk 15 2,wm 1,wc BU rfl [6,7]],
 qn [qa 5 8]] [2,5] (.seq (sw 9 [wm 5,wI .lss 0] (Kp 1060) (cn 10 [2,5] (sq [qK 4 7] [4] .ret))) (.seq (sw 11 [wo 11 2,wL,wm 5,wE (.st 2) 12,wO 7,wL,wI .neq 2] [2,5,17] (cn 17 [2,5] (sq [qK 4 13] [4] .ret))) (.seq (.seq (.BW (qd 0 [wn 18 [wo 11 2,wL,wm 5,wE (.st 2) 19,wK 10,wo 9 2,wL,wc TL rfl [22,24]]] .nil) [25]) (cn 25 [] (sq [qK 4 14] [4] .ret))) (sq [qK 4 0] [4] .ret)))))⟩
noncomputable def kS(p0:AA)(p1:Int):Option Int:=
 bd (Fx p0 p1) fun x1=>
 br (decide (x1<0))
  (some 7)
  (bd (at? p0.AB x1) fun x2=>
  br (x2.State != 2)
   (some 13)
   (bd (at? p0.AB x1) fun x3=>
   bd (kR x3 p0.Now) fun x4=>
   br x4
    (some 14)
    (some 0)))
noncomputable def TM:GF:=ABC.gf rfl rfl (fun a=>kS a.1 a.2.1) (fun a=>by kernel_rfl)
noncomputable def ABD:YF:=⟨[],[.v (.st 8),.v (.st 0)],[],.ret [.i],[.tmp 4],
 sq [qu 2 0,qu 3 1,qK 4 0] [2,3] (.seq (sw 5 [wk 15 2,wY MT rfl,wX] (Kp 140) (cn 7 [2,3] (sq [qK 4 1] [4] .ret))) (.seq (sw 8 [wo 0 3,wL,wc Ax rfl [9,qj 1,qj 7],wX] (Kp 2060) (cn 11 [2,3] (sq [qK 4 2] [4] .ret))) (.seq (sw 12 [wk 6 3,wY cH rfl,wX] [2,3,14] (cn 14 [2,3] (sq [qK 4 3] [4] .ret))) (.join [] (sw 15 [wo 0 3,wL] [2,3,16] (.block 0 (sq [qi 18 .eql 16 1,qa 17 18] (Kp 196620) (.cond 17 [2,3] [2,3,16] (sr [wn 19 [wk 15 2,wk 6 3,wc TK rfl [19,20]],
 qn [qa 4 21]] [4] .ret) (sq [qi 23 .eql 16 2,qa 22 23] (Kp 4259852) (.cond 22 [2,3] [2,3,16] (sw 24 [wk 15 2,wo 1 3,wL,wc BU rfl [24,26],wI .lss 0] [28] (cn 28 [] (sq [qK 4 7] [4] .ret))) (sq [qi 30 .eql 16 3,qa 29 30] [2,3,16,29] (.cond 29 [2,3] [2,3,16] (.seq (sw 31 [wo 2 3,wL,wo 12 2,wL,wZ,wB .geq 32] [2,3,36] (cn 36 [2,3] (sq [qK 4 4] [4] .ret))) (.seq (sw 37 [wo 4 3,wL,wc Ax rfl [38,qj 1,qj 60],wX] [2,3,40] (cn 40 [2,3] (sq [qK 4 5] [4] .ret))) (.seq (.BW (qd 0 [wn 41 [wk 15 2,wo 2 3,wL]] (qd 4 [wn 45 [wo 4 3,wL]] (.op 3 none [45] (.call 44 Ki [] rfl [(.tmp 41),(.tmp 43)])
 (.op 6 none [] (.bin 47 .num .lss (.tmp 44) (.tmp 46))
 .nil)))) [47]) (cn 47 [] (sq [qK 4 12] [4] .ret))))) (.join [cv 48 .b] (sq [qi 49 .eql 16 4,qa 48 49] [2,3,16,48] (.cond 48 [2,3,16,48] [2,3,16] .skip (q1 [qi 50 .eql 16 5,qa 48 50] [2,3,16,48]))) (.cond 48 [2,3] [2,3,16] (sr [wn 51 [wk 15 2,wo 1 3,wL,wc TM rfl [51,53]],
 qn [qa 4 54]] [4] .ret) (sq [qi 56 .eql 16 6,qa 55 56] [2,3,16,55] (.cond 55 [2] [2,3,16] (sw 57 [wo 9 2,wL,wI .geq 1000000] [59] (cn 59 [] (sq [qK 4 15] [4] .ret))) (sq [qi 61 .eql 16 7,qa 60 61] [2,3,60] (.cond 60 [2,3] [] (.seq (sw 62 [wo 1 3,wL,wo 0 2,wO 8,wL,wB .geq 63] [2,3,67] (cn 67 [2,3] (sq [qK 4 16] [4] .ret))) (.join [cv 80 .b] (qr [wn 68 [wo 14 2,wL,wo 1 3,wL,wE .i 69,wL,wI .lss 0,wM],
 wt 75 76 [wo 13 2,wL,wZ,wI .eql 0],
 qn [qq 80 75 79]] [80]) (cn 80 [] (sq [qK 4 17] [4] .ret)))) .skip)))))))))))))) (sq [qK 4 0] [4] .ret)))))⟩
noncomputable def IK(_:PUnit):Option Int:=
 some 0
noncomputable def R8(v11:Bool):Option Int:=
 br v11
  (some 17)
  (jn (IK) ())
noncomputable def R7(p0:AA)(p1:Aq)(v8:Bool):Option Int:=
 br v8
  (bd (kS p0 p1.Id) fun x9=>
  some x9)
  (br (p1.Kind==6)
   (br (decide (p0.Now>=1000000))
    (some 15)
    (jn (IK) ()))
   (br (p1.Kind==7)
    (br (decide (p1.Id>=p0.AG.Cc))
     (some 16)
     (bd (at? p0.AS p1.Id) fun x10=>
     br (decide (x10<0))
      (jn (R8) ((↑p0.AW.length:Int)==0))
      (jn (R8) false)))
    (jn (IK) ())))
noncomputable def KG(p0:AA)(p1:Aq):Option Int:=
 bd (my p0) fun x1=>
 br (!x1)
  (some 1)
  (bd (CN p1.Kind 1 7) fun x2=>
  br (!x2)
   (some 2)
   (bd (wH p1) fun x3=>
   br (!x3)
    (some 3)
    (br (p1.Kind==1)
     (bd (kQ p0 p1) fun x4=>
     some x4)
     (br (p1.Kind==2)
      (bd (Fx p0 p1.Id) fun x5=>
      br (decide (x5<0))
       (some 7)
       (jn (IK) ()))
      (br (p1.Kind==3)
       (br (decide (p1.AK>=(↑p0.AE.length:Int)))
        (some 4)
        (bd (CN p1.AY 1 60) fun x6=>
        br (!x6)
         (some 5)
         (bd (bM p0 p1.AK) fun x7=>
         br (decide (x7<p1.AY))
          (some 12)
          (jn (IK) ()))))
       (br (p1.Kind==4)
        (jn (R7 p0 p1) (p1.Kind==4))
        (jn (R7 p0 p1) (p1.Kind==5))))))))
noncomputable def CT:GF:=ABD.gf rfl rfl (fun a=>KG a.1 a.2.1) (fun a=>by kernel_rfl)
noncomputable def ABE:YF:=⟨[],[.o (.st 8),.v (.st 2)],[],.ret [(.st 8)],[.cell 4 (some 15)],
 sq [qu 2 0,qu 3 1,.alloc 4 Ae,.A6 [(.cell 4 0,.i),(.cell 4 11,(.st 2)),(.cell 4 12,(.st 7)),(.cell 4 13,.i),(.cell 4 14,.i)]] (Kp 28) (sr [wn 8 [wo 0 2,wK 9,wk 10 3,wo 9 2,wL,wc Ks rfl [9,10,12]],
 qn [qm 7 13],
 wn 14 [wh (.ext · (.tmp 7) 0),wh (.ext · (.tmp 7) 1)],
 qn [.alloc 5 Eh,qw 4 5 14,qa 6 15]] (Kp 60) (.seq (.BW (qd 0 [wn 16 [wo 12 2,wL,wo 1 3,wL,wo 12 2,wL,wo 1 3,wL,wE (.st 7) 21,wO 5,wL,wk 4 5]] (.op 12 none [16,18] (.call 28 Kt [] rfl [(.tmp 26),(.tmp 27)])
 (qd 13 [wn 29 [we (.st 7) 17 19,wO 5],
 qn [qw 1 30 28]] .nil))) [2,4]) (sq [qL 31 15 2,qw 15 4 31] [4] .ret)))⟩
noncomputable def QC(p0:AA)(p1:AH):Option AA:=
 bd (m6 p0.AG p1 p0.Now) fun x1=>
 bd (at? p0.AE p1.AK) fun x2=>
 bd (at? p0.AE p1.AK) fun x3=>
 bd (bk x3.Row x1.fst) fun x4=>
 bd (at? p0.AE p1.AK) fun x5=>
 bd (at? p0.AE p1.AK) fun x6=>
 some (AA.mk p0.AG p0.Now p0.AQ p0.AB (p0.AE.set p1.AK.toNat (AZ.mk x6.AM x4 x6.BL)) p0.AW p0.AS)
noncomputable def Kj:GF:=ABE.gf rfl rfl (fun a=>QC a.1 a.2.1) (fun a=>by kernel_rfl)
noncomputable def ABF:YF:=⟨[],[.v (.st 3),.v .i,.v .i,.v .i,.v .i,.v .i],[],.ret [(.st 3),.b],[.cell 12 (some 5),.tmp 13],
 sq [qu 6 0,.alloc 12 By,qB 13 false] (Kp 4222) (.seq (.join [cv 22 .b] (qr [wn 15 [wk 5 6,wY He rfl,wX,wM],
 wf 18 19 [wm 1,wc Ax rfl [19,qj 0,qj 60],wX],
 qn [qp 22 18 21]] (Kp 4198526)) (.cond 22 [6,12] (Kp 4222) (sq [qL 23 5 6,qw 5 12 23,qB 13 false] [12,13] .ret) .skip)) (sr [wn 24 [wo 0 6,wL,wo 1 6,wL,wm 2,wm 1,wB .mul 28,wB .add 27,wo 2 6,wL,wm 3,wm 1,wB .mul 34,wB .add 33,wo 3 6,wL,wm 4,wm 1,wB .mul 40,wB .add 39,wo 4 6,wL,wm 5,wm 1,wB .mul 46,wB .add 45,wh (.build · By [(0,1,(.tmp 25)),(1,1,(.tmp 31)),(2,1,(.tmp 37)),(3,1,(.tmp 43)),(4,1,(.tmp 49))])],
 qn [.alloc 14 By,qw 5 14 50]] (Kp 20544) (.seq (sw 51 [wk 5 14,wY He rfl,wX] [6,12,14,53] (.cond 53 [6,12] [12,14] (sq [qL 54 5 6,qw 5 12 54,qB 13 false] [12,13] .ret) .skip)) (sq [qL 55 5 14,qw 5 12 55,qB 13 true] [12,13] .ret))))⟩
noncomputable def R9(p0:Am)(p1:Int)(p2:Int)(p3:Int)(p4:Int)(p5:Int)(v2:Bool):Option (Am×Bool):=
 br v2
  (some (p0,false))
  (bd (fe (Am.mk p0.Total (w64 (p0.Co+w64 (p2*p1))) (w64 (p0.Cp+w64 (p3*p1))) (w64 (p0.Dz+w64 (p4*p1))) (w64 (p0.EB+w64 (p5*p1))))) fun x3=>
  br (!x3)
   (some (p0,false))
   (some ((Am.mk p0.Total (w64 (p0.Co+w64 (p2*p1))) (w64 (p0.Cp+w64 (p3*p1))) (w64 (p0.Dz+w64 (p4*p1))) (w64 (p0.EB+w64 (p5*p1))),true))))
noncomputable def Nq(p0:Am)(p1:Int)(p2:Int)(p3:Int)(p4:Int)(p5:Int):Option (Am×Bool):=
 bd (fe p0) fun x1=>
 br (!x1)
  (jn (R9 p0 p1 p2 p3 p4 p5) true)
  (bd (CN p1 0 60) fun x4=>
  jn (R9 p0 p1 p2 p3 p4 p5) (!x4))
noncomputable def DV:GF:=ABF.gf rfl rfl (fun a=>Nq a.1 a.2.1 a.2.2.1 a.2.2.2.1 a.2.2.2.2.1 a.2.2.2.2.2.1) (fun a=>by kernel_rfl)
noncomputable def ABG:YF:=⟨[],[.v (.st 3),.v .i],[],.ret [(.st 3),.b],[.cell 4 (some 5),.tmp 5],
 sq [qu 2 0,.alloc 4 By,qB 5 false] (Kp 22) (sr [wn 6 [wk 5 2,wm 1,wc DV rfl [6,7,qj 0,qj 0,qj 0,qj 1],wh (.ext · (.tmp 8) 0),wh (.ext · (.tmp 8) 1)],
 qn [qw 5 4 9,qa 5 10]] [4,5] .ret)⟩
noncomputable def kT(p0:Am)(p1:Int):Option (Am×Bool):=
 bd (Nq p0 p1 0 0 0 1) fun x1=>
 some (x1.fst,x1.snd)
noncomputable def TN:GF:=ABG.gf rfl rfl (fun a=>kT a.1 a.2.1) (fun a=>by kernel_rfl)
noncomputable def ABH:YF:=⟨[],[.v (.st 8),.v .i,.v .i,.v .i,.v .i,.v .i],[],.ret [(.st 8),.i],[.cell 12 (some 15),.tmp 13],
 sq [qu 6 0,.alloc 12 Ae,.A6 [(.cell 12 0,.i),(.cell 12 11,(.st 2)),(.cell 12 12,(.st 7)),(.cell 12 13,.i),(.cell 12 14,.i)],qK 13 0] (Kp 4222) (sr [wn 17 [wk 15 6,wY Bu rfl],
 qn [.alloc 14 Ae,.A6 [(.cell 14 0,.i),(.cell 14 11,(.st 2)),(.cell 14 12,(.st 7)),(.cell 14 13,.i),(.cell 14 14,.i)],qw 15 14 18]] (Kp 20606) (sr [wn 19 [wk 15 6,wm 1,wm 2,wm 3,wm 4,wm 5,wh (.build · B3 [(0,1,(.k (.int .i64 1))),(1,1,(.tmp 20)),(2,1,(.tmp 21)),(3,1,(.tmp 22)),(4,1,(.tmp 23)),(5,1,(.tmp 24))]),wc CT rfl [19,25]],
 qn [qa 15 26]] (Kp 53374) (.seq (sw 27 [wm 15,wI .neq 0] (Kp 268488830) (.cond 28 [12,14,15] (Kp 20606) (sr [wn 29 [wk 15 14,wm 15],
 qn [qw 15 12 29,qa 13 30]] [12,13] .ret) .skip)) (sr [wn 31 [wm 1,wm 2,wm 3,wm 4,wm 5,wo 9 6,wL,wo 10 6,wL,wh (.build · BS [(0,1,(.tmp 31)),(1,1,(.tmp 32)),(2,1,(.tmp 33)),(3,1,(.tmp 34)),(4,1,(.tmp 35)),(5,1,(.tmp 37)),(6,1,(.tmp 39)),(7,1,(.k (.int .i64 1)))])],
 qn [.alloc 16 BS,qw 10 16 40]] (Kp 86108) (sr [wn 41 [wo 10 6,wL,wI .add 1,wo 10 14],
 qn [qw 1 44 43]] (Kp 86044) (sr [wn 45 [wo 11 14,wL,wk 10 16,wc EF rfl [46,47],wo 11 14],
 qn [qw 1 49 48]] (Kp 86044) (sr [wn 50 [wk 15 14,wk 10 16,wc Kj rfl [50,51]],
 qn [qw 15 14 52]] (Kp 20508) (.join [cx 14 (.st 8)] (sw 53 [wm 3,wI .geq 0] [2,3,4,12,14,54] (.cond 54 [2,3,4,12,14] (Kp 20484) (.BW (qd 0 [wn 56 [wo 12 14,wL,wm 3,wo 12 14,wL,wm 3,wE (.st 7) 60,wO 0,wK 5,wm 4]] (.op 10 none [56] (.call 66 TN [] rfl [(.tmp 64),(.tmp 65)])
 (qd 11 [qn [qm 55 66],
 wn 67 [wh (.ext · (.tmp 55) 0),wh (.ext · (.tmp 55) 1),we (.st 7) 57 58,wO 0],
 qn [qw 5 70 67]] .nil))) [2,12,14]) .skip)) (sr [wn 71 [wo 13 14,wL,wm 2,wc DU rfl [72,73],wo 13 14],
 qn [qw 1 75 74]] [12,14] (sq [qL 76 15 14,qw 15 12 76,qK 13 0] [12,13] .ret))))))))))⟩
noncomputable def SA(p2:Int)(v10:AA):Option (AA×Int):=
 bd (Jp v10.AW p2) fun x11=>
 some (AA.mk v10.AG v10.Now v10.AQ v10.AB v10.AE x11 v10.AS,0)
noncomputable def kU(p0:AA)(p1:Int)(p2:Int)(p3:Int)(p4:Int)(p5:Int):Option (AA×Int):=
 bd (IH p0) fun x1=>
 bd (KG p0 (Aq.mk 1 p1 p2 p3 p4 p5)) fun x2=>
 br (x2 != 0)
  (some (x1,x2))
  (bd (MQ x1.AB (AH.mk p1 p2 p3 p4 p5 p0.Now p0.AQ 1 0 0)) fun x3=>
  bd (QC (AA.mk x1.AG x1.Now (w64 (p0.AQ+1)) x3 x1.AE x1.AW x1.AS) (AH.mk p1 p2 p3 p4 p5 p0.Now p0.AQ 1 0 0)) fun x4=>
  br (decide (p3>=0))
   (bd (at? x4.AE p3) fun x5=>
   bd (at? x4.AE p3) fun x6=>
   bd (kT x6.AM p4) fun x7=>
   bd (at? x4.AE p3) fun x8=>
   bd (at? x4.AE p3) fun x9=>
   jn (SA p2) (AA.mk x4.AG x4.Now x4.AQ x4.AB (x4.AE.set p3.toNat (AZ.mk x7.fst x9.Row x9.BL)) x4.AW x4.AS))
   (jn (SA p2) x4))
noncomputable def TO:GF:=ABH.gf rfl rfl (fun a=>kU a.1 a.2.1 a.2.2.1 a.2.2.2.1 a.2.2.2.2.1 a.2.2.2.2.2.1) (fun a=>by kernel_rfl)
noncomputable def ABI:YF:=⟨[],[.v (.st 3),.v .i],[],.ret [(.st 3),.b],[.cell 4 (some 5),.tmp 5],
 sq [qu 2 0,.alloc 4 By,qB 5 false] (Kp 22) (sr [wn 6 [wk 5 2,wm 1,wc DV rfl [6,7,qj 1,qj (-1),qj 0,qj 0],wh (.ext · (.tmp 8) 0),wh (.ext · (.tmp 8) 1)],
 qn [qw 5 4 9,qa 5 10]] [4,5] .ret)⟩
noncomputable def kV(p0:Am)(p1:Int):Option (Am×Bool):=
 bd (Nq p0 p1 1 (-1) 0 0) fun x1=>
 some (x1.fst,x1.snd)
noncomputable def TP:GF:=ABI.gf rfl rfl (fun a=>kV a.1 a.2.1) (fun a=>by kernel_rfl)
noncomputable def ABJ:YF:=⟨[],[.v (.st 6),.v (.st 5)],[],.ret [(.st 6),.b],[.cell 4 (some 1),.tmp 5],
 sq [qu 2 0,qu 3 1,.alloc 4 [.nil],.A6 [(.cell 4 0,(.l (.st 5)))],qB 5 false] (Kp 28) (sr [wn 9 [wk 1 2,wY E2 rfl],
 qn [.alloc 6 [.nil],.A6 [(.cell 6 0,(.l (.st 5)))],qw 1 6 10]] (Kp 92) (.seq (.join [cv 18 .b] (qr [wn 11 [wk 1 2,wY F3 rfl,wX,wM],
 wf 14 15 [wo 0 3,wL,wI .lss 1],
 qn [qp 18 14 17]] (Kp 262236)) (.cond 18 [4,6] (Kp 92) (sq [qL 19 1 6,qw 1 4 19,qB 5 false] [4,5] .ret) .skip)) (sr [wn 20 [wo 0 3,wL,wI .rem 9],
 qn [qa 7 22]] (Kp 220) (.join [] (sq [qK 8 0] (Kp 476) (bl 0 [cv 8 .i] (.seq (sw 23 [wm 8,wo 0 2,wL,wm 7,wE (.l (.st 5)) 25,wL,wZ,wB .lss 23] (Kp 1073742300) (ce 30 (Kp 476) [4,6] 0)) (.seq (.block 1 (.seq (.BW (qd 0 [wn 33 [wo 0 2,wL,wm 7,wE (.l (.st 5)) 34,wL,wm 8,wE (.st 5) 37,wK 2,wk 2 3,wh (.bin · (.agg [.i,.i]) .eql (.tmp 40) (.tmp 41))]] .nil) [2,3,4,6,7,8,42]) (.cond 42 [2,4,6,7,8] (Kp 476) (.seq (.BW (qd 0 [wn 43 [wo 0 6,wL,wm 7]] (qd 4 [wn 47 [wo 0 2,wL,wm 7,wE (.l (.st 5)) 48,wL,wm 8,wh (.sub · (.st 5) (.tmp 51) none (some (.tmp 52)))]] (qd 12 [wn 55 [wo 0 2,wL,wm 7,wE (.l (.st 5)) 56,wL,wm 8,wI .add 1,wh (.sub · (.st 5) (.tmp 59) (some (.tmp 61)) none)]] (.op 3 none [43,47,50,55,58] (.AR 46 0 (.st 5) [])
 (.op 11 none [43,55,58] (.app 54 (.st 5) true (.tmp 46) (.tmp 53))
 (.op 20 none [43] (.app 63 (.st 5) true (.tmp 54) (.tmp 62))
 (qd 21 [qn [qe 64 (.l (.st 5)) 44 45,qw 1 64 63]] .nil))))))) [4,6]) (sq [qL 65 1 6,qw 1 4 65,qB 5 true] [4,5] .ret)) .skip))) (qr [wn 31 [wm 8,wI .add 1],
 qn [qa 8 32]] (Kp 476)))))) (sq [qL 66 1 6,qw 1 4 66,qB 5 false] [4,5] .ret)))))⟩
noncomputable def bN(x1:AU)(_:PUnit):Option (AU×Bool):=
 some (x1,false)
noncomputable def Nr(p0:AU)(p1:Ag)(x1:AU)(L4:Int->Option (AU×Bool))(v5:Int):Option (AU×Bool):=
 bd (at? p0.AP (p1.At.tmod 9)) fun x6=>
 br (decide (v5<(↑(List.length x6):Int)))
  (bd (at? p0.AP (p1.At.tmod 9)) fun x7=>
  bd (at? x7 v5) fun x8=>
  br (x8.At==p1.At&&(x8.Id==p1.Id&&true))
   (bd (at? p0.AP (p1.At.tmod 9)) fun x9=>
   gd (0<=v5/\v5<=(↑(List.length x9):Int)) (
   bd (at? p0.AP (p1.At.tmod 9)) fun x10=>
   gd (0<=w64 (v5+1)/\w64 (v5+1)<=(↑(List.length x10):Int)) (
   gd (0+(List.take v5.toNat x9).length<=lim) (
   gd (([]++List.take v5.toNat x9).length+(List.drop (w64 (v5+1)).toNat x10).length<=lim) (
   bd (at? x1.AP (p1.At.tmod 9)) fun x11=>
   bd (at? x1.AP (p1.At.tmod 9)) fun x12=>
   some ((AU.mk (x1.AP.set (p1.At.tmod 9).toNat ([]++List.take v5.toNat x9++List.drop (w64 (v5+1)).toNat x10)),true)))))))
   (L4 (w64 (v5+1))))
  (jn (bN x1) ())
noncomputable def SB(p0:AU)(p1:Ag)(x1:AU)(v3:Bool):Option (AU×Bool):=
 br v3
  (some (x1,false))
  (Ap (Nr p0 p1 x1) big 0)
noncomputable def WS(p0:AU)(p1:Ag):Option (AU×Bool):=
 bd (Rc p0) fun x1=>
 bd (bg p0) fun x2=>
 br (!x2)
  (jn (SB p0 p1 x1) true)
  (jn (SB p0 p1 x1) (decide (p1.At<1)))
noncomputable def Kk:GF:=ABJ.gf rfl rfl (fun a=>WS a.1 a.2.1) (fun a=>by kernel_rfl)
noncomputable def ABK:YF:=⟨[],[.o (.st 8),.v (.st 2)],[],.ret [(.st 8)],[.cell 4 (some 15)],
 sq [qu 2 0,qu 3 1,.alloc 4 Ae,.A6 [(.cell 4 0,.i),(.cell 4 11,(.st 2)),(.cell 4 12,(.st 7)),(.cell 4 13,.i),(.cell 4 14,.i)]] (Kp 28) (sr [wn 6 [wo 12 2,wL,wo 1 3,wL,wE (.st 7) 7,wK 7],
 qn [.alloc 5 C6,.A6 [(.cell 5 5,(.st 4)),(.cell 5 6,(.l (.st 5)))],qw 7 5 11]] (Kp 60) (sr [wn 13 [wo 0 5,wK 5,wo 3 3,wL,wc TP rfl [14,16]],
 qn [qm 12 17],
 wn 18 [wh (.ext · (.tmp 12) 0),wh (.ext · (.tmp 12) 1),wo 0 5],
 qn [qw 5 20 18]] (Kp 60) (sr [wn 22 [wo 6 5,wK 1,wo 8 3,wL,wo 0 3,wL,wh (.build · [.int .i64 0,.int .i64 0] [(0,1,(.tmp 25)),(1,1,(.tmp 27))]),wc Kk rfl [23,28]],
 qn [qm 21 29],
 wn 30 [wh (.ext · (.tmp 21) 0),wh (.ext · (.tmp 21) 1),wo 6 5],
 qn [qw 1 32 30]] (Kp 60) (sr [wn 33 [wo 12 2,wL,wo 1 3,wL,wk 7 5,we (.st 7) 34 36],
 qn [qw 7 38 37]] [2,4] (sq [qL 39 15 2,qw 15 4 39] [4] .ret)))))⟩
noncomputable def SC(p0:AA)(p1:AH):Option AA:=
 bd (at? p0.AE p1.AK) fun x1=>
 bd (at? p0.AE p1.AK) fun x2=>
 bd (kV x2.AM p1.AY) fun x3=>
 bd (WS x2.BL (Ag.mk p1.Bh p1.Id)) fun x4=>
 bd (at? p0.AE p1.AK) fun x5=>
 bd (at? p0.AE p1.AK) fun x6=>
 gd (Y.JF (p1.AK).toNat 0 7 [(p1.AK.toNat,4+1)]) (
 some (AA.mk p0.AG p0.Now p0.AQ p0.AB (p0.AE.set p1.AK.toNat (AZ.mk x3.fst x2.Row x4.fst)) p0.AW p0.AS))
noncomputable def Kl:GF:=ABK.gf rfl rfl (fun a=>SC a.1 a.2.1) (fun a=>by kernel_rfl)
noncomputable def ABL:YF:=⟨[],[.v (.l (.st 4)),.v .i],[],.ret [(.l (.st 4)),.b],[.tmp 4,.tmp 5],
 sq [.as 4 (.k .nil),.A6 [(.tmp 4 0,(.st 4))],qB 5 false] [0,1] (sr [wn 7 [wm 0,wm 1,wc QJ rfl [7,8]],
 qn [qa 6 9]] [0,6] (.seq (sw 10 [wm 6,wI .lss 0] (Kp 2113) (.cond 11 [0] [0,6] (sr [wn 12 [wm 0,wY Es rfl],
 qn [qa 4 13,qB 5 false]] [4,5] .ret) .skip)) (.seq (.BW (qd 0 [wn 14 [wm 0,wm 6,wh (.sub · (.st 4) (.tmp 14) none (some (.tmp 15)))]] (qd 4 [wn 18 [wm 0,wm 6,wI .add 1,wh (.sub · (.st 4) (.tmp 18) (some (.tmp 20)) none)]] (.op 3 none [] (.call 17 Es [] rfl [(.tmp 16)])
 (qd 8 [qn [.app 22 (.st 4) true (.tmp 17) (.tmp 21),qa 4 22,qB 5 true]] .nil)))) [4,5]) .ret)))⟩
noncomputable def SD(p0:(List AT))(p1:Int):Option ((List AT)×Bool):=
 bd (m4 p0 p1) fun x1=>
 br (decide (x1<0))
  (bd (VX p0) fun x2=>
  some (x2,false))
  (gd (0<=x1/\x1<=(↑p0.length:Int)) (
  gd (0<=w64 (x1+1)/\w64 (x1+1)<=(↑p0.length:Int)) (
  bd (VX (List.take (Int.toNat x1) p0)) fun x3=>
  gd (List.length x3+(List.drop (w64 (x1+1)).toNat p0).length<=lim) (
  some ((x3++List.drop (w64 (x1+1)).toNat p0,true))))))
noncomputable def G2:GF:=ABL.gf rfl rfl (fun a=>SD a.1 a.2.1) (fun a=>by kernel_rfl)
noncomputable def ABM:YF:=⟨[],[.v (.l (.st 2)),.v .i],[],.ret [(.l (.st 2))],[.tmp 4],
 sq [.as 4 (.k .nil),.A6 [(.tmp 4 0,(.st 2))]] [0,1] (sr [wn 6 [wm 0,wm 1,wc E3 rfl [6,7]],
 qn [qa 5 8]] [0,5] (.seq (sw 9 [wm 5,wI .lss 0] (Kp 1057) (.cond 10 [0] [0,5] (sr [wn 11 [wh (.AR · 0 (.st 2) []),wm 0,wh (.app · (.st 2) true (.tmp 11) (.tmp 12))],
 qn [qa 4 13]] [4] .ret) .skip)) (.seq (.BW (qd 1 [wn 15 [wm 0,wm 5,wh (.sub · (.st 2) (.tmp 15) none (some (.tmp 16)))]] (qd 5 [wn 19 [wm 0,wm 5,wI .add 1,wh (.sub · (.st 2) (.tmp 19) (some (.tmp 21)) none)]] (.op 0 none [] (.AR 14 0 (.st 2) [])
 (.op 4 none [] (.app 18 (.st 2) true (.tmp 14) (.tmp 17))
 (qd 9 [qn [.app 23 (.st 2) true (.tmp 18) (.tmp 22),qa 4 23]] .nil))))) [4]) .ret)))⟩
noncomputable def kW(p0:(List AH))(p1:Int):Option (List AH):=
 bd (Nd p0 p1) fun x1=>
 br (decide (x1<0))
  (gd (0+p0.length<=lim) (
  some ([]++p0)))
  (gd (0<=x1/\x1<=(↑p0.length:Int)) (
  gd (0<=w64 (x1+1)/\w64 (x1+1)<=(↑p0.length:Int)) (
  gd (0+(List.take (Int.toNat x1) p0).length<=lim) (
  gd (([]++List.take (Int.toNat x1) p0).length+(List.drop (w64 (x1+1)).toNat p0).length<=lim) (
  some ([]++List.take (Int.toNat x1) p0++List.drop (w64 (x1+1)).toNat p0))))))
noncomputable def TQ:GF:=ABM.gf rfl rfl (fun a=>kW a.1 a.2.1) (fun a=>by kernel_rfl)
noncomputable def ABN:YF:=⟨[],[.v (.st 3),.v .i],[],.ret [(.st 3),.b],[.cell 4 (some 5),.tmp 5],
 sq [qu 2 0,.alloc 4 By,qB 5 false] (Kp 22) (sr [wn 6 [wk 5 2,wm 1,wc DV rfl [6,7,qj 0,qj 0,qj 0,qj (-1)],wh (.ext · (.tmp 8) 0),wh (.ext · (.tmp 8) 1)],
 qn [qw 5 4 9,qa 5 10]] [4,5] .ret)⟩
noncomputable def kX(p0:Am)(p1:Int):Option (Am×Bool):=
 bd (Nq p0 p1 0 0 0 (-1)) fun x1=>
 some (x1.fst,x1.snd)
noncomputable def TR:GF:=ABN.gf rfl rfl (fun a=>kX a.1 a.2.1) (fun a=>by kernel_rfl)
noncomputable def ABO:YF:=⟨[],[.o (.st 8),.v (.st 2)],[],.ret [(.st 8)],[.cell 4 (some 15)],
 sq [qu 2 0,qu 3 1,.alloc 4 Ae,.A6 [(.cell 4 0,.i),(.cell 4 11,(.st 2)),(.cell 4 12,(.st 7)),(.cell 4 13,.i),(.cell 4 14,.i)]] (Kp 28) (sr [wn 5 [wo 11 2,wL,wo 0 3,wL,wc TQ rfl [6,8],wo 11 2],
 qn [qw 1 10 9]] (Kp 28) (.join [cx 2 (.st 8)] (sw 11 [wo 2 3,wL,wI .geq 0] (Kp 8220) (.cond 13 (Kp 28) [2,4] (.BW (qd 0 [wn 15 [wo 12 2,wL,wo 2 3,wL,wo 12 2,wL,wo 2 3,wL,wE (.st 7) 20,wO 0,wK 5,wo 3 3,wL]] (.op 13 none [15,17] (.call 28 TR [] rfl [(.tmp 25),(.tmp 27)])
 (qd 14 [qn [qm 14 28],
 wn 29 [wh (.ext · (.tmp 14) 0),wh (.ext · (.tmp 14) 1),we (.st 7) 16 18,wO 0],
 qn [qw 5 32 29]] .nil))) [2,4]) .skip)) (sq [qL 33 15 2,qw 15 4 33] [4] .ret)))⟩
noncomputable def SE(v7:AA):Option AA:=
 some v7
noncomputable def MR(p0:AA)(p1:AH):Option AA:=
 bd (kW p0.AB p1.Id) fun x1=>
 br (decide (p1.Ay>=0))
  (bd (at? p0.AE p1.Ay) fun x2=>
  bd (at? p0.AE p1.Ay) fun x3=>
  bd (kX x3.AM p1.AY) fun x4=>
  bd (at? p0.AE p1.Ay) fun x5=>
  bd (at? p0.AE p1.Ay) fun x6=>
  jn (SE) (AA.mk p0.AG p0.Now p0.AQ x1 (p0.AE.set p1.Ay.toNat (AZ.mk x4.fst x6.Row x6.BL)) p0.AW p0.AS))
  (jn (SE) (AA.mk p0.AG p0.Now p0.AQ x1 p0.AE p0.AW p0.AS))
noncomputable def G3:GF:=ABO.gf rfl rfl (fun a=>MR a.1 a.2.1) (fun a=>by kernel_rfl)
noncomputable def ABP:YF:=⟨[],[.v (.st 8),.v .i],[],.ret [(.st 8),.i],[.cell 4 (some 15),.tmp 5],
 sq [qu 2 0,.alloc 4 Ae,.A6 [(.cell 4 0,.i),(.cell 4 11,(.st 2)),(.cell 4 12,(.st 7)),(.cell 4 13,.i),(.cell 4 14,.i)],qK 5 0] (Kp 22) (sr [wn 9 [wk 15 2,wY Bu rfl],
 qn [.alloc 6 Ae,.A6 [(.cell 6 0,.i),(.cell 6 11,(.st 2)),(.cell 6 12,(.st 7)),(.cell 6 13,.i),(.cell 6 14,.i)],qw 15 6 10]] (Kp 86) (sr [wn 11 [wk 15 2,wm 1,wh (.build · B3 [(0,1,(.k (.int .i64 2))),(1,1,(.tmp 12))]),wc CT rfl [11,13]],
 qn [qa 7 14]] (Kp 214) (.seq (sw 15 [wm 7,wI .neq 0] (Kp 65750) (.cond 16 [4,6,7] (Kp 86) (sr [wn 17 [wk 15 6,wm 7],
 qn [qw 15 4 17,qa 5 18]] [4,5] .ret) .skip)) (.seq (.BW (qd 0 [wn 19 [wo 11 2,wL,wk 15 2,wm 1]] (.both 0 (.op 4 none [19] (.call 23 BU [] rfl [(.tmp 21),(.tmp 22)])
 (qd 5 [wn 24 [wE (.st 2) 20,wK 10]] (.op 7 none [2,19,24] (.alloc 8 BS)
 (.op 8 none [] (.st 10 (.tmp 8) (.tmp 25))
 (.dr [19,20,21,22,23,24,25] .nil))))) (.op 7 none [2,19] (.alloc 8 BS)
 (.op 4 none [19] (.call 23 BU [] rfl [(.tmp 21),(.tmp 22)])
 (qd 5 [wn 24 [wE (.st 2) 20,wK 10]] (.op 8 none [] (.st 10 (.tmp 8) (.tmp 25))
 (.dr [19,20,21,22,23,24,25] .nil))))))) [1,4,6,8]) (.join [cx 6 (.st 8)] (sw 26 [wo 7 8,wL,wI .eql 2] (Kp 268435794) (.cond 28 [4,6,8] (Kp 338) (sr [wn 29 [wk 15 6,wk 10 8,wc Kl rfl [29,30]],
 qn [qw 15 6 31]] (Kp 336) (qr [wn 32 [wo 13 6,wL,wo 1 8,wL,wc DU rfl [33,35],wo 13 6],
 qn [qw 1 37 36]] (Kp 336))) (.BW (qd 0 [wn 39 [wo 12 6,wL,wo 1 8,wL,wo 12 6,wL,wo 1 8,wL,wE (.st 7) 44,wO 5,wL,wm 1]] (.op 12 none [39,41] (.call 51 G2 [] rfl [(.tmp 49),(.tmp 50)])
 (qd 13 [qn [qm 38 51],
 wn 52 [wh (.ext · (.tmp 38) 0),wh (.ext · (.tmp 38) 1),we (.st 7) 40 42,wO 5],
 qn [qw 1 55 52]] .nil))) [4,6,8]))) (sr [wn 56 [wk 15 6,wk 10 8,wc G3 rfl [56,57]],
 qn [qw 15 4 58,qK 5 0]] [4,5] .ret))))))⟩
noncomputable def Ns(x4:AH)(v9:AA):Option (AA×Int):=
 bd (MR v9 x4) fun x10=>
 some (x10,0)
noncomputable def kY(p0:AA)(p1:Int):Option (AA×Int):=
 bd (IH p0) fun x1=>
 bd (KG p0 (Aq.mk 2 p1 0 0 0 0)) fun x2=>
 br (x2 != 0)
  (some (x1,x2))
  (bd (Fx p0 p1) fun x3=>
  bd (at? p0.AB x3) fun x4=>
  bd (Fx p0 p1) fun x5=>
  bd (at? p0.AB x5) fun x6=>
  Jj x4 x6 (
  br (x4.State==2)
   (bd (SC x1 x4) fun x7=>
   bd (Jp x7.AW x4.AK) fun x8=>
   jn (Ns x4) (AA.mk x7.AG x7.Now x7.AQ x7.AB x7.AE x8 x7.AS))
   (bd (at? x1.AE x4.AK) fun x11=>
   bd (at? x1.AE x4.AK) fun x12=>
   bd (SD x12.Row p1) fun x13=>
   bd (at? x1.AE x4.AK) fun x14=>
   bd (at? x1.AE x4.AK) fun x15=>
   jn (Ns x4) (AA.mk x1.AG x1.Now x1.AQ x1.AB (x1.AE.set x4.AK.toNat (AZ.mk x15.AM x13.fst x15.BL)) x1.AW x1.AS))))
noncomputable def TS:GF:=ABP.gf rfl rfl (fun a=>kY a.1 a.2.1) (fun a=>by kernel_rfl)
noncomputable def ABQ:YF:=⟨[],[.v (.st 3),.v .i],[],.ret [(.st 3),.b],[.cell 4 (some 5),.tmp 5],
 sq [qu 2 0,.alloc 4 By,qB 5 false] (Kp 22) (sr [wn 6 [wk 5 2,wm 1,wc DV rfl [6,7,qj 1,qj 0,qj (-1),qj 0],wh (.ext · (.tmp 8) 0),wh (.ext · (.tmp 8) 1)],
 qn [qw 5 4 9,qa 5 10]] [4,5] .ret)⟩
noncomputable def kZ(p0:Am)(p1:Int):Option (Am×Bool):=
 bd (Nq p0 p1 1 0 (-1) 0) fun x1=>
 some (x1.fst,x1.snd)
noncomputable def TT:GF:=ABQ.gf rfl rfl (fun a=>kZ a.1 a.2.1) (fun a=>by kernel_rfl)
noncomputable def ABR:YF:=⟨[],[.o (.st 8),.v .i,.v .i],[],.ret [(.st 8)],[.cell 6 (some 15)],
 sq [qu 3 0,.alloc 6 Ae,.A6 [(.cell 6 0,.i),(.cell 6 11,(.st 2)),(.cell 6 12,(.st 7)),(.cell 6 13,.i),(.cell 6 14,.i)]] (Kp 78) (.seq (.BW (qd 0 [wn 8 [wo 12 3,wL,wm 1,wo 12 3,wL,wm 1,wE (.st 7) 12,wO 0,wK 5,wm 2]] (.op 10 none [8] (.call 18 TT [] rfl [(.tmp 16),(.tmp 17)])
 (qd 11 [qn [qm 7 18],
 wn 19 [wh (.ext · (.tmp 7) 0),wh (.ext · (.tmp 7) 1),we (.st 7) 9 10,wO 0],
 qn [qw 5 22 19]] .nil))) [1,3,6]) (sr [wn 23 [wo 13 3,wL,wm 1,wc DU rfl [24,25],wo 13 3],
 qn [qw 1 27 26]] [3,6] (sq [qL 28 15 3,qw 15 6 28] [6] .ret)))⟩
noncomputable def WT(p0:AA)(p1:Int)(p2:Int):Option AA:=
 bd (at? p0.AE p1) fun x1=>
 bd (at? p0.AE p1) fun x2=>
 bd (kZ x2.AM p2) fun x3=>
 bd (at? p0.AE p1) fun x4=>
 bd (at? p0.AE p1) fun x5=>
 bd (Jp p0.AW p1) fun x6=>
 some (AA.mk p0.AG p0.Now p0.AQ p0.AB (p0.AE.set p1.toNat (AZ.mk x3.fst x5.Row x5.BL)) x6 p0.AS)
noncomputable def Km:GF:=ABR.gf rfl rfl (fun a=>WT a.1 a.2.1 a.2.2.1) (fun a=>by kernel_rfl)
noncomputable def ABS:YF:=⟨[],[.v (.st 8),.v .i,.v .i],[],.ret [(.st 8),.i],[.cell 6 (some 15),.tmp 7],
 sq [qu 3 0,.alloc 6 Ae,.A6 [(.cell 6 0,.i),(.cell 6 11,(.st 2)),(.cell 6 12,(.st 7)),(.cell 6 13,.i),(.cell 6 14,.i)],qK 7 0] (Kp 78) (sr [wn 10 [wk 15 3,wY Bu rfl],
 qn [.alloc 8 Ae,.A6 [(.cell 8 0,.i),(.cell 8 11,(.st 2)),(.cell 8 12,(.st 7)),(.cell 8 13,.i),(.cell 8 14,.i)],qw 15 8 11]] (Kp 334) (sr [wn 12 [wk 15 3,wm 1,wm 2,wh (.build · B3 [(0,1,(.k (.int .i64 3))),(2,1,(.tmp 13)),(4,1,(.tmp 14))]),wc CT rfl [12,15]],
 qn [qa 9 16]] (Kp 838) (.seq (sw 17 [wm 9,wI .neq 0] (Kp 262982) (.cond 18 [6,8,9] (Kp 326) (sr [wn 19 [wk 15 8,wm 9],
 qn [qw 15 6 19,qa 7 20]] [6,7] .ret) .skip)) (sr [wn 21 [wk 15 8,wm 1,wm 2,wc Km rfl [21,22,23]],
 qn [qw 15 6 24,qK 7 0]] [6,7] .ret))))⟩
noncomputable def ka(p0:AA)(p1:Int)(p2:Int):Option (AA×Int):=
 bd (IH p0) fun x1=>
 bd (KG p0 (Aq.mk 3 0 p1 0 p2 0)) fun x2=>
 br (x2 != 0)
  (some (x1,x2))
  (bd (WT x1 p1 p2) fun x3=>
  some (x3,0))
noncomputable def TU:GF:=ABS.gf rfl rfl (fun a=>ka a.1 a.2.1 a.2.2.1) (fun a=>by kernel_rfl)
noncomputable def ABT:YF:=⟨[],[.v (.st 3),.v .i],[],.ret [(.st 3),.b],[.cell 4 (some 5),.tmp 5],
 sq [qu 2 0,.alloc 4 By,qB 5 false] (Kp 22) (sr [wn 6 [wk 5 2,wm 1,wc DV rfl [6,7,qj 0,qj (-1),qj 1,qj 0],wh (.ext · (.tmp 8) 0),wh (.ext · (.tmp 8) 1)],
 qn [qw 5 4 9,qa 5 10]] [4,5] .ret)⟩
noncomputable def kb(p0:Am)(p1:Int):Option (Am×Bool):=
 bd (Nq p0 p1 0 (-1) 1 0) fun x1=>
 some (x1.fst,x1.snd)
noncomputable def TV:GF:=ABT.gf rfl rfl (fun a=>kb a.1 a.2.1) (fun a=>by kernel_rfl)
noncomputable def AAu:YF:=⟨[],[.v (.st 8),.v .i],[],.ret [(.st 8),.i],[.cell 4 (some 15),.tmp 5],
 sq [qu 2 0,.alloc 4 Ae,.A6 [(.cell 4 0,.i),(.cell 4 11,(.st 2)),(.cell 4 12,(.st 7)),(.cell 4 13,.i),(.cell 4 14,.i)],qK 5 0] (Kp 22) (sr [wn 10 [wk 15 2,wY Bu rfl],
 qn [.alloc 6 Ae,.A6 [(.cell 6 0,.i),(.cell 6 11,(.st 2)),(.cell 6 12,(.st 7)),(.cell 6 13,.i),(.cell 6 14,.i)],qw 15 6 11]] (Kp 86) (sr [wn 12 [wk 15 2,wm 1,wh (.build · B3 [(0,1,(.k (.int .i64 4))),(1,1,(.tmp 13))]),wc CT rfl [12,14]],
 qn [qa 7 15]] (Kp 214) (.seq (sw 16 [wm 7,wI .neq 0] (Kp 131286) (.cond 17 [4,6,7] (Kp 86) (sr [wn 18 [wk 15 6,wm 7],
 qn [qw 15 4 18,qa 5 19]] [4,5] .ret) .skip)) (.seq (.BW (qd 0 [wn 20 [wo 11 2,wL,wk 15 2,wm 1]] (.both 0 (.op 4 none [20] (.call 24 BU [] rfl [(.tmp 22),(.tmp 23)])
 (qd 5 [wn 25 [wE (.st 2) 21,wK 10]] (.op 7 none [2,20,25] (.alloc 8 BS)
 (.op 8 none [] (.st 10 (.tmp 8) (.tmp 26))
 (.dr [20,21,22,23,24,25,26] .nil))))) (.op 7 none [2,20] (.alloc 8 BS)
 (.op 4 none [20] (.call 24 BU [] rfl [(.tmp 22),(.tmp 23)])
 (qd 5 [wn 25 [wE (.st 2) 21,wK 10]] (.op 8 none [] (.st 10 (.tmp 8) (.tmp 26))
 (.dr [20,21,22,23,24,25,26] .nil))))))) [4,6,8]) (sr [wn 27 [wo 12 6,wL,wo 1 8,wL,wE (.st 7) 28,wK 7],
 qn [.alloc 9 C6,.A6 [(.cell 9 5,(.st 4)),(.cell 9 6,(.l (.st 5)))],qw 7 9 32]] (Kp 848) (sr [wn 34 [wo 0 9,wK 5,wo 3 8,wL,wc TV rfl [35,37]],
 qn [qm 33 38],
 wn 39 [wh (.ext · (.tmp 33) 0),wh (.ext · (.tmp 33) 1),wo 0 9],
 qn [qw 5 41 39]] (Kp 848) (sr [wn 43 [wo 6 9,wK 1,wo 8 8,wL,wo 0 8,wL,wh (.build · [.int .i64 0,.int .i64 0] [(0,1,(.tmp 46)),(1,1,(.tmp 48))]),wc Kk rfl [44,49]],
 qn [qm 42 50],
 wn 51 [wh (.ext · (.tmp 42) 0),wh (.ext · (.tmp 42) 1),wo 6 9],
 qn [qw 1 53 51]] (Kp 848) (sr [wn 54 [wo 12 6,wL,wo 1 8,wL,wk 7 9,we (.st 7) 55 57],
 qn [qw 7 59 58]] (Kp 336) (sr [wn 60 [wk 15 6,wk 10 8,wc G3 rfl [60,61]],
 qn [qw 15 6 62]] (Kp 336) (.join [cx 6 (.st 8)] (sw 63 [wo 2 8,wL,wI .geq 0] [4,6,8,65] (.cond 65 (Kp 336) [4,6] (qr [wn 66 [wk 15 6,wo 2 8,wL,wo 3 8,wL,wc Km rfl [66,68,70]],
 qn [qw 15 6 71]] [4,6]) .skip)) (sq [qL 72 15 6,qw 15 4 72,qK 5 0] [4,5] .ret)))))))))))⟩
noncomputable def Ru(v15:AA):Option (AA×Int):=
 some (v15,0)
noncomputable def kH(p0:AA)(p1:Int):Option (AA×Int):=
 bd (IH p0) fun x1=>
 bd (KG p0 (Aq.mk 4 p1 0 0 0 0)) fun x2=>
 br (x2 != 0)
  (some (x1,x2))
  (bd (Fx p0 p1) fun x3=>
  bd (at? p0.AB x3) fun x4=>
  bd (Fx p0 p1) fun x5=>
  bd (at? p0.AB x5) fun x6=>
  Jj x4 x6 (
  bd (at? x1.AE x4.AK) fun x7=>
  bd (at? x1.AE x4.AK) fun x8=>
  bd (kb x8.AM x4.AY) fun x9=>
  bd (WS x8.BL (Ag.mk x4.Bh x4.Id)) fun x10=>
  bd (at? x1.AE x4.AK) fun x11=>
  bd (at? x1.AE x4.AK) fun x12=>
  gd (Y.JF (x4.AK).toNat 0 7 [(x4.AK.toNat,4+1)]) (
  bd (MR (AA.mk x1.AG x1.Now x1.AQ x1.AB (x1.AE.set x4.AK.toNat (AZ.mk x9.fst x8.Row x10.fst)) x1.AW x1.AS) x4) fun x13=>
  br (decide (x4.Ay>=0))
   (bd (WT x13 x4.Ay x4.AY) fun x14=>
   jn (Ru) x14)
   (jn (Ru) x13))))
noncomputable def S6:GF:=AAu.gf rfl rfl (fun a=>kH a.1 a.2.1) (fun a=>by kernel_rfl)
noncomputable def AAv:YF:=⟨[],[.v (.st 1),.v (.st 2),.v .i],[],.ret [(.st 2),.b],[.cell 6 (some 10),.tmp 7],
 sq [qu 3 0,qu 4 1,.alloc 6 BS,qB 7 false] (Kp 92) (.seq (.join [cv 25 .b] (qr [wn 8 [wk 9 3,wk 10 4,wm 2,wc Kg rfl [8,9,10],wX,wM],
 wf 13 14 [wo 7 4,wL,wI .neq 2],
 wn 17 [wR 13,wM],
 wf 18 19 [wo 9 4,wL,wI .add 1,wo 7 3,wL,wB .geq 21],
 qn [qp 25 18 24]] (Kp 33554524)) (.cond 25 [6] (Kp 92) (sq [.build 26 BS [],qw 10 6 26,qB 7 false] [6,7] .ret) .skip)) (sr [wn 27 [wo 9 4,wL,wI .add 1,wo 9 4],
 qn [qw 1 30 29]] (Kp 92) (sq [qo 31 7 4,.st 1 (.tmp 31) (.k (.int .i64 1))] (Kp 92) (sr [wn 32 [wm 2,wo 6 3,wL,wB .add 32,wo 8 4],
 qn [qw 1 36 35]] [4,6] (sq [qL 37 10 4,qw 10 6 37,qB 7 true] [6,7] .ret)))))⟩
noncomputable def Nn(p0:AN)(p1:AH)(p2:Int)(v2:Bool):Option (AH×Bool):=
 br v2
  (some (AH.mk 0 0 0 0 0 0 0 0 0 0,false))
  (some ((AH.mk p1.Id p1.AK p1.Ay p1.AY p1.Bb p1.Since p1.AQ 1 (w64 (p2+p0.Rest)) (w64 (p1.Ba+1)),true)))
noncomputable def bE(p0:AN)(p1:AH)(p2:Int):Option (AH×Bool):=
 bd (m0 p0 p1 p2) fun x1=>
 br (!x1)
  (jn (Nn p0 p1 p2) true)
  (br (p1.State != 2)
   (jn (Nn p0 p1 p2) true)
   (jn (Nn p0 p1 p2) (decide (w64 (p1.Ba+1)>=p0.BF))))
noncomputable def S7:GF:=AAv.gf rfl rfl (fun a=>bE a.1 a.2.1 a.2.2.1) (fun a=>by kernel_rfl)
noncomputable def AAw:YF:=⟨[],[.o (.st 8),.v (.st 2)],[],.ret [(.st 8)],[.cell 4 (some 15)],
 sq [qu 2 0,qu 3 1,.alloc 4 Ae,.A6 [(.cell 4 0,.i),(.cell 4 11,(.st 2)),(.cell 4 12,(.st 7)),(.cell 4 13,.i),(.cell 4 14,.i)]] (Kp 28) (sr [wn 7 [wk 15 2,wk 10 3,wc Kl rfl [7,8]],
 qn [qw 15 2 9]] (Kp 28) (sr [wn 11 [wo 0 2,wK 9,wk 10 3,wo 9 2,wL,wc S7 rfl [12,13,15]],
 qn [qm 10 16],
 wn 17 [wh (.ext · (.tmp 10) 0),wh (.ext · (.tmp 10) 1)],
 qn [.alloc 5 BS,qw 10 5 17,qa 6 18]] (Kp 124) (.seq (sw 19 [wm 6,wX] (Kp 1048636) (.cond 20 [2,3,4] (Kp 52) (sr [wn 21 [wk 15 2,wk 10 3,wc G3 rfl [21,22]],
 qn [qw 15 4 23]] [4] .ret) .skip)) (sr [wn 24 [wo 11 2,wL,wk 10 5,wc EF rfl [25,26],wo 11 2],
 qn [qw 1 28 27]] (Kp 52) (sr [wn 29 [wk 15 2,wk 10 5,wc Kj rfl [29,30]],
 qn [qw 15 4 31]] [4] .ret)))))⟩
noncomputable def WR(p0:AA)(p1:AH):Option AA:=
 bd (SC p0 p1) fun x1=>
 bd (bE x1.AG p1 x1.Now) fun x2=>
 br (!x2.snd)
  (bd (MR x1 p1) fun x3=>
  some x3)
  (bd (MQ x1.AB x2.fst) fun x4=>
  bd (QC (AA.mk x1.AG x1.Now x1.AQ x4 x1.AE x1.AW x1.AS) x2.fst) fun x5=>
  some x5)
noncomputable def Kh:GF:=AAw.gf rfl rfl (fun a=>WR a.1 a.2.1) (fun a=>by kernel_rfl)
noncomputable def AAx:YF:=⟨[],[.v (.st 8),.v .i],[],.ret [(.st 8),.i],[.cell 4 (some 15),.tmp 5],
 sq [qu 2 0,.alloc 4 Ae,.A6 [(.cell 4 0,.i),(.cell 4 11,(.st 2)),(.cell 4 12,(.st 7)),(.cell 4 13,.i),(.cell 4 14,.i)],qK 5 0] (Kp 22) (sr [wn 9 [wk 15 2,wY Bu rfl],
 qn [.alloc 6 Ae,.A6 [(.cell 6 0,.i),(.cell 6 11,(.st 2)),(.cell 6 12,(.st 7)),(.cell 6 13,.i),(.cell 6 14,.i)],qw 15 6 10]] (Kp 86) (sr [wn 11 [wk 15 2,wm 1,wh (.build · B3 [(0,1,(.k (.int .i64 5))),(1,1,(.tmp 12))]),wc CT rfl [11,13]],
 qn [qa 7 14]] (Kp 214) (.seq (sw 15 [wm 7,wI .neq 0] (Kp 65750) (.cond 16 [4,6,7] (Kp 86) (sr [wn 17 [wk 15 6,wm 7],
 qn [qw 15 4 17,qa 5 18]] [4,5] .ret) .skip)) (.seq (.BW (qd 0 [wn 19 [wo 11 2,wL,wk 15 2,wm 1]] (.both 0 (.op 4 none [19] (.call 23 BU [] rfl [(.tmp 21),(.tmp 22)])
 (qd 5 [wn 24 [wE (.st 2) 20,wK 10]] (.op 7 none [2,19,24] (.alloc 8 BS)
 (.op 8 none [] (.st 10 (.tmp 8) (.tmp 25))
 (.dr [19,20,21,22,23,24,25] .nil))))) (.op 7 none [2,19] (.alloc 8 BS)
 (.op 4 none [19] (.call 23 BU [] rfl [(.tmp 21),(.tmp 22)])
 (qd 5 [wn 24 [wE (.st 2) 20,wK 10]] (.op 8 none [] (.st 10 (.tmp 8) (.tmp 25))
 (.dr [19,20,21,22,23,24,25] .nil))))))) [4,6,8]) (sr [wn 26 [wk 15 6,wk 10 8,wc Kh rfl [26,27]],
 qn [qw 15 6 28]] (Kp 336) (sr [wn 29 [wo 13 6,wL,wo 1 8,wL,wc DU rfl [30,32],wo 13 6],
 qn [qw 1 34 33]] [4,6] (sq [qL 35 15 6,qw 15 4 35,qK 5 0] [4,5] .ret)))))))⟩
noncomputable def kI(p0:AA)(p1:Int):Option (AA×Int):=
 bd (IH p0) fun x1=>
 bd (KG p0 (Aq.mk 5 p1 0 0 0 0)) fun x2=>
 br (x2 != 0)
  (some (x1,x2))
  (bd (Fx p0 p1) fun x3=>
  bd (at? p0.AB x3) fun x4=>
  bd (Fx p0 p1) fun x5=>
  bd (at? p0.AB x5) fun x6=>
  Jj x4 x6 (
  bd (WR x1 x4) fun x7=>
  bd (Jp x7.AW x4.AK) fun x8=>
  some (AA.mk x7.AG x7.Now x7.AQ x7.AB x7.AE x8 x7.AS,0)))
noncomputable def S8:GF:=AAx.gf rfl rfl (fun a=>kI a.1 a.2.1) (fun a=>by kernel_rfl)
noncomputable def AAy:YF:=⟨[],[.v (.st 8)],[],.ret [(.st 8),.i],[.cell 2 (some 15),.tmp 3],
 sq [qu 1 0,.alloc 2 Ae,.A6 [(.cell 2 0,.i),(.cell 2 11,(.st 2)),(.cell 2 12,(.st 7)),(.cell 2 13,.i),(.cell 2 14,.i)],qK 3 0] [1,2] (sr [wn 7 [wk 15 1,wY Bu rfl],
 qn [.alloc 4 Ae,.A6 [(.cell 4 0,.i),(.cell 4 11,(.st 2)),(.cell 4 12,(.st 7)),(.cell 4 13,.i),(.cell 4 14,.i)],qw 15 4 8]] (Kp 22) (sr [wn 9 [wk 15 1,wh (.build · B3 [(0,1,(.k (.int .i64 6)))]),wc CT rfl [9,10]],
 qn [qa 5 11]] (Kp 54) (.seq (sw 12 [wm 5,wI .neq 0] (Kp 8246) (.cond 13 [2,4,5] (Kp 22) (sr [wn 14 [wk 15 4,wm 5],
 qn [qw 15 2 14,qa 3 15]] [2,3] .ret) .skip)) (sr [wn 16 [wo 9 1,wL,wI .add 1,wo 9 4],
 qn [qw 1 19 18]] [2,4] (.join [cx 4 (.st 8)] (sq [qK 6 0] (Kp 84) (bl 0 [cv 6 .i,cx 4 (.st 8)] (.seq (sw 20 [wm 6,wo 12 4,wL,wZ,wB .lss 20] [2,4,6,24] (ce 24 (Kp 84) [2,4] 0)) (.join [cx 4 (.st 8)] (.block 1 (.seq (.BW (qd 0 [wn 27 [wo 12 4,wL,wm 6,wo 0 4,wK 9,wo 11 4,wL,wm 6,wo 9 4,wL]] (.op 10 none [27] (.call 37 Ku [] rfl [(.tmp 31),(.tmp 33),(.tmp 34),(.tmp 36)])
 (qd 11 [wn 38 [we (.st 7) 28 29,wO 5],
 qn [qw 1 39 37]] .nil))) [2,4,6]) (sw 40 [wo 11 4,wL,wm 6,wc Hc rfl [41,42],wI .gtr 0] [2,4,6,44] (.cond 44 [2,4,6] (Kp 84) (qr [wn 45 [wo 13 4,wL,wm 6,wc DU rfl [46,47],wo 13 4],
 qn [qw 1 49 48]] (Kp 84)) .skip)))) (qr [wn 25 [wm 6,wI .add 1],
 qn [qa 6 26]] (Kp 84)))))) (sq [qL 50 15 4,qw 15 2 50,qK 3 0] [2,3] .ret))))))⟩
noncomputable def Rv(L3:(Int×AA)->Option (AA×Int))(v4:Int)(v11:AA):Option (AA×Int):=
 L3 ((w64 (v4+1),v11))
noncomputable def rD(v12:AA):Option (AA×Int):=
 some (v12,0)
noncomputable def No(L3:(Int×AA)->Option (AA×Int))(x_:(Int×AA)):Option (AA×Int):=
 match x_ with
 |(v4,v5)=>br (decide (v4<(↑v5.AE.length:Int)))
  (bd (m7 v5.AG v5.AB v4 v5.Now) fun x6=>
  bd (at? v5.AE v4) fun x7=>
  bd (at? v5.AE v4) fun x8=>
  bd (fb v5.AB v4) fun x9=>
  br (decide (x9>0))
   (bd (Jp v5.AW v4) fun x10=>
   jn (Rv L3 v4) (AA.mk v5.AG v5.Now v5.AQ v5.AB (v5.AE.set (Int.toNat v4) (AZ.mk x8.AM x6 x8.BL)) x10 v5.AS))
   (jn (Rv L3 v4) (AA.mk v5.AG v5.Now v5.AQ v5.AB (v5.AE.set (Int.toNat v4) (AZ.mk x8.AM x6 x8.BL)) v5.AW v5.AS)))
  (jn (rD) v5)
noncomputable def kJ(p0:AA):Option (AA×Int):=
 bd (IH p0) fun x1=>
 bd (KG p0 (Aq.mk 6 0 0 0 0 0)) fun x2=>
 br (x2 != 0)
  (some (x1,x2))
  (Ap (No) big ((0,AA.mk x1.AG (w64 (p0.Now+1)) x1.AQ x1.AB x1.AE x1.AW x1.AS)))
noncomputable def S9:GF:=AAy.gf rfl rfl (fun a=>kJ a.1) (fun a=>by kernel_rfl)
noncomputable def AAz:YF:=⟨[],[.v (.st 8),.v .i],[],.ret [.b],[.tmp 4],
 sq [qu 2 0,qB 4 false] [1,2] (.join [cv 4 .b] (qr [wn 5 [wk 15 2,wY MT rfl,wM],
 wt 7 8 [wm 1,wo 12 2,wL,wZ,wI .sub 1,wc Ax rfl [8,qj 0,12]],
 qn [qq 14 7 13,qa 4 14]] [4]) .ret)⟩
noncomputable def Rx(v3:Bool):Option Bool:=
 some v3
noncomputable def rE(p0:AA)(p1:Int):Option Bool:=
 bd (my p0) fun x1=>
 br x1
  (bd (CN p1 0 (w64 ((↑p0.AE.length:Int)-1))) fun x2=>
  jn (Rx) x2)
  (jn (Rx) false)
noncomputable def TB:GF:=AAz.gf rfl rfl (fun a=>rE a.1 a.2.1) (fun a=>by kernel_rfl)
noncomputable def AA0:YF:=⟨[],[.v (.st 6),.v .i],[],.ret [(.l (.st 5))],[.tmp 4],
 sq [qu 2 0,.as 4 (.k .nil),.A6 [(.tmp 4 0,(.st 5))]] [1,2] (sq [.AR 8 0 (.st 5) [],qa 5 8] (Kp 38) (sr [wn 9 [wk 1 2,wY QM rfl],
 qn [qa 6 10]] (Kp 98) (.join [cv 5 (.l (.st 5))] (sq [qK 7 0] (Kp 226) (bl 0 [cv 5 (.l (.st 5)),cv 7 .i] (.seq (sw 11 [wm 7,wm 6,wZ,wB .lss 11] (Kp 16610) (ce 14 (Kp 226) [5] 0)) (.join [cv 5 (.l (.st 5))] (.block 1 (sw 17 [wm 6,wm 7,wE (.st 5) 17,wO 0,wL,wm 1,wB .leq 21] (Kp 8388834) (.cond 23 [1,5,6,7] (Kp 226) (qr [wn 24 [wm 5,wm 6,wm 7,wE (.st 5) 25,wK 2,wh (.AR · 1 (.st 5) [(0,(.tmp 28))]),wh (.app · (.st 5) true (.tmp 24) (.tmp 29))],
 qn [qa 5 30]] (Kp 226)) .skip))) (qr [wn 15 [wm 7,wI .add 1],
 qn [qa 7 16]] (Kp 226)))))) (sq [qm 31 5,qa 4 31] [4] .ret))))⟩
noncomputable def Ry(L2:((List Ag)×Int)->Option (List Ag))(v4:Int)(v9:(List Ag)):Option (List Ag):=
 L2 ((v9,w64 (v4+1)))
noncomputable def bG(v10:(List Ag)):Option (List Ag):=
 some v10
noncomputable def Rz(p1:Int)(x1:(List Ag))(L2:((List Ag)×Int)->Option (List Ag))(x_:((List Ag)×Int)):Option (List Ag):=
 match x_ with
 |(v3,v4)=>br (decide (v4<(↑(List.length x1):Int)))
  (bd (at? x1 v4) fun x5=>
  bd (at? x1 v4) fun x6=>
  br (decide (x6.At<=p1))
   (bd (at? x1 v4) fun x7=>
   bd (at? x1 v4) fun x8=>
   gd (List.length v3+[x8].length<=lim) (
   jn (Ry L2 v4) (v3++[x8])))
   (jn (Ry L2 v4) v3))
  (jn (bG) v3)
noncomputable def bF(p0:AU)(p1:Int):Option (List Ag):=
 bd (rJ p0) fun x1=>
 Ap (Rz p1 x1) big ([],0)
noncomputable def TC:GF:=AA0.gf rfl rfl (fun a=>bF a.1 a.2.1) (fun a=>by kernel_rfl)
noncomputable def AA1:YF:=⟨[],[.v (.st 8),.v .i],[],.ret [(.l .i)],[.tmp 4],
 sq [qu 2 0,.as 4 (.k .nil),.A6 [(.tmp 4 0,.i)]] [1,2] (sq [.AR 8 0 .i [],qa 5 8] (Kp 38) (.seq (.BW (qd 0 [wn 9 [wo 12 2,wL,wm 1,wE (.st 7) 10,wO 6,wK 1,wo 9 2,wL,wc TC rfl [14,16]],
 qn [qa 6 17]] .nil) [5,6]) (.join [cv 5 (.l .i)] (sq [qK 7 0] (Kp 224) (bl 0 [cv 5 (.l .i),cv 7 .i] (.seq (sw 18 [wm 7,wm 6,wZ,wB .lss 18] (Kp 2097376) (ce 21 (Kp 224) [5] 0)) (.seq (.block 1 (qr [wn 24 [wm 5,wm 6,wm 7,wE (.st 5) 25,wO 1,wL,wh (.AR · 1 .i [(0,(.tmp 29))]),wh (.app · .i true (.tmp 24) (.tmp 30))],
 qn [qa 5 31]] (Kp 224))) (qr [wn 22 [wm 7,wI .add 1],
 qn [qa 7 23]] (Kp 224)))))) (sq [qm 32 5,qa 4 32] [4] .ret))))⟩
noncomputable def bH(v8:(List Int)):Option (List Int):=
 some v8
noncomputable def R0(x2:(List Ag))(L3:((List Int)×Int)->Option (List Int))(x_:((List Int)×Int)):Option (List Int):=
 match x_ with
 |(v4,v5)=>br (decide (v5<(↑(List.length x2):Int)))
  (bd (at? x2 v5) fun x6=>
  bd (at? x2 v5) fun x7=>
  gd (List.length v4+[x7.Id].length<=lim) (
  L3 ((v4++[x7.Id],w64 (v5+1)))))
  (jn (bH) v4)
noncomputable def kK(p0:AA)(p1:Int):Option (List Int):=
 bd (at? p0.AE p1) fun x1=>
 bd (bF x1.BL p0.Now) fun x2=>
 Ap (R0 x2) big ([],0)
noncomputable def TD:GF:=AA1.gf rfl rfl (fun a=>kK a.1 a.2.1) (fun a=>by kernel_rfl)
noncomputable def AA2:YF:=⟨[],[.o (.st 8),.v .i],[],.ret [(.st 8)],[.cell 4 (some 15)],
 sq [qu 2 0,.alloc 4 Ae,.A6 [(.cell 4 0,.i),(.cell 4 11,(.st 2)),(.cell 4 12,(.st 7)),(.cell 4 13,.i),(.cell 4 14,.i)]] (Kp 22) (sr [wn 7 [wk 15 2,wm 1,wc TD rfl [7,8]],
 qn [qa 5 9]] (Kp 52) (.join [cx 2 (.st 8)] (sq [qK 6 0] (Kp 116) (bl 0 [cv 6 .i,cx 2 (.st 8)] (.seq (sw 10 [wm 6,wm 5,wZ,wB .lss 10] (Kp 8308) (ce 13 (Kp 116) [2,4] 0)) (.seq (.block 1 (.BW (qd 0 [wn 16 [wk 15 2,wo 11 2,wL,wk 15 2,wm 5,wm 6,wE .i 20,wL]] (.op 8 none [2,17] (.call 24 BU [] rfl [(.tmp 19),(.tmp 23)])
 (qd 9 [wn 25 [wE (.st 2) 18,wK 10,wc Kh rfl [16,26]],
 qn [qw 15 2 27]] .nil))) [2,4,5,6])) (qr [wn 14 [wm 6,wI .add 1],
 qn [qa 6 15]] (Kp 116)))))) (sq [qL 28 15 2,qw 15 4 28] [4] .ret)))⟩
noncomputable def bI(v11:AA):Option AA:=
 some v11
noncomputable def R3(x1:(List Int))(L2:(Int×AA)->Option AA)(x_:(Int×AA)):Option AA:=
 match x_ with
 |(v3,v4)=>br (decide (v3<(↑(List.length x1):Int)))
  (bd (at? x1 v3) fun x5=>
  bd (at? x1 v3) fun x6=>
  bd (Fx v4 x6) fun x7=>
  bd (at? v4.AB x7) fun x8=>
  bd (at? v4.AB x7) fun x9=>
  bd (WR v4 x9) fun x10=>
  L2 ((w64 (v3+1),x10)))
  (jn (bI) v4)
noncomputable def kL(p0:AA)(p1:Int):Option AA:=
 bd (kK p0 p1) fun x1=>
 Ap (R3 x1) big (0,p0)
noncomputable def TE:GF:=AA2.gf rfl rfl (fun a=>kL a.1 a.2.1) (fun a=>by kernel_rfl)
noncomputable def AA3:YF:=⟨[],[.v (.st 2),.v .i],[],.ret [.b],[.tmp 4],
 sq [qu 2 0,qB 4 false] [1,2] (.join [cv 4 .b] (qr [wn 5 [wo 7 2,wL,wI .eql 1,wM],
 wt 8 9 [wo 8 2,wL,wm 1,wB .gtr 10],
 qn [qq 13 8 12,qa 4 13]] [4]) .ret)⟩
noncomputable def R4(v1:Bool):Option Bool:=
 some v1
noncomputable def kM(p0:AH)(p1:Int):Option Bool:=
 br (p0.State==1)
  (jn (R4) (decide (p0.Bh>p1)))
  (jn (R4) false)
noncomputable def TF:GF:=AA3.gf rfl rfl (fun a=>kM a.1 a.2.1) (fun a=>by kernel_rfl)
noncomputable def ABU:YF:=⟨[],[.v (.l (.st 4)),.v .i,.v (.l .i)],[],.ret [.i],[.tmp 6],
 sq [qK 6 0] (Kp 7) (.join [] (sq [qK 7 0] (Kp 135) (bl 0 [cv 7 .i] (.seq (sw 8 [wM,wm 0,wZ,wB .lss 8] (Kp 2183) (ce 11 (Kp 135) [] 0)) (.seq (.block 1 (.join [cv 30 .b] (qr [wn 14 [wm 0,wm 7,wE (.st 4) 14,wO 3,wL,wm 1,wB .leq 18,wM],
 wt 21 22 [wm 2,wm 0,wm 7,wE (.st 4) 23,wO 2,wL,wc Kq rfl [22,27],wX],
 qn [qq 30 21 29]] (Kp 1073741959)) (.cond 30 [7] (Kp 135) (sq [qm 31 7,qa 6 31] [6] .ret) .skip))) (qr [wn 12 [wm 7,wI .add 1],
 qn [qa 7 13]] (Kp 135)))))) (sq [qK 6 (-1)] [6] .ret))⟩
noncomputable def SF(L1:Int->Option Int)(v2:Int)(v6:Bool):Option Int:=
 br v6
  (some v2)
  (L1 (w64 (v2+1)))
noncomputable def bP(_:PUnit):Option Int:=
 some (-1)
noncomputable def SG(p0:(List AT))(p1:Int)(p2:(List Int))(L1:Int->Option Int)(v2:Int):Option Int:=
 br (decide (v2<(↑p0.length:Int)))
  (bd (at? p0 v2) fun x3=>
  br (decide (x3.AY<=p1))
   (bd (at? p0 v2) fun x4=>
   bd (m3 p2 x4.Id) fun x5=>
   jn (SF L1 v2) (!x5))
   (jn (SF L1 v2) false))
  (jn (bP) ())
noncomputable def bO(p0:(List AT))(p1:Int)(p2:(List Int)):Option Int:=
 Ap (SG p0 p1 p2) big 0
noncomputable def TW:GF:=ABU.gf rfl rfl (fun a=>bO a.1 a.2.1 a.2.2.1) (fun a=>by kernel_rfl)
noncomputable def ABV:YF:=⟨[],[.v (.st 8),.v .i],[],.ret [.i],[.tmp 4],
 sq [qu 2 0,qK 4 0] [1,2] (sq [.AR 8 0 .i [],qa 5 8] (Kp 38) (.join [cv 5 (.l .i)] (sq [qK 6 0] (Kp 102) (bl 0 [cv 5 (.l .i),cv 6 .i] (.seq (sw 9 [wm 6,wo 11 2,wL,wZ,wB .lss 9] (Kp 8294) (ce 13 [1,2,5,6] (Kp 38) 0)) (.join [cv 5 (.l .i)] (.block 1 (.seq (.BW (qd 0 [wn 16 [wo 11 2,wL,wm 6,wE (.st 2) 17,wK 10,wo 9 2,wL,wc TF rfl [20,22]]] .nil) [1,2,5,6,23]) (.cond 23 [1,2,5,6] (Kp 102) (qr [wn 24 [wm 5,wo 11 2,wL,wm 6,wE (.st 2) 26,wO 0,wL,wh (.AR · 1 .i [(0,(.tmp 30))]),wh (.app · .i true (.tmp 24) (.tmp 31))],
 qn [qa 5 32]] (Kp 102)) .skip))) (qr [wn 14 [wm 6,wI .add 1],
 qn [qa 6 15]] (Kp 102)))))) (.seq (.BW (qd 0 [wn 33 [wo 12 2,wL,wm 1,wE (.st 7) 34,wO 5,wL,wo 12 2,wL,wm 1,wE (.st 7) 40,wO 0,wO 1,wL,wm 5,wc TW rfl [38,45,46]],
 qn [qa 7 47]] .nil) [1,2,7]) (.seq (sw 48 [wm 7,wI .lss 0] [1,2,7,49] (cn 49 (Kp 134) (sq [qK 4 0] [4] .ret))) (sr [wn 50 [wo 12 2,wL,wm 1,wE (.st 7) 51,wO 5,wL,wm 7,wE (.st 4) 55,wO 2,wL],
 qn [qa 4 59]] [4] .ret)))))⟩
noncomputable def SH(L1:((List Int)×Int)->Option Int)(v3:Int)(v7:(List Int)):Option Int:=
 L1 ((v7,w64 (v3+1)))
noncomputable def SI(p0:AA)(p1:Int)(v8:(List Int)):Option Int:=
 bd (at? p0.AE p1) fun x9=>
 bd (at? p0.AE p1) fun x10=>
 bd (bO x9.Row x10.AM.Co v8) fun x11=>
 br (decide (x11<0))
  (some 0)
  (bd (at? p0.AE p1) fun x12=>
  bd (at? x12.Row x11) fun x13=>
  some x13.Id)
noncomputable def SJ(p0:AA)(p1:Int)(L1:((List Int)×Int)->Option Int)(x_:((List Int)×Int)):Option Int:=
 match x_ with
 |(v2,v3)=>br (decide (v3<(↑p0.AB.length:Int)))
  (bd (at? p0.AB v3) fun x4=>
  bd (kM x4 p0.Now) fun x5=>
  br x5
   (bd (at? p0.AB v3) fun x6=>
   gd (List.length v2+[x6.Id].length<=lim) (
   jn (SH L1 v3) (v2++[x6.Id])))
   (jn (SH L1 v3) v2))
  (jn (SI p0 p1) v2)
noncomputable def bQ(p0:AA)(p1:Int):Option Int:=
 Ap (SJ p0 p1) big ([],0)
noncomputable def Kn:GF:=ABV.gf rfl rfl (fun a=>bQ a.1 a.2.1) (fun a=>by kernel_rfl)
noncomputable def ABW:YF:=⟨[],[.v (.st 3),.v .i],[],.ret [(.st 3),.b],[.cell 4 (some 5),.tmp 5],
 sq [qu 2 0,.alloc 4 By,qB 5 false] (Kp 22) (sr [wn 6 [wk 5 2,wm 1,wc DV rfl [6,7,qj (-1),qj 1,qj 0,qj 0],wh (.ext · (.tmp 8) 0),wh (.ext · (.tmp 8) 1)],
 qn [qw 5 4 9,qa 5 10]] [4,5] .ret)⟩
noncomputable def bR(p0:Am)(p1:Int):Option (Am×Bool):=
 bd (Nq p0 p1 (-1) 1 0 0) fun x1=>
 some (x1.fst,x1.snd)
noncomputable def Ko:GF:=ABW.gf rfl rfl (fun a=>bR a.1 a.2.1) (fun a=>by kernel_rfl)
noncomputable def ABX:YF:=⟨[],[.o (.st 8),.v .i],[],.ret [(.st 8),.i],[.cell 4 (some 15),.tmp 5],
 sq [qu 2 0,.alloc 4 Ae,.A6 [(.cell 4 0,.i),(.cell 4 11,(.st 2)),(.cell 4 12,(.st 7)),(.cell 4 13,.i),(.cell 4 14,.i)],qK 5 0] (Kp 22) (sr [wn 9 [wk 15 2,wm 1,wc Kn rfl [9,10]],
 qn [qa 6 11]] (Kp 86) (.seq (sw 12 [wm 6,wI .eql 0] (Kp 8278) (.cond 13 [2,4] (Kp 86) (sq [qL 14 15 2,qw 15 4 14,qK 5 0] [4,5] .ret) .skip)) (.seq (.BW (qd 0 [wn 15 [wo 11 2,wL,wk 15 2,wm 6]] (.both 0 (.op 4 none [15] (.call 19 BU [] rfl [(.tmp 17),(.tmp 18)])
 (qd 5 [wn 20 [wE (.st 2) 16,wK 10]] (.op 7 none [2,15,20] (.alloc 7 BS)
 (.op 8 none [] (.st 10 (.tmp 7) (.tmp 21))
 (.dr [15,16,17,18,19,20,21] .nil))))) (.op 7 none [2,15] (.alloc 7 BS)
 (.op 4 none [15] (.call 19 BU [] rfl [(.tmp 17),(.tmp 18)])
 (qd 5 [wn 20 [wE (.st 2) 16,wK 10]] (.op 8 none [] (.st 10 (.tmp 7) (.tmp 21))
 (.dr [15,16,17,18,19,20,21] .nil))))))) [1,2,4,6,7]) (sq [qo 22 7 7,.st 1 (.tmp 22) (.k (.int .i64 2))] (Kp 214) (sr [wn 23 [wo 9 2,wL,wo 0 2,wO 5,wL,wB .add 24,wo 8 7],
 qn [qw 1 29 28]] (Kp 214) (sr [wn 30 [wo 11 2,wL,wk 10 7,wc EF rfl [31,32],wo 11 2],
 qn [qw 1 34 33]] (Kp 214) (sr [wn 35 [wo 12 2,wL,wm 1,wE (.st 7) 36,wK 7],
 qn [.alloc 8 C6,.A6 [(.cell 8 5,(.st 4)),(.cell 8 6,(.l (.st 5)))],qw 7 8 39]] (Kp 470) (sr [wn 41 [wo 0 8,wK 5,wo 3 7,wL,wc Ko rfl [42,44]],
 qn [qm 40 45],
 wn 46 [wh (.ext · (.tmp 40) 0),wh (.ext · (.tmp 40) 1),wo 0 8],
 qn [qw 5 48 46]] (Kp 470) (sr [wn 50 [wo 5 8,wL,wm 6,wc G2 rfl [51,52]],
 qn [qm 49 53],
 wn 54 [wh (.ext · (.tmp 49) 0),wh (.ext · (.tmp 49) 1),wo 5 8],
 qn [qw 1 56 54]] (Kp 470) (sr [wn 58 [wo 6 8,wK 1,wo 8 7,wL,wm 6,wh (.build · [.int .i64 0,.int .i64 0] [(0,1,(.tmp 61)),(1,1,(.tmp 62))]),wc E4 rfl [59,63]],
 qn [qm 57 64],
 wn 65 [wh (.ext · (.tmp 57) 0),wh (.ext · (.tmp 57) 1),wo 6 8],
 qn [qw 1 67 65]] (Kp 342) (sr [wn 68 [wo 12 2,wL,wm 1,wk 7 8,we (.st 7) 69 70],
 qn [qw 7 72 71]] (Kp 84) (sr [wn 73 [wk 15 2,wm 6],
 qn [qw 15 4 73,qa 5 74]] [4,5] .ret))))))))))))⟩
noncomputable def kg(p0:AA)(p1:Int):Option (AA×Int):=
 bd (bQ p0 p1) fun x1=>
 br (x1==0)
  (some (p0,0))
  (bd (Fx p0 x1) fun x2=>
  bd (at? p0.AB x2) fun x3=>
  bd (at? p0.AB x2) fun x4=>
  bd (Fx p0 x1) fun x5=>
  bd (at? p0.AB x5) fun x6=>
  bd (at? p0.AB x5) fun x7=>
  Jj x4 x7 (
  bd (MQ p0.AB (AH.mk x4.Id x4.AK x4.Ay x4.AY x4.Bb x4.Since x4.AQ 2 (w64 (p0.Now+p0.AG.BI)) x4.Ba)) fun x8=>
  bd (at? p0.AE p1) fun x9=>
  bd (at? p0.AE p1) fun x10=>
  bd (bR x10.AM x4.AY) fun x11=>
  bd (SD x10.Row x1) fun x12=>
  bd (Rm x10.BL (Ag.mk (w64 (p0.Now+p0.AG.BI)) x1)) fun x13=>
  bd (at? p0.AE p1) fun x14=>
  bd (at? p0.AE p1) fun x15=>
  some ((AA.mk p0.AG p0.Now p0.AQ x8 (p0.AE.set p1.toNat (AZ.mk x11.fst x12.fst x13.fst)) p0.AW p0.AS,x1))))
noncomputable def TX:GF:=ABX.gf rfl rfl (fun a=>kg a.1 a.2.1) (fun a=>by kernel_rfl)
noncomputable def ABY:YF:=⟨[],[.v (.st 8),.v .i],[],.ret [(.un 15),.i],[.un 4 15,.tmp 5],
 sq [qu 2 0,.alloc 4 Ae,.A6 [(.cell 4 0,.i),(.cell 4 11,(.st 2)),(.cell 4 12,(.st 7)),(.cell 4 13,.i),(.cell 4 14,.i)],qK 5 0] (Kp 22) (sr [wn 9 [wk 15 2,wm 1,wc Kn rfl [9,10]],
 qn [qa 6 11]] (Kp 86) (.seq (sw 12 [wm 6,wI .eql 0] (Kp 8278) (.cond 13 [2,4] (Kp 86) (sq [qL 14 15 2,qw 15 4 14,qK 5 0] [4,5] .ret) .skip)) (.seq (.BW (qd 0 [wn 15 [wo 11 2,wL,wk 15 2,wm 6]] (.both 0 (.op 4 none [15] (.call 19 BU [] rfl [(.tmp 17),(.tmp 18)])
 (qd 5 [wn 20 [wE (.st 2) 16,wK 10]] (.op 7 none [2,15,20] (.alloc 7 BS)
 (.op 8 none [] (.st 10 (.tmp 7) (.tmp 21))
 (.dr [15,16,17,18,19,20,21] .nil))))) (.op 7 none [2,15] (.alloc 7 BS)
 (.op 4 none [15] (.call 19 BU [] rfl [(.tmp 17),(.tmp 18)])
 (qd 5 [wn 20 [wE (.st 2) 16,wK 10]] (.op 8 none [] (.st 10 (.tmp 7) (.tmp 21))
 (.dr [15,16,17,18,19,20,21] .nil))))))) [1,2,4,6,7]) (sq [qo 22 7 7,.st 1 (.tmp 22) (.k (.int .i64 2))] (Kp 214) (sr [wn 23 [wo 9 2,wL,wo 0 2,wO 5,wL,wB .add 24,wo 8 7],
 qn [qw 1 29 28]] (Kp 214) (sr [wn 30 [wo 11 2,wL,wk 10 7,wc EF rfl [31,32],wo 11 2],
 qn [qw 1 34 33]] (Kp 214) (sr [wn 35 [wo 12 2,wL,wm 1,wE (.st 7) 36,wK 7],
 qn [.alloc 8 C6,.A6 [(.cell 8 5,(.st 4)),(.cell 8 6,(.l (.st 5)))],qw 7 8 39]] (Kp 470) (sr [wn 41 [wo 0 8,wK 5,wo 3 7,wL,wc Ko rfl [42,44]],
 qn [qm 40 45],
 wn 46 [wh (.ext · (.tmp 40) 0),wh (.ext · (.tmp 40) 1),wo 0 8],
 qn [qw 5 48 46]] (Kp 470) (sr [wn 50 [wo 5 8,wL,wm 6,wc G2 rfl [51,52]],
 qn [qm 49 53],
 wn 54 [wh (.ext · (.tmp 49) 0),wh (.ext · (.tmp 49) 1),wo 5 8],
 qn [qw 1 56 54]] (Kp 470) (sr [wn 58 [wo 6 8,wK 1,wo 8 7,wL,wm 6,wh (.build · [.int .i64 0,.int .i64 0] [(0,1,(.tmp 61)),(1,1,(.tmp 62))]),wc E4 rfl [59,63]],
 qn [qm 57 64],
 wn 65 [wh (.ext · (.tmp 57) 0),wh (.ext · (.tmp 57) 1),wo 6 8],
 qn [qw 1 67 65]] (Kp 342) (sr [wn 68 [wo 12 2,wL,wm 1,wk 7 8,we (.st 7) 69 70],
 qn [qw 7 72 71]] (Kp 84) (sr [wn 73 [wk 15 2,wm 6],
 qn [qw 15 4 73,qa 5 74]] [4,5] .ret))))))))))))⟩
noncomputable def kh(p0:AA)(p1:Int):Option (PUnit×Int):=
 bd (bQ p0 p1) fun x1=>
 br (x1==0)
  (some (((),0)))
  (bd (Fx p0 x1) fun x2=>
  bd (at? p0.AB x2) fun x3=>
  bd (Fx p0 x1) fun x4=>
  bd (at? p0.AB x4) fun x5=>
  Jj x3 x5 (
  bd (MQ p0.AB (AH.mk x3.Id x3.AK x3.Ay x3.AY x3.Bb x3.Since x3.AQ 2 (w64 (p0.Now+p0.AG.BI)) x3.Ba)) fun x6=>
  bd (at? p0.AE p1) fun x7=>
  bd (bR x7.AM x3.AY) fun x8=>
  bd (SD x7.Row x1) fun x9=>
  bd (Rm x7.BL (Ag.mk (w64 (p0.Now+p0.AG.BI)) x1)) fun x10=>
  bd (at? p0.AE p1) fun x11=>
  none))
noncomputable def TY:GF:=ABY.gf rfl rfl (fun a=>kh a.1 a.2.1) (fun a=>by kernel_rfl)
noncomputable def ABZ:YF:=⟨[],[.v (.st 8),.v .i],[],.ret [(.st 8),(.l .i)],[.cell 4 (some 15),.tmp 5],
 sq [qu 2 0,.alloc 4 Ae,.A6 [(.cell 4 0,.i),(.cell 4 11,(.st 2)),(.cell 4 12,(.st 7)),(.cell 4 13,.i),(.cell 4 14,.i)],.as 5 (.k .nil),.A6 [(.tmp 5 0,.i)]] (Kp 22) (sr [wn 10 [wk 15 2,wY Bu rfl],
 qn [.alloc 6 Ae,.A6 [(.cell 6 0,.i),(.cell 6 11,(.st 2)),(.cell 6 12,(.st 7)),(.cell 6 13,.i),(.cell 6 14,.i)],qw 15 6 11]] (Kp 86) (sq [.AR 12 0 .i [],qa 7 12] (Kp 214) (.seq (sw 13 [wk 15 2,wm 1,wc TB rfl [13,14],wX] (Kp 65746) (.cond 16 [4,6,7] (Kp 210) (sr [wn 17 [wk 15 6,wm 7],
 qn [qw 15 4 17,qa 5 18]] [4,5] .ret) .skip)) (sr [wn 19 [wk 15 6,wm 1,wc TE rfl [19,20]],
 qn [qw 15 6 21]] (Kp 210) (bl 0 [cv 7 (.l .i),cx 6 (.st 8)] (.or (.block 1 (sr [wn 23 [wk 15 6,wm 1,wc TX rfl [23,24]],
 qn [qm 22 25],
 wn 26 [wh (.ext · (.tmp 22) 0),wh (.ext · (.tmp 22) 1)],
 qn [.alloc 8 Ae,.A6 [(.cell 8 0,.i),(.cell 8 11,(.st 2)),(.cell 8 12,(.st 7)),(.cell 8 13,.i),(.cell 8 14,.i)],qw 15 8 26,qa 9 27]] (Kp 978) (.seq (sw 28 [wm 9,wI .eql 0] (Kp 536871890) (.cond 29 [4,6,7] (Kp 978) (sr [wn 30 [wk 15 6,wm 7],
 qn [qw 15 4 30,qa 5 31]] [4,5] .ret) .skip)) (sq [qL 32 15 8,qw 15 6 32] (Kp 722) (qr [wn 33 [wm 7,wm 9,wh (.AR · 1 .i [(0,(.tmp 34))]),wh (.app · .i true (.tmp 33) (.tmp 35))],
 qn [qa 7 36]] (Kp 210))))))
 (.block 1 (sr [wn 23 [wk 15 6,wm 1,wc TY rfl [23,24]],
 qn [qm 22 25],
 wn 26 [wh (.ext · (.tmp 22) 0),wh (.ext · (.tmp 22) 1)],
 qn [.alloc 8 Ae,.A6 [(.cell 8 0,.i),(.cell 8 11,(.st 2)),(.cell 8 12,(.st 7)),(.cell 8 13,.i),(.cell 8 14,.i)],qw 15 8 26,qa 9 27]] (Kp 978) (.seq (sw 28 [wm 9,wI .eql 0] (Kp 536871890) (.cond 29 [4,6,7] (Kp 978) (sr [wn 30 [wk 15 6,wm 7],
 qn [qw 15 4 30,qa 5 31]] [4,5] .ret) .skip)) (sq [qL 32 15 8,qw 15 6 32] (Kp 722) (qr [wn 33 [wm 7,wm 9,wh (.AR · 1 .i [(0,(.tmp 34))]),wh (.app · .i true (.tmp 33) (.tmp 35))],
 qn [qa 7 36]] (Kp 210))))))))))))⟩
noncomputable def Nt(p1:Int)(L4:((List Int)×AA)->Option (AA×(List Int)))(x_:((List Int)×AA)):Option (AA×(List Int)):=
 match x_ with
 |(v5,v6)=>orX
  (bd (kg v6 p1) fun x7=>
  br (x7.snd==0)
   (none)
   (gd (List.length v5+[x7.snd].length<=lim) (
   L4 (v5++[x7.snd],x7.fst))))
  (bd (kh v6 p1) fun x8=>
  br (x8.snd==0)
   (some (v6,v5))
   (gd (List.length v5+[x8.snd].length<=lim) (
   none)))
noncomputable def kj(p0:AA)(p1:Int):Option (AA×(List Int)):=
 bd (IH p0) fun x1=>
 bd (rE p0 p1) fun x2=>
 br (!x2)
  (some (x1,[]))
  (bd (kL x1 p1) fun x3=>
  Ap (Nt p1) big ([],x3))
noncomputable def TZ:GF:=ABZ.gf rfl rfl (fun a=>kj a.1 a.2.1) (fun a=>by kernel_rfl)
noncomputable def ABa:YF:=⟨[],[.v (.st 8),.v .i],[],.ret [(.st 8),.i,(.l .i)],[.cell 4 (some 15),.tmp 5,.tmp 6],
 sq [qu 2 0,.alloc 4 Ae,.A6 [(.cell 4 0,.i),(.cell 4 11,(.st 2)),(.cell 4 12,(.st 7)),(.cell 4 13,.i),(.cell 4 14,.i)],qK 5 0,.as 6 (.k .nil),.A6 [(.tmp 6 0,.i)]] (Kp 22) (sr [wn 12 [wk 15 2,wY Bu rfl],
 qn [.alloc 7 Ae,.A6 [(.cell 7 0,.i),(.cell 7 11,(.st 2)),(.cell 7 12,(.st 7)),(.cell 7 13,.i),(.cell 7 14,.i)],qw 15 7 13]] (Kp 150) (sr [wn 14 [wk 15 2,wm 1,wh (.build · B3 [(0,1,(.k (.int .i64 7))),(1,1,(.tmp 15))]),wc CT rfl [14,16]],
 qn [qa 8 17]] (Kp 406) (.seq (sw 18 [wm 8,wI .neq 0] (Kp 524694) (.cond 19 [4,7,8] (Kp 150) (sr [wn 20 [wk 15 7,wm 8,wh (.AR · 0 .i [])],
 qn [qw 15 4 20,qa 5 21,qa 6 22]] (Kp 112) .ret) .skip)) (sr [wn 23 [wo 14 2,wL,wm 1,wE .i 24,wL],
 qn [qa 9 27]] (Kp 662) (.seq (sw 28 [wm 9,wI .lss 0] (Kp 536871574) (.cond 29 [1,2,4,7] (Kp 534) (.seq (.BW (qd 0 [wn 30 [wo 14 7,wL,wm 1,wo 13 2,wL,wh (.ia · .i (.tmp 34) (.k (.int .i64 0))),wL,we .i 31 32],
 qn [qw 1 37 36]] .nil) [2,4,7]) (sr [wn 38 [wh (.AR · 0 .i []),wo 13 2,wL,wh (.sub · .i (.tmp 40) (some (.k (.int .i64 1))) none),wh (.app · .i true (.tmp 38) (.tmp 41)),wo 13 7],
 qn [qw 1 43 42]] [4,7] (sr [wn 44 [wk 15 7,wh (.AR · 0 .i [])],
 qn [qw 15 4 44,qK 5 0,qa 6 45]] (Kp 112) .ret))) .skip)) (sr [wn 47 [wk 15 2,wm 9,wc TZ rfl [47,48]],
 qn [qm 46 49],
 wn 50 [wh (.ext · (.tmp 46) 0),wh (.ext · (.tmp 46) 1)],
 qn [.alloc 10 Ae,.A6 [(.cell 10 0,.i),(.cell 10 11,(.st 2)),(.cell 10 12,(.st 7)),(.cell 10 13,.i),(.cell 10 14,.i)],qw 15 10 50,qa 11 51]] (Kp 3090) (sr [wn 52 [wo 14 10,wL,wm 1,wE .i 53],
 qn [.st 1 (.tmp 55) (.k (.int .i64 (-1)))]] (Kp 3088) (sr [wn 56 [wk 15 10,wm 11],
 qn [qw 15 4 56,qK 5 0,qa 6 57]] (Kp 112) .ret))))))))⟩
noncomputable def km(p0:AA)(p1:Int):Option (AA×Int×(List Int)):=
 bd (IH p0) fun x1=>
 bd (KG p0 (Aq.mk 7 p1 0 0 0 0)) fun x2=>
 br (x2 != 0)
  (some (x1,x2,[]))
  (bd (at? p0.AS p1) fun x3=>
  br (decide (x3<0))
   (bd (at? p0.AW 0) fun x4=>
   bd (at? x1.AS p1) fun x5=>
   bd (at? x1.AS p1) fun x6=>
   gd ((0:Int)<=1/\1<=(↑p0.AW.length:Int)) (
   gd (0+(List.drop (Int.toNat 1) p0.AW).length<=lim) (
   some ((AA.mk x1.AG x1.Now x1.AQ x1.AB x1.AE ([]++List.drop (Int.toNat 1) p0.AW) (x1.AS.set p1.toNat x4),0,[])))))
   (bd (kj p0 x3) fun x7=>
   bd (at? x7.fst.AS p1) fun x8=>
   bd (at? x7.fst.AS p1) fun x9=>
   some ((AA.mk x7.fst.AG x7.fst.Now x7.fst.AQ x7.fst.AB x7.fst.AE x7.fst.AW (x7.fst.AS.set p1.toNat (-1)),0,x7.snd))))
noncomputable def Ta:GF:=ABa.gf rfl rfl (fun a=>km a.1 a.2.1) (fun a=>by kernel_rfl)
noncomputable def ABb:YF:=⟨[],[.v (.st 8),.v (.st 0)],[],.ret [(.st 8),(.st 12)],[.cell 4 (some 15),.cell 5 (some 2)],
 sq [qu 2 0,qu 3 1,.alloc 4 Ae,.A6 [(.cell 4 0,.i),(.cell 4 11,(.st 2)),(.cell 4 12,(.st 7)),(.cell 4 13,.i),(.cell 4 14,.i)],.alloc 5 [.int .i64 0,.nil],.A6 [(.cell 5 1,.i)]] (Kp 60) (sr [wn 9 [wk 15 2,wY Bu rfl],
 qn [.alloc 6 Ae,.A6 [(.cell 6 0,.i),(.cell 6 11,(.st 2)),(.cell 6 12,(.st 7)),(.cell 6 13,.i),(.cell 6 14,.i)],qw 15 6 10]] (Kp 124) (sr [wn 11 [wk 15 2,wk 6 3,wc CT rfl [11,12]],
 qn [qa 7 13]] (Kp 252) (.seq (sw 14 [wm 7,wI .neq 0] (Kp 33020) (.cond 15 [4,5,6,7] (Kp 124) (sr [wn 16 [wk 15 6,wm 7,wh (.build · [.int .i64 0,.nil] [(0,1,(.tmp 17))])],
 qn [.A6 [(.tmp 18 1,.i)],qw 15 4 16,qw 2 5 18]] [4,5] .ret) .skip)) (sq [.AR 19 0 .i [],qa 8 19] (Kp 380) (.join [cv 7 .i,cv 8 (.l .i),cx 6 (.st 8)] (sw 20 [wo 0 3,wL] (Kp 2097532) (.block 0 (sq [qi 31 .eql 21 1,qa 30 31] (Kp 1075839356) (.cond 30 [2,3,4,5,6,8] (Kp 2097532) (qr [wn 33 [wk 15 2,wo 1 3,wL,wo 2 3,wL,wo 3 3,wL,wo 4 3,wL,wo 5 3,wL,wc TO rfl [33,35,37,39,41,43]],
 qn [qm 32 44],
 wn 45 [wh (.ext · (.tmp 32) 0),wh (.ext · (.tmp 32) 1)],
 qn [qw 15 6 45,qa 7 46]] (Kp 496)) (sq [qi 48 .eql 21 2,qa 47 48] (Kp 140737490452860) (.cond 47 [2,3,4,5,6,8] (Kp 2097532) (qr [wn 50 [wk 15 2,wo 1 3,wL,wc TS rfl [50,52]],
 qn [qm 49 53],
 wn 54 [wh (.ext · (.tmp 49) 0),wh (.ext · (.tmp 49) 1)],
 qn [qw 15 6 54,qa 7 55]] (Kp 496)) (sq [qi 57 .eql 21 3,qa 56 57] (Kp 72057594040025468) (.cond 56 [2,3,4,5,6,8] (Kp 2097532) (qr [wn 59 [wk 15 2,wo 2 3,wL,wo 4 3,wL,wc TU rfl [59,61,63]],
 qn [qm 58 64],
 wn 65 [wh (.ext · (.tmp 58) 0),wh (.ext · (.tmp 58) 1)],
 qn [qw 15 6 65,qa 7 66]] (Kp 496)) (sq [qi 68 .eql 21 4,qa 67 68] [2,3,4,5,6,8,21,67] (.cond 67 [2,3,4,5,6,8] (Kp 2097532) (qr [wn 70 [wk 15 2,wo 1 3,wL,wc S6 rfl [70,72]],
 qn [qm 69 73],
 wn 74 [wh (.ext · (.tmp 69) 0),wh (.ext · (.tmp 69) 1)],
 qn [qw 15 6 74,qa 7 75]] (Kp 496)) (sq [qi 77 .eql 21 5,qa 76 77] [2,3,4,5,6,8,21,76] (.cond 76 [2,3,4,5,6,8] (Kp 2097532) (qr [wn 79 [wk 15 2,wo 1 3,wL,wc S8 rfl [79,81]],
 qn [qm 78 82],
 wn 83 [wh (.ext · (.tmp 78) 0),wh (.ext · (.tmp 78) 1)],
 qn [qw 15 6 83,qa 7 84]] (Kp 496)) (sq [qi 86 .eql 21 6,qa 85 86] [2,3,4,5,6,8,85] (.cond 85 [2,4,5,6,8] (Kp 124) (qr [wn 88 [wk 15 2,wY S9 rfl],
 qn [qm 87 89],
 wn 90 [wh (.ext · (.tmp 87) 0),wh (.ext · (.tmp 87) 1)],
 qn [qw 15 6 90,qa 7 91]] (Kp 496)) (qr [wn 23 [wk 15 2,wo 1 3,wL,wc Ta rfl [23,25]],
 qn [qm 22 26],
 wn 27 [wh (.ext · (.tmp 22) 0),wh (.ext · (.tmp 22) 1),wh (.ext · (.tmp 22) 2)],
 qn [qw 15 6 27,qa 7 28,qa 8 29]] (Kp 496)))))))))))))))) (sr [wn 92 [wk 15 6,wm 7,wm 8,wh (.build · [.int .i64 0,.nil] [(0,1,(.tmp 93)),(1,1,(.tmp 94))])],
 qn [qw 15 4 92,qw 2 5 95]] [4,5] .ret))))))⟩
noncomputable def Fy(x_:(Int×(List Int)×AA)):Option (AA×A5):=
 match x_ with
 |(v4,v5,v6)=>some (v6,A5.mk v4 v5)
noncomputable def MS(p0:AA)(p1:Aq):Option (AA×A5):=
 bd (IH p0) fun x1=>
 bd (KG p0 p1) fun x2=>
 br (x2 != 0)
  (some (x1,A5.mk x2 []))
  (br (p1.Kind==1)
   (bd (kU p0 p1.Id p1.AK p1.Ay p1.AY p1.Bb) fun x3=>
   jn (Fy) (x3.snd,[],x3.fst))
   (br (p1.Kind==2)
    (bd (kY p0 p1.Id) fun x7=>
    jn (Fy) (x7.snd,[],x7.fst))
    (br (p1.Kind==3)
     (bd (ka p0 p1.AK p1.AY) fun x8=>
     jn (Fy) (x8.snd,[],x8.fst))
     (br (p1.Kind==4)
      (bd (kH p0 p1.Id) fun x9=>
      jn (Fy) (x9.snd,[],x9.fst))
      (br (p1.Kind==5)
       (bd (kI p0 p1.Id) fun x10=>
       jn (Fy) (x10.snd,[],x10.fst))
       (br (p1.Kind==6)
        (bd (kJ p0) fun x11=>
        jn (Fy) (x11.snd,[],x11.fst))
        (bd (km p0 p1.Id) fun x12=>
        jn (Fy) (x12.snd.fst,x12.snd.snd,x12.fst))))))))
noncomputable def GC:GF:=ABb.gf rfl rfl (fun a=>MS a.1 a.2.1) (fun a=>by kernel_rfl)
noncomputable def ABc:YF:=⟨[],[.b (.st 17),.v (.st 8),.v .i],[],.ret [(.l (.st 0))],[.tmp 6],
 sq [qu 4 1,.as 6 (.k .nil),.A6 [(.tmp 6 0,(.st 0))]] (Kp 21) (sq [.AR 10 0 (.st 0) [],qa 7 10] (Kp 149) (.join [cv 7 (.l (.st 0)),(true,0,.one,[.val (.st 17) (some (.old 0))])] (sq [qK 8 0] (Kp 405) (.block 0 (.xW [cv 7 (.l (.st 0)),cv 8 .i,(true,0,.one,[.val (.st 17) (some (.old 0))]),cx 4 (.st 8)] (.seq (sw 11 [wm 8,wm 2,wB .lss 11] (Kp 8597) (ce 13 (Kp 405) [0,7] 0)) (.seq (.block 1 (sr [wn 16 [wm 0,wk 15 4,wc Ke rfl [16,17]],
 qn [.alloc 9 B3,qw 6 9 18]] (Kp 917) (.join [(true,0,.one,[.val (.st 17) (some (.old 0))]),cx 9 (.st 0)] (sw 19 [wm 0,wc BD rfl [19,qj 3]] (Kp 1049493) (.cond 20 [0,2,4,7,8,9] (Kp 917) (qr [wn 21 [wm 0,wk 15 4,wc TJ rfl [21,22]],
 qn [qw 6 9 23]] (Kp 917)) .skip)) (.join [(true,0,.one,[.val (.st 17) (some (.old 0))]),cx 9 (.st 0)] (sw 24 [wm 0,wc BD rfl [24,qj 24]] (Kp 33555349) (.cond 25 [0,2,4,7,8,9] (Kp 917) (qr [wn 26 [wm 0,wk 15 4,wc Sz rfl [26,27]],
 qn [qw 6 9 28]] (Kp 917)) .skip)) (sr [wn 29 [wm 7,wk 6 9,wh (.AR · 1 (.st 0) [(0,(.tmp 30))]),wh (.app · (.st 0) true (.tmp 29) (.tmp 31))],
 qn [qa 7 32]] (Kp 917) (qr [wn 34 [wk 15 4,wk 6 9,wc GC rfl [34,35]],
 qn [qm 33 36],
 wn 37 [wh (.ext · (.tmp 33) 0),wh (.ext · (.tmp 33) 1)],
 qn [qw 15 4 37]] (Kp 405))))))) (qr [wn 14 [wm 8,wI .add 1],
 qn [qa 8 15]] (Kp 405))))))) (sq [qm 39 7,qa 6 39] [0,6] .ret)))⟩
noncomputable def Nx(L11:((List Aq)×Int×AI×AA)->Option ((List Aq)×AI))(v12:(List Aq))(v13:Int)(v15:AA)(x_:(AI×Aq)):Option ((List Aq)×AI):=
 match x_ with
 |(v23,v24)=>gd (List.length v12+[v24].length<=lim) (
 bd (MS v15 v24) fun x25=>
 L11 ((v12++[v24],w64 (v13+1),v23,x25.fst)))
noncomputable def Nw(L11:((List Aq)×Int×AI×AA)->Option ((List Aq)×AI))(v12:(List Aq))(v13:Int)(v15:AA)(x_:(AI×Aq)):Option ((List Aq)×AI):=
 match x_ with
 |(v19,v20)=>bd (Ea v19 24) fun x21=>
 br x21.fst
  (bd (bC x21.snd v15) fun x22=>
  jn (Nx L11 v12 v13 v15) (x22.snd,x22.fst))
  (jn (Nx L11 v12 v13 v15) (x21.snd,v20))
noncomputable def SK(x_:((List Aq)×AI)):Option ((List Aq)×AI):=
 match x_ with
 |(v26,v27)=>some (v26,v27)
noncomputable def Ny(p2:Int)(L11:((List Aq)×Int×AI×AA)->Option ((List Aq)×AI))(x_:((List Aq)×Int×AI×AA)):Option ((List Aq)×AI):=
 match x_ with
 |(v12,v13,v14,v15)=>br (decide (v13<p2))
  (bd (WQ v14 v15) fun x16=>
  bd (Ea x16.snd 3) fun x17=>
  br x17.fst
   (bd (bJ x17.snd v15) fun x18=>
   jn (Nw L11 v12 v13 v15) (x18.snd,x18.fst))
   (jn (Nw L11 v12 v13 v15) (x17.snd,x16.fst)))
  (jn (SK) (v12,v14))
noncomputable def Nv(p1:AA)(p2:Int)(x_:(AI×Aq)):Option ((List Aq)×AI):=
 match x_ with
 |(v8,v9)=>gd (0+[v9].length<=lim) (
 bd (MS p1 v9) fun x10=>
 Ap (Ny p2) big (([]++[v9],w64 (0+1),v8,x10.fst)))
noncomputable def Nu(p1:AA)(p2:Int)(x_:(AI×Aq)):Option ((List Aq)×AI):=
 match x_ with
 |(v4,v5)=>bd (Ea v4 24) fun x6=>
 br x6.fst
  (bd (bC x6.snd p1) fun x7=>
  jn (Nv p1 p2) (x7.snd,x7.fst))
  (jn (Nv p1 p2) (x6.snd,v5))
noncomputable def ko(p0:AI)(p1:AA)(p2:Int):Option ((List Aq)×AI):=
 br (decide (0<p2))
  (bd (WQ p0 p1) fun x1=>
  bd (Ea x1.snd 3) fun x2=>
  br x2.fst
   (bd (bJ x2.snd p1) fun x3=>
   jn (Nu p1 p2) (x3.snd,x3.fst))
   (jn (Nu p1 p2) (x2.snd,x1.fst)))
  (jn (SK) ([],p0))
noncomputable def Tb:GF:=ABc.gf rfl rfl (fun a=>ko a.1 a.2.1 a.2.2.1) (fun a=>by kernel_rfl)
noncomputable def ABd:YF:=⟨[],[.v (.l .u)],[],.ret [(.st 8),(.l (.st 0))],[.cell 2 (some 15),.tmp 3],
 sq [.alloc 2 Ae,.A6 [(.cell 2 0,.i),(.cell 2 11,(.st 2)),(.cell 2 12,(.st 7)),(.cell 2 13,.i),(.cell 2 14,.i)],.as 3 (.k .nil),.A6 [(.tmp 3 0,(.st 0))]] [0,2] (sr [wn 6 [wm 0,wY Sw rfl],
 qn [qa 4 7]] (Kp 21) (sr [wn 8 [wm 4,wY TH rfl],
 qn [.alloc 5 Ae,.A6 [(.cell 5 0,.i),(.cell 5 11,(.st 2)),(.cell 5 12,(.st 7)),(.cell 5 13,.i),(.cell 5 14,.i)],qw 15 5 9]] (Kp 53) (.join [cx 5 (.st 8),(true,7,.one,[.val (.st 17) (some (.old 0))])] (sw 10 [wm 4,wc BD rfl [10,qj 16]] (Kp 2101) (.cond 11 [0,2,4,5] (Kp 53) (qr [wn 12 [wm 4,wY TG rfl],
 qn [qw 15 5 13]] (Kp 53)) .skip)) (.seq (.BW (qd 0 [wn 14 [wk 15 5,wm 4,wk 15 5,wm 4,wm 0]] (.op 5 none [5] (.call 19 TI [] rfl [(.tmp 18),(.k (.int .i64 4)),(.k (.int .i64 40))])
 (.op 6 none [5] (.call 20 AJ [] rfl [(.tmp 17),(.tmp 19)])
 (.op 7 none [5] (.call 21 Tb [] rfl [(.tmp 15),(.tmp 16),(.tmp 20)])
 (qd 8 [qn [qw 15 2 14,qa 3 21]] .nil))))) [2,3]) .ret))))⟩
noncomputable def Nz(p0:(List UInt8))(x_:(AA×AI)):Option (AA×(List Aq)):=
 match x_ with
 |(v5,v6)=>bd (kP p0 4 40) fun x7=>
 bd (Ao v6 x7) fun x8=>
 bd (ko x8.snd v5 x8.fst) fun x9=>
 some (v5,x9.fst)
noncomputable def bS(p0:(List UInt8)):Option (AA×(List Aq)):=
 bd (kC p0) fun x1=>
 bd (kO x1) fun x2=>
 bd (Ea x2.snd 16) fun x3=>
 br x3.fst
  (bd (kN x3.snd) fun x4=>
  jn (Nz p0) (x4.fst,x4.snd))
  (jn (Nz p0) (x2.fst,x3.snd))
noncomputable def PQ:GF:=ABd.gf rfl rfl (fun a=>bS a.1) (fun a=>by kernel_rfl)
noncomputable def ABe:YF:=⟨[],[.v (.st 8),.v (.l (.st 0))],[],.ret [(.st 8),(.l (.st 12))],[.cell 4 (some 15),.tmp 5],
 sq [qu 2 0,.alloc 4 Ae,.A6 [(.cell 4 0,.i),(.cell 4 11,(.st 2)),(.cell 4 12,(.st 7)),(.cell 4 13,.i),(.cell 4 14,.i)],.as 5 (.k .nil),.A6 [(.tmp 5 0,(.st 12))]] (Kp 22) (sr [wn 11 [wk 15 2,wY Bu rfl],
 qn [.alloc 6 Ae,.A6 [(.cell 6 0,.i),(.cell 6 11,(.st 2)),(.cell 6 12,(.st 7)),(.cell 6 13,.i),(.cell 6 14,.i)],qw 15 6 12]] (Kp 82) (sq [.AR 13 0 (.st 12) [],qa 7 13] (Kp 210) (.join [cv 7 (.l (.st 12)),cx 6 (.st 8)] (sq [qK 8 0] (Kp 466) (bl 0 [cv 7 (.l (.st 12)),cv 8 .i,cx 6 (.st 8)] (.seq (sw 14 [wm 8,wm 1,wZ,wB .lss 14] (Kp 131538) (ce 17 [1,4,6,7,8] (Kp 208) 0)) (.seq (.block 1 (.seq (.BW (qd 0 [wn 21 [wk 15 6,wm 1,wm 8,wE (.st 0) 22,wK 6]] (.both 0 (qd 5 [qn [qc 26 GC rfl [21,25],qm 20 26],
 wn 27 [wh (.ext · (.tmp 20) 0),wh (.ext · (.tmp 20) 1)]] (.both 0 (.op 9 none [6,24] (.alloc 9 Ae)
 (.nl [(.cell 9 0,.i),(.cell 9 11,(.st 2)),(.cell 9 12,(.st 7)),(.cell 9 13,.i),(.cell 9 14,.i)] (.op 10 none [6,24] (.alloc 10 [.int .i64 0,.nil])
 (.nl [(.cell 10 1,.i)] (qd 11 [qn [qw 15 9 27,qw 2 10 28]] (.dr [20,21,22,23,24,25,26,27,28] .nil)))))) (.op 10 none [6,24] (.alloc 10 [.int .i64 0,.nil])
 (.nl [(.cell 10 1,.i)] (.op 9 none [6,24] (.alloc 9 Ae)
 (.nl [(.cell 9 0,.i),(.cell 9 11,(.st 2)),(.cell 9 12,(.st 7)),(.cell 9 13,.i),(.cell 9 14,.i)] (qd 11 [qn [qw 15 9 27,qw 2 10 28]] (.dr [20,21,22,23,24,25,26,27,28] .nil)))))))) (.both 0 (.op 9 none [6,24] (.alloc 9 Ae)
 (.nl [(.cell 9 0,.i),(.cell 9 11,(.st 2)),(.cell 9 12,(.st 7)),(.cell 9 13,.i),(.cell 9 14,.i)] (.both 0 (qd 5 [qn [qc 26 GC rfl [21,25],qm 20 26],
 wn 27 [wh (.ext · (.tmp 20) 0),wh (.ext · (.tmp 20) 1)]] (.op 10 none [6,24] (.alloc 10 [.int .i64 0,.nil])
 (.nl [(.cell 10 1,.i)] (qd 11 [qn [qw 15 9 27,qw 2 10 28]] (.dr [20,21,22,23,24,25,26,27,28] .nil))))) (.op 10 none [6,24] (.alloc 10 [.int .i64 0,.nil])
 (.nl [(.cell 10 1,.i)] (qd 5 [qn [qc 26 GC rfl [21,25],qm 20 26],
 wn 27 [wh (.ext · (.tmp 20) 0),wh (.ext · (.tmp 20) 1)]] (qd 11 [qn [qw 15 9 27,qw 2 10 28]] (.dr [20,21,22,23,24,25,26,27,28] .nil)))))))) (.op 10 none [6,24] (.alloc 10 [.int .i64 0,.nil])
 (.nl [(.cell 10 1,.i)] (.both 0 (qd 5 [qn [qc 26 GC rfl [21,25],qm 20 26],
 wn 27 [wh (.ext · (.tmp 20) 0),wh (.ext · (.tmp 20) 1)]] (.op 9 none [6,24] (.alloc 9 Ae)
 (.nl [(.cell 9 0,.i),(.cell 9 11,(.st 2)),(.cell 9 12,(.st 7)),(.cell 9 13,.i),(.cell 9 14,.i)] (qd 11 [qn [qw 15 9 27,qw 2 10 28]] (.dr [20,21,22,23,24,25,26,27,28] .nil))))) (.op 9 none [6,24] (.alloc 9 Ae)
 (.nl [(.cell 9 0,.i),(.cell 9 11,(.st 2)),(.cell 9 12,(.st 7)),(.cell 9 13,.i),(.cell 9 14,.i)] (qd 5 [qn [qc 26 GC rfl [21,25],qm 20 26],
 wn 27 [wh (.ext · (.tmp 20) 0),wh (.ext · (.tmp 20) 1)]] (qd 11 [qn [qw 15 9 27,qw 2 10 28]] (.dr [20,21,22,23,24,25,26,27,28] .nil))))))))))) [1,4,6,7,8,9,10]) (sq [qL 29 15 9,qw 15 6 29] (Kp 1490) (qr [wn 30 [wm 7,wk 2 10,wh (.AR · 1 (.st 12) [(0,(.tmp 31))]),wh (.app · (.st 12) false (.tmp 30) (.tmp 32))],
 qn [qa 7 33]] (Kp 466))))) (qr [wn 18 [wm 8,wI .add 1],
 qn [qa 8 19]] (Kp 466)))))) (sr [wn 34 [wk 15 6,wm 7],
 qn [qw 15 4 34,qa 5 35]] [4,5] .ret))))⟩
noncomputable def bU(x_:((List A5)×AA)):Option (AA×(List A5)):=
 match x_ with
 |(v12,v13)=>some (v13,v12)
noncomputable def SL(p1:(List Aq))(L2:((List A5)×Int×AA)->Option (AA×(List A5)))(x_:((List A5)×Int×AA)):Option (AA×(List A5)):=
 match x_ with
 |(v3,v4,v5)=>br (decide (v4<(↑p1.length:Int)))
  (bd (at? p1 v4) fun x6=>
  bd (MS v5 x6) fun x7=>
  Ji x7.fst x7.fst (
  Jk x7.snd x7.snd (
  bd (MS v5 x6) fun x8=>
  bd (MS v5 x6) fun x9=>
  Ji x8.fst x9.fst (
  Jk x8.snd x9.snd (
  bd (MS v5 x6) fun x10=>
  bd (MS v5 x6) fun x11=>
  Ji x10.fst x11.fst (
  Jk x10.snd x11.snd (
  Ji x8.fst x10.fst (
  Jk x8.snd x10.snd (
  Ji x7.fst x8.fst (
  Jk x7.snd x8.snd (
  gd (List.length v3+[x7.snd].length<=lim) (
  L2 ((v3++[x7.snd],w64 (v4+1),x7.fst))))))))))))))
  (jn (bU) (v3,v5))
noncomputable def bT(p0:AA)(p1:(List Aq)):Option (AA×(List A5)):=
 bd (IH p0) fun x1=>
 Ap (SL p1) big ([],0,x1)
noncomputable def PR:GF:=ABe.gf rfl rfl (fun a=>bT a.1 a.2.1) (fun a=>by kernel_rfl)
noncomputable def ABf:YF:=⟨[],[.v (.l (.st 0)),.v (.l (.st 12)),.v .i,.v .i],[],.ret [.b],[.tmp 8],
 sq [qB 8 false] (Kp 15) (.join [cv 8 .b] (qr [wn 9 [wm 0,wm 2,wE (.st 0) 9,wO 0,wL,wm 3,wB .eql 13,wM],
 wt 16 17 [wm 2,wm 1,wZ,wB .lss 17],
 wn 21 [wQ 16,wM],
 wt 22 23 [wm 1,wm 2,wE (.st 12) 23,wO 0,wL,wI .eql 0],
 qn [qq 29 22 28,qa 8 29]] [8]) .ret)⟩
noncomputable def KH(v3:Bool):Option Bool:=
 some v3
noncomputable def WU(p0:(List Aq))(p1:(List A5))(p2:Int)(p3:Int):Option Bool:=
 bd (at? p0 p2) fun x1=>
 br (x1.Kind==p3)
  (br (decide (p2<(↑p1.length:Int)))
   (bd (at? p1 p2) fun x2=>
   jn (KH) (x2.Code==0))
   (jn (KH) false))
  (jn (KH) false)
noncomputable def PS:GF:=ABf.gf rfl rfl (fun a=>WU a.1 a.2.1 a.2.2.1 a.2.2.2.1) (fun a=>by kernel_rfl)
noncomputable def ABg:YF:=⟨[],[.v (.l (.st 0)),.v (.l (.st 12))],[],.ret [.i],[.tmp 4],
 sq [qK 4 0] [0,1] (sq [qK 5 0] (Kp 35) (.join [cv 5 .i] (sw 7 [wm 0,wZ,wj 0] (Kp 803) (bl 0 [cv 5 .i,cv 9 .i] (sq [qb 10 .lss 9 8] (Kp 1827) (.seq (ce 10 (Kp 803) [5] 0) (.join [cv 5 .i] (.block 1 (sq [qm 11 9,qa 6 11] (Kp 867) (sw 12 [wm 0,wm 1,wm 6,wc PS rfl [12,13,14,qj 6]] (Kp 33571) (.cond 15 [0,1,5,8,9] (Kp 803) (qr [wn 16 [wm 5,wI .add 1],
 qn [qa 5 17]] (Kp 803)) .skip)))) (q1 [qi 18 .add 9 1,qm 9 18] (Kp 803))))))) (sq [qm 19 5,qa 4 19] [4] .ret)))⟩
noncomputable def SM(L1:(Int×Int)->Option Int)(v3:Int)(v5:Int):Option Int:=
 L1 ((v5,w64 (v3+1)))
noncomputable def bV(v6:Int):Option Int:=
 some v6
noncomputable def SN(p0:(List Aq))(p1:(List A5))(L1:(Int×Int)->Option Int)(x_:(Int×Int)):Option Int:=
 match x_ with
 |(v2,v3)=>br (decide (v3<(↑p0.length:Int)))
  (bd (WU p0 p1 v3 6) fun x4=>
  br x4
   (jn (SM L1 v3) (w64 (v2+1)))
   (jn (SM L1 v3) v2))
  (jn (bV) v2)
noncomputable def kp(p0:(List Aq))(p1:(List A5)):Option Int:=
 Ap (SN p0 p1) big (0,0)
noncomputable def fm:GF:=ABg.gf rfl rfl (fun a=>kp a.1 a.2.1) (fun a=>by kernel_rfl)
noncomputable def ABh:YF:=⟨[],[.v (.l (.st 12)),.v .i],[],.ret [.b],[.tmp 4],
 sq [qB 4 false] [0,1] (.join [cv 4 .b] (qr [wn 5 [wm 1,wm 0,wZ,wB .lss 5,wM],
 wt 9 10 [wm 0,wm 1,wE (.st 12) 10,wO 0,wL,wI .eql 0],
 qn [qq 16 9 15,qa 4 16]] [4]) .ret)⟩
noncomputable def SO(v2:Bool):Option Bool:=
 some v2
noncomputable def rF(p0:(List A5))(p1:Int):Option Bool:=
 br (decide (p1<(↑p0.length:Int)))
  (bd (at? p0 p1) fun x1=>
  jn (SO) (x1.Code==0))
  (jn (SO) false)
noncomputable def fq:GF:=ABh.gf rfl rfl (fun a=>rF a.1 a.2.1) (fun a=>by kernel_rfl)
noncomputable def ABi:YF:=⟨[],[.v (.l (.st 0)),.v (.l (.st 12))],[],.ret [.i],[.tmp 4],
 sq [qK 4 0] [0,1] (sq [qK 5 0] (Kp 35) (.join [cv 5 .i] (sq [qK 6 0] (Kp 99) (bl 0 [cv 5 .i,cv 6 .i] (.seq (sw 7 [wM,wm 0,wZ,wB .lss 7] (Kp 1123) (ce 10 (Kp 99) [5] 0)) (.join [cv 5 .i] (.block 1 (.join [cv 23 .b] (qr [wn 13 [wm 0,wm 6,wE (.st 0) 13,wO 0,wL,wI .eql 6,wM],
 wt 19 20 [wm 1,wm 6,wc fq rfl [20,21]],
 qn [qq 23 19 22]] (Kp 8388707)) (.cond 23 [0,1,5,6] (Kp 99) (qr [wn 24 [wm 5,wI .add 1],
 qn [qa 5 25]] (Kp 99)) .skip))) (qr [wn 11 [wm 6,wI .add 1],
 qn [qa 6 12]] (Kp 99)))))) (sq [qm 26 5,qa 4 26] [4] .ret)))⟩
noncomputable def SQ(L1:(Int×Int)->Option Int)(v3:Int)(v7:Int):Option Int:=
 L1 ((v7,w64 (v3+1)))
noncomputable def SP(L1:(Int×Int)->Option Int)(v2:Int)(v3:Int)(v6:Bool):Option Int:=
 br v6
  (jn (SQ L1 v3) (w64 (v2+1)))
  (jn (SQ L1 v3) v2)
noncomputable def bW(v8:Int):Option Int:=
 some v8
noncomputable def SR(p0:(List Aq))(p1:(List A5))(L1:(Int×Int)->Option Int)(x_:(Int×Int)):Option Int:=
 match x_ with
 |(v2,v3)=>br (decide (v3<(↑p0.length:Int)))
  (bd (at? p0 v3) fun x4=>
  br (x4.Kind==6)
   (bd (rF p1 v3) fun x5=>
   jn (SP L1 v2 v3) x5)
   (jn (SP L1 v2 v3) false))
  (jn (bW) v2)
noncomputable def kq(p0:(List Aq))(p1:(List A5)):Option Int:=
 Ap (SR p0 p1) big (0,0)
noncomputable def ft:GF:=ABi.gf rfl rfl (fun a=>kq a.1 a.2.1) (fun a=>by kernel_rfl)
noncomputable def NL:YF:=⟨[],[.v (.l .u)],[],.ret [.b],[.tmp 2],
 sq [qB 2 false] [0] (.seq (sw 8 [wm 0,wY PO rfl] [0,9] (cn 9 [0] (sq [qB 2 true] [2] .ret))) (sr [wn 11 [wm 0,wY PQ rfl],
 qn [qm 10 12],
 wn 13 [wh (.ext · (.tmp 10) 0),wh (.ext · (.tmp 10) 1)],
 qn [.alloc 3 Ae,.A6 [(.cell 3 0,.i),(.cell 3 11,(.st 2)),(.cell 3 12,(.st 7)),(.cell 3 13,.i),(.cell 3 14,.i)],qw 15 3 13,qa 4 14]] [3,4] (sr [wn 16 [wk 15 3,wm 4,wc PR rfl [16,17]],
 qn [qm 15 18],
 wn 19 [wh (.ext · (.tmp 15) 0),wh (.ext · (.tmp 15) 1)],
 qn [.alloc 5 Ae,.A6 [(.cell 5 0,.i),(.cell 5 11,(.st 2)),(.cell 5 12,(.st 7)),(.cell 5 13,.i),(.cell 5 14,.i)],qw 15 5 19,qa 6 20]] (Kp 120) (sr [wn 21 [wm 4,wm 6,wc fm rfl [21,22]],
 qn [qa 7 23]] (Kp 248) (.seq (sw 24 [wm 7,wm 4,wm 6,wc ft rfl [25,26],wB .neq 24] (Kp 268435640) (cn 28 (Kp 184) (sq [qB 2 false] [2] .ret))) (.join [cv 2 .b] (qr [wn 29 [wo 9 5,wL,wo 9 3,wL,wm 7,wB .add 32,wB .eql 30,wM],
 wt 36 37 [wm 7,wm 4,wZ,wB .leq 37],
 qn [qq 41 36 40,qa 2 41]] [2]) .ret))))))⟩
noncomputable def D1(v6:Bool):Option Bool:=
 some v6
noncomputable def Dh(p0:(List UInt8)):Option Bool:=
 bd (kB p0) fun x1=>
 br x1
  (some true)
  (bd (bS p0) fun x2=>
  bd (bT x2.fst x2.snd) fun x3=>
  bd (kp x2.snd x3.snd) fun x4=>
  bd (kq x2.snd x3.snd) fun x5=>
  br (x4 != x5)
   (some false)
   (br (x3.fst.Now==w64 (x2.fst.Now+x4))
    (jn (D1) (decide (x4<=(↑(List.length x2.snd):Int))))
    (jn (D1) false)))
noncomputable def DO:GF:=NL.gf rfl rfl (fun a=>Dh a.1) (fun a=>by kernel_rfl)
noncomputable def ABj:YF:=⟨[],[.v (.l (.st 12)),.v .i],[],.ret [.i],[.tmp 4],
 sq [qK 4 0] [0,1] (sq [qK 5 0] (Kp 35) (.join [cv 5 .i] (sw 10 [wm 0,wZ,wj 0] (Kp 7202) (bl 0 [cv 5 .i,cv 12 .i] (sq [qb 13 .lss 12 11] (Kp 15394) (.seq (ce 13 (Kp 7202) [5] 0) (.join [cv 5 .i] (.block 1 (sr [wn 14 [we (.st 12) 10 12,wK 2],
 qn [.alloc 7 [.int .i64 0,.nil],.A6 [(.cell 7 1,.i)],qw 2 7 15]] (Kp 7330) (sw 16 [wo 1 7,wL,wZ,wj 0] (Kp 924706) (bl 2 [cv 5 .i,cv 19 .i] (sq [qb 20 .lss 19 18] (Kp 1973282) (.seq (ce 20 [1,5,10,11,12,17,18,19] (Kp 7202) 2) (.join [cv 5 .i] (.block 3 (sr [wn 21 [we .i 17 19,wL],
 qn [qa 9 22]] (Kp 925218) (sw 23 [wm 9,wm 1,wB .eql 23] (Kp 34479138) (.cond 25 [1,5,10,11,12,17,18,19] (Kp 924706) (qr [wn 26 [wm 5,wI .add 1],
 qn [qa 5 27]] (Kp 924706)) .skip)))) (q1 [qi 28 .add 19 1,qm 19 28] (Kp 924706))))))))) (q1 [qi 29 .add 12 1,qm 12 29] (Kp 7202))))))) (sq [qm 30 5,qa 4 30] [4] .ret)))⟩
noncomputable def SS(L5:(Int×Int)->Option Int)(v7:Int)(v9:Int):Option Int:=
 L5 ((v9,w64 (v7+1)))
noncomputable def bY(L1:(Int×Int)->Option Int)(v3:Int)(v10:Int):Option Int:=
 L1 ((v10,w64 (v3+1)))
noncomputable def N0(p1:Int)(L1:(Int×Int)->Option Int)(v3:Int)(x4:A5)(L5:(Int×Int)->Option Int)(x_:(Int×Int)):Option Int:=
 match x_ with
 |(v6,v7)=>br (decide (v7<(↑x4.Ids.length:Int)))
  (bd (at? x4.Ids v7) fun x8=>
  br (x8==p1)
   (jn (SS L5 v7) (w64 (v6+1)))
   (jn (SS L5 v7) v6))
  (jn (bY L1 v3) v6)
noncomputable def bZ(v11:Int):Option Int:=
 some v11
noncomputable def SU(p0:(List A5))(p1:Int)(L1:(Int×Int)->Option Int)(x_:(Int×Int)):Option Int:=
 match x_ with
 |(v2,v3)=>br (decide (v3<(↑p0.length:Int)))
  (bd (at? p0 v3) fun x4=>
  Ap (N0 p1 L1 v3 x4) big (v2,0))
  (jn (bZ) v2)
noncomputable def bX(p0:(List A5))(p1:Int):Option Int:=
 Ap (SU p0 p1) big (0,0)
noncomputable def Tc:GF:=ABj.gf rfl rfl (fun a=>bX a.1 a.2.1) (fun a=>by kernel_rfl)
noncomputable def ABk:YF:=⟨[],[.v (.l (.st 0)),.v (.l (.st 12)),.v .i,.v .i],[],.ret [(.st 0),.b],[.cell 8 (some 6),.tmp 9],
 sq [.alloc 8 B3,qB 9 false] (Kp 271) (.join [] (sr [wn 11 [wm 3,wh (.mm · true (.tmp 11) (.k (.int .i64 0))),wm 0,wZ,wh (.mm · false (.tmp 12) (.tmp 14)),wI .sub 1],
 qn [qa 10 16]] (Kp 1287) (bl 0 [cv 10 .i] (.seq (sw 17 [wm 10,wI .geq 0] (Kp 263431) (ce 18 (Kp 1287) [8] 0)) (.seq (.block 1 (.join [cv 33 .b] (qr [wn 21 [wm 0,wm 10,wE (.st 0) 21,wO 1,wL,wm 2,wB .eql 25,wM],
 wt 28 29 [wm 0,wm 1,wm 10,wc PS rfl [29,30,31,qj 1]],
 qn [qq 33 28 32]] (Kp 8589935879)) (.cond 33 [0,8,10] (Kp 1287) (sr [wn 34 [wm 0,wm 10,wE (.st 0) 34,wK 6],
 qn [qw 6 8 37,qB 9 true]] [8,9] .ret) .skip))) (qr [wn 19 [wm 10,wI .sub 1],
 qn [qa 10 20]] (Kp 1287)))))) (sq [.build 38 B3 [],qw 6 8 38,qB 9 false] [8,9] .ret))⟩
noncomputable def N1(p0:(List Aq))(L1:Int->Option (Aq×Bool))(v2:Int)(v5:Bool):Option (Aq×Bool):=
 br v5
  (bd (at? p0 v2) fun x6=>
  some (x6,true))
  (L1 (w64 (v2-1)))
noncomputable def ba(_:PUnit):Option (Aq×Bool):=
 some (Aq.mk 0 0 0 0 0 0,false)
noncomputable def IL(p0:(List Aq))(p1:(List A5))(p2:Int)(L1:Int->Option (Aq×Bool))(v2:Int):Option (Aq×Bool):=
 br (decide (v2>=0))
  (bd (at? p0 v2) fun x3=>
  br (x3.Id==p2)
   (bd (WU p0 p1 v2 1) fun x4=>
   jn (N1 p0 L1 v2) x4)
   (jn (N1 p0 L1 v2) false))
  (jn (ba) ())
noncomputable def kr(p0:(List Aq))(p1:(List A5))(p2:Int)(p3:Int):Option (Aq×Bool):=
 Ap (IL p0 p1 p2) big (w64 ((if false=true then if (↑p0.length:Int)>if true=true then if 0>p3 then 0 else p3 else if 0<p3 then 0 else p3 then (↑p0.length:Int) else if true=true then if 0>p3 then 0 else p3 else if 0<p3 then 0 else p3 else if (↑p0.length:Int)<if true=true then if 0>p3 then 0 else p3 else if 0<p3 then 0 else p3 then (↑p0.length:Int) else if true=true then if 0>p3 then 0 else p3 else if 0<p3 then 0 else p3)-1))
noncomputable def fu:GF:=ABk.gf rfl rfl (fun a=>kr a.1 a.2.1 a.2.2.1 a.2.2.2.1) (fun a=>by kernel_rfl)
noncomputable def ABl:YF:=⟨[],[.v (.l (.st 12)),.v .i],[],.ret [.i],[.tmp 4],
 sq [qK 4 0] [0,1] (sq [qK 5 0] (Kp 35) (.join [cv 5 .i] (sq [qK 6 0] (Kp 99) (bl 0 [cv 5 .i,cv 6 .i] (.seq (sw 8 [wm 6,wm 0,wZ,wB .lss 8] (Kp 2147) (ce 11 (Kp 99) [5] 0)) (.join [cv 5 .i] (.block 1 (sq [qK 7 0] (Kp 227) (bl 2 [cv 5 .i,cv 7 .i] (.seq (sw 14 [wm 7,wm 0,wm 6,wE (.st 12) 15,wO 1,wL,wZ,wB .lss 14] (Kp 2097379) (ce 21 [0,1,5,6,7] (Kp 99) 2)) (.join [cv 5 .i] (.block 3 (sw 24 [wm 0,wm 6,wE (.st 12) 24,wO 1,wL,wm 7,wE .i 28,wL,wm 1,wB .eql 31] (Kp 8589934819) (.cond 33 [0,1,5,6,7] (Kp 227) (qr [wn 34 [wm 5,wI .add 1],
 qn [qa 5 35]] (Kp 227)) .skip))) (qr [wn 22 [wm 7,wI .add 1],
 qn [qa 7 23]] (Kp 227))))))) (qr [wn 12 [wm 6,wI .add 1],
 qn [qa 6 13]] (Kp 99)))))) (sq [qm 36 5,qa 4 36] [4] .ret)))⟩
noncomputable def SV(L4:(Int×Int)->Option Int)(v6:Int)(v10:Int):Option Int:=
 L4 ((v10,w64 (v6+1)))
noncomputable def bc(L1:(Int×Int)->Option Int)(v3:Int)(v11:Int):Option Int:=
 L1 ((v11,w64 (v3+1)))
noncomputable def N2(p0:(List A5))(p1:Int)(L1:(Int×Int)->Option Int)(v3:Int)(L4:(Int×Int)->Option Int)(x_:(Int×Int)):Option Int:=
 match x_ with
 |(v5,v6)=>bd (at? p0 v3) fun x7=>
 br (decide (v6<(↑x7.Ids.length:Int)))
  (bd (at? p0 v3) fun x8=>
  bd (at? x8.Ids v6) fun x9=>
  br (x9==p1)
   (jn (SV L4 v6) (w64 (v5+1)))
   (jn (SV L4 v6) v5))
  (jn (bc L1 v3) v5)
noncomputable def bf(v12:Int):Option Int:=
 some v12
noncomputable def SW(p0:(List A5))(p1:Int)(L1:(Int×Int)->Option Int)(x_:(Int×Int)):Option Int:=
 match x_ with
 |(v2,v3)=>br (decide (v3<(↑p0.length:Int)))
  (Ap (N2 p0 p1 L1 v3) big (v2,0))
  (jn (bf) v2)
noncomputable def ku(p0:(List A5))(p1:Int):Option Int:=
 Ap (SW p0 p1) big (0,0)
noncomputable def fv:GF:=ABl.gf rfl rfl (fun a=>ku a.1 a.2.1) (fun a=>by kernel_rfl)
noncomputable def MM:YF:=⟨[],[.v (.l .u)],[],.ret [.b],[.tmp 2],
 sq [qB 2 false] [0] (.seq (sw 13 [wm 0,wY PO rfl] [0,14] (cn 14 [0] (sq [qB 2 true] [2] .ret))) (sr [wn 16 [wm 0,wY PQ rfl],
 qn [qm 15 17],
 wn 18 [wh (.ext · (.tmp 15) 0),wh (.ext · (.tmp 15) 1)],
 qn [.alloc 3 Ae,.A6 [(.cell 3 0,.i),(.cell 3 11,(.st 2)),(.cell 3 12,(.st 7)),(.cell 3 13,.i),(.cell 3 14,.i)],qw 15 3 18,qa 4 19]] [3,4] (.seq (sw 20 [wk 15 3,wY MT rfl,wX] [3,4,22] (cn 22 [3,4] (sr [wn 23 [wc Tc rfl [(.k (.sl (.st 12) [])),qj 1],wI .eql 0],
 qn [qa 2 24]] [2] .ret))) (sr [wn 26 [wk 15 3,wm 4,wc PR rfl [26,27]],
 qn [qm 25 28],
 wn 29 [wh (.ext · (.tmp 25) 0),wh (.ext · (.tmp 25) 1)],
 qn [.alloc 5 Ae,.A6 [(.cell 5 0,.i),(.cell 5 11,(.st 2)),(.cell 5 12,(.st 7)),(.cell 5 13,.i),(.cell 5 14,.i)],qw 15 5 29,qa 6 30]] (Kp 88) (.join [] (sq [qK 7 1] (Kp 216) (bl 0 [cv 7 .i] (.seq (sw 31 [wm 7,wI .lss 16] (Kp 4294967512) (ce 32 (Kp 216) [] 0)) (.join [] (.block 1 (sr [wn 35 [wo 0 3,wO 7,wL],
 qn [qa 8 37]] (Kp 472) (.join [cv 8 .i] (sq [qK 9 0] (Kp 984) (bl 2 [cv 8 .i,cv 9 .i] (.seq (sw 38 [wm 9,wm 4,wZ,wB .lss 38] (Kp 2199023256536) (ce 41 [3,4,6,7,8,9] (Kp 472) 2)) (.join [cv 8 .i] (.block 3 (sr [wn 45 [wm 4,wm 6,wm 7,wm 9,wI .add 1,wc fu rfl [45,46,47,49]],
 qn [qm 44 50],
 wn 51 [wh (.ext · (.tmp 44) 0),wh (.ext · (.tmp 44) 1)],
 qn [.alloc 10 B3,qw 6 10 51,qa 11 52]] (Kp 4056) (.join [cv 78 .b] (qr [wn 53 [wm 11,wM],
 wt 54 55 [wm 4,wm 9,wE (.st 0) 55,wO 0,wL,wI .eql 1],
 wn 61 [wQ 54,wM],
 wt 62 63 [wm 4,wm 9,wE (.st 0) 63,wO 1,wL,wm 7,wB .eql 67],
 wn 70 [wQ 62,wM],
 wt 71 72 [wm 6,wm 9,wE (.st 12) 72,wO 0,wL,wI .eql 0],
 qn [qq 78 71 77]] [3,4,6,7,8,9,10,78]) (.cond 78 [3,4,6,7,8,9,10] (Kp 984) (.seq (.seq (.BW (qd 0 [wn 79 [wk 6 10,wm 4,wm 9,wE (.st 0) 80,wK 6,wh (.bin · (.agg [.i,.i,.i,.i,.i,.i]) .neq (.tmp 79) (.tmp 83))]] .nil) [3,4,6,7,8,9,84]) (cn 84 (Kp 984) (sq [qB 2 false] [2] .ret))) (qr [wn 85 [wm 8,wo 0 3,wO 7,wL,wB .add 85],
 qn [qa 8 89]] (Kp 984))) .skip)))) (qr [wn 42 [wm 9,wI .add 1],
 qn [qa 9 43]] (Kp 984)))))) (sr [wn 90 [wm 6,wm 7,wc Tc rfl [90,91]],
 qn [qa 12 92]] (Kp 4568) (.join [cv 102 .b] (qr [wn 93 [wm 12,wm 8,wB .gtr 93,wM],
 wf 96 97 [wm 12,wm 6,wm 7,wc fv rfl [98,99],wB .neq 97],
 qn [qp 102 96 101]] [3,4,6,7,102]) (cn 102 (Kp 216) (sq [qB 2 false] [2] .ret))))))) (qr [wn 33 [wm 7,wI .add 1],
 qn [qa 7 34]] (Kp 216)))))) (sq [qB 2 true] [2] .ret))))))⟩
noncomputable def De(L8:(Int×Int)->Option Bool)(v10:Int)(v21:Int):Option Bool:=
 L8 ((v21,w64 (v10+1)))
noncomputable def B7(x2:(AA×(List Aq)))(L8:(Int×Int)->Option Bool)(v9:Int)(v10:Int)(x11:(Aq×Bool))(v18:Bool):Option Bool:=
 br v18
  (bd (at? x2.snd v10) fun x19=>
  bd (at? x2.snd v10) fun x20=>
  br (!(x11.fst.Kind==x20.Kind&&(x11.fst.Id==x20.Id&&(x11.fst.AK==x20.AK&&(x11.fst.Ay==x20.Ay&&(x11.fst.AY==x20.AY&&(x11.fst.Bb==x20.Bb&&true)))))))
   (some false)
   (jn (De L8 v10) (w64 (v9+x2.fst.AG.BF))))
  (jn (De L8 v10) v9)
noncomputable def E1(L6:Int->Option Bool)(v7:Int)(_:PUnit):Option Bool:=
 L6 (w64 (v7+1))
noncomputable def Df(L6:Int->Option Bool)(v7:Int)(v24:Bool):Option Bool:=
 br v24
  (some false)
  (jn (E1 L6 v7) ())
noncomputable def E0(x5:(AA×(List A5)))(L6:Int->Option Bool)(v7:Int)(v22:Int):Option Bool:=
 bd (bX x5.snd v7) fun x23=>
 br (decide (x23>v22))
  (jn (Df L6 v7) true)
  (bd (ku x5.snd v7) fun x25=>
  jn (Df L6 v7) (x23 != x25))
noncomputable def Cg(x2:(AA×(List Aq)))(x5:(AA×(List A5)))(L6:Int->Option Bool)(v7:Int)(L8:(Int×Int)->Option Bool)(x_:(Int×Int)):Option Bool:=
 match x_ with
 |(v9,v10)=>br (decide (v10<(↑(List.length x2.snd):Int)))
  (bd (kr x2.snd x5.snd v7 (w64 (v10+1))) fun x11=>
  br x11.snd
   (bd (at? x2.snd v10) fun x12=>
   bd (at? x2.snd v10) fun x13=>
   br (x13.Kind==1)
    (bd (at? x2.snd v10) fun x14=>
    bd (at? x2.snd v10) fun x15=>
    br (x15.Id==v7)
     (bd (at? x5.snd v10) fun x16=>
     bd (at? x5.snd v10) fun x17=>
     jn (B7 x2 L8 v9 v10 x11) (x17.Code==0))
     (jn (B7 x2 L8 v9 v10 x11) false))
    (jn (B7 x2 L8 v9 v10 x11) false))
   (jn (B7 x2 L8 v9 v10 x11) false))
  (jn (E0 x5 L6 v7) v9)
noncomputable def I2(_:PUnit):Option Bool:=
 some true
noncomputable def Dg(x2:(AA×(List Aq)))(x5:(AA×(List A5)))(L6:Int->Option Bool)(v7:Int):Option Bool:=
 br (decide (v7<16))
  (Ap (Cg x2 x5 L6 v7) big (x2.fst.AG.BF,0))
  (jn (I2) ())
noncomputable def DM(p0:(List UInt8)):Option Bool:=
 bd (kB p0) fun x1=>
 br x1
  (some true)
  (bd (bS p0) fun x2=>
  bd (my x2.fst) fun x3=>
  br (!x3)
   (bd (bX [] 1) fun x4=>
   some (x4==0))
   (bd (bT x2.fst x2.snd) fun x5=>
   Ap (Dg x2 x5) big 1))
noncomputable def C2:GF:=MM.gf rfl rfl (fun a=>DM a.1) (fun a=>by kernel_rfl)
end Lv
