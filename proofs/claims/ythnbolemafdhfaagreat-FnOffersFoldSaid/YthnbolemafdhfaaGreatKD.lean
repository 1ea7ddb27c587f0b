/-
  Printed: functions of the program as texts of the typed machine, as plain functions, and that the one is the other.
-/
import Derived.Test.YthnbolemafdhfaaGreatKC
import Derived.KernelRfl
set_option linter.unusedVariables false
set_option linter.unusedSimpArgs false
set_option linter.unusedSectionVars false
set_option maxRecDepth 100000
namespace Lv
open Go (IntKind BinOp UnOp)
open Y (YF qn qf qt qr q1 qd qm qa qo ql qL qb qi qx qp qq qc qz qe qk qK qB qw qu qj Kp wn wf wt w1 sw sq sr wm wM wo wO wl wL wk wK wz wZ wx wX wb wB wi wI wr wR wq wQ we wE wc wY wj wh cv ca cx cn ce bl)
instance zy (i j n:Nat) (hs:List (Nat×Nat)):Decidable (Y.JF i j n hs):=Y.Q7 i j n hs
noncomputable def AAr:YF:=⟨[],[.b (.st 17),.v (.st 1),.v .i],[],.ret [(.st 2)],[.cell 6 (some 10)],
 sq [qu 4 1,.alloc 6 BS] (Kp 85) (sq [.build 9 BS [(0,1,(.k (.int .i64 3))),(2,1,(.k (.int .i64 (-1)))),(3,1,(.k (.int .i64 1))),(6,1,(.k (.int .i64 1))),(7,1,(.k (.int .i64 1)))],.alloc 7 BS,qw 10 7 9] (Kp 213) (.join [(true,0,.one,[.val (.st 17) (some (.old 0))]),cx 7 (.st 2)] (sw 10 [wk 9 4,wY Hd rfl] (Kp 2261) (.cond 11 [0,2,4,6,7] (Kp 193) (qr [wn 12 [wm 0,wk 9 4,wm 2,wc Kb rfl [12,13,14]],
 qn [qw 10 7 15]] (Kp 193)) .skip)) (sr [wn 16 [wm 0,wh (.AR · 9 .i [(0,(.k (.int .i64 (-1)))),(1,(.k (.int .i64 0))),(2,(.k (.int .i64 2))),(3,(.k (.int .i64 5))),(4,(.k (.int .i64 7))),(5,(.k (.int .i64 1000000))),(6,(.k (.int .i64 1000001))),(7,(.k (.int .i64 9223372036854775807))),(8,(.k (.int .i64 (-9223372036854775808))))]),wc B9 rfl [16,17]],
 qn [qa 8 18]] (Kp 449) (.join [(true,0,.one,[.val (.st 17) (some (.old 0))]),cx 7 (.st 2)] (sw 19 [wm 0,wc AJ rfl [19,qj 24]] (Kp 1049025) (.block 0 (sq [qi 22 .eql 20 0,qa 21 22] (Kp 3146177) (.cond 21 [0,6,7] (Kp 1049025) (qr [wn 23 [wm 0,wh (.AR · 4 .i [(0,(.k (.int .i64 0))),(1,(.k (.int .i64 999))),(2,(.k (.int .i64 1000))),(3,(.k (.int .i64 (-1))))]),wc B9 rfl [23,24],wo 0 7],
 qn [qw 1 26 25]] (Kp 193)) (sq [qi 28 .eql 20 1,qa 27 28] (Kp 135266753) (.cond 27 [0,6,7,8] (Kp 1049025) (qr [wn 29 [wm 8,wo 1 7],
 qn [qw 1 30 29]] (Kp 193)) (sq [qi 32 .eql 20 2,qa 31 32] (Kp 2148532673) (.cond 31 [0,6,7,8] (Kp 1049025) (qr [wn 33 [wm 8,wo 2 7],
 qn [qw 1 34 33]] (Kp 193)) (sq [qi 36 .eql 20 3,qa 35 36] (Kp 34360787393) (.cond 35 [0,6,7,8] (Kp 1049025) (qr [wn 37 [wm 8,wo 3 7],
 qn [qw 1 38 37]] (Kp 193)) (sq [qi 40 .eql 20 4,qa 39 40] (Kp 549756862913) (.cond 39 [0,6,7,8] (Kp 1049025) (qr [wn 41 [wm 8,wo 4 7],
 qn [qw 1 42 41]] (Kp 193)) (sq [qi 44 .eql 20 5,qa 43 44] (Kp 8796094071233) (.cond 43 [0,6,7,8] (Kp 1049025) (qr [wn 45 [wm 8,wo 5 7],
 qn [qw 1 46 45]] (Kp 193)) (sq [qi 48 .eql 20 6,qa 47 48] [0,6,7,8,20,47] (.cond 47 [0,6,7,8] (Kp 1049025) (qr [wn 49 [wm 8,wo 6 7],
 qn [qw 1 50 49]] (Kp 193)) (sq [qi 52 .eql 20 7,qa 51 52] [0,6,7,8,20,51] (.cond 51 [0,6,7,8] (Kp 1049025) (qr [wn 53 [wm 8,wo 7 7],
 qn [qw 1 54 53]] (Kp 193)) (sq [qi 56 .eql 20 8,qa 55 56] [0,6,7,8,20,55] (.cond 55 [0,6,7,8] (Kp 1049025) (qr [wn 57 [wm 8,wo 8 7],
 qn [qw 1 58 57]] (Kp 193)) (sq [qi 60 .eql 20 9,qa 59 60] [0,6,7,8,59] (.cond 59 [0,6,7,8] (Kp 193) (qr [wn 61 [wm 8,wo 9 7],
 qn [qw 1 62 61]] (Kp 193)) .skip)))))))))))))))))))))) (sq [qL 63 10 7,qw 10 6 63] [0,6] .ret)))))⟩
noncomputable def Dq(x_:(AI×AH)):Option (AH×AI):=
 match x_ with
 |(v8,v9)=>some (v9,v8)
noncomputable def Nm(x_:(AI×AH)):Option (AH×AI):=
 match x_ with
 |(v3,v4)=>bd (Jq v3 ([-1,0,2,5,7,1000000,1000001,9223372036854775807,-9223372036854775808])) fun x5=>
 bd (Ao x5.snd 24) fun x6=>
 br (x6.fst==0)
  (bd (Jq x6.snd ([0,999,1000,-1])) fun x7=>
  jn (Dq) (x7.snd,AH.mk x7.fst v4.AK v4.Ay v4.AY v4.Bb v4.Since v4.AQ v4.State v4.Bh v4.Ba))
  (br (x6.fst==1)
   (jn (Dq) (x6.snd,AH.mk v4.Id x5.fst v4.Ay v4.AY v4.Bb v4.Since v4.AQ v4.State v4.Bh v4.Ba))
   (br (x6.fst==2)
    (jn (Dq) (x6.snd,AH.mk v4.Id v4.AK x5.fst v4.AY v4.Bb v4.Since v4.AQ v4.State v4.Bh v4.Ba))
    (br (x6.fst==3)
     (jn (Dq) (x6.snd,AH.mk v4.Id v4.AK v4.Ay x5.fst v4.Bb v4.Since v4.AQ v4.State v4.Bh v4.Ba))
     (br (x6.fst==4)
      (jn (Dq) (x6.snd,AH.mk v4.Id v4.AK v4.Ay v4.AY x5.fst v4.Since v4.AQ v4.State v4.Bh v4.Ba))
      (br (x6.fst==5)
       (jn (Dq) (x6.snd,AH.mk v4.Id v4.AK v4.Ay v4.AY v4.Bb x5.fst v4.AQ v4.State v4.Bh v4.Ba))
       (br (x6.fst==6)
        (jn (Dq) (x6.snd,AH.mk v4.Id v4.AK v4.Ay v4.AY v4.Bb v4.Since x5.fst v4.State v4.Bh v4.Ba))
        (br (x6.fst==7)
         (jn (Dq) (x6.snd,AH.mk v4.Id v4.AK v4.Ay v4.AY v4.Bb v4.Since v4.AQ x5.fst v4.Bh v4.Ba))
         (br (x6.fst==8)
          (jn (Dq) (x6.snd,AH.mk v4.Id v4.AK v4.Ay v4.AY v4.Bb v4.Since v4.AQ v4.State x5.fst v4.Ba))
          (br (x6.fst==9)
           (jn (Dq) (x6.snd,AH.mk v4.Id v4.AK v4.Ay v4.AY v4.Bb v4.Since v4.AQ v4.State v4.Bh x5.fst))
           (jn (Dq) (x6.snd,v4)))))))))))
noncomputable def kF(p0:AI)(p1:AN)(p2:Int):Option (AH×AI):=
 bd (fc p1) fun x1=>
 br x1
  (bd (ar p0 p1 p2) fun x2=>
  jn (Nm) (x2.snd,x2.fst))
  (jn (Nm) ((p0,AH.mk 3 0 (-1) 1 0 0 1 1 0 0)))
noncomputable def S4:GF:=AAr.gf rfl rfl (fun a=>kF a.1 a.2.1 a.2.2.1) (fun a=>by kernel_rfl)
noncomputable def AAs:YF:=⟨[],[.b (.st 17)],[],.ret [(.st 3)],[.cell 2 (some 5)],
 sq [.alloc 2 By] [0,2] (sr [wn 4 [wm 0,wc AJ rfl [4,qj 6],wm 0,wc AJ rfl [6,qj 6],wm 0,wc AJ rfl [8,qj 8],wh (.build · By [(1,1,(.tmp 5)),(2,1,(.tmp 7)),(3,1,(.tmp 9))])],
 qn [.alloc 3 By,qw 5 3 10]] (Kp 13) (sr [wn 11 [wo 1 3,wL,wo 2 3,wL,wB .add 12,wo 3 3,wL,wB .add 15,wo 0 3],
 qn [qw 1 19 18]] (Kp 13) (sr [wn 20 [wm 0,wo 3 3,wL,wI .add 1,wc AJ rfl [20,23],wo 4 3],
 qn [qw 1 25 24]] (Kp 13) (sq [qL 26 5 3,qw 5 2 26] [0,2] .ret))))⟩
noncomputable def bD(p0:AI):Option (Am×AI):=
 bd (Ao p0 6) fun x1=>
 bd (Ao x1.snd 6) fun x2=>
 bd (Ao x2.snd 8) fun x3=>
 bd (Ao x3.snd (w64 (x3.fst+1))) fun x4=>
 some ((Am.mk (w64 (w64 (x1.fst+x2.fst)+x3.fst)) x1.fst x2.fst x3.fst x4.fst,x4.snd))
noncomputable def Kf:GF:=AAs.gf rfl rfl (fun a=>bD a.1) (fun a=>by kernel_rfl)
noncomputable def AAt:YF:=⟨[],[.b (.st 17)],[],.ret [(.st 3)],[.cell 2 (some 5)],
 sq [.alloc 2 By] [0,2] (sr [wn 5 [wm 0,wY Kf rfl],
 qn [.alloc 3 By,qw 5 3 6]] (Kp 13) (sr [wn 7 [wm 0,wh (.AR · 6 .i [(0,(.k (.int .i64 (-1)))),(1,(.k (.int .i64 0))),(2,(.k (.int .i64 60))),(3,(.k (.int .i64 61))),(4,(.k (.int .i64 9223372036854775807))),(5,(.k (.int .i64 (-9223372036854775808))))]),wc B9 rfl [7,8]],
 qn [qa 4 9]] (Kp 29) (.join [(true,0,.one,[.val (.st 17) (some (.old 0))]),cx 3 (.st 3)] (sw 10 [wm 0,wc AJ rfl [10,qj 16]] (Kp 2077) (.block 0 (sq [qi 13 .eql 11 0,qa 12 13] (Kp 6173) (.cond 12 [0,2,3,4] (Kp 2077) (qr [wn 14 [wm 4,wo 0 3],
 qn [qw 1 15 14]] (Kp 13)) (sq [qi 17 .eql 11 1,qa 16 17] (Kp 67613) (.cond 16 [0,2,3,4] (Kp 2077) (qr [wn 18 [wm 4,wo 1 3],
 qn [qw 1 19 18]] (Kp 13)) (sq [qi 21 .eql 11 2,qa 20 21] (Kp 1050653) (.cond 20 [0,2,3,4] (Kp 2077) (qr [wn 22 [wm 4,wo 2 3],
 qn [qw 1 23 22]] (Kp 13)) (sq [qi 25 .eql 11 3,qa 24 25] (Kp 16779293) (.cond 24 [0,2,3,4] (Kp 2077) (qr [wn 26 [wm 4,wo 3 3],
 qn [qw 1 27 26]] (Kp 13)) (sq [qi 29 .eql 11 4,qa 28 29] (Kp 268435485) (.cond 28 [0,2,3,4] (Kp 13) (qr [wn 30 [wm 4,wo 4 3],
 qn [qw 1 31 30]] (Kp 13)) .skip)))))))))))) (sq [qL 32 5 3,qw 5 2 32] [0,2] .ret))))⟩
noncomputable def Gv(x_:(AI×Am)):Option (Am×AI):=
 match x_ with
 |(v4,v5)=>some (v5,v4)
noncomputable def kG(p0:AI):Option (Am×AI):=
 bd (bD p0) fun x1=>
 bd (Jq x1.snd ([-1,0,60,61,9223372036854775807,-9223372036854775808])) fun x2=>
 bd (Ao x2.snd 16) fun x3=>
 br (x3.fst==0)
  (jn (Gv) (x3.snd,Am.mk x2.fst x1.fst.Co x1.fst.Cp x1.fst.Dz x1.fst.EB))
  (br (x3.fst==1)
   (jn (Gv) (x3.snd,Am.mk x1.fst.Total x2.fst x1.fst.Cp x1.fst.Dz x1.fst.EB))
   (br (x3.fst==2)
    (jn (Gv) (x3.snd,Am.mk x1.fst.Total x1.fst.Co x2.fst x1.fst.Dz x1.fst.EB))
    (br (x3.fst==3)
     (jn (Gv) (x3.snd,Am.mk x1.fst.Total x1.fst.Co x1.fst.Cp x2.fst x1.fst.EB))
     (br (x3.fst==4)
      (jn (Gv) (x3.snd,Am.mk x1.fst.Total x1.fst.Co x1.fst.Cp x1.fst.Dz x2.fst))
      (jn (Gv) (x3.snd,x1.fst))))))
noncomputable def S5:GF:=AAt.gf rfl rfl (fun a=>kG a.1) (fun a=>by kernel_rfl)
noncomputable def AAK:YF:=⟨[],[.b (.st 17)],[],.ret [(.st 4)],[.cell 2 (some 4)],
 sq [.alloc 2 Eh] [0,2] (sr [wn 5 [wm 0,wc AJ rfl [5,qj 4],wm 0,wc AJ rfl [7,qj 20],wh (.bin · .num .add (.k (.int .i64 1)) (.tmp 8)),wm 0,wc AJ rfl [10,qj 12],wh (.bin · .num .add (.k (.int .i64 1)) (.tmp 11)),wm 0,wc AJ rfl [13,qj 6],wh (.bin · .num .add (.k (.int .i64 1)) (.tmp 14)),wh (.build · Eh [(0,1,(.tmp 6)),(1,1,(.tmp 9)),(2,1,(.tmp 12)),(3,1,(.tmp 15))])],
 qn [.alloc 3 Eh,qw 4 3 16]] (Kp 13) (sr [wn 17 [wm 0,wh (.AR · 8 .i [(0,(.k (.int .i64 (-1)))),(1,(.k (.int .i64 0))),(2,(.k (.int .i64 5))),(3,(.k (.int .i64 7))),(4,(.k (.int .i64 1000))),(5,(.k (.int .i64 1000001))),(6,(.k (.int .i64 9223372036854775807))),(7,(.k (.int .i64 (-9223372036854775808))))]),wc B9 rfl [17,18]],
 qn [qa 4 19]] (Kp 29) (.join [(true,0,.one,[.val (.st 17) (some (.old 0))]),cx 3 (.st 4)] (sw 20 [wm 0,wc AJ rfl [20,qj 30]] (Kp 2097181) (.block 0 (sq [qi 23 .eql 21 0,qa 22 23] (Kp 6291485) (.cond 22 [0,2,3,4] (Kp 2097181) (qr [wn 24 [wm 4,wo 0 3],
 qn [qw 1 25 24]] (Kp 13)) (sq [qi 27 .eql 21 1,qa 26 27] (Kp 69206045) (.cond 26 [0,2,3,4] (Kp 2097181) (qr [wn 28 [wm 4,wo 1 3],
 qn [qw 1 29 28]] (Kp 13)) (sq [qi 31 .eql 21 2,qa 30 31] (Kp 1075839005) (.cond 30 [0,2,3,4] (Kp 2097181) (qr [wn 32 [wm 4,wo 2 3],
 qn [qw 1 33 32]] (Kp 13)) (sq [qi 35 .eql 21 3,qa 34 35] [0,2,3,4,34] (.cond 34 [0,2,3,4] (Kp 13) (qr [wn 36 [wm 4,wo 3 3],
 qn [qw 1 37 36]] (Kp 13)) .skip)))))))))) (sq [qL 38 4 3,qw 4 2 38] [0,2] .ret))))⟩
noncomputable def IG(x_:(AI×AT)):Option (AT×AI):=
 match x_ with
 |(v7,v8)=>some (v8,v7)
noncomputable def aO(p0:AI):Option (AT×AI):=
 bd (Ao p0 4) fun x1=>
 bd (Ao x1.snd 20) fun x2=>
 bd (Ao x2.snd 12) fun x3=>
 bd (Ao x3.snd 6) fun x4=>
 bd (Jq x4.snd ([-1,0,5,7,1000,1000001,9223372036854775807,-9223372036854775808])) fun x5=>
 bd (Ao x5.snd 30) fun x6=>
 br (x6.fst==0)
  (jn (IG) ((x6.snd,AT.mk x5.fst (w64 (1+x2.fst)) (w64 (1+x3.fst)) (w64 (1+x4.fst)))))
  (br (x6.fst==1)
   (jn (IG) ((x6.snd,AT.mk x1.fst x5.fst (w64 (1+x3.fst)) (w64 (1+x4.fst)))))
   (br (x6.fst==2)
    (jn (IG) ((x6.snd,AT.mk x1.fst (w64 (1+x2.fst)) x5.fst (w64 (1+x4.fst)))))
    (br (x6.fst==3)
     (jn (IG) ((x6.snd,AT.mk x1.fst (w64 (1+x2.fst)) (w64 (1+x3.fst)) x5.fst)))
     (jn (IG) ((x6.snd,AT.mk x1.fst (w64 (1+x2.fst)) (w64 (1+x3.fst)) (w64 (1+x4.fst))))))))
noncomputable def KV:GF:=AAK.gf rfl rfl (fun a=>aO a.1) (fun a=>by kernel_rfl)
noncomputable def AAL:YF:=⟨[],[.v (.l (.st 4)),.v (.st 4)],[],.ret [(.l (.st 4)),.b],[.tmp 4,.tmp 5],
 sq [qu 3 1,.as 4 (.k .nil),.A6 [(.tmp 4 0,(.st 4))],qB 5 false] [0,3] (sr [wn 7 [wm 0,wk 4 3,wc Kt rfl [7,8]],
 qn [qa 6 9]] [0,6] (.seq (.join [cv 17 .b] (qr [wn 10 [wm 0,wY Kr rfl,wX,wM],
 wf 13 14 [wm 6,wY Kr rfl,wX],
 qn [qp 17 13 16]] [0,6,17]) (.cond 17 [0] [6] (sr [wn 18 [wm 0,wY Es rfl],
 qn [qa 4 19,qB 5 false]] [4,5] .ret) .skip)) (sq [qm 20 6,qa 4 20,qB 5 true] [4,5] .ret)))⟩
noncomputable def RZ(p0:(List AT))(x1:(List AT))(v3:Bool):Option ((List AT)×Bool):=
 br v3
  (bd (VX p0) fun x4=>
  some (x4,false))
  (some (x1,true))
noncomputable def jw(p0:(List AT))(p1:AT):Option ((List AT)×Bool):=
 bd (bk p0 p1) fun x1=>
 bd (m5 p0) fun x2=>
 br (!x2)
  (jn (RZ p0 x1) true)
  (bd (m5 x1) fun x5=>
  jn (RZ p0 x1) (!x5))
noncomputable def Sl:GF:=AAL.gf rfl rfl (fun a=>jw a.1 a.2.1) (fun a=>by kernel_rfl)
noncomputable def AAM:YF:=⟨[],[.b (.st 17)],[],.ret [(.l (.st 4))],[.tmp 2],
 sq [.as 2 (.k .nil),.A6 [(.tmp 2 0,(.st 4))]] [0] (sq [.AR 7 0 (.st 4) [],qa 3 7] [0,3] (sr [wn 8 [wm 0,wc AJ rfl [8,qj 9]],
 qn [qa 4 9]] (Kp 25) (.join [cv 4 .i,(true,0,.one,[.val (.st 17) (some (.old 0))])] (sw 10 [wm 0,wc BD rfl [10,qj 12]] (Kp 2073) (.cond 11 [0,3] (Kp 25) (qr [wn 12 [wm 0,wc AJ rfl [12,qj 4],wh (.bin · .num .add (.k (.int .i64 10)) (.tmp 13))],
 qn [qa 4 14]] (Kp 25)) .skip)) (.join [cv 3 (.l (.st 4)),(true,0,.one,[.val (.st 17) (some (.old 0))])] (sq [qK 5 0] (Kp 57) (bl 0 [cv 3 (.l (.st 4)),cv 5 .i,(true,0,.one,[.val (.st 17) (some (.old 0))])] (.seq (sw 15 [wm 5,wm 4,wB .lss 15] (Kp 131129) (ce 17 (Kp 57) [0,3] 0)) (.seq (.block 1 (sr [wn 20 [wm 0,wY KV rfl],
 qn [.alloc 6 Eh,qw 4 6 21]] (Kp 121) (.join [cx 6 (.st 4)] (sw 22 [wm 4,wI .gtr 9] (Kp 8388729) (.cond 23 [0,3,4,5,6] (Kp 121) (qr [wn 24 [wm 5,wh (.bin · .num .add (.k (.int .i64 100)) (.tmp 24)),wo 2 6],
 qn [qw 1 26 25]] (Kp 121)) .skip)) (qr [wn 28 [wm 3,wk 4 6,wc Sl rfl [28,29]],
 qn [qm 27 30],
 wn 31 [wh (.ext · (.tmp 27) 0),wh (.ext · (.tmp 27) 1)],
 qn [qa 3 31]] (Kp 57))))) (qr [wn 18 [wm 5,wI .add 1],
 qn [qa 5 19]] (Kp 57)))))) (sq [qm 33 3,qa 2 33] [0,2] .ret)))))⟩
noncomputable def Ra(L6:((List AT)×Int×AI)->Option ((List AT)×AI))(v7:(List AT))(v8:Int)(x10:(AT×AI))(v11:AT):Option ((List AT)×AI):=
 bd (jw v7 v11) fun x12=>
 L6 ((x12.fst,w64 (v8+1),x10.snd))
noncomputable def aQ(x_:((List AT)×AI)):Option ((List AT)×AI):=
 match x_ with
 |(v13,v14)=>some (v13,v14)
noncomputable def aR(v4:Int)(L6:((List AT)×Int×AI)->Option ((List AT)×AI))(x_:((List AT)×Int×AI)):Option ((List AT)×AI):=
 match x_ with
 |(v7,v8,v9)=>br (decide (v8<v4))
  (bd (aO v9) fun x10=>
  br (decide (v4>9))
   (jn (Ra L6 v7 v8 x10) (AT.mk x10.fst.Level x10.fst.AQ (w64 (100+v8)) x10.fst.AY))
   (jn (Ra L6 v7 v8 x10) x10.fst))
  (jn (aQ) (v7,v9))
noncomputable def NY(x_:(Int×AI)):Option ((List AT)×AI):=
 match x_ with
 |(v4,v5)=>Ap (aR v4) big ([],0,v5)
noncomputable def aP(p0:AI):Option ((List AT)×AI):=
 bd (Ao p0 9) fun x1=>
 bd (Ea x1.snd 12) fun x2=>
 br x2.fst
  (bd (Ao x2.snd 4) fun x3=>
  jn (NY) ((w64 (10+x3.fst),x3.snd)))
  (jn (NY) (x1.fst,x2.snd))
noncomputable def KW:GF:=AAM.gf rfl rfl (fun a=>aP a.1) (fun a=>by kernel_rfl)
noncomputable def AAN:YF:=⟨[],[.b (.st 17)],[],.ret [(.l (.st 4))],[.tmp 2],
 sq [.as 2 (.k .nil),.A6 [(.tmp 2 0,(.st 4))]] [0] (sr [wn 5 [wm 0,wY KW rfl],
 qn [qa 3 6]] [0,3] (.join [cv 3 (.l (.st 4)),(true,0,.one,[.val (.st 17) (some (.old 0))])] (sw 7 [wm 0,wc AJ rfl [7,qj 10]] (Kp 265) (.block 0 (sq [qi 10 .eql 8 0,qa 9 10] (Kp 777) (.cond 9 [0,3] (Kp 265) (qr [wn 11 [wm 3,wm 0,wY KV rfl,wh (.AR · 1 (.st 4) [(0,(.tmp 13))]),wh (.app · (.st 4) true (.tmp 11) (.tmp 14))],
 qn [qa 3 15]] [0,3]) (sq [qi 17 .eql 8 1,qa 16 17] [0,3,16] (.cond 16 [0,3] [0,3] (sw 18 [wm 3,wZ,wI .gtr 1] [0,3,20] (.cond 20 [0,3] [0,3] (sr [wn 21 [wm 3,wh (.ia · (.st 4) (.tmp 21) (.k (.int .i64 0))),wK 4],
 qn [.alloc 4 Eh,qw 4 4 23]] (Kp 25) (sr [wn 24 [wm 3,wm 3,wh (.ia · (.st 4) (.tmp 25) (.k (.int .i64 1))),wK 4,wh (.ia · (.st 4) (.tmp 24) (.k (.int .i64 0)))],
 qn [qw 4 28 27]] (Kp 25) (qr [wn 29 [wm 3,wk 4 4,wh (.ia · (.st 4) (.tmp 29) (.k (.int .i64 1)))],
 qn [qw 4 31 30]] [0,3]))) .skip)) .skip)))))) (sq [qm 32 3,qa 2 32] [0,2] .ret)))⟩
noncomputable def J9(x_:((List AT)×AI)):Option ((List AT)×AI):=
 match x_ with
 |(v4,v5)=>some (v4,v5)
noncomputable def jx(p0:AI):Option ((List AT)×AI):=
 bd (aP p0) fun x1=>
 bd (Ao x1.snd 10) fun x2=>
 br (x2.fst==0)
  (bd (aO x2.snd) fun x3=>
  gd (List.length x1.fst+[x3.fst].length<=lim) (
  jn (J9) (x1.fst++[x3.fst],x3.snd)))
  (br (x2.fst==1)
   (br (decide ((↑(List.length x1.fst):Int)>1))
    (bd (at? x1.fst 0) fun x6=>
    bd (at? x1.fst 0) fun x7=>
    bd (at? x1.fst 1) fun x8=>
    bd (at? x1.fst 1) fun x9=>
    bd (at? x1.fst 0) fun x10=>
    bd (at? x1.fst 0) fun x11=>
    bd (at? (List.set x1.fst (Int.toNat 0) x9) 1) fun x12=>
    bd (at? (List.set x1.fst (Int.toNat 0) x9) 1) fun x13=>
    jn (J9) (((List.set x1.fst (Int.toNat 0) x9).set (Int.toNat 1) x7,x2.snd)))
    (jn (J9) (x1.fst,x2.snd)))
   (jn (J9) (x1.fst,x2.snd)))
noncomputable def Sn:GF:=AAN.gf rfl rfl (fun a=>jx a.1) (fun a=>by kernel_rfl)
noncomputable def AAO:YF:=⟨[],[.b (.st 17)],[],.ret [(.st 5)],[.cell 2 (some 2)],
 sq [.alloc 2 [.int .i64 0,.int .i64 0]] [0,2] (sr [wn 4 [wm 0,wc AJ rfl [4,qj 24],wh (.bin · .num .add (.k (.int .i64 1)) (.tmp 5)),wm 0,wc AJ rfl [7,qj 12],wh (.bin · .num .add (.k (.int .i64 1)) (.tmp 8)),wh (.build · [.int .i64 0,.int .i64 0] [(0,1,(.tmp 6)),(1,1,(.tmp 9))])],
 qn [.alloc 3 [.int .i64 0,.int .i64 0],qw 2 3 10]] (Kp 13) (.join [(true,0,.one,[.val (.st 17) (some (.old 0))]),cx 3 (.st 5)] (sw 11 [wm 0,wc AJ rfl [11,qj 20]] (Kp 4109) (.block 0 (sq [qi 14 .eql 12 0,qa 13 14] (Kp 12301) (.cond 13 [0,2,3] (Kp 4109) (qr [wn 15 [wm 0,wh (.AR · 7 .i [(0,(.k (.int .i64 0))),(1,(.k (.int .i64 (-1)))),(2,(.k (.int .i64 (-9)))),(3,(.k (.int .i64 1000008))),(4,(.k (.int .i64 1000009))),(5,(.k (.int .i64 9223372036854775807))),(6,(.k (.int .i64 (-9223372036854775808))))]),wc B9 rfl [15,16],wo 0 3],
 qn [qw 1 18 17]] (Kp 13)) (sq [qi 20 .eql 12 1,qa 19 20] (Kp 524301) (.cond 19 [0,2,3] (Kp 13) (qr [wn 21 [wm 0,wh (.AR · 4 .i [(0,(.k (.int .i64 0))),(1,(.k (.int .i64 999))),(2,(.k (.int .i64 1000))),(3,(.k (.int .i64 (-1))))]),wc B9 rfl [21,22],wo 1 3],
 qn [qw 1 24 23]] (Kp 13)) .skip)))))) (sq [qL 25 2 3,qw 2 2 25] [0,2] .ret)))⟩
noncomputable def NZ(x_:(AI×Ag)):Option (Ag×AI):=
 match x_ with
 |(v5,v6)=>some (v6,v5)
noncomputable def aS(p0:AI):Option (Ag×AI):=
 bd (Ao p0 24) fun x1=>
 bd (Ao x1.snd 12) fun x2=>
 bd (Ao x2.snd 20) fun x3=>
 br (x3.fst==0)
  (bd (Jq x3.snd ([0,-1,-9,1000008,1000009,9223372036854775807,-9223372036854775808])) fun x4=>
  jn (NZ) ((x4.snd,Ag.mk x4.fst (w64 (1+x2.fst)))))
  (br (x3.fst==1)
   (bd (Jq x3.snd ([0,999,1000,-1])) fun x7=>
   jn (NZ) ((x7.snd,Ag.mk (w64 (1+x1.fst)) x7.fst)))
   (jn (NZ) ((x3.snd,Ag.mk (w64 (1+x1.fst)) (w64 (1+x2.fst))))))
noncomputable def KX:GF:=AAO.gf rfl rfl (fun a=>aS a.1) (fun a=>by kernel_rfl)
noncomputable def AAP:YF:=⟨[],[.b (.st 17)],[],.ret [(.l (.st 5))],[.tmp 2],
 sq [.as 2 (.k .nil),.A6 [(.tmp 2 0,(.st 5))]] [0] (sq [.AR 6 0 (.st 5) [],qa 3 6] [0,3] (sr [wn 7 [wm 0,wc AJ rfl [7,qj 8]],
 qn [qa 4 8]] (Kp 25) (.join [cv 3 (.l (.st 5)),(true,0,.one,[.val (.st 17) (some (.old 0))])] (sq [qK 5 0] (Kp 57) (bl 0 [cv 3 (.l (.st 5)),cv 5 .i,(true,0,.one,[.val (.st 17) (some (.old 0))])] (.seq (sw 9 [wm 5,wm 4,wB .lss 9] (Kp 2105) (ce 11 (Kp 57) [0,3] 0)) (.seq (.block 1 (qr [wn 14 [wm 3,wm 0,wY KX rfl,wh (.AR · 1 (.st 5) [(0,(.tmp 16))]),wh (.app · (.st 5) true (.tmp 14) (.tmp 17))],
 qn [qa 3 18]] (Kp 57))) (qr [wn 12 [wm 5,wI .add 1],
 qn [qa 5 13]] (Kp 57)))))) (sq [qm 19 3,qa 2 19] [0,2] .ret))))⟩
noncomputable def aT(x_:((List Ag)×AI)):Option ((List Ag)×AI):=
 match x_ with
 |(v7,v8)=>some (v7,v8)
noncomputable def aU(x1:(Int×AI))(L2:((List Ag)×Int×AI)->Option ((List Ag)×AI))(x_:((List Ag)×Int×AI)):Option ((List Ag)×AI):=
 match x_ with
 |(v3,v4,v5)=>br (decide (v4<x1.fst))
  (bd (aS v5) fun x6=>
  gd (List.length v3+[x6.fst].length<=lim) (
  L2 ((v3++[x6.fst],w64 (v4+1),x6.snd))))
  (jn (aT) (v3,v5))
noncomputable def jy(p0:AI):Option ((List Ag)×AI):=
 bd (Ao p0 8) fun x1=>
 Ap (aU x1) big ([],0,x1.snd)
noncomputable def So:GF:=AAP.gf rfl rfl (fun a=>jy a.1) (fun a=>by kernel_rfl)
end Lv
set_option maxRecDepth 100000
namespace Lv
open Go (IntKind BinOp UnOp)
open Y (YF qn qf qt qr q1 qd qm qa qo ql qL qb qi qx qp qq qc qz qe qk qK qB qw qu qj Kp wn wf wt w1 sw sq sr wm wM wo wO wl wL wk wK wz wZ wx wX wb wB wi wI wr wR wq wQ we wE wc wY wj wh cv ca cx cn ce bl)
noncomputable def AAQ:YF:=⟨[],[.b (.st 17)],[],.ret [(.st 6)],[.cell 2 (some 1)],
 sq [.alloc 2 [.nil],.A6 [(.cell 2 0,(.l (.st 5)))]] [0,2] (sq [qc 7 KU rfl [],.alloc 3 [.nil],.A6 [(.cell 3 0,(.l (.st 5)))],qw 1 3 7] (Kp 13) (sr [wn 8 [wm 0,wY So rfl],
 qn [qa 4 9]] (Kp 29) (.join [cv 4 (.l (.st 5)),(true,0,.one,[.val (.st 17) (some (.old 0))])] (sw 10 [wm 0,wc BD rfl [10,qj 10]] (Kp 2077) (.cond 11 [0,2,3,4] (Kp 29) (sq [qK 5 0] (Kp 61) (bl 0 [cv 4 (.l (.st 5)),cv 5 .i] (.seq (sw 12 [wm 5,wI .lss 10] (Kp 8253) (ce 13 [0,2,3,4,5] (Kp 29) 0)) (.seq (.block 1 (qr [wn 16 [wm 4,wm 5,wh (.bin · .num .add (.k (.int .i64 3)) (.tmp 17)),wm 5,wh (.bin · .num .add (.k (.int .i64 100)) (.tmp 19)),wh (.build · [.int .i64 0,.int .i64 0] [(0,1,(.tmp 18)),(1,1,(.tmp 20))]),wh (.AR · 1 (.st 5) [(0,(.tmp 21))]),wh (.app · (.st 5) true (.tmp 16) (.tmp 22))],
 qn [qa 4 23]] (Kp 61))) (qr [wn 14 [wm 5,wI .add 1],
 qn [qa 5 15]] (Kp 61)))))) .skip)) (.join [cx 3 (.st 6)] (sq [qK 6 0] (Kp 93) (bl 2 [cv 6 .i,cx 3 (.st 6)] (.seq (sw 24 [wm 6,wm 4,wZ,wB .lss 24] (Kp 134217821) (ce 27 [0,2,3,4,6] (Kp 13) 2)) (.seq (.block 3 (.BW (qd 0 [wn 31 [wk 1 3,wm 4,wm 6,wE (.st 5) 32,wK 2,wc E4 rfl [31,35]],
 qn [qm 30 36],
 wn 37 [wh (.ext · (.tmp 30) 0),wh (.ext · (.tmp 30) 1)],
 qn [qw 1 3 37]] .nil) [0,2,3,4,6])) (qr [wn 28 [wm 6,wI .add 1],
 qn [qa 6 29]] (Kp 93)))))) (sq [qL 39 1 3,qw 1 2 39] [0,2] .ret)))))⟩
noncomputable def aW(v8:AI)(v15:AU):Option (AU×AI):=
 some (v15,v8)
noncomputable def aY(v7:(List Ag))(v8:AI)(L9:(Int×AU)->Option (AU×AI))(x_:(Int×AU)):Option (AU×AI):=
 match x_ with
 |(v10,v11)=>br (decide (v10<(↑(List.length v7):Int)))
  (bd (at? v7 v10) fun x12=>
  bd (at? v7 v10) fun x13=>
  bd (Rm v11 x13) fun x14=>
  L9 ((w64 (v10+1),x14.fst)))
  (jn (aW v8) v11)
noncomputable def Na(x1:AU)(x_:((List Ag)×AI)):Option (AU×AI):=
 match x_ with
 |(v7,v8)=>Ap (aY v7 v8) big (0,x1)
noncomputable def aX(x1:AU)(x3:(Bool×AI))(L4:((List Ag)×Int)->Option (AU×AI))(x_:((List Ag)×Int)):Option (AU×AI):=
 match x_ with
 |(v5,v6)=>br (decide (v6<10))
  (gd (List.length v5+[Ag.mk (w64 (3+v6)) (w64 (100+v6))].length<=lim) (
  L4 ((v5++[Ag.mk (w64 (3+v6)) (w64 (100+v6))],w64 (v6+1)))))
  (jn (Na x1) (v5,x3.snd))
noncomputable def aV(p0:AI):Option (AU×AI):=
 bd (mz) fun x1=>
 bd (jy p0) fun x2=>
 bd (Ea x2.snd 10) fun x3=>
 br x3.fst
  (Ap (aX x1 x3) big (x2.fst,0))
  (jn (Na x1) (x2.fst,x3.snd))
noncomputable def KY:GF:=AAQ.gf rfl rfl (fun a=>aV a.1) (fun a=>by kernel_rfl)
noncomputable def AAR:YF:=⟨[],[.b (.st 17)],[],.ret [(.st 6)],[.cell 2 (some 1)],
 sq [.alloc 2 [.nil],.A6 [(.cell 2 0,(.l (.st 5)))]] [0,2] (sr [wn 5 [wm 0,wY KY rfl],
 qn [.alloc 3 [.nil],.A6 [(.cell 3 0,(.l (.st 5)))],qw 1 3 6]] (Kp 13) (.join [(true,0,.one,[.val (.st 17) (some (.old 0))]),cx 3 (.st 6)] (sw 7 [wm 0,wc AJ rfl [7,qj 10]] (Kp 269) (.block 0 (sq [qi 10 .eql 8 0,qa 9 10] (Kp 781) (.cond 9 [0,2,3] (Kp 269) (sr [wn 11 [wm 0,wc AJ rfl [11,qj 9]],
 qn [qa 4 12]] (Kp 29) (.BW (qd 0 [wn 13 [wo 0 3,wL,wm 4,wo 0 3,wL,wm 4,wE (.l (.st 5)) 17,wL,wm 0]] (.op 9 none [13,16,19] (.call 22 KX [] rfl [(.tmp 21)])
 (.op 10 none [13,16,19] (.AR 23 1 (.st 5) [(0,(.tmp 22))])
 (.op 11 none [13] (.app 24 (.st 5) true (.tmp 20) (.tmp 23))
 (qd 12 [qn [qe 25 (.l (.st 5)) 14 15,qw 1 25 24]] .nil))))) [0,2,3])) (sq [qi 27 .eql 8 1,qa 26 27] (Kp 67109133) (.cond 26 [0,2,3] (Kp 269) (.BW (qd 0 [wn 28 [wo 0 3,wL,wm 0]] (.op 3 none [28] (.call 31 AJ [] rfl [(.tmp 30),(.k (.int .i64 10))])
 (qd 4 [wn 32 [wh (.sub · (.l (.st 5)) (.tmp 29) none (some (.tmp 31))),wo 0 3],
 qn [qw 1 33 32]] .nil))) [0,2,3]) (sq [qi 35 .eql 8 2,qa 34 35] [0,2,3,34] (.cond 34 [0,2,3] (Kp 13) (qr [wn 36 [wo 0 3,wL,wh (.AR · 0 (.st 5) []),wh (.AR · 1 (.l (.st 5)) [(0,(.tmp 38))]),wh (.app · (.l (.st 5)) false (.tmp 37) (.tmp 39)),wo 0 3],
 qn [qw 1 41 40]] (Kp 13)) .skip)))))))) (sq [qL 42 1 3,qw 1 2 42] [0,2] .ret)))⟩
noncomputable def KA(x_:(AI×AU)):Option (AU×AI):=
 match x_ with
 |(v9,v10)=>some (v10,v9)
noncomputable def jz(p0:AI):Option (AU×AI):=
 bd (aV p0) fun x1=>
 bd (Ao x1.snd 10) fun x2=>
 br (x2.fst==0)
  (bd (Ao x2.snd 9) fun x3=>
  bd (at? x1.fst.AP x3.fst) fun x4=>
  bd (at? x1.fst.AP x3.fst) fun x5=>
  bd (aS x3.snd) fun x6=>
  gd (List.length x5+[x6.fst].length<=lim) (
  bd (at? x1.fst.AP x3.fst) fun x7=>
  bd (at? x1.fst.AP x3.fst) fun x8=>
  gd (Y.JF (Int.toNat x3.fst) 0 [U.sl (C.st 5) (x5++[x6.fst])].length [(Int.toNat x3.fst,0)]) (
  jn (KA) ((x6.snd,AU.mk (x1.fst.AP.set (Int.toNat x3.fst) (x5++[x6.fst])))))))
  (br (x2.fst==1)
   (bd (Ao x2.snd 10) fun x11=>
   gd (0<=x11.fst/\x11.fst<=(↑x1.fst.AP.length:Int)) (
   jn (KA) ((x11.snd,AU.mk (List.take (Int.toNat x11.fst-0) (List.drop 0 x1.fst.AP))))))
   (br (x2.fst==2)
    (gd (x1.fst.AP.length+1<=lim) (
    jn (KA) ((x2.snd,AU.mk (x1.fst.AP++[[]])))))
    (jn (KA) (x2.snd,x1.fst))))
noncomputable def Sp:GF:=AAR.gf rfl rfl (fun a=>jz a.1) (fun a=>by kernel_rfl)
noncomputable def AAS:YF:=⟨[],[.b (.st 17)],[],.ret [(.st 7)],[.cell 2 (some 7)],
 sq [.alloc 2 C6,.A6 [(.cell 2 5,(.st 4)),(.cell 2 6,(.l (.st 5)))]] [0,2] (sr [wn 3 [wm 0,wY Kf rfl,wm 0,wY KW rfl,wm 0,wY KY rfl,wh (.build · C6 [(0,5,(.tmp 4)),(5,1,(.tmp 6)),(6,1,(.tmp 8))])],
 qn [qw 7 2 9]] [0,2] .ret)⟩
noncomputable def rC(p0:AI):Option (AZ×AI):=
 bd (bD p0) fun x1=>
 bd (aP x1.snd) fun x2=>
 bd (aV x2.snd) fun x3=>
 some (AZ.mk x1.fst x2.fst x3.fst,x3.snd)
noncomputable def Sq:GF:=AAS.gf rfl rfl (fun a=>rC a.1) (fun a=>by kernel_rfl)
noncomputable def AAT:YF:=⟨[],[.b (.st 17)],[],.ret [(.st 7)],[.cell 2 (some 7)],
 sq [.alloc 2 C6,.A6 [(.cell 2 5,(.st 4)),(.cell 2 6,(.l (.st 5)))]] [0,2] (.seq (sw 4 [wm 0,wc BD rfl [4,qj 4]] (Kp 37) (.cond 5 [0,2] [0,2] (sr [wn 6 [wm 0,wY S5 rfl,wm 0,wY Sn rfl,wm 0,wY Sp rfl,wh (.build · C6 [(0,5,(.tmp 7)),(5,1,(.tmp 9)),(6,1,(.tmp 11))])],
 qn [qw 7 2 12]] [0,2] .ret) .skip)) (sr [wn 13 [wm 0,wY Sq rfl],
 qn [.alloc 3 C6,.A6 [(.cell 3 5,(.st 4)),(.cell 3 6,(.l (.st 5)))],qw 7 3 14]] (Kp 13) (.join [cx 3 (.st 7)] (sw 15 [wo 0 3,wO 0,wL,wI .eql 0] (Kp 262157) (.cond 18 [0,2,3] (Kp 13) (qr [wn 19 [wh (.build · By [(0,1,(.k (.int .i64 3))),(1,1,(.k (.int .i64 1))),(3,1,(.k (.int .i64 2)))]),wo 0 3],
 qn [qw 5 20 19]] (Kp 13)) .skip)) (sq [qL 21 7 3,qw 7 2 21] [0,2] .ret))))⟩
noncomputable def Rb(x5:(AZ×AI))(v6:AZ):Option (AZ×AI):=
 some (v6,x5.snd)
noncomputable def j6(p0:AI):Option (AZ×AI):=
 bd (Ea p0 4) fun x1=>
 br x1.fst
  (bd (kG x1.snd) fun x2=>
  bd (jx x2.snd) fun x3=>
  bd (jz x3.snd) fun x4=>
  some (AZ.mk x2.fst x3.fst x4.fst,x4.snd))
  (bd (rC x1.snd) fun x5=>
  br (x5.fst.AM.Total==0)
   (jn (Rb x5) (AZ.mk (Am.mk 3 1 0 2 0) x5.fst.Row x5.fst.BL))
   (jn (Rb x5) x5.fst))
noncomputable def Sr:GF:=AAT.gf rfl rfl (fun a=>j6 a.1) (fun a=>by kernel_rfl)
noncomputable def AA4:YF:=⟨[],[.b (.st 17)],[],.ret [(.st 8)],[.cell 2 (some 15)],
 sq [.alloc 2 Ae,.A6 [(.cell 2 0,.i),(.cell 2 11,(.st 2)),(.cell 2 12,(.st 7)),(.cell 2 13,.i),(.cell 2 14,.i)]] [0,2] (sr [wn 5 [wm 0,wY Kc rfl],
 qn [.alloc 3 Ae,.A6 [(.cell 3 0,.i),(.cell 3 11,(.st 2)),(.cell 3 12,(.st 7)),(.cell 3 13,.i),(.cell 3 14,.i)],qw 15 3 6]] (Kp 13) (sr [wn 7 [wm 0,wh (.AR · 9 .i [(0,(.k (.int .i64 (-1)))),(1,(.k (.int .i64 0))),(2,(.k (.int .i64 1))),(3,(.k (.int .i64 3))),(4,(.k (.int .i64 1000000))),(5,(.k (.int .i64 1000001))),(6,(.k (.int .i64 1000002))),(7,(.k (.int .i64 9223372036854775807))),(8,(.k (.int .i64 (-9223372036854775808))))]),wc B9 rfl [7,8]],
 qn [qa 4 9]] (Kp 29) (.join [(true,0,.one,[.val (.st 17) (some (.old 0))]),cx 3 (.st 8)] (sw 10 [wm 0,wc AJ rfl [10,qj 40]] (Kp 2077) (.block 0 (sq [qi 13 .eql 11 0,qa 12 13] (Kp 6173) (.cond 12 [0,2,3,4] (Kp 2077) (qr [wn 14 [wm 4,wo 9 3],
 qn [qw 1 15 14]] (Kp 13)) (sq [qi 17 .eql 11 1,qa 16 17] (Kp 67613) (.cond 16 [0,2,3,4] (Kp 2077) (qr [wn 18 [wm 4,wo 10 3],
 qn [qw 1 19 18]] (Kp 13)) (sq [qi 21 .eql 11 2,qa 20 21] (Kp 1050653) (.cond 20 [0,2,3,4] (Kp 2077) (qr [wn 22 [wo 13 3,wL,wm 4,wh (.AR · 1 .i [(0,(.tmp 24))]),wh (.app · .i true (.tmp 23) (.tmp 25)),wo 13 3],
 qn [qw 1 27 26]] (Kp 13)) (sq [qi 29 .eql 11 3,qa 28 29] (Kp 268437533) (.cond 28 [0,2,3,4] (Kp 2077) (qr [wn 30 [wo 14 3,wL,wm 4,wh (.AR · 1 .i [(0,(.tmp 32))]),wh (.app · .i true (.tmp 31) (.tmp 33)),wo 14 3],
 qn [qw 1 35 34]] (Kp 13)) (sq [qi 37 .eql 11 4,qa 36 37] (Kp 68719478813) (.cond 36 [0,2,3] (Kp 2077) (.BW (qd 0 [wn 38 [wo 11 3,wL,wm 0,wo 0 3,wK 9,wo 9 3,wL]] (.op 7 none [38] (.call 45 S4 [] rfl [(.tmp 40),(.tmp 42),(.tmp 44)])
 (.op 8 none [38] (.AR 46 1 (.st 2) [(0,(.tmp 45))])
 (qd 9 [wn 47 [wh (.app · (.st 2) true (.tmp 39) (.tmp 46)),wo 11 3],
 qn [qw 1 48 47]] .nil)))) [0,2,3]) (sq [qi 50 .eql 11 5,qa 49 50] [0,2,3,4,11,49] (.cond 49 [0,2,3,4] (Kp 2077) (sw 51 [wo 11 3,wL,wZ,wI .gtr 0] [0,2,3,4,54] (.cond 54 [0,2,3,4] (Kp 13) (qr [wn 55 [wo 11 3,wL,wm 4,wh (.ia · (.st 2) (.tmp 56) (.k (.int .i64 0))),wO 5],
 qn [qw 1 59 57]] (Kp 13)) .skip)) (sq [qi 61 .eql 11 6,qa 60 61] [0,2,3,4,11,60] (.cond 60 [0,2,3] (Kp 2077) (qr [wn 62 [wo 12 3,wL,wo 12 3,wL,wZ,wI .sub 1,wh (.sub · (.st 7) (.tmp 63) none (some (.tmp 67))),wo 12 3],
 qn [qw 1 69 68]] (Kp 13)) (sq [qi 71 .eql 11 7,qa 70 71] [0,2,3,4,11,70] (.cond 70 [0,2,3] (Kp 2077) (.BW (qd 0 [wn 72 [wo 12 3,wL,wm 0]] (.op 3 none [72] (.call 75 Sr [] rfl [(.tmp 74)])
 (qd 4 [qn [.ia 76 (.st 7) (.tmp 73) (.k (.int .i64 0)),qw 7 76 75]] .nil))) [0,2,3]) (sq [qi 78 .eql 11 8,qa 77 78] [0,2,3,4,11,77] (.cond 77 [0,2,3,4] (Kp 2061) (qr [wn 79 [wm 4,wo 0 3,wO 2],
 qn [qw 1 81 79]] (Kp 13)) (sq [qi 83 .eql 11 9,qa 82 83] [0,2,3,82] (.cond 82 [0,2,3] (Kp 13) (sw 84 [wo 11 3,wL,wZ,wI .gtr 1] [0,2,3,87] (.cond 87 [0,2,3] (Kp 13) (.BW (qd 0 [wn 88 [wo 11 3,wL,wo 11 3,wL,wh (.ia · (.st 2) (.tmp 91) (.k (.int .i64 1))),wO 6,wL,wh (.ia · (.st 2) (.tmp 89) (.k (.int .i64 0))),wO 6],
 qn [qw 1 96 94]] .nil) [0,2,3]) .skip)) .skip)))))))))))))))))))))) (sq [qL 97 15 3,qw 15 2 97] [0,2] .ret))))⟩
noncomputable def C0(x_:(AI×AA)):Option (AA×AI):=
 match x_ with
 |(v4,v5)=>some (v5,v4)
noncomputable def kN(p0:AI):Option (AA×AI):=
 bd (aw p0) fun x1=>
 bd (Jq x1.snd ([-1,0,1,3,1000000,1000001,1000002,9223372036854775807,-9223372036854775808])) fun x2=>
 bd (Ao x2.snd 40) fun x3=>
 br (x3.fst==0)
  (jn (C0) (x3.snd,AA.mk x1.fst.AG x2.fst x1.fst.AQ x1.fst.AB x1.fst.AE x1.fst.AW x1.fst.AS))
  (br (x3.fst==1)
   (jn (C0) (x3.snd,AA.mk x1.fst.AG x1.fst.Now x2.fst x1.fst.AB x1.fst.AE x1.fst.AW x1.fst.AS))
   (br (x3.fst==2)
    (gd (x1.fst.AW.length+[x2.fst].length<=lim) (
    jn (C0) ((x3.snd,AA.mk x1.fst.AG x1.fst.Now x1.fst.AQ x1.fst.AB x1.fst.AE (x1.fst.AW++[x2.fst]) x1.fst.AS))))
    (br (x3.fst==3)
     (gd (x1.fst.AS.length+[x2.fst].length<=lim) (
     jn (C0) ((x3.snd,AA.mk x1.fst.AG x1.fst.Now x1.fst.AQ x1.fst.AB x1.fst.AE x1.fst.AW (x1.fst.AS++[x2.fst])))))
     (br (x3.fst==4)
      (bd (kF x3.snd x1.fst.AG x1.fst.Now) fun x6=>
      gd (x1.fst.AB.length+[x6.fst].length<=lim) (
      jn (C0) ((x6.snd,AA.mk x1.fst.AG x1.fst.Now x1.fst.AQ (x1.fst.AB++[x6.fst]) x1.fst.AE x1.fst.AW x1.fst.AS))))
      (br (x3.fst==5)
       (br (decide ((↑x1.fst.AB.length:Int)>0))
        (bd (at? x1.fst.AB 0) fun x7=>
        bd (at? x1.fst.AB 0) fun x8=>
        jn (C0) ((x3.snd,AA.mk x1.fst.AG x1.fst.Now x1.fst.AQ (x1.fst.AB.set (Int.toNat 0) (AH.mk x8.Id x8.AK x8.Ay x8.AY x8.Bb x2.fst x8.AQ x8.State x8.Bh x8.Ba)) x1.fst.AE x1.fst.AW x1.fst.AS)))
        (jn (C0) (x3.snd,x1.fst)))
       (br (x3.fst==6)
        (gd (0<=w64 ((↑x1.fst.AE.length:Int)-1)/\w64 ((↑x1.fst.AE.length:Int)-1)<=(↑x1.fst.AE.length:Int)) (
        jn (C0) ((x3.snd,AA.mk x1.fst.AG x1.fst.Now x1.fst.AQ x1.fst.AB (List.take ((w64 ((↑x1.fst.AE.length:Int)-1)).toNat-0) (List.drop 0 x1.fst.AE)) x1.fst.AW x1.fst.AS))))
        (br (x3.fst==7)
         (bd (j6 x3.snd) fun x9=>
         bd (at? x1.fst.AE 0) fun x10=>
         bd (at? x1.fst.AE 0) fun x11=>
         jn (C0) ((x9.snd,AA.mk x1.fst.AG x1.fst.Now x1.fst.AQ x1.fst.AB (x1.fst.AE.set (Int.toNat 0) x9.fst) x1.fst.AW x1.fst.AS)))
         (br (x3.fst==8)
          (jn (C0) ((x3.snd,AA.mk (AN.mk x1.fst.AG.AM x1.fst.AG.Bq x2.fst x1.fst.AG.AY x1.fst.AG.CI x1.fst.AG.BI x1.fst.AG.Rest x1.fst.AG.BF x1.fst.AG.Cc) x1.fst.Now x1.fst.AQ x1.fst.AB x1.fst.AE x1.fst.AW x1.fst.AS)))
          (br (x3.fst==9)
           (br (decide ((↑x1.fst.AB.length:Int)>1))
            (bd (at? x1.fst.AB 1) fun x12=>
            bd (at? x1.fst.AB 1) fun x13=>
            bd (at? x1.fst.AB 0) fun x14=>
            bd (at? x1.fst.AB 0) fun x15=>
            jn (C0) ((x3.snd,AA.mk x1.fst.AG x1.fst.Now x1.fst.AQ (x1.fst.AB.set (Int.toNat 0) (AH.mk x15.Id x15.AK x15.Ay x15.AY x15.Bb x15.Since x13.AQ x15.State x15.Bh x15.Ba)) x1.fst.AE x1.fst.AW x1.fst.AS)))
            (jn (C0) (x3.snd,x1.fst)))
           (jn (C0) (x3.snd,x1.fst)))))))))))
noncomputable def TG:GF:=AA4.gf rfl rfl (fun a=>kN a.1) (fun a=>by kernel_rfl)
end Lv
