/-
  Printed: functions of the program as texts of the typed machine, as plain functions, and that the one is the other.
-/
import Derived.Test.YthnbolemafdhfaaGreatKB
import Derived.KernelRfl
set_option linter.unusedVariables false
set_option linter.unusedSimpArgs false
set_option linter.unusedSectionVars false
set_option maxRecDepth 100000
namespace Lv
open Go (IntKind BinOp UnOp)
open Y (YF qn qf qt qr q1 qd qm qa qo ql qL qb qi qx qp qq qc qz qe qk qK qB qw qu qj Kp wn wf wt w1 sw sq sr wm wM wo wO wl wL wk wK wz wZ wx wX wb wB wi wI wr wR wq wQ we wE wc wY wj wh cv ca cx cn ce bl)
noncomputable def AAZ:YF:=⟨[],[.v .i,.v .i],[],.ret [.i],[.tmp 4],
 sq [qK 4 0] [0,1] (.seq (sw 5 [wm 0,wm 1,wB .lss 5] (Kp 131) (.cond 7 [0] [1] (sq [qm 8 0,qa 4 8] [4] .ret) .skip)) (sq [qm 9 1,qa 4 9] [4] .ret))⟩
noncomputable def kA(p0:Int)(p1:Int):Option Int:=
 br (decide (p0<p1))
  (some p0)
  (some p1)
noncomputable def Sv:GF:=AAZ.gf rfl rfl (fun a=>kA a.1 a.2.1) (fun a=>by kernel_rfl)
noncomputable def AAa:YF:=⟨[],[.v (.l .u)],[],.ret [.b],[.tmp 2],
 sq [qB 2 false] [0] (sr [wn 3 [wm 0,wZ,wI .gtr 1048576],
 qn [qa 2 5]] [2] .ret)⟩
noncomputable def kB(p0:(List UInt8)):Option Bool:=
 some (decide ((↑p0.length:Int)>1048576))
noncomputable def PO:GF:=AAa.gf rfl rfl (fun a=>kB a.1) (fun a=>by kernel_rfl)
noncomputable def AAb:YF:=⟨[],[.v (.l .u)],[],.ptr 0 (.st 17),[.bx 2],
 sq [.as 2 (.k .np)] [0] (sr [wn 5 [wm 0,wZ,wh (.bin · .num .add (.k (.int .i64 28285)) (.tmp 6))],
 qn [qa 3 7]] [0,3] (.join [cv 3 .i] (sq [qK 4 0] (Kp 25) (bl 0 [cv 3 .i,cv 4 .i] (.seq (.join [cv 15 .b] (qr [wn 8 [wm 4,wm 0,wZ,wB .lss 8,wM],
 wt 12 13 [wm 4,wI .lss 4000],
 qn [qq 15 12 14]] (Kp 32793)) (ce 15 (Kp 25) [0,3] 0)) (.seq (.block 1 (qr [wn 18 [wm 3,wI .mul 131,wm 0,wm 4,wE .u 20,wL,wh (.cvI · .i64 (.tmp 23)),wB .add 19,wI .add 7,wI .and 1073741823],
 qn [qa 3 27]] (Kp 25))) (qr [wn 16 [wm 4,wI .add 1],
 qn [qa 4 17]] (Kp 25)))))) (sr [wn 28 [wm 0,wm 3,wh (.build · [.nil,.int .i64 0,.int .i64 0] [(0,1,(.tmp 28)),(2,1,(.tmp 29))])],
 qn [qu 31 30,qa 2 31]] [2] .ret)))⟩
noncomputable def ai(p0:(List UInt8))(v6:Int):Option AI:=
 some (AI.mk p0 0 v6)
noncomputable def Rh(p0:(List UInt8))(L1:(Int×Int)->Option AI)(v2:Int)(v3:Int)(v4:Bool):Option AI:=
 br v4
  (bd (at? p0 v3) fun x5=>
  L1 ((Z3 (w64 (w64 (w64 (v2*131)+w64 (↑(UInt8.toNat x5):Int))+7)) 1073741823,w64 (v3+1))))
  (jn (ai p0) v2)
noncomputable def aj(p0:(List UInt8))(L1:(Int×Int)->Option AI)(x_:(Int×Int)):Option AI:=
 match x_ with
 |(v2,v3)=>br (decide (v3<(↑p0.length:Int)))
  (jn (Rh p0 L1 v2 v3) (decide (v3<4000)))
  (jn (Rh p0 L1 v2 v3) false)
noncomputable def kC(p0:(List UInt8)):Option AI:=
 Ap (aj p0) big ((w64 (28285+(↑p0.length:Int)),0))
noncomputable def Sw:GF:=AAb.gf rfl rfl (fun a=>kC a.1) (fun a=>by kernel_rfl)
noncomputable def AAc:YF:=⟨[],[.b (.st 17)],[],.ret [.i],[.tmp 2],
 sq [qK 2 0] [0] (sr [wn 4 [wm 0,wm 0],
 qn [.chk 6 (.tmp 5)],
 wn 7 [wO 2,wL,wI .mul 6364136223846793005,wI .add 1442695040888963407],
 qn [.chk 11 (.tmp 4),qo 12 2 11,qw 1 12 10]] [0] (.seq (.BW (qd 0 [qn [qm 13 0,.chk 14 (.tmp 13)],
 wn 15 [wO 2,wL,wh (.bin · .num .shr (.tmp 16) (.k (.int .u64 33))),wm 0],
 qn [.chk 19 (.tmp 18)],
 wn 20 [wO 2,wL,wh (.bin · .num .shr (.tmp 21) (.k (.int .u64 45))),wB .xor 17,wI .and 255],
 qn [qa 3 24]] .nil) [0,3]) (.join [cv 3 .i,(true,0,.one,[.val (.st 17) (some (.old 0))])] (.seq (.BW (qd 0 [qn [qm 25 0,.chk 26 (.tmp 25)],
 wn 27 [wO 1,wL,wm 0],
 qn [.chk 30 (.tmp 29)],
 wn 31 [wO 0,wL,wZ,wB .lss 28]] .nil) [0,3,34]) (.cond 34 [0,3] [0,3] (.seq (.BW (qd 0 [wn 35 [wm 3,wm 0],
 qn [.chk 37 (.tmp 36)],
 wn 38 [wO 0,wL,wm 0],
 qn [.chk 41 (.tmp 40)],
 wn 42 [wO 1,wL,wE .u 39,wL,wh (.cvI · .i64 (.tmp 45)),wB .add 35,wI .and 255],
 qn [qa 3 48]] .nil) [0,3]) (qr [wn 49 [wm 0,wm 0],
 qn [.chk 51 (.tmp 50)],
 wn 52 [wO 1,wL,wI .add 1],
 qn [.chk 55 (.tmp 49),qo 56 1 55,qw 1 56 54]] [0,3])) .skip)) (sq [qm 57 3,qa 2 57] [0,2] .ret))))⟩
noncomputable def Ri(x_:(Int×AI)):Option (Int×AI):=
 match x_ with
 |(v2,v3)=>some (v2,v3)
noncomputable def QB(p0:AI):Option (Int×AI):=
 br (decide (p0.i_<(↑p0.b_.length:Int)))
  (bd (at? p0.b_ p0.i_) fun x1=>
  jn (Ri) ((Z3 (w64 (Z3 (yC (U5 (w64 (w64 (p0.h_*6364136223846793005)+1442695040888963407)) 33) (U5 (w64 (w64 (p0.h_*6364136223846793005)+1442695040888963407)) 45)) 255+w64 (↑(UInt8.toNat x1):Int))) 255,AI.mk p0.b_ (w64 (p0.i_+1)) (w64 (w64 (p0.h_*6364136223846793005)+1442695040888963407)))))
  (jn (Ri) ((Z3 (yC (U5 (w64 (w64 (p0.h_*6364136223846793005)+1442695040888963407)) 33) (U5 (w64 (w64 (p0.h_*6364136223846793005)+1442695040888963407)) 45)) 255,AI.mk p0.b_ p0.i_ (w64 (w64 (p0.h_*6364136223846793005)+1442695040888963407)))))
noncomputable def JE:GF:=AAc.gf rfl rfl (fun a=>QB a.1) (fun a=>by kernel_rfl)
noncomputable def AAd:YF:=⟨[],[.b (.st 17),.v .i],[],.ret [.i],[.tmp 4],
 sq [qK 4 0] [0,1] (.seq (sw 9 [wm 1,wI .leq 0] (Kp 1027) (.cond 10 [0] [0,1] (sq [qK 4 0] [0,4] .ret) .skip)) (.seq (sw 11 [wm 1,wI .leq 256] (Kp 4099) (.cond 12 [0,1] [0,1] (sr [wn 13 [wm 0,wY JE rfl,wm 1,wB .rem 14],
 qn [qa 4 16]] [0,4] .ret) .skip)) (sr [wn 17 [wm 0,wY JE rfl],
 qn [qa 5 18]] (Kp 35) (sr [wn 19 [wm 0,wY JE rfl],
 qn [qa 6 20]] (Kp 99) (sr [wn 21 [wm 0,wY JE rfl],
 qn [qa 7 22]] (Kp 227) (sr [wn 23 [wm 0,wY JE rfl],
 qn [qa 8 24]] (Kp 483) (sr [wn 25 [wm 5,wI .mul 16777216,wm 6,wI .mul 65536,wB .add 26,wm 7,wI .mul 256,wB .add 29,wm 8,wB .add 32,wm 1,wB .rem 34],
 qn [qa 4 36]] [0,4] .ret)))))))⟩
noncomputable def Ao(p0:AI)(p1:Int):Option (Int×AI):=
 br (decide (p1<=0))
  (some (0,p0))
  (br (decide (p1<=256))
   (bd (QB p0) fun x1=>
   gd (p1≠0) (
   some (Int.tmod x1.fst p1,x1.snd)))
   (bd (QB p0) fun x2=>
   bd (QB x2.snd) fun x3=>
   bd (QB x3.snd) fun x4=>
   bd (QB x4.snd) fun x5=>
   gd (p1≠0) (
   some (((w64 (w64 (w64 (w64 (x2.fst*16777216)+w64 (x3.fst*65536))+w64 (x4.fst*256))+x5.fst)).tmod p1,x5.snd)))))
noncomputable def AJ:GF:=AAd.gf rfl rfl (fun a=>Ao a.1 a.2.1) (fun a=>by kernel_rfl)
noncomputable def AAe:YF:=⟨[],[.b (.st 17)],[],.ret [(.st 1)],[.cell 2 (some 9)],
 sq [.alloc 2 On,.A6 [(.cell 2 0,.i)]] [0,2] (sr [wn 6 [wm 0,wc AJ rfl [6,qj 5],wh (.bin · .num .add (.k (.int .i64 1)) (.tmp 7)),wm 0,wc AJ rfl [9,qj 9],wh (.bin · .num .add (.k (.int .i64 2)) (.tmp 10)),wm 0,wc AJ rfl [12,qj 6],wh (.bin · .num .add (.k (.int .i64 1)) (.tmp 13)),wm 0,wc AJ rfl [15,qj 5],wh (.bin · .num .add (.k (.int .i64 1)) (.tmp 16)),wm 0,wc AJ rfl [18,qj 4],wh (.bin · .num .add (.k (.int .i64 1)) (.tmp 19)),wm 0,wc AJ rfl [21,qj 4],wm 0,wc AJ rfl [23,qj 4],wh (.bin · .num .add (.k (.int .i64 1)) (.tmp 24)),wm 0,wc AJ rfl [26,qj 3],wh (.bin · .num .add (.k (.int .i64 1)) (.tmp 27)),wh (.build · On [(1,1,(.tmp 8)),(2,1,(.tmp 11)),(3,1,(.tmp 14)),(4,1,(.tmp 17)),(5,1,(.tmp 20)),(6,1,(.tmp 22)),(7,1,(.tmp 25)),(8,1,(.tmp 28))])],
 qn [.A6 [(.tmp 29 0,.i)],.alloc 3 On,.A6 [(.cell 3 0,.i)],qw 9 3 29]] (Kp 13) (sr [wn 30 [wm 0,wc AJ rfl [30,qj 3],wh (.bin · .num .add (.k (.int .i64 1)) (.tmp 31))],
 qn [qa 4 32]] (Kp 29) (.join [(true,0,.one,[.val (.st 17) (some (.old 0))]),cx 3 (.st 1)] (sq [qK 5 0] (Kp 61) (bl 0 [cv 5 .i,(true,0,.one,[.val (.st 17) (some (.old 0))]),cx 3 (.st 1)] (.seq (sw 33 [wm 5,wm 4,wB .lss 33] (Kp 34359738429) (ce 35 [0,2,3,4,5] (Kp 13) 0)) (.seq (.block 1 (.BW (qd 0 [wn 38 [wo 0 3,wL,wm 0]] (.op 3 none [38] (.call 41 AJ [] rfl [(.tmp 40),(.k (.int .i64 12))])
 (.op 4 none [] (.bin 42 .num .add (.k (.int .i64 2)) (.tmp 41))
 (.op 5 none [38] (.AR 43 1 .i [(0,(.tmp 42))])
 (qd 6 [wn 44 [wh (.app · .i true (.tmp 39) (.tmp 43)),wo 0 3],
 qn [qw 1 45 44]] .nil))))) [0,2,3,4,5])) (qr [wn 36 [wm 5,wI .add 1],
 qn [qa 5 37]] (Kp 61)))))) (sq [qL 46 9 3,qw 9 2 46] [0,2] .ret))))⟩
noncomputable def ao(x_:(AI×AN)):Option (AN×AI):=
 match x_ with
 |(v15,v16)=>some (v16,v15)
noncomputable def aq(x9:(Int×AI))(L10:(Int×AI×AN)->Option (AN×AI))(x_:(Int×AI×AN)):Option (AN×AI):=
 match x_ with
 |(v11,v12,v13)=>br (decide (v11<w64 (1+x9.fst)))
  (bd (Ao v12 12) fun x14=>
  gd (v13.AM.length+[w64 (2+x14.fst)].length<=lim) (
  L10 ((w64 (v11+1),x14.snd,AN.mk (v13.AM++[w64 (2+x14.fst)]) v13.Bq v13.Room v13.AY v13.CI v13.BI v13.Rest v13.BF v13.Cc))))
  (jn (ao) (v12,v13))
noncomputable def ak(p0:AI):Option (AN×AI):=
 bd (Ao p0 5) fun x1=>
 bd (Ao x1.snd 9) fun x2=>
 bd (Ao x2.snd 6) fun x3=>
 bd (Ao x3.snd 5) fun x4=>
 bd (Ao x4.snd 4) fun x5=>
 bd (Ao x5.snd 4) fun x6=>
 bd (Ao x6.snd 4) fun x7=>
 bd (Ao x7.snd 3) fun x8=>
 bd (Ao x8.snd 3) fun x9=>
 Ap (aq x9) big ((0,x9.snd,AN.mk [] (w64 (1+x1.fst)) (w64 (2+x2.fst)) (w64 (1+x3.fst)) (w64 (1+x4.fst)) (w64 (1+x5.fst)) x6.fst (w64 (1+x7.fst)) (w64 (1+x8.fst))))
noncomputable def Ka:GF:=AAe.gf rfl rfl (fun a=>ak a.1) (fun a=>by kernel_rfl)
noncomputable def AAf:YF:=⟨[],[.b (.st 17),.v .i],[],.ret [.b],[.tmp 4],
 sq [qB 4 false] [0,1] (sr [wn 5 [wm 0,wm 1,wc AJ rfl [5,6],wI .eql 0],
 qn [qa 4 8]] [0,4] .ret)⟩
noncomputable def Ea(p0:AI)(p1:Int):Option (Bool×AI):=
 bd (Ao p0 p1) fun x1=>
 some (x1.fst==0,x1.snd)
noncomputable def BD:GF:=AAf.gf rfl rfl (fun a=>Ea a.1 a.2.1) (fun a=>by kernel_rfl)
noncomputable def AAg:YF:=⟨[],[.b (.st 17),.v (.st 1),.v .i],[],.ret [(.st 2)],[.cell 6 (some 10)],
 sq [qu 4 1,.alloc 6 BS] (Kp 85) (.seq (.BW (.op 0 none [] (.mv 8 (.tmp 0))
 (qd 3 [wn 11 [wm 0,wo 0 4,wL,wZ]] (qd 8 [wn 16 [wm 0,wo 3 4,wL]] (qd 13 [wn 21 [wm 0,wo 1 4,wL]] (.op 17 none [] (.mv 25 (.tmp 0))
 (qd 20 [wn 28 [wm 0,wo 7 4,wL]] (.both 0 (.op 1 none [12,17,22,29] (.call 9 AJ [] rfl [(.tmp 8),(.k (.int .i64 12))])
 (.op 2 none [] (.bin 10 .num .add (.k (.int .i64 1)) (.tmp 9))
 (.both 0 (.op 7 none [17,22,29] (.call 15 AJ [] rfl [(.tmp 11),(.tmp 14)])
 (.both 0 (.op 11 none [22,29] (.call 19 AJ [] rfl [(.tmp 16),(.tmp 18)])
 (.op 12 none [] (.bin 20 .num .add (.k (.int .i64 1)) (.tmp 19))
 (.both 0 (.op 16 none [29] (.call 24 AJ [] rfl [(.tmp 21),(.tmp 23)])
 (.both 0 (.op 18 none [29] (.call 26 AJ [] rfl [(.tmp 25),(.k (.int .i64 40))])
 (.op 19 none [] (.bin 27 .num .add (.k (.int .i64 1)) (.tmp 26))
 (.both 0 (qd 23 [wn 31 [wc AJ rfl [28,30],wh (.build · BS [(0,1,(.tmp 10)),(1,1,(.tmp 15)),(2,1,(.k (.int .i64 (-1)))),(3,1,(.tmp 20)),(4,1,(.tmp 24)),(6,1,(.tmp 27)),(7,1,(.k (.int .i64 1))),(9,1,(.tmp 31))])]] (.op 25 none [12,17,22,29] (.alloc 7 BS)
 (.op 26 none [] (.st 10 (.tmp 7) (.tmp 32))
 .nil))) (.op 25 none [12,17,22,29] (.alloc 7 BS)
 (qd 23 [wn 31 [wc AJ rfl [28,30],wh (.build · BS [(0,1,(.tmp 10)),(1,1,(.tmp 15)),(2,1,(.k (.int .i64 (-1)))),(3,1,(.tmp 20)),(4,1,(.tmp 24)),(6,1,(.tmp 27)),(7,1,(.k (.int .i64 1))),(9,1,(.tmp 31))])]] (.op 26 none [] (.st 10 (.tmp 7) (.tmp 32))
 .nil)))))) (.op 25 none [12,17,22,29] (.alloc 7 BS)
 (.op 18 none [29] (.call 26 AJ [] rfl [(.tmp 25),(.k (.int .i64 40))])
 (.op 19 none [] (.bin 27 .num .add (.k (.int .i64 1)) (.tmp 26))
 (qd 23 [wn 31 [wc AJ rfl [28,30],wh (.build · BS [(0,1,(.tmp 10)),(1,1,(.tmp 15)),(2,1,(.k (.int .i64 (-1)))),(3,1,(.tmp 20)),(4,1,(.tmp 24)),(6,1,(.tmp 27)),(7,1,(.k (.int .i64 1))),(9,1,(.tmp 31))])]] (.op 26 none [] (.st 10 (.tmp 7) (.tmp 32))
 .nil))))))) (.op 25 none [12,17,22,29] (.alloc 7 BS)
 (.op 16 none [29] (.call 24 AJ [] rfl [(.tmp 21),(.tmp 23)])
 (.op 18 none [29] (.call 26 AJ [] rfl [(.tmp 25),(.k (.int .i64 40))])
 (.op 19 none [] (.bin 27 .num .add (.k (.int .i64 1)) (.tmp 26))
 (qd 23 [wn 31 [wc AJ rfl [28,30],wh (.build · BS [(0,1,(.tmp 10)),(1,1,(.tmp 15)),(2,1,(.k (.int .i64 (-1)))),(3,1,(.tmp 20)),(4,1,(.tmp 24)),(6,1,(.tmp 27)),(7,1,(.k (.int .i64 1))),(9,1,(.tmp 31))])]] (.op 26 none [] (.st 10 (.tmp 7) (.tmp 32))
 .nil))))))))) (.op 25 none [12,17,22,29] (.alloc 7 BS)
 (.op 11 none [22,29] (.call 19 AJ [] rfl [(.tmp 16),(.tmp 18)])
 (.op 12 none [] (.bin 20 .num .add (.k (.int .i64 1)) (.tmp 19))
 (.op 16 none [29] (.call 24 AJ [] rfl [(.tmp 21),(.tmp 23)])
 (.op 18 none [29] (.call 26 AJ [] rfl [(.tmp 25),(.k (.int .i64 40))])
 (.op 19 none [] (.bin 27 .num .add (.k (.int .i64 1)) (.tmp 26))
 (qd 23 [wn 31 [wc AJ rfl [28,30],wh (.build · BS [(0,1,(.tmp 10)),(1,1,(.tmp 15)),(2,1,(.k (.int .i64 (-1)))),(3,1,(.tmp 20)),(4,1,(.tmp 24)),(6,1,(.tmp 27)),(7,1,(.k (.int .i64 1))),(9,1,(.tmp 31))])]] (.op 26 none [] (.st 10 (.tmp 7) (.tmp 32))
 .nil)))))))))) (.op 25 none [12,17,22,29] (.alloc 7 BS)
 (.op 7 none [17,22,29] (.call 15 AJ [] rfl [(.tmp 11),(.tmp 14)])
 (.op 11 none [22,29] (.call 19 AJ [] rfl [(.tmp 16),(.tmp 18)])
 (.op 12 none [] (.bin 20 .num .add (.k (.int .i64 1)) (.tmp 19))
 (.op 16 none [29] (.call 24 AJ [] rfl [(.tmp 21),(.tmp 23)])
 (.op 18 none [29] (.call 26 AJ [] rfl [(.tmp 25),(.k (.int .i64 40))])
 (.op 19 none [] (.bin 27 .num .add (.k (.int .i64 1)) (.tmp 26))
 (qd 23 [wn 31 [wc AJ rfl [28,30],wh (.build · BS [(0,1,(.tmp 10)),(1,1,(.tmp 15)),(2,1,(.k (.int .i64 (-1)))),(3,1,(.tmp 20)),(4,1,(.tmp 24)),(6,1,(.tmp 27)),(7,1,(.k (.int .i64 1))),(9,1,(.tmp 31))])]] (.op 26 none [] (.st 10 (.tmp 7) (.tmp 32))
 .nil)))))))))))) (.op 25 none [12,17,22,29] (.alloc 7 BS)
 (.op 1 none [12,17,22,29] (.call 9 AJ [] rfl [(.tmp 8),(.k (.int .i64 12))])
 (.op 2 none [] (.bin 10 .num .add (.k (.int .i64 1)) (.tmp 9))
 (.op 7 none [17,22,29] (.call 15 AJ [] rfl [(.tmp 11),(.tmp 14)])
 (.op 11 none [22,29] (.call 19 AJ [] rfl [(.tmp 16),(.tmp 18)])
 (.op 12 none [] (.bin 20 .num .add (.k (.int .i64 1)) (.tmp 19))
 (.op 16 none [29] (.call 24 AJ [] rfl [(.tmp 21),(.tmp 23)])
 (.op 18 none [29] (.call 26 AJ [] rfl [(.tmp 25),(.k (.int .i64 40))])
 (.op 19 none [] (.bin 27 .num .add (.k (.int .i64 1)) (.tmp 26))
 (qd 23 [wn 31 [wc AJ rfl [28,30],wh (.build · BS [(0,1,(.tmp 10)),(1,1,(.tmp 15)),(2,1,(.k (.int .i64 (-1)))),(3,1,(.tmp 20)),(4,1,(.tmp 24)),(6,1,(.tmp 27)),(7,1,(.k (.int .i64 1))),(9,1,(.tmp 31))])]] (.op 26 none [] (.st 10 (.tmp 7) (.tmp 32))
 .nil)))))))))))))))))) [0,2,4,6,7]) (.join [(true,0,.one,[.val (.st 17) (some (.old 0))]),cx 7 (.st 2)] (sw 33 [wm 2,wc Ax rfl [33,qj 0,qj 10000000]] (Kp 17179869397) (.cond 34 [0,2,4,6,7] (Kp 209) (sr [wn 35 [wm 0,wm 2,wI .add 1,wc AJ rfl [35,37],wo 5 7],
 qn [qw 1 39 38]] (Kp 213) (.join [(true,0,.one,[.val (.st 17) (some (.old 0))]),cx 7 (.st 2)] (sw 40 [wm 0,wc BD rfl [40,qj 3]] (Kp 2199023255765) (.cond 41 [0,2,4,6,7] (Kp 213) (qr [wn 42 [wm 0,wm 2,wo 6 4,wL,wB .add 43,wI .add 1,wc AJ rfl [42,47],wo 8 7],
 qn [qw 1 49 48]] (Kp 213)) .skip)) (sw 50 [wm 0,wc BD rfl [50,qj 3]] [0,2,4,6,7,51] (.cond 51 [0,2,4,6,7] (Kp 209) (sq [qo 52 7 7,.st 1 (.tmp 52) (.k (.int .i64 2))] (Kp 213) (qr [wn 53 [wm 0,wm 2,wo 5 4,wL,wB .add 54,wc AJ rfl [53,57],wh (.bin · .num .add (.k (.int .i64 1)) (.tmp 58)),wo 8 7],
 qn [qw 1 60 59]] (Kp 209))) .skip)))) .skip)) (.join [(true,0,.one,[.val (.st 17) (some (.old 0))]),cx 7 (.st 2)] (sw 61 [wm 0,wc BD rfl [61,qj 4]] [0,4,6,7,62] (.cond 62 [0,4,6,7] (Kp 193) (qr [wn 63 [wm 0,wo 0 4,wL,wZ,wc AJ rfl [63,66],wo 2 7],
 qn [qw 1 68 67]] (Kp 193)) .skip)) (sq [qL 69 10 7,qw 10 6 69] [0,6] .ret))))⟩
noncomputable def Rj(x_:(AI×AH)):Option (AH×AI):=
 match x_ with
 |(v40,v41)=>some (v41,v40)
noncomputable def KB(p1:AN)(x_:(AI×AH)):Option (AH×AI):=
 match x_ with
 |(v36,v37)=>bd (Ea v36 4) fun x38=>
 br x38.fst
  (bd (Ao x38.snd (↑p1.AM.length:Int)) fun x39=>
  jn (Rj) (x39.snd,AH.mk v37.Id v37.AK x39.fst v37.AY v37.Bb v37.Since v37.AQ v37.State v37.Bh v37.Ba))
  (jn (Rj) (x38.snd,v37))
noncomputable def Nc(p1:AN)(p2:Int)(x_:(AI×AH)):Option (AH×AI):=
 match x_ with
 |(v32,v33)=>bd (Ea v32 3) fun x34=>
 br x34.fst
  (bd (Ao x34.snd (w64 (p2+p1.BI))) fun x35=>
  jn (KB p1) ((x35.snd,AH.mk v33.Id v33.AK v33.Ay v33.AY v33.Bb v33.Since v33.AQ 2 (w64 (1+x35.fst)) v33.Ba)))
  (jn (KB p1) (x34.snd,v33))
noncomputable def ar(p0:AI)(p1:AN)(p2:Int):Option (AH×AI):=
 bd (Ao p0 12) fun x1=>
 bd (Ao x1.snd (↑p1.AM.length:Int)) fun x2=>
 bd (Ao x2.snd p1.AY) fun x3=>
 bd (Ao x3.snd p1.Bq) fun x4=>
 bd (Ao x4.snd 40) fun x5=>
 bd (Ao x5.snd p1.BF) fun x6=>
 bd (Ao x5.snd p1.BF) fun x7=>
 eqv x6.fst x7.fst (
 ev8 (w64 (1+x1.fst)) x2.fst ((-1):Int) (w64 (1+x3.fst)) x4.fst (0:Int) (w64 (1+x5.fst)) (1:Int) (
 eqv (α:=Int) 0 0 (
 eqv x6.fst x7.fst (
 D8 x6.snd x7.snd (
 ev8 (w64 (1+x1.fst)) x2.fst ((-1):Int) (w64 (1+x3.fst)) x4.fst (0:Int) (w64 (1+x5.fst)) (1:Int) (
 eqv (α:=Int) 0 0 (
 eqv x6.fst x7.fst (
 bd (Ao x4.snd 40) fun x8=>
 bd (Ao x8.snd p1.BF) fun x9=>
 eqv x5.fst x8.fst (
 eqv (w64 (1+x5.fst)) (w64 (1+x8.fst)) (
 eqv x6.fst x9.fst (
 ev6 (w64 (1+x1.fst)) x2.fst ((-1):Int) (w64 (1+x3.fst)) x4.fst (0:Int) (
 eqv (w64 (1+x5.fst)) (w64 (1+x8.fst)) (
 ev2 (1:Int) (0:Int) (
 eqv x6.fst x9.fst (
 D8 x6.snd x9.snd (
 ev6 (w64 (1+x1.fst)) x2.fst ((-1):Int) (w64 (1+x3.fst)) x4.fst (0:Int) (
 eqv (w64 (1+x5.fst)) (w64 (1+x8.fst)) (
 ev2 (1:Int) (0:Int) (
 eqv x6.fst x9.fst (
 bd (Ao x3.snd p1.Bq) fun x10=>
 bd (Ao x10.snd 40) fun x11=>
 bd (Ao x11.snd p1.BF) fun x12=>
 eqv x4.fst x10.fst (
 eqv x5.fst x11.fst (
 eqv (w64 (1+x5.fst)) (w64 (1+x11.fst)) (
 eqv x6.fst x12.fst (
 ev4 (w64 (1+x1.fst)) x2.fst ((-1):Int) (w64 (1+x3.fst)) (
 eqv x4.fst x10.fst (
 eqv (α:=Int) 0 0 (
 eqv (w64 (1+x5.fst)) (w64 (1+x11.fst)) (
 ev2 (1:Int) (0:Int) (
 eqv x6.fst x12.fst (
 D8 x6.snd x12.snd (
 ev4 (w64 (1+x1.fst)) x2.fst ((-1):Int) (w64 (1+x3.fst)) (
 eqv x4.fst x10.fst (
 eqv (α:=Int) 0 0 (
 eqv (w64 (1+x5.fst)) (w64 (1+x11.fst)) (
 ev2 (1:Int) (0:Int) (
 eqv x6.fst x12.fst (
 bd (Ao x2.snd p1.AY) fun x13=>
 bd (Ao x13.snd p1.Bq) fun x14=>
 bd (Ao x14.snd 40) fun x15=>
 bd (Ao x15.snd p1.BF) fun x16=>
 eqv x3.fst x13.fst (
 eqv (w64 (1+x3.fst)) (w64 (1+x13.fst)) (
 eqv x4.fst x14.fst (
 eqv x5.fst x15.fst (
 eqv (w64 (1+x5.fst)) (w64 (1+x15.fst)) (
 eqv x6.fst x16.fst (
 ev3 (w64 (1+x1.fst)) x2.fst ((-1):Int) (
 eqv (w64 (1+x3.fst)) (w64 (1+x13.fst)) (
 eqv x4.fst x14.fst (
 eqv (α:=Int) 0 0 (
 eqv (w64 (1+x5.fst)) (w64 (1+x15.fst)) (
 ev2 (1:Int) (0:Int) (
 eqv x6.fst x16.fst (
 D8 x6.snd x16.snd (
 ev3 (w64 (1+x1.fst)) x2.fst ((-1):Int) (
 eqv (w64 (1+x3.fst)) (w64 (1+x13.fst)) (
 eqv x4.fst x14.fst (
 eqv (α:=Int) 0 0 (
 eqv (w64 (1+x5.fst)) (w64 (1+x15.fst)) (
 ev2 (1:Int) (0:Int) (
 eqv x6.fst x16.fst (
 bd (Ao x1.snd (↑p1.AM.length:Int)) fun x17=>
 bd (Ao x17.snd p1.AY) fun x18=>
 bd (Ao x18.snd p1.Bq) fun x19=>
 bd (Ao x19.snd 40) fun x20=>
 bd (Ao x20.snd p1.BF) fun x21=>
 eqv x2.fst x17.fst (
 eqv x3.fst x18.fst (
 eqv (w64 (1+x3.fst)) (w64 (1+x18.fst)) (
 eqv x4.fst x19.fst (
 eqv x5.fst x20.fst (
 eqv (w64 (1+x5.fst)) (w64 (1+x20.fst)) (
 eqv x6.fst x21.fst (
 eqv (w64 (1+x1.fst)) (w64 (1+x1.fst)) (
 eqv x2.fst x17.fst (
 eqv (α:=Int) (-1) (-1) (
 eqv (w64 (1+x3.fst)) (w64 (1+x18.fst)) (
 eqv x4.fst x19.fst (
 eqv (α:=Int) 0 0 (
 eqv (w64 (1+x5.fst)) (w64 (1+x20.fst)) (
 ev2 (1:Int) (0:Int) (
 eqv x6.fst x21.fst (
 D8 x6.snd x21.snd (
 eqv (w64 (1+x1.fst)) (w64 (1+x1.fst)) (
 eqv x2.fst x17.fst (
 eqv (α:=Int) (-1) (-1) (
 eqv (w64 (1+x3.fst)) (w64 (1+x18.fst)) (
 eqv x4.fst x19.fst (
 eqv (α:=Int) 0 0 (
 eqv (w64 (1+x5.fst)) (w64 (1+x20.fst)) (
 ev2 (1:Int) (0:Int) (
 eqv x6.fst x21.fst (
 bd (Ao p0 12) fun x22=>
 bd (Ao x22.snd (↑p1.AM.length:Int)) fun x23=>
 bd (Ao x23.snd p1.AY) fun x24=>
 bd (Ao x24.snd p1.Bq) fun x25=>
 bd (Ao x25.snd 40) fun x26=>
 bd (Ao x26.snd p1.BF) fun x27=>
 eqv x1.fst x22.fst (
 eqv (w64 (1+x1.fst)) (w64 (1+x22.fst)) (
 eqv x2.fst x23.fst (
 eqv x3.fst x24.fst (
 eqv (w64 (1+x3.fst)) (w64 (1+x24.fst)) (
 eqv x4.fst x25.fst (
 eqv x5.fst x26.fst (
 eqv (w64 (1+x5.fst)) (w64 (1+x26.fst)) (
 eqv x6.fst x27.fst (
 eqv (w64 (1+x1.fst)) (w64 (1+x22.fst)) (
 eqv x2.fst x23.fst (
 eqv (α:=Int) (-1) (-1) (
 eqv (w64 (1+x3.fst)) (w64 (1+x24.fst)) (
 eqv x4.fst x25.fst (
 eqv (α:=Int) 0 0 (
 eqv (w64 (1+x5.fst)) (w64 (1+x26.fst)) (
 ev2 (1:Int) (0:Int) (
 eqv x6.fst x27.fst (
 D8 x6.snd x27.snd (
 eqv (w64 (1+x1.fst)) (w64 (1+x22.fst)) (
 eqv x2.fst x23.fst (
 eqv (α:=Int) (-1) (-1) (
 eqv (w64 (1+x3.fst)) (w64 (1+x24.fst)) (
 eqv x4.fst x25.fst (
 eqv (α:=Int) 0 0 (
 eqv (w64 (1+x5.fst)) (w64 (1+x26.fst)) (
 ev2 (1:Int) (0:Int) (
 eqv x6.fst x27.fst (
 bd (CN p2 0 10000000) fun x28=>
 br x28
  (bd (Ao x6.snd (w64 (p2+1))) fun x29=>
  bd (Ea x29.snd 3) fun x30=>
  br x30.fst
   (bd (Ao x30.snd (w64 (w64 (p2+p1.Rest)+1))) fun x31=>
   jn (Nc p1 p2) ((x31.snd,AH.mk (w64 (1+x1.fst)) x2.fst (-1) (w64 (1+x3.fst)) x4.fst x29.fst (w64 (1+x5.fst)) 1 x31.fst x6.fst)))
   (jn (Nc p1 p2) ((x30.snd,AH.mk (w64 (1+x1.fst)) x2.fst (-1) (w64 (1+x3.fst)) x4.fst x29.fst (w64 (1+x5.fst)) 1 0 x6.fst))))
  (jn (KB p1) ((x6.snd,AH.mk (w64 (1+x1.fst)) x2.fst (-1) (w64 (1+x3.fst)) x4.fst 0 (w64 (1+x5.fst)) 1 0 x6.fst)))))))))))))))))))))))))))))))))))))))))))))))))))))))))))))))))))))))))))))))))))))))))))))))))))))))))))))))))))
noncomputable def Kb:GF:=AAg.gf rfl rfl (fun a=>ar a.1 a.2.1 a.2.2.1) (fun a=>by kernel_rfl)
noncomputable def AAh:YF:=⟨[],[.v (.l (.st 2)),.v .i],[],.ret [.i],[.tmp 4],
 sq [qK 4 0] [0,1] (.join [] (sq [qK 5 0] (Kp 35) (bl 0 [cv 5 .i] (.seq (sw 6 [wM,wm 0,wZ,wB .lss 6] (Kp 547) (ce 9 (Kp 35) [] 0)) (.seq (.block 1 (sw 12 [wm 0,wm 5,wE (.st 2) 12,wO 0,wL,wm 1,wB .eql 16] (Kp 262179) (.cond 18 [5] (Kp 35) (sq [qm 19 5,qa 4 19] [4] .ret) .skip))) (qr [wn 10 [wm 5,wI .add 1],
 qn [qa 5 11]] (Kp 35)))))) (sq [qK 4 (-1)] [4] .ret))⟩
noncomputable def Rk(_:PUnit):Option Int:=
 some (-1)
noncomputable def Nf(p0:(List AH))(p1:Int)(L1:Int->Option Int)(v2:Int):Option Int:=
 br (decide (v2<(↑p0.length:Int)))
  (bd (at? p0 v2) fun x3=>
  br (x3.Id==p1)
   (some v2)
   (L1 (w64 (v2+1))))
  (jn (Rk) ())
noncomputable def Nd(p0:(List AH))(p1:Int):Option Int:=
 Ap (Nf p0 p1) big 0
noncomputable def E3:GF:=AAh.gf rfl rfl (fun a=>Nd a.1 a.2.1) (fun a=>by kernel_rfl)
noncomputable def AAi:YF:=⟨[],[.v (.st 8),.v (.st 2)],[],.ret [.b],[.tmp 4],
 sq [qu 2 0,qu 3 1,qB 4 false] [2,3] (.seq (.BW (qd 1 [wn 8 [wo 11 2,wL]] (.op 4 none [] (.ld 11 (some 10) (.tmp 3))
 (.both 0 (.op 0 none [3,8] (.AR 7 0 (.st 2) [])
 (.both 0 (.op 3 none [3] (.app 10 (.st 2) true (.tmp 7) (.tmp 9))
 (.op 5 none [8] (.AR 12 1 (.st 2) [(0,(.tmp 11))])
 (qd 6 [qn [.app 13 (.st 2) true (.tmp 10) (.tmp 12),qa 5 13]] .nil))) (.op 5 none [8] (.AR 12 1 (.st 2) [(0,(.tmp 11))])
 (.op 3 none [3] (.app 10 (.st 2) true (.tmp 7) (.tmp 9))
 (qd 6 [qn [.app 13 (.st 2) true (.tmp 10) (.tmp 12),qa 5 13]] .nil))))) (.op 5 none [8] (.AR 12 1 (.st 2) [(0,(.tmp 11))])
 (.op 0 none [3,8] (.AR 7 0 (.st 2) [])
 (.op 3 none [3] (.app 10 (.st 2) true (.tmp 7) (.tmp 9))
 (qd 6 [qn [.app 13 (.st 2) true (.tmp 10) (.tmp 12),qa 5 13]] .nil))))))) [2,5]) (.join [] (sq [qK 6 0] (Kp 100) (bl 0 [cv 6 .i] (.seq (sw 14 [wm 6,wo 12 2,wL,wZ,wB .lss 14] (Kp 262244) (ce 18 (Kp 100) [] 0)) (.seq (.block 1 (.seq (.BW (qd 0 [wn 21 [wm 5,wm 6]] (qd 3 [wn 24 [wm 5,wm 6]] (qd 7 [wn 28 [wo 0 2,wO 0,wL,wm 6,wE .i 30,wL]] (.op 2 none [29,32] (.call 23 KS [] rfl [(.tmp 21),(.tmp 22)])
 (.op 5 none [29,32] (.call 26 KT [] rfl [(.tmp 24),(.tmp 25)])
 (.op 6 none [] (.bin 27 .num .add (.tmp 23) (.tmp 26))
 (.op 13 none [] (.bin 34 .num .gtr (.tmp 27) (.tmp 33))
 .nil))))))) [2,5,6,34]) (cn 34 (Kp 100) (sq [qB 4 false] [4] .ret)))) (qr [wn 19 [wm 6,wI .add 1],
 qn [qa 6 20]] (Kp 100)))))) (sq [qB 4 true] [4] .ret)))⟩
noncomputable def au(_:PUnit):Option Bool:=
 some true
noncomputable def Rl(p0:AA)(p1:AH)(L1:Int->Option Bool)(v2:Int):Option Bool:=
 br (decide (v2<(↑p0.AE.length:Int)))
  (bd (at? p0.AG.AM v2) fun x3=>
  bd (mu ([]++p0.AB++[p1]) v2) fun x4=>
  bd (mw ([]++p0.AB++[p1]) v2) fun x5=>
  br (decide (w64 (x4+x5)>x3))
   (some false)
   (L1 (w64 (v2+1))))
  (jn (au) ())
noncomputable def kD(p0:AA)(p1:AH):Option Bool:=
 gd (0+p0.AB.length<=lim) (
 gd (([]++p0.AB).length+[p1].length<=lim) (
 gd (0+p0.AB.length<=lim) (
 gd (([]++p0.AB).length+[p1].length<=lim) (
 ev2 ([]++p0.AB++[p1]) [p1] (
 gd (0+p0.AB.length<=lim) (
 gd (([]++p0.AB).length+[p1].length<=lim) (
 ev2 ([]++p0.AB++[p1]) [p1] (
 Ap (Rl p0 p1) big 0))))))))
noncomputable def Sx:GF:=AAi.gf rfl rfl (fun a=>kD a.1 a.2.1) (fun a=>by kernel_rfl)
noncomputable def AAj:YF:=⟨[],[.v (.l (.st 2)),.v (.st 2)],[],.ret [(.l (.st 2))],[.tmp 4],
 sq [qu 3 1,.as 4 (.k .nil),.A6 [(.tmp 4 0,(.st 2))]] [0,3] (sr [wn 7 [wm 0,wo 0 3,wL,wc E3 rfl [7,9]],
 qn [qa 5 10]] (Kp 41) (sr [wn 11 [wh (.AR · 0 (.st 2) []),wm 0,wh (.app · (.st 2) true (.tmp 11) (.tmp 12))],
 qn [qa 6 13]] (Kp 105) (.seq (sw 14 [wm 5,wI .geq 0] (Kp 32873) (.cond 15 (Kp 104) [0,3] (sr [wn 16 [wm 6,wm 5,wk 10 3,we (.st 2) 16 17],
 qn [qw 10 19 18]] [6] (sq [qm 20 6,qa 4 20] [4] .ret)) .skip)) (sq [qK 5 0] (Kp 41) (.join [cv 5 .i] (bl 0 [cv 5 .i] (.seq (.join [cv 34 .b] (.BW (qd 0 [wn 21 [wm 5,wm 0,wZ,wB .lss 21,wM],
 wt 25 26 [wm 0,wm 5,wE (.st 2) 26,wO 0,wL,wo 0 3,wL,wB .lss 30],
 qn [qq 34 25 33]] .nil) [0,3,5,34]) (ce 34 [0,3,5] (Kp 41) 0)) (.block 1 (qr [wn 35 [wm 5,wI .add 1],
 qn [qa 5 36]] (Kp 41))))) (.seq (.BW (qd 1 [wn 38 [wm 0,wm 5,wh (.sub · (.st 2) (.tmp 38) none (some (.tmp 39)))]] (.op 5 none [] (.ld 42 (some 10) (.tmp 3))
 (.both 0 (.op 0 none [3] (.AR 37 0 (.st 2) [])
 (.both 0 (.op 4 none [3] (.app 41 (.st 2) true (.tmp 37) (.tmp 40))
 (qd 6 [wn 43 [wh (.AR · 1 (.st 2) [(0,(.tmp 42))]),wh (.app · (.st 2) true (.tmp 41) (.tmp 43))],
 qn [qa 6 44]] .nil)) (.op 6 none [] (.AR 43 1 (.st 2) [(0,(.tmp 42))])
 (.op 4 none [3] (.app 41 (.st 2) true (.tmp 37) (.tmp 40))
 (qd 7 [qn [.app 44 (.st 2) true (.tmp 41) (.tmp 43),qa 6 44]] .nil))))) (.op 6 none [] (.AR 43 1 (.st 2) [(0,(.tmp 42))])
 (.op 0 none [3] (.AR 37 0 (.st 2) [])
 (.op 4 none [3] (.app 41 (.st 2) true (.tmp 37) (.tmp 40))
 (qd 7 [qn [.app 44 (.st 2) true (.tmp 41) (.tmp 43),qa 6 44]] .nil))))))) [0,5,6]) (sr [wn 45 [wm 6,wm 0,wm 5,wh (.sub · (.st 2) (.tmp 46) (some (.tmp 47)) none),wh (.app · (.st 2) true (.tmp 45) (.tmp 48))],
 qn [qa 4 49]] [4] .ret)))))))⟩
noncomputable def KD(p0:(List AH))(p1:AH)(v8:Int):Option (List AH):=
 gd (0<=v8/\v8<=(↑p0.length:Int)) (
 gd (0+(List.take v8.toNat p0).length<=lim) (
 gd (([]++List.take v8.toNat p0).length+[p1].length<=lim) (
 gd (0+(List.take v8.toNat p0).length<=lim) (
 gd (([]++List.take v8.toNat p0).length+[p1].length<=lim) (
 ev2 ([]++List.take v8.toNat p0++[p1]) [p1] (
 gd (0+(List.take v8.toNat p0).length<=lim) (
 gd (([]++List.take v8.toNat p0).length+[p1].length<=lim) (
 ev2 ([]++List.take v8.toNat p0++[p1]) [p1] (
 gd (0<=v8/\v8<=(↑p0.length:Int)) (
 gd (([]++List.take v8.toNat p0++[p1]).length+(List.drop v8.toNat p0).length<=lim) (
 some ([]++List.take v8.toNat p0++[p1]++List.drop v8.toNat p0))))))))))))
noncomputable def KC(p0:(List AH))(p1:AH)(L4:Int->Option (List AH))(v5:Int)(v7:Bool):Option (List AH):=
 br v7
  (L4 (w64 (v5+1)))
  (jn (KD p0 p1) v5)
noncomputable def Ng(p0:(List AH))(p1:AH)(L4:Int->Option (List AH))(v5:Int):Option (List AH):=
 br (decide (v5<(↑p0.length:Int)))
  (bd (at? p0 v5) fun x6=>
  jn (KC p0 p1 L4 v5) (decide (x6.Id<p1.Id)))
  (jn (KC p0 p1 L4 v5) false)
noncomputable def MQ(p0:(List AH))(p1:AH):Option (List AH):=
 bd (Nd p0 p1.Id) fun x1=>
 gd (0+p0.length<=lim) (
 br (decide (x1>=0))
  (bd (at? ([]++p0) x1) fun x2=>
  bd (at? ([]++p0) x1) fun x3=>
  some (([]++p0).set (Int.toNat x1) p1))
  (Ap (Ng p0 p1) big 0))
noncomputable def EF:GF:=AAj.gf rfl rfl (fun a=>MQ a.1 a.2.1) (fun a=>by kernel_rfl)
noncomputable def AAk:YF:=⟨[],[.v (.st 6),.v (.st 5)],[],.ret [(.st 6),.b],[.cell 4 (some 1),.tmp 5],
 sq [qu 2 0,qu 3 1,.alloc 4 [.nil],.A6 [(.cell 4 0,(.l (.st 5)))],qB 5 false] (Kp 28) (sr [wn 8 [wk 1 2,wY E2 rfl],
 qn [.alloc 6 [.nil],.A6 [(.cell 6 0,(.l (.st 5)))],qw 1 6 9]] (Kp 92) (.seq (.join [cv 17 .b] (qr [wn 10 [wk 1 2,wY F3 rfl,wX,wM],
 wf 13 14 [wo 0 3,wL,wI .lss 1],
 qn [qp 17 13 16]] (Kp 131164)) (.cond 17 [4,6] (Kp 92) (sq [qL 18 1 6,qw 1 4 18,qB 5 false] [4,5] .ret) .skip)) (sr [wn 19 [wo 0 3,wL,wI .rem 9],
 qn [qa 7 21]] (Kp 220) (.seq (.BW (qd 0 [wn 22 [wo 0 6,wL,wm 7,wo 0 6,wL,wm 7,wE (.l (.st 5)) 26,wL,wk 2 3]] (.op 9 none [22] (.call 31 Kv [] rfl [(.tmp 29),(.tmp 30)])
 (qd 10 [qn [qe 32 (.l (.st 5)) 23 24,qw 1 32 31]] .nil))) [2,4,6]) (.seq (sw 33 [wk 1 6,wY F3 rfl,wX] [2,4,6,35] (.cond 35 [2,4] [4,6] (sr [wn 36 [wk 1 2,wY E2 rfl],
 qn [qw 1 4 37,qB 5 false]] [4,5] .ret) .skip)) (sq [qL 38 1 6,qw 1 4 38,qB 5 true] [4,5] .ret))))))⟩
noncomputable def Ro(p0:AU)(p1:Ag)(x1:AU)(v3:Bool):Option (AU×Bool):=
 br v3
  (some (x1,false))
  (bd (at? x1.AP (p1.At.tmod 9)) fun x4=>
  bd (at? x1.AP (p1.At.tmod 9)) fun x5=>
  bd (m8 x5 p1) fun x6=>
  bd (at? x1.AP (p1.At.tmod 9)) fun x7=>
  bd (at? x1.AP (p1.At.tmod 9)) fun x8=>
  bd (bg (AU.mk (x1.AP.set (p1.At.tmod 9).toNat x6))) fun x9=>
  br (!x9)
   (bd (Rc p0) fun x10=>
   some (x10,false))
   (some ((AU.mk (x1.AP.set (p1.At.tmod 9).toNat x6),true))))
noncomputable def Rm(p0:AU)(p1:Ag):Option (AU×Bool):=
 bd (Rc p0) fun x1=>
 bd (bg p0) fun x2=>
 br (!x2)
  (jn (Ro p0 p1 x1) true)
  (jn (Ro p0 p1 x1) (decide (p1.At<1)))
noncomputable def E4:GF:=AAk.gf rfl rfl (fun a=>Rm a.1 a.2.1) (fun a=>by kernel_rfl)
noncomputable def AAl:YF:=⟨[],[.v (.st 1),.v (.l (.st 2)),.v .i,.v .i,.v .i],[],.ret [(.st 7)],[.cell 10 (some 7)],
 sq [qu 5 0,.alloc 10 C6,.A6 [(.cell 10 5,(.st 4)),(.cell 10 6,(.l (.st 5)))]] (Kp 1086) (sq [qc 18 KU rfl [],.alloc 11 [.nil],.A6 [(.cell 11 0,(.l (.st 5)))],qw 1 11 18] (Kp 3134) (sr [wn 19 [wm 1,wm 2,wc QN rfl [19,20]],
 qn [qa 12 21]] (Kp 7230) (.join [cx 11 (.st 6)] (sq [qK 13 0] (Kp 15422) (bl 0 [cv 13 .i,cx 11 (.st 6)] (.seq (sw 22 [wm 13,wm 12,wZ,wB .lss 22] (Kp 33569854) (ce 25 [1,2,3,4,5,10,11,12,13] (Kp 3134) 0)) (.seq (.block 1 (.BW (qd 0 [wn 29 [wk 1 11,wm 12,wm 13,wE (.st 5) 30,wK 2,wc E4 rfl [29,33]],
 qn [qm 28 34],
 wn 35 [wh (.ext · (.tmp 28) 0),wh (.ext · (.tmp 28) 1)],
 qn [qw 1 11 35]] .nil) [1,2,3,4,5,10,11,12,13])) (qr [wn 26 [wm 13,wI .add 1],
 qn [qa 13 27]] (Kp 15422)))))) (sr [wn 37 [wm 1,wm 2,wc KS rfl [37,38]],
 qn [qa 14 39]] (Kp 19518) (sr [wn 40 [wm 1,wm 2,wc KT rfl [40,41]],
 qn [qa 15 42]] (Kp 52286) (sr [wn 43 [wo 0 5,wL,wm 2,wE .i 44,wL],
 qn [qa 16 47]] (Kp 117822) (sr [wn 48 [wm 15,wm 16,wm 14,wB .sub 49,wm 4,wB .sub 51,wc Bm rfl [48,53]],
 qn [qa 17 54]] (Kp 248878) (.seq (.BW (qd 0 [wn 55 [wm 16,wm 16,wm 14,wB .sub 56,wm 17,wB .sub 58,wm 14,wm 17,wm 15,wh (.build · By [(0,1,(.tmp 55)),(1,1,(.tmp 60)),(2,1,(.tmp 61)),(3,1,(.tmp 62)),(4,1,(.tmp 63))]),wk 9 5,wm 1,wm 2,wm 3]] (.op 15 none [] (.ld 70 (some 1) (.tmp 11))
 (.op 14 none [11] (.call 69 Ku [] rfl [(.tmp 65),(.tmp 66),(.tmp 67),(.tmp 68)])
 (qd 16 [qn [.build 71 C6 [(0,5,(.tmp 64)),(5,1,(.tmp 69)),(6,1,(.tmp 70))],qw 7 10 71]] .nil)))) [10]) .ret))))))))⟩
noncomputable def av(p0:AN)(p1:(List AH))(p2:Int)(p3:Int)(p4:Int)(v9:AU):Option AZ:=
 bd (mu p1 p2) fun x10=>
 bd (mw p1 p2) fun x11=>
 bd (at? p0.AM p2) fun x12=>
 bd (Jw x11 (w64 (w64 (x12-x10)-p4))) fun x13=>
 bd (m7 p0 p1 p2 p3) fun x14=>
 some (AZ.mk (Am.mk x12 (w64 (w64 (x12-x10)-x13)) x10 x13 x11) x14 v9)
noncomputable def Rp(p0:AN)(p1:(List AH))(p2:Int)(p3:Int)(p4:Int)(x2:(List Ag))(L3:(Int×AU)->Option AZ)(x_:(Int×AU)):Option AZ:=
 match x_ with
 |(v4,v5)=>br (decide (v4<(↑(List.length x2):Int)))
  (bd (at? x2 v4) fun x6=>
  bd (at? x2 v4) fun x7=>
  bd (Rm v5 x7) fun x8=>
  L3 ((w64 (v4+1),x8.fst)))
  (jn (av p0 p1 p2 p3 p4) v5)
noncomputable def kE(p0:AN)(p1:(List AH))(p2:Int)(p3:Int)(p4:Int):Option AZ:=
 bd (mz) fun x1=>
 bd (m9 p1 p2) fun x2=>
 Ap (Rp p0 p1 p2 p3 p4 x2) big (0,x1)
noncomputable def Sy:GF:=AAl.gf rfl rfl (fun a=>kE a.1 a.2.1 a.2.2.1 a.2.2.2.1 a.2.2.2.2.1) (fun a=>by kernel_rfl)
noncomputable def AAm:YF:=⟨[],[.v (.l .i),.v .i],[],.ret [(.l .i)],[.tmp 4],
 sq [.as 4 (.k .nil),.A6 [(.tmp 4 0,.i)]] [0,1] (sr [wn 6 [wh (.AR · 0 .i []),wm 0,wh (.app · .i true (.tmp 6) (.tmp 7))],
 qn [qa 5 8]] (Kp 35) (.seq (sw 9 [wm 0,wm 1,wc Kq rfl [9,10]] (Kp 2082) (.cond 11 [5] [1,5] (sq [qm 12 5,qa 4 12] [4] .ret) .skip)) (sr [wn 13 [wm 5,wm 1,wh (.AR · 1 .i [(0,(.tmp 14))]),wh (.app · .i true (.tmp 13) (.tmp 15))],
 qn [qa 4 16]] [4] .ret)))⟩
noncomputable def Jp(p0:(List Int))(p1:Int):Option (List Int):=
 gd (0+p0.length<=lim) (
 bd (m3 p0 p1) fun x1=>
 br x1
  (some ([]++p0))
  (gd (([]++p0).length+[p1].length<=lim) (
  some ([]++p0++[p1]))))
noncomputable def DU:GF:=AAm.gf rfl rfl (fun a=>Jp a.1 a.2.1) (fun a=>by kernel_rfl)
noncomputable def AAn:YF:=⟨[],[.b (.st 17)],[],.ret [(.st 8)],[.cell 2 (some 15)],
 sq [.alloc 2 Ae,.A6 [(.cell 2 0,.i),(.cell 2 11,(.st 2)),(.cell 2 12,(.st 7)),(.cell 2 13,.i),(.cell 2 14,.i)]] [0,2] (sr [wn 12 [wm 0,wY Ka rfl],
 qn [.alloc 3 On,.A6 [(.cell 3 0,.i)],qw 9 3 13]] (Kp 13) (sr [wn 15 [wk 9 3,wY KZ rfl],
 qn [qm 14 16],
 wn 17 [wh (.ext · (.tmp 14) 0),wh (.ext · (.tmp 14) 1)],
 qn [.alloc 4 Ae,.A6 [(.cell 4 0,.i),(.cell 4 11,(.st 2)),(.cell 4 12,(.st 7)),(.cell 4 13,.i),(.cell 4 14,.i)],qw 15 4 17,qa 5 18]] (Kp 29) (sr [wn 19 [wm 0,wc AJ rfl [19,qj 20],wo 9 4],
 qn [qw 1 21 20]] (Kp 29) (sr [wn 22 [wm 0,wc AJ rfl [22,qj 9]],
 qn [qa 6 23]] (Kp 93) (sq [qK 7 0] (Kp 221) (.join [(true,0,.one,[.val (.st 17) (some (.old 0))]),cx 4 (.st 8)] (sq [qK 8 0] (Kp 477) (bl 0 [cv 7 .i,cv 8 .i,(true,0,.one,[.val (.st 17) (some (.old 0))]),cx 4 (.st 8)] (.seq (sw 24 [wm 8,wm 6,wB .lss 24] (Kp 67109341) (ce 26 [0,2,3,4,6,7,8] (Kp 29) 0)) (.join [cv 7 .i,(true,0,.one,[.val (.st 17) (some (.old 0))]),cx 4 (.st 8)] (.block 1 (sr [wn 29 [wm 0,wk 9 3,wo 9 4,wL,wc Kb rfl [29,30,32]],
 qn [.alloc 9 BS,qw 10 9 33]] (Kp 989) (sr [wn 34 [wm 0,wc AJ rfl [34,qj 12],wh (.bin · .num .add (.k (.int .i64 1)) (.tmp 35)),wo 0 9],
 qn [qw 1 37 36]] (Kp 989) (.seq (.BW (qd 0 [wn 38 [wo 10 4,wL,wm 0]] (.op 3 none [38] (.call 41 AJ [] rfl [(.tmp 40),(.k (.int .i64 2))])
 (qd 4 [wn 42 [wB .add 39,wo 6 9],
 qn [qw 1 43 42]] .nil))) [0,2,3,4,6,7,8,9]) (sr [wn 44 [wm 7,wm 0,wc AJ rfl [45,qj 4],wB .add 44],
 qn [qa 7 47]] (Kp 989) (sr [wn 48 [wm 7,wo 9 4,wL,wc Sv rfl [48,50],wo 5 9],
 qn [qw 1 52 51]] (Kp 989) (.join [cx 9 (.st 2)] (sw 53 [wo 2 9,wL,wo 1 9,wL,wB .eql 54] (Kp 144115188075856861) (.cond 57 [0,2,3,4,6,7,8,9] (Kp 989) (q1 [qo 58 2 9,.st 1 (.tmp 58) (.k (.int .i64 (-1)))] (Kp 989)) .skip)) (.seq (.join [cv 80 .b] (.BW (qd 0 [wn 59 [wo 11 4,wL,wo 0 9,wL,wc E3 rfl [60,62],wI .geq 0,wM],
 wf 65 66 [wo 11 4,wL,wo 1 9,wL]] (qd 12 [wf 65 71 [wo 2 3,wL]] (.op 11 (some (65,false)) [71] (.call 70 Hc [] rfl [(.tmp 67),(.tmp 69)])
 (qd 14 [qf 65 [qb 73 .geq 70 72],
 wn 74 [wR 65,wM],
 wf 75 76 [wk 15 4,wk 10 9,wc Sx rfl [76,77],wX],
 qn [qp 80 75 79]] .nil)))) [0,2,3,4,6,7,8,9,80]) (.cond 80 [0,2,3,4,6,7,8] (Kp 989) (.exit 1) .skip)) (sr [wn 81 [wo 6 9,wL,wI .add 1,wo 10 4],
 qn [qw 1 84 83]] (Kp 989) (qr [wn 85 [wo 11 4,wL,wk 10 9,wc EF rfl [86,87],wo 11 4],
 qn [qw 1 89 88]] (Kp 477))))))))))) (qr [wn 27 [wm 8,wI .add 1],
 qn [qa 8 28]] (Kp 477)))))) (.join [(true,0,.one,[.val (.st 17) (some (.old 0))]),cx 4 (.st 8)] (sq [qK 10 0] (Kp 1053) (bl 2 [cv 10 .i,(true,0,.one,[.val (.st 17) (some (.old 0))]),cx 4 (.st 8)] (.seq (sw 90 [wm 10,wo 12 4,wL,wZ,wB .lss 90] [0,2,3,4,10,94] (ce 94 [0,2,3,4,10] (Kp 29) 2)) (.join [(true,0,.one,[.val (.st 17) (some (.old 0))]),cx 4 (.st 8)] (.block 3 (.seq (.BW (qd 0 [wn 97 [wo 12 4,wL,wm 10,wk 9 3,wo 11 4,wL,wm 10,wo 9 4,wL,wm 0]] (.op 10 none [3,97,101,104] (.call 107 AJ [] rfl [(.tmp 106),(.k (.int .i64 6))])
 (.op 11 none [97] (.call 108 Sy [] rfl [(.tmp 100),(.tmp 102),(.tmp 103),(.tmp 105),(.tmp 107)])
 (qd 12 [qn [qe 109 (.st 7) 98 99,qw 7 109 108]] .nil)))) [0,2,3,4,10]) (sw 110 [wm 0,wc BD rfl [110,qj 2]] [0,2,3,4,10,111] (.cond 111 [0,2,3,4,10] (Kp 1053) (qr [wn 112 [wo 13 4,wL,wm 10,wc DU rfl [113,114],wo 13 4],
 qn [qw 1 116 115]] (Kp 1053)) .skip)))) (qr [wn 95 [wm 10,wI .add 1],
 qn [qa 10 96]] (Kp 1053)))))) (.join [(true,0,.one,[.val (.st 17) (some (.old 0))]),cx 4 (.st 8)] (sq [qK 11 0] (Kp 2077) (bl 4 [cv 11 .i,(true,0,.one,[.val (.st 17) (some (.old 0))]),cx 4 (.st 8)] (.seq (sw 117 [wm 11,wo 14 4,wL,wZ,wB .lss 117] [0,2,3,4,11,121] (ce 121 [0,2,3,4,11] (Kp 21) 4)) (.join [(true,0,.one,[.val (.st 17) (some (.old 0))]),cx 4 (.st 8)] (.block 5 (sw 124 [wm 0,wc BD rfl [124,qj 3]] [0,2,3,4,11,125] (.cond 125 [0,2,3,4,11] (Kp 2077) (.BW (qd 0 [wn 126 [wo 14 4,wL,wm 11,wm 0,wo 0 3,wL,wZ]] (.op 7 none [126] (.call 133 AJ [] rfl [(.tmp 129),(.tmp 132)])
 (qd 8 [qn [qe 134 .i 127 128,qw 1 134 133]] .nil))) [0,2,3,4,11]) .skip))) (qr [wn 122 [wm 11,wI .add 1],
 qn [qa 11 123]] (Kp 2077)))))) (sq [qL 135 15 4,qw 15 2 135] [0,2] .ret)))))))))⟩
noncomputable def Rq(L5:(Int×Int×AI×AA)->Option (AA×AI))(v7:Int)(x_:(Int×AI×AA)):Option (AA×AI):=
 match x_ with
 |(v18,v19,v20)=>L5 ((v18,w64 (v7+1),v19,v20))
noncomputable def KE(L5:(Int×Int×AI×AA)->Option (AA×AI))(v6:Int)(v7:Int)(v9:AA)(x13:(Int×AI))(v15:AH)(v17:Bool):Option (AA×AI):=
 br v17
  (jn (Rq L5 v7) ((w64 (v6+x13.fst),x13.snd,v9)))
  (bd (MQ v9.AB v15) fun x21=>
  jn (Rq L5 v7) ((w64 (v6+x13.fst),x13.snd,AA.mk v9.AG v9.Now (w64 (v15.AQ+1)) x21 v9.AE v9.AW v9.AS)))
noncomputable def Nh(x1:(AN×AI))(L5:(Int×Int×AI×AA)->Option (AA×AI))(v6:Int)(v7:Int)(v9:AA)(x13:(Int×AI))(v15:AH):Option (AA×AI):=
 bd (Nd v9.AB v15.Id) fun x16=>
 br (decide (x16>=0))
  (jn (KE L5 v6 v7 v9 x13 v15) true)
  (bd (fb v9.AB v15.AK) fun x22=>
  br (decide (x22>=x1.fst.Room))
   (jn (KE L5 v6 v7 v9 x13 v15) true)
   (bd (kD v9 v15) fun x23=>
   jn (KE L5 v6 v7 v9 x13 v15) (!x23)))
noncomputable def Rs(L26:(Int×AI×AA)->Option (AA×AI))(v27:Int)(x_:(AI×AA)):Option (AA×AI):=
 match x_ with
 |(v36,v37)=>L26 ((w64 (v27+1),v36,v37))
noncomputable def PF(L40:(Int×AI×AA)->Option (AA×AI))(v41:Int)(x_:(AI×AA)):Option (AA×AI):=
 match x_ with
 |(v48,v49)=>L40 ((w64 (v41+1),v48,v49))
noncomputable def WO(x_:(AI×AA)):Option (AA×AI):=
 match x_ with
 |(v50,v51)=>some (v51,v50)
noncomputable def bB(x1:(AN×AI))(L40:(Int×AI×AA)->Option (AA×AI))(x_:(Int×AI×AA)):Option (AA×AI):=
 match x_ with
 |(v41,v42,v43)=>br (decide (v41<(↑v43.AS.length:Int)))
  (bd (Ea v42 3) fun x44=>
  br x44.fst
   (bd (Ao x44.snd (↑x1.fst.AM.length:Int)) fun x45=>
   bd (at? v43.AS v41) fun x46=>
   bd (at? v43.AS v41) fun x47=>
   jn (PF L40 v41) ((x45.snd,AA.mk v43.AG v43.Now v43.AQ v43.AB v43.AE v43.AW (v43.AS.set (Int.toNat v41) x45.fst))))
   (jn (PF L40 v41) (x44.snd,v43)))
  (jn (WO) (v42,v43))
noncomputable def ax(x1:(AN×AI))(x_:(AI×AA)):Option (AA×AI):=
 match x_ with
 |(v38,v39)=>Ap (bB x1) big (0,v38,v39)
noncomputable def az(x1:(AN×AI))(L26:(Int×AI×AA)->Option (AA×AI))(x_:(Int×AI×AA)):Option (AA×AI):=
 match x_ with
 |(v27,v28,v29)=>br (decide (v27<(↑v29.AE.length:Int)))
  (bd (Ao v28 6) fun x30=>
  bd (kE x1.fst v29.AB v27 v29.Now x30.fst) fun x31=>
  bd (at? v29.AE v27) fun x32=>
  bd (at? v29.AE v27) fun x33=>
  bd (Ea x30.snd 2) fun x34=>
  br x34.fst
   (bd (Jp v29.AW v27) fun x35=>
   jn (Rs L26 v27) ((x34.snd,AA.mk v29.AG v29.Now v29.AQ v29.AB (v29.AE.set (Int.toNat v27) x31) x35 v29.AS)))
   (jn (Rs L26 v27) ((x34.snd,AA.mk v29.AG v29.Now v29.AQ v29.AB (v29.AE.set (Int.toNat v27) x31) v29.AW v29.AS))))
  (jn (ax x1) (v28,v29))
noncomputable def Rr(x1:(AN×AI))(x_:(AI×AA)):Option (AA×AI):=
 match x_ with
 |(v24,v25)=>Ap (az x1) big (0,v24,v25)
noncomputable def ay(x1:(AN×AI))(x4:(Int×AI))(L5:(Int×Int×AI×AA)->Option (AA×AI))(x_:(Int×Int×AI×AA)):Option (AA×AI):=
 match x_ with
 |(v6,v7,v8,v9)=>br (decide (v7<x4.fst))
  (bd (ar v8 x1.fst v9.Now) fun x10=>
  bd (Ao x10.snd 12) fun x11=>
  bd (Ao x11.snd 2) fun x12=>
  bd (Ao x12.snd 4) fun x13=>
  bd (kA (w64 (v6+x13.fst)) v9.Now) fun x14=>
  br (x10.fst.Ay==x10.fst.AK)
   (jn (Nh x1 L5 v6 v7 v9 x13) (AH.mk (w64 (1+x11.fst)) x10.fst.AK (-1) x10.fst.AY x10.fst.Bb x14 (w64 (v9.AQ+x12.fst)) x10.fst.State x10.fst.Bh x10.fst.Ba))
   (jn (Nh x1 L5 v6 v7 v9 x13) (AH.mk (w64 (1+x11.fst)) x10.fst.AK x10.fst.Ay x10.fst.AY x10.fst.Bb x14 (w64 (v9.AQ+x12.fst)) x10.fst.State x10.fst.Bh x10.fst.Ba)))
  (jn (Rr x1) (v8,v9))
noncomputable def aw(p0:AI):Option (AA×AI):=
 bd (ak p0) fun x1=>
 bd (Vx x1.fst) fun x2=>
 bd (Ao x1.snd 20) fun x3=>
 bd (Ao x3.snd 9) fun x4=>
 Ap (ay x1 x4) big (0,0,x4.snd,AA.mk x2.fst.AG x3.fst x2.fst.AQ x2.fst.AB x2.fst.AE x2.fst.AW x2.fst.AS)
noncomputable def Kc:GF:=AAn.gf rfl rfl (fun a=>aw a.1) (fun a=>by kernel_rfl)
end Lv
set_option maxRecDepth 100000
namespace Lv
open Go (IntKind BinOp UnOp)
open Y (YF qn qf qt qr q1 qd qm qa qo ql qL qb qi qx qp qq qc qz qe qk qK qB qw qu qj Kp wn wf wt w1 sw sq sr wm wM wo wO wl wL wk wK wz wZ wx wX wb wB wi wI wr wR wq wQ we wE wc wY wj wh cv ca cx cn ce bl)
noncomputable def AAo:YF:=⟨[],[.b (.st 17),.v (.st 8)],[],.ret [(.st 0)],[.cell 4 (some 6)],
 sq [qu 3 1,.alloc 4 B3] (Kp 25) (sr [wn 8 [wm 0,wc AJ rfl [8,qj 12],wh (.bin · .num .add (.k (.int .i64 1)) (.tmp 9))],
 qn [qa 5 10]] (Kp 57) (.join [cv 5 .i,(true,0,.one,[.val (.st 17) (some (.old 0))])] (.join [cv 19 .b,(true,0,.one,[.val (.st 17) (some (.old 0))])] (qr [wn 11 [wo 11 3,wL,wZ,wI .gtr 0,wM],
 wt 15 16 [wm 0,wc BD rfl [16,qj 3],wX],
 qn [qq 19 15 18]] (Kp 524345)) (.cond 19 [0,3,4] (Kp 57) (.BW (qd 0 [wn 20 [wo 11 3,wL,wm 0,wo 11 3,wL,wZ]] (.op 6 none [20] (.call 26 AJ [] rfl [(.tmp 22),(.tmp 25)])
 (qd 7 [wn 27 [wE (.st 2) 21,wO 0,wL],
 qn [qa 5 29]] .nil))) [0,3,4,5]) .skip)) (sr [wn 30 [wo 0 3,wO 0,wL,wZ,wc Bm rfl [qj 1,33]],
 qn [qa 6 34]] (Kp 121) (.seq (sw 35 [wm 0,wc AJ rfl [35,qj 12]] (Kp 68719476857) (.block 0 (.join [cv 37 .b] (sq [qi 38 .eql 36 0,qa 37 38] (Kp 206158430329) (.cond 37 [0,3,4,5,6,36,37] (Kp 68719476857) .skip (sq [qi 39 .eql 36 1,qa 37 39] (Kp 206158430329) (.cond 37 [0,3,4,5,6,36,37] (Kp 68719476857) .skip (sq [qi 40 .eql 36 2,qa 37 40] (Kp 206158430329) (.cond 37 [0,3,4,5,6,36,37] (Kp 68719476857) .skip (q1 [qi 41 .eql 36 3,qa 37 41] (Kp 206158430329)))))))) (.cond 37 [0,3,4,6] (Kp 68719476857) (.seq (.BW (.op 0 none [] (.mv 42 (.tmp 0))
 (qd 3 [wn 45 [wm 0,wm 6]] (qd 6 [wn 48 [wm 0,wo 0 3,wO 3,wL]] (qd 13 [wn 55 [wm 0,wo 0 3,wO 1,wL]] (.both 0 (.op 1 none [50,57] (.call 43 AJ [] rfl [(.tmp 42),(.k (.int .i64 14))])
 (.op 2 none [] (.bin 44 .num .add (.k (.int .i64 1)) (.tmp 43))
 (.both 0 (.op 5 none [50,57] (.call 47 AJ [] rfl [(.tmp 45),(.tmp 46)])
 (.both 0 (.op 10 none [57] (.call 52 Bm [] rfl [(.k (.int .i64 1)),(.tmp 51)])
 (.both 0 (.op 11 none [57] (.call 53 AJ [] rfl [(.tmp 48),(.tmp 52)])
 (.op 12 none [] (.bin 54 .num .add (.k (.int .i64 1)) (.tmp 53))
 (.both 0 (.op 17 none [] (.call 59 Bm [] rfl [(.k (.int .i64 1)),(.tmp 58)])
 (.both 0 (qd 18 [wn 60 [wc AJ rfl [55,59],wh (.build · B3 [(0,1,(.k (.int .i64 1))),(1,1,(.tmp 44)),(2,1,(.tmp 47)),(3,1,(.k (.int .i64 (-1)))),(4,1,(.tmp 54)),(5,1,(.tmp 60))])]] (.op 20 none [50,57] (.alloc 7 B3)
 (.op 21 none [] (.st 6 (.tmp 7) (.tmp 61))
 .nil))) (.op 20 none [50,57] (.alloc 7 B3)
 (qd 18 [wn 60 [wc AJ rfl [55,59],wh (.build · B3 [(0,1,(.k (.int .i64 1))),(1,1,(.tmp 44)),(2,1,(.tmp 47)),(3,1,(.k (.int .i64 (-1)))),(4,1,(.tmp 54)),(5,1,(.tmp 60))])]] (.op 21 none [] (.st 6 (.tmp 7) (.tmp 61))
 .nil))))) (.op 20 none [50,57] (.alloc 7 B3)
 (qd 17 [wn 59 [wc Bm rfl [qj 1,58],wc AJ rfl [55,59],wh (.build · B3 [(0,1,(.k (.int .i64 1))),(1,1,(.tmp 44)),(2,1,(.tmp 47)),(3,1,(.k (.int .i64 (-1)))),(4,1,(.tmp 54)),(5,1,(.tmp 60))])]] (.op 21 none [] (.st 6 (.tmp 7) (.tmp 61))
 .nil)))))) (.op 20 none [50,57] (.alloc 7 B3)
 (.op 11 none [57] (.call 53 AJ [] rfl [(.tmp 48),(.tmp 52)])
 (.op 12 none [] (.bin 54 .num .add (.k (.int .i64 1)) (.tmp 53))
 (qd 17 [wn 59 [wc Bm rfl [qj 1,58],wc AJ rfl [55,59],wh (.build · B3 [(0,1,(.k (.int .i64 1))),(1,1,(.tmp 44)),(2,1,(.tmp 47)),(3,1,(.k (.int .i64 (-1)))),(4,1,(.tmp 54)),(5,1,(.tmp 60))])]] (.op 21 none [] (.st 6 (.tmp 7) (.tmp 61))
 .nil))))))) (.op 20 none [50,57] (.alloc 7 B3)
 (.op 10 none [57] (.call 52 Bm [] rfl [(.k (.int .i64 1)),(.tmp 51)])
 (.op 11 none [57] (.call 53 AJ [] rfl [(.tmp 48),(.tmp 52)])
 (.op 12 none [] (.bin 54 .num .add (.k (.int .i64 1)) (.tmp 53))
 (qd 17 [wn 59 [wc Bm rfl [qj 1,58],wc AJ rfl [55,59],wh (.build · B3 [(0,1,(.k (.int .i64 1))),(1,1,(.tmp 44)),(2,1,(.tmp 47)),(3,1,(.k (.int .i64 (-1)))),(4,1,(.tmp 54)),(5,1,(.tmp 60))])]] (.op 21 none [] (.st 6 (.tmp 7) (.tmp 61))
 .nil)))))))) (.op 20 none [50,57] (.alloc 7 B3)
 (.op 5 none [50,57] (.call 47 AJ [] rfl [(.tmp 45),(.tmp 46)])
 (.op 10 none [57] (.call 52 Bm [] rfl [(.k (.int .i64 1)),(.tmp 51)])
 (.op 11 none [57] (.call 53 AJ [] rfl [(.tmp 48),(.tmp 52)])
 (.op 12 none [] (.bin 54 .num .add (.k (.int .i64 1)) (.tmp 53))
 (qd 17 [wn 59 [wc Bm rfl [qj 1,58],wc AJ rfl [55,59],wh (.build · B3 [(0,1,(.k (.int .i64 1))),(1,1,(.tmp 44)),(2,1,(.tmp 47)),(3,1,(.k (.int .i64 (-1)))),(4,1,(.tmp 54)),(5,1,(.tmp 60))])]] (.op 21 none [] (.st 6 (.tmp 7) (.tmp 61))
 .nil)))))))))) (.op 20 none [50,57] (.alloc 7 B3)
 (.op 1 none [50,57] (.call 43 AJ [] rfl [(.tmp 42),(.k (.int .i64 14))])
 (.op 2 none [] (.bin 44 .num .add (.k (.int .i64 1)) (.tmp 43))
 (.op 5 none [50,57] (.call 47 AJ [] rfl [(.tmp 45),(.tmp 46)])
 (.op 10 none [57] (.call 52 Bm [] rfl [(.k (.int .i64 1)),(.tmp 51)])
 (.op 11 none [57] (.call 53 AJ [] rfl [(.tmp 48),(.tmp 52)])
 (.op 12 none [] (.bin 54 .num .add (.k (.int .i64 1)) (.tmp 53))
 (qd 17 [wn 59 [wc Bm rfl [qj 1,58],wc AJ rfl [55,59],wh (.build · B3 [(0,1,(.k (.int .i64 1))),(1,1,(.tmp 44)),(2,1,(.tmp 47)),(3,1,(.k (.int .i64 (-1)))),(4,1,(.tmp 54)),(5,1,(.tmp 60))])]] (.op 21 none [] (.st 6 (.tmp 7) (.tmp 61))
 .nil)))))))))))))) [0,4,6,7]) (.join [(true,0,.one,[.val (.st 17) (some (.old 0))]),cx 7 (.st 0)] (sw 62 [wm 0,wc BD rfl [62,qj 3]] [0,4,6,7,63] (.cond 63 [0,4,6,7] (Kp 145) (qr [wn 64 [wm 0,wm 6,wc AJ rfl [64,65],wo 3 7],
 qn [qw 1 67 66]] (Kp 145)) .skip)) (sq [qL 68 6 7,qw 6 4 68] [0,4] .ret))) (sq [qi 70 .eql 36 4,qa 69 70] [0,3,4,5,6,36,69] (.cond 69 [0,4,5] (Kp 68719476857) (sr [wn 71 [wm 5,wh (.build · B3 [(0,1,(.k (.int .i64 2))),(1,1,(.tmp 71))])],
 qn [qw 6 4 72]] [0,4] .ret) (.join [cv 73 .b] (sq [qi 74 .eql 36 5,qa 73 74] [0,3,4,5,6,36,73] (.cond 73 [0,3,4,5,6,36,73] (Kp 68719476857) .skip (q1 [qi 75 .eql 36 6,qa 73 75] [0,3,4,5,6,36,73]))) (.cond 73 (Kp 81) [0,3,4,5,36] (sr [wn 76 [wm 0,wm 6,wc AJ rfl [76,77],wm 0,wc AJ rfl [79,qj 4],wh (.bin · .num .add (.k (.int .i64 1)) (.tmp 80)),wh (.build · B3 [(0,1,(.k (.int .i64 3))),(2,1,(.tmp 78)),(4,1,(.tmp 81))])],
 qn [qw 6 4 82]] [0,4] .ret) (sq [qi 84 .eql 36 7,qa 83 84] [0,3,4,5,36,83] (.cond 83 (Kp 49) [0,3,4,5,36] (sr [wn 85 [wm 5,wh (.build · B3 [(0,1,(.k (.int .i64 4))),(1,1,(.tmp 85))])],
 qn [qw 6 4 86]] [0,4] .ret) (sq [qi 88 .eql 36 8,qa 87 88] [0,3,4,5,36,87] (.cond 87 (Kp 49) [0,3,4,36] (sr [wn 89 [wm 5,wh (.build · B3 [(0,1,(.k (.int .i64 5))),(1,1,(.tmp 89))])],
 qn [qw 6 4 90]] [0,4] .ret) (sq [qi 92 .eql 36 9,qa 91 92] [0,3,4,91] (.cond 91 [0,4] (Kp 25) (sq [.build 93 B3 [(0,1,(.k (.int .i64 6)))],qw 6 4 93] [0,4] .ret) .skip)))))))))))))) (sr [wn 94 [wm 0,wo 0 3,wO 8,wL,wc Bm rfl [qj 1,97],wc AJ rfl [94,98],wh (.build · B3 [(0,1,(.k (.int .i64 7))),(1,1,(.tmp 99))])],
 qn [qw 6 4 100]] [0,4] .ret)))))⟩
noncomputable def Rt(x_:(AI×Aq)):Option (Aq×AI):=
 match x_ with
 |(v41,v42)=>some (v42,v41)
noncomputable def Nl(p1:AA)(v7:Int)(x9:Int)(x10:(Int×AI))(v43:Bool):Option (Aq×AI):=
 br v43
  (bd (Ao x10.snd x9) fun x44=>
  bd (Ao x44.snd 4) fun x45=>
  some ((Aq.mk 3 0 x44.fst 0 (w64 (1+x45.fst)) 0,x45.snd)))
  (br (x10.fst==7)
   (some (Aq.mk 4 v7 0 0 0 0,x10.snd))
   (br (x10.fst==8)
    (some (Aq.mk 5 v7 0 0 0 0,x10.snd))
    (br (x10.fst==9)
     (some (Aq.mk 6 0 0 0 0 0,x10.snd))
     (bd (Jw 1 p1.AG.Cc) fun x46=>
     bd (Ao x10.snd x46) fun x47=>
     some (Aq.mk 7 x47.fst 0 0 0 0,x47.snd)))))
noncomputable def IJ(p1:AA)(v7:Int)(x9:Int)(x10:(Int×AI))(v11:Bool):Option (Aq×AI):=
 br v11
  (bd (Ao x10.snd 14) fun x12=>
  bd (Ao x12.snd x9) fun x13=>
  bd (Jw 1 p1.AG.AY) fun x14=>
  bd (Ao x13.snd x14) fun x15=>
  bd (Jw 1 p1.AG.Bq) fun x16=>
  bd (Ao x15.snd x16) fun x17=>
  bd (Ao x15.snd x16) fun x18=>
  eqv x17.fst x18.fst (
  ev5 (1:Int) (w64 (1+x12.fst)) x13.fst ((-1):Int) (w64 (1+x15.fst)) (
  eqv x17.fst x18.fst (
  D8 x17.snd x18.snd (
  ev5 (1:Int) (w64 (1+x12.fst)) x13.fst ((-1):Int) (w64 (1+x15.fst)) (
  eqv x17.fst x18.fst (
  bd (Jw 1 p1.AG.Bq) fun x19=>
  bd (Ao x15.snd x19) fun x20=>
  eqv x16 x19 (
  eqv x17.fst x20.fst (
  ev5 (1:Int) (w64 (1+x12.fst)) x13.fst ((-1):Int) (w64 (1+x15.fst)) (
  eqv x17.fst x20.fst (
  D8 x17.snd x20.snd (
  ev5 (1:Int) (w64 (1+x12.fst)) x13.fst ((-1):Int) (w64 (1+x15.fst)) (
  eqv x17.fst x20.fst (
  bd (Ao x13.snd x14) fun x21=>
  bd (Jw 1 p1.AG.Bq) fun x22=>
  bd (Ao x21.snd x22) fun x23=>
  eqv x15.fst x21.fst (
  eqv (w64 (1+x15.fst)) (w64 (1+x21.fst)) (
  eqv x16 x22 (
  eqv x17.fst x23.fst (
  ev4 (1:Int) (w64 (1+x12.fst)) x13.fst ((-1):Int) (
  eqv (w64 (1+x15.fst)) (w64 (1+x21.fst)) (
  eqv x17.fst x23.fst (
  D8 x17.snd x23.snd (
  ev4 (1:Int) (w64 (1+x12.fst)) x13.fst ((-1):Int) (
  eqv (w64 (1+x15.fst)) (w64 (1+x21.fst)) (
  eqv x17.fst x23.fst (
  bd (Jw 1 p1.AG.AY) fun x24=>
  bd (Ao x13.snd x24) fun x25=>
  bd (Jw 1 p1.AG.Bq) fun x26=>
  bd (Ao x25.snd x26) fun x27=>
  eqv x14 x24 (
  eqv x15.fst x25.fst (
  eqv (w64 (1+x15.fst)) (w64 (1+x25.fst)) (
  eqv x16 x26 (
  eqv x17.fst x27.fst (
  ev4 (1:Int) (w64 (1+x12.fst)) x13.fst ((-1):Int) (
  eqv (w64 (1+x15.fst)) (w64 (1+x25.fst)) (
  eqv x17.fst x27.fst (
  D8 x17.snd x27.snd (
  ev4 (1:Int) (w64 (1+x12.fst)) x13.fst ((-1):Int) (
  eqv (w64 (1+x15.fst)) (w64 (1+x25.fst)) (
  eqv x17.fst x27.fst (
  bd (Ao x12.snd x9) fun x28=>
  bd (Jw 1 p1.AG.AY) fun x29=>
  bd (Ao x28.snd x29) fun x30=>
  bd (Jw 1 p1.AG.Bq) fun x31=>
  bd (Ao x30.snd x31) fun x32=>
  eqv x13.fst x28.fst (
  eqv x14 x29 (
  eqv x15.fst x30.fst (
  eqv (w64 (1+x15.fst)) (w64 (1+x30.fst)) (
  eqv x16 x31 (
  eqv x17.fst x32.fst (
  ev2 (1:Int) (w64 (1+x12.fst)) (
  eqv x13.fst x28.fst (
  eqv (α:=Int) (-1) (-1) (
  eqv (w64 (1+x15.fst)) (w64 (1+x30.fst)) (
  eqv x17.fst x32.fst (
  D8 x17.snd x32.snd (
  ev2 (1:Int) (w64 (1+x12.fst)) (
  eqv x13.fst x28.fst (
  eqv (α:=Int) (-1) (-1) (
  eqv (w64 (1+x15.fst)) (w64 (1+x30.fst)) (
  eqv x17.fst x32.fst (
  bd (Ao x10.snd 14) fun x33=>
  bd (Ao x33.snd x9) fun x34=>
  bd (Jw 1 p1.AG.AY) fun x35=>
  bd (Ao x34.snd x35) fun x36=>
  bd (Jw 1 p1.AG.Bq) fun x37=>
  bd (Ao x36.snd x37) fun x38=>
  eqv x12.fst x33.fst (
  eqv (w64 (1+x12.fst)) (w64 (1+x33.fst)) (
  eqv x13.fst x34.fst (
  eqv x14 x35 (
  eqv x15.fst x36.fst (
  eqv (w64 (1+x15.fst)) (w64 (1+x36.fst)) (
  eqv x16 x37 (
  eqv x17.fst x38.fst (
  eqv (α:=Int) 1 1 (
  eqv (w64 (1+x12.fst)) (w64 (1+x33.fst)) (
  eqv x13.fst x34.fst (
  eqv (α:=Int) (-1) (-1) (
  eqv (w64 (1+x15.fst)) (w64 (1+x36.fst)) (
  eqv x17.fst x38.fst (
  D8 x17.snd x38.snd (
  eqv (α:=Int) 1 1 (
  eqv (w64 (1+x12.fst)) (w64 (1+x33.fst)) (
  eqv x13.fst x34.fst (
  eqv (α:=Int) (-1) (-1) (
  eqv (w64 (1+x15.fst)) (w64 (1+x36.fst)) (
  eqv x17.fst x38.fst (
  bd (Ea x17.snd 3) fun x39=>
  br x39.fst
   (bd (Ao x39.snd x9) fun x40=>
   jn (Rt) ((x40.snd,Aq.mk 1 (w64 (1+x12.fst)) x13.fst x40.fst (w64 (1+x15.fst)) x17.fst)))
   (jn (Rt) ((x39.snd,Aq.mk 1 (w64 (1+x12.fst)) x13.fst (-1) (w64 (1+x15.fst)) x17.fst))))))))))))))))))))))))))))))))))))))))))))))))))))))))))))))))))))))))))))))
  (br (x10.fst==4)
   (some (Aq.mk 2 v7 0 0 0 0,x10.snd))
   (br (x10.fst==5)
    (jn (Nl p1 v7 x9 x10) (x10.fst==5))
    (jn (Nl p1 v7 x9 x10) (x10.fst==6))))
noncomputable def Nj(p1:AA)(x_:(Int×AI)):Option (Aq×AI):=
 match x_ with
 |(v7,v8)=>bd (Jw 1 (↑p1.AG.AM.length:Int)) fun x9=>
 bd (Ao v8 12) fun x10=>
 br (x10.fst==0)
  (jn (IJ p1 v7 x9 x10) (x10.fst==0))
  (br (x10.fst==1)
   (jn (IJ p1 v7 x9 x10) (x10.fst==1))
   (br (x10.fst==2)
    (jn (IJ p1 v7 x9 x10) (x10.fst==2))
    (jn (IJ p1 v7 x9 x10) (x10.fst==3))))
noncomputable def Ni(p1:AA)(x1:(Int×AI))(x_:(Bool×AI)):Option (Aq×AI):=
 match x_ with
 |(v3,v4)=>br v3
  (bd (Ao v4 (↑p1.AB.length:Int)) fun x5=>
  bd (at? p1.AB x5.fst) fun x6=>
  jn (Nj p1) (x6.Id,x5.snd))
  (jn (Nj p1) ((w64 (1+x1.fst),v4)))
noncomputable def WQ(p0:AI)(p1:AA):Option (Aq×AI):=
 bd (Ao p0 12) fun x1=>
 br (decide ((↑p1.AB.length:Int)>0))
  (bd (Ea x1.snd 3) fun x2=>
  jn (Ni p1 x1) (!x2.fst,x2.snd))
  (jn (Ni p1 x1) (false,x1.snd))
noncomputable def Ke:GF:=AAo.gf rfl rfl (fun a=>WQ a.1 a.2.1) (fun a=>by kernel_rfl)
noncomputable def AAp:YF:=⟨[],[.b (.st 17),.v (.l .i)],[],.ret [.i],[.tmp 4],
 sq [qK 4 0] [0,1] (sr [wn 5 [wm 1,wm 0,wm 1,wZ,wc AJ rfl [6,8],wE .i 5,wL],
 qn [qa 4 11]] [0,4] .ret)⟩
noncomputable def Jq(p0:AI)(p1:(List Int)):Option (Int×AI):=
 bd (Ao p0 (↑p1.length:Int)) fun x1=>
 bd (at? p1 x1.fst) fun x2=>
 some (x2,x1.snd)
noncomputable def B9:GF:=AAp.gf rfl rfl (fun a=>Jq a.1 a.2.1) (fun a=>by kernel_rfl)
noncomputable def AAq:YF:=⟨[],[.b (.st 17),.v (.st 8)],[],.ret [(.st 0)],[.cell 4 (some 6)],
 sq [qu 3 1,.alloc 4 B3] (Kp 25) (sr [wn 7 [wm 0,wk 15 3,wc Ke rfl [7,8]],
 qn [.alloc 5 B3,qw 6 5 9]] (Kp 49) (sr [wn 10 [wm 0,wh (.AR · 11 .i [(0,(.k (.int .i64 (-1)))),(1,(.k (.int .i64 0))),(2,(.k (.int .i64 1))),(3,(.k (.int .i64 4))),(4,(.k (.int .i64 7))),(5,(.k (.int .i64 61))),(6,(.k (.int .i64 1000))),(7,(.k (.int .i64 9999))),(8,(.k (.int .i64 10000))),(9,(.k (.int .i64 9223372036854775807))),(10,(.k (.int .i64 (-9223372036854775808))))]),wc B9 rfl [10,11]],
 qn [qa 6 12]] (Kp 113) (.join [(true,0,.one,[.val (.st 17) (some (.old 0))]),cx 5 (.st 0)] (sw 13 [wm 0,wc AJ rfl [13,qj 20]] (Kp 16497) (.block 0 (sq [qi 16 .eql 14 0,qa 15 16] (Kp 49265) (.cond 15 [0,4,5,6] (Kp 16497) (qr [wn 17 [wm 6,wo 0 5],
 qn [qw 1 18 17]] (Kp 49)) (sq [qi 20 .eql 14 1,qa 19 20] (Kp 540785) (.cond 19 [0,4,5,6] (Kp 16497) (qr [wn 21 [wm 6,wo 1 5],
 qn [qw 1 22 21]] (Kp 49)) (sq [qi 24 .eql 14 2,qa 23 24] (Kp 8405105) (.cond 23 [0,4,5,6] (Kp 16497) (qr [wn 25 [wm 6,wo 2 5],
 qn [qw 1 26 25]] (Kp 49)) (sq [qi 28 .eql 14 3,qa 27 28] (Kp 134234225) (.cond 27 [0,4,5,6] (Kp 16497) (qr [wn 29 [wm 6,wo 3 5],
 qn [qw 1 30 29]] (Kp 49)) (sq [qi 32 .eql 14 4,qa 31 32] (Kp 2147500145) (.cond 31 [0,4,5,6] (Kp 16497) (qr [wn 33 [wm 6,wo 4 5],
 qn [qw 1 34 33]] (Kp 49)) (sq [qi 36 .eql 14 5,qa 35 36] [0,4,5,6,35] (.cond 35 [0,4,5,6] (Kp 49) (qr [wn 37 [wm 6,wo 5 5],
 qn [qw 1 38 37]] (Kp 49)) .skip)))))))))))))) (sq [qL 39 6 5,qw 6 4 39] [0,4] .ret))))⟩
noncomputable def Fw(x_:(AI×Aq)):Option (Aq×AI):=
 match x_ with
 |(v4,v5)=>some (v5,v4)
noncomputable def bC(p0:AI)(p1:AA):Option (Aq×AI):=
 bd (WQ p0 p1) fun x1=>
 bd (Jq x1.snd ([-1,0,1,4,7,61,1000,9999,10000,9223372036854775807,-9223372036854775808])) fun x2=>
 bd (Ao x2.snd 20) fun x3=>
 br (x3.fst==0)
  (jn (Fw) (x3.snd,Aq.mk x2.fst x1.fst.Id x1.fst.AK x1.fst.Ay x1.fst.AY x1.fst.Bb))
  (br (x3.fst==1)
   (jn (Fw) (x3.snd,Aq.mk x1.fst.Kind x2.fst x1.fst.AK x1.fst.Ay x1.fst.AY x1.fst.Bb))
   (br (x3.fst==2)
    (jn (Fw) (x3.snd,Aq.mk x1.fst.Kind x1.fst.Id x2.fst x1.fst.Ay x1.fst.AY x1.fst.Bb))
    (br (x3.fst==3)
     (jn (Fw) (x3.snd,Aq.mk x1.fst.Kind x1.fst.Id x1.fst.AK x2.fst x1.fst.AY x1.fst.Bb))
     (br (x3.fst==4)
      (jn (Fw) (x3.snd,Aq.mk x1.fst.Kind x1.fst.Id x1.fst.AK x1.fst.Ay x2.fst x1.fst.Bb))
      (br (x3.fst==5)
       (jn (Fw) (x3.snd,Aq.mk x1.fst.Kind x1.fst.Id x1.fst.AK x1.fst.Ay x1.fst.AY x2.fst))
       (jn (Fw) (x3.snd,x1.fst)))))))
noncomputable def Sz:GF:=AAq.gf rfl rfl (fun a=>bC a.1 a.2.1) (fun a=>by kernel_rfl)
end Lv
