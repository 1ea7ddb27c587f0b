/-
  Printed: functions of the program as texts of the typed machine, as plain functions, and that the one is the other.
-/
import Derived.Test.YtffakkimlookoaaGreatKA
import Derived.KernelRfl
set_option linter.unusedVariables false
set_option linter.unusedSimpArgs false
set_option maxRecDepth 100000
namespace Lv
open Go (IntKind BinOp UnOp)
open Y (YF qn qf qt qr q1 qd qm qa qo ql qL qb qi qx qp qq qc qz qe qk qK qB qw qu qj Kp wn wf wt w1 sw sq sr wm wM wo wO wl wL wk wK wz wZ wx wX wb wB wi wI wr wR wq wQ we wE wc wY wj wh cv ca cx cn ce bl)
noncomputable def zQ:YF:=⟨[],[.v (.st 1)],[],.ret [(.l .i)],[.tmp 2],
 sq [qu 1 0,.as 2 (.k .nil),.Az [(.tmp 2 0,.i)]] [1] (.seq (sw 3 [wk 9 1,wY Bj rfl,wX] [1,5] (cn 5 [1] (sq [.as 2 (.k .nil),.Az [(.tmp 2 0,.i)]] [2] .ret))) (sr [wn 6 [wo 1 1,wL,wo 2 1,wL,wo 3 1,wL,wo 4 1,wL,wo 5 1,wL,wo 6 1,wL,wo 7 1,wL,wo 8 1,wL,wh (.Ah · 8 .i [(0,(.tmp 7)),(1,(.tmp 9)),(2,(.tmp 11)),(3,(.tmp 13)),(4,(.tmp 15)),(5,(.tmp 17)),(6,(.tmp 19)),(7,(.tmp 21))]),wo 0 1,wL,wh (.app · .i true (.tmp 22) (.tmp 24))],
 qn [qa 2 25]] [2] .ret))⟩
noncomputable def X5(p0:AQ):Option (List Int):=
 bd (R0 p0) fun x1=>
 br (!x1)
  (some [])
  (gd ([p0.A2,p0.Room,p0.Aq,p0.Au,p0.As,p0.Rest,p0.A3,p0.BL].length+p0.AN.length<=lim) (
  some ([p0.A2,p0.Room,p0.Aq,p0.Au,p0.As,p0.Rest,p0.A3,p0.BL]++p0.AN)))
noncomputable def Dz:GF:=zQ.gf rfl rfl (fun a=>X5 a.1) (fun a=>by kernel_rfl)
noncomputable def AAA:YF:=⟨[],[.v (.st 8)],[],.ret [(.l .i)],[.tmp 2],
 sq [qu 1 0,.as 2 (.k .nil)] [1] (.seq (sw 11 [wk 15 1,wY Cv rfl,wX] [1,13] (cn 13 [1] (sq [.as 2 (.k .nil)] [2] .ret))) (sr [wn 14 [wo 0 1,wK 9,wY Dz rfl],
 qn [qa 3 16]] [1,3] (sr [wn 17 [wm 3,wZ,wh (.Ah · 1 .i [(0,(.tmp 18))]),wm 3,wh (.app · .i true (.tmp 19) (.tmp 20))],
 qn [qa 4 21]] [1,4] (sr [wn 22 [wm 4,wo 9 1,wL,wo 10 1,wL,wo 11 1,wL,wZ,wh (.Ah · 3 .i [(0,(.tmp 24)),(1,(.tmp 26)),(2,(.tmp 29))]),wh (.app · .i true (.tmp 22) (.tmp 30))],
 qn [qa 4 31]] [1,4] (.join [cv 4 (.l .i)] (sw 32 [wo 11 1,wL,wZ,wj 0] (Kp 60129542162) (bl 0 [cv 4 (.l .i),cv 35 .i] (sq [qb 36 .lss 35 34] (Kp 128849018898) (.seq (ce 36 (Kp 60129542162) [1,4] 0) (.seq (.block 1 (sr [wn 37 [we (.st 2) 33 35,wK 10],
 qn [.alloc 6 Cz,qw 10 6 38]] (Kp 60129542226) (qr [wn 39 [wm 4,wo 0 6,wL,wo 1 6,wL,wo 2 6,wL,wI .add 1,wo 3 6,wL,wo 4 6,wL,wo 5 6,wL,wo 6 6,wL,wo 7 6,wL,wo 8 6,wL,wo 9 6,wL,wh (.Ah · 10 .i [(0,(.tmp 41)),(1,(.tmp 43)),(2,(.tmp 46)),(3,(.tmp 48)),(4,(.tmp 50)),(5,(.tmp 52)),(6,(.tmp 54)),(7,(.tmp 56)),(8,(.tmp 58)),(9,(.tmp 60))]),wh (.app · .i true (.tmp 39) (.tmp 61))],
 qn [qa 4 62]] (Kp 60129542162)))) (q1 [qi 63 .add 35 1,qm 35 63] (Kp 60129542162))))))) (.join [cv 4 (.l .i)] (sw 64 [wo 12 1,wL,wZ,wj 0] [1,4,65,66,67] (bl 2 [cv 4 (.l .i),cv 67 .i] (sq [qb 68 .lss 67 66] [1,4,65,66,67,68] (.seq (ce 68 [1,4,65,66,67] [1,4] 2) (.seq (.block 3 (sr [wn 69 [we (.st 7) 65 67,wK 7],
 qn [.alloc 8 KR,.Az [(.cell 8 5,(.st 4)),(.cell 8 6,(.l (.st 5)))],qw 7 8 70]] [1,4,8,65,66,67] (qr [wn 71 [wm 4,wo 0 8,wO 1,wL,wh (.Ah · 1 .i [(0,(.tmp 74))]),wh (.app · .i true (.tmp 71) (.tmp 75))],
 qn [qa 4 76]] [1,4,65,66,67]))) (q1 [qi 77 .add 67 1,qm 67 77] [1,4,65,66,67])))))) (sr [wn 78 [wm 4,wo 13 1,wL,wZ,wh (.Ah · 1 .i [(0,(.tmp 81))]),wh (.app · .i true (.tmp 78) (.tmp 82))],
 qn [qa 4 83]] [1,4] (sr [wn 84 [wm 4,wo 13 1,wL,wh (.app · .i true (.tmp 84) (.tmp 86))],
 qn [qa 4 87]] [1,4] (.join [cv 4 (.l .i)] (sw 88 [wo 14 1,wL,wZ,wj 0] [4,89,90,91] (bl 4 [cv 4 (.l .i),cv 91 .i] (sq [qb 92 .lss 91 90] [4,89,90,91,92] (.seq (ce 92 [4,89,90,91] [4] 4) (.seq (.block 5 (sr [wn 93 [we .i 89 91,wL],
 qn [qa 10 94]] [4,10,89,90,91] (qr [wn 95 [wm 4,wm 10,wI .add 1,wh (.Ah · 1 .i [(0,(.tmp 97))]),wh (.app · .i true (.tmp 95) (.tmp 98))],
 qn [qa 4 99]] [4,89,90,91]))) (q1 [qi 100 .add 91 1,qm 91 100] [4,89,90,91])))))) (sq [qm 101 4,qa 2 101] [2] .ret))))))))))⟩
noncomputable def eD(v17:(List Int)):Option (List Int):=
 some v17
noncomputable def UL(p0:AH)(L13:((List Int)×Int)->Option (List Int))(x_:((List Int)×Int)):Option (List Int):=
 match x_ with
 |(v14,v15)=>br (decide (v15<(↑p0.BO.length:Int)))
  (bd (at? p0.BO v15) fun x16=>
  gd (List.length v14+[w64 (x16+1)].length<=lim) (
  L13 ((v14++[w64 (x16+1)],w64 (v15+1)))))
  (jn (eD) v14)
noncomputable def PY(p0:AH)(v12:(List Int)):Option (List Int):=
 gd (v12.length+[(↑p0.BA.length:Int)].length<=lim) (
 gd ((v12++[(↑p0.BA.length:Int)]).length+p0.BA.length<=lim) (
 AR (UL p0) big ((v12++[(↑p0.BA.length:Int)]++p0.BA,0))))
noncomputable def UK(p0:AH)(L8:((List Int)×Int)->Option (List Int))(x_:((List Int)×Int)):Option (List Int):=
 match x_ with
 |(v9,v10)=>br (decide (v10<(↑p0.AW.length:Int)))
  (bd (at? p0.AW v10) fun x11=>
  gd (List.length v9+[x11.AN.Cd].length<=lim) (
  L8 ((v9++[x11.AN.Cd],w64 (v10+1)))))
  (jn (PY p0) v9)
noncomputable def PX(p0:AH)(v7:(List Int)):Option (List Int):=
 AR (UK p0) big (v7,0)
noncomputable def UJ(p0:AH)(L3:((List Int)×Int)->Option (List Int))(x_:((List Int)×Int)):Option (List Int):=
 match x_ with
 |(v4,v5)=>br (decide (v5<(↑p0.AF.length:Int)))
  (bd (at? p0.AF v5) fun x6=>
  gd (List.length v4+[x6.Id,x6.A4,w64 (x6.CR+1),x6.Aq,x6.C9,x6.Since,x6.Ai,x6.State,x6.BV,x6.Cs].length<=lim) (
  L3 ((v4++[x6.Id,x6.A4,w64 (x6.CR+1),x6.Aq,x6.C9,x6.Since,x6.Ai,x6.State,x6.BV,x6.Cs],w64 (v5+1)))))
  (jn (PX p0) v4)
noncomputable def eC(p0:AH):Option (List Int):=
 bd (T0 p0) fun x1=>
 br (!x1)
  (none)
  (bd (X5 p0.AI) fun x2=>
  gd ([(↑(List.length x2):Int)].length+List.length x2<=lim) (
  gd (([(↑(List.length x2):Int)]++x2).length+[p0.Now,p0.Ai,(↑p0.AF.length:Int)].length<=lim) (
  AR (UJ p0) big (([(↑(List.length x2):Int)]++x2++[p0.Now,p0.Ai,(↑p0.AF.length:Int)],0)))))
noncomputable def NV:GF:=AAA.gf rfl rfl (fun a=>eC a.1) (fun a=>by kernel_rfl)
noncomputable def AAB:YF:=⟨[],[.v .i],[],.ret [(.l .u)],[.tmp 2],
 sq [.as 2 (.k .nil),.Az [(.tmp 2 0,.u)]] [0] (.seq (sw 4 [wm 0,wc AO rfl [4,qj 0,qj 2147483647],wX] [0,6] (cn 6 [0] (sq [.as 2 (.k .nil),.Az [(.tmp 2 0,.u)]] [2] .ret))) (sq [.as 3 (.k .nil),.Az [(.tmp 3 0,.u)]] [0,3] (.join [cv 0 .i,cv 3 (.l .u)] (bl 0 [cv 0 .i,cv 3 (.l .u)] (.seq (sw 7 [wm 0,wI .geq 128] (Kp 265) (ce 8 [0,3] [0,3] 0)) (.block 1 (sr [wn 9 [wm 3,wm 0,wI .rem 128,wI .add 128,wh (.cvI · .u8 (.tmp 12)),wh (.Ah · 1 .u [(0,(.tmp 13))]),wh (.app · .u true (.tmp 9) (.tmp 14))],
 qn [qa 3 15]] [0,3] (qr [wn 16 [wm 0,wI .quo 128],
 qn [qa 0 17]] [0,3]))))) (sr [wn 18 [wm 3,wm 0,wh (.cvI · .u8 (.tmp 19)),wh (.Ah · 1 .u [(0,(.tmp 20))]),wh (.app · .u true (.tmp 18) (.tmp 21))],
 qn [qa 2 22]] [2] .ret))))⟩
noncomputable def eE(x_:(Int×(List UInt8))):Option (List UInt8):=
 match x_ with
 |(v5,v6)=>gd (v6.length+[toB v5].length<=lim) (
 some (v6++[toB v5]))
noncomputable def eF(L2:(Int×(List UInt8))->Option (List UInt8))(x_:(Int×(List UInt8))):Option (List UInt8):=
 match x_ with
 |(v3,v4)=>br (decide (v3>=128))
  (gd (v4.length+[toB (w64 (Int.tmod v3 128+128))].length<=lim) (
  L2 ((w64 (Int.tdiv v3 128),v4++[toB (w64 (Int.tmod v3 128+128))]))))
  (jn (eE) (v3,v4))
noncomputable def UM(p0:Int):Option (List UInt8):=
 bd (BT p0 0 2147483647) fun x1=>
 br (!x1)
  (some [])
  (AR (eF) big (p0,[]))
noncomputable def DT:GF:=AAB.gf rfl rfl (fun a=>UM a.1) (fun a=>by kernel_rfl)
noncomputable def AAC:YF:=⟨[],[.v (.l .i)],[],.ret [.s],[.tmp 2],
 sq [.as 2 (.k (.str []))] [0] (sq [.as 3 (.k .nil),.Az [(.tmp 3 0,.u)]] [0,3] (.join [cv 3 (.l .u)] (sw 6 [wm 0,wZ,wj 0] (Kp 456) (bl 0 [cv 3 (.l .u),cv 8 .i] (sq [qb 9 .lss 8 7] (Kp 968) (.seq (ce 9 (Kp 456) [3] 0) (.seq (.block 1 (sr [wn 10 [we .i 6 8,wL],
 qn [qa 5 11]] (Kp 488) (qr [wn 12 [wm 3,wm 5,wY DT rfl,wh (.app · .u true (.tmp 12) (.tmp 14))],
 qn [qa 3 15]] (Kp 456)))) (q1 [qi 16 .add 8 1,qm 8 16] (Kp 456))))))) (sr [wn 17 [wm 3,wh (.Gv · (.tmp 17))],
 qn [qa 2 18]] [2] .ret)))⟩
noncomputable def eG(v6:(List UInt8)):Option (List UInt8):=
 some v6
noncomputable def UN(p0:(List Int))(L1:((List UInt8)×Int)->Option (List UInt8))(x_:((List UInt8)×Int)):Option (List UInt8):=
 match x_ with
 |(v2,v3)=>br (decide (v3<(↑p0.length:Int)))
  (bd (at? p0 v3) fun x4=>
  bd (UM x4) fun x5=>
  gd (List.length v2+List.length x5<=lim) (
  L1 ((v2++x5,w64 (v3+1)))))
  (jn (eG) v2)
noncomputable def mJ(p0:(List Int)):Option (List UInt8):=
 AR (UN p0) big ([],0)
noncomputable def G1:GF:=AAC.gf rfl rfl (fun a=>mJ a.1) (fun a=>by kernel_rfl)
noncomputable def AAD:YF:=⟨[],[.v (.l .u)],[],.ret [.i],[.tmp 2],
 sq [qK 2 0] [0] (sq [qK 3 4294967295] [0,3] (.join [cv 3 .i] (sw 8 [wm 0,wZ,wj 0] (Kp 1800) (bl 0 [cv 3 .i,cv 10 .i] (sq [qb 11 .lss 10 9] (Kp 3848) (.seq (ce 11 (Kp 1800) [3] 0) (.join [cv 3 .i] (.block 1 (sr [wn 12 [we .u 8 10,wL],
 qn [qa 5 13]] (Kp 1832) (sr [wn 14 [wm 3,wm 5,wh (.cvI · .i64 (.tmp 15)),wB .xor 14],
 qn [qa 3 17]] (Kp 1800) (sq [qK 6 0] (Kp 1864) (bl 2 [cv 3 .i,cv 6 .i] (.seq (sw 18 [wm 6,wI .lss 8] (Kp 526152) (ce 19 [3,6,8,9,10] (Kp 1800) 2)) (.join [cv 3 .i] (.block 3 (sr [wn 22 [wm 3,wI .and 1],
 qn [qa 7 23]] (Kp 1992) (sr [wn 24 [wm 3,wh (.bin · .num .shr (.tmp 24) (.k (.int .u64 1)))],
 qn [qa 3 25]] (Kp 1992) (sw 26 [wm 7,wI .eql 1] (Kp 134219592) (.cond 27 [3,6,8,9,10] (Kp 1864) (qr [wn 28 [wm 3,wI .xor 3988292384],
 qn [qa 3 29]] (Kp 1864)) .skip))))) (qr [wn 20 [wm 6,wI .add 1],
 qn [qa 6 21]] (Kp 1864))))))))) (q1 [qi 30 .add 10 1,qm 10 30] (Kp 1800))))))) (sr [wn 31 [wm 3,wI .xor 4294967295],
 qn [qa 2 32]] [2] .ret)))⟩
noncomputable def UO(L5:(Int×Int)->Option Int)(v7:Int)(v8:Int):Option Int:=
 L5 ((v8,w64 (v7+1)))
noncomputable def eH(L1:(Int×Int)->Option Int)(v3:Int)(v9:Int):Option Int:=
 L1 ((v9,w64 (v3+1)))
noncomputable def UQ(L1:(Int×Int)->Option Int)(v3:Int)(L5:(Int×Int)->Option Int)(x_:(Int×Int)):Option Int:=
 match x_ with
 |(v6,v7)=>br (decide (v7<8))
  (br (te v6 1==1)
   (jn (UO L5 v7) (SW (BF v6 1) 3988292384))
   (jn (UO L5 v7) (BF v6 1)))
  (jn (eH L1 v3) v6)
noncomputable def eJ(v10:Int):Option Int:=
 some (SW v10 4294967295)
noncomputable def UP(p0:(List UInt8))(L1:(Int×Int)->Option Int)(x_:(Int×Int)):Option Int:=
 match x_ with
 |(v2,v3)=>br (decide (v3<(↑p0.length:Int)))
  (bd (at? p0 v3) fun x4=>
  AR (UQ L1 v3) big ((SW v2 (w64 (↑(UInt8.toNat x4):Int)),0)))
  (jn (eJ) v2)
noncomputable def mK(p0:(List UInt8)):Option Int:=
 AR (UP p0) big (4294967295,0)
noncomputable def G2:GF:=AAD.gf rfl rfl (fun a=>mK a.1) (fun a=>by kernel_rfl)
noncomputable def AAE:YF:=⟨[],[.v (.st 8),.v .i],[],.ret [.s],[.tmp 4],
 sq [qu 2 0,.as 4 (.k (.str []))] [1,2] (sr [wn 8 [wk 15 2,wY NV rfl],
 qn [qa 5 9]] [1,5] (.seq (sr [wn 10 [wm 5,wh (.bin · .sl .eql (.tmp 10) (.k .nil)),wM],
 wf 12 13 [wm 1,wc AO rfl [13,qj 0,qj 1000000],wX],
 qn [qp 16 12 15]] [1,5,16] (cn 16 [1,5] (sq [.as 4 (.k (.str []))] [4] .ret))) (.seq (.BI (.op 0 none [] (.mv 17 (.tmp 1))
 (.op 3 none [] (.mv 20 (.tmp 5))
 (qd 1 [wn 18 [wY DT rfl,wh (.Gv · (.tmp 18))]] (.op 4 none [18] (.call 21 G1 [] rfl [(.tmp 20)])
 (qd 5 [qn [qb 22 .add 19 21,qa 6 22]] .nil))))) [6]) (sr [wn 23 [wm 6,wh (.Ib · (.tmp 23)),wY G2 rfl],
 qn [qa 7 25]] [6,7] (sr [wn 26 [wm 7,wh (.bin · .num .shr (.tmp 26) (.k (.int .u64 24))),wh (.cvI · .u8 (.tmp 27)),wm 7,wh (.bin · .num .shr (.tmp 29) (.k (.int .u64 16))),wh (.cvI · .u8 (.tmp 30)),wm 7,wh (.bin · .num .shr (.tmp 32) (.k (.int .u64 8))),wh (.cvI · .u8 (.tmp 33)),wm 7,wh (.cvI · .u8 (.tmp 35)),wh (.Ah · 4 .u [(0,(.tmp 28)),(1,(.tmp 31)),(2,(.tmp 34)),(3,(.tmp 36))]),wh (.Gv · (.tmp 37)),wm 6,wB .add 38],
 qn [qa 4 40]] [4] .ret)))))⟩
noncomputable def YA(p0:AH)(p1:Int):Option (List UInt8):=
 bd (eC p0) fun x1=>
 gd (List.isEmpty x1=false) (
 bd (BT p1 0 1000000) fun x2=>
 br (!x2)
  (some [])
  (bd (UM p1) fun x3=>
  bd (mJ x1) fun x4=>
  gd (List.length x3+List.length x4<=bS) (
  bd (mK (x3++x4)) fun x5=>
  gd ([toB (BF x5 24),toB (BF x5 16),toB (BF x5 8),toB x5].length+(x3++x4).length<=bS) (
  some ([toB (BF x5 24),toB (BF x5 16),toB (BF x5 8),toB x5]++(x3++x4))))))
noncomputable def Z5:GF:=AAE.gf rfl rfl (fun a=>YA a.1 a.2.1) (fun a=>by kernel_rfl)
noncomputable def AAF:YF:=⟨[],[.v (.st 8)],[],.ret [.z],[.tmp 2],
 sq [qu 1 0,.as 2 (.k .nil)] [1] (.seq (sw 11 [wk 15 1,wY Cv rfl,wX] [1,13] (cn 13 [1] (sq [.as 2 (.k .nil)] [2] .ret))) (sr [wn 14 [wo 0 1,wK 9,wY Dz rfl],
 qn [qa 3 16]] [1,3] (sr [wn 17 [wm 3,wZ,wh (.Ah · 1 .i [(0,(.tmp 18))]),wm 3,wh (.app · .i true (.tmp 19) (.tmp 20))],
 qn [qa 4 21]] [1,4] (sr [wn 22 [wm 4,wo 9 1,wL,wo 10 1,wL,wo 11 1,wL,wZ,wh (.Ah · 3 .i [(0,(.tmp 24)),(1,(.tmp 26)),(2,(.tmp 29))]),wh (.app · .i true (.tmp 22) (.tmp 30))],
 qn [qa 4 31]] [1,4] (.join [cv 4 (.l .i)] (sw 32 [wo 11 1,wL,wZ,wj 0] (Kp 60129542162) (bl 0 [cv 4 (.l .i),cv 35 .i] (sq [qb 36 .lss 35 34] (Kp 128849018898) (.seq (ce 36 (Kp 60129542162) [1,4] 0) (.seq (.block 1 (sr [wn 37 [we (.st 2) 33 35,wK 10],
 qn [.alloc 6 Cz,qw 10 6 38]] (Kp 60129542226) (qr [wn 39 [wm 4,wo 0 6,wL,wo 1 6,wL,wo 2 6,wL,wI .add 1,wo 3 6,wL,wo 4 6,wL,wo 5 6,wL,wo 6 6,wL,wo 7 6,wL,wo 8 6,wL,wo 9 6,wL,wh (.Ah · 10 .i [(0,(.tmp 41)),(1,(.tmp 43)),(2,(.tmp 46)),(3,(.tmp 48)),(4,(.tmp 50)),(5,(.tmp 52)),(6,(.tmp 54)),(7,(.tmp 56)),(8,(.tmp 58)),(9,(.tmp 60))]),wh (.app · .i true (.tmp 39) (.tmp 61))],
 qn [qa 4 62]] (Kp 60129542162)))) (q1 [qi 63 .add 35 1,qm 35 63] (Kp 60129542162))))))) (.join [cv 4 (.l .i)] (sw 64 [wo 12 1,wL,wZ,wj 0] [1,4,65,66,67] (bl 2 [cv 4 (.l .i),cv 67 .i] (sq [qb 68 .lss 67 66] [1,4,65,66,67,68] (.seq (ce 68 [1,4,65,66,67] [1,4] 2) (.seq (.block 3 (sr [wn 69 [we (.st 7) 65 67,wK 7],
 qn [.alloc 8 KR,.Az [(.cell 8 5,(.st 4)),(.cell 8 6,(.l (.st 5)))],qw 7 8 70]] [1,4,8,65,66,67] (qr [wn 71 [wm 4,wo 0 8,wO 1,wL,wh (.Ah · 1 .i [(0,(.tmp 74))]),wh (.app · .i true (.tmp 71) (.tmp 75))],
 qn [qa 4 76]] [1,4,65,66,67]))) (q1 [qi 77 .add 67 1,qm 67 77] [1,4,65,66,67])))))) (sr [wn 78 [wm 4,wo 13 1,wL,wZ,wh (.Ah · 1 .i [(0,(.tmp 81))]),wh (.app · .i true (.tmp 78) (.tmp 82))],
 qn [qa 4 83]] [1,4] (sr [wn 84 [wm 4,wo 13 1,wL,wh (.app · .i true (.tmp 84) (.tmp 86))],
 qn [qa 4 87]] [1,4] (.join [cv 4 (.l .i)] (sw 88 [wo 14 1,wL,wZ,wj 0] [4,89,90,91] (bl 4 [cv 4 (.l .i),cv 91 .i] (sq [qb 92 .lss 91 90] [4,89,90,91,92] (.seq (ce 92 [4,89,90,91] [4] 4) (.seq (.block 5 (sr [wn 93 [we .i 89 91,wL],
 qn [qa 10 94]] [4,10,89,90,91] (qr [wn 95 [wm 4,wm 10,wI .add 1,wh (.Ah · 1 .i [(0,(.tmp 97))]),wh (.app · .i true (.tmp 95) (.tmp 98))],
 qn [qa 4 99]] [4,89,90,91]))) (q1 [qi 100 .add 91 1,qm 91 100] [4,89,90,91])))))) (sq [qm 101 4,qa 2 101] [2] .ret))))))))))⟩
noncomputable def qh(v17:(List Int)):Option PUnit:=
 none
noncomputable def rA(p0:AH)(L13:((List Int)×Int)->Option PUnit)(x_:((List Int)×Int)):Option PUnit:=
 match x_ with
 |(v14,v15)=>br (decide (v15<(↑p0.BO.length:Int)))
  (bd (at? p0.BO v15) fun x16=>
  gd (List.length v14+[w64 (x16+1)].length<=lim) (
  L13 ((v14++[w64 (x16+1)],w64 (v15+1)))))
  (jn (qh) v14)
noncomputable def qg(p0:AH)(v12:(List Int)):Option PUnit:=
 gd (v12.length+[(↑p0.BA.length:Int)].length<=lim) (
 gd ((v12++[(↑p0.BA.length:Int)]).length+p0.BA.length<=lim) (
 AR (rA p0) big ((v12++[(↑p0.BA.length:Int)]++p0.BA,0))))
noncomputable def qy(p0:AH)(L8:((List Int)×Int)->Option PUnit)(x_:((List Int)×Int)):Option PUnit:=
 match x_ with
 |(v9,v10)=>br (decide (v10<(↑p0.AW.length:Int)))
  (bd (at? p0.AW v10) fun x11=>
  gd (List.length v9+[x11.AN.Cd].length<=lim) (
  L8 ((v9++[x11.AN.Cd],w64 (v10+1)))))
  (jn (qg p0) v9)
noncomputable def qZ(p0:AH)(v7:(List Int)):Option PUnit:=
 AR (qy p0) big (v7,0)
noncomputable def qv(p0:AH)(L3:((List Int)×Int)->Option PUnit)(x_:((List Int)×Int)):Option PUnit:=
 match x_ with
 |(v4,v5)=>br (decide (v5<(↑p0.AF.length:Int)))
  (bd (at? p0.AF v5) fun x6=>
  gd (List.length v4+[x6.Id,x6.A4,w64 (x6.CR+1),x6.Aq,x6.C9,x6.Since,x6.Ai,x6.State,x6.BV,x6.Cs].length<=lim) (
  L3 ((v4++[x6.Id,x6.A4,w64 (x6.CR+1),x6.Aq,x6.C9,x6.Since,x6.Ai,x6.State,x6.BV,x6.Cs],w64 (v5+1)))))
  (jn (qZ p0) v4)
noncomputable def qY(p0:AH):Option PUnit:=
 bd (T0 p0) fun x1=>
 br (!x1)
  (some ())
  (bd (X5 p0.AI) fun x2=>
  gd ([(↑(List.length x2):Int)].length+List.length x2<=lim) (
  gd (([(↑(List.length x2):Int)]++x2).length+[p0.Now,p0.Ai,(↑p0.AF.length:Int)].length<=lim) (
  AR (qv p0) big (([(↑(List.length x2):Int)]++x2++[p0.Now,p0.Ai,(↑p0.AF.length:Int)],0)))))
noncomputable def NW:GF:=AAF.gf rfl rfl (fun a=>qY a.1) (fun a=>by kernel_rfl)
noncomputable def AAG:YF:=⟨[],[.v (.st 8),.v .i],[],.ret [.s],[.tmp 4],
 sq [qu 2 0,.as 4 (.k (.str []))] [1,2] (sr [wn 8 [wk 15 2,wY NW rfl],
 qn [qa 5 9]] [1,5] (.seq (sr [wn 10 [wm 5,wh (.bin · .sl .eql (.tmp 10) (.k .nil)),wM],
 wf 12 13 [wm 1,wc AO rfl [13,qj 0,qj 1000000],wX],
 qn [qp 16 12 15]] [1,5,16] (cn 16 [1,5] (sq [.as 4 (.k (.str []))] [4] .ret))) (.seq (.BI (.op 0 none [] (.mv 17 (.tmp 1))
 (.op 3 none [] (.mv 20 (.tmp 5))
 (qd 1 [wn 18 [wY DT rfl,wh (.Gv · (.tmp 18))]] (.op 4 none [18] (.call 21 G1 [] rfl [(.tmp 20)])
 (qd 5 [qn [qb 22 .add 19 21,qa 6 22]] .nil))))) [6]) (sr [wn 23 [wm 6,wh (.Ib · (.tmp 23)),wY G2 rfl],
 qn [qa 7 25]] [6,7] (sr [wn 26 [wm 7,wh (.bin · .num .shr (.tmp 26) (.k (.int .u64 24))),wh (.cvI · .u8 (.tmp 27)),wm 7,wh (.bin · .num .shr (.tmp 29) (.k (.int .u64 16))),wh (.cvI · .u8 (.tmp 30)),wm 7,wh (.bin · .num .shr (.tmp 32) (.k (.int .u64 8))),wh (.cvI · .u8 (.tmp 33)),wm 7,wh (.cvI · .u8 (.tmp 35)),wh (.Ah · 4 .u [(0,(.tmp 28)),(1,(.tmp 31)),(2,(.tmp 34)),(3,(.tmp 36))]),wh (.Gv · (.tmp 37)),wm 6,wB .add 38],
 qn [qa 4 40]] [4] .ret)))))⟩
noncomputable def mL(p0:AH)(p1:Int):Option (List UInt8):=
 bd (qY p0) fun x1=>
 some []
noncomputable def Z6:GF:=AAG.gf rfl rfl (fun a=>mL a.1 a.2.1) (fun a=>by kernel_rfl)
noncomputable def mM(p0:AH)(p1:Int):Option (List UInt8):=orE (YA p0 p1) (mL p0 p1)
noncomputable def NX:GF:=Z5.orE (fun a=>mM a.1 a.2.1) (fun a=>mL a.1 a.2.1) (fun a=>by kernel_rfl) (fun a r h=>Eq.mp (by kernel_rfl) (Z6.ok a r h))
noncomputable def AAH:YF:=⟨[],[.v (.st 8)],[],.ret [(.l .i)],[.tmp 2],
 sq [qu 1 0,.as 2 (.k .nil),.Az [(.tmp 2 0,.i)]] [1] (.seq (sw 11 [wk 15 1,wY Cv rfl,wX] [1,13] (cn 13 [1] (sq [.as 2 (.k .nil),.Az [(.tmp 2 0,.i)]] [2] .ret))) (sr [wn 14 [wo 0 1,wK 9,wY Dz rfl],
 qn [qa 3 16]] [1,3] (sr [wn 17 [wm 3,wZ,wh (.Ah · 1 .i [(0,(.tmp 18))]),wm 3,wh (.app · .i true (.tmp 19) (.tmp 20))],
 qn [qa 4 21]] [1,4] (sr [wn 22 [wm 4,wo 9 1,wL,wo 10 1,wL,wo 11 1,wL,wZ,wh (.Ah · 3 .i [(0,(.tmp 24)),(1,(.tmp 26)),(2,(.tmp 29))]),wh (.app · .i true (.tmp 22) (.tmp 30))],
 qn [qa 4 31]] [1,4] (.join [cv 4 (.l .i)] (sw 32 [wo 11 1,wL,wZ,wj 0] (Kp 60129542162) (bl 0 [cv 4 (.l .i),cv 35 .i] (sq [qb 36 .lss 35 34] (Kp 128849018898) (.seq (ce 36 (Kp 60129542162) [1,4] 0) (.seq (.block 1 (sr [wn 37 [we (.st 2) 33 35,wK 10],
 qn [.alloc 6 Cz,qw 10 6 38]] (Kp 60129542226) (qr [wn 39 [wm 4,wo 0 6,wL,wo 1 6,wL,wo 2 6,wL,wI .add 1,wo 3 6,wL,wo 4 6,wL,wo 5 6,wL,wo 6 6,wL,wo 7 6,wL,wo 8 6,wL,wo 9 6,wL,wh (.Ah · 10 .i [(0,(.tmp 41)),(1,(.tmp 43)),(2,(.tmp 46)),(3,(.tmp 48)),(4,(.tmp 50)),(5,(.tmp 52)),(6,(.tmp 54)),(7,(.tmp 56)),(8,(.tmp 58)),(9,(.tmp 60))]),wh (.app · .i true (.tmp 39) (.tmp 61))],
 qn [qa 4 62]] (Kp 60129542162)))) (q1 [qi 63 .add 35 1,qm 35 63] (Kp 60129542162))))))) (.join [cv 4 (.l .i)] (sw 64 [wo 12 1,wL,wZ,wj 0] [1,4,65,66,67] (bl 2 [cv 4 (.l .i),cv 67 .i] (sq [qb 68 .lss 67 66] [1,4,65,66,67,68] (.seq (ce 68 [1,4,65,66,67] [1,4] 2) (.seq (.block 3 (sr [wn 69 [we (.st 7) 65 67,wK 7],
 qn [.alloc 8 KR,.Az [(.cell 8 5,(.st 4)),(.cell 8 6,(.l (.st 5)))],qw 7 8 70]] [1,4,8,65,66,67] (qr [wn 71 [wm 4,wo 0 8,wO 1,wL,wh (.Ah · 1 .i [(0,(.tmp 74))]),wh (.app · .i true (.tmp 71) (.tmp 75))],
 qn [qa 4 76]] [1,4,65,66,67]))) (q1 [qi 77 .add 67 1,qm 67 77] [1,4,65,66,67])))))) (sr [wn 78 [wm 4,wo 13 1,wL,wZ,wh (.Ah · 1 .i [(0,(.tmp 81))]),wh (.app · .i true (.tmp 78) (.tmp 82))],
 qn [qa 4 83]] [1,4] (sr [wn 84 [wm 4,wo 13 1,wL,wh (.app · .i true (.tmp 84) (.tmp 86))],
 qn [qa 4 87]] [1,4] (.join [cv 4 (.l .i)] (sw 88 [wo 14 1,wL,wZ,wj 0] [4,89,90,91] (bl 4 [cv 4 (.l .i),cv 91 .i] (sq [qb 92 .lss 91 90] [4,89,90,91,92] (.seq (ce 92 [4,89,90,91] [4] 4) (.seq (.block 5 (sr [wn 93 [we .i 89 91,wL],
 qn [qa 10 94]] [4,10,89,90,91] (qr [wn 95 [wm 4,wm 10,wI .add 1,wh (.Ah · 1 .i [(0,(.tmp 97))]),wh (.app · .i true (.tmp 95) (.tmp 98))],
 qn [qa 4 99]] [4,89,90,91]))) (q1 [qi 100 .add 91 1,qm 91 100] [4,89,90,91])))))) (sq [qm 101 4,qa 2 101] [2] .ret))))))))))⟩
noncomputable def eK(v17:(List Int)):Option (List Int):=
 some v17
noncomputable def UT(p0:AH)(L13:((List Int)×Int)->Option (List Int))(x_:((List Int)×Int)):Option (List Int):=
 match x_ with
 |(v14,v15)=>br (decide (v15<(↑p0.BO.length:Int)))
  (bd (at? p0.BO v15) fun x16=>
  gd (List.length v14+[w64 (x16+1)].length<=lim) (
  L13 ((v14++[w64 (x16+1)],w64 (v15+1)))))
  (jn (eK) v14)
noncomputable def Pb(p0:AH)(v12:(List Int)):Option (List Int):=
 gd (v12.length+[(↑p0.BA.length:Int)].length<=lim) (
 gd ((v12++[(↑p0.BA.length:Int)]).length+p0.BA.length<=lim) (
 AR (UT p0) big ((v12++[(↑p0.BA.length:Int)]++p0.BA,0))))
noncomputable def US(p0:AH)(L8:((List Int)×Int)->Option (List Int))(x_:((List Int)×Int)):Option (List Int):=
 match x_ with
 |(v9,v10)=>br (decide (v10<(↑p0.AW.length:Int)))
  (bd (at? p0.AW v10) fun x11=>
  gd (List.length v9+[x11.AN.Cd].length<=lim) (
  L8 ((v9++[x11.AN.Cd],w64 (v10+1)))))
  (jn (Pb p0) v9)
noncomputable def PZ(p0:AH)(v7:(List Int)):Option (List Int):=
 AR (US p0) big (v7,0)
noncomputable def UR(p0:AH)(L3:((List Int)×Int)->Option (List Int))(x_:((List Int)×Int)):Option (List Int):=
 match x_ with
 |(v4,v5)=>br (decide (v5<(↑p0.AF.length:Int)))
  (bd (at? p0.AF v5) fun x6=>
  gd (List.length v4+[x6.Id,x6.A4,w64 (x6.CR+1),x6.Aq,x6.C9,x6.Since,x6.Ai,x6.State,x6.BV,x6.Cs].length<=lim) (
  L3 ((v4++[x6.Id,x6.A4,w64 (x6.CR+1),x6.Aq,x6.C9,x6.Since,x6.Ai,x6.State,x6.BV,x6.Cs],w64 (v5+1)))))
  (jn (PZ p0) v4)
noncomputable def mN(p0:AH):Option (List Int):=
 bd (T0 p0) fun x1=>
 br (!x1)
  (some [])
  (bd (X5 p0.AI) fun x2=>
  gd ([(↑(List.length x2):Int)].length+List.length x2<=lim) (
  gd (([(↑(List.length x2):Int)]++x2).length+[p0.Now,p0.Ai,(↑p0.AF.length:Int)].length<=lim) (
  AR (UR p0) big (([(↑(List.length x2):Int)]++x2++[p0.Now,p0.Ai,(↑p0.AF.length:Int)],0)))))
noncomputable def Js:GF:=AAH.gf rfl rfl (fun a=>mN a.1) (fun a=>by kernel_rfl)
noncomputable def AAI:YF:=⟨[],[.m (.l .i),.v .i],[],.ret [.i],[.tmp 4],
 sq [qK 4 0] [0,1] (.join [cv 0 (.l .i),cv 1 .i] (sq [qK 5 0] (Kp 35) (bl 0 [cv 0 (.l .i),cv 1 .i,cv 5 .i] (.seq (sw 6 [wM,wm 0,wZ,wB .lss 6] (Kp 547) (ce 9 (Kp 35) [0,1] 0)) (.seq (.block 1 (.join [cv 0 (.l .i),cv 1 .i,cv 5 .i] (qr [wn 12 [wm 0,wm 5,wm 1,we .i 12 13],
 qn [qw 1 15 14]] (Kp 35)) (qr [wn 16 [wm 1,wI .add 1],
 qn [qa 1 17]] (Kp 35)))) (qr [wn 10 [wm 5,wI .add 1],
 qn [qa 5 11]] (Kp 35)))))) (sq [qm 18 1,qa 4 18] [0,4] .ret))⟩
noncomputable def eL(L1:((List Int)×Int×Int)->Option (Int×(List Int)))(x_:((List Int)×Int×Int)):Option (Int×(List Int)):=
 match x_ with
 |(v7,v8,v9)=>L1 ((v7,w64 (v8+1),w64 (v9+1)))
noncomputable def UW(x_:((List Int)×Int)):Option (Int×(List Int)):=
 match x_ with
 |(v10,v11)=>some (v11,v10)
noncomputable def Pc(L1:((List Int)×Int×Int)->Option (Int×(List Int)))(x_:((List Int)×Int×Int)):Option (Int×(List Int)):=
 match x_ with
 |(v2,v3,v4)=>br (decide (v4<(↑(List.length v2):Int)))
  (bd (at? v2 v4) fun x5=>
  bd (at? v2 v4) fun x6=>
  jn (eL L1) (List.set v2 v4.toNat v3,v3,v4))
  (jn (UW) (v2,v3))
noncomputable def UU(p0:(List Int))(p1:Int):Option (Int×(List Int)):=
 AR (Pc) big (p0,p1,0)
noncomputable def D2:GF:=AAI.gf rfl rfl (fun a=>UU a.1 a.2.1) (fun a=>by kernel_rfl)
noncomputable def AAJ:YF:=⟨[],[.m (.st 1),.v .i],[],.ret [.i],[.tmp 4],
 sq [qu 2 0,qK 4 0] (Kp 7) (sr [wn 5 [wo 0 2,wL,wm 1,wc D2 rfl [6,7]],
 qn [qa 1 8]] [0,1] (sq [qm 9 1,qa 4 9] [0,4] .ret))⟩
noncomputable def rB(p0:AQ)(p1:Int):Option (Int×AQ):=
 bd (UU p0.AN p1) fun x1=>
 some (x1.fst,AQ.mk x1.snd p0.A2 p0.Room p0.Aq p0.Au p0.As p0.Rest p0.A3 p0.BL)
noncomputable def NY:GF:=AAJ.gf rfl rfl (fun a=>rB a.1 a.2.1) (fun a=>by kernel_rfl)
noncomputable def AAK:YF:=⟨[],[.m (.l (.st 2)),.v .i],[],.ret [.i],[.tmp 4],
 sq [qK 4 0] [0,1] (.join [cv 0 (.l (.st 2)),cv 1 .i] (sq [qK 5 0] (Kp 35) (bl 0 [cv 0 (.l (.st 2)),cv 1 .i,cv 5 .i] (.seq (sw 6 [wM,wm 0,wZ,wB .lss 6] (Kp 547) (ce 9 (Kp 35) [0,1] 0)) (.seq (.block 1 (.join [cv 0 (.l (.st 2)),cv 1 .i,cv 5 .i] (qr [wn 12 [wm 0,wm 5,wm 1,we (.st 2) 12 13,wO 0],
 qn [qw 1 16 14]] (Kp 35)) (sr [wn 17 [wm 1,wI .add 1],
 qn [qa 1 18]] (Kp 35) (.join [cv 0 (.l (.st 2)),cv 1 .i,cv 5 .i] (qr [wn 19 [wm 0,wm 5,wm 1,we (.st 2) 19 20,wO 1],
 qn [qw 1 23 21]] (Kp 35)) (sr [wn 24 [wm 1,wI .add 1],
 qn [qa 1 25]] (Kp 35) (.join [cv 0 (.l (.st 2)),cv 1 .i,cv 5 .i] (qr [wn 26 [wm 0,wm 5,wm 1,we (.st 2) 26 27,wO 2],
 qn [qw 1 30 28]] (Kp 35)) (sr [wn 31 [wm 1,wI .add 1],
 qn [qa 1 32]] (Kp 35) (.join [cv 0 (.l (.st 2)),cv 1 .i,cv 5 .i] (qr [wn 33 [wm 0,wm 5,wm 1,we (.st 2) 33 34,wO 3],
 qn [qw 1 37 35]] (Kp 35)) (sr [wn 38 [wm 1,wI .add 1],
 qn [qa 1 39]] (Kp 35) (.join [cv 0 (.l (.st 2)),cv 1 .i,cv 5 .i] (qr [wn 40 [wm 0,wm 5,wm 1,we (.st 2) 40 41,wO 4],
 qn [qw 1 44 42]] (Kp 35)) (sr [wn 45 [wm 1,wI .add 1],
 qn [qa 1 46]] (Kp 35) (.join [cv 0 (.l (.st 2)),cv 1 .i,cv 5 .i] (qr [wn 47 [wm 0,wm 5,wm 1,we (.st 2) 47 48,wO 5],
 qn [qw 1 51 49]] (Kp 35)) (sr [wn 52 [wm 1,wI .add 1],
 qn [qa 1 53]] (Kp 35) (.join [cv 0 (.l (.st 2)),cv 1 .i,cv 5 .i] (qr [wn 54 [wm 0,wm 5,wm 1,we (.st 2) 54 55,wO 6],
 qn [qw 1 58 56]] (Kp 35)) (sr [wn 59 [wm 1,wI .add 1],
 qn [qa 1 60]] (Kp 35) (.join [cv 0 (.l (.st 2)),cv 1 .i,cv 5 .i] (qr [wn 61 [wm 0,wm 5,wm 1,we (.st 2) 61 62,wO 7],
 qn [qw 1 65 63]] (Kp 35)) (sr [wn 66 [wm 1,wI .add 1],
 qn [qa 1 67]] (Kp 35) (.join [cv 0 (.l (.st 2)),cv 1 .i,cv 5 .i] (qr [wn 68 [wm 0,wm 5,wm 1,we (.st 2) 68 69,wO 8],
 qn [qw 1 72 70]] (Kp 35)) (sr [wn 73 [wm 1,wI .add 1],
 qn [qa 1 74]] (Kp 35) (.join [cv 0 (.l (.st 2)),cv 1 .i,cv 5 .i] (qr [wn 75 [wm 0,wm 5,wm 1,we (.st 2) 75 76,wO 9],
 qn [qw 1 79 77]] (Kp 35)) (qr [wn 80 [wm 1,wI .add 1],
 qn [qa 1 81]] (Kp 35)))))))))))))))))))))) (qr [wn 10 [wm 5,wI .add 1],
 qn [qa 5 11]] (Kp 35)))))) (sq [qm 82 1,qa 4 82] [0,4] .ret))⟩
noncomputable def YC(L1:((List AG)×Int×Int)->Option (Int×(List AG)))(x_:((List AG)×Int×Int)):Option (Int×(List AG)):=
 match x_ with
 |(v52,v53,v54)=>L1 ((v52,w64 (v53+1),w64 (v54+1)))
noncomputable def YB(L1:((List AG)×Int×Int)->Option (Int×(List AG)))(x_:((List AG)×Int×Int)):Option (Int×(List AG)):=
 match x_ with
 |(v47,v48,v49)=>bd (at? v47 v49) fun x50=>
 bd (at? v47 v49) fun x51=>
 jn (YC L1) ((List.set v47 v49.toNat (AG.mk x51.Id x51.A4 x51.CR x51.Aq x51.C9 x51.Since x51.Ai x51.State x51.BV (w64 (v48+1))),w64 (v48+1),v49))
noncomputable def eU(L1:((List AG)×Int×Int)->Option (Int×(List AG)))(x_:((List AG)×Int×Int)):Option (Int×(List AG)):=
 match x_ with
 |(v42,v43,v44)=>bd (at? v42 v44) fun x45=>
 bd (at? v42 v44) fun x46=>
 jn (YB L1) ((List.set v42 v44.toNat (AG.mk x46.Id x46.A4 x46.CR x46.Aq x46.C9 x46.Since x46.Ai x46.State (w64 (v43+1)) x46.Cs),w64 (v43+1),v44))
noncomputable def eT(L1:((List AG)×Int×Int)->Option (Int×(List AG)))(x_:((List AG)×Int×Int)):Option (Int×(List AG)):=
 match x_ with
 |(v37,v38,v39)=>bd (at? v37 v39) fun x40=>
 bd (at? v37 v39) fun x41=>
 jn (eU L1) ((List.set v37 v39.toNat (AG.mk x41.Id x41.A4 x41.CR x41.Aq x41.C9 x41.Since x41.Ai (w64 (v38+1)) x41.BV x41.Cs),w64 (v38+1),v39))
noncomputable def eS(L1:((List AG)×Int×Int)->Option (Int×(List AG)))(x_:((List AG)×Int×Int)):Option (Int×(List AG)):=
 match x_ with
 |(v32,v33,v34)=>bd (at? v32 v34) fun x35=>
 bd (at? v32 v34) fun x36=>
 jn (eT L1) ((List.set v32 v34.toNat (AG.mk x36.Id x36.A4 x36.CR x36.Aq x36.C9 x36.Since (w64 (v33+1)) x36.State x36.BV x36.Cs),w64 (v33+1),v34))
noncomputable def eR(L1:((List AG)×Int×Int)->Option (Int×(List AG)))(x_:((List AG)×Int×Int)):Option (Int×(List AG)):=
 match x_ with
 |(v27,v28,v29)=>bd (at? v27 v29) fun x30=>
 bd (at? v27 v29) fun x31=>
 jn (eS L1) ((List.set v27 v29.toNat (AG.mk x31.Id x31.A4 x31.CR x31.Aq x31.C9 (w64 (v28+1)) x31.Ai x31.State x31.BV x31.Cs),w64 (v28+1),v29))
noncomputable def eQ(L1:((List AG)×Int×Int)->Option (Int×(List AG)))(x_:((List AG)×Int×Int)):Option (Int×(List AG)):=
 match x_ with
 |(v22,v23,v24)=>bd (at? v22 v24) fun x25=>
 bd (at? v22 v24) fun x26=>
 jn (eR L1) ((List.set v22 v24.toNat (AG.mk x26.Id x26.A4 x26.CR x26.Aq (w64 (v23+1)) x26.Since x26.Ai x26.State x26.BV x26.Cs),w64 (v23+1),v24))
noncomputable def eP(L1:((List AG)×Int×Int)->Option (Int×(List AG)))(x_:((List AG)×Int×Int)):Option (Int×(List AG)):=
 match x_ with
 |(v17,v18,v19)=>bd (at? v17 v19) fun x20=>
 bd (at? v17 v19) fun x21=>
 jn (eQ L1) ((List.set v17 v19.toNat (AG.mk x21.Id x21.A4 x21.CR (w64 (v18+1)) x21.C9 x21.Since x21.Ai x21.State x21.BV x21.Cs),w64 (v18+1),v19))
noncomputable def eO(L1:((List AG)×Int×Int)->Option (Int×(List AG)))(x_:((List AG)×Int×Int)):Option (Int×(List AG)):=
 match x_ with
 |(v12,v13,v14)=>bd (at? v12 v14) fun x15=>
 bd (at? v12 v14) fun x16=>
 jn (eP L1) ((List.set v12 v14.toNat (AG.mk x16.Id x16.A4 (w64 (v13+1)) x16.Aq x16.C9 x16.Since x16.Ai x16.State x16.BV x16.Cs),w64 (v13+1),v14))
noncomputable def eM(L1:((List AG)×Int×Int)->Option (Int×(List AG)))(x_:((List AG)×Int×Int)):Option (Int×(List AG)):=
 match x_ with
 |(v7,v8,v9)=>bd (at? v7 v9) fun x10=>
 bd (at? v7 v9) fun x11=>
 jn (eO L1) ((List.set v7 v9.toNat (AG.mk x11.Id (w64 (v8+1)) x11.CR x11.Aq x11.C9 x11.Since x11.Ai x11.State x11.BV x11.Cs),w64 (v8+1),v9))
noncomputable def RC(x_:((List AG)×Int)):Option (Int×(List AG)):=
 match x_ with
 |(v55,v56)=>some (v56,v55)
noncomputable def Pd(L1:((List AG)×Int×Int)->Option (Int×(List AG)))(x_:((List AG)×Int×Int)):Option (Int×(List AG)):=
 match x_ with
 |(v2,v3,v4)=>br (decide (v4<(↑(List.length v2):Int)))
  (bd (at? v2 v4) fun x5=>
  bd (at? v2 v4) fun x6=>
  jn (eM L1) ((List.set v2 v4.toNat (AG.mk v3 x6.A4 x6.CR x6.Aq x6.C9 x6.Since x6.Ai x6.State x6.BV x6.Cs),v3,v4)))
  (jn (RC) (v2,v3))
noncomputable def mO(p0:(List AG))(p1:Int):Option (Int×(List AG)):=
 AR (Pd) big (p0,p1,0)
noncomputable def NZ:GF:=AAK.gf rfl rfl (fun a=>mO a.1 a.2.1) (fun a=>by kernel_rfl)
noncomputable def AAL:YF:=⟨[],[.m (.l (.st 4)),.v .i],[],.ret [.i],[.tmp 4],
 sq [qK 4 0] [0,1] (.join [cv 0 (.l (.st 4)),cv 1 .i] (sq [qK 5 0] (Kp 35) (bl 0 [cv 0 (.l (.st 4)),cv 1 .i,cv 5 .i] (.seq (sw 6 [wM,wm 0,wZ,wB .lss 6] (Kp 547) (ce 9 (Kp 35) [0,1] 0)) (.seq (.block 1 (.join [cv 0 (.l (.st 4)),cv 1 .i,cv 5 .i] (qr [wn 12 [wm 0,wm 5,wm 1,we (.st 4) 12 13,wO 0],
 qn [qw 1 16 14]] (Kp 35)) (sr [wn 17 [wm 1,wI .add 1],
 qn [qa 1 18]] (Kp 35) (.join [cv 0 (.l (.st 4)),cv 1 .i,cv 5 .i] (qr [wn 19 [wm 0,wm 5,wm 1,we (.st 4) 19 20,wO 1],
 qn [qw 1 23 21]] (Kp 35)) (sr [wn 24 [wm 1,wI .add 1],
 qn [qa 1 25]] (Kp 35) (.join [cv 0 (.l (.st 4)),cv 1 .i,cv 5 .i] (qr [wn 26 [wm 0,wm 5,wm 1,we (.st 4) 26 27,wO 2],
 qn [qw 1 30 28]] (Kp 35)) (sr [wn 31 [wm 1,wI .add 1],
 qn [qa 1 32]] (Kp 35) (.join [cv 0 (.l (.st 4)),cv 1 .i,cv 5 .i] (qr [wn 33 [wm 0,wm 5,wm 1,we (.st 4) 33 34,wO 3],
 qn [qw 1 37 35]] (Kp 35)) (qr [wn 38 [wm 1,wI .add 1],
 qn [qa 1 39]] (Kp 35)))))))))) (qr [wn 10 [wm 5,wI .add 1],
 qn [qa 5 11]] (Kp 35)))))) (sq [qm 40 1,qa 4 40] [0,4] .ret))⟩
noncomputable def eY(L1:((List AD)×Int×Int)->Option (Int×(List AD)))(x_:((List AD)×Int×Int)):Option (Int×(List AD)):=
 match x_ with
 |(v22,v23,v24)=>L1 ((v22,w64 (v23+1),w64 (v24+1)))
noncomputable def eX(L1:((List AD)×Int×Int)->Option (Int×(List AD)))(x_:((List AD)×Int×Int)):Option (Int×(List AD)):=
 match x_ with
 |(v17,v18,v19)=>bd (at? v17 v19) fun x20=>
 bd (at? v17 v19) fun x21=>
 jn (eY L1) ((List.set v17 v19.toNat (AD.mk x21.Level x21.Ai x21.Id (w64 (v18+1))),w64 (v18+1),v19))
noncomputable def eW(L1:((List AD)×Int×Int)->Option (Int×(List AD)))(x_:((List AD)×Int×Int)):Option (Int×(List AD)):=
 match x_ with
 |(v12,v13,v14)=>bd (at? v12 v14) fun x15=>
 bd (at? v12 v14) fun x16=>
 jn (eX L1) ((List.set v12 v14.toNat (AD.mk x16.Level x16.Ai (w64 (v13+1)) x16.Aq),w64 (v13+1),v14))
noncomputable def eV(L1:((List AD)×Int×Int)->Option (Int×(List AD)))(x_:((List AD)×Int×Int)):Option (Int×(List AD)):=
 match x_ with
 |(v7,v8,v9)=>bd (at? v7 v9) fun x10=>
 bd (at? v7 v9) fun x11=>
 jn (eW L1) ((List.set v7 v9.toNat (AD.mk x11.Level (w64 (v8+1)) x11.Id x11.Aq),w64 (v8+1),v9))
noncomputable def UX(x_:((List AD)×Int)):Option (Int×(List AD)):=
 match x_ with
 |(v25,v26)=>some (v26,v25)
noncomputable def Pe(L1:((List AD)×Int×Int)->Option (Int×(List AD)))(x_:((List AD)×Int×Int)):Option (Int×(List AD)):=
 match x_ with
 |(v2,v3,v4)=>br (decide (v4<(↑(List.length v2):Int)))
  (bd (at? v2 v4) fun x5=>
  bd (at? v2 v4) fun x6=>
  jn (eV L1) ((List.set v2 v4.toNat (AD.mk v3 x6.Ai x6.Id x6.Aq),v3,v4)))
  (jn (UX) (v2,v3))
noncomputable def mP(p0:(List AD))(p1:Int):Option (Int×(List AD)):=
 AR (Pe) big (p0,p1,0)
noncomputable def Na:GF:=AAL.gf rfl rfl (fun a=>mP a.1 a.2.1) (fun a=>by kernel_rfl)
noncomputable def AAM:YF:=⟨[],[.m (.l (.st 5)),.v .i],[],.ret [.i],[.tmp 4],
 sq [qK 4 0] [0,1] (.join [cv 0 (.l (.st 5)),cv 1 .i] (sq [qK 5 0] (Kp 35) (bl 0 [cv 0 (.l (.st 5)),cv 1 .i,cv 5 .i] (.seq (sw 6 [wM,wm 0,wZ,wB .lss 6] (Kp 547) (ce 9 (Kp 35) [0,1] 0)) (.seq (.block 1 (.join [cv 0 (.l (.st 5)),cv 1 .i,cv 5 .i] (qr [wn 12 [wm 0,wm 5,wm 1,we (.st 5) 12 13,wO 0],
 qn [qw 1 16 14]] (Kp 35)) (sr [wn 17 [wm 1,wI .add 1],
 qn [qa 1 18]] (Kp 35) (.join [cv 0 (.l (.st 5)),cv 1 .i,cv 5 .i] (qr [wn 19 [wm 0,wm 5,wm 1,we (.st 5) 19 20,wO 1],
 qn [qw 1 23 21]] (Kp 35)) (qr [wn 24 [wm 1,wI .add 1],
 qn [qa 1 25]] (Kp 35)))))) (qr [wn 10 [wm 5,wI .add 1],
 qn [qa 5 11]] (Kp 35)))))) (sq [qm 26 1,qa 4 26] [0,4] .ret))⟩
noncomputable def eg(L1:((List AK)×Int×Int)->Option (Int×(List AK)))(x_:((List AK)×Int×Int)):Option (Int×(List AK)):=
 match x_ with
 |(v12,v13,v14)=>L1 ((v12,w64 (v13+1),w64 (v14+1)))
noncomputable def eZ(L1:((List AK)×Int×Int)->Option (Int×(List AK)))(x_:((List AK)×Int×Int)):Option (Int×(List AK)):=
 match x_ with
 |(v7,v8,v9)=>bd (at? v7 v9) fun x10=>
 bd (at? v7 v9) fun x11=>
 jn (eg L1) ((List.set v7 v9.toNat (AK.mk x11.At (w64 (v8+1))),w64 (v8+1),v9))
noncomputable def UY(x_:((List AK)×Int)):Option (Int×(List AK)):=
 match x_ with
 |(v15,v16)=>some (v16,v15)
noncomputable def Pf(L1:((List AK)×Int×Int)->Option (Int×(List AK)))(x_:((List AK)×Int×Int)):Option (Int×(List AK)):=
 match x_ with
 |(v2,v3,v4)=>br (decide (v4<(↑(List.length v2):Int)))
  (bd (at? v2 v4) fun x5=>
  bd (at? v2 v4) fun x6=>
  jn (eZ L1) ((List.set v2 v4.toNat (AK.mk v3 x6.Id),v3,v4)))
  (jn (UY) (v2,v3))
noncomputable def mQ(p0:(List AK))(p1:Int):Option (Int×(List AK)):=
 AR (Pf) big (p0,p1,0)
noncomputable def Nb:GF:=AAM.gf rfl rfl (fun a=>mQ a.1 a.2.1) (fun a=>by kernel_rfl)
noncomputable def AAN:YF:=⟨[],[.m (.l (.l (.st 5))),.v .i],[],.ret [.i],[.tmp 4],
 sq [qK 4 0] [0,1] (.join [cv 0 (.l (.l (.st 5))),cv 1 .i] (sq [qK 5 0] (Kp 35) (bl 0 [cv 0 (.l (.l (.st 5))),cv 1 .i,cv 5 .i] (.seq (sw 6 [wM,wm 0,wZ,wB .lss 6] (Kp 547) (ce 9 (Kp 35) [0,1] 0)) (.seq (.block 1 (qr [wn 12 [wm 0,wm 5,wE (.l (.st 5)) 12,wL,wm 1,wc Nb rfl [15,16]],
 qn [qa 1 17]] (Kp 35))) (qr [wn 10 [wm 5,wI .add 1],
 qn [qa 5 11]] (Kp 35)))))) (sq [qm 18 1,qa 4 18] [0,4] .ret))⟩
noncomputable def eo(x_:((List (List AK))×Int)):Option (Int×(List (List AK))):=
 match x_ with
 |(v9,v10)=>some (v10,v9)
noncomputable def Pg(L1:((List (List AK))×Int×Int)->Option (Int×(List (List AK))))(x_:((List (List AK))×Int×Int)):Option (Int×(List (List AK))):=
 match x_ with
 |(v2,v3,v4)=>br (decide (v4<(↑(List.length v2):Int)))
  (bd (at? v2 v4) fun x5=>
  bd (at? v2 v4) fun x6=>
  bd (mQ x6 v3) fun x7=>
  gd (v4.toNat=v4.toNat) (
  bd (v2[v4.toNat]?) fun x8=>
  L1 ((List.set v2 v4.toNat x7.snd,x7.fst,w64 (v4+1)))))
  (jn (eo) (v2,v3))
noncomputable def mR(p0:(List (List AK)))(p1:Int):Option (Int×(List (List AK))):=
 AR (Pg) big (p0,p1,0)
noncomputable def Nc:GF:=AAN.gf rfl rfl (fun a=>mR a.1 a.2.1) (fun a=>by kernel_rfl)
noncomputable def AAO:YF:=⟨[],[.m (.l (.st 7)),.v .i],[],.ret [.i],[.tmp 4],
 sq [qK 4 0] [0,1] (.join [cv 0 (.l (.st 7)),cv 1 .i] (sq [qK 5 0] (Kp 35) (bl 0 [cv 0 (.l (.st 7)),cv 1 .i,cv 5 .i] (.seq (sw 6 [wM,wm 0,wZ,wB .lss 6] (Kp 547) (ce 9 (Kp 35) [0,1] 0)) (.seq (.block 1 (.join [cv 0 (.l (.st 7)),cv 1 .i,cv 5 .i] (qr [wn 12 [wm 0,wm 5,wm 1,we (.st 7) 12 13,wO 0,wO 0],
 qn [qw 1 17 14]] (Kp 35)) (sr [wn 18 [wm 1,wI .add 1],
 qn [qa 1 19]] (Kp 35) (.join [cv 0 (.l (.st 7)),cv 1 .i,cv 5 .i] (qr [wn 20 [wm 0,wm 5,wm 1,we (.st 7) 20 21,wO 0,wO 1],
 qn [qw 1 25 22]] (Kp 35)) (sr [wn 26 [wm 1,wI .add 1],
 qn [qa 1 27]] (Kp 35) (.join [cv 0 (.l (.st 7)),cv 1 .i,cv 5 .i] (qr [wn 28 [wm 0,wm 5,wm 1,we (.st 7) 28 29,wO 0,wO 2],
 qn [qw 1 33 30]] (Kp 35)) (sr [wn 34 [wm 1,wI .add 1],
 qn [qa 1 35]] (Kp 35) (.join [cv 0 (.l (.st 7)),cv 1 .i,cv 5 .i] (qr [wn 36 [wm 0,wm 5,wm 1,we (.st 7) 36 37,wO 0,wO 3],
 qn [qw 1 41 38]] (Kp 35)) (sr [wn 42 [wm 1,wI .add 1],
 qn [qa 1 43]] (Kp 35) (.join [cv 0 (.l (.st 7)),cv 1 .i,cv 5 .i] (qr [wn 44 [wm 0,wm 5,wm 1,we (.st 7) 44 45,wO 0,wO 4],
 qn [qw 1 49 46]] (Kp 35)) (sr [wn 50 [wm 1,wI .add 1],
 qn [qa 1 51]] (Kp 35) (.join [cv 0 (.l (.st 7)),cv 1 .i,cv 5 .i] (qr [wn 52 [wm 0,wm 5,wE (.st 7) 52,wO 5,wL,wm 1,wc Na rfl [56,57]],
 qn [qa 1 58]] (Kp 35)) (qr [wn 59 [wm 0,wm 5,wE (.st 7) 59,wO 6,wO 0,wL,wm 1,wc Nc rfl [64,65]],
 qn [qa 1 66]] (Kp 35)))))))))))))) (qr [wn 10 [wm 5,wI .add 1],
 qn [qa 5 11]] (Kp 35)))))) (sq [qm 67 1,qa 4 67] [0,4] .ret))⟩
noncomputable def fE(L1:((List AU)×Int×Int)->Option (Int×(List AU)))(x_:((List AU)×Int×Int)):Option (Int×(List AU)):=
 match x_ with
 |(v34,v35,v36)=>bd (at? v34 v36) fun x37=>
 bd (at? v34 v36) fun x38=>
 bd (mR x38.DK.AJ v35) fun x39=>
 gd (v36.toNat=v36.toNat) (
 bd (v34[v36.toNat]?) fun x40=>
 L1 ((List.set v34 v36.toNat (AU.mk x40.AN x40.Row (AP.mk x39.snd)),x39.fst,w64 (v36+1))))
noncomputable def fD(L1:((List AU)×Int×Int)->Option (Int×(List AU)))(x_:((List AU)×Int×Int)):Option (Int×(List AU)):=
 match x_ with
 |(v27,v28,v29)=>bd (at? v27 v29) fun x30=>
 bd (at? v27 v29) fun x31=>
 bd (mP x31.Row (w64 (v28+1))) fun x32=>
 gd (v29.toNat=v29.toNat) (
 bd (v27[v29.toNat]?) fun x33=>
 jn (fE L1) ((List.set v27 v29.toNat (AU.mk x33.AN x32.snd x33.DK),x32.fst,v29)))
noncomputable def fC(L1:((List AU)×Int×Int)->Option (Int×(List AU)))(x_:((List AU)×Int×Int)):Option (Int×(List AU)):=
 match x_ with
 |(v22,v23,v24)=>bd (at? v22 v24) fun x25=>
 bd (at? v22 v24) fun x26=>
 jn (fD L1) ((List.set v22 v24.toNat (AU.mk (BX.mk x26.AN.Total x26.AN.Cd x26.AN.Ep x26.AN.IQ (w64 (v23+1))) x26.Row x26.DK),w64 (v23+1),v24))
noncomputable def fB(L1:((List AU)×Int×Int)->Option (Int×(List AU)))(x_:((List AU)×Int×Int)):Option (Int×(List AU)):=
 match x_ with
 |(v17,v18,v19)=>bd (at? v17 v19) fun x20=>
 bd (at? v17 v19) fun x21=>
 jn (fC L1) ((List.set v17 v19.toNat (AU.mk (BX.mk x21.AN.Total x21.AN.Cd x21.AN.Ep (w64 (v18+1)) x21.AN.Ki) x21.Row x21.DK),w64 (v18+1),v19))
noncomputable def fA(L1:((List AU)×Int×Int)->Option (Int×(List AU)))(x_:((List AU)×Int×Int)):Option (Int×(List AU)):=
 match x_ with
 |(v12,v13,v14)=>bd (at? v12 v14) fun x15=>
 bd (at? v12 v14) fun x16=>
 jn (fB L1) ((List.set v12 v14.toNat (AU.mk (BX.mk x16.AN.Total x16.AN.Cd (w64 (v13+1)) x16.AN.IQ x16.AN.Ki) x16.Row x16.DK),w64 (v13+1),v14))
noncomputable def eu(L1:((List AU)×Int×Int)->Option (Int×(List AU)))(x_:((List AU)×Int×Int)):Option (Int×(List AU)):=
 match x_ with
 |(v7,v8,v9)=>bd (at? v7 v9) fun x10=>
 bd (at? v7 v9) fun x11=>
 jn (fA L1) ((List.set v7 v9.toNat (AU.mk (BX.mk x11.AN.Total (w64 (v8+1)) x11.AN.Ep x11.AN.IQ x11.AN.Ki) x11.Row x11.DK),w64 (v8+1),v9))
noncomputable def fF(x_:((List AU)×Int)):Option (Int×(List AU)):=
 match x_ with
 |(v41,v42)=>some (v42,v41)
noncomputable def Ph(L1:((List AU)×Int×Int)->Option (Int×(List AU)))(x_:((List AU)×Int×Int)):Option (Int×(List AU)):=
 match x_ with
 |(v2,v3,v4)=>br (decide (v4<(↑(List.length v2):Int)))
  (bd (at? v2 v4) fun x5=>
  bd (at? v2 v4) fun x6=>
  jn (eu L1) ((List.set v2 v4.toNat (AU.mk (BX.mk v3 x6.AN.Cd x6.AN.Ep x6.AN.IQ x6.AN.Ki) x6.Row x6.DK),v3,v4)))
  (jn (fF) (v2,v3))
noncomputable def mS(p0:(List AU))(p1:Int):Option (Int×(List AU)):=
 AR (Ph) big (p0,p1,0)
noncomputable def Nd:GF:=AAO.gf rfl rfl (fun a=>mS a.1 a.2.1) (fun a=>by kernel_rfl)
noncomputable def AAP:YF:=⟨[],[.m (.st 8),.v .i],[],.ret [.i],[.tmp 4],
 sq [qu 2 0,qK 4 0] (Kp 7) (sr [wn 5 [wo 0 2,wK 9,wm 1,wc NY rfl [6,7]],
 qn [qa 1 8]] (Kp 7) (sr [wn 9 [wo 11 2,wL,wm 1,wc NZ rfl [10,11]],
 qn [qa 1 12]] (Kp 7) (sr [wn 13 [wo 12 2,wL,wm 1,wc Nd rfl [14,15]],
 qn [qa 1 16]] (Kp 7) (sr [wn 17 [wo 13 2,wL,wm 1,wc D2 rfl [18,19]],
 qn [qa 1 20]] (Kp 7) (sr [wn 21 [wo 14 2,wL,wm 1,wc D2 rfl [22,23]],
 qn [qa 1 24]] [0,1] (sq [qm 25 1,qa 4 25] [0,4] .ret))))))⟩
noncomputable def YD(p0:AH)(p1:Int):Option (Int×AH):=
 bd (rB p0.AI p1) fun x1=>
 bd (mO p0.AF x1.fst) fun x2=>
 bd (mS p0.AW x2.fst) fun x3=>
 bd (UU p0.BA x3.fst) fun x4=>
 bd (UU p0.BO x4.fst) fun x5=>
 some ((x5.fst,AH.mk (AQ.mk x1.snd.AN p0.AI.A2 p0.AI.Room p0.AI.Aq p0.AI.Au p0.AI.As p0.AI.Rest p0.AI.A3 p0.AI.BL) p0.Now p0.Ai x2.snd x3.snd x4.snd x5.snd))
noncomputable def Jt:GF:=AAP.gf rfl rfl (fun a=>YD a.1 a.2.1) (fun a=>by kernel_rfl)
noncomputable def AAQ:YF:=⟨[],[.v (.l .i),.v .i],[],.ret [.i],[.tmp 4],
 sq [qK 4 0] [0,1] (.join [cv 1 .i] (sq [qK 5 0] (Kp 35) (bl 0 [cv 1 .i,cv 5 .i] (.seq (sw 6 [wM,wm 0,wZ,wB .lss 6] (Kp 547) (ce 9 (Kp 35) [1] 0)) (.seq (.block 1 (.seq (sw 12 [wm 0,wm 5,wE .i 12,wL,wm 1,wB .neq 15] (Kp 131107) (cn 17 (Kp 35) (sq [qK 4 (-1)] [4] .ret))) (qr [wn 18 [wm 1,wI .add 1],
 qn [qa 1 19]] (Kp 35)))) (qr [wn 10 [wm 5,wI .add 1],
 qn [qa 5 11]] (Kp 35)))))) (sq [qm 20 1,qa 4 20] [4] .ret))⟩
noncomputable def fG(v5:Int):Option Int:=
 some v5
noncomputable def UZ(p0:(List Int))(L1:(Int×Int)->Option Int)(x_:(Int×Int)):Option Int:=
 match x_ with
 |(v2,v3)=>br (decide (v3<(↑p0.length:Int)))
  (bd (at? p0 v3) fun x4=>
  br (x4 != v2)
   (some (-1))
   (L1 ((w64 (v2+1),w64 (v3+1)))))
  (jn (fG) v2)
noncomputable def YE(p0:(List Int))(p1:Int):Option Int:=
 AR (UZ p0) big (p1,0)
noncomputable def EX:GF:=AAQ.gf rfl rfl (fun a=>YE a.1 a.2.1) (fun a=>by kernel_rfl)
noncomputable def AAR:YF:=⟨[],[],[],.ret [(.st 6)],[.cell 0 (some 1)],
 sq [.alloc 0 [.nil],.Az [(.cell 0 0,(.l (.st 5)))]] [0] (sq [.build 3 [.nil] [],.Az [(.tmp 3 0,(.l (.st 5)))],.alloc 1 [.nil],.Az [(.cell 1 0,(.l (.st 5)))],qw 1 1 3] [0,1] (.join [cx 1 (.st 6)] (sq [qK 2 0] (Kp 7) (bl 0 [cv 2 .i,cx 1 (.st 6)] (.seq (sw 4 [wm 2,wI .lss 9] (Kp 39) (ce 5 (Kp 7) [0,1] 0)) (.seq (.block 1 (qr [wn 8 [wo 0 1,wL,wh (.Ah · 0 (.st 5) []),wh (.Ah · 1 (.l (.st 5)) [(0,(.tmp 10))]),wh (.app · (.l (.st 5)) false (.tmp 9) (.tmp 11)),wo 0 1],
 qn [qw 1 13 12]] (Kp 7))) (qr [wn 6 [wm 2,wI .add 1],
 qn [qa 2 7]] (Kp 7)))))) (sq [qL 14 1 1,qw 1 0 14] [0] .ret)))⟩
noncomputable def fH(v4:AP):Option AP:=
 some v4
noncomputable def fI(L1:(Int×AP)->Option AP)(x_:(Int×AP)):Option AP:=
 match x_ with
 |(v2,v3)=>br (decide (v2<9))
  (gd (v3.AJ.length+1<=lim) (
  L1 ((w64 (v2+1),AP.mk (v3.AJ++[[]])))))
  (jn (fH) v3)
noncomputable def mT:Option AP:=
 AR (fI) big (0,AP.mk [])
noncomputable def Ju:GF:=AAR.gf rfl rfl (fun a=>mT) (fun a=>by kernel_rfl)
noncomputable def AAS:YF:=⟨[],[.v (.l .i)],[],.ret [(.l .i)],[.tmp 2],
 sq [.as 2 (.k .nil),.Az [(.tmp 2 0,.i)]] [0] (sr [wn 3 [wm 0,wh (.app · .i true (.k .nil) (.tmp 3))],
 qn [qa 2 4]] [2] .ret)⟩
noncomputable def Ua(p0:(List Int)):Option (List Int):=
 gd (0+p0.length<=lim) (
 some p0)
noncomputable def DU:GF:=AAS.gf rfl rfl (fun a=>Ua a.1) (fun a=>by kernel_rfl)
noncomputable def AAT:YF:=⟨[],[],[],.ret [(.st 6)],[.cell 0 (some 1)],
 sq [.alloc 0 [.nil],.Az [(.cell 0 0,(.l (.st 5)))]] [0] (sr [wn 1 [wh (.Kb · (.l (.st 5)) (.k (.int .i64 9))),wh (.build · [.nil] [(0,1,(.tmp 1))])],
 qn [qw 1 0 2]] [0] .ret)⟩
noncomputable def rC:Option AP:=
 some (AP.mk (List.replicate (Int.toNat 9) []))
noncomputable def Jv:GF:=AAT.gf rfl rfl (fun a=>rC) (fun a=>by kernel_rfl)
noncomputable def AAU:YF:=⟨[],[.v (.st 1),.v .i],[],.ret [.i],[.tmp 4],
 sq [qu 2 0,qK 4 0] [1,2] (sr [wn 5 [wo 0 2,wL,wm 1,wc EX rfl [6,7]],
 qn [qa 1 8]] [1] (.seq (sw 9 [wm 1,wI .lss 0] [1,10] (cn 10 [1] (sq [qK 4 (-1)] [4] .ret))) (sq [qm 11 1,qa 4 11] [4] .ret)))⟩
noncomputable def rD(p0:AQ)(p1:Int):Option Int:=
 bd (YE p0.AN p1) fun x1=>
 br (decide (x1<0))
  (some (-1))
  (some x1)
noncomputable def Nf:GF:=AAU.gf rfl rfl (fun a=>rD a.1 a.2.1) (fun a=>by kernel_rfl)
noncomputable def AAV:YF:=⟨[],[.v (.l (.st 2)),.v .i],[],.ret [.i],[.tmp 4],
 sq [qK 4 0] [0,1] (.join [cv 1 .i] (sq [qK 5 0] (Kp 35) (bl 0 [cv 1 .i,cv 5 .i] (.seq (sw 6 [wM,wm 0,wZ,wB .lss 6] (Kp 547) (ce 9 (Kp 35) [1] 0)) (.seq (.block 1 (.seq (sw 12 [wm 0,wm 5,wE (.st 2) 12,wO 0,wL,wm 1,wB .neq 16] (Kp 262179) (cn 18 (Kp 35) (sq [qK 4 (-1)] [4] .ret))) (sr [wn 19 [wm 1,wI .add 1],
 qn [qa 1 20]] (Kp 35) (.seq (sw 21 [wm 0,wm 5,wE (.st 2) 21,wO 1,wL,wm 1,wB .neq 25] [0,1,5,27] (cn 27 (Kp 35) (sq [qK 4 (-1)] [4] .ret))) (sr [wn 28 [wm 1,wI .add 1],
 qn [qa 1 29]] (Kp 35) (.seq (sw 30 [wm 0,wm 5,wE (.st 2) 30,wO 2,wL,wm 1,wB .neq 34] [0,1,5,36] (cn 36 (Kp 35) (sq [qK 4 (-1)] [4] .ret))) (sr [wn 37 [wm 1,wI .add 1],
 qn [qa 1 38]] (Kp 35) (.seq (sw 39 [wm 0,wm 5,wE (.st 2) 39,wO 3,wL,wm 1,wB .neq 43] [0,1,5,45] (cn 45 (Kp 35) (sq [qK 4 (-1)] [4] .ret))) (sr [wn 46 [wm 1,wI .add 1],
 qn [qa 1 47]] (Kp 35) (.seq (sw 48 [wm 0,wm 5,wE (.st 2) 48,wO 4,wL,wm 1,wB .neq 52] [0,1,5,54] (cn 54 (Kp 35) (sq [qK 4 (-1)] [4] .ret))) (sr [wn 55 [wm 1,wI .add 1],
 qn [qa 1 56]] (Kp 35) (.seq (sw 57 [wm 0,wm 5,wE (.st 2) 57,wO 5,wL,wm 1,wB .neq 61] [0,1,5,63] (cn 63 (Kp 35) (sq [qK 4 (-1)] [4] .ret))) (sr [wn 64 [wm 1,wI .add 1],
 qn [qa 1 65]] (Kp 35) (.seq (sw 66 [wm 0,wm 5,wE (.st 2) 66,wO 6,wL,wm 1,wB .neq 70] [0,1,5,72] (cn 72 (Kp 35) (sq [qK 4 (-1)] [4] .ret))) (sr [wn 73 [wm 1,wI .add 1],
 qn [qa 1 74]] (Kp 35) (.seq (sw 75 [wm 0,wm 5,wE (.st 2) 75,wO 7,wL,wm 1,wB .neq 79] [0,1,5,81] (cn 81 (Kp 35) (sq [qK 4 (-1)] [4] .ret))) (sr [wn 82 [wm 1,wI .add 1],
 qn [qa 1 83]] (Kp 35) (.seq (sw 84 [wm 0,wm 5,wE (.st 2) 84,wO 8,wL,wm 1,wB .neq 88] [0,1,5,90] (cn 90 (Kp 35) (sq [qK 4 (-1)] [4] .ret))) (sr [wn 91 [wm 1,wI .add 1],
 qn [qa 1 92]] (Kp 35) (.seq (sw 93 [wm 0,wm 5,wE (.st 2) 93,wO 9,wL,wm 1,wB .neq 97] [0,1,5,99] (cn 99 (Kp 35) (sq [qK 4 (-1)] [4] .ret))) (qr [wn 100 [wm 1,wI .add 1],
 qn [qa 1 101]] (Kp 35)))))))))))))))))))))) (qr [wn 10 [wm 5,wI .add 1],
 qn [qa 5 11]] (Kp 35)))))) (sq [qm 102 1,qa 4 102] [4] .ret))⟩
noncomputable def fJ(v14:Int):Option Int:=
 some v14
noncomputable def Ub(p0:(List AG))(L1:(Int×Int)->Option Int)(x_:(Int×Int)):Option Int:=
 match x_ with
 |(v2,v3)=>br (decide (v3<(↑p0.length:Int)))
  (bd (at? p0 v3) fun x4=>
  br (x4.Id != v2)
   (some (-1))
   (bd (at? p0 v3) fun x5=>
   br (x5.A4 != w64 (v2+1))
    (some (-1))
    (bd (at? p0 v3) fun x6=>
    br (x6.CR != w64 (w64 (v2+1)+1))
     (some (-1))
     (bd (at? p0 v3) fun x7=>
     br (x7.Aq != w64 (w64 (w64 (v2+1)+1)+1))
      (some (-1))
      (bd (at? p0 v3) fun x8=>
      br (x8.C9 != w64 (w64 (w64 (w64 (v2+1)+1)+1)+1))
       (some (-1))
       (bd (at? p0 v3) fun x9=>
       br (x9.Since != w64 (w64 (w64 (w64 (w64 (v2+1)+1)+1)+1)+1))
        (some (-1))
        (bd (at? p0 v3) fun x10=>
        br (x10.Ai != w64 (w64 (w64 (w64 (w64 (w64 (v2+1)+1)+1)+1)+1)+1))
         (some (-1))
         (bd (at? p0 v3) fun x11=>
         br (x11.State != w64 (w64 (w64 (w64 (w64 (w64 (w64 (v2+1)+1)+1)+1)+1)+1)+1))
          (some (-1))
          (bd (at? p0 v3) fun x12=>
          br (x12.BV != w64 (w64 (w64 (w64 (w64 (w64 (w64 (w64 (v2+1)+1)+1)+1)+1)+1)+1)+1))
           (some (-1))
           (bd (at? p0 v3) fun x13=>
           br (x13.Cs != w64 (w64 (w64 (w64 (w64 (w64 (w64 (w64 (w64 (v2+1)+1)+1)+1)+1)+1)+1)+1)+1))
            (some (-1))
            (L1 ((w64 (w64 (w64 (w64 (w64 (w64 (w64 (w64 (w64 (w64 (v2+1)+1)+1)+1)+1)+1)+1)+1)+1)+1),w64 (v3+1))))))))))))))
  (jn (fJ) v2)
noncomputable def mU(p0:(List AG))(p1:Int):Option Int:=
 AR (Ub p0) big (p1,0)
noncomputable def Ng:GF:=AAV.gf rfl rfl (fun a=>mU a.1 a.2.1) (fun a=>by kernel_rfl)
noncomputable def AAW:YF:=⟨[],[.v (.l (.st 4)),.v .i],[],.ret [.i],[.tmp 4],
 sq [qK 4 0] [0,1] (.join [cv 1 .i] (sq [qK 5 0] (Kp 35) (bl 0 [cv 1 .i,cv 5 .i] (.seq (sw 6 [wM,wm 0,wZ,wB .lss 6] (Kp 547) (ce 9 (Kp 35) [1] 0)) (.seq (.block 1 (.seq (sw 12 [wm 0,wm 5,wE (.st 4) 12,wO 0,wL,wm 1,wB .neq 16] (Kp 262179) (cn 18 (Kp 35) (sq [qK 4 (-1)] [4] .ret))) (sr [wn 19 [wm 1,wI .add 1],
 qn [qa 1 20]] (Kp 35) (.seq (sw 21 [wm 0,wm 5,wE (.st 4) 21,wO 1,wL,wm 1,wB .neq 25] [0,1,5,27] (cn 27 (Kp 35) (sq [qK 4 (-1)] [4] .ret))) (sr [wn 28 [wm 1,wI .add 1],
 qn [qa 1 29]] (Kp 35) (.seq (sw 30 [wm 0,wm 5,wE (.st 4) 30,wO 2,wL,wm 1,wB .neq 34] [0,1,5,36] (cn 36 (Kp 35) (sq [qK 4 (-1)] [4] .ret))) (sr [wn 37 [wm 1,wI .add 1],
 qn [qa 1 38]] (Kp 35) (.seq (sw 39 [wm 0,wm 5,wE (.st 4) 39,wO 3,wL,wm 1,wB .neq 43] [0,1,5,45] (cn 45 (Kp 35) (sq [qK 4 (-1)] [4] .ret))) (qr [wn 46 [wm 1,wI .add 1],
 qn [qa 1 47]] (Kp 35)))))))))) (qr [wn 10 [wm 5,wI .add 1],
 qn [qa 5 11]] (Kp 35)))))) (sq [qm 48 1,qa 4 48] [4] .ret))⟩
noncomputable def fK(v8:Int):Option Int:=
 some v8
noncomputable def Uc(p0:(List AD))(L1:(Int×Int)->Option Int)(x_:(Int×Int)):Option Int:=
 match x_ with
 |(v2,v3)=>br (decide (v3<(↑p0.length:Int)))
  (bd (at? p0 v3) fun x4=>
  br (x4.Level != v2)
   (some (-1))
   (bd (at? p0 v3) fun x5=>
   br (x5.Ai != w64 (v2+1))
    (some (-1))
    (bd (at? p0 v3) fun x6=>
    br (x6.Id != w64 (w64 (v2+1)+1))
     (some (-1))
     (bd (at? p0 v3) fun x7=>
     br (x7.Aq != w64 (w64 (w64 (v2+1)+1)+1))
      (some (-1))
      (L1 ((w64 (w64 (w64 (w64 (v2+1)+1)+1)+1),w64 (v3+1))))))))
  (jn (fK) v2)
noncomputable def mV(p0:(List AD))(p1:Int):Option Int:=
 AR (Uc p0) big (p1,0)
noncomputable def Nh:GF:=AAW.gf rfl rfl (fun a=>mV a.1 a.2.1) (fun a=>by kernel_rfl)
noncomputable def AAX:YF:=⟨[],[.v (.l (.st 5)),.v .i],[],.ret [.i],[.tmp 4],
 sq [qK 4 0] [0,1] (.join [cv 1 .i] (sq [qK 5 0] (Kp 35) (bl 0 [cv 1 .i,cv 5 .i] (.seq (sw 6 [wM,wm 0,wZ,wB .lss 6] (Kp 547) (ce 9 (Kp 35) [1] 0)) (.seq (.block 1 (.seq (sw 12 [wm 0,wm 5,wE (.st 5) 12,wO 0,wL,wm 1,wB .neq 16] (Kp 262179) (cn 18 (Kp 35) (sq [qK 4 (-1)] [4] .ret))) (sr [wn 19 [wm 1,wI .add 1],
 qn [qa 1 20]] (Kp 35) (.seq (sw 21 [wm 0,wm 5,wE (.st 5) 21,wO 1,wL,wm 1,wB .neq 25] [0,1,5,27] (cn 27 (Kp 35) (sq [qK 4 (-1)] [4] .ret))) (qr [wn 28 [wm 1,wI .add 1],
 qn [qa 1 29]] (Kp 35)))))) (qr [wn 10 [wm 5,wI .add 1],
 qn [qa 5 11]] (Kp 35)))))) (sq [qm 30 1,qa 4 30] [4] .ret))⟩
noncomputable def fL(v6:Int):Option Int:=
 some v6
noncomputable def Ud(p0:(List AK))(L1:(Int×Int)->Option Int)(x_:(Int×Int)):Option Int:=
 match x_ with
 |(v2,v3)=>br (decide (v3<(↑p0.length:Int)))
  (bd (at? p0 v3) fun x4=>
  br (x4.At != v2)
   (some (-1))
   (bd (at? p0 v3) fun x5=>
   br (x5.Id != w64 (v2+1))
    (some (-1))
    (L1 ((w64 (w64 (v2+1)+1),w64 (v3+1))))))
  (jn (fL) v2)
noncomputable def mW(p0:(List AK))(p1:Int):Option Int:=
 AR (Ud p0) big (p1,0)
noncomputable def Ni:GF:=AAX.gf rfl rfl (fun a=>mW a.1 a.2.1) (fun a=>by kernel_rfl)
noncomputable def AAY:YF:=⟨[],[.v (.l (.l (.st 5))),.v .i],[],.ret [.i],[.tmp 4],
 sq [qK 4 0] [0,1] (.join [cv 1 .i] (sq [qK 5 0] (Kp 35) (bl 0 [cv 1 .i,cv 5 .i] (.seq (sw 6 [wM,wm 0,wZ,wB .lss 6] (Kp 547) (ce 9 (Kp 35) [1] 0)) (.seq (.block 1 (sr [wn 12 [wm 0,wm 5,wE (.l (.st 5)) 12,wL,wm 1,wc Ni rfl [15,16]],
 qn [qa 1 17]] (Kp 35) (sw 18 [wm 1,wI .lss 0] (Kp 524323) (cn 19 (Kp 35) (sq [qK 4 (-1)] [4] .ret))))) (qr [wn 10 [wm 5,wI .add 1],
 qn [qa 5 11]] (Kp 35)))))) (sq [qm 20 1,qa 4 20] [4] .ret))⟩
noncomputable def fM(v6:Int):Option Int:=
 some v6
noncomputable def Ue(p0:(List (List AK)))(L1:(Int×Int)->Option Int)(x_:(Int×Int)):Option Int:=
 match x_ with
 |(v2,v3)=>br (decide (v3<(↑p0.length:Int)))
  (bd (at? p0 v3) fun x4=>
  bd (mW x4 v2) fun x5=>
  br (decide (x5<0))
   (some (-1))
   (L1 ((x5,w64 (v3+1)))))
  (jn (fM) v2)
noncomputable def mX(p0:(List (List AK)))(p1:Int):Option Int:=
 AR (Ue p0) big (p1,0)
noncomputable def Nj:GF:=AAY.gf rfl rfl (fun a=>mX a.1 a.2.1) (fun a=>by kernel_rfl)
noncomputable def zr:YF:=⟨[],[.v (.l (.st 7)),.v .i],[],.ret [.i],[.tmp 4],
 sq [qK 4 0] [0,1] (.join [cv 1 .i] (sq [qK 5 0] (Kp 35) (bl 0 [cv 1 .i,cv 5 .i] (.seq (sw 6 [wM,wm 0,wZ,wB .lss 6] (Kp 547) (ce 9 (Kp 35) [1] 0)) (.seq (.block 1 (.seq (sw 12 [wm 0,wm 5,wE (.st 7) 12,wO 0,wO 0,wL,wm 1,wB .neq 17] (Kp 524323) (cn 19 (Kp 35) (sq [qK 4 (-1)] [4] .ret))) (sr [wn 20 [wm 1,wI .add 1],
 qn [qa 1 21]] (Kp 35) (.seq (sw 22 [wm 0,wm 5,wE (.st 7) 22,wO 0,wO 1,wL,wm 1,wB .neq 27] [0,1,5,29] (cn 29 (Kp 35) (sq [qK 4 (-1)] [4] .ret))) (sr [wn 30 [wm 1,wI .add 1],
 qn [qa 1 31]] (Kp 35) (.seq (sw 32 [wm 0,wm 5,wE (.st 7) 32,wO 0,wO 2,wL,wm 1,wB .neq 37] [0,1,5,39] (cn 39 (Kp 35) (sq [qK 4 (-1)] [4] .ret))) (sr [wn 40 [wm 1,wI .add 1],
 qn [qa 1 41]] (Kp 35) (.seq (sw 42 [wm 0,wm 5,wE (.st 7) 42,wO 0,wO 3,wL,wm 1,wB .neq 47] [0,1,5,49] (cn 49 (Kp 35) (sq [qK 4 (-1)] [4] .ret))) (sr [wn 50 [wm 1,wI .add 1],
 qn [qa 1 51]] (Kp 35) (.seq (sw 52 [wm 0,wm 5,wE (.st 7) 52,wO 0,wO 4,wL,wm 1,wB .neq 57] [0,1,5,59] (cn 59 (Kp 35) (sq [qK 4 (-1)] [4] .ret))) (sr [wn 60 [wm 1,wI .add 1],
 qn [qa 1 61]] (Kp 35) (sr [wn 62 [wm 0,wm 5,wE (.st 7) 62,wO 5,wL,wm 1,wc Nh rfl [66,67]],
 qn [qa 1 68]] (Kp 35) (.seq (sw 69 [wm 1,wI .lss 0] [0,1,5,70] (cn 70 (Kp 35) (sq [qK 4 (-1)] [4] .ret))) (sr [wn 71 [wm 0,wm 5,wE (.st 7) 71,wO 6,wO 0,wL,wm 1,wc Nj rfl [76,77]],
 qn [qa 1 78]] (Kp 35) (sw 79 [wm 1,wI .lss 0] [0,1,5,80] (cn 80 (Kp 35) (sq [qK 4 (-1)] [4] .ret))))))))))))))))) (qr [wn 10 [wm 5,wI .add 1],
 qn [qa 5 11]] (Kp 35)))))) (sq [qm 81 1,qa 4 81] [4] .ret))⟩
noncomputable def dn(v13:Int):Option Int:=
 some v13
noncomputable def UB(p0:(List AU))(L1:(Int×Int)->Option Int)(x_:(Int×Int)):Option Int:=
 match x_ with
 |(v2,v3)=>br (decide (v3<(↑p0.length:Int)))
  (bd (at? p0 v3) fun x4=>
  br (x4.AN.Total != v2)
   (some (-1))
   (bd (at? p0 v3) fun x5=>
   br (x5.AN.Cd != w64 (v2+1))
    (some (-1))
    (bd (at? p0 v3) fun x6=>
    br (x6.AN.Ep != w64 (w64 (v2+1)+1))
     (some (-1))
     (bd (at? p0 v3) fun x7=>
     br (x7.AN.IQ != w64 (w64 (w64 (v2+1)+1)+1))
      (some (-1))
      (bd (at? p0 v3) fun x8=>
      br (x8.AN.Ki != w64 (w64 (w64 (w64 (v2+1)+1)+1)+1))
       (some (-1))
       (bd (at? p0 v3) fun x9=>
       bd (mV x9.Row (w64 (w64 (w64 (w64 (w64 (v2+1)+1)+1)+1)+1))) fun x10=>
       br (decide (x10<0))
        (some (-1))
        (bd (at? p0 v3) fun x11=>
        bd (mX x11.DK.AJ x10) fun x12=>
        br (decide (x12<0))
         (some (-1))
         (L1 ((x12,w64 (v3+1)))))))))))
  (jn (dn) v2)
noncomputable def mG(p0:(List AU))(p1:Int):Option Int:=
 AR (UB p0) big (p1,0)
noncomputable def NQ:GF:=zr.gf rfl rfl (fun a=>mG a.1 a.2.1) (fun a=>by kernel_rfl)
noncomputable def zt:YF:=⟨[],[.v (.st 8),.v .i],[],.ret [.i],[.tmp 4],
 sq [qu 2 0,qK 4 0] [1,2] (sr [wn 5 [wo 0 2,wK 9,wm 1,wc Nf rfl [6,7]],
 qn [qa 1 8]] [1,2] (.seq (sw 9 [wm 1,wI .lss 0] (Kp 1030) (cn 10 [1,2] (sq [qK 4 (-1)] [4] .ret))) (sr [wn 11 [wo 11 2,wL,wm 1,wc Ng rfl [12,13]],
 qn [qa 1 14]] [1,2] (.seq (sw 15 [wm 1,wI .lss 0] [1,2,16] (cn 16 [1,2] (sq [qK 4 (-1)] [4] .ret))) (sr [wn 17 [wo 12 2,wL,wm 1,wc NQ rfl [18,19]],
 qn [qa 1 20]] [1,2] (.seq (sw 21 [wm 1,wI .lss 0] [1,2,22] (cn 22 [1,2] (sq [qK 4 (-1)] [4] .ret))) (sr [wn 23 [wo 13 2,wL,wm 1,wc EX rfl [24,25]],
 qn [qa 1 26]] [1,2] (.seq (sw 27 [wm 1,wI .lss 0] [1,2,28] (cn 28 [1,2] (sq [qK 4 (-1)] [4] .ret))) (sr [wn 29 [wo 14 2,wL,wm 1,wc EX rfl [30,31]],
 qn [qa 1 32]] [1] (.seq (sw 33 [wm 1,wI .lss 0] [1,34] (cn 34 [1] (sq [qK 4 (-1)] [4] .ret))) (sq [qm 35 1,qa 4 35] [4] .ret)))))))))))⟩
noncomputable def PT(p0:AH)(p1:Int):Option Int:=
 bd (rD p0.AI p1) fun x1=>
 br (decide (x1<0))
  (some (-1))
  (bd (mU p0.AF x1) fun x2=>
  br (decide (x2<0))
   (some (-1))
   (bd (mG p0.AW x2) fun x3=>
   br (decide (x3<0))
    (some (-1))
    (bd (YE p0.BA x3) fun x4=>
    br (decide (x4<0))
     (some (-1))
     (bd (YE p0.BO x4) fun x5=>
     br (decide (x5<0))
      (some (-1))
      (some x5)))))
noncomputable def EW:GF:=zt.gf rfl rfl (fun a=>PT a.1 a.2.1) (fun a=>by kernel_rfl)
end Lv
set_option maxRecDepth 100000
namespace Lv
open Go (IntKind BinOp UnOp)
open Y (YF qn qf qt qr q1 qd qm qa qo ql qL qb qi qx qp qq qc qz qe qk qK qB qw qu qj Kp wn wf wt w1 sw sq sr wm wM wo wO wl wL wk wK wz wZ wx wX wb wB wi wI wr wR wq wQ we wE wc wY wj wh cv ca cx cn ce bl)
noncomputable def zu:YF:=⟨[],[.v (.st 6)],[],.ret [(.st 6)],[.cell 2 (some 1)],
 sq [qu 1 0,.alloc 2 [.nil],.Az [(.cell 2 0,(.l (.st 5)))]] [1,2] (sq [.build 5 [.nil] [],.Az [(.tmp 5 0,(.l (.st 5)))],.alloc 3 [.nil],.Az [(.cell 3 0,(.l (.st 5)))],qw 1 3 5] (Kp 14) (.join [cx 3 (.st 6)] (sq [qK 4 0] (Kp 30) (bl 0 [cv 4 .i,cx 3 (.st 6)] (.seq (sw 6 [wm 4,wo 0 1,wL,wZ,wB .lss 6] (Kp 1054) (ce 10 (Kp 30) [2,3] 0)) (.seq (.block 1 (.BI (qd 0 [wn 13 [wo 0 3,wL]] (qd 3 [wn 16 [wo 0 1,wL,wm 4,wE (.l (.st 5)) 17,wL]] (.op 2 none [13,16,19] (.Ah 15 0 (.st 5) [])
 (.op 8 none [13] (.app 21 (.st 5) true (.tmp 15) (.tmp 20))
 (.op 9 none [13] (.Ah 22 1 (.l (.st 5)) [(0,(.tmp 21))])
 (qd 10 [wn 23 [wh (.app · (.l (.st 5)) false (.tmp 14) (.tmp 22)),wo 0 3],
 qn [qw 1 24 23]] .nil)))))) [1,2,3,4])) (qr [wn 11 [wm 4,wI .add 1],
 qn [qa 4 12]] (Kp 30)))))) (sq [qL 25 1 3,qw 1 2 25] [2] .ret)))⟩
noncomputable def dq(v5:AP):Option AP:=
 some v5
noncomputable def UC(p0:AP)(L1:(Int×AP)->Option AP)(x_:(Int×AP)):Option AP:=
 match x_ with
 |(v2,v3)=>br (decide (v2<(↑p0.AJ.length:Int)))
  (bd (at? p0.AJ v2) fun x4=>
  gd (0+List.length x4<=lim) (
  gd (v3.AJ.length+[[]++x4].length<=lim) (
  L1 ((w64 (v2+1),AP.mk (v3.AJ++[[]++x4]))))))
  (jn (dq) v3)
noncomputable def dp(p0:AP):Option AP:=
 AR (UC p0) big (0,AP.mk [])
noncomputable def E5:GF:=zu.gf rfl rfl (fun a=>dp a.1) (fun a=>by kernel_rfl)
noncomputable def zw:YF:=⟨[],[.v (.st 6)],[],.ret [(.st 6)],[.cell 2 (some 1)],
 sq [qu 1 0,.alloc 2 [.nil],.Az [(.cell 2 0,(.l (.st 5)))]] [1,2] (sq [.alloc 3 [.nil],.Az [(.cell 3 0,(.l (.st 5)))]] (Kp 14) (.join [cx 3 (.st 6)] (sw 6 [wo 0 1,wL,wZ,wj 0] (Kp 908) (bl 0 [cv 9 .i,cx 3 (.st 6)] (sq [qb 10 .lss 9 8] (Kp 1932) (.seq (ce 10 (Kp 908) [2,3] 0) (.seq (.block 1 (sr [wn 11 [we (.l (.st 5)) 7 9,wL],
 qn [qa 5 12]] (Kp 940) (.BI (qd 0 [wn 13 [wo 0 3,wL,wm 5]] (.op 3 none [13] (.app 16 (.st 5) true (.k .nil) (.tmp 15))
 (.op 4 none [13] (.Ah 17 1 (.l (.st 5)) [(0,(.tmp 16))])
 (qd 5 [wn 18 [wh (.app · (.l (.st 5)) false (.tmp 14) (.tmp 17)),wo 0 3],
 qn [qw 1 19 18]] .nil)))) [2,3,7,8,9]))) (q1 [qi 20 .add 9 1,qm 9 20] (Kp 908))))))) (sq [qL 21 1 3,qw 1 2 21] [2] .ret)))⟩
noncomputable def du(v5:AP):Option AP:=
 some v5
noncomputable def UD(p0:AP)(L1:(Int×AP)->Option AP)(x_:(Int×AP)):Option AP:=
 match x_ with
 |(v2,v3)=>br (decide (v2<(↑p0.AJ.length:Int)))
  (bd (at? p0.AJ v2) fun x4=>
  gd (0+List.length x4<=lim) (
  gd (v3.AJ.length+[x4].length<=lim) (
  L1 ((w64 (v2+1),AP.mk (v3.AJ++[x4]))))))
  (jn (du) v3)
noncomputable def dt(p0:AP):Option AP:=
 AR (UD p0) big (0,AP.mk [])
noncomputable def E6:GF:=zw.gf rfl rfl (fun a=>dt a.1) (fun a=>by kernel_rfl)
end Lv
