/-
  Printed: functions of the program as texts of the typed machine, as plain functions, and that the one is the other.
-/
import Derived.Test.YtffakkimlookoaaGreatKA
import Derived.KernelRfl
set_option linter.unusedVariables false
set_option linter.unusedSimpArgs false
set_option maxRecDepth 100000
namespace Lv
open Go (IntKind BinOp UnOp)
open Y (YF qn qf qt qr q1 qd qm qa qo ql qL qb qi qx qp qq qc qz qe qk qK qB qw qu qj Kp wn wf wt w1 sw sq sr wm wM wo wO wl wL wk wK wz wZ wx wX wb wB wi wI wr wR wq wQ we wE wc wY wj wh cv ca cx cn ce bl)
noncomputable def zr:YF:=⟨[],[.v (.st 1)],[],.ret [(.l .i)],[.tmp 2],
 sq [qu 1 0,.as 2 (.k .nil),.Av [(.tmp 2 0,.i)]] [1] (.seq (sw 3 [wk 9 1,wY Dg rfl,wX] [1,5] (cn 5 [1] (sq [.as 2 (.k .nil),.Av [(.tmp 2 0,.i)]] [2] .ret))) (sr [wn 6 [wo 1 1,wL,wo 2 1,wL,wo 3 1,wL,wo 4 1,wL,wo 5 1,wL,wo 6 1,wL,wo 7 1,wL,wo 8 1,wL,wh (.AW · 8 .i [(0,(.tmp 7)),(1,(.tmp 9)),(2,(.tmp 11)),(3,(.tmp 13)),(4,(.tmp 15)),(5,(.tmp 17)),(6,(.tmp 19)),(7,(.tmp 21))]),wo 0 1,wL,wh (.app · .i true (.tmp 22) (.tmp 24))],
 qn [qa 2 25]] [2] .ret))⟩
noncomputable def X3(p0:AO):Option (List Int):=
 bd (cV p0) fun x1=>
 br (!x1)
  (some [])
  (gd ([p0.BG,p0.Room,p0.As,p0.A2,p0.Ax,p0.Rest,p0.BA,p0.Bd].length+p0.AM.length<=lim) (
  some ([p0.BG,p0.Room,p0.As,p0.A2,p0.Ax,p0.Rest,p0.BA,p0.Bd]++p0.AM)))
noncomputable def FM:GF:=zr.gf rfl rfl (fun a=>X3 a.1) (fun a=>by kernel_rfl)
noncomputable def zt:YF:=⟨[],[.v (.st 8)],[],.ret [(.l .i)],[.tmp 2],
 sq [qu 1 0,.as 2 (.k .nil)] [1] (.seq (sw 11 [wk 15 1,wY Dh rfl,wX] [1,13] (cn 13 [1] (sq [.as 2 (.k .nil)] [2] .ret))) (sr [wn 14 [wo 0 1,wK 9,wY FM rfl],
 qn [qa 3 16]] [1,3] (sr [wn 17 [wm 3,wZ,wh (.AW · 1 .i [(0,(.tmp 18))]),wm 3,wh (.app · .i true (.tmp 19) (.tmp 20))],
 qn [qa 4 21]] [1,4] (sr [wn 22 [wm 4,wo 9 1,wL,wo 10 1,wL,wo 11 1,wL,wZ,wh (.AW · 3 .i [(0,(.tmp 24)),(1,(.tmp 26)),(2,(.tmp 29))]),wh (.app · .i true (.tmp 22) (.tmp 30))],
 qn [qa 4 31]] [1,4] (.join [cv 4 (.l .i)] (sw 32 [wo 11 1,wL,wZ,wj 0] (Kp 60129542162) (bl 0 [cv 4 (.l .i),cv 35 .i] (sq [qb 36 .lss 35 34] (Kp 128849018898) (.seq (ce 36 (Kp 60129542162) [1,4] 0) (.seq (.block 1 (sr [wn 37 [we (.st 2) 33 35,wK 10],
 qn [.alloc 6 BM,qw 10 6 38]] (Kp 60129542226) (qr [wn 39 [wm 4,wo 0 6,wL,wo 1 6,wL,wo 2 6,wL,wI .add 1,wo 3 6,wL,wo 4 6,wL,wo 5 6,wL,wo 6 6,wL,wo 7 6,wL,wo 8 6,wL,wo 9 6,wL,wh (.AW · 10 .i [(0,(.tmp 41)),(1,(.tmp 43)),(2,(.tmp 46)),(3,(.tmp 48)),(4,(.tmp 50)),(5,(.tmp 52)),(6,(.tmp 54)),(7,(.tmp 56)),(8,(.tmp 58)),(9,(.tmp 60))]),wh (.app · .i true (.tmp 39) (.tmp 61))],
 qn [qa 4 62]] (Kp 60129542162)))) (q1 [qi 63 .add 35 1,qm 35 63] (Kp 60129542162))))))) (.join [cv 4 (.l .i)] (sw 64 [wo 12 1,wL,wZ,wj 0] [1,4,65,66,67] (bl 2 [cv 4 (.l .i),cv 67 .i] (sq [qb 68 .lss 67 66] [1,4,65,66,67,68] (.seq (ce 68 [1,4,65,66,67] [1,4] 2) (.seq (.block 3 (sr [wn 69 [we (.st 7) 65 67,wK 7],
 qn [.alloc 8 Cn,.Av [(.cell 8 5,(.st 4)),(.cell 8 6,(.l (.st 5)))],qw 7 8 70]] [1,4,8,65,66,67] (qr [wn 71 [wm 4,wo 0 8,wO 1,wL,wh (.AW · 1 .i [(0,(.tmp 74))]),wh (.app · .i true (.tmp 71) (.tmp 75))],
 qn [qa 4 76]] [1,4,65,66,67]))) (q1 [qi 77 .add 67 1,qm 67 77] [1,4,65,66,67])))))) (sr [wn 78 [wm 4,wo 13 1,wL,wZ,wh (.AW · 1 .i [(0,(.tmp 81))]),wh (.app · .i true (.tmp 78) (.tmp 82))],
 qn [qa 4 83]] [1,4] (sr [wn 84 [wm 4,wo 13 1,wL,wh (.app · .i true (.tmp 84) (.tmp 86))],
 qn [qa 4 87]] [1,4] (.join [cv 4 (.l .i)] (sw 88 [wo 14 1,wL,wZ,wj 0] [4,89,90,91] (bl 4 [cv 4 (.l .i),cv 91 .i] (sq [qb 92 .lss 91 90] [4,89,90,91,92] (.seq (ce 92 [4,89,90,91] [4] 4) (.seq (.block 5 (sr [wn 93 [we .i 89 91,wL],
 qn [qa 10 94]] [4,10,89,90,91] (qr [wn 95 [wm 4,wm 10,wI .add 1,wh (.AW · 1 .i [(0,(.tmp 97))]),wh (.app · .i true (.tmp 95) (.tmp 98))],
 qn [qa 4 99]] [4,89,90,91]))) (q1 [qi 100 .add 91 1,qm 91 100] [4,89,90,91])))))) (sq [qm 101 4,qa 2 101] [2] .ret))))))))))⟩
noncomputable def dv(v17:(List Int)):Option (List Int):=
 some v17
noncomputable def Ts(p0:AF)(L13:((List Int)×Int)->Option (List Int))(x_:((List Int)×Int)):Option (List Int):=
 match x_ with
 |(v14,v15)=>br (decide (v15<(↑p0.BC.length:Int)))
  (bd (at? p0.BC v15) fun x16=>
  gd (List.length v14+[w64 (x16+1)].length<=lim) (
  L13 ((v14++[w64 (x16+1)],w64 (v15+1)))))
  (jn (dv) v14)
noncomputable def PI(p0:AF)(v12:(List Int)):Option (List Int):=
 gd (v12.length+[(↑p0.A7.length:Int)].length<=lim) (
 gd ((v12++[(↑p0.A7.length:Int)]).length+p0.A7.length<=lim) (
 AT (Ts p0) big ((v12++[(↑p0.A7.length:Int)]++p0.A7,0))))
noncomputable def Tr(p0:AF)(L8:((List Int)×Int)->Option (List Int))(x_:((List Int)×Int)):Option (List Int):=
 match x_ with
 |(v9,v10)=>br (decide (v10<(↑p0.AR.length:Int)))
  (bd (at? p0.AR v10) fun x11=>
  gd (List.length v9+[x11.AM.Co].length<=lim) (
  L8 ((v9++[x11.AM.Co],w64 (v10+1)))))
  (jn (PI p0) v9)
noncomputable def PH(p0:AF)(v7:(List Int)):Option (List Int):=
 AT (Tr p0) big (v7,0)
noncomputable def Tq(p0:AF)(L3:((List Int)×Int)->Option (List Int))(x_:((List Int)×Int)):Option (List Int):=
 match x_ with
 |(v4,v5)=>br (decide (v5<(↑p0.AE.length:Int)))
  (bd (at? p0.AE v5) fun x6=>
  gd (List.length v4+[x6.Id,x6.A4,w64 (x6.CB+1),x6.As,x6.CX,x6.Since,x6.Ah,x6.State,x6.BW,x6.CA].length<=lim) (
  L3 ((v4++[x6.Id,x6.A4,w64 (x6.CB+1),x6.As,x6.CX,x6.Since,x6.Ah,x6.State,x6.BW,x6.CA],w64 (v5+1)))))
  (jn (PH p0) v4)
noncomputable def du(p0:AF):Option (List Int):=
 bd (Tj p0) fun x1=>
 br (!x1)
  (none)
  (bd (X3 p0.AS) fun x2=>
  gd ([(↑(List.length x2):Int)].length+List.length x2<=lim) (
  gd (([(↑(List.length x2):Int)]++x2).length+[p0.Now,p0.Ah,(↑p0.AE.length:Int)].length<=lim) (
  AT (Tq p0) big (([(↑(List.length x2):Int)]++x2++[p0.Now,p0.Ah,(↑p0.AE.length:Int)],0)))))
noncomputable def Uv:GF:=zt.gf rfl rfl (fun a=>du a.1) (fun a=>by kernel_rfl)
noncomputable def zu:YF:=⟨[],[.v .i],[],.ret [(.l .u)],[.tmp 2],
 sq [.as 2 (.k .nil),.Av [(.tmp 2 0,.u)]] [0] (.seq (sw 4 [wm 0,wc Af rfl [4,qj 0,qj 2147483647],wX] [0,6] (cn 6 [0] (sq [.as 2 (.k .nil),.Av [(.tmp 2 0,.u)]] [2] .ret))) (sq [.as 3 (.k .nil),.Av [(.tmp 3 0,.u)]] [0,3] (.join [cv 0 .i,cv 3 (.l .u)] (bl 0 [cv 0 .i,cv 3 (.l .u)] (.seq (sw 7 [wm 0,wI .geq 128] (Kp 265) (ce 8 [0,3] [0,3] 0)) (.block 1 (sr [wn 9 [wm 3,wm 0,wI .rem 128,wI .add 128,wh (.cvI · .u8 (.tmp 12)),wh (.AW · 1 .u [(0,(.tmp 13))]),wh (.app · .u true (.tmp 9) (.tmp 14))],
 qn [qa 3 15]] [0,3] (qr [wn 16 [wm 0,wI .quo 128],
 qn [qa 0 17]] [0,3]))))) (sr [wn 18 [wm 3,wm 0,wh (.cvI · .u8 (.tmp 19)),wh (.AW · 1 .u [(0,(.tmp 20))]),wh (.app · .u true (.tmp 18) (.tmp 21))],
 qn [qa 2 22]] [2] .ret))))⟩
noncomputable def dw(x_:(Int×(List UInt8))):Option (List UInt8):=
 match x_ with
 |(v5,v6)=>gd (v6.length+[toB v5].length<=lim) (
 some (v6++[toB v5]))
noncomputable def dx(L2:(Int×(List UInt8))->Option (List UInt8))(x_:(Int×(List UInt8))):Option (List UInt8):=
 match x_ with
 |(v3,v4)=>br (decide (v3>=128))
  (gd (v4.length+[toB (w64 (Int.tmod v3 128+128))].length<=lim) (
  L2 ((w64 (Int.tdiv v3 128),v4++[toB (w64 (Int.tmod v3 128+128))]))))
  (jn (dw) (v3,v4))
noncomputable def Tt(p0:Int):Option (List UInt8):=
 bd (Ce p0 0 2147483647) fun x1=>
 br (!x1)
  (some [])
  (AT (dx) big (p0,[]))
noncomputable def Ek:GF:=zu.gf rfl rfl (fun a=>Tt a.1) (fun a=>by kernel_rfl)
noncomputable def zw:YF:=⟨[],[.v (.l .i)],[],.ret [.s],[.tmp 2],
 sq [.as 2 (.k (.str []))] [0] (sq [.as 3 (.k .nil),.Av [(.tmp 3 0,.u)]] [0,3] (.join [cv 3 (.l .u)] (sw 6 [wm 0,wZ,wj 0] (Kp 456) (bl 0 [cv 3 (.l .u),cv 8 .i] (sq [qb 9 .lss 8 7] (Kp 968) (.seq (ce 9 (Kp 456) [3] 0) (.seq (.block 1 (sr [wn 10 [we .i 6 8,wL],
 qn [qa 5 11]] (Kp 488) (qr [wn 12 [wm 3,wm 5,wY Ek rfl,wh (.app · .u true (.tmp 12) (.tmp 14))],
 qn [qa 3 15]] (Kp 456)))) (q1 [qi 16 .add 8 1,qm 8 16] (Kp 456))))))) (sr [wn 17 [wm 3,wh (.He · (.tmp 17))],
 qn [qa 2 18]] [2] .ret)))⟩
noncomputable def dy(v6:(List UInt8)):Option (List UInt8):=
 some v6
noncomputable def Tv(p0:(List Int))(L1:((List UInt8)×Int)->Option (List UInt8))(x_:((List UInt8)×Int)):Option (List UInt8):=
 match x_ with
 |(v2,v3)=>br (decide (v3<(↑p0.length:Int)))
  (bd (at? p0 v3) fun x4=>
  bd (Tt x4) fun x5=>
  gd (List.length v2+List.length x5<=lim) (
  L1 ((v2++x5,w64 (v3+1)))))
  (jn (dy) v2)
noncomputable def mM(p0:(List Int)):Option (List UInt8):=
 AT (Tv p0) big ([],0)
noncomputable def LG:GF:=zw.gf rfl rfl (fun a=>mM a.1) (fun a=>by kernel_rfl)
noncomputable def zx:YF:=⟨[],[.v (.l .u)],[],.ret [.i],[.tmp 2],
 sq [qK 2 0] [0] (sq [qK 3 4294967295] [0,3] (.join [cv 3 .i] (sw 8 [wm 0,wZ,wj 0] (Kp 1800) (bl 0 [cv 3 .i,cv 10 .i] (sq [qb 11 .lss 10 9] (Kp 3848) (.seq (ce 11 (Kp 1800) [3] 0) (.join [cv 3 .i] (.block 1 (sr [wn 12 [we .u 8 10,wL],
 qn [qa 5 13]] (Kp 1832) (sr [wn 14 [wm 3,wm 5,wh (.cvI · .i64 (.tmp 15)),wB .xor 14],
 qn [qa 3 17]] (Kp 1800) (sq [qK 6 0] (Kp 1864) (bl 2 [cv 3 .i,cv 6 .i] (.seq (sw 18 [wm 6,wI .lss 8] (Kp 526152) (ce 19 [3,6,8,9,10] (Kp 1800) 2)) (.join [cv 3 .i] (.block 3 (sr [wn 22 [wm 3,wI .and 1],
 qn [qa 7 23]] (Kp 1992) (sr [wn 24 [wm 3,wh (.bin · .num .shr (.tmp 24) (.k (.int .u64 1)))],
 qn [qa 3 25]] (Kp 1992) (sw 26 [wm 7,wI .eql 1] (Kp 134219592) (.cond 27 [3,6,8,9,10] (Kp 1864) (qr [wn 28 [wm 3,wI .xor 3988292384],
 qn [qa 3 29]] (Kp 1864)) .skip))))) (qr [wn 20 [wm 6,wI .add 1],
 qn [qa 6 21]] (Kp 1864))))))))) (q1 [qi 30 .add 10 1,qm 10 30] (Kp 1800))))))) (sr [wn 31 [wm 3,wI .xor 4294967295],
 qn [qa 2 32]] [2] .ret)))⟩
noncomputable def Tw(L5:(Int×Int)->Option Int)(v7:Int)(v8:Int):Option Int:=
 L5 ((v8,w64 (v7+1)))
noncomputable def eA(L1:(Int×Int)->Option Int)(v3:Int)(v9:Int):Option Int:=
 L1 ((v9,w64 (v3+1)))
noncomputable def Ty(L1:(Int×Int)->Option Int)(v3:Int)(L5:(Int×Int)->Option Int)(x_:(Int×Int)):Option Int:=
 match x_ with
 |(v6,v7)=>br (decide (v7<8))
  (br (SG v6 1==1)
   (jn (Tw L5 v7) (NA (BE v6 1) 3988292384))
   (jn (Tw L5 v7) (BE v6 1)))
  (jn (eA L1 v3) v6)
noncomputable def eB(v10:Int):Option Int:=
 some (NA v10 4294967295)
noncomputable def Tx(p0:(List UInt8))(L1:(Int×Int)->Option Int)(x_:(Int×Int)):Option Int:=
 match x_ with
 |(v2,v3)=>br (decide (v3<(↑p0.length:Int)))
  (bd (at? p0 v3) fun x4=>
  AT (Ty L1 v3) big ((NA v2 (w64 (↑(UInt8.toNat x4):Int)),0)))
  (jn (eB) v2)
noncomputable def mN(p0:(List UInt8)):Option Int:=
 AT (Tx p0) big (4294967295,0)
noncomputable def LH:GF:=zx.gf rfl rfl (fun a=>mN a.1) (fun a=>by kernel_rfl)
noncomputable def zy:YF:=⟨[],[.v (.st 8),.v .i],[],.ret [.s],[.tmp 4],
 sq [qu 2 0,.as 4 (.k (.str []))] [1,2] (sr [wn 8 [wk 15 2,wY Uv rfl],
 qn [qa 5 9]] [1,5] (.seq (sr [wn 10 [wm 5,wh (.bin · .sl .eql (.tmp 10) (.k .nil)),wM],
 wf 12 13 [wm 1,wc Af rfl [13,qj 0,qj 1000000],wX],
 qn [qp 16 12 15]] [1,5,16] (cn 16 [1,5] (sq [.as 4 (.k (.str []))] [4] .ret))) (.seq (.A8 (.op 0 none [] (.mv 17 (.tmp 1))
 (.op 3 none [] (.mv 20 (.tmp 5))
 (qd 1 [wn 18 [wY Ek rfl,wh (.He · (.tmp 18))]] (.op 4 none [18] (.call 21 LG [] rfl [(.tmp 20)])
 (qd 5 [qn [qb 22 .add 19 21,qa 6 22]] .nil))))) [6]) (sr [wn 23 [wm 6,wh (.Jb · (.tmp 23)),wY LH rfl],
 qn [qa 7 25]] [6,7] (sr [wn 26 [wm 7,wh (.bin · .num .shr (.tmp 26) (.k (.int .u64 24))),wh (.cvI · .u8 (.tmp 27)),wm 7,wh (.bin · .num .shr (.tmp 29) (.k (.int .u64 16))),wh (.cvI · .u8 (.tmp 30)),wm 7,wh (.bin · .num .shr (.tmp 32) (.k (.int .u64 8))),wh (.cvI · .u8 (.tmp 33)),wm 7,wh (.cvI · .u8 (.tmp 35)),wh (.AW · 4 .u [(0,(.tmp 28)),(1,(.tmp 31)),(2,(.tmp 34)),(3,(.tmp 36))]),wh (.He · (.tmp 37)),wm 6,wB .add 38],
 qn [qa 4 40]] [4] .ret)))))⟩
noncomputable def X4(p0:AF)(p1:Int):Option (List UInt8):=
 bd (du p0) fun x1=>
 gd (List.isEmpty x1=false) (
 bd (Ce p1 0 1000000) fun x2=>
 br (!x2)
  (some [])
  (bd (Tt p1) fun x3=>
  bd (mM x1) fun x4=>
  gd (List.length x3+List.length x4<=bL) (
  bd (mN (x3++x4)) fun x5=>
  gd ([toB (BE x5 24),toB (BE x5 16),toB (BE x5 8),toB x5].length+(x3++x4).length<=bL) (
  some ([toB (BE x5 24),toB (BE x5 16),toB (BE x5 8),toB x5]++(x3++x4))))))
noncomputable def jM:GF:=zy.gf rfl rfl (fun a=>X4 a.1 a.2.1) (fun a=>by kernel_rfl)
noncomputable def z5:YF:=⟨[],[.v (.st 8)],[],.ret [.z],[.tmp 2],
 sq [qu 1 0,.as 2 (.k .nil)] [1] (.seq (sw 11 [wk 15 1,wY Dh rfl,wX] [1,13] (cn 13 [1] (sq [.as 2 (.k .nil)] [2] .ret))) (sr [wn 14 [wo 0 1,wK 9,wY FM rfl],
 qn [qa 3 16]] [1,3] (sr [wn 17 [wm 3,wZ,wh (.AW · 1 .i [(0,(.tmp 18))]),wm 3,wh (.app · .i true (.tmp 19) (.tmp 20))],
 qn [qa 4 21]] [1,4] (sr [wn 22 [wm 4,wo 9 1,wL,wo 10 1,wL,wo 11 1,wL,wZ,wh (.AW · 3 .i [(0,(.tmp 24)),(1,(.tmp 26)),(2,(.tmp 29))]),wh (.app · .i true (.tmp 22) (.tmp 30))],
 qn [qa 4 31]] [1,4] (.join [cv 4 (.l .i)] (sw 32 [wo 11 1,wL,wZ,wj 0] (Kp 60129542162) (bl 0 [cv 4 (.l .i),cv 35 .i] (sq [qb 36 .lss 35 34] (Kp 128849018898) (.seq (ce 36 (Kp 60129542162) [1,4] 0) (.seq (.block 1 (sr [wn 37 [we (.st 2) 33 35,wK 10],
 qn [.alloc 6 BM,qw 10 6 38]] (Kp 60129542226) (qr [wn 39 [wm 4,wo 0 6,wL,wo 1 6,wL,wo 2 6,wL,wI .add 1,wo 3 6,wL,wo 4 6,wL,wo 5 6,wL,wo 6 6,wL,wo 7 6,wL,wo 8 6,wL,wo 9 6,wL,wh (.AW · 10 .i [(0,(.tmp 41)),(1,(.tmp 43)),(2,(.tmp 46)),(3,(.tmp 48)),(4,(.tmp 50)),(5,(.tmp 52)),(6,(.tmp 54)),(7,(.tmp 56)),(8,(.tmp 58)),(9,(.tmp 60))]),wh (.app · .i true (.tmp 39) (.tmp 61))],
 qn [qa 4 62]] (Kp 60129542162)))) (q1 [qi 63 .add 35 1,qm 35 63] (Kp 60129542162))))))) (.join [cv 4 (.l .i)] (sw 64 [wo 12 1,wL,wZ,wj 0] [1,4,65,66,67] (bl 2 [cv 4 (.l .i),cv 67 .i] (sq [qb 68 .lss 67 66] [1,4,65,66,67,68] (.seq (ce 68 [1,4,65,66,67] [1,4] 2) (.seq (.block 3 (sr [wn 69 [we (.st 7) 65 67,wK 7],
 qn [.alloc 8 Cn,.Av [(.cell 8 5,(.st 4)),(.cell 8 6,(.l (.st 5)))],qw 7 8 70]] [1,4,8,65,66,67] (qr [wn 71 [wm 4,wo 0 8,wO 1,wL,wh (.AW · 1 .i [(0,(.tmp 74))]),wh (.app · .i true (.tmp 71) (.tmp 75))],
 qn [qa 4 76]] [1,4,65,66,67]))) (q1 [qi 77 .add 67 1,qm 67 77] [1,4,65,66,67])))))) (sr [wn 78 [wm 4,wo 13 1,wL,wZ,wh (.AW · 1 .i [(0,(.tmp 81))]),wh (.app · .i true (.tmp 78) (.tmp 82))],
 qn [qa 4 83]] [1,4] (sr [wn 84 [wm 4,wo 13 1,wL,wh (.app · .i true (.tmp 84) (.tmp 86))],
 qn [qa 4 87]] [1,4] (.join [cv 4 (.l .i)] (sw 88 [wo 14 1,wL,wZ,wj 0] [4,89,90,91] (bl 4 [cv 4 (.l .i),cv 91 .i] (sq [qb 92 .lss 91 90] [4,89,90,91,92] (.seq (ce 92 [4,89,90,91] [4] 4) (.seq (.block 5 (sr [wn 93 [we .i 89 91,wL],
 qn [qa 10 94]] [4,10,89,90,91] (qr [wn 95 [wm 4,wm 10,wI .add 1,wh (.AW · 1 .i [(0,(.tmp 97))]),wh (.app · .i true (.tmp 95) (.tmp 98))],
 qn [qa 4 99]] [4,89,90,91]))) (q1 [qi 100 .add 91 1,qm 91 100] [4,89,90,91])))))) (sq [qm 101 4,qa 2 101] [2] .ret))))))))))⟩
noncomputable def qy(v17:(List Int)):Option PUnit:=
 none
noncomputable def rC(p0:AF)(L13:((List Int)×Int)->Option PUnit)(x_:((List Int)×Int)):Option PUnit:=
 match x_ with
 |(v14,v15)=>br (decide (v15<(↑p0.BC.length:Int)))
  (bd (at? p0.BC v15) fun x16=>
  gd (List.length v14+[w64 (x16+1)].length<=lim) (
  L13 ((v14++[w64 (x16+1)],w64 (v15+1)))))
  (jn (qy) v14)
noncomputable def qv(p0:AF)(v12:(List Int)):Option PUnit:=
 gd (v12.length+[(↑p0.A7.length:Int)].length<=lim) (
 gd ((v12++[(↑p0.A7.length:Int)]).length+p0.A7.length<=lim) (
 AT (rC p0) big ((v12++[(↑p0.A7.length:Int)]++p0.A7,0))))
noncomputable def rB(p0:AF)(L8:((List Int)×Int)->Option PUnit)(x_:((List Int)×Int)):Option PUnit:=
 match x_ with
 |(v9,v10)=>br (decide (v10<(↑p0.AR.length:Int)))
  (bd (at? p0.AR v10) fun x11=>
  gd (List.length v9+[x11.AM.Co].length<=lim) (
  L8 ((v9++[x11.AM.Co],w64 (v10+1)))))
  (jn (qv p0) v9)
noncomputable def qh(p0:AF)(v7:(List Int)):Option PUnit:=
 AT (rB p0) big (v7,0)
noncomputable def rA(p0:AF)(L3:((List Int)×Int)->Option PUnit)(x_:((List Int)×Int)):Option PUnit:=
 match x_ with
 |(v4,v5)=>br (decide (v5<(↑p0.AE.length:Int)))
  (bd (at? p0.AE v5) fun x6=>
  gd (List.length v4+[x6.Id,x6.A4,w64 (x6.CB+1),x6.As,x6.CX,x6.Since,x6.Ah,x6.State,x6.BW,x6.CA].length<=lim) (
  L3 ((v4++[x6.Id,x6.A4,w64 (x6.CB+1),x6.As,x6.CX,x6.Since,x6.Ah,x6.State,x6.BW,x6.CA],w64 (v5+1)))))
  (jn (qh p0) v4)
noncomputable def qg(p0:AF):Option PUnit:=
 bd (Tj p0) fun x1=>
 br (!x1)
  (some ())
  (bd (X3 p0.AS) fun x2=>
  gd ([(↑(List.length x2):Int)].length+List.length x2<=lim) (
  gd (([(↑(List.length x2):Int)]++x2).length+[p0.Now,p0.Ah,(↑p0.AE.length:Int)].length<=lim) (
  AT (rA p0) big (([(↑(List.length x2):Int)]++x2++[p0.Now,p0.Ah,(↑p0.AE.length:Int)],0)))))
noncomputable def Uw:GF:=z5.gf rfl rfl (fun a=>qg a.1) (fun a=>by kernel_rfl)
noncomputable def z6:YF:=⟨[],[.v (.st 8),.v .i],[],.ret [.s],[.tmp 4],
 sq [qu 2 0,.as 4 (.k (.str []))] [1,2] (sr [wn 8 [wk 15 2,wY Uw rfl],
 qn [qa 5 9]] [1,5] (.seq (sr [wn 10 [wm 5,wh (.bin · .sl .eql (.tmp 10) (.k .nil)),wM],
 wf 12 13 [wm 1,wc Af rfl [13,qj 0,qj 1000000],wX],
 qn [qp 16 12 15]] [1,5,16] (cn 16 [1,5] (sq [.as 4 (.k (.str []))] [4] .ret))) (.seq (.A8 (.op 0 none [] (.mv 17 (.tmp 1))
 (.op 3 none [] (.mv 20 (.tmp 5))
 (qd 1 [wn 18 [wY Ek rfl,wh (.He · (.tmp 18))]] (.op 4 none [18] (.call 21 LG [] rfl [(.tmp 20)])
 (qd 5 [qn [qb 22 .add 19 21,qa 6 22]] .nil))))) [6]) (sr [wn 23 [wm 6,wh (.Jb · (.tmp 23)),wY LH rfl],
 qn [qa 7 25]] [6,7] (sr [wn 26 [wm 7,wh (.bin · .num .shr (.tmp 26) (.k (.int .u64 24))),wh (.cvI · .u8 (.tmp 27)),wm 7,wh (.bin · .num .shr (.tmp 29) (.k (.int .u64 16))),wh (.cvI · .u8 (.tmp 30)),wm 7,wh (.bin · .num .shr (.tmp 32) (.k (.int .u64 8))),wh (.cvI · .u8 (.tmp 33)),wm 7,wh (.cvI · .u8 (.tmp 35)),wh (.AW · 4 .u [(0,(.tmp 28)),(1,(.tmp 31)),(2,(.tmp 34)),(3,(.tmp 36))]),wh (.He · (.tmp 37)),wm 6,wB .add 38],
 qn [qa 4 40]] [4] .ret)))))⟩
noncomputable def mO(p0:AF)(p1:Int):Option (List UInt8):=
 bd (qg p0) fun x1=>
 some []
noncomputable def jN:GF:=z6.gf rfl rfl (fun a=>mO a.1 a.2.1) (fun a=>by kernel_rfl)
noncomputable def X5(p0:AF)(p1:Int):Option (List UInt8):=orE (X4 p0 p1) (mO p0 p1)
noncomputable def Jm:GF:=jM.orE (fun a=>X5 a.1 a.2.1) (fun a=>mO a.1 a.2.1) (fun a=>by kernel_rfl) (fun a r h=>Eq.mp (by kernel_rfl) (jN.ok a r h))
noncomputable def z7:YF:=⟨[],[.v (.st 8)],[],.ret [(.l .i)],[.tmp 2],
 sq [qu 1 0,.as 2 (.k .nil),.Av [(.tmp 2 0,.i)]] [1] (.seq (sw 11 [wk 15 1,wY Dh rfl,wX] [1,13] (cn 13 [1] (sq [.as 2 (.k .nil),.Av [(.tmp 2 0,.i)]] [2] .ret))) (sr [wn 14 [wo 0 1,wK 9,wY FM rfl],
 qn [qa 3 16]] [1,3] (sr [wn 17 [wm 3,wZ,wh (.AW · 1 .i [(0,(.tmp 18))]),wm 3,wh (.app · .i true (.tmp 19) (.tmp 20))],
 qn [qa 4 21]] [1,4] (sr [wn 22 [wm 4,wo 9 1,wL,wo 10 1,wL,wo 11 1,wL,wZ,wh (.AW · 3 .i [(0,(.tmp 24)),(1,(.tmp 26)),(2,(.tmp 29))]),wh (.app · .i true (.tmp 22) (.tmp 30))],
 qn [qa 4 31]] [1,4] (.join [cv 4 (.l .i)] (sw 32 [wo 11 1,wL,wZ,wj 0] (Kp 60129542162) (bl 0 [cv 4 (.l .i),cv 35 .i] (sq [qb 36 .lss 35 34] (Kp 128849018898) (.seq (ce 36 (Kp 60129542162) [1,4] 0) (.seq (.block 1 (sr [wn 37 [we (.st 2) 33 35,wK 10],
 qn [.alloc 6 BM,qw 10 6 38]] (Kp 60129542226) (qr [wn 39 [wm 4,wo 0 6,wL,wo 1 6,wL,wo 2 6,wL,wI .add 1,wo 3 6,wL,wo 4 6,wL,wo 5 6,wL,wo 6 6,wL,wo 7 6,wL,wo 8 6,wL,wo 9 6,wL,wh (.AW · 10 .i [(0,(.tmp 41)),(1,(.tmp 43)),(2,(.tmp 46)),(3,(.tmp 48)),(4,(.tmp 50)),(5,(.tmp 52)),(6,(.tmp 54)),(7,(.tmp 56)),(8,(.tmp 58)),(9,(.tmp 60))]),wh (.app · .i true (.tmp 39) (.tmp 61))],
 qn [qa 4 62]] (Kp 60129542162)))) (q1 [qi 63 .add 35 1,qm 35 63] (Kp 60129542162))))))) (.join [cv 4 (.l .i)] (sw 64 [wo 12 1,wL,wZ,wj 0] [1,4,65,66,67] (bl 2 [cv 4 (.l .i),cv 67 .i] (sq [qb 68 .lss 67 66] [1,4,65,66,67,68] (.seq (ce 68 [1,4,65,66,67] [1,4] 2) (.seq (.block 3 (sr [wn 69 [we (.st 7) 65 67,wK 7],
 qn [.alloc 8 Cn,.Av [(.cell 8 5,(.st 4)),(.cell 8 6,(.l (.st 5)))],qw 7 8 70]] [1,4,8,65,66,67] (qr [wn 71 [wm 4,wo 0 8,wO 1,wL,wh (.AW · 1 .i [(0,(.tmp 74))]),wh (.app · .i true (.tmp 71) (.tmp 75))],
 qn [qa 4 76]] [1,4,65,66,67]))) (q1 [qi 77 .add 67 1,qm 67 77] [1,4,65,66,67])))))) (sr [wn 78 [wm 4,wo 13 1,wL,wZ,wh (.AW · 1 .i [(0,(.tmp 81))]),wh (.app · .i true (.tmp 78) (.tmp 82))],
 qn [qa 4 83]] [1,4] (sr [wn 84 [wm 4,wo 13 1,wL,wh (.app · .i true (.tmp 84) (.tmp 86))],
 qn [qa 4 87]] [1,4] (.join [cv 4 (.l .i)] (sw 88 [wo 14 1,wL,wZ,wj 0] [4,89,90,91] (bl 4 [cv 4 (.l .i),cv 91 .i] (sq [qb 92 .lss 91 90] [4,89,90,91,92] (.seq (ce 92 [4,89,90,91] [4] 4) (.seq (.block 5 (sr [wn 93 [we .i 89 91,wL],
 qn [qa 10 94]] [4,10,89,90,91] (qr [wn 95 [wm 4,wm 10,wI .add 1,wh (.AW · 1 .i [(0,(.tmp 97))]),wh (.app · .i true (.tmp 95) (.tmp 98))],
 qn [qa 4 99]] [4,89,90,91]))) (q1 [qi 100 .add 91 1,qm 91 100] [4,89,90,91])))))) (sq [qm 101 4,qa 2 101] [2] .ret))))))))))⟩
noncomputable def eC(v17:(List Int)):Option (List Int):=
 some v17
noncomputable def T1(p0:AF)(L13:((List Int)×Int)->Option (List Int))(x_:((List Int)×Int)):Option (List Int):=
 match x_ with
 |(v14,v15)=>br (decide (v15<(↑p0.BC.length:Int)))
  (bd (at? p0.BC v15) fun x16=>
  gd (List.length v14+[w64 (x16+1)].length<=lim) (
  L13 ((v14++[w64 (x16+1)],w64 (v15+1)))))
  (jn (eC) v14)
noncomputable def PL(p0:AF)(v12:(List Int)):Option (List Int):=
 gd (v12.length+[(↑p0.A7.length:Int)].length<=lim) (
 gd ((v12++[(↑p0.A7.length:Int)]).length+p0.A7.length<=lim) (
 AT (T1 p0) big ((v12++[(↑p0.A7.length:Int)]++p0.A7,0))))
noncomputable def T0(p0:AF)(L8:((List Int)×Int)->Option (List Int))(x_:((List Int)×Int)):Option (List Int):=
 match x_ with
 |(v9,v10)=>br (decide (v10<(↑p0.AR.length:Int)))
  (bd (at? p0.AR v10) fun x11=>
  gd (List.length v9+[x11.AM.Co].length<=lim) (
  L8 ((v9++[x11.AM.Co],w64 (v10+1)))))
  (jn (PL p0) v9)
noncomputable def PJ(p0:AF)(v7:(List Int)):Option (List Int):=
 AT (T0 p0) big (v7,0)
noncomputable def Tz(p0:AF)(L3:((List Int)×Int)->Option (List Int))(x_:((List Int)×Int)):Option (List Int):=
 match x_ with
 |(v4,v5)=>br (decide (v5<(↑p0.AE.length:Int)))
  (bd (at? p0.AE v5) fun x6=>
  gd (List.length v4+[x6.Id,x6.A4,w64 (x6.CB+1),x6.As,x6.CX,x6.Since,x6.Ah,x6.State,x6.BW,x6.CA].length<=lim) (
  L3 ((v4++[x6.Id,x6.A4,w64 (x6.CB+1),x6.As,x6.CX,x6.Since,x6.Ah,x6.State,x6.BW,x6.CA],w64 (v5+1)))))
  (jn (PJ p0) v4)
noncomputable def NG(p0:AF):Option (List Int):=
 bd (Tj p0) fun x1=>
 br (!x1)
  (some [])
  (bd (X3 p0.AS) fun x2=>
  gd ([(↑(List.length x2):Int)].length+List.length x2<=lim) (
  gd (([(↑(List.length x2):Int)]++x2).length+[p0.Now,p0.Ah,(↑p0.AE.length:Int)].length<=lim) (
  AT (Tz p0) big (([(↑(List.length x2):Int)]++x2++[p0.Now,p0.Ah,(↑p0.AE.length:Int)],0)))))
noncomputable def G8:GF:=z7.gf rfl rfl (fun a=>NG a.1) (fun a=>by kernel_rfl)
noncomputable def z8:YF:=⟨[],[.v (.st 1)],[],.ret [(.st 1)],[.cell 2 (some 9)],
 sq [qu 1 0,.alloc 2 B2,.Av [(.cell 2 0,.i)]] [1,2] (sr [wn 3 [wh (.AW · 0 .i []),wo 0 1,wL,wh (.app · .i true (.tmp 3) (.tmp 5)),wo 0 1],
 qn [qw 1 7 6]] [1,2] (sq [qL 8 9 1,qw 9 2 8] [2] .ret))⟩
noncomputable def mP(p0:AO):Option AO:=
 gd (0+p0.AM.length<=lim) (
 some (AO.mk ([]++p0.AM) p0.BG p0.Room p0.As p0.A2 p0.Ax p0.Rest p0.BA p0.Bd))
noncomputable def N4:GF:=z8.gf rfl rfl (fun a=>mP a.1) (fun a=>by kernel_rfl)
noncomputable def AAA:YF:=⟨[],[.v .i],[],.ret [(.st 3),.b],[.cell 2 (some 5),.tmp 3],
 sq [.alloc 2 Bf,qB 3 false] [0,2] (sr [wn 5 [wm 0,wm 0,wh (.build · Bf [(0,1,(.tmp 5)),(3,1,(.tmp 6))])],
 qn [.alloc 4 Bf,qw 5 4 7]] [2,4] (.seq (sw 8 [wk 5 4,wY LP rfl,wX] (Kp 1044) (.cond 10 [2] [2,4] (sq [.build 11 Bf [],qw 5 2 11,qB 3 false] [2,3] .ret) .skip)) (sq [qL 12 5 4,qw 5 2 12,qB 3 true] [2,3] .ret)))⟩
noncomputable def mQ(p0:Int):Option (BH×Bool):=
 bd (rI (BH.mk p0 0 0 p0 0)) fun x1=>
 br (!x1)
  (some (BH.mk 0 0 0 0 0,false))
  (some (BH.mk p0 0 0 p0 0,true))
noncomputable def N5:GF:=AAA.gf rfl rfl (fun a=>mQ a.1) (fun a=>by kernel_rfl)
noncomputable def AAB:YF:=⟨[],[],[],.ret [(.st 6)],[.cell 0 (some 1)],
 sq [.alloc 0 [.nil],.Av [(.cell 0 0,(.l (.st 5)))]] [0] (sq [.build 3 [.nil] [],.Av [(.tmp 3 0,(.l (.st 5)))],.alloc 1 [.nil],.Av [(.cell 1 0,(.l (.st 5)))],qw 1 1 3] [0,1] (.join [cx 1 (.st 6)] (sq [qK 2 0] (Kp 7) (bl 0 [cv 2 .i,cx 1 (.st 6)] (.seq (sw 4 [wm 2,wI .lss 9] (Kp 39) (ce 5 (Kp 7) [0,1] 0)) (.seq (.block 1 (qr [wn 8 [wo 0 1,wL,wh (.AW · 0 (.st 5) []),wh (.AW · 1 (.l (.st 5)) [(0,(.tmp 10))]),wh (.app · (.l (.st 5)) false (.tmp 9) (.tmp 11)),wo 0 1],
 qn [qw 1 13 12]] (Kp 7))) (qr [wn 6 [wm 2,wI .add 1],
 qn [qa 2 7]] (Kp 7)))))) (sq [qL 14 1 1,qw 1 0 14] [0] .ret)))⟩
noncomputable def eD(v4:AK):Option AK:=
 some v4
noncomputable def eE(L1:(Int×AK)->Option AK)(x_:(Int×AK)):Option AK:=
 match x_ with
 |(v2,v3)=>br (decide (v2<9))
  (gd (v3.AJ.length+1<=lim) (
  L1 ((w64 (v2+1),AK.mk (v3.AJ++[[]])))))
  (jn (eD) v3)
noncomputable def T2:Option AK:=
 AT (eE) big (0,AK.mk [])
noncomputable def Dx:GF:=AAB.gf rfl rfl (fun a=>T2) (fun a=>by kernel_rfl)
noncomputable def AAC:YF:=⟨[],[.v .i],[],.ret [(.st 7),.b],[.cell 2 (some 7),.tmp 3],
 sq [.alloc 2 Cn,.Av [(.cell 2 5,(.st 4)),(.cell 2 6,(.l (.st 5)))],qB 3 false] [0,2] (sr [wn 7 [wm 0,wY N5 rfl],
 qn [qm 6 8],
 wn 9 [wh (.ext · (.tmp 6) 0),wh (.ext · (.tmp 6) 1)],
 qn [.alloc 4 Bf,qw 5 4 9,qa 5 10]] (Kp 52) (.seq (sw 11 [wm 5,wX] (Kp 4116) (.cond 12 [2] [2,4] (sq [.build 13 Cn [],.Av [(.tmp 13 5,(.st 4)),(.tmp 13 6,(.l (.st 5)))],qw 7 2 13,qB 3 false] [2,3] .ret) .skip)) (.seq (.A8 (.op 0 none [] (.ld 14 (some 5) (.tmp 4))
 (.op 1 none [4] (.call 15 Dx [] rfl [])
 (.op 2 none [] (.build 16 Cn [(0,5,(.tmp 14)),(6,1,(.tmp 15))])
 (.nl [(.tmp 16 5,(.st 4))] (qd 3 [qn [qw 7 2 16,qB 3 true]] .nil))))) [2,3]) .ret)))⟩
noncomputable def mR(p0:Int):Option (Am×Bool):=
 bd (mQ p0) fun x1=>
 br (!x1.snd)
  (some ((Am.mk (BH.mk 0 0 0 0 0) [] (AK.mk []),false)))
  (bd (T2) fun x2=>
  some (Am.mk x1.fst [] x2,true))
noncomputable def N6:GF:=AAC.gf rfl rfl (fun a=>mR a.1) (fun a=>by kernel_rfl)
noncomputable def AAD:YF:=⟨[],[.v (.st 1)],[],.ret [(.st 8),.b],[.cell 2 (some 15),.tmp 3],
 sq [qu 1 0,.alloc 2 A9,.Av [(.cell 2 0,.i),(.cell 2 11,(.st 2)),(.cell 2 12,(.st 7)),(.cell 2 13,.i),(.cell 2 14,.i)],qB 3 false] [1,2] (.seq (sw 9 [wk 9 1,wY Dv rfl,wX] (Kp 2054) (.cond 11 [2] [1,2] (sq [.build 12 A9 [],.Av [(.tmp 12 0,.i),(.tmp 12 11,(.st 2)),(.tmp 12 12,(.st 7)),(.tmp 12 13,.i),(.tmp 12 14,.i)],qw 15 2 12,qB 3 false] [2,3] .ret) .skip)) (sr [wn 13 [wk 9 1,wY N4 rfl,wh (.build · A9 [(0,9,(.tmp 14)),(10,1,(.k (.int .i64 1)))])],
 qn [.Av [(.tmp 15 11,(.st 2)),(.tmp 15 12,(.st 7)),(.tmp 15 13,.i),(.tmp 15 14,.i)],.alloc 4 A9,.Av [(.cell 4 0,.i),(.cell 4 11,(.st 2)),(.cell 4 12,(.st 7)),(.cell 4 13,.i),(.cell 4 14,.i)],qw 15 4 15]] (Kp 22) (.join [cx 4 (.st 8)] (sq [qK 5 0] (Kp 54) (bl 0 [cv 5 .i,cx 4 (.st 8)] (.seq (sw 16 [wm 5,wo 0 1,wL,wZ,wB .lss 16] (Kp 1048630) (ce 20 [1,2,4,5] (Kp 22) 0)) (.seq (.block 1 (sr [wn 24 [wo 0 1,wL,wm 5,wE .i 25,wL,wY N6 rfl],
 qn [qm 23 29],
 wn 30 [wh (.ext · (.tmp 23) 0),wh (.ext · (.tmp 23) 1)],
 qn [.alloc 6 Cn,.Av [(.cell 6 5,(.st 4)),(.cell 6 6,(.l (.st 5)))],qw 7 6 30,qa 7 31]] (Kp 118) (qr [wn 32 [wo 12 4,wL,wk 7 6,wh (.AW · 1 (.st 7) [(0,(.tmp 34))]),wh (.app · (.st 7) false (.tmp 33) (.tmp 35)),wo 12 4],
 qn [qw 1 37 36]] (Kp 54)))) (qr [wn 21 [wm 5,wI .add 1],
 qn [qa 5 22]] (Kp 54)))))) (.join [cx 4 (.st 8)] (sq [qK 8 0] (Kp 278) (bl 2 [cv 8 .i,cx 4 (.st 8)] (.seq (sw 38 [wm 8,wo 8 1,wL,wB .lss 38] [1,2,4,8,41] (ce 41 (Kp 278) [2,4] 2)) (.seq (.block 3 (qr [wn 44 [wo 14 4,wL,wh (.AW · 1 .i [(0,(.k (.int .i64 (-1))))]),wh (.app · .i true (.tmp 45) (.tmp 46)),wo 14 4],
 qn [qw 1 48 47]] (Kp 278))) (qr [wn 42 [wm 8,wI .add 1],
 qn [qa 8 43]] (Kp 278)))))) (sq [qL 49 15 4,qw 15 2 49,qB 3 true] [2,3] .ret)))))⟩
noncomputable def eH(v12:AF):Option (AF×Bool):=
 some (v12,true)
noncomputable def eK(p0:AO)(L9:(Int×AF)->Option (AF×Bool))(x_:(Int×AF)):Option (AF×Bool):=
 match x_ with
 |(v10,v11)=>br (decide (v10<p0.Bd))
  (gd (v11.BC.length+[-1].length<=lim) (
  L9 ((w64 (v10+1),AF.mk v11.AS v11.Now v11.Ah v11.AE v11.AR v11.A7 (v11.BC++[-1])))))
  (jn (eH) v11)
noncomputable def eG(p0:AO)(v8:AF):Option (AF×Bool):=
 AT (eK p0) big (0,v8)
noncomputable def eJ(p0:AO)(L3:(Int×AF)->Option (AF×Bool))(x_:(Int×AF)):Option (AF×Bool):=
 match x_ with
 |(v4,v5)=>br (decide (v4<(↑p0.AM.length:Int)))
  (bd (at? p0.AM v4) fun x6=>
  bd (mR x6) fun x7=>
  gd (v5.AR.length+[x7.fst].length<=lim) (
  L3 ((w64 (v4+1),AF.mk v5.AS v5.Now v5.Ah v5.AE (v5.AR++[x7.fst]) v5.A7 v5.BC))))
  (jn (eG p0) v5)
noncomputable def eF(p0:AO):Option (AF×Bool):=
 bd (ZO p0) fun x1=>
 br (!x1)
  (some ((AF.mk (AO.mk [] 0 0 0 0 0 0 0 0) 0 0 [] [] [] [],false)))
  (bd (mP p0) fun x2=>
  AT (eJ p0) big (0,AF.mk x2 0 1 [] [] [] []))
noncomputable def N7:GF:=AAD.gf rfl rfl (fun a=>eF a.1) (fun a=>by kernel_rfl)
noncomputable def AAE:YF:=⟨[],[.v (.l .i)],[],.ret [(.l .i)],[.tmp 2],
 sq [.as 2 (.k .nil),.Av [(.tmp 2 0,.i)]] [0] (sr [wn 3 [wm 0,wh (.app · .i true (.k .nil) (.tmp 3))],
 qn [qa 2 4]] [2] .ret)⟩
noncomputable def T3(p0:(List Int)):Option (List Int):=
 gd (0+p0.length<=lim) (
 some p0)
noncomputable def EO:GF:=AAE.gf rfl rfl (fun a=>T3 a.1) (fun a=>by kernel_rfl)
noncomputable def AAF:YF:=⟨[],[],[],.ret [(.st 6)],[.cell 0 (some 1)],
 sq [.alloc 0 [.nil],.Av [(.cell 0 0,(.l (.st 5)))]] [0] (sr [wn 1 [wh (.Lh · (.l (.st 5)) (.k (.int .i64 9))),wh (.build · [.nil] [(0,1,(.tmp 1))])],
 qn [qw 1 0 2]] [0] .ret)⟩
noncomputable def rD:Option AK:=
 some (AK.mk (List.replicate (Int.toNat 9) []))
noncomputable def N8:GF:=AAF.gf rfl rfl (fun a=>rD) (fun a=>by kernel_rfl)
end Lv
set_option maxRecDepth 100000
namespace Lv
open Go (IntKind BinOp UnOp)
open Y (YF qn qf qt qr q1 qd qm qa qo ql qL qb qi qx qp qq qc qz qe qk qK qB qw qu qj Kp wn wf wt w1 sw sq sr wm wM wo wO wl wL wk wK wz wZ wx wX wb wB wi wI wr wR wq wQ we wE wc wY wj wh cv ca cx cn ce bl)
noncomputable def zY:YF:=⟨[],[.v (.st 6)],[],.ret [(.st 6)],[.cell 2 (some 1)],
 sq [qu 1 0,.alloc 2 [.nil],.Av [(.cell 2 0,(.l (.st 5)))]] [1,2] (sq [.build 5 [.nil] [],.Av [(.tmp 5 0,(.l (.st 5)))],.alloc 3 [.nil],.Av [(.cell 3 0,(.l (.st 5)))],qw 1 3 5] (Kp 14) (.join [cx 3 (.st 6)] (sq [qK 4 0] (Kp 30) (bl 0 [cv 4 .i,cx 3 (.st 6)] (.seq (sw 6 [wm 4,wo 0 1,wL,wZ,wB .lss 6] (Kp 1054) (ce 10 (Kp 30) [2,3] 0)) (.seq (.block 1 (.A8 (qd 0 [wn 13 [wo 0 3,wL]] (qd 3 [wn 16 [wo 0 1,wL,wm 4,wE (.l (.st 5)) 17,wL]] (.op 2 none [13,16,19] (.AW 15 0 (.st 5) [])
 (.op 8 none [13] (.app 21 (.st 5) true (.tmp 15) (.tmp 20))
 (.op 9 none [13] (.AW 22 1 (.l (.st 5)) [(0,(.tmp 21))])
 (qd 10 [wn 23 [wh (.app · (.l (.st 5)) false (.tmp 14) (.tmp 22)),wo 0 3],
 qn [qw 1 24 23]] .nil)))))) [1,2,3,4])) (qr [wn 11 [wm 4,wI .add 1],
 qn [qa 4 12]] (Kp 30)))))) (sq [qL 25 1 3,qw 1 2 25] [2] .ret)))⟩
noncomputable def dW(v5:AK):Option AK:=
 some v5
noncomputable def TV(p0:AK)(L1:(Int×AK)->Option AK)(x_:(Int×AK)):Option AK:=
 match x_ with
 |(v2,v3)=>br (decide (v2<(↑p0.AJ.length:Int)))
  (bd (at? p0.AJ v2) fun x4=>
  gd (0+List.length x4<=lim) (
  gd (v3.AJ.length+[[]++x4].length<=lim) (
  L1 ((w64 (v2+1),AK.mk (v3.AJ++[[]++x4]))))))
  (jn (dW) v3)
noncomputable def dV(p0:AK):Option AK:=
 AT (TV p0) big (0,AK.mk [])
noncomputable def G5:GF:=zY.gf rfl rfl (fun a=>dV a.1) (fun a=>by kernel_rfl)
noncomputable def zZ:YF:=⟨[],[.v (.st 6)],[],.ret [(.st 6)],[.cell 2 (some 1)],
 sq [qu 1 0,.alloc 2 [.nil],.Av [(.cell 2 0,(.l (.st 5)))]] [1,2] (sq [.alloc 3 [.nil],.Av [(.cell 3 0,(.l (.st 5)))]] (Kp 14) (.join [cx 3 (.st 6)] (sw 6 [wo 0 1,wL,wZ,wj 0] (Kp 908) (bl 0 [cv 9 .i,cx 3 (.st 6)] (sq [qb 10 .lss 9 8] (Kp 1932) (.seq (ce 10 (Kp 908) [2,3] 0) (.seq (.block 1 (sr [wn 11 [we (.l (.st 5)) 7 9,wL],
 qn [qa 5 12]] (Kp 940) (.A8 (qd 0 [wn 13 [wo 0 3,wL,wm 5]] (.op 3 none [13] (.app 16 (.st 5) true (.k .nil) (.tmp 15))
 (.op 4 none [13] (.AW 17 1 (.l (.st 5)) [(0,(.tmp 16))])
 (qd 5 [wn 18 [wh (.app · (.l (.st 5)) false (.tmp 14) (.tmp 17)),wo 0 3],
 qn [qw 1 19 18]] .nil)))) [2,3,7,8,9]))) (q1 [qi 20 .add 9 1,qm 9 20] (Kp 908))))))) (sq [qL 21 1 3,qw 1 2 21] [2] .ret)))⟩
noncomputable def dY(v5:AK):Option AK:=
 some v5
noncomputable def TW(p0:AK)(L1:(Int×AK)->Option AK)(x_:(Int×AK)):Option AK:=
 match x_ with
 |(v2,v3)=>br (decide (v2<(↑p0.AJ.length:Int)))
  (bd (at? p0.AJ v2) fun x4=>
  gd (0+List.length x4<=lim) (
  gd (v3.AJ.length+[x4].length<=lim) (
  L1 ((w64 (v2+1),AK.mk (v3.AJ++[x4]))))))
  (jn (dY) v3)
noncomputable def dX(p0:AK):Option AK:=
 AT (TW p0) big (0,AK.mk [])
noncomputable def G6:GF:=zZ.gf rfl rfl (fun a=>dX a.1) (fun a=>by kernel_rfl)
end Lv
