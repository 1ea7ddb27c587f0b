/- Functions of the program as typed texts and as plain functions. -/
import Derived.Test.YtpbbmlmilagnkaaGreatKA
noncomputable section
set_option linter.unusedVariables false
set_option linter.unusedSimpArgs false
set_option linter.unusedSectionVars false
set_option maxRecDepth 100000
namespace Lv
open Go (IntKind BinOp UnOp)
open Y (YF qn qf qt qr q1 qd qm qa qo ql qL qb qi qx qp qq qc qz qe qk qK qB qw qu qj Kp wn wf wt w1 sw sq sr wm wM wo wO wl wL wk wK wz wZ wx wX wb wB wi wI wr wR wq wQ we wE wc wY wj wh cv ca cx cn ce bl)
def aO(p0:AW):AA (List Int):=bd (Tj p0) fun x1=>br (!x1) (some []) (gd ([p0.CJ,p0.Room,p0.BW,p0.Bn,p0.Bi,p0.Rest,p0.CI,p0.Ch].length+p0.Ae.length<=lim) (some ([p0.CJ,p0.Room,p0.BW,p0.Bn,p0.Bi,p0.Rest,p0.CI,p0.Ch]++p0.Ae)))
def Xm:GF:=gZ Pf Nt CE 0x47dd04e21c7d628526b711fae14ba87029880d460d98429a817d5bb1c0a432c528d3e33453831a4c0cdfb9b [PW] (BY aO)
def AMt:YF:=⟨[],[.v (.st 8)],[],.ret [(.l .i)],[.tmp 2],sq [qu 1 0,.as 2 (.k .nil)] [1] (.seq (sw 11 [wk 15 1,wY PZ rfl,wX] [1,13] (cn 13 [1] (sq [.as 2 (.k .nil)] [2] .ret))) (sr [wn 14 [wo 0 1,wK 9,wY Xm rfl],qn [qa 3 16]] [1,3] (sr [wn 17 [wm 3,wZ,wh (.Bp · 1 .i [(0,(.tmp 18))]),wm 3,wh (.app · .i true (.tmp 19) (.tmp 20))],qn [qa 4 21]] [1,4] (sr [wn 22 [wm 4,wo 9 1,wL,wo 10 1,wL,wo 11 1,wL,wZ,wh (.Bp · 3 .i [(0,(.tmp 24)),(1,(.tmp 26)),(2,(.tmp 29))]),wh (.app · .i true (.tmp 22) (.tmp 30))],qn [qa 4 31]] [1,4] (.join [cv 4 (.l .i)] (sw 32 [wo 11 1,wL,wZ,wj 0] (Kp 60129542162) (bl 0 [cv 4 (.l .i),cv 35 .i] (sq [qb 36 .lss 35 34] (Kp 128849018898) (.seq (ce 36 (Kp 60129542162) [1,4] 0) (.seq (.block 1 (sr [wn 37 [we (.st 2) 33 35,wK 10],qn [.alloc 6 AMs,qw 10 6 38]] (Kp 60129542226) (qr [wn 39 [wm 4,wo 0 6,wL,wo 1 6,wL,wo 2 6,wL,wI .add 1,wo 3 6,wL,wo 4 6,wL,wo 5 6,wL,wo 6 6,wL,wo 7 6,wL,wo 8 6,wL,wo 9 6,wL,wh (.Bp · 10 .i [(0,(.tmp 41)),(1,(.tmp 43)),(2,(.tmp 46)),(3,(.tmp 48)),(4,(.tmp 50)),(5,(.tmp 52)),(6,(.tmp 54)),(7,(.tmp 56)),(8,(.tmp 58)),(9,(.tmp 60))]),wh (.app · .i true (.tmp 39) (.tmp 61))],qn [qa 4 62]] (Kp 60129542162)))) (q1 [qi 63 .add 35 1,qm 35 63] (Kp 60129542162))))))) (.join [cv 4 (.l .i)] (sw 64 [wo 12 1,wL,wZ,wj 0] [1,4,65,66,67] (bl 2 [cv 4 (.l .i),cv 67 .i] (sq [qb 68 .lss 67 66] [1,4,65,66,67,68] (.seq (ce 68 [1,4,65,66,67] [1,4] 2) (.seq (.block 3 (sr [wn 69 [we (.st 7) 65 67,wK 7],qn [.alloc 8 AMr,.RT [(.cell 8 5,(.st 4)),(.cell 8 6,(.l (.st 5)))],qw 7 8 70]] [1,4,8,65,66,67] (qr [wn 71 [wm 4,wo 0 8,wO 1,wL,wh (.Bp · 1 .i [(0,(.tmp 74))]),wh (.app · .i true (.tmp 71) (.tmp 75))],qn [qa 4 76]] [1,4,65,66,67]))) (q1 [qi 77 .add 67 1,qm 67 77] [1,4,65,66,67])))))) (sr [wn 78 [wm 4,wo 13 1,wL,wZ,wh (.Bp · 1 .i [(0,(.tmp 81))]),wh (.app · .i true (.tmp 78) (.tmp 82))],qn [qa 4 83]] [1,4] (sr [wn 84 [wm 4,wo 13 1,wL,wh (.app · .i true (.tmp 84) (.tmp 86))],qn [qa 4 87]] [1,4] (.join [cv 4 (.l .i)] (sw 88 [wo 14 1,wL,wZ,wj 0] [4,89,90,91] (bl 4 [cv 4 (.l .i),cv 91 .i] (sq [qb 92 .lss 91 90] [4,89,90,91,92] (.seq (ce 92 [4,89,90,91] [4] 4) (.seq (.block 5 (sr [wn 93 [we .i 89 91,wL],qn [qa 10 94]] [4,10,89,90,91] (qr [wn 95 [wm 4,wm 10,wI .add 1,wh (.Bp · 1 .i [(0,(.tmp 97))]),wh (.app · .i true (.tmp 95) (.tmp 98))],qn [qa 4 99]] [4,89,90,91]))) (q1 [qi 100 .add 91 1,qm 91 100] [4,89,90,91])))))) (sq [qm 101 4,qa 2 101] [2] .ret))))))))))⟩
def lR(v17:List Int):AA (List Int):=some v17
def WO(p0:AH)(L13:((List Int)×Int)->AA (List Int))(x_:((List Int)×Int)):AA (List Int):=match x_ with |(v14,v15)=>br (decide (v15<(↑p0.BP.length:Int))) (bd (at? p0.BP v15) fun x16=>gd (List.length v14+[w64 (x16+1)].length<=lim) (L13 ((v14++[w64 (x16+1)],w64 (v15+1))))) (jn lR v14)
def Qk(p0:AH)(v12:List Int):AA (List Int):=gd (v12.length+[(↑p0.BO.length:Int)].length<=lim) (gd ((v12++[(↑p0.BO.length:Int)]).length+p0.BO.length<=lim) (Aw (WO p0) big ((v12++[(↑p0.BO.length:Int)]++p0.BO,0))))
def WN(p0:AH)(L8:((List Int)×Int)->AA (List Int))(x_:((List Int)×Int)):AA (List Int):=match x_ with |(v9,v10)=>br (decide (v10<(↑p0.Ap.length:Int))) (bd (at? p0.Ap v10) fun x11=>gd (List.length v9+[x11.Ae.EV].length<=lim) (L8 ((v9++[x11.Ae.EV],w64 (v10+1))))) (jn (Qk p0) v9)
def Qj(p0:AH)(v7:List Int):AA (List Int):=Aw (WN p0) big (v7,0)
def WM(p0:AH)(L3:((List Int)×Int)->AA (List Int))(x_:((List Int)×Int)):AA (List Int):=match x_ with |(v4,v5)=>br (decide (v5<(↑p0.AK.length:Int))) (bd (at? p0.AK v5) fun x6=>gd (List.length v4+[x6.Id,x6.Bf,w64 (x6.Ci+1),x6.BW,x6.DG,x6.Since,x6.A4,x6.State,x6.C4,x6.EP].length<=lim) (L3 ((v4++[x6.Id,x6.Bf,w64 (x6.Ci+1),x6.BW,x6.DG,x6.Since,x6.A4,x6.State,x6.C4,x6.EP],w64 (v5+1))))) (jn (Qj p0) v4)
def lQ(p0:AH):AA (List Int):=bd (Tm p0) fun x1=>br (!x1) (none) (bd (aO p0.AR) fun x2=>gd ([(↑(List.length x2):Int)].length+List.length x2<=lim) (gd (([(↑(List.length x2):Int)]++x2).length+[p0.Now,p0.A4,(↑p0.AK.length:Int)].length<=lim) (Aw (WM p0) big (([(↑(List.length x2):Int)]++x2++[p0.Now,p0.A4,(↑p0.AK.length:Int)],0)))))
def sa:GF:=AMt.GD (BY lQ)
def lS(x_:(Int×(List UInt8))):AA (List UInt8):=match x_ with |(v5,v6)=>gd (v6.length+[toB v5].length<=lim) (some (v6++[toB v5]))
def lT(L2:(Int×(List UInt8))->AA (List UInt8))(x_:(Int×(List UInt8))):AA (List UInt8):=match x_ with |(v3,v4)=>br (decide (v3>=128)) (gd (v4.length+[toB (w64 (Int.tmod v3 128+128))].length<=lim) (L2 ((w64 (Int.tdiv v3 128),v4++[toB (w64 (Int.tmod v3 128+128))])))) (jn lS (v3,v4))
def Ql(p0:Int):AA (List UInt8):=bd (Cy p0 0 2147483647) fun x1=>br (!x1) (some []) (Aw (lT) big (p0,[]))
def Pc:GF:=gZ Sn (.ret [(.l .u)]) CE 0x1310ec7c041aeea3cc718686e1eac20111ab6cd5de1ab4258aaaab22372e6750add99d81c87e570fe5e759002b24808f9d0b759f1adf71f45f146 [FD] (BY Ql)
def lU(v6:List UInt8):AA (List UInt8):=some v6
def WQ(p0:List Int)(L1:((List UInt8)×Int)->AA (List UInt8))(x_:((List UInt8)×Int)):AA (List UInt8):=match x_ with |(v2,v3)=>br (decide (v3<(↑p0.length:Int))) (bd (at? p0 v3) fun x4=>bd (Ql x4) fun x5=>gd (List.length v2+List.length x5<=lim) (L1 ((v2++x5,w64 (v3+1))))) (jn lU v2)
def yV(p0:List Int):AA (List UInt8):=Aw (WQ p0) big ([],0)
def eK:GF:=gZ Pe Nu CE 0x5e8f0310f39136fa1f78e39bc2fea120fab7f0759424fcb05499a4d70759422212e2bfa81d5cc603bf60b7cc0d711d2a00863 [Pc] (BY yV)
def WR(L5:(Int×Int)->AA Int)(v7:Int)(v8:Int):AA Int:=L5 ((v8,w64 (v7+1)))
def lW(L1:(Int×Int)->AA Int)(v3:Int)(v9:Int):AA Int:=L1 ((v9,w64 (v3+1)))
def WT(L1:(Int×Int)->AA Int)(v3:Int)(L5:(Int×Int)->AA Int)(x_:(Int×Int)):AA Int:=match x_ with |(v6,v7)=>br (decide (v7<8)) (br (AJw v6 1==1) (jn (WR L5 v7) (UJ (DK v6 1) 3988292384)) (jn (WR L5 v7) (DK v6 1))) (jn (lW L1 v3) v6)
def lY(v10:Int):AA Int:=some (UJ v10 4294967295)
def WS(p0:List UInt8)(L1:(Int×Int)->AA Int)(x_:(Int×Int)):AA Int:=match x_ with |(v2,v3)=>br (decide (v3<(↑p0.length:Int))) (bd (at? p0 v3) fun x4=>Aw (WT L1 v3) big ((UJ v2 (w64 (↑(UInt8.toNat x4):Int)),0))) (jn lY v2)
def lV(p0:List UInt8):AA Int:=Aw (WS p0) big (4294967295,0)
def Xn:GF:=gZ [.v (.l .u)] Ca CE 0x45b583f919de0cbfcc53f79d256880c071cbd1a606962620bbb3bf1ef879ec58daafe47e4da1729af0336c28de3e6a64269f789c838a104c006943d54c725a26cc7b5d112a6765b85b7ddf860e1a73de298685ea3e550c6a56bcc1734902f3557 [] (BY lV)
def AMu:YF:=⟨[],[.v (.st 8),.v .i],[],.ret [.s],[.tmp 4],sq [qu 2 0,.as 4 (.k (.str []))] [1,2] (sr [wn 8 [wk 15 2,wY sa rfl],qn [qa 5 9]] [1,5] (.seq (sr [wn 10 [wm 5,wh (.bin · .sl .eql (.tmp 10) (.k .nil)),wM],wf 12 13 [wm 1,wc FD rfl [13,qj 0,qj 1000000],wX],qn [qp 16 12 15]] [1,5,16] (cn 16 [1,5] (sq [.as 4 (.k (.str []))] [4] .ret))) (.seq (.SZ (.op 0 none [] (.mv 17 (.tmp 1)) (.op 3 none [] (.mv 20 (.tmp 5)) (qd 1 [wn 18 [wY Pc rfl,wh (.NO · (.tmp 18))]] (.op 4 none [18] (.call 21 eK [] rfl [(.tmp 20)]) (qd 5 [qn [qb 22 .add 19 21,qa 6 22]] .nil))))) [6]) (sr [wn 23 [wm 6,wh (.Je · (.tmp 23)),wY Xn rfl],qn [qa 7 25]] [6,7] (sr [wn 26 [wm 7,wh (.bin · .num .shr (.tmp 26) (.k (.int .u64 24))),wh (.cvI · .u8 (.tmp 27)),wm 7,wh (.bin · .num .shr (.tmp 29) (.k (.int .u64 16))),wh (.cvI · .u8 (.tmp 30)),wm 7,wh (.bin · .num .shr (.tmp 32) (.k (.int .u64 8))),wh (.cvI · .u8 (.tmp 33)),wm 7,wh (.cvI · .u8 (.tmp 35)),wh (.Bp · 4 .u [(0,(.tmp 28)),(1,(.tmp 31)),(2,(.tmp 34)),(3,(.tmp 36))]),wh (.NO · (.tmp 37)),wm 6,wB .add 38],qn [qa 4 40]] [4] .ret)))))⟩
def aP(p0:AH)(p1:Int):AA (List UInt8):=bd (lQ p0) fun x1=>gd (List.isEmpty x1=false) (bd (Cy p1 0 1000000) fun x2=>br (!x2) (some []) (bd (Ql p1) fun x3=>bd (yV x1) fun x4=>gd (List.length x3+List.length x4<=LA) (bd (lV (x3++x4)) fun x5=>gd ([toB (DK x5 24),toB (DK x5 16),toB (DK x5 8),toB x5].length+(x3++x4).length<=LA) (some ([toB (DK x5 24),toB (DK x5 16),toB (DK x5 8),toB x5]++(x3++x4))))))
def sb:GF:=AMu.GD (BF aP)
def AMv:YF:=⟨[],[.v (.st 8)],[],.ret [.z],[.tmp 2],sq [qu 1 0,.as 2 (.k .nil)] [1] (.seq (sw 11 [wk 15 1,wY PZ rfl,wX] [1,13] (cn 13 [1] (sq [.as 2 (.k .nil)] [2] .ret))) (sr [wn 14 [wo 0 1,wK 9,wY Xm rfl],qn [qa 3 16]] [1,3] (sr [wn 17 [wm 3,wZ,wh (.Bp · 1 .i [(0,(.tmp 18))]),wm 3,wh (.app · .i true (.tmp 19) (.tmp 20))],qn [qa 4 21]] [1,4] (sr [wn 22 [wm 4,wo 9 1,wL,wo 10 1,wL,wo 11 1,wL,wZ,wh (.Bp · 3 .i [(0,(.tmp 24)),(1,(.tmp 26)),(2,(.tmp 29))]),wh (.app · .i true (.tmp 22) (.tmp 30))],qn [qa 4 31]] [1,4] (.join [cv 4 (.l .i)] (sw 32 [wo 11 1,wL,wZ,wj 0] (Kp 60129542162) (bl 0 [cv 4 (.l .i),cv 35 .i] (sq [qb 36 .lss 35 34] (Kp 128849018898) (.seq (ce 36 (Kp 60129542162) [1,4] 0) (.seq (.block 1 (sr [wn 37 [we (.st 2) 33 35,wK 10],qn [.alloc 6 AMs,qw 10 6 38]] (Kp 60129542226) (qr [wn 39 [wm 4,wo 0 6,wL,wo 1 6,wL,wo 2 6,wL,wI .add 1,wo 3 6,wL,wo 4 6,wL,wo 5 6,wL,wo 6 6,wL,wo 7 6,wL,wo 8 6,wL,wo 9 6,wL,wh (.Bp · 10 .i [(0,(.tmp 41)),(1,(.tmp 43)),(2,(.tmp 46)),(3,(.tmp 48)),(4,(.tmp 50)),(5,(.tmp 52)),(6,(.tmp 54)),(7,(.tmp 56)),(8,(.tmp 58)),(9,(.tmp 60))]),wh (.app · .i true (.tmp 39) (.tmp 61))],qn [qa 4 62]] (Kp 60129542162)))) (q1 [qi 63 .add 35 1,qm 35 63] (Kp 60129542162))))))) (.join [cv 4 (.l .i)] (sw 64 [wo 12 1,wL,wZ,wj 0] [1,4,65,66,67] (bl 2 [cv 4 (.l .i),cv 67 .i] (sq [qb 68 .lss 67 66] [1,4,65,66,67,68] (.seq (ce 68 [1,4,65,66,67] [1,4] 2) (.seq (.block 3 (sr [wn 69 [we (.st 7) 65 67,wK 7],qn [.alloc 8 AMr,.RT [(.cell 8 5,(.st 4)),(.cell 8 6,(.l (.st 5)))],qw 7 8 70]] [1,4,8,65,66,67] (qr [wn 71 [wm 4,wo 0 8,wO 1,wL,wh (.Bp · 1 .i [(0,(.tmp 74))]),wh (.app · .i true (.tmp 71) (.tmp 75))],qn [qa 4 76]] [1,4,65,66,67]))) (q1 [qi 77 .add 67 1,qm 67 77] [1,4,65,66,67])))))) (sr [wn 78 [wm 4,wo 13 1,wL,wZ,wh (.Bp · 1 .i [(0,(.tmp 81))]),wh (.app · .i true (.tmp 78) (.tmp 82))],qn [qa 4 83]] [1,4] (sr [wn 84 [wm 4,wo 13 1,wL,wh (.app · .i true (.tmp 84) (.tmp 86))],qn [qa 4 87]] [1,4] (.join [cv 4 (.l .i)] (sw 88 [wo 14 1,wL,wZ,wj 0] [4,89,90,91] (bl 4 [cv 4 (.l .i),cv 91 .i] (sq [qb 92 .lss 91 90] [4,89,90,91,92] (.seq (ce 92 [4,89,90,91] [4] 4) (.seq (.block 5 (sr [wn 93 [we .i 89 91,wL],qn [qa 10 94]] [4,10,89,90,91] (qr [wn 95 [wm 4,wm 10,wI .add 1,wh (.Bp · 1 .i [(0,(.tmp 97))]),wh (.app · .i true (.tmp 95) (.tmp 98))],qn [qa 4 99]] [4,89,90,91]))) (q1 [qi 100 .add 91 1,qm 91 100] [4,89,90,91])))))) (sq [qm 101 4,qa 2 101] [2] .ret))))))))))⟩
def ADt(v17:List Int):AA PUnit:=none
def ADw(p0:AH)(L13:((List Int)×Int)->AA PUnit)(x_:((List Int)×Int)):AA PUnit:=match x_ with |(v14,v15)=>br (decide (v15<(↑p0.BP.length:Int))) (bd (at? p0.BP v15) fun x16=>gd (List.length v14+[w64 (x16+1)].length<=lim) (L13 ((v14++[w64 (x16+1)],w64 (v15+1))))) (jn ADt v14)
def ADs(p0:AH)(v12:List Int):AA PUnit:=gd (v12.length+[(↑p0.BO.length:Int)].length<=lim) (gd ((v12++[(↑p0.BO.length:Int)]).length+p0.BO.length<=lim) (Aw (ADw p0) big ((v12++[(↑p0.BO.length:Int)]++p0.BO,0))))
def ADv(p0:AH)(L8:((List Int)×Int)->AA PUnit)(x_:((List Int)×Int)):AA PUnit:=match x_ with |(v9,v10)=>br (decide (v10<(↑p0.Ap.length:Int))) (bd (at? p0.Ap v10) fun x11=>gd (List.length v9+[x11.Ae.EV].length<=lim) (L8 ((v9++[x11.Ae.EV],w64 (v10+1))))) (jn (ADs p0) v9)
def ADr(p0:AH)(v7:List Int):AA PUnit:=Aw (ADv p0) big (v7,0)
def ADu(p0:AH)(L3:((List Int)×Int)->AA PUnit)(x_:((List Int)×Int)):AA PUnit:=match x_ with |(v4,v5)=>br (decide (v5<(↑p0.AK.length:Int))) (bd (at? p0.AK v5) fun x6=>gd (List.length v4+[x6.Id,x6.Bf,w64 (x6.Ci+1),x6.BW,x6.DG,x6.Since,x6.A4,x6.State,x6.C4,x6.EP].length<=lim) (L3 ((v4++[x6.Id,x6.Bf,w64 (x6.Ci+1),x6.BW,x6.DG,x6.Since,x6.A4,x6.State,x6.C4,x6.EP],w64 (v5+1))))) (jn (ADr p0) v4)
def ADq(p0:AH):AA PUnit:=bd (Tm p0) fun x1=>br (!x1) (some ()) (bd (aO p0.AR) fun x2=>gd ([(↑(List.length x2):Int)].length+List.length x2<=lim) (gd (([(↑(List.length x2):Int)]++x2).length+[p0.Now,p0.A4,(↑p0.AK.length:Int)].length<=lim) (Aw (ADu p0) big (([(↑(List.length x2):Int)]++x2++[p0.Now,p0.A4,(↑p0.AK.length:Int)],0)))))
def sd:GF:=AMv.GD (BY ADq)
def AMw:YF:=⟨[],[.v (.st 8),.v .i],[],.ret [.s],[.tmp 4],sq [qu 2 0,.as 4 (.k (.str []))] [1,2] (sr [wn 8 [wk 15 2,wY sd rfl],qn [qa 5 9]] [1,5] (.seq (sr [wn 10 [wm 5,wh (.bin · .sl .eql (.tmp 10) (.k .nil)),wM],wf 12 13 [wm 1,wc FD rfl [13,qj 0,qj 1000000],wX],qn [qp 16 12 15]] [1,5,16] (cn 16 [1,5] (sq [.as 4 (.k (.str []))] [4] .ret))) (.seq (.SZ (.op 0 none [] (.mv 17 (.tmp 1)) (.op 3 none [] (.mv 20 (.tmp 5)) (qd 1 [wn 18 [wY Pc rfl,wh (.NO · (.tmp 18))]] (.op 4 none [18] (.call 21 eK [] rfl [(.tmp 20)]) (qd 5 [qn [qb 22 .add 19 21,qa 6 22]] .nil))))) [6]) (sr [wn 23 [wm 6,wh (.Je · (.tmp 23)),wY Xn rfl],qn [qa 7 25]] [6,7] (sr [wn 26 [wm 7,wh (.bin · .num .shr (.tmp 26) (.k (.int .u64 24))),wh (.cvI · .u8 (.tmp 27)),wm 7,wh (.bin · .num .shr (.tmp 29) (.k (.int .u64 16))),wh (.cvI · .u8 (.tmp 30)),wm 7,wh (.bin · .num .shr (.tmp 32) (.k (.int .u64 8))),wh (.cvI · .u8 (.tmp 33)),wm 7,wh (.cvI · .u8 (.tmp 35)),wh (.Bp · 4 .u [(0,(.tmp 28)),(1,(.tmp 31)),(2,(.tmp 34)),(3,(.tmp 36))]),wh (.NO · (.tmp 37)),wm 6,wB .add 38],qn [qa 4 40]] [4] .ret)))))⟩
def yW(p0:AH)(p1:Int):AA (List UInt8):=bd (ADq p0) fun x1=>some []
def se:GF:=AMw.GD (BF yW)
def lZ(p0:AH)(p1:Int):AA (List UInt8):=orE (aP p0 p1) (yW p0 p1)
def AES:GF:=sb.orE (fun a=>lZ a.1 a.2.1) (fun a=>yW a.1 a.2.1) (fun a=>by kernel_rfl) (fun a r h=>Eq.mp (by kernel_rfl) (se.ok a r h))
def lf(v17:List Int):AA (List Int):=some v17
def WW(p0:AH)(L13:((List Int)×Int)->AA (List Int))(x_:((List Int)×Int)):AA (List Int):=match x_ with |(v14,v15)=>br (decide (v15<(↑p0.BP.length:Int))) (bd (at? p0.BP v15) fun x16=>gd (List.length v14+[w64 (x16+1)].length<=lim) (L13 ((v14++[w64 (x16+1)],w64 (v15+1))))) (jn lf v14)
def Qn(p0:AH)(v12:List Int):AA (List Int):=gd (v12.length+[(↑p0.BO.length:Int)].length<=lim) (gd ((v12++[(↑p0.BO.length:Int)]).length+p0.BO.length<=lim) (Aw (WW p0) big ((v12++[(↑p0.BO.length:Int)]++p0.BO,0))))
def WV(p0:AH)(L8:((List Int)×Int)->AA (List Int))(x_:((List Int)×Int)):AA (List Int):=match x_ with |(v9,v10)=>br (decide (v10<(↑p0.Ap.length:Int))) (bd (at? p0.Ap v10) fun x11=>gd (List.length v9+[x11.Ae.EV].length<=lim) (L8 ((v9++[x11.Ae.EV],w64 (v10+1))))) (jn (Qn p0) v9)
def Qm(p0:AH)(v7:List Int):AA (List Int):=Aw (WV p0) big (v7,0)
def WU(p0:AH)(L3:((List Int)×Int)->AA (List Int))(x_:((List Int)×Int)):AA (List Int):=match x_ with |(v4,v5)=>br (decide (v5<(↑p0.AK.length:Int))) (bd (at? p0.AK v5) fun x6=>gd (List.length v4+[x6.Id,x6.Bf,w64 (x6.Ci+1),x6.BW,x6.DG,x6.Since,x6.A4,x6.State,x6.C4,x6.EP].length<=lim) (L3 ((v4++[x6.Id,x6.Bf,w64 (x6.Ci+1),x6.BW,x6.DG,x6.Since,x6.A4,x6.State,x6.C4,x6.EP],w64 (v5+1))))) (jn (Qm p0) v4)
def yX(p0:AH):AA (List Int):=bd (Tm p0) fun x1=>br (!x1) (some []) (bd (aO p0.AR) fun x2=>gd ([(↑(List.length x2):Int)].length+List.length x2<=lim) (gd (([(↑(List.length x2):Int)]++x2).length+[p0.Now,p0.A4,(↑p0.AK.length:Int)].length<=lim) (Aw (WU p0) big (([(↑(List.length x2):Int)]++x2++[p0.Now,p0.A4,(↑p0.AK.length:Int)],0)))))
def sg:GF:=gZ K4 Nt CE 0xe00f243202b96ba001805c76a3763bd3786d298d18d0d03807fb524dc74dabdfb95dce5cb4d0bd4dcb3a015f8b6dd012241ae0401d5a548f28cf23a03e9a087b44a557afb03992f51372b4d12fd5df26b550b35a6d6a6b06cf0b53b59b77174ab5499683f2d1a0592c650d2a00316dda1095ce0cc98c804e3646ddaf9b5210663af94cea55fdfeb80bee7a779c146ff46a931a60303e0a0f360642f9d9a6c07fe8c849dd21a895acc7532b5c65b1f4943d6da1e9b281ec2508814ec2db4d566ce1ce12e1a51a9555a7643bf05ab7e785ffe73a9d07cf6f1caa9df0f23c5383118c4e1a9b2096a5aa2f9229443bbbbf08f4328eeea81c8de [PZ,Xm] (BY yX)
def lg(L1:((List Int)×Int×Int)->AA (Int×(List Int)))(x_:((List Int)×Int×Int)):AA (Int×(List Int)):=match x_ with |(v7,v8,v9)=>L1 ((v7,w64 (v8+1),w64 (v9+1)))
def WX(x_:((List Int)×Int)):AA (Int×(List Int)):=match x_ with |(v10,v11)=>some (v11,v10)
def Qo(L1:((List Int)×Int×Int)->AA (Int×(List Int)))(x_:((List Int)×Int×Int)):AA (Int×(List Int)):=match x_ with |(v2,v3,v4)=>br (decide (v4<(↑(List.length v2):Int))) (bd (at? v2 v4) fun x5=>bd (at? v2 v4) fun x6=>jn (lg L1) (List.set v2 v4.toNat v3,v3,v4)) (jn WX (v2,v3))
def aQ(p0:List Int)(p1:Int):AA (Int×(List Int)):=Aw (Qo) big (p0,p1,0)
def eL:GF:=gZ [.m (.l .i),.v .i] Ca Br 0xdbb28ea5272605181160d0e322317102f422976c03a7e4fe6ef78fabea5184e2203bbf5f1eb378 [] (BF aQ)
def ADx(p0:AW)(p1:Int):AA (Int×AW):=bd (aQ p0.Ae p1) fun x1=>some (x1.fst,AW.mk x1.snd p0.CJ p0.Room p0.BW p0.Bn p0.Bi p0.Rest p0.CI p0.Ch)
def si:GF:=gZ [.m (.st 1),.v .i] Ca Br 0x16ba2c3b35a2f78d8dcf239fdba441 [eL] (BF ADx)
def aS(L1:((List AP)×Int×Int)->AA (Int×(List AP)))(x_:((List AP)×Int×Int)):AA (Int×(List AP)):=match x_ with |(v52,v53,v54)=>L1 ((v52,w64 (v53+1),w64 (v54+1)))
def aR(L1:((List AP)×Int×Int)->AA (Int×(List AP)))(x_:((List AP)×Int×Int)):AA (Int×(List AP)):=match x_ with |(v47,v48,v49)=>bd (at? v47 v49) fun x50=>bd (at? v47 v49) fun x51=>jn (aS L1) ((List.set v47 v49.toNat (AP.mk x51.Id x51.Bf x51.Ci x51.BW x51.DG x51.Since x51.A4 x51.State x51.C4 (w64 (v48+1))),w64 (v48+1),v49))
def lu(L1:((List AP)×Int×Int)->AA (Int×(List AP)))(x_:((List AP)×Int×Int)):AA (Int×(List AP)):=match x_ with |(v42,v43,v44)=>bd (at? v42 v44) fun x45=>bd (at? v42 v44) fun x46=>jn (aR L1) ((List.set v42 v44.toNat (AP.mk x46.Id x46.Bf x46.Ci x46.BW x46.DG x46.Since x46.A4 x46.State (w64 (v43+1)) x46.EP),w64 (v43+1),v44))
def lr(L1:((List AP)×Int×Int)->AA (Int×(List AP)))(x_:((List AP)×Int×Int)):AA (Int×(List AP)):=match x_ with |(v37,v38,v39)=>bd (at? v37 v39) fun x40=>bd (at? v37 v39) fun x41=>jn (lu L1) ((List.set v37 v39.toNat (AP.mk x41.Id x41.Bf x41.Ci x41.BW x41.DG x41.Since x41.A4 (w64 (v38+1)) x41.C4 x41.EP),w64 (v38+1),v39))
def lq(L1:((List AP)×Int×Int)->AA (Int×(List AP)))(x_:((List AP)×Int×Int)):AA (Int×(List AP)):=match x_ with |(v32,v33,v34)=>bd (at? v32 v34) fun x35=>bd (at? v32 v34) fun x36=>jn (lr L1) ((List.set v32 v34.toNat (AP.mk x36.Id x36.Bf x36.Ci x36.BW x36.DG x36.Since (w64 (v33+1)) x36.State x36.C4 x36.EP),w64 (v33+1),v34))
def ln(L1:((List AP)×Int×Int)->AA (Int×(List AP)))(x_:((List AP)×Int×Int)):AA (Int×(List AP)):=match x_ with |(v27,v28,v29)=>bd (at? v27 v29) fun x30=>bd (at? v27 v29) fun x31=>jn (lq L1) ((List.set v27 v29.toNat (AP.mk x31.Id x31.Bf x31.Ci x31.BW x31.DG (w64 (v28+1)) x31.A4 x31.State x31.C4 x31.EP),w64 (v28+1),v29))
def ll(L1:((List AP)×Int×Int)->AA (Int×(List AP)))(x_:((List AP)×Int×Int)):AA (Int×(List AP)):=match x_ with |(v22,v23,v24)=>bd (at? v22 v24) fun x25=>bd (at? v22 v24) fun x26=>jn (ln L1) ((List.set v22 v24.toNat (AP.mk x26.Id x26.Bf x26.Ci x26.BW (w64 (v23+1)) x26.Since x26.A4 x26.State x26.C4 x26.EP),w64 (v23+1),v24))
def lk(L1:((List AP)×Int×Int)->AA (Int×(List AP)))(x_:((List AP)×Int×Int)):AA (Int×(List AP)):=match x_ with |(v17,v18,v19)=>bd (at? v17 v19) fun x20=>bd (at? v17 v19) fun x21=>jn (ll L1) ((List.set v17 v19.toNat (AP.mk x21.Id x21.Bf x21.Ci (w64 (v18+1)) x21.DG x21.Since x21.A4 x21.State x21.C4 x21.EP),w64 (v18+1),v19))
def lj(L1:((List AP)×Int×Int)->AA (Int×(List AP)))(x_:((List AP)×Int×Int)):AA (Int×(List AP)):=match x_ with |(v12,v13,v14)=>bd (at? v12 v14) fun x15=>bd (at? v12 v14) fun x16=>jn (lk L1) ((List.set v12 v14.toNat (AP.mk x16.Id x16.Bf (w64 (v13+1)) x16.BW x16.DG x16.Since x16.A4 x16.State x16.C4 x16.EP),w64 (v13+1),v14))
def lh(L1:((List AP)×Int×Int)->AA (Int×(List AP)))(x_:((List AP)×Int×Int)):AA (Int×(List AP)):=match x_ with |(v7,v8,v9)=>bd (at? v7 v9) fun x10=>bd (at? v7 v9) fun x11=>jn (lj L1) ((List.set v7 v9.toNat (AP.mk x11.Id (w64 (v8+1)) x11.Ci x11.BW x11.DG x11.Since x11.A4 x11.State x11.C4 x11.EP),w64 (v8+1),v9))
def SJ(x_:((List AP)×Int)):AA (Int×(List AP)):=match x_ with |(v55,v56)=>some (v56,v55)
def Qp(L1:((List AP)×Int×Int)->AA (Int×(List AP)))(x_:((List AP)×Int×Int)):AA (Int×(List AP)):=match x_ with |(v2,v3,v4)=>br (decide (v4<(↑(List.length v2):Int))) (bd (at? v2 v4) fun x5=>bd (at? v2 v4) fun x6=>jn (lh L1) ((List.set v2 v4.toNat (AP.mk v3 x6.Bf x6.Ci x6.BW x6.DG x6.Since x6.A4 x6.State x6.C4 x6.EP),v3,v4))) (jn SJ (v2,v3))
def yY(p0:List AP)(p1:Int):AA (Int×(List AP)):=Aw (Qp) big (p0,p1,0)
def sj:GF:=gZ [.m (.l (.st 2)),.v .i] Ca Br 0x829fb684188e009aa8e046f9be2a63637e0b5a68a10874569a1cb9471a8c58c357ef330fe2a447725c4e6be32a1bfd8ee7164c12d731183e078cb79c8541bc93dce5c808cc620726bf110169c7d37dfa5e994bdc7efa16331daddd683535aa22b4f114aacaea3045a1107de885da65dbd17bd4b1110d55c667576084fad05678ab3970a85e0621daa3a86c7f2f8266f0c7938378904f40e865082d12a76e62197f46fa3cf44bb60b146a302f28329475ecd24076988a828fbe2fc99d6a15ce73d7584c7c1617bb42 [] (BF yY)
def mA(L1:((List Ac)×Int×Int)->AA (Int×(List Ac)))(x_:((List Ac)×Int×Int)):AA (Int×(List Ac)):=match x_ with |(v22,v23,v24)=>L1 ((v22,w64 (v23+1),w64 (v24+1)))
def l9(L1:((List Ac)×Int×Int)->AA (Int×(List Ac)))(x_:((List Ac)×Int×Int)):AA (Int×(List Ac)):=match x_ with |(v17,v18,v19)=>bd (at? v17 v19) fun x20=>bd (at? v17 v19) fun x21=>jn (mA L1) ((List.set v17 v19.toNat (Ac.mk x21.Level x21.A4 x21.Id (w64 (v18+1))),w64 (v18+1),v19))
def l7(L1:((List Ac)×Int×Int)->AA (Int×(List Ac)))(x_:((List Ac)×Int×Int)):AA (Int×(List Ac)):=match x_ with |(v12,v13,v14)=>bd (at? v12 v14) fun x15=>bd (at? v12 v14) fun x16=>jn (l9 L1) ((List.set v12 v14.toNat (Ac.mk x16.Level x16.A4 (w64 (v13+1)) x16.BW),w64 (v13+1),v14))
def lz(L1:((List Ac)×Int×Int)->AA (Int×(List Ac)))(x_:((List Ac)×Int×Int)):AA (Int×(List Ac)):=match x_ with |(v7,v8,v9)=>bd (at? v7 v9) fun x10=>bd (at? v7 v9) fun x11=>jn (l7 L1) ((List.set v7 v9.toNat (Ac.mk x11.Level (w64 (v8+1)) x11.Id x11.BW),w64 (v8+1),v9))
def WY(x_:((List Ac)×Int)):AA (Int×(List Ac)):=match x_ with |(v25,v26)=>some (v26,v25)
def Qq(L1:((List Ac)×Int×Int)->AA (Int×(List Ac)))(x_:((List Ac)×Int×Int)):AA (Int×(List Ac)):=match x_ with |(v2,v3,v4)=>br (decide (v4<(↑(List.length v2):Int))) (bd (at? v2 v4) fun x5=>bd (at? v2 v4) fun x6=>jn (lz L1) ((List.set v2 v4.toNat (Ac.mk v3 x6.A4 x6.Id x6.BW),v3,v4))) (jn WY (v2,v3))
def yZ(p0:List Ac)(p1:Int):AA (Int×(List Ac)):=Aw (Qq) big (p0,p1,0)
def sk:GF:=gZ [.m (.l (.st 4)),.v .i] Ca Br 0x601db9550266fd1e9439175d96e77a745c61c6e2680a7b530c029b64c329af28fc8344e885c1ce583cccf18888cf9b7b1c670d6e323df280336ddfd51ef1c5a907eb25241965ea75279e17efed5b051f928e49917e5e342c9f88bd1722 [] (BF yZ)
def mC(L1:((List Ax)×Int×Int)->AA (Int×(List Ax)))(x_:((List Ax)×Int×Int)):AA (Int×(List Ax)):=match x_ with |(v12,v13,v14)=>L1 ((v12,w64 (v13+1),w64 (v14+1)))
def mB(L1:((List Ax)×Int×Int)->AA (Int×(List Ax)))(x_:((List Ax)×Int×Int)):AA (Int×(List Ax)):=match x_ with |(v7,v8,v9)=>bd (at? v7 v9) fun x10=>bd (at? v7 v9) fun x11=>jn (mC L1) ((List.set v7 v9.toNat (Ax.mk x11.At (w64 (v8+1))),w64 (v8+1),v9))
def WZ(x_:((List Ax)×Int)):AA (Int×(List Ax)):=match x_ with |(v15,v16)=>some (v16,v15)
def Qr(L1:((List Ax)×Int×Int)->AA (Int×(List Ax)))(x_:((List Ax)×Int×Int)):AA (Int×(List Ax)):=match x_ with |(v2,v3,v4)=>br (decide (v4<(↑(List.length v2):Int))) (bd (at? v2 v4) fun x5=>bd (at? v2 v4) fun x6=>jn (mB L1) ((List.set v2 v4.toNat (Ax.mk v3 x6.Id),v3,v4))) (jn WZ (v2,v3))
def ya(p0:List Ax)(p1:Int):AA (Int×(List Ax)):=Aw (Qr) big (p0,p1,0)
def su:GF:=gZ [.m (.l (.st 5)),.v .i] Ca Br 0x47776c5abb770b5ccb96d3ebdca536fee022c1c10dbef74ad490eb988dc57057ebf3112195add640a7a1364e7fc0b9d9a980e5a7a816e732f9d [] (BF ya)
def mD(x_:((List (List Ax))×Int)):AA (Int×(List (List Ax))):=match x_ with |(v9,v10)=>some (v10,v9)
def Qs(L1:((List (List Ax))×Int×Int)->AA (Int×(List (List Ax))))(x_:((List (List Ax))×Int×Int)):AA (Int×(List (List Ax))):=match x_ with |(v2,v3,v4)=>br (decide (v4<(↑(List.length v2):Int))) (bd (at? v2 v4) fun x5=>bd (at? v2 v4) fun x6=>bd (ya x6 v3) fun x7=>gd (v4.toNat=v4.toNat) (bd (v2[v4.toNat]?) fun x8=>L1 ((List.set v2 v4.toNat x7.snd,x7.fst,w64 (v4+1))))) (jn mD (v2,v3))
def yb(p0:List (List Ax))(p1:Int):AA (Int×(List (List Ax))):=Aw (Qs) big (p0,p1,0)
def sv:GF:=gZ [.m (.l (.l (.st 5))),.v .i] Ca Br 0x2d553b01d7d49c5a5b839df46dd8eedf767a684ae085847f1e706bce2f7a8b804b152df004f [su] (BF yb)
def mJ(L1:((List Aa)×Int×Int)->AA (Int×(List Aa)))(x_:((List Aa)×Int×Int)):AA (Int×(List Aa)):=match x_ with |(v34,v35,v36)=>bd (at? v34 v36) fun x37=>bd (at? v34 v36) fun x38=>bd (yb x38.DW.Ah v35) fun x39=>gd (v36.toNat=v36.toNat) (bd (v34[v36.toNat]?) fun x40=>L1 ((List.set v34 v36.toNat (Aa.mk x40.Ae x40.Row (Aq.mk x39.snd)),x39.fst,w64 (v36+1))))
def mI(L1:((List Aa)×Int×Int)->AA (Int×(List Aa)))(x_:((List Aa)×Int×Int)):AA (Int×(List Aa)):=match x_ with |(v27,v28,v29)=>bd (at? v27 v29) fun x30=>bd (at? v27 v29) fun x31=>bd (yZ x31.Row (w64 (v28+1))) fun x32=>gd (v29.toNat=v29.toNat) (bd (v27[v29.toNat]?) fun x33=>jn (mJ L1) ((List.set v27 v29.toNat (Aa.mk x33.Ae x32.snd x33.DW),x32.fst,v29)))
def mH(L1:((List Aa)×Int×Int)->AA (Int×(List Aa)))(x_:((List Aa)×Int×Int)):AA (Int×(List Aa)):=match x_ with |(v22,v23,v24)=>bd (at? v22 v24) fun x25=>bd (at? v22 v24) fun x26=>jn (mI L1) ((List.set v22 v24.toNat (Aa.mk (Cm.mk x26.Ae.Total x26.Ae.EV x26.Ae.Gk x26.Ae.KV (w64 (v23+1))) x26.Row x26.DW),w64 (v23+1),v24))
def mG(L1:((List Aa)×Int×Int)->AA (Int×(List Aa)))(x_:((List Aa)×Int×Int)):AA (Int×(List Aa)):=match x_ with |(v17,v18,v19)=>bd (at? v17 v19) fun x20=>bd (at? v17 v19) fun x21=>jn (mH L1) ((List.set v17 v19.toNat (Aa.mk (Cm.mk x21.Ae.Total x21.Ae.EV x21.Ae.Gk (w64 (v18+1)) x21.Ae.K1) x21.Row x21.DW),w64 (v18+1),v19))
def mF(L1:((List Aa)×Int×Int)->AA (Int×(List Aa)))(x_:((List Aa)×Int×Int)):AA (Int×(List Aa)):=match x_ with |(v12,v13,v14)=>bd (at? v12 v14) fun x15=>bd (at? v12 v14) fun x16=>jn (mG L1) ((List.set v12 v14.toNat (Aa.mk (Cm.mk x16.Ae.Total x16.Ae.EV (w64 (v13+1)) x16.Ae.KV x16.Ae.K1) x16.Row x16.DW),w64 (v13+1),v14))
def mE(L1:((List Aa)×Int×Int)->AA (Int×(List Aa)))(x_:((List Aa)×Int×Int)):AA (Int×(List Aa)):=match x_ with |(v7,v8,v9)=>bd (at? v7 v9) fun x10=>bd (at? v7 v9) fun x11=>jn (mF L1) ((List.set v7 v9.toNat (Aa.mk (Cm.mk x11.Ae.Total (w64 (v8+1)) x11.Ae.Gk x11.Ae.KV x11.Ae.K1) x11.Row x11.DW),w64 (v8+1),v9))
def mK(x_:((List Aa)×Int)):AA (Int×(List Aa)):=match x_ with |(v41,v42)=>some (v42,v41)
def Qt(L1:((List Aa)×Int×Int)->AA (Int×(List Aa)))(x_:((List Aa)×Int×Int)):AA (Int×(List Aa)):=match x_ with |(v2,v3,v4)=>br (decide (v4<(↑(List.length v2):Int))) (bd (at? v2 v4) fun x5=>bd (at? v2 v4) fun x6=>jn (mE L1) ((List.set v2 v4.toNat (Aa.mk (Cm.mk v3 x6.Ae.EV x6.Ae.Gk x6.Ae.KV x6.Ae.K1) x6.Row x6.DW),v3,v4))) (jn mK (v2,v3))
def yc(p0:List Aa)(p1:Int):AA (Int×(List Aa)):=Aw (Qt) big (p0,p1,0)
def sx:GF:=gZ [.m (.l (.st 7)),.v .i] Ca Br 0x3f8dc4bdd7070c8a648766a490c359483c9551fd6c21276bc7721a2e85369fc32d949e69c79b7a8ecf7449afae2cbc26cb81b50710b60ec91c89d01a229c2c78adbd457369c7845090b092651f09910c5d293ee4e6ab3caa7dee8794eb8dd3f76037ead3a57de91c81e5d0ee2689720e595221635aa2bf2c87aad3c4f99b68ea71819fe07704970e2510f1a520944b9c4be72bc4ee28c1adcf713d43ebff1870 [sk,sv] (BF yc)
def yd(p0:AH)(p1:Int):AA (Int×AH):=bd (ADx p0.AR p1) fun x1=>bd (yY p0.AK x1.fst) fun x2=>bd (yc p0.Ap x2.fst) fun x3=>bd (aQ p0.BO x3.fst) fun x4=>bd (aQ p0.BP x4.fst) fun x5=>some ((x5.fst,AH.mk (AW.mk x1.snd.Ae p0.AR.CJ p0.AR.Room p0.AR.BW p0.AR.Bn p0.AR.Bi p0.AR.Rest p0.AR.CI p0.AR.Ch) p0.Now p0.A4 x2.snd x3.snd x4.snd x5.snd))
def sy:GF:=gZ [.m (.st 8),.v .i] Ca Br 0x9c2b2b0fcd83b6f58e7396dd1b8f86d36f4b2861d568cf9d758b3c610305cd502a7dd1d5e1746f0a647d619b989f502 [si,sj,sx,eL] (BF yd)
def mL(v5:Int):AA Int:=some v5
def Wa(p0:List Int)(L1:(Int×Int)->AA Int)(x_:(Int×Int)):AA Int:=match x_ with |(v2,v3)=>br (decide (v3<(↑p0.length:Int))) (bd (at? p0 v3) fun x4=>br (x4 != v2) (some (-1)) (L1 ((w64 (v2+1),w64 (v3+1))))) (jn mL v2)
def aU(p0:List Int)(p1:Int):AA Int:=Aw (Wa p0) big (p1,0)
def eM:GF:=gZ nW Ca Br 0x887eaa47c3d3b2ad1231fef32be65a3375d57b714da6049e2cba7816dfdee2344d848c24cf09f0 [] (BF aU)
def FI(p0:AW):AA AW:=gd (0+p0.Ae.length<=lim) (some (AW.mk ([]++p0.Ae) p0.CJ p0.Room p0.BW p0.Bn p0.Bi p0.Rest p0.CI p0.Ch))
def s3:GF:=gZ Pf uH uM 0x17c5bd969280215f0d8a9fc0b5ff6cef472bb [] (BY FI)
def AMV:YF:=⟨[],[],[],.ret [(.st 6)],[.cell 0 (some 1)],dY 0x173d6e81e9535cbaebbad8149cd0114a8ee48e0a8255ccff7022af7afcb4fb76b6697b1df2adef20fd13b80eb94eac3d153be06 []⟩
def mM(v4:Aq):AA Aq:=some v4
def mN(L1:(Int×Aq)->AA Aq)(x_:(Int×Aq)):AA Aq:=match x_ with |(v2,v3)=>br (decide (v2<9)) (gd (v3.Ah.length+1<=lim) (L1 ((w64 (v2+1),Aq.mk (v3.Ah++[[]]))))) (jn mM v3)
def ye:AA Aq:=Aw (mN) big (0,Aq.mk [])
def s4:GF:=AMV.gf rfl rfl (fun a=>ye) (fun a=>by kernel_rfl)
def IB(p0:List Int):AA (List Int):=gd (0+p0.length<=lim) (some p0)
def Sk:GF:=gZ Pe Nt CE 0xb79a9b951cc99f3548 [] (BY IB)
def kz(p0:AW):AA AW:=bd (IB p0.Ae) fun x1=>some (AW.mk x1 p0.CJ p0.Room p0.BW p0.Bn p0.Bi p0.Rest p0.CI p0.Ch)
def sQ:GF:=gZ Pf uH uM 0x8f863b662bed276a96af4effb30541c0 [Sk] (BY kz)
def AMU:YF:=⟨[],[],[],.ret [(.st 6)],[.cell 0 (some 1)],dY 0x79dc0b4e7be34c34acf814eed00118f [] [.Ji 1 (.l (.st 5)) (.k (.int .i64 9))]⟩
def ADo:AA Aq:=some (Aq.mk (List.replicate (Int.toNat 9) []))
def sR:GF:=AMU.gf rfl rfl (fun a=>ADo) (fun a=>by kernel_rfl)
def yO(p0:B2):AA B2:=bd (Nb p0) fun x1=>br (!x1) (some p0) (some (B2.mk p0.Data (↑p0.Data.length:Int)))
def sS:GF:=gZ Xs Xy fF 0x236dc1a6f4f36cb832f23c3c09171f36a6ae879060367a0f6a8866 [Pb] (BY yO)
def lF(L1:((List Cb)×Int×Int)->AA (Int×(List Cb)))(x_:((List Cb)×Int×Int)):AA (Int×(List Cb)):=match x_ with |(v32,v33,v34)=>L1 ((v32,w64 (v33+1),w64 (v34+1)))
def lE(L1:((List Cb)×Int×Int)->AA (Int×(List Cb)))(x_:((List Cb)×Int×Int)):AA (Int×(List Cb)):=match x_ with |(v27,v28,v29)=>bd (at? v27 v29) fun x30=>bd (at? v27 v29) fun x31=>jn (lF L1) ((List.set v27 v29.toNat (Cb.mk x31.Kind x31.Id x31.Bf x31.Ci x31.BW (w64 (v28+1))),w64 (v28+1),v29))
def lD(L1:((List Cb)×Int×Int)->AA (Int×(List Cb)))(x_:((List Cb)×Int×Int)):AA (Int×(List Cb)):=match x_ with |(v22,v23,v24)=>bd (at? v22 v24) fun x25=>bd (at? v22 v24) fun x26=>jn (lE L1) ((List.set v22 v24.toNat (Cb.mk x26.Kind x26.Id x26.Bf x26.Ci (w64 (v23+1)) x26.DG),w64 (v23+1),v24))
def lC(L1:((List Cb)×Int×Int)->AA (Int×(List Cb)))(x_:((List Cb)×Int×Int)):AA (Int×(List Cb)):=match x_ with |(v17,v18,v19)=>bd (at? v17 v19) fun x20=>bd (at? v17 v19) fun x21=>jn (lD L1) ((List.set v17 v19.toNat (Cb.mk x21.Kind x21.Id x21.Bf (w64 (v18+1)) x21.BW x21.DG),w64 (v18+1),v19))
def lB(L1:((List Cb)×Int×Int)->AA (Int×(List Cb)))(x_:((List Cb)×Int×Int)):AA (Int×(List Cb)):=match x_ with |(v12,v13,v14)=>bd (at? v12 v14) fun x15=>bd (at? v12 v14) fun x16=>jn (lC L1) ((List.set v12 v14.toNat (Cb.mk x16.Kind x16.Id (w64 (v13+1)) x16.Ci x16.BW x16.DG),w64 (v13+1),v14))
def lA(L1:((List Cb)×Int×Int)->AA (Int×(List Cb)))(x_:((List Cb)×Int×Int)):AA (Int×(List Cb)):=match x_ with |(v7,v8,v9)=>bd (at? v7 v9) fun x10=>bd (at? v7 v9) fun x11=>jn (lB L1) ((List.set v7 v9.toNat (Cb.mk x11.Kind (w64 (v8+1)) x11.Bf x11.Ci x11.BW x11.DG),w64 (v8+1),v9))
def WA(x_:((List Cb)×Int)):AA (Int×(List Cb)):=match x_ with |(v35,v36)=>some (v36,v35)
def Qi(L1:((List Cb)×Int×Int)->AA (Int×(List Cb)))(x_:((List Cb)×Int×Int)):AA (Int×(List Cb)):=match x_ with |(v2,v3,v4)=>br (decide (v4<(↑(List.length v2):Int))) (bd (at? v2 v4) fun x5=>bd (at? v2 v4) fun x6=>jn (lA L1) ((List.set v2 v4.toNat (Cb.mk v3 x6.Id x6.Bf x6.Ci x6.BW x6.DG),v3,v4))) (jn WA (v2,v3))
def yP(p0:List Cb)(p1:Int):AA (Int×(List Cb)):=Aw (Qi) big (p0,p1,0)
def sT:GF:=gZ [.m (.l (.st 0)),.v .i] Ca Br 0x12c67e410425f8db7ecf0c7324b0cc839b220f1229e690a7e56b2fccfefe3bb9938c214138ba30e8663a7f1246523990afff0ed87d6e8bbc4502fbcf6761703bd19166c9d061e2aea6fa8270514107fd5e9edbc0d170b08a258fa44360f8b17ad439680ebfc3aad10da98904db39f7c51426a759feabd6407ba4486369a9c65fdba6591 [] (BF yP)
def WB(p0:Ay)(p1:Int):AA (Int×Ay):=bd (yd p0.Av p1) fun x1=>bd (yP p0.Laid x1.fst) fun x2=>some ((x2.fst,Ay.mk (AH.mk (AW.mk x1.snd.AR.Ae p0.Av.AR.CJ p0.Av.AR.Room p0.Av.AR.BW p0.Av.AR.Bn p0.Av.AR.Bi p0.Av.AR.Rest p0.Av.AR.CI p0.Av.AR.Ch) p0.Av.Now p0.Av.A4 x1.snd.AK x1.snd.Ap x1.snd.BO x1.snd.BP) p0.Bu p0.Seq x2.snd))
def eF:GF:=gZ [.m (.st 11),.v .i] Ca Br 0x133c8e290a1a7e6b47e267b7e3598b856c4fd15fac6480 [sy,sT] (BF WB)
def ADp(p0:AW)(p1:Int):AA Int:=bd (aU p0.Ae p1) fun x1=>br (decide (x1<0)) (some (-1)) (some x1)
def sU:GF:=gZ [.v (.st 1),.v .i] Ca Br 0x265fa31567815d5f90e17e6c81bac4a22a1f4ed7b [eM] (BF ADp)
def lG(v14:Int):AA Int:=some v14
def WC(p0:List AP)(L1:(Int×Int)->AA Int)(x_:(Int×Int)):AA Int:=match x_ with |(v2,v3)=>br (decide (v3<(↑p0.length:Int))) (bd (at? p0 v3) fun x4=>br (x4.Id != v2) (some (-1)) (bd (at? p0 v3) fun x5=>br (x5.Bf != w64 (v2+1)) (some (-1)) (bd (at? p0 v3) fun x6=>br (x6.Ci != w64 (w64 (v2+1)+1)) (some (-1)) (bd (at? p0 v3) fun x7=>br (x7.BW != w64 (w64 (w64 (v2+1)+1)+1)) (some (-1)) (bd (at? p0 v3) fun x8=>br (x8.DG != w64 (w64 (w64 (w64 (v2+1)+1)+1)+1)) (some (-1)) (bd (at? p0 v3) fun x9=>br (x9.Since != w64 (w64 (w64 (w64 (w64 (v2+1)+1)+1)+1)+1)) (some (-1)) (bd (at? p0 v3) fun x10=>br (x10.A4 != w64 (w64 (w64 (w64 (w64 (w64 (v2+1)+1)+1)+1)+1)+1)) (some (-1)) (bd (at? p0 v3) fun x11=>br (x11.State != w64 (w64 (w64 (w64 (w64 (w64 (w64 (v2+1)+1)+1)+1)+1)+1)+1)) (some (-1)) (bd (at? p0 v3) fun x12=>br (x12.C4 != w64 (w64 (w64 (w64 (w64 (w64 (w64 (w64 (v2+1)+1)+1)+1)+1)+1)+1)+1)) (some (-1)) (bd (at? p0 v3) fun x13=>br (x13.EP != w64 (w64 (w64 (w64 (w64 (w64 (w64 (w64 (w64 (v2+1)+1)+1)+1)+1)+1)+1)+1)+1)) (some (-1)) (L1 ((w64 (w64 (w64 (w64 (w64 (w64 (w64 (w64 (w64 (w64 (v2+1)+1)+1)+1)+1)+1)+1)+1)+1)+1),w64 (v3+1)))))))))))))) (jn lG v2)
def yQ(p0:List AP)(p1:Int):AA Int:=Aw (WC p0) big (p1,0)
def sV:GF:=gZ RG Ca Br 0x591f7dcbf4f7753f7371b602474bc4debd731d9e29adfe2844de0f67dabb70d8d9504d1572938956e683209b896edb54db0301fc8f2fb435b2b8b11865eb653a62b0ab92398acb027cc546fa0ccc2f6f381299521dbb454a3612deddc1d78ac77cfd23a6bd18e0001e71cf1f85739e30f92fe85b815a2d39962cc55151ea97f99f5b3101ef236214f536225b18bd6cbb6df6cc18ef0bd248af98e9233271c66e5ad5e78d4a9498d135782eb4232d222b9b96543330e88e4e6f1f4875128247034e795348465a1964e7b21825d16bcc022a674189567146 [] (BF yQ)
def lH(v8:Int):AA Int:=some v8
def WD(p0:List Ac)(L1:(Int×Int)->AA Int)(x_:(Int×Int)):AA Int:=match x_ with |(v2,v3)=>br (decide (v3<(↑p0.length:Int))) (bd (at? p0 v3) fun x4=>br (x4.Level != v2) (some (-1)) (bd (at? p0 v3) fun x5=>br (x5.A4 != w64 (v2+1)) (some (-1)) (bd (at? p0 v3) fun x6=>br (x6.Id != w64 (w64 (v2+1)+1)) (some (-1)) (bd (at? p0 v3) fun x7=>br (x7.BW != w64 (w64 (w64 (v2+1)+1)+1)) (some (-1)) (L1 ((w64 (w64 (w64 (w64 (v2+1)+1)+1)+1),w64 (v3+1)))))))) (jn lH v2)
def yR(p0:List Ac)(p1:Int):AA Int:=Aw (WD p0) big (p1,0)
def sW:GF:=gZ AEp Ca Br 0x3650aff05163235de6920513466394996010664b16ad36adf602b0486ff14cd84977395528b33ce405d2db772b957155301d754339471dab6ad9270a100f38ab85d1ac2daa49d46c9a10c990b696674b682475f297b48faba216f7511b17206db3c [] (BF yR)
def lI(v6:Int):AA Int:=some v6
def WE(p0:List Ax)(L1:(Int×Int)->AA Int)(x_:(Int×Int)):AA Int:=match x_ with |(v2,v3)=>br (decide (v3<(↑p0.length:Int))) (bd (at? p0 v3) fun x4=>br (x4.At != v2) (some (-1)) (bd (at? p0 v3) fun x5=>br (x5.Id != w64 (v2+1)) (some (-1)) (L1 ((w64 (w64 (v2+1)+1),w64 (v3+1)))))) (jn lI v2)
def yS(p0:List Ax)(p1:Int):AA Int:=Aw (WE p0) big (p1,0)
def sX:GF:=gZ [.v (.l (.st 5)),.v .i] Ca Br 0x38cd523d2cc45afa5a73618315d21f9c751cf3202baae0ebff3612d876cf83b7dd5cc7ecdde99c6cc4a85230027778e1b510dbf5a84fe21aebe16 [] (BF yS)
def lJ(v6:Int):AA Int:=some v6
def WG(p0:List (List Ax))(L1:(Int×Int)->AA Int)(x_:(Int×Int)):AA Int:=match x_ with |(v2,v3)=>br (decide (v3<(↑p0.length:Int))) (bd (at? p0 v3) fun x4=>bd (yS x4 v2) fun x5=>br (decide (x5<0)) (some (-1)) (L1 ((x5,w64 (v3+1))))) (jn lJ v2)
def yT(p0:List (List Ax))(p1:Int):AA Int:=Aw (WG p0) big (p1,0)
def sY:GF:=gZ AJc Ca Br 0x3c78400092692f00cdf0b7193cae0f6603cc0c530c3c71c3cc236c769ac71b8b267b2c8a2aade05 [sX] (BF yT)
def mW(v13:Int):AA Int:=some v13
def Wm(p0:List Aa)(L1:(Int×Int)->AA Int)(x_:(Int×Int)):AA Int:=match x_ with |(v2,v3)=>br (decide (v3<(↑p0.length:Int))) (bd (at? p0 v3) fun x4=>br (x4.Ae.Total != v2) (some (-1)) (bd (at? p0 v3) fun x5=>br (x5.Ae.EV != w64 (v2+1)) (some (-1)) (bd (at? p0 v3) fun x6=>br (x6.Ae.Gk != w64 (w64 (v2+1)+1)) (some (-1)) (bd (at? p0 v3) fun x7=>br (x7.Ae.KV != w64 (w64 (w64 (v2+1)+1)+1)) (some (-1)) (bd (at? p0 v3) fun x8=>br (x8.Ae.K1 != w64 (w64 (w64 (w64 (v2+1)+1)+1)+1)) (some (-1)) (bd (at? p0 v3) fun x9=>bd (yR x9.Row (w64 (w64 (w64 (w64 (w64 (v2+1)+1)+1)+1)+1))) fun x10=>br (decide (x10<0)) (some (-1)) (bd (at? p0 v3) fun x11=>bd (yT x11.DW.Ah x10) fun x12=>br (decide (x12<0)) (some (-1)) (L1 ((x12,w64 (v3+1))))))))))) (jn mW v2)
def yn(p0:List Aa)(p1:Int):AA Int:=Aw (Wm p0) big (p1,0)
def tH:GF:=gZ [.v (.l (.st 7)),.v .i] Ca Br 0x4442172dd0ef9eceb9fdc630015b72a366634988a648f180a3b21a3b93463a5e43943c7d958dee60f28499cf4154b24382d64ccd734701219677e0b33279d5162cbe7abbe87ea40cf57d7951f3edcb22df56e3cf77fddfc84e270d84db33ea77eccb6534c72f5c8084ad89dd59d6c49e649dbcc72c19e2af77902922f65e06207cf2213ce836b5295b6b1f7ffb2f9986a9cb748a53607edab445946d7206597d1e51700d8759e6ed9d050eb1dadb8805 [sW,sY] (BF yn)
def yo(p0:AH)(p1:Int):AA Int:=bd (ADp p0.AR p1) fun x1=>br (decide (x1<0)) (some (-1)) (bd (yQ p0.AK x1) fun x2=>br (decide (x2<0)) (some (-1)) (bd (yn p0.Ap x2) fun x3=>br (decide (x3<0)) (some (-1)) (bd (aU p0.BO x3) fun x4=>br (decide (x4<0)) (some (-1)) (bd (aU p0.BP x4) fun x5=>br (decide (x5<0)) (some (-1)) (some x5)))))
def tI:GF:=gZ nX Ca Br 0x3be925836c132c0fd87086728d827b7043230d9d91edf64ca0d920f3d5e1b4a519eaa3e673b5b5bbe8e98295613ded6a043bf60de6949cab48165072449bec8f88ebed547ccf7f895e99475fafee2a [sU,sV,tH,eM] (BF yo)
def mX(v10:Int):AA Int:=some v10
def Wn(p0:List Cb)(L1:(Int×Int)->AA Int)(x_:(Int×Int)):AA Int:=match x_ with |(v2,v3)=>br (decide (v3<(↑p0.length:Int))) (bd (at? p0 v3) fun x4=>br (x4.Kind != v2) (some (-1)) (bd (at? p0 v3) fun x5=>br (x5.Id != w64 (v2+1)) (some (-1)) (bd (at? p0 v3) fun x6=>br (x6.Bf != w64 (w64 (v2+1)+1)) (some (-1)) (bd (at? p0 v3) fun x7=>br (x7.Ci != w64 (w64 (w64 (v2+1)+1)+1)) (some (-1)) (bd (at? p0 v3) fun x8=>br (x8.BW != w64 (w64 (w64 (w64 (v2+1)+1)+1)+1)) (some (-1)) (bd (at? p0 v3) fun x9=>br (x9.DG != w64 (w64 (w64 (w64 (w64 (v2+1)+1)+1)+1)+1)) (some (-1)) (L1 ((w64 (w64 (w64 (w64 (w64 (w64 (v2+1)+1)+1)+1)+1)+1),w64 (v3+1)))))))))) (jn mX v2)
def yp(p0:List Cb)(p1:Int):AA Int:=Aw (Wn p0) big (p1,0)
def tJ:GF:=gZ [.v (.l (.st 0)),.v .i] Ca Br 0x9ff1c03fbe81a02753233890fe22bdbecc9d38601bf52eec956159d938f5fa11e8c9d8500048537dfed1f163a7bda1680b222c9214f94d17320ce3858eeb25966cc36280b8c1eff270ec3cd28028c62b7ee6c99799e2b8d7f3bc618bc96a485ec10811c933695ade66d50857a295d9dec3ac9bf484d50c3bc6170ad492199b5e9a462cf0da70a57dafa [] (BF yp)
def Wo(p0:Ay)(p1:Int):AA Int:=bd (yo p0.Av p1) fun x1=>br (decide (x1<0)) (some (-1)) (bd (yp p0.Laid x1) fun x2=>br (decide (x2<0)) (some (-1)) (some x2))
def eO:GF:=gZ Tv Ca Br 0xc127106b0804cee4a6126b85d25208173f6d1217a17a2e0bb2b4bc7c0a6dca5dd0071 [tI,tJ] (BF Wo)
end Lv
set_option maxRecDepth 100000
namespace Lv
open Go (IntKind BinOp UnOp)
open Y (YF qn qf qt qr q1 qd qm qa qo ql qL qb qi qx qp qq qc qz qe qk qK qB qw qu qj Kp wn wf wt w1 sw sq sr wm wM wo wO wl wL wk wK wz wZ wx wX wb wB wi wI wr wR wq wQ we wE wc wY wj wh cv ca cx cn ce bl)
def mY(v5:Aq):AA Aq:=some v5
def mZ(p0:Aq)(L1:(Int×Aq)->AA Aq)(x_:(Int×Aq)):AA Aq:=match x_ with |(v2,v3)=>br (decide (v2<(↑p0.Ah.length:Int))) (bd (at? p0.Ah v2) fun x4=>gd (0+List.length x4<=lim) (gd (v3.Ah.length+[[]++x4].length<=lim) (L1 ((w64 (v2+1),Aq.mk (v3.Ah++[[]++x4])))))) (jn mY v3)
def aV(p0:Aq):AA Aq:=Aw (mZ p0) big (0,Aq.mk [])
def eP:GF:=gZ Pg uI uN 0x2b85c5e41a4b4332de6eba54551979ef1f0faf67e147390c3880966195eae89d7c13128f9bac260341cc44fdceef31b38935aec1911d3bee13a13ede7404856e39fe4af3ac92d2b102960 [] (BY aV)
def yq(p0:Aa):AA Aa:=bd (VJ p0.Row) fun x1=>bd (aV p0.DW) fun x2=>some (Aa.mk p0.Ae x1 x2)
def tK:GF:=gZ Xr uJ uO 0xc8a8d4981af11666c87d4e6d22fa50b204d3a90bf5dc15d8c2ee3bb7c99e9eba7c [dk,eP] (BY yq)
def UZ:Y.YOp []:=.app 19 .i true (.tmp 16) (.tmp 18)
def Kq:Y.YOp []:=.app 15 (.st 2) true (.tmp 12) (.tmp 14)
def Fl:Y.YOp []:=.call 7 s3 [] rfl [(.tmp 6)]
def AAB:Y.BS []:=(.op 21 none [] (.st 15 (.tmp 3) (.tmp 24)) (.dr [5,6,7,8,9,10,11,12,13,14,15,16,17,18,19,20,21,22,23,24] .nil))
def AMz:=fun a=>((.op 20 none [5,8,10,13,17,21] (.alloc 3 DT) (.nl [(.cell 3 0,.i),(.cell 3 11,(.st 2)),(.cell 3 12,(.st 7)),(.cell 3 13,.i),(.cell 3 14,.i)] a)):Y.BS [])
def AI8:Y.BS []:=AMz AAB
def AM0:=fun a=>((.op 19 none [] (.build 24 DT [(0,9,(.tmp 7)),(9,1,(.tmp 9)),(10,1,(.tmp 11)),(11,1,(.tmp 15)),(13,1,(.tmp 19)),(14,1,(.tmp 23))]) (.nl [(.tmp 24 12,(.st 7))] a)):Y.BS [])
def AI9:Y.BS []:=AM0 AI8
def AJA:Y.BS []:=(.op 18 none [8,10] (.app 23 .i true (.tmp 20) (.tmp 22)) AI9)
def AJB:Y.BS []:=AM0 AAB
def gj:Y.BS []:=(.op 18 none [8,10] (.app 23 .i true (.tmp 20) (.tmp 22)) AJB)
def AJC:Y.BS []:=AMz gj
def AM2:=fun a b=>((.both 1 a b):Y.BS [])
def AAC:Y.BS []:=AM2 AJA AJC
def AM3:=fun a b c=>((.op a none [5,8,10,13,17,21] (.Bp b 0 .i []) c):Y.BS [])
def AJD:Y.BS []:=AM3 15 20 AAC
def AAD:Y.BS []:=AM3 15 20 gj
def AFo:Y.BS []:=AMz AAD
def AFp:Y.BS []:=AM2 AJD AFo
def AFq:Y.BS []:=(.op 14 none [8,10,21] UZ AFp)
def AFr:Y.BS []:=(.op 14 none [8,10,21] UZ AAC)
def Rc:Y.BS []:=(.op 14 none [8,10,21] UZ gj)
def AFs:Y.BS []:=AMz Rc
def Ys:Y.BS []:=AM2 AFr AFs
def AFt:Y.BS []:=AM3 15 20 Ys
def AFu:Y.BS []:=(.op 14 none [8,10,21] UZ AAD)
def AFv:Y.BS []:=AM3 15 20 Rc
def Yt:Y.BS []:=AM2 AFu AFv
def AFw:Y.BS []:=AMz Yt
def AFx:Y.BS []:=AM2 AFt AFw
def oW:Y.BS []:=AM2 AFq AFx
def AFy:Y.BS []:=AM3 11 16 oW
def AFz:Y.BS []:=AM3 11 16 Ys
def Yu:Y.BS []:=AM3 11 16 Rc
def AF0:Y.BS []:=AMz Yu
def oX:Y.BS []:=AM2 AFz AF0
def AF1:Y.BS []:=AM3 15 20 oX
def AF2:Y.BS []:=AM3 11 16 Yt
def AF3:Y.BS []:=AM3 15 20 Yu
def oY:Y.BS []:=AM2 AF2 AF3
def AF4:Y.BS []:=AMz oY
def AF5:Y.BS []:=AM2 AF1 AF4
def AF6:Y.BS []:=AM2 AFy AF5
def AM5:=fun a=>((.op 10 none [8,10,17,21] Kq a):Y.BS [])
def AF7:Y.BS []:=AM5 AF6
def AF8:Y.BS []:=AM5 oW
def AF9:Y.BS []:=AM5 Ys
def OC:Y.BS []:=AM5 Rc
def AGA:Y.BS []:=AMz OC
def Re:Y.BS []:=AM2 AF9 AGA
def AGB:Y.BS []:=AM3 15 20 Re
def AGC:Y.BS []:=AM5 Yt
def AGD:Y.BS []:=AM3 15 20 OC
def Rf:Y.BS []:=AM2 AGC AGD
def AGE:Y.BS []:=AMz Rf
def AGF:Y.BS []:=AM2 AGB AGE
def Yv:Y.BS []:=AM2 AF8 AGF
def AGG:Y.BS []:=AM3 11 16 Yv
def AGH:Y.BS []:=AM5 oX
def AGI:Y.BS []:=AM3 11 16 Re
def AGJ:Y.BS []:=AM5 Yu
def AGK:Y.BS []:=AM3 11 16 OC
def Rg:Y.BS []:=AM2 AGJ AGK
def AGL:Y.BS []:=AMz Rg
def AGM:Y.BS []:=AM2 AGI AGL
def Yw:Y.BS []:=AM2 AGH AGM
def AGN:Y.BS []:=AM3 15 20 Yw
def AGO:Y.BS []:=AM5 oY
def AGP:Y.BS []:=AM3 11 16 Rf
def AGQ:Y.BS []:=AM3 15 20 Rg
def AGR:Y.BS []:=AM2 AGP AGQ
def Yx:Y.BS []:=AM2 AGO AGR
def AGS:Y.BS []:=AMz Yx
def AGT:Y.BS []:=AM2 AGN AGS
def AGU:Y.BS []:=AM2 AGG AGT
def oZ:Y.BS []:=AM2 AF7 AGU
def AM6:=fun a=>((.op 7 none [5,8,10,13,17,21] (.Bp 12 0 (.st 2) []) a):Y.BS [])
def AGV:Y.BS []:=AM6 oZ
def AGW:Y.BS []:=AM6 Yv
def AGX:Y.BS []:=AM6 Re
def Rh:Y.BS []:=AM6 OC
def AGY:Y.BS []:=AMz Rh
def Yy:Y.BS []:=AM2 AGX AGY
def AGZ:Y.BS []:=AM3 15 20 Yy
def AGa:Y.BS []:=AM6 Rf
def AGb:Y.BS []:=AM3 15 20 Rh
def Yz:Y.BS []:=AM2 AGa AGb
def AGc:Y.BS []:=AMz Yz
def AGd:Y.BS []:=AM2 AGZ AGc
def oe:Y.BS []:=AM2 AGW AGd
def AGe:Y.BS []:=AM3 11 16 oe
def AGf:Y.BS []:=AM6 Yw
def AGg:Y.BS []:=AM3 11 16 Yy
def AGh:Y.BS []:=AM6 Rg
def AGi:Y.BS []:=AM3 11 16 Rh
def Y0:Y.BS []:=AM2 AGh AGi
def AGj:Y.BS []:=AMz Y0
def AGk:Y.BS []:=AM2 AGg AGj
def og:Y.BS []:=AM2 AGf AGk
def AGl:Y.BS []:=AM3 15 20 og
def AGm:Y.BS []:=AM6 Yx
def AGn:Y.BS []:=AM3 11 16 Yz
def AGo:Y.BS []:=AM3 15 20 Y0
def AGp:Y.BS []:=AM2 AGn AGo
def oh:Y.BS []:=AM2 AGm AGp
def AGq:Y.BS []:=AMz oh
def AGr:Y.BS []:=AM2 AGl AGq
def AGs:Y.BS []:=AM2 AGe AGr
def AGt:Y.BS []:=AM2 AGV AGs
def AM7:=fun a=>((.op 2 none [8,10,13,17,21] Fl a):Y.BS [])
def ABT:Y.BS []:=AM7 AGt
def ABU:Y.BS []:=AM7 oZ
def ABV:Y.BS []:=AM7 Yv
def ABW:Y.BS []:=AM7 Re
def Og:Y.BS []:=AM7 OC
def ABX:Y.BS []:=AMz Og
def TH:Y.BS []:=AM2 ABW ABX
def ABY:Y.BS []:=AM3 15 20 TH
def ABZ:Y.BS []:=AM7 Rf
def ABa:Y.BS []:=AM3 15 20 Og
def TI:Y.BS []:=AM2 ABZ ABa
def ABb:Y.BS []:=AMz TI
def ABc:Y.BS []:=AM2 ABY ABb
def b7:Y.BS []:=AM2 ABV ABc
def ABd:Y.BS []:=AM3 11 16 b7
def ABe:Y.BS []:=AM7 Yw
def ABf:Y.BS []:=AM3 11 16 TH
def ABg:Y.BS []:=AM7 Rg
def ABh:Y.BS []:=AM3 11 16 Og
def TJ:Y.BS []:=AM2 ABg ABh
def ABi:Y.BS []:=AMz TJ
def ABj:Y.BS []:=AM2 ABf ABi
def b8:Y.BS []:=AM2 ABe ABj
def ABk:Y.BS []:=AM3 15 20 b8
def ABl:Y.BS []:=AM7 Yx
def ABm:Y.BS []:=AM3 11 16 TI
def ABn:Y.BS []:=AM3 15 20 TJ
def ABo:Y.BS []:=AM2 ABm ABn
def b9:Y.BS []:=AM2 ABl ABo
def ABp:Y.BS []:=AMz b9
def ABq:Y.BS []:=AM2 ABk ABp
def ABr:Y.BS []:=AM2 ABd ABq
def ABs:Y.BS []:=AM2 ABU ABr
def ABt:Y.BS []:=AM6 ABs
def ABu:Y.BS []:=AM7 oe
def ABv:Y.BS []:=AM6 b7
def ABw:Y.BS []:=AM7 Yy
def ABx:Y.BS []:=AM6 TH
def ABy:Y.BS []:=AM7 Rh
def ABz:Y.BS []:=AM6 Og
def TK:Y.BS []:=AM2 ABy ABz
def AB0:Y.BS []:=AMz TK
def AB1:Y.BS []:=AM2 ABx AB0
def cA:Y.BS []:=AM2 ABw AB1
def AB2:Y.BS []:=AM3 15 20 cA
def AB3:Y.BS []:=AM7 Yz
def AB4:Y.BS []:=AM6 TI
def AB5:Y.BS []:=AM3 15 20 TK
def AB6:Y.BS []:=AM2 AB4 AB5
def cB:Y.BS []:=AM2 AB3 AB6
def AB7:Y.BS []:=AMz cB
def AB8:Y.BS []:=AM2 AB2 AB7
def AB9:Y.BS []:=AM2 ABv AB8
def ACA:Y.BS []:=AM2 ABu AB9
def ACB:Y.BS []:=AM3 11 16 ACA
def ACC:Y.BS []:=AM7 og
def ACD:Y.BS []:=AM6 b8
def ACE:Y.BS []:=AM3 11 16 cA
def ACF:Y.BS []:=AM7 Y0
def ACG:Y.BS []:=AM6 TJ
def ACH:Y.BS []:=AM3 11 16 TK
def ACI:Y.BS []:=AM2 ACG ACH
def cC:Y.BS []:=AM2 ACF ACI
def ACJ:Y.BS []:=AMz cC
def ACK:Y.BS []:=AM2 ACE ACJ
def ACL:Y.BS []:=AM2 ACD ACK
def ACN:Y.BS []:=AM2 ACC ACL
def ACO:Y.BS []:=AM3 15 20 ACN
def ACP:Y.BS []:=AM7 oh
def ACQ:Y.BS []:=AM6 b9
def ACR:Y.BS []:=AM3 11 16 cB
def ACS:Y.BS []:=AM3 15 20 cC
def ACT:Y.BS []:=AM2 ACR ACS
def ACU:Y.BS []:=AM2 ACQ ACT
def ACV:Y.BS []:=AM2 ACP ACU
def ACW:Y.BS []:=AMz ACV
def ACX:Y.BS []:=AM2 ACO ACW
def ACY:Y.BS []:=AM2 ACB ACX
def ACZ:Y.BS []:=AM2 ABt ACY
def ACa:Y.BS []:=AM2 ABT ACZ
def ACb:Y.BS []:=(.op 17 none [] (.ld 22 none (.tmp 21)) ACa)
def ACc:Y.BS []:=(.op 16 none [] (.fa 21 14 (.tmp 1)) ACb)
def ACd:Y.BS []:=(.op 13 none [] (.ld 18 none (.tmp 17)) ACc)
def ACe:Y.BS []:=(.op 12 none [] (.fa 17 13 (.tmp 1)) ACd)
def ACf:Y.BS []:=(.op 9 none [] (.ld 14 none (.tmp 13)) ACe)
def ACg:Y.BS []:=(.op 8 none [] (.fa 13 11 (.tmp 1)) ACf)
def ACh:Y.BS []:=(.op 6 none [] (.ld 11 none (.tmp 10)) ACg)
def ACi:Y.BS []:=(.op 5 none [] (.fa 10 10 (.tmp 1)) ACh)
def ACj:Y.BS []:=(.op 4 none [] (.ld 9 none (.tmp 8)) ACi)
def ACk:Y.BS []:=(.op 3 none [] (.fa 8 9 (.tmp 1)) ACj)
def ACl:Y.BS []:=(.op 1 none [] (.ld 6 (some 9) (.tmp 5)) ACk)
def ACm:Y.BS []:=(.op 0 none [] (.fa 5 0 (.tmp 1)) ACl)
def AMX:YF:=⟨[],[.v (.st 8)],[],.ret [(.st 8)],[.cell 2 (some 15)],sq [qu 1 0,.alloc 2 DT,.RT [(.cell 2 0,.i),(.cell 2 11,(.st 2)),(.cell 2 12,(.st 7)),(.cell 2 13,.i),(.cell 2 14,.i)]] [1,2] (.seq (.SZ ACm [1,2,3]) (.join [cx 3 (.st 8)] (sq [qK 4 0] (Kp 30) (bl 0 [cv 4 .i,cx 3 (.st 8)] (.seq (sw 25 [wm 4,wo 12 1,wL,wZ,wB .lss 25] (Kp 536870942) (ce 29 (Kp 30) [2,3] 0)) (.seq (.block 1 (.SZ (qd 0 [wn 32 [wo 12 3,wL,wo 12 1,wL,wm 4,wE (.st 7) 35,wK 7]] (.op 7 none [32] (.call 39 tK [] rfl [(.tmp 38)]) (.op 8 none [32] (.Bp 40 1 (.st 7) [(0,(.tmp 39))]) (qd 9 [wn 41 [wh (.app · (.st 7) false (.tmp 33) (.tmp 40)),wo 12 3],qn [qw 1 42 41]] .nil)))) [1,2,3,4])) (qr [wn 30 [wm 4,wI .add 1],qn [qa 4 31]] (Kp 30)))))) (sq [qL 43 15 3,qw 15 2 43] [2] .ret)))⟩
def CV(p0:AH)(x1:AW)(X2:AA AH):AA AH:=gd (0+p0.BP.length<=lim) (Bt x1 x1 (ev6 p0.Now p0.A4 ([]++p0.AK) ([]:List Aa) ([]++p0.BO) ([]++p0.BP) (X2)))
def Bs(p0:AH)(x1:AW)(X4:AA AH):AA AH:=gd (0+p0.BO.length<=lim) (gd (0+p0.BP.length<=lim) (Bt x1 x1 (ev6 p0.Now p0.A4 ([]++p0.AK) ([]:List Aa) ([]++p0.BO) ([]++p0.BP) (X4))))
def mb(p0:AH)(x1:AW)(X5:AA AH):AA AH:=gd (0+p0.BO.length<=lim) (gd (0+p0.BP.length<=lim) (alt (Bs p0 x1) (Bt x1 x1 (ev6 p0.Now p0.A4 ([]++p0.AK) ([]:List Aa) ([]++p0.BO) ([]++p0.BP) (X5)))))
def I4(p0:AH)(x1:AW)(X3:AA AH):AA AH:=gd (0+p0.BO.length<=lim) (gd (0+p0.BP.length<=lim) (alt (CV p0 x1) (alt (Bs p0 x1) (alt (mb p0 x1) (Bt x1 x1 (ev6 p0.Now p0.A4 ([]++p0.AK) ([]:List Aa) ([]++p0.BO) ([]++p0.BP) (X3)))))))
def mc(p0:AH)(x1:AW)(X7:AA AH):AA AH:=gd (0+p0.BO.length<=lim) (gd (0+p0.BP.length<=lim) (alt (Bs p0 x1) (alt (Bs p0 x1) (Bt x1 x1 (ev6 p0.Now p0.A4 ([]++p0.AK) ([]:List Aa) ([]++p0.BO) ([]++p0.BP) (X7))))))
def Wp(p0:AH)(x1:AW)(X6:AA AH):AA AH:=gd (0+p0.BO.length<=lim) (gd (0+p0.BP.length<=lim) (alt (CV p0 x1) (alt (Bs p0 x1) (alt (Bs p0 x1) (alt (mc p0 x1) (Bt x1 x1 (ev6 p0.Now p0.A4 ([]++p0.AK) ([]:List Aa) ([]++p0.BO) ([]++p0.BP) (X6))))))))
def CM(p0:AH)(x1:AW)(X10:AA AH):AA AH:=gd (0+p0.AK.length<=lim) (gd (0+p0.BO.length<=lim) (gd (0+p0.BP.length<=lim) (Bt x1 x1 (ev6 p0.Now p0.A4 ([]++p0.AK) ([]:List Aa) ([]++p0.BO) ([]++p0.BP) (X10)))))
def aW(p0:AH)(x1:AW)(X11:AA AH):AA AH:=gd (0+p0.AK.length<=lim) (gd (0+p0.BO.length<=lim) (gd (0+p0.BP.length<=lim) (alt (Bs p0 x1) (alt (CM p0 x1) (Bt x1 x1 (ev6 p0.Now p0.A4 ([]++p0.AK) ([]:List Aa) ([]++p0.BO) ([]++p0.BP) (X11)))))))
def LY(p0:AH)(x1:AW)(X9:AA AH):AA AH:=gd (0+p0.AK.length<=lim) (gd (0+p0.BO.length<=lim) (gd (0+p0.BP.length<=lim) (alt (CV p0 x1) (alt (Bs p0 x1) (alt (CM p0 x1) (alt (aW p0 x1) (Bt x1 x1 (ev6 p0.Now p0.A4 ([]++p0.AK) ([]:List Aa) ([]++p0.BO) ([]++p0.BP) (X9)))))))))
def SK(p0:AH)(x1:AW)(X14:AA AH):AA AH:=gd (0+p0.AK.length<=lim) (gd (0+p0.BO.length<=lim) (gd (0+p0.BP.length<=lim) (alt (CM p0 x1) (Bt x1 x1 (ev6 p0.Now p0.A4 ([]++p0.AK) ([]:List Aa) ([]++p0.BO) ([]++p0.BP) (X14))))))
def Jo(p0:AH)(x1:AW)(X13:AA AH):AA AH:=gd (0+p0.AK.length<=lim) (gd (0+p0.BO.length<=lim) (gd (0+p0.BP.length<=lim) (alt (CV p0 x1) (alt (Bs p0 x1) (alt (CM p0 x1) (alt (SK p0 x1) (Bt x1 x1 (ev6 p0.Now p0.A4 ([]++p0.AK) ([]:List Aa) ([]++p0.BO) ([]++p0.BP) (X13)))))))))
def Jp(p0:AH)(x1:AW)(X16:AA AH):AA AH:=gd (0+p0.AK.length<=lim) (gd (0+p0.BO.length<=lim) (gd (0+p0.BP.length<=lim) (alt (Bs p0 x1) (alt (CM p0 x1) (alt (SK p0 x1) (Bt x1 x1 (ev6 p0.Now p0.A4 ([]++p0.AK) ([]:List Aa) ([]++p0.BO) ([]++p0.BP) (X16))))))))
def aY(p0:AH)(x1:AW)(X15:AA AH):AA AH:=gd (0+p0.AK.length<=lim) (gd (0+p0.BO.length<=lim) (gd (0+p0.BP.length<=lim) (alt (Bs p0 x1) (alt (Bs p0 x1) (alt (Jp p0 x1) (Bt x1 x1 (ev6 p0.Now p0.A4 ([]++p0.AK) ([]:List Aa) ([]++p0.BO) ([]++p0.BP) (X15))))))))
def aX(p0:AH)(x1:AW)(X12:AA AH):AA AH:=gd (0+p0.AK.length<=lim) (gd (0+p0.BO.length<=lim) (gd (0+p0.BP.length<=lim) (alt (CV p0 x1) (alt (Bs p0 x1) (alt (Bs p0 x1) (alt (Jo p0 x1) (alt (aY p0 x1) (Bt x1 x1 (ev6 p0.Now p0.A4 ([]++p0.AK) ([]:List Aa) ([]++p0.BO) ([]++p0.BP) (X12))))))))))
def Wq(p0:AH)(x1:AW)(X8:AA AH):AA AH:=gd (0+p0.AK.length<=lim) (gd (0+p0.BO.length<=lim) (gd (0+p0.BP.length<=lim) (alt (CV p0 x1) (alt (CV p0 x1) (alt (I4 p0 x1) (alt (LY p0 x1) (alt (aX p0 x1) (Bt x1 x1 (ev6 p0.Now p0.A4 ([]++p0.AK) ([]:List Aa) ([]++p0.BO) ([]++p0.BP) (X8))))))))))
def aa(p0:AH)(x1:AW)(X19:AA AH):AA AH:=gd (0+p0.AK.length<=lim) (gd (0+p0.BO.length<=lim) (gd (0+p0.BP.length<=lim) (alt (Bs p0 x1) (alt (CM p0 x1) (alt (CM p0 x1) (Bt x1 x1 (ev6 p0.Now p0.A4 ([]++p0.AK) ([]:List Aa) ([]++p0.BO) ([]++p0.BP) (X19))))))))
def SL(p0:AH)(x1:AW)(X18:AA AH):AA AH:=gd (0+p0.AK.length<=lim) (gd (0+p0.BO.length<=lim) (gd (0+p0.BP.length<=lim) (alt (CV p0 x1) (alt (Bs p0 x1) (alt (CM p0 x1) (alt (CM p0 x1) (alt (aa p0 x1) (Bt x1 x1 (ev6 p0.Now p0.A4 ([]++p0.AK) ([]:List Aa) ([]++p0.BO) ([]++p0.BP) (X18))))))))))
def SN(p0:AH)(x1:AW)(X22:AA AH):AA AH:=gd (0+p0.AK.length<=lim) (gd (0+p0.BO.length<=lim) (gd (0+p0.BP.length<=lim) (alt (CM p0 x1) (alt (CM p0 x1) (Bt x1 x1 (ev6 p0.Now p0.A4 ([]++p0.AK) ([]:List Aa) ([]++p0.BO) ([]++p0.BP) (X22)))))))
def SM(p0:AH)(x1:AW)(X21:AA AH):AA AH:=gd (0+p0.AK.length<=lim) (gd (0+p0.BO.length<=lim) (gd (0+p0.BP.length<=lim) (alt (CV p0 x1) (alt (Bs p0 x1) (alt (CM p0 x1) (alt (CM p0 x1) (alt (SN p0 x1) (Bt x1 x1 (ev6 p0.Now p0.A4 ([]++p0.AK) ([]:List Aa) ([]++p0.BO) ([]++p0.BP) (X21))))))))))
def SO(p0:AH)(x1:AW)(X24:AA AH):AA AH:=gd (0+p0.AK.length<=lim) (gd (0+p0.BO.length<=lim) (gd (0+p0.BP.length<=lim) (alt (Bs p0 x1) (alt (CM p0 x1) (alt (CM p0 x1) (alt (SN p0 x1) (Bt x1 x1 (ev6 p0.Now p0.A4 ([]++p0.AK) ([]:List Aa) ([]++p0.BO) ([]++p0.BP) (X24)))))))))
def af(p0:AH)(x1:AW)(X23:AA AH):AA AH:=gd (0+p0.AK.length<=lim) (gd (0+p0.BO.length<=lim) (gd (0+p0.BP.length<=lim) (alt (Bs p0 x1) (alt (Bs p0 x1) (alt (Jp p0 x1) (alt (SO p0 x1) (Bt x1 x1 (ev6 p0.Now p0.A4 ([]++p0.AK) ([]:List Aa) ([]++p0.BO) ([]++p0.BP) (X23)))))))))
def ae(p0:AH)(x1:AW)(X20:AA AH):AA AH:=gd (0+p0.AK.length<=lim) (gd (0+p0.BO.length<=lim) (gd (0+p0.BP.length<=lim) (alt (CV p0 x1) (alt (Bs p0 x1) (alt (Bs p0 x1) (alt (Jo p0 x1) (alt (SM p0 x1) (alt (af p0 x1) (Bt x1 x1 (ev6 p0.Now p0.A4 ([]++p0.AK) ([]:List Aa) ([]++p0.BO) ([]++p0.BP) (X20)))))))))))
def aZ(p0:AH)(x1:AW)(X17:AA AH):AA AH:=gd (0+p0.AK.length<=lim) (gd (0+p0.BO.length<=lim) (gd (0+p0.BP.length<=lim) (alt (CV p0 x1) (alt (CV p0 x1) (alt (I4 p0 x1) (alt (LY p0 x1) (alt (SL p0 x1) (alt (ae p0 x1) (Bt x1 x1 (ev6 p0.Now p0.A4 ([]++p0.AK) ([]:List Aa) ([]++p0.BO) ([]++p0.BP) (X17)))))))))))
def GU(p0:AH)(x30:AW)(X31:AA AH):AA AH:=bd (FI p0.AR) fun x32=>gd (0+p0.AK.length<=lim) (gd (0+p0.BO.length<=lim) (gd (0+p0.BP.length<=lim) (Bt x30 x32 (ev6 p0.Now p0.A4 ([]++p0.AK) ([]:List Aa) ([]++p0.BO) ([]++p0.BP) (X31)))))
def aj(p0:AH)(x30:AW)(X33:AA AH):AA AH:=bd (FI p0.AR) fun x34=>gd (0+p0.AK.length<=lim) (gd (0+p0.BO.length<=lim) (gd (0+p0.BP.length<=lim) (alt (Bs p0 x34) (alt (CM p0 x34) (alt (GU p0 x34) (Bt x30 x34 (ev6 p0.Now p0.A4 ([]++p0.AK) ([]:List Aa) ([]++p0.BO) ([]++p0.BP) (X33))))))))
def SP(p0:AH)(x28:AW)(X29:AA AH):AA AH:=bd (FI p0.AR) fun x30=>gd (0+p0.AK.length<=lim) (gd (0+p0.BO.length<=lim) (gd (0+p0.BP.length<=lim) (alt (CV p0 x30) (alt (Bs p0 x30) (alt (CM p0 x30) (alt (GU p0 x30) (alt (aj p0 x30) (Bt x28 x30 (ev6 p0.Now p0.A4 ([]++p0.AK) ([]:List Aa) ([]++p0.BO) ([]++p0.BP) (X29))))))))))
def SR(p0:AH)(x38:AW)(X39:AA AH):AA AH:=bd (FI p0.AR) fun x40=>gd (0+p0.AK.length<=lim) (gd (0+p0.BO.length<=lim) (gd (0+p0.BP.length<=lim) (alt (CM p0 x40) (alt (GU p0 x40) (Bt x38 x40 (ev6 p0.Now p0.A4 ([]++p0.AK) ([]:List Aa) ([]++p0.BO) ([]++p0.BP) (X39)))))))
def SQ(p0:AH)(x36:AW)(X37:AA AH):AA AH:=bd (FI p0.AR) fun x38=>gd (0+p0.AK.length<=lim) (gd (0+p0.BO.length<=lim) (gd (0+p0.BP.length<=lim) (alt (CV p0 x38) (alt (Bs p0 x38) (alt (CM p0 x38) (alt (GU p0 x38) (alt (SR p0 x38) (Bt x36 x38 (ev6 p0.Now p0.A4 ([]++p0.AK) ([]:List Aa) ([]++p0.BO) ([]++p0.BP) (X37))))))))))
def SS(p0:AH)(x42:AW)(X43:AA AH):AA AH:=bd (FI p0.AR) fun x44=>gd (0+p0.AK.length<=lim) (gd (0+p0.BO.length<=lim) (gd (0+p0.BP.length<=lim) (alt (Bs p0 x44) (alt (CM p0 x44) (alt (GU p0 x44) (alt (SR p0 x44) (Bt x42 x44 (ev6 p0.Now p0.A4 ([]++p0.AK) ([]:List Aa) ([]++p0.BO) ([]++p0.BP) (X43)))))))))
def aq(p0:AH)(x36:AW)(X41:AA AH):AA AH:=bd (FI p0.AR) fun x42=>gd (0+p0.AK.length<=lim) (gd (0+p0.BO.length<=lim) (gd (0+p0.BP.length<=lim) (alt (Bs p0 x42) (alt (Bs p0 x42) (alt (Jp p0 x42) (alt (SS p0 x42) (Bt x36 x42 (ev6 p0.Now p0.A4 ([]++p0.AK) ([]:List Aa) ([]++p0.BO) ([]++p0.BP) (X41)))))))))
def ak(p0:AH)(x28:AW)(X35:AA AH):AA AH:=bd (FI p0.AR) fun x36=>gd (0+p0.AK.length<=lim) (gd (0+p0.BO.length<=lim) (gd (0+p0.BP.length<=lim) (alt (CV p0 x36) (alt (Bs p0 x36) (alt (Bs p0 x36) (alt (Jo p0 x36) (alt (SQ p0 x36) (alt (aq p0 x36) (Bt x28 x36 (ev6 p0.Now p0.A4 ([]++p0.AK) ([]:List Aa) ([]++p0.BO) ([]++p0.BP) (X35)))))))))))
def ai(p0:AH)(x26:AW)(X27:AA AH):AA AH:=bd (FI p0.AR) fun x28=>gd (0+p0.AK.length<=lim) (gd (0+p0.BO.length<=lim) (gd (0+p0.BP.length<=lim) (alt (CV p0 x28) (alt (CV p0 x28) (alt (I4 p0 x28) (alt (LY p0 x28) (alt (SP p0 x28) (alt (ak p0 x28) (Bt x26 x28 (ev6 p0.Now p0.A4 ([]++p0.AK) ([]:List Aa) ([]++p0.BO) ([]++p0.BP) (X27)))))))))))
def OS(p0:AH)(x52:AW)(X53:AA AH):AA AH:=bd (FI p0.AR) fun x54=>gd (0+p0.AK.length<=lim) (gd (0+p0.BO.length<=lim) (gd (0+p0.BP.length<=lim) (alt (GU p0 x54) (Bt x52 x54 (ev6 p0.Now p0.A4 ([]++p0.AK) ([]:List Aa) ([]++p0.BO) ([]++p0.BP) (X53))))))
def SU(p0:AH)(x50:AW)(X51:AA AH):AA AH:=bd (FI p0.AR) fun x52=>gd (0+p0.AK.length<=lim) (gd (0+p0.BO.length<=lim) (gd (0+p0.BP.length<=lim) (alt (CV p0 x52) (alt (Bs p0 x52) (alt (CM p0 x52) (alt (GU p0 x52) (alt (OS p0 x52) (Bt x50 x52 (ev6 p0.Now p0.A4 ([]++p0.AK) ([]:List Aa) ([]++p0.BO) ([]++p0.BP) (X51))))))))))
def SV(p0:AH)(x56:AW)(X57:AA AH):AA AH:=bd (FI p0.AR) fun x58=>gd (0+p0.AK.length<=lim) (gd (0+p0.BO.length<=lim) (gd (0+p0.BP.length<=lim) (alt (Bs p0 x58) (alt (CM p0 x58) (alt (GU p0 x58) (alt (OS p0 x58) (Bt x56 x58 (ev6 p0.Now p0.A4 ([]++p0.AK) ([]:List Aa) ([]++p0.BO) ([]++p0.BP) (X57)))))))))
def aw(p0:AH)(x50:AW)(X55:AA AH):AA AH:=bd (FI p0.AR) fun x56=>gd (0+p0.AK.length<=lim) (gd (0+p0.BO.length<=lim) (gd (0+p0.BP.length<=lim) (alt (Bs p0 x56) (alt (CM p0 x56) (alt (CM p0 x56) (alt (SV p0 x56) (Bt x50 x56 (ev6 p0.Now p0.A4 ([]++p0.AK) ([]:List Aa) ([]++p0.BO) ([]++p0.BP) (X55)))))))))
def av(p0:AH)(x48:AW)(X49:AA AH):AA AH:=bd (FI p0.AR) fun x50=>gd (0+p0.AK.length<=lim) (gd (0+p0.BO.length<=lim) (gd (0+p0.BP.length<=lim) (alt (CV p0 x50) (alt (Bs p0 x50) (alt (CM p0 x50) (alt (CM p0 x50) (alt (SU p0 x50) (alt (aw p0 x50) (Bt x48 x50 (ev6 p0.Now p0.A4 ([]++p0.AK) ([]:List Aa) ([]++p0.BO) ([]++p0.BP) (X49)))))))))))
def au(p0:AH)(x46:AW)(X47:AA AH):AA AH:=bd (FI p0.AR) fun x48=>gd (0+p0.AK.length<=lim) (gd (0+p0.BO.length<=lim) (gd (0+p0.BP.length<=lim) (alt (CV p0 x48) (alt (CV p0 x48) (alt (I4 p0 x48) (alt (LY p0 x48) (alt (SP p0 x48) (alt (av p0 x48) (Bt x46 x48 (ev6 p0.Now p0.A4 ([]++p0.AK) ([]:List Aa) ([]++p0.BO) ([]++p0.BP) (X47)))))))))))
def bB(p0:AH)(x66:AW)(X67:AA AH):AA AH:=bd (FI p0.AR) fun x68=>gd (0+p0.AK.length<=lim) (gd (0+p0.BO.length<=lim) (gd (0+p0.BP.length<=lim) (alt (CM p0 x68) (alt (GU p0 x68) (alt (OS p0 x68) (Bt x66 x68 (ev6 p0.Now p0.A4 ([]++p0.AK) ([]:List Aa) ([]++p0.BO) ([]++p0.BP) (X67))))))))
def SW(p0:AH)(x64:AW)(X65:AA AH):AA AH:=bd (FI p0.AR) fun x66=>gd (0+p0.AK.length<=lim) (gd (0+p0.BO.length<=lim) (gd (0+p0.BP.length<=lim) (alt (CM p0 x66) (alt (CM p0 x66) (alt (bB p0 x66) (Bt x64 x66 (ev6 p0.Now p0.A4 ([]++p0.AK) ([]:List Aa) ([]++p0.BO) ([]++p0.BP) (X65))))))))
def az(p0:AH)(x62:AW)(X63:AA AH):AA AH:=bd (FI p0.AR) fun x64=>gd (0+p0.AK.length<=lim) (gd (0+p0.BO.length<=lim) (gd (0+p0.BP.length<=lim) (alt (CV p0 x64) (alt (Bs p0 x64) (alt (CM p0 x64) (alt (CM p0 x64) (alt (SU p0 x64) (alt (SW p0 x64) (Bt x62 x64 (ev6 p0.Now p0.A4 ([]++p0.AK) ([]:List Aa) ([]++p0.BO) ([]++p0.BP) (X63)))))))))))
def ay(p0:AH)(x60:AW)(X61:AA AH):AA AH:=bd (FI p0.AR) fun x62=>gd (0+p0.AK.length<=lim) (gd (0+p0.BO.length<=lim) (gd (0+p0.BP.length<=lim) (alt (CV p0 x62) (alt (Bs p0 x62) (alt (Bs p0 x62) (alt (Jo p0 x62) (alt (SQ p0 x62) (alt (az p0 x62) (Bt x60 x62 (ev6 p0.Now p0.A4 ([]++p0.AK) ([]:List Aa) ([]++p0.BO) ([]++p0.BP) (X61)))))))))))
def bE(p0:AH)(x72:AW)(X73:AA AH):AA AH:=bd (FI p0.AR) fun x74=>gd (0+p0.AK.length<=lim) (gd (0+p0.BO.length<=lim) (gd (0+p0.BP.length<=lim) (alt (Bs p0 x74) (alt (CM p0 x74) (alt (CM p0 x74) (alt (SV p0 x74) (alt (SW p0 x74) (Bt x72 x74 (ev6 p0.Now p0.A4 ([]++p0.AK) ([]:List Aa) ([]++p0.BO) ([]++p0.BP) (X73))))))))))
def bD(p0:AH)(x70:AW)(X71:AA AH):AA AH:=bd (FI p0.AR) fun x72=>gd (0+p0.AK.length<=lim) (gd (0+p0.BO.length<=lim) (gd (0+p0.BP.length<=lim) (alt (Bs p0 x72) (alt (Bs p0 x72) (alt (Jp p0 x72) (alt (SS p0 x72) (alt (bE p0 x72) (Bt x70 x72 (ev6 p0.Now p0.A4 ([]++p0.AK) ([]:List Aa) ([]++p0.BO) ([]++p0.BP) (X71))))))))))
def bC(p0:AH)(x60:AW)(X69:AA AH):AA AH:=bd (FI p0.AR) fun x70=>gd (0+p0.AK.length<=lim) (gd (0+p0.BO.length<=lim) (gd (0+p0.BP.length<=lim) (alt (Bs p0 x70) (alt (Bs p0 x70) (alt (Jp p0 x70) (alt (SO p0 x70) (alt (bD p0 x70) (Bt x60 x70 (ev6 p0.Now p0.A4 ([]++p0.AK) ([]:List Aa) ([]++p0.BO) ([]++p0.BP) (X69))))))))))
def ax(p0:AH)(x46:AW)(X59:AA AH):AA AH:=bd (FI p0.AR) fun x60=>gd (0+p0.AK.length<=lim) (gd (0+p0.BO.length<=lim) (gd (0+p0.BP.length<=lim) (alt (CV p0 x60) (alt (Bs p0 x60) (alt (Bs p0 x60) (alt (Jo p0 x60) (alt (SM p0 x60) (alt (ay p0 x60) (alt (bC p0 x60) (Bt x46 x60 (ev6 p0.Now p0.A4 ([]++p0.AK) ([]:List Aa) ([]++p0.BO) ([]++p0.BP) (X59))))))))))))
def ar(p0:AH)(x26:AW)(X45:AA AH):AA AH:=bd (FI p0.AR) fun x46=>gd (0+p0.AK.length<=lim) (gd (0+p0.BO.length<=lim) (gd (0+p0.BP.length<=lim) (alt (CV p0 x46) (alt (CV p0 x46) (alt (I4 p0 x46) (alt (LY p0 x46) (alt (SL p0 x46) (alt (au p0 x46) (alt (ax p0 x46) (Bt x26 x46 (ev6 p0.Now p0.A4 ([]++p0.AK) ([]:List Aa) ([]++p0.BO) ([]++p0.BP) (X45))))))))))))
def ag(p0:AH)(x1:AW)(X25:AA AH):AA AH:=bd (FI p0.AR) fun x26=>gd (0+p0.AK.length<=lim) (gd (0+p0.BO.length<=lim) (gd (0+p0.BP.length<=lim) (alt (CV p0 x26) (alt (CV p0 x26) (alt (I4 p0 x26) (alt (Wp p0 x26) (alt (Wq p0 x26) (alt (ai p0 x26) (alt (ar p0 x26) (Bt x1 x26 (ev6 p0.Now p0.A4 ([]++p0.AK) ([]:List Aa) ([]++p0.BO) ([]++p0.BP) (X25))))))))))))
def bF(v80:AH):AA AH:=some v80
def SX(p0:AH)(L75:(Int×AH)->AA AH)(x_:(Int×AH)):AA AH:=match x_ with |(v76,v77)=>br (decide (v76<(↑p0.Ap.length:Int))) (bd (at? p0.Ap v76) fun x78=>bd (yq x78) fun x79=>gd (v77.Ap.length+[x79].length<=lim) (L75 ((w64 (v76+1),AH.mk v77.AR v77.Now v77.A4 v77.AK (v77.Ap++[x79]) v77.BO v77.BP)))) (jn bF v77)
def ma(p0:AH):AA AH:=bd (FI p0.AR) fun x1=>gd (0+p0.AK.length<=lim) (gd (0+p0.BO.length<=lim) (gd (0+p0.BP.length<=lim) (alt (CV p0 x1) (alt (CV p0 x1) (alt (I4 p0 x1) (alt (Wp p0 x1) (alt (Wq p0 x1) (alt (aZ p0 x1) (alt (ag p0 x1) (Aw (SX p0) big ((0,AH.mk x1 p0.Now p0.A4 ([]++p0.AK) [] ([]++p0.BO) ([]++p0.BP)))))))))))))
def tL:GF:=AMX.GD (BY ma)
def bG(p0:Ay):AA Ay:=bd (ma p0.Av) fun x1=>gd (0+p0.Laid.length<=lim) (bd (ma p0.Av) fun x2=>gd (0+p0.Laid.length<=lim) (iY x1 x2 (iZ p0.Bu p0.Bu (ev2 p0.Seq ([]++p0.Laid) (some (Ay.mk x1 p0.Bu p0.Seq ([]++p0.Laid)))))))
def eQ:GF:=gZ Xu uL uP 0x885267765cbba0f21faff6c079c5840ae5ec7acd21da1d86a7c7d68e4f8572fe2937a28f01296682a87c53d4595e24c0d499d19390aa545e99ff3cbc9578390bcd99b6558bce9decd7685bb99002c61315becb6a4886df7df221b4f69cda [tL] (BY bG)
def Wr(p0:Int)(p1:List UInt8)(v2:Bool):AA (List UInt8):=br v2 (some []) (bd (Vu p0) fun x3=>gd (List.length x3+p1.length<=LA) (bd (lL (x3++p1)) fun x4=>bd (lO x4) fun x5=>gd (List.length x5+(x3++p1).length<=LA) (bd (Vu ((↑(x5++(x3++p1)).length:Int))) fun x6=>gd (List.length x6+(x5++(x3++p1)).length<=LA) (some (x6++(x5++(x3++p1)))))))
def yr(p0:Int)(p1:List UInt8):AA (List UInt8):=bd (D9 p0 1 1000000) fun x1=>br (!x1) (jn (Wr p0 p1) true) (bd (D9 (↑p1.length:Int) 1 60) fun x7=>jn (Wr p0 p1) (!x7))
def tM:GF:=gZ [.v .i,.v .s] Nu Br 0x2ae97b85d071187e4b101de7eec510d1a889f1f0371fc18949453086c6c285b4f6352acdf82a5f3e1f97b6d05be29d0ae2073db24adb [G8,eA,eG,eH] (BF yr) [.Je 22 (.tmp 21)]
def Ws(p0:B2)(p1:List UInt8)(v2:Bool):AA (B2×Bool):=br v2 (some (p0,false)) (gd (p0.Data.length+p1.length<=LA) (some ((B2.mk (p0.Data++p1) p0.Safe,true))))
def yt(p0:B2)(p1:List UInt8):AA (B2×Bool):=bd (Ox p0) fun x1=>br (!x1) (jn (Ws p0 p1) true) (jn (Ws p0 p1) (decide ((↑p1.length:Int)>w64 (20000-(↑p0.Data.length:Int)))))
def tN:GF:=gZ [.v (.st 9),.v .s] fB fG 0x54d54372583ff9924a0ab77490c3894b1f6c2384ddf2e3de4b26b7047be5103a53f1f890cb41ca9e29c076603b491facfbc27 [PV] (BF yt)
def ADy(p0:List Ac):AA (List Ac):=gd (0+p0.length<=lim) (some p0)
def tO:GF:=gZ Xq Xw CE 0x242d26b6ec4bd4cf23b [] (BY ADy)
def me(v5:Aq):AA Aq:=some v5
def mf(p0:Aq)(L1:(Int×Aq)->AA Aq)(x_:(Int×Aq)):AA Aq:=match x_ with |(v2,v3)=>br (decide (v2<(↑p0.Ah.length:Int))) (bd (at? p0.Ah v2) fun x4=>gd (0+List.length x4<=lim) (gd (v3.Ah.length+[x4].length<=lim) (L1 ((w64 (v2+1),Aq.mk (v3.Ah++[x4])))))) (jn me v3)
def bH(p0:Aq):AA Aq:=Aw (mf p0) big (0,Aq.mk [])
def eR:GF:=gZ Pg uI uN 0x8bca10d0205c64d281ecae6eee90964e2e37f1b4ecdf23490c4776118ddc18a5a07fd09f318ed64215a3dddba54d5f3884f769559c50b4a7bcbfd0e510528b [] (BY bH)
def yu(p0:Aa):AA Aa:=bd (ADy p0.Row) fun x1=>bd (bH p0.DW) fun x2=>some (Aa.mk p0.Ae x1 x2)
def tP:GF:=gZ Xr uJ uO 0xc8a8d4981af11666c87d4e6d22fa50b204d3a90bf5dc15d8c2ee3bb7c99e9eba7c [tO,eR] (BY yu)
def mg(v17:AH):AA AH:=some v17
def Wt(p0:AH)(L12:(Int×AH)->AA AH)(x_:(Int×AH)):AA AH:=match x_ with |(v13,v14)=>br (decide (v13<(↑p0.Ap.length:Int))) (bd (at? p0.Ap v13) fun x15=>bd (yu x15) fun x16=>gd (v14.Ap.length+[x16].length<=lim) (L12 ((w64 (v13+1),AH.mk v14.AR v14.Now v14.A4 v14.AK (v14.Ap++[x16]) v14.BO v14.BP)))) (jn mg v14)
def yv(p0:AH):AA AH:=bd (kz p0.AR) fun x1=>gd (0+p0.AK.length<=lim) (bd (IB p0.BO) fun x2=>bd (IB p0.BP) fun x3=>bd (IB p0.BP) fun x4=>Bt x1 x1 (ev5 p0.Now p0.A4 p0.AK ([]:List Aa) x2 (eqv x3 x4 (bd (IB p0.BO) fun x5=>bd (IB p0.BP) fun x6=>Bt x1 x1 (ev4 p0.Now p0.A4 p0.AK ([]:List Aa) (eqv x2 x5 (eqv x3 x6 (gd (0+p0.AK.length<=lim) (bd (IB p0.BO) fun x7=>bd (IB p0.BP) fun x8=>Bt x1 x1 (ev4 p0.Now p0.A4 p0.AK ([]:List Aa) (eqv x2 x7 (eqv x3 x8 (bd (kz p0.AR) fun x9=>gd (0+p0.AK.length<=lim) (bd (IB p0.BO) fun x10=>bd (IB p0.BP) fun x11=>Bt x1 x9 (ev4 p0.Now p0.A4 p0.AK ([]:List Aa) (eqv x2 x10 (eqv x3 x11 (Aw (Wt p0) big (0,AH.mk x1 p0.Now p0.A4 p0.AK [] x2 x3)))))))))))))))))))
def tQ:GF:=gZ K4 (.ret [(.st 8)]) [.cell 2 (some 15)] 0x5d254b68b257f4d7782aced80cabcf973699bde974a7752bc38aea9b1dbb238dce5582689ea654b817038e650e9b08dc4595f1bc8d8f205d45da0e146801941362dc55ceb789ab8eb396e2eaa0d680eb067afe463e6f34701f36bba20b3a98a1bd9e68eaccd779e3450ce39cce56ca173bf4f2ba37ce7a7a5c7172b58a9cb6ebdbd2d00f39ada7ee817134ff9e37a0c68e9f6680515f1e78caec878bfadbef48113c5ff7bf3f019a1e86ef7d0cbfded7bf8f58021666f304f6d20881260bd61e56d1e3e27e3178ae9e12e4f092b23e0d87f672c8a4de67f725ae2a857b57718f5727fbada895cbc3d62fdc989ac4903a0cb6d8ac3af7b8f3412b74fa62a9d537cabecb3fac3a64c8fc79fde7a51eefd991555f54683380d365b998f52a03ef9d07166f25c1d907e1ce2b125f050b436f3a42adbfc4340e19419e3801fc18093f0c72 [sQ,Sk,tP] (BY yv)
def mi(p0:Ay):AA Ay:=bd (yv p0.Av) fun x1=>gd (0+p0.Laid.length<=lim) (some (Ay.mk x1 p0.Bu p0.Seq p0.Laid))
def eS:GF:=gZ Xu uL uP 0x116e0f61487bf34048dd5332d9af11492fba55dd06667f043a6ca62ae058b468e94c1f74a3c757f8beb5775ba [tQ] (BY mi)
def Wu(p0:Int)(p1:List UInt8)(v2:Bool):AA (List UInt8):=br v2 (some []) (bd (Ql p0) fun x3=>gd (List.length x3+p1.length<=lim) (bd (lV (x3++p1)) fun x4=>gd ([toB (DK x4 24),toB (DK x4 16),toB (DK x4 8),toB x4].length+(x3++p1).length<=lim) (bd (Ql ((↑([toB (DK x4 24),toB (DK x4 16),toB (DK x4 8),toB x4]++(x3++p1)).length:Int))) fun x5=>gd (List.length x5+([toB (DK x4 24),toB (DK x4 16),toB (DK x4 8),toB x4]++(x3++p1)).length<=LA) (some (x5++([toB (DK x4 24),toB (DK x4 16),toB (DK x4 8),toB x4]++(x3++p1)))))))
def yw(p0:Int)(p1:List UInt8):AA (List UInt8):=bd (Cy p0 1 1000000) fun x1=>br (!x1) (jn (Wu p0 p1) true) (bd (Cy (↑p1.length:Int) 1 60) fun x6=>jn (Wu p0 p1) (!x6))
def tT:GF:=gZ [.v .i,.v .s] Nu Br 0xc78811ec25f6fd9f1b9ea817fe6ded28895d3611efb336f0ce7dceef3f5a9057335997f8f32780f6dfad435ab9d4da5bc5e50457dc4cf0a27e73f9fc5d2df5dc67c18797f473bcf18c30b67fd74a5d97fabdc51ca49f527944d748c270a [FD,Pc,Xn] (BF yw)
def Wv(p0:B2)(p1:List UInt8)(v2:Bool):AA (B2×Bool):=br v2 (some (p0,false)) (some ((B2.mk (p0.Data++p1) p0.Safe,true)))
def yx(p0:B2)(p1:List UInt8):AA (B2×Bool):=gd (p0.Data.length+p1.length<=LA) (bd (Nb p0) fun x1=>br (!x1) (jn (Wv p0 p1) true) (bd (Nb (B2.mk (p0.Data++p1) p0.Safe)) fun x3=>jn (Wv p0 p1) (!x3)))
def tU:GF:=gZ [.v (.st 9),.v .s] fB fG 0x3a795bc3438144f6d2bf593bdb66fcd343fc80d3c0681f831cc64214dfc780c2637212e2642305888ff2d1de0516c540f4a [Pb] (BF yx)
end Lv
