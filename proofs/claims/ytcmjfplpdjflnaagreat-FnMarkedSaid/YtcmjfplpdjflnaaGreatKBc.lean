/- Functions of the program as typed texts and as plain functions. -/
import Derived.Test.YtcmjfplpdjflnaaGreatKAc
open List renaming length->g0
noncomputable section
set_option linter.unusedVariables false
set_option linter.unusedSimpArgs false
set_option linter.unusedSectionVars false
set_option maxRecDepth 100000
namespace Lv
open Go (IntKind BinOp UnOp)
open Y (YF qn qf qt qr q1 qd qm qa qo ql qL qb qi qx qp qq qc qz qe qk qK qB qw qu qj Kp wn wf wt w1 sw sq sr wm wM wo wO wl wL wk wK wz wZ wx wX wb wB wi wI wr wR wq wQ we wE wc wY wj wh cv ca cx cn ce bl)
def oI(a:Ab):AA (List Int):=bd (aK a) fun c=>br (!c) (some []) (gd ([a.CX,a.Room,a.BC,a.CQ,a.B3,a.Rest,a.Cb,a.C5].length+a.AY.length<=lim) (some ([a.CX,a.Room,a.BC,a.CQ,a.B3,a.Rest,a.Cb,a.C5]++a.AY)))
def AEB:=gZ ai O8 DD ["WZnhjmrPuVSS77bS1fgg5HmsCPxHzMQo46iLztAwiwt6HJa2tc6hr5QDKpqRq"] [Y6] (Bd oI)
def AYu(c:C):YF:=⟨[],[.v (.st 8)],[],.ret [c],[.tmp 2],sq [qu 1 0,.as 2 (.k .nil)] [1] (.seq (sw 11 [wk 15 1,wY VD rfl,wX] [1,13] (cn 13 [1] (sq [.as 2 (.k .nil)] [2] .ret))) (sr [wn 14 [wo 0 1,wK 9,wY AEB rfl],qn [qa 3 16]] [1,3] (sr [wn 17 [wm 3,wZ,wh (.CB · 1 .i [(0,(.tmp 18))]),wm 3,wh (.app · .i true (.tmp 19) (.tmp 20))],qn [qa 4 21]] [1,4] (sr [wn 22 [wm 4,wo 9 1,wL,wo 10 1,wL,wo 11 1,wL,wZ,wh (.CB · 3 .i [(0,(.tmp 24)),(1,(.tmp 26)),(2,(.tmp 29))]),wh (.app · .i true (.tmp 22) (.tmp 30))],qn [qa 4 31]] [1,4] (.join [cv 4 (.l .i)] (sw 32 [wo 11 1,wL,wZ,wj 0] (Kp 60129542162) (bl 0 [cv 4 (.l .i),cv 35 .i] (sq [qb 36 .lss 35 34] (Kp 128849018898) (.seq (ce 36 (Kp 60129542162) [1,4] 0) (.seq (.block 1 (sr [wn 37 [we (.st 2) 33 35,wK 10],qn [.alloc 6 AV0,qw 10 6 38]] (Kp 60129542226) (qr [wn 39 [wm 4,wo 0 6,wL,wo 1 6,wL,wo 2 6,wL,wI .add 1,wo 3 6,wL,wo 4 6,wL,wo 5 6,wL,wo 6 6,wL,wo 7 6,wL,wo 8 6,wL,wo 9 6,wL,wh (.CB · 10 .i [(0,(.tmp 41)),(1,(.tmp 43)),(2,(.tmp 46)),(3,(.tmp 48)),(4,(.tmp 50)),(5,(.tmp 52)),(6,(.tmp 54)),(7,(.tmp 56)),(8,(.tmp 58)),(9,(.tmp 60))]),wh (.app · .i true (.tmp 39) (.tmp 61))],qn [qa 4 62]] (Kp 60129542162)))) (q1 [qi 63 .add 35 1,qm 35 63] (Kp 60129542162))))))) (.join [cv 4 (.l .i)] (sw 64 [wo 12 1,wL,wZ,wj 0] [1,4,65,66,67] (bl 2 [cv 4 (.l .i),cv 67 .i] (sq [qb 68 .lss 67 66] [1,4,65,66,67,68] (.seq (ce 68 [1,4,65,66,67] [1,4] 2) (.seq (.block 3 (sr [wn 69 [we (.st 7) 65 67,wK 7],qn [.alloc 8 AVz,.VO [(.cell 8 5,(.st 4)),(.cell 8 6,(.l (.st 5)))],qw 7 8 70]] [1,4,8,65,66,67] (qr [wn 71 [wm 4,wo 0 8,wO 1,wL,wh (.CB · 1 .i [(0,(.tmp 74))]),wh (.app · .i true (.tmp 71) (.tmp 75))],qn [qa 4 76]] [1,4,65,66,67]))) (q1 [qi 77 .add 67 1,qm 67 77] [1,4,65,66,67])))))) (sr [wn 78 [wm 4,wo 13 1,wL,wZ,wh (.CB · 1 .i [(0,(.tmp 81))]),wh (.app · .i true (.tmp 78) (.tmp 82))],qn [qa 4 83]] [1,4] (sr [wn 84 [wm 4,wo 13 1,wL,wh (.app · .i true (.tmp 84) (.tmp 86))],qn [qa 4 87]] [1,4] (.join [cv 4 (.l .i)] (sw 88 [wo 14 1,wL,wZ,wj 0] [4,89,90,91] (bl 4 [cv 4 (.l .i),cv 91 .i] (sq [qb 92 .lss 91 90] [4,89,90,91,92] (.seq (ce 92 [4,89,90,91] [4] 4) (.seq (.block 5 (sr [wn 93 [we .i 89 91,wL],qn [qa 10 94]] [4,10,89,90,91] (qr [wn 95 [wm 4,wm 10,wI .add 1,wh (.CB · 1 .i [(0,(.tmp 97))]),wh (.app · .i true (.tmp 95) (.tmp 98))],qn [qa 4 99]] [4,89,90,91]))) (q1 [qi 100 .add 91 1,qm 91 100] [4,89,90,91])))))) (sq [qm 101 4,qa 2 101] [2] .ret))))))))))⟩
def AZI:YF:=AYu (.l .i)
def zN(a:List Int):AA (List Int):=some a
def fF(h:AE)(g:List Int×Int->AA (List Int))(j:List Int×Int):AA (List Int):=let (a,c):=j;br (decide (c<h.A4.length)) (bd (at? h.A4 c) fun e=>gd (g0 a+[w64 (e+1)].length<=lim) (g (a++[w64 (e+1)],w64 (c+1)))) (jn zN a)
def WO(c:AE)(a:List Int):AA (List Int):=gd (a.length+[(↑c.BA.length:Int)].length<=lim) (gd ((a++[(↑c.BA.length:Int)]).length+c.BA.length<=lim) (BB (fF c) big (a++[(↑c.BA.length:Int)]++c.BA,0)))
def fE(e:AE)(h:List Int×Int->AA (List Int))(j:List Int×Int):AA (List Int):=let (g,a):=j;br (decide (a<e.AI.length)) (bd (at? e.AI a) fun c=>gd (g0 g+[c.AY.Dh].length<=lim) (h (g++[c.AY.Dh],w64 (a+1)))) (jn (WO e) g)
def WN(a:AE)(c:List Int):AA (List Int):=BB (fE a) big (c,0)
def fD(c:AE)(h:List Int×Int->AA (List Int))(j:List Int×Int):AA (List Int):=let (e,g):=j;br (decide (g<c.AG.length)) (bd (at? c.AG g) fun a=>gd (g0 e+[a.Id,a.Aa,w64 (a.Bl+1),a.BC,a.Cs,a.Since,a.Av,a.State,a.Ci,a.C0].length<=lim) (h (e++[a.Id,a.Aa,w64 (a.Bl+1),a.BC,a.Cs,a.Since,a.Av,a.State,a.Ci,a.C0],w64 (g+1)))) (jn (WN c) e)
def zM(a:AE):AA (List Int):=bd (Rj a) fun e=>br (!e) none (bd (oI a.AS) fun c=>gd ([(↑(g0 c):Int)].length+g0 c<=lim) (gd (([(↑(g0 c):Int)]++c).length+[a.Now,a.Av,(↑a.AG.length:Int)].length<=lim) (BB (fD a) big ([(↑(g0 c):Int)]++c++[a.Now,a.Av,(↑a.AG.length:Int)],0))))
def AOf:GF:=AZI.EY (Bd zM)
def yq(e:Int×List UInt8):AA (List UInt8):=let (a,c):=e;gd (c.length+[toB a].length<=lim) (some (c++[toB a]))
def yr(e:Int×List UInt8->AA (List UInt8))(g:Int×List UInt8):AA (List UInt8):=let (a,c):=g;br (decide (a>=128)) (gd (c.length+[toB (w64 (Int.tmod a 128+128))].length<=lim) (e (w64 (Int.tdiv a 128),c++[toB (w64 (Int.tmod a 128+128))]))) (jn yq (a,c))
def WC(a:Int):AA (List UInt8):=bd (C4 a 0 2147483647) fun c=>br (!c) (some []) (BB yr big (a,[]))
def Y7:=gZ Sv (.ret [(.l .u)]) DD ["SEXoM6RxY8iccBavBlk7ld8e9AEKjHBb5Oyj6qLK7VoVh3ZusfT4W3l2AgycFfaIQRAwnXRtd4SjPmV3","Wu"] [E6] (Bd WC)
def yu(a:List UInt8):AA (List UInt8):=some a
def dx(e:List Int)(h:List UInt8×Int->AA (List UInt8))(q:List UInt8×Int):AA (List UInt8):=let (a,c):=q;br (decide (c<e.length)) (bd (at? e c) fun j=>bd (WC j) fun g=>gd (g0 a+g0 g<=lim) (h (a++g,w64 (c+1)))) (jn yu a)
def yt(a:List Int):AA (List UInt8):=BB (dx a) big ([],0)
def tn:=gZ ZD O9 DD ["3Q9C4m34g0c1fLmCQDdpEH86mvPB9iwBOFbNlxVBzKSM1OFkKNnv6HNONTUIe4xPENcvQr"] [Y7] (Bd yt)
def dy(a:Int×Int->AA Int)(c e:Int):AA Int:=a (e,w64 (c+1))
def yw(a:Int×Int->AA Int)(c e:Int):AA Int:=a (e,w64 (c+1))
def eB(g:Int×Int->AA Int)(h:Int)(e:Int×Int->AA Int)(j:Int×Int):AA Int:=let (a,c):=j;br (decide (c<8)) (br (dH a 1==1) (jn (dy e c) (UO (Du a 1) 3988292384)) (jn (dy e c) (Du a 1))) (jn (yw g h) a)
def yx(a:Int):AA Int:=some (UO a 4294967295)
def eA(c:List UInt8)(g:Int×Int->AA Int)(j:Int×Int):AA Int:=let (e,a):=j;br (decide (a<c.length)) (bd (at? c a) fun h=>BB (eB g a) big (UO e (w64 (↑(UInt8.toNat h):Int)),0)) (jn yx e)
def yv(a:List UInt8):AA Int:=BB (eA a) big (4294967295,0)
def tp:=gZ ZE DC DD ["Q6X1dJWBUr0Mrx8KBzFATmRXKL0uMz0ILLPLPtpIPbERBZofSs0aLc7XLAnV8MzHuc1Zk5CxcAbcKtg2","euHGLXIUfPLmdX5IfqUeJosL2Q7Stp7aeJe0an5CWDcvEETD"] [] (Bd yv)
def AY9:YF:=⟨[],[.v (.st 8),.v .i],[],.ret [.s],[.tmp 4],sq [qu 2 0,.as 4 (.k (.str []))] [1,2] (sr [wn 8 [wk 15 2,wY AOf rfl],qn [qa 5 9]] [1,5] (.seq (sr [wn 10 [wm 5,wh (.bin · .sl .eql (.tmp 10) (.k .nil)),wM],wf 12 13 [wm 1,wc E6 rfl [13,qj 0,qj 1000000],wX],qn [qp 16 12 15]] [1,5,16] (cn 16 [1,5] (sq [.as 4 (.k (.str []))] [4] .ret))) (.seq (.U5 (.op 0 none [] (.mv 17 (.tmp 1)) (.op 3 none [] (.mv 20 (.tmp 5)) (qd 1 [wn 18 [wY Y7 rfl,wh (.O3 · (.tmp 18))]] (.op 4 none [18] (.call 21 tn [] rfl [(.tmp 20)]) (qd 5 [qn [qb 22 .add 19 21,qa 6 22]] .nil))))) [6]) (sr [wn 23 [wm 6,wh (.M9 · (.tmp 23)),wY tp rfl],qn [qa 7 25]] [6,7] (sr [wn 26 [wm 7,wh (.bin · .num .shr (.tmp 26) (.k (.int .u64 24))),wh (.cvI · .u8 (.tmp 27)),wm 7,wh (.bin · .num .shr (.tmp 29) (.k (.int .u64 16))),wh (.cvI · .u8 (.tmp 30)),wm 7,wh (.bin · .num .shr (.tmp 32) (.k (.int .u64 8))),wh (.cvI · .u8 (.tmp 33)),wm 7,wh (.cvI · .u8 (.tmp 35)),wh (.CB · 4 .u [(0,(.tmp 28)),(1,(.tmp 31)),(2,(.tmp 34)),(3,(.tmp 36))]),wh (.O3 · (.tmp 37)),wm 6,wB .add 38],qn [qa 4 40]] [4] .ret)))))⟩
def oD(j:AE)(g:Int):AA (List UInt8):=bd (zM j) fun h=>gd (List.isEmpty h=false) (bd (C4 g 0 1000000) fun q=>br (!q) (some []) (bd (WC g) fun c=>bd (yt h) fun e=>gd (g0 c+g0 e<=OI) (bd (yv (c++e)) fun a=>gd ([toB (Du a 24),toB (Du a 16),toB (Du a 8),toB a].length+(c++e).length<=OI) (some ([toB (Du a 24),toB (Du a 16),toB (Du a 8),toB a]++(c++e))))))
def AOR:GF:=AY9.EY (BF oD)
def AZA:YF:=AYu .z
def ANL(a:List Int):AA PUnit:=none
def ANO(h:AE)(g:List Int×Int->AA PUnit)(j:List Int×Int):AA PUnit:=let (a,c):=j;br (decide (c<h.A4.length)) (bd (at? h.A4 c) fun e=>gd (g0 a+[w64 (e+1)].length<=lim) (g (a++[w64 (e+1)],w64 (c+1)))) (jn ANL a)
def ANK(c:AE)(a:List Int):AA PUnit:=gd (a.length+[(↑c.BA.length:Int)].length<=lim) (gd ((a++[(↑c.BA.length:Int)]).length+c.BA.length<=lim) (BB (ANO c) big (a++[(↑c.BA.length:Int)]++c.BA,0)))
def ANN(e:AE)(h:List Int×Int->AA PUnit)(j:List Int×Int):AA PUnit:=let (g,a):=j;br (decide (a<e.AI.length)) (bd (at? e.AI a) fun c=>gd (g0 g+[c.AY.Dh].length<=lim) (h (g++[c.AY.Dh],w64 (a+1)))) (jn (ANK e) g)
def ANJ(a:AE)(c:List Int):AA PUnit:=BB (ANN a) big (c,0)
def ANM(c:AE)(h:List Int×Int->AA PUnit)(j:List Int×Int):AA PUnit:=let (e,g):=j;br (decide (g<c.AG.length)) (bd (at? c.AG g) fun a=>gd (g0 e+[a.Id,a.Aa,w64 (a.Bl+1),a.BC,a.Cs,a.Since,a.Av,a.State,a.Ci,a.C0].length<=lim) (h (e++[a.Id,a.Aa,w64 (a.Bl+1),a.BC,a.Cs,a.Since,a.Av,a.State,a.Ci,a.C0],w64 (g+1)))) (jn (ANJ c) e)
def ANI(a:AE):AA PUnit:=bd (Rj a) fun e=>br (!e) (some ()) (bd (oI a.AS) fun c=>gd ([(↑(g0 c):Int)].length+g0 c<=lim) (gd (([(↑(g0 c):Int)]++c).length+[a.Now,a.Av,(↑a.AG.length:Int)].length<=lim) (BB (ANM a) big ([(↑(g0 c):Int)]++c++[a.Now,a.Av,(↑a.AG.length:Int)],0))))
def AOS:GF:=AZA.EY (Bd ANI)
def AZB:YF:=⟨[],[.v (.st 8),.v .i],[],.ret [.s],[.tmp 4],sq [qu 2 0,.as 4 (.k (.str []))] [1,2] (sr [wn 8 [wk 15 2,wY AOS rfl],qn [qa 5 9]] [1,5] (.seq (sr [wn 10 [wm 5,wh (.bin · .sl .eql (.tmp 10) (.k .nil)),wM],wf 12 13 [wm 1,wc E6 rfl [13,qj 0,qj 1000000],wX],qn [qp 16 12 15]] [1,5,16] (cn 16 [1,5] (sq [.as 4 (.k (.str []))] [4] .ret))) (.seq (.U5 (.op 0 none [] (.mv 17 (.tmp 1)) (.op 3 none [] (.mv 20 (.tmp 5)) (qd 1 [wn 18 [wY Y7 rfl,wh (.O3 · (.tmp 18))]] (.op 4 none [18] (.call 21 tn [] rfl [(.tmp 20)]) (qd 5 [qn [qb 22 .add 19 21,qa 6 22]] .nil))))) [6]) (sr [wn 23 [wm 6,wh (.M9 · (.tmp 23)),wY tp rfl],qn [qa 7 25]] [6,7] (sr [wn 26 [wm 7,wh (.bin · .num .shr (.tmp 26) (.k (.int .u64 24))),wh (.cvI · .u8 (.tmp 27)),wm 7,wh (.bin · .num .shr (.tmp 29) (.k (.int .u64 16))),wh (.cvI · .u8 (.tmp 30)),wm 7,wh (.bin · .num .shr (.tmp 32) (.k (.int .u64 8))),wh (.cvI · .u8 (.tmp 33)),wm 7,wh (.cvI · .u8 (.tmp 35)),wh (.CB · 4 .u [(0,(.tmp 28)),(1,(.tmp 31)),(2,(.tmp 34)),(3,(.tmp 36))]),wh (.O3 · (.tmp 37)),wm 6,wB .add 38],qn [qa 4 40]] [4] .ret)))))⟩
def AGw(a:AE)(c:Int):AA (List UInt8):=bd (ANI a) fun e=>some []
def AOT:GF:=AZB.EY (BF AGw)
def yy(a:AE)(c:Int):AA (List UInt8):=orE (oD a c) (AGw a c)
def AOU:GF:=AOR.orE (fun a=>yy a.1 a.2.1) (fun a=>AGw a.1 a.2.1) (fun a=>by kernel_rfl) (fun a r h=>Eq.mp (by kernel_rfl) (AOT.ok a r h))
def yz(a:List Int):AA (List Int):=some a
def eE(h:AE)(g:List Int×Int->AA (List Int))(j:List Int×Int):AA (List Int):=let (a,c):=j;br (decide (c<h.A4.length)) (bd (at? h.A4 c) fun e=>gd (g0 a+[w64 (e+1)].length<=lim) (g (a++[w64 (e+1)],w64 (c+1)))) (jn yz a)
def WE(c:AE)(a:List Int):AA (List Int):=gd (a.length+[(↑c.BA.length:Int)].length<=lim) (gd ((a++[(↑c.BA.length:Int)]).length+c.BA.length<=lim) (BB (eE c) big (a++[(↑c.BA.length:Int)]++c.BA,0)))
def eD(e:AE)(h:List Int×Int->AA (List Int))(j:List Int×Int):AA (List Int):=let (g,a):=j;br (decide (a<e.AI.length)) (bd (at? e.AI a) fun c=>gd (g0 g+[c.AY.Dh].length<=lim) (h (g++[c.AY.Dh],w64 (a+1)))) (jn (WE e) g)
def WD(a:AE)(c:List Int):AA (List Int):=BB (eD a) big (c,0)
def eC(c:AE)(h:List Int×Int->AA (List Int))(j:List Int×Int):AA (List Int):=let (e,g):=j;br (decide (g<c.AG.length)) (bd (at? c.AG g) fun a=>gd (g0 e+[a.Id,a.Aa,w64 (a.Bl+1),a.BC,a.Cs,a.Since,a.Av,a.State,a.Ci,a.C0].length<=lim) (h (e++[a.Id,a.Aa,w64 (a.Bl+1),a.BC,a.Cs,a.Since,a.Av,a.State,a.Ci,a.C0],w64 (g+1)))) (jn (WD c) e)
def AGx(a:AE):AA (List Int):=bd (Rj a) fun e=>br (!e) (some []) (bd (oI a.AS) fun c=>gd ([(↑(g0 c):Int)].length+g0 c<=lim) (gd (([(↑(g0 c):Int)]++c).length+[a.Now,a.Av,(↑a.AG.length:Int)].length<=lim) (BB (eC a) big ([(↑(g0 c):Int)]++c++[a.Now,a.Av,(↑a.AG.length:Int)],0))))
def AOV:=gZ XP O8 DD ["yVsKAQdugXKduplmbv9uHS3xLJJEqt2SMiAXCo16LyhdCclAOM7mFxHVhqQQSLi8Mu5jwvzrqnC5UKGe","TKj49SLuRz1DPVcfJsw52NKu3XVG7WH0Z1G29ohMGBuRDBEyZGrUITl810B2FxOvvhownL8LcMVpH4Jo","aYPokhQCh2cdJd2O7xMdZzx5NhLDA9LUG37xDeJKHd2GCG8DF0ZUh0On1bODKIXopNdQvG6jypkomwoB","i9AzRyYnrwfDLp5ITXGxBDlht68zZL2EgdXaKyKMrLd6Hm7JXoXmWxss7GrCd65wJzHDHjeVS0XsyqAP","8a1EeKJvvsvBw3CvG"] [VD,AEB] (Bd AGx)
def Gr(a:Ab):AA Ab:=gd (0+a.AY.length<=lim) (some (Ab.mk ([]++a.AY) a.CX a.Room a.BC a.CQ a.B3 a.Rest a.Cb a.C5))
def AD1:=gZ ai AE1 AE2 ["98DcpFAltAyyqzCzoz0XfQEJ"] [] (Bd Gr)
def AGy(a:Int):AA (BE×Bool):=bd (ADk (BE.mk a 0 0 a 0)) fun c=>br (!c) (some (BE.mk 0 0 0 0 0,false)) (some (BE.mk a 0 0 a 0,true))
def AOW:=gZ Sv Sx [.cell 2 (some 5),.tmp 3] ["2z1zGNrUeNAqsgc3cORFFww8jVfGWk1PeKsJpOS2LtKBh"] [AIy] (Bd AGy)
def AZJ:YF:=⟨[],[],[],.ret [(.st 6)],[.cell 0 (some 1)],dY ["G7vjJ462gJ4Jrd8CbAHSR3SCCG5Qmcb4lgreMXz5SqMxNwb2WinDmk1IR2BxRoHyPytwcb"] []⟩
def zY(a:Aq):AA Aq:=some a
def zZ(e:Int×Aq->AA Aq)(g:Int×Aq):AA Aq:=let (c,a):=g;br (decide (c<9)) (gd (a.Am.length+1<=lim) (e (w64 (c+1),Aq.mk (a.Am++[[]])))) (jn zY a)
def fQ:AA Aq:=BB zZ big (0,Aq.mk [])
def kG:GF:=AZJ.gf rfl rfl (fun a=>fQ) (fun a=>by kernel_rfl)
def AG5(c:Int):AA (Ae×Bool):=bd (AGy c) fun a=>br (!a.snd) (some (Ae.mk (BE.mk 0 0 0 0 0) [] (Aq.mk []),false)) (bd fQ fun e=>some (Ae.mk a.fst [] e,true))
def AOk:=gZ Sv (.ret [(.st 7),.b]) [.cell 2 (some 7),.tmp 3] ["1WsfAr7kXaF83LVfjue88uOG2ulZNWzuaOMaBV0rPbQCGiPlfq8yAqCSou3unJ63gt"] [AOW,kG] (Bd AG5)
def zb(a:AE):AA (AE×Bool):=some (a,true)
def zd(g:Ab)(e:Int×AE->AA (AE×Bool))(h:Int×AE):AA (AE×Bool):=let (c,a):=h;br (decide (c<g.C5)) (gd (a.A4.length+[-1].length<=lim) (e (w64 (c+1),AE.mk a.AS a.Now a.Av a.AG a.AI a.BA (a.A4++[-1])))) (jn zb a)
def za(a:Ab)(c:AE):AA (AE×Bool):=BB (zd a) big (0,c)
def zc(c:Ab)(h:Int×AE->AA (AE×Bool))(q:Int×AE):AA (AE×Bool):=let (e,a):=q;br (decide (e<c.AY.length)) (bd (at? c.AY e) fun j=>bd (AG5 j) fun g=>gd (a.AI.length+[g.fst].length<=lim) (h (w64 (e+1),AE.mk a.AS a.Now a.Av a.AG (a.AI++[g.fst]) a.BA a.A4))) (jn (za c) a)
def oM(a:Ab):AA (AE×Bool):=bd (sY a) fun c=>br (!c) (some (AE.mk (Ab.mk [] 0 0 0 0 0 0 0 0) 0 0 [] [] [] [],false)) (bd (Gr a) fun e=>BB (zc a) big (0,AE.mk e 0 1 [] [] [] []))
def AEG:=gZ ai (.ret [(.st 8),.b]) uu ["GPn2cO0ov0MyX4SQ33l2KE8cqoycbkZKGlVGtVFEIeGqEOOcahyLRys3XMLDMBb3OsWakEIb59L9Pqem","P9gK4Xj52gT2zkk2uhBMUxg7VqY8jNnXuBfbvVw4WjZW4OqTYe87JuuHbFMqo90K9UbhD7xcxcgliPGw","eT9QSh3KZ5yoSCd"] [kC,AD1,AOk] (Bd oM)
def AG6(e:Ab):AA (Af×Bool):=bd (oM e) fun a=>br (!a.snd) (some (Af.mk (AE.mk (Ab.mk [] 0 0 0 0 0 0 0 0) 0 0 [] [] [] []) (Bo.mk (B0.mk [] 0) (B0.mk [] 0) (B0.mk [] 0)) 0 [],false)) (bd (oH a.fst 0) fun c=>some (Af.mk a.fst (Bo.mk (B0.mk [] 0) (B0.mk c (↑(g0 c):Int)) (B0.mk [] 0)) 0 [],true))
def AOl:=gZ ai ZJ uw ["kWOsmkq6kFwmFplhwvzHpmwvrKTppixVXknJH1SKbcZlHnySy9H2mCF4kL6xnG7I7MXpDu77VR0tqZ8V","BzdfatSg"] [AEG,tz] (Bd AG6)
def Kk(a:List Int):AA (List Int):=gd (0+a.length<=lim) (some a)
def Y8:=gZ ZD O8 DD ["yyDziZRvvjwvP"] [] (Bd Kk)
def ze(a:Ab):AA Ab:=bd (Kk a.AY) fun c=>some (Ab.mk c a.CX a.Room a.BC a.CQ a.B3 a.Rest a.Cb a.C5)
def AOm:=gZ ai AE1 AE2 ["3f8nedYDGmQJiqvyFtLliV"] [Y8] (Bd ze)
def AZK:YF:=⟨[],[],[],.ret [(.st 6)],[.cell 0 (some 1)],dY ["WdRMXauwA5QllUq5d9fI"] [] [.R0 1 (.l (.st 5)) (.k (.int .i64 9))]⟩
def ANR:AA Aq:=some (Aq.mk (List.replicate (Int.toNat 9) []))
def AOn:GF:=AZK.gf rfl rfl (fun a=>ANR) (fun a=>by kernel_rfl)
def zf(a:B0):AA B0:=bd (Pk a) fun c=>br (!c) (some a) (some (B0.mk a.Data (↑a.Data.length:Int)))
def AEH:=gZ ug ZK AE3 ["D0ScyP9m8a7tsB4S5UTa69QmiTbkHgokzq"] [Su] (Bd zf)
end Lv
set_option maxRecDepth 100000
namespace Lv
open Go (IntKind BinOp UnOp)
open Y (YF qn qf qt qr q1 qd qm qa qo ql qL qb qi qx qp qq qc qz qe qk qK qB qw qu qj Kp wn wf wt w1 sw sq sr wm wM wo wO wl wL wk wK wz wZ wx wX wb wB wi wI wr wR wq wQ we wE wc wY wj wh cv ca cx cn ce bl)
def zg(a:Aq):AA Aq:=some a
def zh(g:Aq)(h:Int×Aq->AA Aq)(j:Int×Aq):AA Aq:=let (a,c):=j;br (decide (a<g.Am.length)) (bd (at? g.Am a) fun e=>gd (0+g0 e<=lim) (gd (c.Am.length+[[]++e].length<=lim) (h (w64 (a+1),Aq.mk (c.Am++[[]++e]))))) (jn zg c)
def fR(a:Aq):AA Aq:=BB (zh a) big (0,Aq.mk [])
def uB:=gZ ZB um ux ["XJ2Qn5PXPkB2Qm4RuCvvdBwBncihvEkGtSc21ysBMu0hSShXd0lvapI1euLT62ffeRcHBHITkfba8Z1B","krhz3HGVVJYb68jR"] [] (Bd fR)
def AG7(a:Ae):AA Ae:=bd (nC a.Row) fun c=>bd (fR a.By) fun e=>some (Ae.mk a.AY c e)
def AOo:=gZ ue kO uy ["A4R4T9H9JbmYEv5f5DhBf42J4Iu42XmJZ7QsmTuUpx"] [ABr,uB] (Bd AG7)
def cZ:Y.YOp []:=.app 19 .i true (.tmp 16) (.tmp 18)
def Oj:Y.YOp []:=.app 15 (.st 2) true (.tmp 12) (.tmp 14)
def Hh:Y.YOp []:=.call 7 AD1 [] rfl [(.tmp 6)]
def AJT:Y.Bu []:=(.op 21 none [] (.st 15 (.tmp 3) (.tmp 24)) (.dr [5,6,7,8,9,10,11,12,13,14,15,16,17,18,19,20,21,22,23,24] .nil))
def AaN:=fun a=>((.op 20 none [5,8,10,13,17,21] (.alloc 3 ET) (.nl [(.cell 3 0,.i),(.cell 3 11,(.st 2)),(.cell 3 12,(.st 7)),(.cell 3 13,.i),(.cell 3 14,.i)] a)):Y.Bu [])
def AVW:Y.Bu []:=AaN AJT
def AaO:=fun a=>((.op 19 none [] (.build 24 ET [(0,9,(.tmp 7)),(9,1,(.tmp 9)),(10,1,(.tmp 11)),(11,1,(.tmp 15)),(13,1,(.tmp 19)),(14,1,(.tmp 23))]) (.nl [(.tmp 24 12,(.st 7))] a)):Y.Bu [])
def AVX:Y.Bu []:=AaO AVW
def AVY:Y.Bu []:=(.op 18 none [8,10] (.app 23 .i true (.tmp 20) (.tmp 22)) AVX)
def AVZ:Y.Bu []:=AaO AJT
def xA:Y.Bu []:=(.op 18 none [8,10] (.app 23 .i true (.tmp 20) (.tmp 22)) AVZ)
def AVa:Y.Bu []:=AaN xA
def AaQ:=fun a b=>((.both 1 a b):Y.Bu [])
def AJU:Y.Bu []:=AaQ AVY AVa
def AaR:=fun a b c=>((.op a none [5,8,10,13,17,21] (.CB b 0 .i []) c):Y.Bu [])
def AVb:Y.Bu []:=AaR 15 20 AJU
def AJV:Y.Bu []:=AaR 15 20 xA
def ASA:Y.Bu []:=AaN AJV
def ASB:Y.Bu []:=AaQ AVb ASA
def ASC:Y.Bu []:=(.op 14 none [8,10,21] cZ ASB)
def ASD:Y.Bu []:=(.op 14 none [8,10,21] cZ AJU)
def Xp:Y.Bu []:=(.op 14 none [8,10,21] cZ xA)
def ASE:Y.Bu []:=AaN Xp
def lh:Y.Bu []:=AaQ ASD ASE
def ASF:Y.Bu []:=AaR 15 20 lh
def ASG:Y.Bu []:=(.op 14 none [8,10,21] cZ AJV)
def ASH:Y.Bu []:=AaR 15 20 Xp
def lj:Y.Bu []:=AaQ ASG ASH
def ASI:Y.Bu []:=AaN lj
def ASJ:Y.Bu []:=AaQ ASF ASI
def ACY:Y.Bu []:=AaQ ASC ASJ
def ASK:Y.Bu []:=AaR 11 16 ACY
def ASL:Y.Bu []:=AaR 11 16 lh
def lk:Y.Bu []:=AaR 11 16 Xp
def ASM:Y.Bu []:=AaN lk
def ACZ:Y.Bu []:=AaQ ASL ASM
def ASN:Y.Bu []:=AaR 15 20 ACZ
def ASO:Y.Bu []:=AaR 11 16 lj
def ASP:Y.Bu []:=AaR 15 20 lk
def ACa:Y.Bu []:=AaQ ASO ASP
def ASQ:Y.Bu []:=AaN ACa
def ASR:Y.Bu []:=AaQ ASN ASQ
def ASS:Y.Bu []:=AaQ ASK ASR
def AaT:=fun a=>((.op 10 none [8,10,17,21] Oj a):Y.Bu [])
def AST:Y.Bu []:=AaT ASS
def ASU:Y.Bu []:=AaT ACY
def ASV:Y.Bu []:=AaT lh
def TO:Y.Bu []:=AaT Xp
def ASW:Y.Bu []:=AaN TO
def Xq:Y.Bu []:=AaQ ASV ASW
def ASX:Y.Bu []:=AaR 15 20 Xq
def ASY:Y.Bu []:=AaT lj
def ASZ:Y.Bu []:=AaR 15 20 TO
def Xr:Y.Bu []:=AaQ ASY ASZ
def ASa:Y.Bu []:=AaN Xr
def ASb:Y.Bu []:=AaQ ASX ASa
def ll:Y.Bu []:=AaQ ASU ASb
def ASc:Y.Bu []:=AaR 11 16 ll
def ASd:Y.Bu []:=AaT ACZ
def ASe:Y.Bu []:=AaR 11 16 Xq
def ASf:Y.Bu []:=AaT lk
def ASg:Y.Bu []:=AaR 11 16 TO
def Xs:Y.Bu []:=AaQ ASf ASg
def ASh:Y.Bu []:=AaN Xs
def ASi:Y.Bu []:=AaQ ASe ASh
def ln:Y.Bu []:=AaQ ASd ASi
def ASj:Y.Bu []:=AaR 15 20 ln
def ASk:Y.Bu []:=AaT ACa
def ASl:Y.Bu []:=AaR 11 16 Xr
def ASm:Y.Bu []:=AaR 15 20 Xs
def ASn:Y.Bu []:=AaQ ASl ASm
def lq:Y.Bu []:=AaQ ASk ASn
def ASo:Y.Bu []:=AaN lq
def ASp:Y.Bu []:=AaQ ASj ASo
def ASq:Y.Bu []:=AaQ ASc ASp
def ACb:Y.Bu []:=AaQ AST ASq
def AaU:=fun a=>((.op 7 none [5,8,10,13,17,21] (.CB 12 0 (.st 2) []) a):Y.Bu [])
def ASr:Y.Bu []:=AaU ACb
def ASs:Y.Bu []:=AaU ll
def ASt:Y.Bu []:=AaU Xq
def Xt:Y.Bu []:=AaU TO
def ASu:Y.Bu []:=AaN Xt
def lr:Y.Bu []:=AaQ ASt ASu
def ASv:Y.Bu []:=AaR 15 20 lr
def ASw:Y.Bu []:=AaU Xr
def ASx:Y.Bu []:=AaR 15 20 Xt
def lu:Y.Bu []:=AaQ ASw ASx
def ASy:Y.Bu []:=AaN lu
def ASz:Y.Bu []:=AaQ ASv ASy
def ACc:Y.Bu []:=AaQ ASs ASz
def AS0:Y.Bu []:=AaR 11 16 ACc
def AS1:Y.Bu []:=AaU ln
def AS2:Y.Bu []:=AaR 11 16 lr
def AS3:Y.Bu []:=AaU Xs
def AS4:Y.Bu []:=AaR 11 16 Xt
def l9:Y.Bu []:=AaQ AS3 AS4
def AS5:Y.Bu []:=AaN l9
def AS6:Y.Bu []:=AaQ AS2 AS5
def ACd:Y.Bu []:=AaQ AS1 AS6
def AS7:Y.Bu []:=AaR 15 20 ACd
def AS8:Y.Bu []:=AaU lq
def AS9:Y.Bu []:=AaR 11 16 lu
def ATA:Y.Bu []:=AaR 15 20 l9
def ATB:Y.Bu []:=AaQ AS9 ATA
def ACe:Y.Bu []:=AaQ AS8 ATB
def ATC:Y.Bu []:=AaN ACe
def ATD:Y.Bu []:=AaQ AS7 ATC
def ATE:Y.Bu []:=AaQ AS0 ATD
def ATF:Y.Bu []:=AaQ ASr ATE
def AaV:=fun a=>((.op 2 none [8,10,13,17,21] Hh a):Y.Bu [])
def AKv:Y.Bu []:=AaV ATF
def AKw:Y.Bu []:=AaV ACb
def AKx:Y.Bu []:=AaV ll
def AKy:Y.Bu []:=AaV Xq
def UC:Y.Bu []:=AaV TO
def AKz:Y.Bu []:=AaN UC
def Zo:Y.Bu []:=AaQ AKy AKz
def AK0:Y.Bu []:=AaR 15 20 Zo
def AK1:Y.Bu []:=AaV Xr
def AK2:Y.Bu []:=AaR 15 20 UC
def Zp:Y.Bu []:=AaQ AK1 AK2
def AK3:Y.Bu []:=AaN Zp
def AK4:Y.Bu []:=AaQ AK0 AK3
def qZ:Y.Bu []:=AaQ AKx AK4
def AK5:Y.Bu []:=AaR 11 16 qZ
def AK6:Y.Bu []:=AaV ln
def AK7:Y.Bu []:=AaR 11 16 Zo
def AK8:Y.Bu []:=AaV Xs
def AK9:Y.Bu []:=AaR 11 16 UC
def Zq:Y.Bu []:=AaQ AK8 AK9
def ALA:Y.Bu []:=AaN Zq
def ALB:Y.Bu []:=AaQ AK7 ALA
def qg:Y.Bu []:=AaQ AK6 ALB
def ALC:Y.Bu []:=AaR 15 20 qg
def ALD:Y.Bu []:=AaV lq
def ALE:Y.Bu []:=AaR 11 16 Zp
def ALF:Y.Bu []:=AaR 15 20 Zq
def ALG:Y.Bu []:=AaQ ALE ALF
def qh:Y.Bu []:=AaQ ALD ALG
def ALH:Y.Bu []:=AaN qh
def ALI:Y.Bu []:=AaQ ALC ALH
def ALJ:Y.Bu []:=AaQ AK5 ALI
def ALK:Y.Bu []:=AaQ AKw ALJ
def ALL:Y.Bu []:=AaU ALK
def ALM:Y.Bu []:=AaV ACc
def ALN:Y.Bu []:=AaU qZ
def ALO:Y.Bu []:=AaV lr
def ALP:Y.Bu []:=AaU Zo
def ALQ:Y.Bu []:=AaV Xt
def ALR:Y.Bu []:=AaU UC
def Zr:Y.Bu []:=AaQ ALQ ALR
def ALS:Y.Bu []:=AaN Zr
def ALT:Y.Bu []:=AaQ ALP ALS
def qv:Y.Bu []:=AaQ ALO ALT
def ALU:Y.Bu []:=AaR 15 20 qv
def ALV:Y.Bu []:=AaV lu
def ALW:Y.Bu []:=AaU Zp
def ALX:Y.Bu []:=AaR 15 20 Zr
def ALY:Y.Bu []:=AaQ ALW ALX
def qy:Y.Bu []:=AaQ ALV ALY
def ALZ:Y.Bu []:=AaN qy
def ALa:Y.Bu []:=AaQ ALU ALZ
def ALb:Y.Bu []:=AaQ ALN ALa
def ALc:Y.Bu []:=AaQ ALM ALb
def ALd:Y.Bu []:=AaR 11 16 ALc
def ALe:Y.Bu []:=AaV ACd
def ALf:Y.Bu []:=AaU qg
def ALg:Y.Bu []:=AaR 11 16 qv
def ALh:Y.Bu []:=AaV l9
def ALi:Y.Bu []:=AaU Zq
def ALj:Y.Bu []:=AaR 11 16 Zr
def ALk:Y.Bu []:=AaQ ALi ALj
def rA:Y.Bu []:=AaQ ALh ALk
def ALl:Y.Bu []:=AaN rA
def ALm:Y.Bu []:=AaQ ALg ALl
def ALn:Y.Bu []:=AaQ ALf ALm
def ALo:Y.Bu []:=AaQ ALe ALn
def ALp:Y.Bu []:=AaR 15 20 ALo
def ALq:Y.Bu []:=AaV ACe
def ALr:Y.Bu []:=AaU qh
def ALs:Y.Bu []:=AaR 11 16 qy
def ALt:Y.Bu []:=AaR 15 20 rA
def ALu:Y.Bu []:=AaQ ALs ALt
def ALv:Y.Bu []:=AaQ ALr ALu
def ALw:Y.Bu []:=AaQ ALq ALv
def ALx:Y.Bu []:=AaN ALw
def ALy:Y.Bu []:=AaQ ALp ALx
def ALz:Y.Bu []:=AaQ ALd ALy
def AL0:Y.Bu []:=AaQ ALL ALz
def AL1:Y.Bu []:=AaQ AKv AL0
def AL2:Y.Bu []:=(.op 17 none [] (.ld 22 none (.tmp 21)) AL1)
def AL3:Y.Bu []:=(.op 16 none [] (.fa 21 14 (.tmp 1)) AL2)
def AL4:Y.Bu []:=(.op 13 none [] (.ld 18 none (.tmp 17)) AL3)
def AL5:Y.Bu []:=(.op 12 none [] (.fa 17 13 (.tmp 1)) AL4)
def AL6:Y.Bu []:=(.op 9 none [] (.ld 14 none (.tmp 13)) AL5)
def AL7:Y.Bu []:=(.op 8 none [] (.fa 13 11 (.tmp 1)) AL6)
def AL8:Y.Bu []:=(.op 6 none [] (.ld 11 none (.tmp 10)) AL7)
def AL9:Y.Bu []:=(.op 5 none [] (.fa 10 10 (.tmp 1)) AL8)
def AMA:Y.Bu []:=(.op 4 none [] (.ld 9 none (.tmp 8)) AL9)
def AMB:Y.Bu []:=(.op 3 none [] (.fa 8 9 (.tmp 1)) AMA)
def AMC:Y.Bu []:=(.op 1 none [] (.ld 6 (some 9) (.tmp 5)) AMB)
def AMD:Y.Bu []:=(.op 0 none [] (.fa 5 0 (.tmp 1)) AMC)
def AZL:YF:=⟨[],[.v (.st 8)],[],.ret [(.st 8)],[.cell 2 (some 15)],sq [qu 1 0,.alloc 2 ET,.VO [(.cell 2 0,.i),(.cell 2 11,(.st 2)),(.cell 2 12,(.st 7)),(.cell 2 13,.i),(.cell 2 14,.i)]] [1,2] (.seq (.U5 AMD [1,2,3]) (.join [cx 3 (.st 8)] (sq [qK 4 0] (Kp 30) (bl 0 [cv 4 .i,cx 3 (.st 8)] (.seq (sw 25 [wm 4,wo 12 1,wL,wZ,wB .lss 25] (Kp 536870942) (ce 29 (Kp 30) [2,3] 0)) (.seq (.block 1 (.U5 (qd 0 [wn 32 [wo 12 3,wL,wo 12 1,wL,wm 4,wE (.st 7) 35,wK 7]] (.op 7 none [32] (.call 39 AOo [] rfl [(.tmp 38)]) (.op 8 none [32] (.CB 40 1 (.st 7) [(0,(.tmp 39))]) (qd 9 [wn 41 [wh (.app · (.st 7) false (.tmp 33) (.tmp 40)),wo 12 3],qn [qw 1 42 41]] .nil)))) [1,2,3,4])) (qr [wn 30 [wm 4,wI .add 1],qn [qa 4 31]] (Kp 30)))))) (sq [qL 43 15 3,qw 15 2 43] [2] .ret)))⟩
def DB(a:AE)(c:Ab)(X2:AA AE):AA AE:=gd (0+a.A4.length<=lim) (CW c c (ev6 a.Now a.Av ([]++a.AG) ([]:List Ae) ([]++a.BA) ([]++a.A4) X2))
def CV(a:AE)(c:Ab)(X4:AA AE):AA AE:=gd (0+a.BA.length<=lim) (gd (0+a.A4.length<=lim) (CW c c (ev6 a.Now a.Av ([]++a.AG) ([]:List Ae) ([]++a.BA) ([]++a.A4) X4)))
def zi(a:AE)(c:Ab)(X5:AA AE):AA AE:=gd (0+a.BA.length<=lim) (gd (0+a.A4.length<=lim) (alt (CV a c) (CW c c (ev6 a.Now a.Av ([]++a.AG) ([]:List Ae) ([]++a.BA) ([]++a.A4) X5))))
def MD(a:AE)(c:Ab)(X3:AA AE):AA AE:=gd (0+a.BA.length<=lim) (gd (0+a.A4.length<=lim) (alt (DB a c) (alt (CV a c) (alt (zi a c) (CW c c (ev6 a.Now a.Av ([]++a.AG) ([]:List Ae) ([]++a.BA) ([]++a.A4) X3))))))
def zj(a:AE)(c:Ab)(X7:AA AE):AA AE:=gd (0+a.BA.length<=lim) (gd (0+a.A4.length<=lim) (alt (CV a c) (alt (CV a c) (CW c c (ev6 a.Now a.Av ([]++a.AG) ([]:List Ae) ([]++a.BA) ([]++a.A4) X7)))))
def fS(a:AE)(c:Ab)(X6:AA AE):AA AE:=gd (0+a.BA.length<=lim) (gd (0+a.A4.length<=lim) (alt (DB a c) (alt (CV a c) (alt (CV a c) (alt (zj a c) (CW c c (ev6 a.Now a.Av ([]++a.AG) ([]:List Ae) ([]++a.BA) ([]++a.A4) X6)))))))
def C1(a:AE)(c:Ab)(X10:AA AE):AA AE:=gd (0+a.AG.length<=lim) (gd (0+a.BA.length<=lim) (gd (0+a.A4.length<=lim) (CW c c (ev6 a.Now a.Av ([]++a.AG) ([]:List Ae) ([]++a.BA) ([]++a.A4) X10))))
def oN(a:AE)(c:Ab)(X11:AA AE):AA AE:=gd (0+a.AG.length<=lim) (gd (0+a.BA.length<=lim) (gd (0+a.A4.length<=lim) (alt (CV a c) (alt (C1 a c) (CW c c (ev6 a.Now a.Av ([]++a.AG) ([]:List Ae) ([]++a.BA) ([]++a.A4) X11))))))
def Pp(a:AE)(c:Ab)(X9:AA AE):AA AE:=gd (0+a.AG.length<=lim) (gd (0+a.BA.length<=lim) (gd (0+a.A4.length<=lim) (alt (DB a c) (alt (CV a c) (alt (C1 a c) (alt (oN a c) (CW c c (ev6 a.Now a.Av ([]++a.AG) ([]:List Ae) ([]++a.BA) ([]++a.A4) X9))))))))
def Yk(a:AE)(c:Ab)(X14:AA AE):AA AE:=gd (0+a.AG.length<=lim) (gd (0+a.BA.length<=lim) (gd (0+a.A4.length<=lim) (alt (C1 a c) (CW c c (ev6 a.Now a.Av ([]++a.AG) ([]:List Ae) ([]++a.BA) ([]++a.A4) X14)))))
def NT(a:AE)(c:Ab)(X13:AA AE):AA AE:=gd (0+a.AG.length<=lim) (gd (0+a.BA.length<=lim) (gd (0+a.A4.length<=lim) (alt (DB a c) (alt (CV a c) (alt (C1 a c) (alt (Yk a c) (CW c c (ev6 a.Now a.Av ([]++a.AG) ([]:List Ae) ([]++a.BA) ([]++a.A4) X13))))))))
def NU(a:AE)(c:Ab)(X16:AA AE):AA AE:=gd (0+a.AG.length<=lim) (gd (0+a.BA.length<=lim) (gd (0+a.A4.length<=lim) (alt (CV a c) (alt (C1 a c) (alt (Yk a c) (CW c c (ev6 a.Now a.Av ([]++a.AG) ([]:List Ae) ([]++a.BA) ([]++a.A4) X16)))))))
def oQ(a:AE)(c:Ab)(X15:AA AE):AA AE:=gd (0+a.AG.length<=lim) (gd (0+a.BA.length<=lim) (gd (0+a.A4.length<=lim) (alt (CV a c) (alt (CV a c) (alt (NU a c) (CW c c (ev6 a.Now a.Av ([]++a.AG) ([]:List Ae) ([]++a.BA) ([]++a.A4) X15)))))))
def oO(a:AE)(c:Ab)(X12:AA AE):AA AE:=gd (0+a.AG.length<=lim) (gd (0+a.BA.length<=lim) (gd (0+a.A4.length<=lim) (alt (DB a c) (alt (CV a c) (alt (CV a c) (alt (NT a c) (alt (oQ a c) (CW c c (ev6 a.Now a.Av ([]++a.AG) ([]:List Ae) ([]++a.BA) ([]++a.A4) X12)))))))))
def fT(a:AE)(c:Ab)(X8:AA AE):AA AE:=gd (0+a.AG.length<=lim) (gd (0+a.BA.length<=lim) (gd (0+a.A4.length<=lim) (alt (DB a c) (alt (DB a c) (alt (MD a c) (alt (Pp a c) (alt (oO a c) (CW c c (ev6 a.Now a.Av ([]++a.AG) ([]:List Ae) ([]++a.BA) ([]++a.A4) X8)))))))))
def oS(a:AE)(c:Ab)(X19:AA AE):AA AE:=gd (0+a.AG.length<=lim) (gd (0+a.BA.length<=lim) (gd (0+a.A4.length<=lim) (alt (CV a c) (alt (C1 a c) (alt (C1 a c) (CW c c (ev6 a.Now a.Av ([]++a.AG) ([]:List Ae) ([]++a.BA) ([]++a.A4) X19)))))))
def Yl(a:AE)(c:Ab)(X18:AA AE):AA AE:=gd (0+a.AG.length<=lim) (gd (0+a.BA.length<=lim) (gd (0+a.A4.length<=lim) (alt (DB a c) (alt (CV a c) (alt (C1 a c) (alt (C1 a c) (alt (oS a c) (CW c c (ev6 a.Now a.Av ([]++a.AG) ([]:List Ae) ([]++a.BA) ([]++a.A4) X18)))))))))
def Yn(a:AE)(c:Ab)(X22:AA AE):AA AE:=gd (0+a.AG.length<=lim) (gd (0+a.BA.length<=lim) (gd (0+a.A4.length<=lim) (alt (C1 a c) (alt (C1 a c) (CW c c (ev6 a.Now a.Av ([]++a.AG) ([]:List Ae) ([]++a.BA) ([]++a.A4) X22))))))
def Ym(a:AE)(c:Ab)(X21:AA AE):AA AE:=gd (0+a.AG.length<=lim) (gd (0+a.BA.length<=lim) (gd (0+a.A4.length<=lim) (alt (DB a c) (alt (CV a c) (alt (C1 a c) (alt (C1 a c) (alt (Yn a c) (CW c c (ev6 a.Now a.Av ([]++a.AG) ([]:List Ae) ([]++a.BA) ([]++a.A4) X21)))))))))
def Yo(a:AE)(c:Ab)(X24:AA AE):AA AE:=gd (0+a.AG.length<=lim) (gd (0+a.BA.length<=lim) (gd (0+a.A4.length<=lim) (alt (CV a c) (alt (C1 a c) (alt (C1 a c) (alt (Yn a c) (CW c c (ev6 a.Now a.Av ([]++a.AG) ([]:List Ae) ([]++a.BA) ([]++a.A4) X24))))))))
def oU(a:AE)(c:Ab)(X23:AA AE):AA AE:=gd (0+a.AG.length<=lim) (gd (0+a.BA.length<=lim) (gd (0+a.A4.length<=lim) (alt (CV a c) (alt (CV a c) (alt (NU a c) (alt (Yo a c) (CW c c (ev6 a.Now a.Av ([]++a.AG) ([]:List Ae) ([]++a.BA) ([]++a.A4) X23))))))))
def oT(a:AE)(c:Ab)(X20:AA AE):AA AE:=gd (0+a.AG.length<=lim) (gd (0+a.BA.length<=lim) (gd (0+a.A4.length<=lim) (alt (DB a c) (alt (CV a c) (alt (CV a c) (alt (NT a c) (alt (Ym a c) (alt (oU a c) (CW c c (ev6 a.Now a.Av ([]++a.AG) ([]:List Ae) ([]++a.BA) ([]++a.A4) X20))))))))))
def oR(a:AE)(c:Ab)(X17:AA AE):AA AE:=gd (0+a.AG.length<=lim) (gd (0+a.BA.length<=lim) (gd (0+a.A4.length<=lim) (alt (DB a c) (alt (DB a c) (alt (MD a c) (alt (Pp a c) (alt (Yl a c) (alt (oT a c) (CW c c (ev6 a.Now a.Av ([]++a.AG) ([]:List Ae) ([]++a.BA) ([]++a.A4) X17))))))))))
def IU(a:AE)(c:Ab)(X31:AA AE):AA AE:=bd (Gr a.AS) fun e=>gd (0+a.AG.length<=lim) (gd (0+a.BA.length<=lim) (gd (0+a.A4.length<=lim) (CW c e (ev6 a.Now a.Av ([]++a.AG) ([]:List Ae) ([]++a.BA) ([]++a.A4) X31))))
def oX(a:AE)(e:Ab)(X33:AA AE):AA AE:=bd (Gr a.AS) fun c=>gd (0+a.AG.length<=lim) (gd (0+a.BA.length<=lim) (gd (0+a.A4.length<=lim) (alt (CV a c) (alt (C1 a c) (alt (IU a c) (CW e c (ev6 a.Now a.Av ([]++a.AG) ([]:List Ae) ([]++a.BA) ([]++a.A4) X33)))))))
def Yp(a:AE)(e:Ab)(X29:AA AE):AA AE:=bd (Gr a.AS) fun c=>gd (0+a.AG.length<=lim) (gd (0+a.BA.length<=lim) (gd (0+a.A4.length<=lim) (alt (DB a c) (alt (CV a c) (alt (C1 a c) (alt (IU a c) (alt (oX a c) (CW e c (ev6 a.Now a.Av ([]++a.AG) ([]:List Ae) ([]++a.BA) ([]++a.A4) X29)))))))))
def Yr(a:AE)(e:Ab)(X39:AA AE):AA AE:=bd (Gr a.AS) fun c=>gd (0+a.AG.length<=lim) (gd (0+a.BA.length<=lim) (gd (0+a.A4.length<=lim) (alt (C1 a c) (alt (IU a c) (CW e c (ev6 a.Now a.Av ([]++a.AG) ([]:List Ae) ([]++a.BA) ([]++a.A4) X39))))))
def Yq(a:AE)(e:Ab)(X37:AA AE):AA AE:=bd (Gr a.AS) fun c=>gd (0+a.AG.length<=lim) (gd (0+a.BA.length<=lim) (gd (0+a.A4.length<=lim) (alt (DB a c) (alt (CV a c) (alt (C1 a c) (alt (IU a c) (alt (Yr a c) (CW e c (ev6 a.Now a.Av ([]++a.AG) ([]:List Ae) ([]++a.BA) ([]++a.A4) X37)))))))))
def Ys(a:AE)(e:Ab)(X43:AA AE):AA AE:=bd (Gr a.AS) fun c=>gd (0+a.AG.length<=lim) (gd (0+a.BA.length<=lim) (gd (0+a.A4.length<=lim) (alt (CV a c) (alt (C1 a c) (alt (IU a c) (alt (Yr a c) (CW e c (ev6 a.Now a.Av ([]++a.AG) ([]:List Ae) ([]++a.BA) ([]++a.A4) X43))))))))
def oZ(a:AE)(e:Ab)(X41:AA AE):AA AE:=bd (Gr a.AS) fun c=>gd (0+a.AG.length<=lim) (gd (0+a.BA.length<=lim) (gd (0+a.A4.length<=lim) (alt (CV a c) (alt (CV a c) (alt (NU a c) (alt (Ys a c) (CW e c (ev6 a.Now a.Av ([]++a.AG) ([]:List Ae) ([]++a.BA) ([]++a.A4) X41))))))))
def oY(a:AE)(e:Ab)(X35:AA AE):AA AE:=bd (Gr a.AS) fun c=>gd (0+a.AG.length<=lim) (gd (0+a.BA.length<=lim) (gd (0+a.A4.length<=lim) (alt (DB a c) (alt (CV a c) (alt (CV a c) (alt (NT a c) (alt (Yq a c) (alt (oZ a c) (CW e c (ev6 a.Now a.Av ([]++a.AG) ([]:List Ae) ([]++a.BA) ([]++a.A4) X35))))))))))
def oW(a:AE)(e:Ab)(X27:AA AE):AA AE:=bd (Gr a.AS) fun c=>gd (0+a.AG.length<=lim) (gd (0+a.BA.length<=lim) (gd (0+a.A4.length<=lim) (alt (DB a c) (alt (DB a c) (alt (MD a c) (alt (Pp a c) (alt (Yp a c) (alt (oY a c) (CW e c (ev6 a.Now a.Av ([]++a.AG) ([]:List Ae) ([]++a.BA) ([]++a.A4) X27))))))))))
def Tq(a:AE)(e:Ab)(X53:AA AE):AA AE:=bd (Gr a.AS) fun c=>gd (0+a.AG.length<=lim) (gd (0+a.BA.length<=lim) (gd (0+a.A4.length<=lim) (alt (IU a c) (CW e c (ev6 a.Now a.Av ([]++a.AG) ([]:List Ae) ([]++a.BA) ([]++a.A4) X53)))))
def Yt(a:AE)(e:Ab)(X51:AA AE):AA AE:=bd (Gr a.AS) fun c=>gd (0+a.AG.length<=lim) (gd (0+a.BA.length<=lim) (gd (0+a.A4.length<=lim) (alt (DB a c) (alt (CV a c) (alt (C1 a c) (alt (IU a c) (alt (Tq a c) (CW e c (ev6 a.Now a.Av ([]++a.AG) ([]:List Ae) ([]++a.BA) ([]++a.A4) X51)))))))))
def Yu(a:AE)(e:Ab)(X57:AA AE):AA AE:=bd (Gr a.AS) fun c=>gd (0+a.AG.length<=lim) (gd (0+a.BA.length<=lim) (gd (0+a.A4.length<=lim) (alt (CV a c) (alt (C1 a c) (alt (IU a c) (alt (Tq a c) (CW e c (ev6 a.Now a.Av ([]++a.AG) ([]:List Ae) ([]++a.BA) ([]++a.A4) X57))))))))
def ot(a:AE)(e:Ab)(X55:AA AE):AA AE:=bd (Gr a.AS) fun c=>gd (0+a.AG.length<=lim) (gd (0+a.BA.length<=lim) (gd (0+a.A4.length<=lim) (alt (CV a c) (alt (C1 a c) (alt (C1 a c) (alt (Yu a c) (CW e c (ev6 a.Now a.Av ([]++a.AG) ([]:List Ae) ([]++a.BA) ([]++a.A4) X55))))))))
def oh(a:AE)(e:Ab)(X49:AA AE):AA AE:=bd (Gr a.AS) fun c=>gd (0+a.AG.length<=lim) (gd (0+a.BA.length<=lim) (gd (0+a.A4.length<=lim) (alt (DB a c) (alt (CV a c) (alt (C1 a c) (alt (C1 a c) (alt (Yt a c) (alt (ot a c) (CW e c (ev6 a.Now a.Av ([]++a.AG) ([]:List Ae) ([]++a.BA) ([]++a.A4) X49))))))))))
def og(a:AE)(e:Ab)(X47:AA AE):AA AE:=bd (Gr a.AS) fun c=>gd (0+a.AG.length<=lim) (gd (0+a.BA.length<=lim) (gd (0+a.A4.length<=lim) (alt (DB a c) (alt (DB a c) (alt (MD a c) (alt (Pp a c) (alt (Yp a c) (alt (oh a c) (CW e c (ev6 a.Now a.Av ([]++a.AG) ([]:List Ae) ([]++a.BA) ([]++a.A4) X47))))))))))
def o7(a:AE)(e:Ab)(X67:AA AE):AA AE:=bd (Gr a.AS) fun c=>gd (0+a.AG.length<=lim) (gd (0+a.BA.length<=lim) (gd (0+a.A4.length<=lim) (alt (C1 a c) (alt (IU a c) (alt (Tq a c) (CW e c (ev6 a.Now a.Av ([]++a.AG) ([]:List Ae) ([]++a.BA) ([]++a.A4) X67)))))))
def Yv(a:AE)(e:Ab)(X65:AA AE):AA AE:=bd (Gr a.AS) fun c=>gd (0+a.AG.length<=lim) (gd (0+a.BA.length<=lim) (gd (0+a.A4.length<=lim) (alt (C1 a c) (alt (C1 a c) (alt (o7 a c) (CW e c (ev6 a.Now a.Av ([]++a.AG) ([]:List Ae) ([]++a.BA) ([]++a.A4) X65)))))))
def o6(a:AE)(e:Ab)(X63:AA AE):AA AE:=bd (Gr a.AS) fun c=>gd (0+a.AG.length<=lim) (gd (0+a.BA.length<=lim) (gd (0+a.A4.length<=lim) (alt (DB a c) (alt (CV a c) (alt (C1 a c) (alt (C1 a c) (alt (Yt a c) (alt (Yv a c) (CW e c (ev6 a.Now a.Av ([]++a.AG) ([]:List Ae) ([]++a.BA) ([]++a.A4) X63))))))))))
def oz(a:AE)(e:Ab)(X61:AA AE):AA AE:=bd (Gr a.AS) fun c=>gd (0+a.AG.length<=lim) (gd (0+a.BA.length<=lim) (gd (0+a.A4.length<=lim) (alt (DB a c) (alt (CV a c) (alt (CV a c) (alt (NT a c) (alt (Yq a c) (alt (o6 a c) (CW e c (ev6 a.Now a.Av ([]++a.AG) ([]:List Ae) ([]++a.BA) ([]++a.A4) X61))))))))))
def pA(a:AE)(e:Ab)(X73:AA AE):AA AE:=bd (Gr a.AS) fun c=>gd (0+a.AG.length<=lim) (gd (0+a.BA.length<=lim) (gd (0+a.A4.length<=lim) (alt (CV a c) (alt (C1 a c) (alt (C1 a c) (alt (Yu a c) (alt (Yv a c) (CW e c (ev6 a.Now a.Av ([]++a.AG) ([]:List Ae) ([]++a.BA) ([]++a.A4) X73)))))))))
def o9(a:AE)(e:Ab)(X71:AA AE):AA AE:=bd (Gr a.AS) fun c=>gd (0+a.AG.length<=lim) (gd (0+a.BA.length<=lim) (gd (0+a.A4.length<=lim) (alt (CV a c) (alt (CV a c) (alt (NU a c) (alt (Ys a c) (alt (pA a c) (CW e c (ev6 a.Now a.Av ([]++a.AG) ([]:List Ae) ([]++a.BA) ([]++a.A4) X71)))))))))
def o8(a:AE)(e:Ab)(X69:AA AE):AA AE:=bd (Gr a.AS) fun c=>gd (0+a.AG.length<=lim) (gd (0+a.BA.length<=lim) (gd (0+a.A4.length<=lim) (alt (CV a c) (alt (CV a c) (alt (NU a c) (alt (Yo a c) (alt (o9 a c) (CW e c (ev6 a.Now a.Av ([]++a.AG) ([]:List Ae) ([]++a.BA) ([]++a.A4) X69)))))))))
def ou(c:AE)(e:Ab)(X59:AA AE):AA AE:=bd (Gr c.AS) fun a=>gd (0+c.AG.length<=lim) (gd (0+c.BA.length<=lim) (gd (0+c.A4.length<=lim) (alt (DB c a) (alt (CV c a) (alt (CV c a) (alt (NT c a) (alt (Ym c a) (alt (oz c a) (alt (o8 c a) (CW e a (ev6 c.Now c.Av ([]++c.AG) ([]:List Ae) ([]++c.BA) ([]++c.A4) X59)))))))))))
def oe(c:AE)(e:Ab)(X45:AA AE):AA AE:=bd (Gr c.AS) fun a=>gd (0+c.AG.length<=lim) (gd (0+c.BA.length<=lim) (gd (0+c.A4.length<=lim) (alt (DB c a) (alt (DB c a) (alt (MD c a) (alt (Pp c a) (alt (Yl c a) (alt (og c a) (alt (ou c a) (CW e a (ev6 c.Now c.Av ([]++c.AG) ([]:List Ae) ([]++c.BA) ([]++c.A4) X45)))))))))))
def oV(c:AE)(e:Ab)(X25:AA AE):AA AE:=bd (Gr c.AS) fun a=>gd (0+c.AG.length<=lim) (gd (0+c.BA.length<=lim) (gd (0+c.A4.length<=lim) (alt (DB c a) (alt (DB c a) (alt (MD c a) (alt (fS c a) (alt (fT c a) (alt (oW c a) (alt (oe c a) (CW e a (ev6 c.Now c.Av ([]++c.AG) ([]:List Ae) ([]++c.BA) ([]++c.A4) X25)))))))))))
def pB(a:AE):AA AE:=some a
def Yw(j:AE)(g:Int×AE->AA AE)(q:Int×AE):AA AE:=let (c,a):=q;br (decide (c<j.AI.length)) (bd (at? j.AI c) fun h=>bd (AG7 h) fun e=>gd (a.AI.length+[e].length<=lim) (g (w64 (c+1),AE.mk a.AS a.Now a.Av a.AG (a.AI++[e]) a.BA a.A4))) (jn pB a)
def Nr(a:AE):AA AE:=bd (Gr a.AS) fun c=>gd (0+a.AG.length<=lim) (gd (0+a.BA.length<=lim) (gd (0+a.A4.length<=lim) (alt (DB a c) (alt (DB a c) (alt (MD a c) (alt (fS a c) (alt (fT a c) (alt (oR a c) (alt (oV a c) (BB (Yw a) big (0,AE.mk c a.Now a.Av ([]++a.AG) [] ([]++a.BA) ([]++a.A4))))))))))))
def MZ:GF:=AZL.EY (Bd Nr)
def aQ(a:Af):AA Af:=bd (Nr a.Bb) fun c=>gd (0+a.Laid.length<=lim) (bd (Nr a.Bb) fun e=>gd (0+a.Laid.length<=lim) (Lr c e (xm a.A9 a.A9 (ev2 a.Seq ([]++a.Laid) (some (Af.mk c a.A9 a.Seq ([]++a.Laid)))))))
def kH:=gZ ZC kP kR ["nEeQObljym4qhK0rjFtz1HfynV6lYAV750ou8fadDudpjdDsqJcJ8bqrZIJhFsEpk0qVvJ9urfG1D3kv","azGaTsBFv8oqPEmxsA11Q9Y0iWqMxYU9ZL9"] [MZ] (Bd aQ)
def zk(a:B1):AA (List UInt8):=bd (sW a) fun c=>br (!c) (some []) (br (a.Kind==1) (bd (aO ([a.Kind,a.Id,a.Aa,w64 (a.Bl+1),a.BC,a.Cs])) fun e=>some e) (br (a.Kind==3) (bd (aO ([a.Kind,a.Aa,a.BC])) fun g=>some g) (br (a.Kind==6) (bd (aO [a.Kind]) fun h=>some h) (bd (aO ([a.Kind,a.Id])) fun j=>some j))))
def AEI:=gZ [.v (.st 0)] O9 DD ["1vemdT3Ce9I8hE8ChxVuv2U2ZM1fzIr46OgG7GjlTY1OHNHQdDr8lRWDmO05lAinnLIMOn5ukmQwpe4z","sIL4VY7CN0TdciwytZ2mEEmL9ybbMQsRUgsvcKV9HI8M9dWHh"] [ABp,AD8] (Bd zk)
def fU(h:Int)(a:List UInt8)(j:Bool):AA (List UInt8):=br j (some []) (bd (eY h) fun c=>gd (g0 c+a.length<=OI) (bd (zI (c++a)) fun q=>bd (zL q) fun e=>gd (g0 e+(c++a).length<=OI) (bd (eY (↑(e++(c++a)).length:Int)) fun g=>gd (g0 g+(e++(c++a)).length<=OI) (some (g++(e++(c++a)))))))
def zl(a:Int)(c:List UInt8):AA (List UInt8):=bd (Eb a 1 1000000) fun e=>br (!e) (jn (fU a c) true) (bd (Eb (↑c.length:Int) 1 60) fun g=>jn (fU a c) (!g))
def AEJ:=gZ [.v .i,.v .s] O9 Cv ["8Iv6btKgm9Rn4JZgfFivI3McuJ5lF9WxNj4NCL5pqCqsxzyoGDSo9vhLqpHoKnOo7NZR53g7WD"] [Hz,AD7,AD9,AEA] (BF zl) [.M9 22 (.tmp 21)]
def zm(c:Int)(e:B1):AA (List UInt8):=bd (zk e) fun a=>br (a==[]) (some []) (bd (zl c a) fun g=>some g)
def AOp:=gZ [.v .i,.v (.st 0)] O9 Cv ["51Ql7Xa9MCrtmPGAHjm2rPVjq5xQor9BTM5"] [AEI,AEJ] (BF zm)
def fW(a:B0)(c:List UInt8)(e:Bool):AA (B0×Bool):=br e (some (a,false)) (gd (a.Data.length+c.length<=OI) (some (B0.mk (a.Data++c) a.Safe,true)))
def fV(a:B0)(c:List UInt8):AA (B0×Bool):=bd (bW a) fun e=>br (!e) (jn (fW a c) true) (jn (fW a c) (decide ((↑c.length:Int)>w64 (20000-(↑a.Data.length:Int)))))
def AEK:=gZ [.v (.st 9),.v .s] kQ kS ["13maHtozYWNqcYaNwLvjLxxsQCSYMcBKKbb7JojooeHvQW7O880jITwcGYtkDU62ypS"] [j9] (BF fV)
def fZ(e:Af)(c:B1)(a:Af)(h:B0×Bool)(g:Bool):AA (Af×Int):=br g (some (a,24)) (gd (a.Laid.length+[c].length<=lim) (some (Af.mk a.Bb (Bo.mk h.fst a.A9.FH a.A9.Odd) (w64 (e.Seq+1)) (a.Laid++[c]),0)))
def fY(a:Af)(e:B1):AA (Af×Int):=bd (aQ a) fun g=>bd (yc a) fun y=>br (!y) (some (g,21)) (bd (sW e) fun B=>br (!B) (some (g,22)) (br (a.Seq==1000000) (some (g,23)) (bd (zm (w64 (a.Seq+1)) e) fun h=>bd (fV a.A9.Log h) fun c=>bd (fV a.A9.Log h) fun j=>eqv c.snd j.snd (TZ c.fst j.fst (bd (zm (w64 (a.Seq+1)) e) fun E=>bd (fV a.A9.Log E) fun q=>eqv c.snd q.snd (TZ c.fst q.fst (br ((↑a.Laid.length:Int)==8) (jn (fZ a e g c) true) (jn (fZ a e g c) (!c.snd)))))))))
def uC:=gZ [.v (.st 11),.v (.st 0)] (.ret [(.st 11),.i]) kU ["QNu0N2d3Ftxiedo3QiCmUEdMSvgaQrtXMozXxo40xe9Zp1DnNuj9Hjay4iF4kQ8RWgzRddc0GGC5T1NG","9vzcuCW9F6XGr5sRYpY6UZL45OxqcPmKZBDLoIkfNtqV67X7hfKLnbhSxJmi5UvyWafsNysBDEl4Fmdy","xJ5oqywH7wxiAjYGlIyjEO0IY94Pz7hyMj1ShrdxKWxb8DFxrSzrmqw7DH2UtpgOkoJgUznMm7rqqbYK","wN0xHjDNmSx3goheqILKvbb2eJyvHA7eSlwcbY945a9ANipqnse3fhkFRi4wDn"] [kH,py,ABp,AOp,AEK] (BF fY)
def WV(a:List Ai):AA (List Ai):=gd (0+a.length<=lim) (some a)
def uD:=gZ ud ZI DD ["5oLJZDwt2sLJpC"] [] (Bd WV)
def zn(a:Aq):AA Aq:=some a
def zp(g:Aq)(h:Int×Aq->AA Aq)(j:Int×Aq):AA Aq:=let (a,c):=j;br (decide (a<g.Am.length)) (bd (at? g.Am a) fun e=>gd (0+g0 e<=lim) (gd (c.Am.length+[e].length<=lim) (h (w64 (a+1),Aq.mk (c.Am++[e]))))) (jn zn c)
def fb(a:Aq):AA Aq:=BB (zp a) big (0,Aq.mk [])
def uE:=gZ ZB um ux ["DLjX0soExP3XvMAyyTic0Qqybp1KLxsQKdCCa71tIs5wl5xlvtgISrO4gs186BWlanbWILip5ziq7vnJ","j"] [] (Bd fb)
def AG8(a:Ae):AA Ae:=bd (WV a.Row) fun c=>bd (fb a.By) fun e=>some (Ae.mk a.AY c e)
def AOq:=gZ ue kO uy ["A4R4T9H9JbmYEv5f5DhBf42J4Iu42XmJZ7QsmTuUpx"] [uD,uE] (Bd AG8)
def zq(a:AE):AA AE:=some a
def fc(j:AE)(g:Int×AE->AA AE)(q:Int×AE):AA AE:=let (c,a):=q;br (decide (c<j.AI.length)) (bd (at? j.AI c) fun h=>bd (AG8 h) fun e=>gd (a.AI.length+[e].length<=lim) (g (w64 (c+1),AE.mk a.AS a.Now a.Av a.AG (a.AI++[e]) a.BA a.A4))) (jn zq a)
def Ns(a:AE):AA AE:=bd (ze a.AS) fun c=>gd (0+a.AG.length<=lim) (bd (Kk a.BA) fun e=>bd (Kk a.A4) fun g=>bd (Kk a.A4) fun q=>CW c c (ev5 a.Now a.Av a.AG ([]:List Ae) e (eqv g q (bd (Kk a.BA) fun y=>bd (Kk a.A4) fun B=>CW c c (ev4 a.Now a.Av a.AG ([]:List Ae) (eqv e y (eqv g B (gd (0+a.AG.length<=lim) (bd (Kk a.BA) fun E=>bd (Kk a.A4) fun G=>CW c c (ev4 a.Now a.Av a.AG ([]:List Ae) (eqv e E (eqv g G (bd (ze a.AS) fun H=>gd (0+a.AG.length<=lim) (bd (Kk a.BA) fun h=>bd (Kk a.A4) fun j=>CW c H (ev4 a.Now a.Av a.AG ([]:List Ae) (eqv e h (eqv g j (BB (fc a) big (0,AE.mk c a.Now a.Av a.AG [] e g)))))))))))))))))))
def LV:=gZ XP N3 AE4 ["1ZbRY47h7cwaY8wnx72gvXSZyRiuHtPuOdDqpVnyQcPZPicIFgVLfexjTkSuXwvylmLFPjWX6uGEE0LG","EFaAc5SjNwUzosy6KDE8pgUlSrNr8sqqAOnv2Favv3nL9AZCDtW6V097j9XhDhiCJkzHVrmGu4H1antU","CBznSJ4b3VmFPQCAwq9LVb6vz5sWKpz6DwQdcR0K7oD0jv8YBf4uKEY5BbnnzrTNYr51qAS9MRGR5Tzl","BZqH1lrmwvbJ8rezrH5aX5z48lT9tLoU5bm7a02pEKi09TKfbCVFFYYQQEO41KOLXZb7KgwIKox88TCT","5YkgUsEa36490VFJS1MFccAKWVrFltDZkbVQMlPBYh1pw9FsrYOVPKPVwmR4pRr1coCJ0kCqp1DHOqgd","aNuY"] [AOm,Y8,AOq] (Bd Ns)
def zr(a:Af):AA Af:=bd (Ns a.Bb) fun c=>gd (0+a.Laid.length<=lim) (some (Af.mk c a.A9 a.Seq a.Laid))
def AEL:=gZ ZC kP kR ["12JiUadshI2BShXAT2Ihf708Gzxe3ESXdkUF9unO8iHZOViE5C5bep0"] [LV] (Bd zr)
def SP(a:List Int):AA (List UInt8):=bd (yt a) fun c=>some c
def AG9(a:B1):AA (List UInt8):=bd (aN a) fun c=>br (!c) (some []) (br (a.Kind==1) (gd ([a.Kind].length+[a.Id,a.Aa,w64 (a.Bl+1),a.BC,a.Cs].length<=lim) (jn SP ([a.Kind]++[a.Id,a.Aa,w64 (a.Bl+1),a.BC,a.Cs]))) (br (a.Kind==3) (gd ([a.Kind].length+[a.Aa,a.BC].length<=lim) (jn SP ([a.Kind]++[a.Aa,a.BC]))) (br (a.Kind==6) (jn SP [a.Kind]) (gd ([a.Kind].length+[a.Id].length<=lim) (jn SP ([a.Kind]++[a.Id]))))))
def AOr:=gZ [.v (.st 0)] O9 DD ["3wX4oJMkV4Et6GYQ27qDPaFwUAZKIB377Hi1yuxe6Sl3sVQZIAHiWSbljxhq3z81ye4IIdqJXHENdtsB","iUISw0tA4gQqexBqF8Y40Q9wXKTg77o46mwp9bA0ZsKbo1Reqf9YkD"] [tx,tn] (Bd AG9)
def fh(h:Int)(c:List UInt8)(j:Bool):AA (List UInt8):=br j (some []) (bd (WC h) fun e=>gd (g0 e+c.length<=lim) (bd (yv (e++c)) fun a=>gd ([toB (Du a 24),toB (Du a 16),toB (Du a 8),toB a].length+(e++c).length<=lim) (bd (WC (↑([toB (Du a 24),toB (Du a 16),toB (Du a 8),toB a]++(e++c)).length:Int)) fun g=>gd (g0 g+([toB (Du a 24),toB (Du a 16),toB (Du a 8),toB a]++(e++c)).length<=OI) (some (g++([toB (Du a 24),toB (Du a 16),toB (Du a 8),toB a]++(e++c)))))))
def AHA(a:Int)(c:List UInt8):AA (List UInt8):=bd (C4 a 1 1000000) fun e=>br (!e) (jn (fh a c) true) (bd (C4 (↑c.length:Int) 1 60) fun g=>jn (fh a c) (!g))
def AOs:=gZ [.v .i,.v .s] O9 Cv ["51gDZCGUNGMsfhzzoPeva6egV3T36zAJyZFaS5lsCt7ZuheM6h1sQGUoy89qnbuX7jANhAlEnjikn1Uz","b2WGPk4HrYJLDR5Hq9UaPtcZ399gcqgp7BVTgWKmEFp"] [E6,Y7,tp] (BF AHA)
def fj(a:B0)(c:List UInt8)(e:Bool):AA (B0×Bool):=br e (some (a,false)) (some (B0.mk (a.Data++c) a.Safe,true))
def AHB(a:B0)(c:List UInt8):AA (B0×Bool):=gd (a.Data.length+c.length<=OI) (bd (Pk a) fun e=>br (!e) (jn (fj a c) true) (bd (Pk (B0.mk (a.Data++c) a.Safe)) fun g=>jn (fj a c) (!g)))
def AOt:=gZ [.v (.st 9),.v .s] kQ kS ["1y4IjSVmxDSK1kifOzIIguR0C9vKM7JB09cTnHiROtXlpY0eSGXjm61CtdPLhTuA"] [Su] (BF AHB)
end Lv
