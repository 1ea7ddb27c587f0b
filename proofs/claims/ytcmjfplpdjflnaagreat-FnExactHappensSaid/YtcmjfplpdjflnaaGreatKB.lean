/- Functions of the program as typed texts and as plain functions. -/
import Derived.Test.YtcmjfplpdjflnaaGreatKA
open List renaming length->e9,set->an
noncomputable section
set_option linter.unusedVariables false
set_option linter.unusedSimpArgs false
set_option linter.unusedSectionVars false
set_option maxRecDepth 100000
namespace Lv
open Go (IntKind BinOp UnOp)
open Y (YF qn qf qt qr q1 qd qm qa qo ql qL qb qi qx qp qq qc qz qe qk qK qB qw qu qj Kp wn wf wt w1 sw sq sr wm wM wo wO wl wL wk wK wz wZ wx wX wb wB wi wI wr wR wq wQ we wE wc wY wj wh cv ca cx cn ce bl)
def m7(a:Ae):AA (List Int):=bd (Y6 a) fun c=>br (!c) (some []) (gd ([a.Ce,a.Room,a.BB,a.CE,a.B0,a.Rest,a.Cd,a.C3].length+a.AZ.length<=lim) (some ([a.Ce,a.Room,a.BB,a.CE,a.B0,a.Rest,a.Cd,a.C3]++a.AZ)))
def AD8:=gZ Tr M1 Ca ["1eNDW0kYuaWT2aeOPSFiNmdF3z5tstKCvhCciCXvD9VQgGPUHWoLthUYUf321"] [Xl] (Be m7)
def AbA(c:C):YF:=⟨[],[.v (.st 8)],[],.ret [c],[.tmp 2],sq [qu 1 0,.as 2 (.k .nil)] [1] (.seq (sw 11 [wk 15 1,wY Tj rfl,wX] [1,13] (cn 13 [1] (sq [.as 2 (.k .nil)] [2] .ret))) (sr [wn 14 [wo 0 1,wK 9,wY AD8 rfl],qn [qa 3 16]] [1,3] (sr [wn 17 [wm 3,wZ,wh (.B9 · 1 .i [(0,(.tmp 18))]),wm 3,wh (.app · .i true (.tmp 19) (.tmp 20))],qn [qa 4 21]] [1,4] (sr [wn 22 [wm 4,wo 9 1,wL,wo 10 1,wL,wo 11 1,wL,wZ,wh (.B9 · 3 .i [(0,(.tmp 24)),(1,(.tmp 26)),(2,(.tmp 29))]),wh (.app · .i true (.tmp 22) (.tmp 30))],qn [qa 4 31]] [1,4] (.join [cv 4 (.l .i)] (sw 32 [wo 11 1,wL,wZ,wj 0] (Kp 60129542162) (bl 0 [cv 4 (.l .i),cv 35 .i] (sq [qb 36 .lss 35 34] (Kp 128849018898) (.seq (ce 36 (Kp 60129542162) [1,4] 0) (.seq (.block 1 (sr [wn 37 [we (.st 2) 33 35,wK 10],qn [.alloc 6 AXo,qw 10 6 38]] (Kp 60129542226) (qr [wn 39 [wm 4,wo 0 6,wL,wo 1 6,wL,wo 2 6,wL,wI .add 1,wo 3 6,wL,wo 4 6,wL,wo 5 6,wL,wo 6 6,wL,wo 7 6,wL,wo 8 6,wL,wo 9 6,wL,wh (.B9 · 10 .i [(0,(.tmp 41)),(1,(.tmp 43)),(2,(.tmp 46)),(3,(.tmp 48)),(4,(.tmp 50)),(5,(.tmp 52)),(6,(.tmp 54)),(7,(.tmp 56)),(8,(.tmp 58)),(9,(.tmp 60))]),wh (.app · .i true (.tmp 39) (.tmp 61))],qn [qa 4 62]] (Kp 60129542162)))) (q1 [qi 63 .add 35 1,qm 35 63] (Kp 60129542162))))))) (.join [cv 4 (.l .i)] (sw 64 [wo 12 1,wL,wZ,wj 0] [1,4,65,66,67] (bl 2 [cv 4 (.l .i),cv 67 .i] (sq [qb 68 .lss 67 66] [1,4,65,66,67,68] (.seq (ce 68 [1,4,65,66,67] [1,4] 2) (.seq (.block 3 (sr [wn 69 [we (.st 7) 65 67,wK 7],qn [.alloc 8 AXn,.T3 [(.cell 8 5,(.st 4)),(.cell 8 6,(.l (.st 5)))],qw 7 8 70]] [1,4,8,65,66,67] (qr [wn 71 [wm 4,wo 0 8,wO 1,wL,wh (.B9 · 1 .i [(0,(.tmp 74))]),wh (.app · .i true (.tmp 71) (.tmp 75))],qn [qa 4 76]] [1,4,65,66,67]))) (q1 [qi 77 .add 67 1,qm 67 77] [1,4,65,66,67])))))) (sr [wn 78 [wm 4,wo 13 1,wL,wZ,wh (.B9 · 1 .i [(0,(.tmp 81))]),wh (.app · .i true (.tmp 78) (.tmp 82))],qn [qa 4 83]] [1,4] (sr [wn 84 [wm 4,wo 13 1,wL,wh (.app · .i true (.tmp 84) (.tmp 86))],qn [qa 4 87]] [1,4] (.join [cv 4 (.l .i)] (sw 88 [wo 14 1,wL,wZ,wj 0] [4,89,90,91] (bl 4 [cv 4 (.l .i),cv 91 .i] (sq [qb 92 .lss 91 90] [4,89,90,91,92] (.seq (ce 92 [4,89,90,91] [4] 4) (.seq (.block 5 (sr [wn 93 [we .i 89 91,wL],qn [qa 10 94]] [4,10,89,90,91] (qr [wn 95 [wm 4,wm 10,wI .add 1,wh (.B9 · 1 .i [(0,(.tmp 97))]),wh (.app · .i true (.tmp 95) (.tmp 98))],qn [qa 4 99]] [4,89,90,91]))) (q1 [qi 100 .add 91 1,qm 91 100] [4,89,90,91])))))) (sq [qm 101 4,qa 2 101] [2] .ret))))))))))⟩
def AbW:YF:=AbA (.l .i)
def yV(a:List Int):AA (List Int):=some a
def dN(h:AF)(g:List Int×Int->AA (List Int))(j:List Int×Int):AA (List Int):=let (a,c):=j;br (decide (c<h.BC.length)) (bd (at? h.BC c) fun e=>gd (e9 a+[w64 (e+1)].length<=lim) (g (a++[w64 (e+1)],w64 (c+1)))) (jn yV a)
def VB(c:AF)(a:List Int):AA (List Int):=gd (a.length+[(↑c.BE.length:Int)].length<=lim) (gd ((a++[(↑c.BE.length:Int)]).length+c.BE.length<=lim) (A3 (dN c) big (a++[(↑c.BE.length:Int)]++c.BE,0)))
def dM(e:AF)(h:List Int×Int->AA (List Int))(j:List Int×Int):AA (List Int):=let (g,a):=j;br (decide (a<e.AH.length)) (bd (at? e.AH a) fun c=>gd (e9 g+[c.AZ.DY].length<=lim) (h (g++[c.AZ.DY],w64 (a+1)))) (jn (VB e) g)
def VA(a:AF)(c:List Int):AA (List Int):=A3 (dM a) big (c,0)
def dL(c:AF)(h:List Int×Int->AA (List Int))(j:List Int×Int):AA (List Int):=let (e,g):=j;br (decide (g<c.AG.length)) (bd (at? c.AG g) fun a=>gd (e9 e+[a.Id,a.AY,w64 (a.Bk+1),a.BB,a.Cv,a.Since,a.Ay,a.State,a.Cq,a.DB].length<=lim) (h (e++[a.Id,a.AY,w64 (a.Bk+1),a.BB,a.Cv,a.Since,a.Ay,a.State,a.Cq,a.DB],w64 (g+1)))) (jn (VA c) e)
def yU(a:AF):AA (List Int):=bd (Sr a) fun e=>br (!e) none (bd (m7 a.AQ) fun c=>gd ([(↑(e9 c):Int)].length+e9 c<=lim) (gd (([(↑(e9 c):Int)]++c).length+[a.Now,a.Ay,(↑a.AG.length:Int)].length<=lim) (A3 (dL a) big ([(↑(e9 c):Int)]++c++[a.Now,a.Ay,(↑a.AG.length:Int)],0))))
def AQI:GF:=AbW.EE (Be yU)
def yW(e:Int×List UInt8):AA (List UInt8):=let (a,c):=e;gd (c.length+[toB a].length<=lim) (some (c++[toB a]))
def yX(e:Int×List UInt8->AA (List UInt8))(g:Int×List UInt8):AA (List UInt8):=let (a,c):=g;br (decide (a>=128)) (gd (c.length+[toB (w64 (Int.tmod a 128+128))].length<=lim) (e (w64 (Int.tdiv a 128),c++[toB (w64 (Int.tmod a 128+128))]))) (jn yW (a,c))
def VC(a:Int):AA (List UInt8):=bd (C0 a 0 2147483647) fun c=>br (!c) (some []) (A3 yX big (a,[]))
def Xn:=gZ Xt (.ret [(.l .u)]) Ca ["3fAnLEvOTpPHBWvfqxqqub42Y75XxSDS293JszsqlS4qAbvOsJblgfyii9mBk2lHJW0vQmSgGbegF3MP","T8q"] [Eb] (Be VC)
def yZ(a:List UInt8):AA (List UInt8):=some a
def dO(e:List Int)(h:List UInt8×Int->AA (List UInt8))(q:List UInt8×Int):AA (List UInt8):=let (a,c):=q;br (decide (c<e.length)) (bd (at? e c) fun j=>bd (VC j) fun g=>gd (e9 a+e9 g<=lim) (h (a++g,w64 (c+1)))) (jn yZ a)
def yY(a:List Int):AA (List UInt8):=A3 (dO a) big ([],0)
def rf:=gZ Tq Nu Ca ["cgMVdWIO5M9RkV3pfPBeGApzQnWaobIbBZRO9ASD1vjvWEyWs6KMJUvVIvTW0qMLPtcW6"] [Xn] (Be yY)
def dP(a:Int×Int->AA Int)(c e:Int):AA Int:=a (e,w64 (c+1))
def yb(a:Int×Int->AA Int)(c e:Int):AA Int:=a (e,w64 (c+1))
def dR(g:Int×Int->AA Int)(h:Int)(e:Int×Int->AA Int)(j:Int×Int):AA Int:=let (a,c):=j;br (decide (c<8)) (br (AYm a 1==1) (jn (dP e c) (aA (Dy a 1) 3988292384)) (jn (dP e c) (Dy a 1))) (jn (yb g h) a)
def yc(a:Int):AA Int:=some (aA a 4294967295)
def dQ(c:List UInt8)(g:Int×Int->AA Int)(j:Int×Int):AA Int:=let (e,a):=j;br (decide (a<c.length)) (bd (at? c a) fun h=>A3 (dR g a) big (aA e (w64 (↑(UInt8.toNat h):Int)),0)) (jn yc e)
def ya(a:List UInt8):AA Int:=A3 (dQ a) big (4294967295,0)
def rh:=gZ [.v (.l .u)] CZ Ca ["7LXVsUhMnJCk4Nqa21tz9K8LLVBE7SLUGw7q190EkJT4emKlOvcfrGBUarsDLsg4LPNW8zxzj2k5vcJy","8Rp2zDAeQTQ41aG2lJY6I5up8zyHR4CQmnQMi9g6VC5plQ8q8DB4OGn"] [] (Be ya)
def AbX:YF:=⟨[],[.v (.st 8),.v .i],[],.ret [.s],[.tmp 4],sq [qu 2 0,.as 4 (.k (.str []))] [1,2] (sr [wn 8 [wk 15 2,wY AQI rfl],qn [qa 5 9]] [1,5] (.seq (sr [wn 10 [wm 5,wh (.bin · .sl .eql (.tmp 10) (.k .nil)),wM],wf 12 13 [wm 1,wc Eb rfl [13,qj 0,qj 1000000],wX],qn [qp 16 12 15]] [1,5,16] (cn 16 [1,5] (sq [.as 4 (.k (.str []))] [4] .ret))) (.seq (.Ta (.op 0 none [] (.mv 17 (.tmp 1)) (.op 3 none [] (.mv 20 (.tmp 5)) (qd 1 [wn 18 [wY Xn rfl,wh (.Np · (.tmp 18))]] (.op 4 none [18] (.call 21 rf [] rfl [(.tmp 20)]) (qd 5 [qn [qb 22 .add 19 21,qa 6 22]] .nil))))) [6]) (sr [wn 23 [wm 6,wh (.MF · (.tmp 23)),wY rh rfl],qn [qa 7 25]] [6,7] (sr [wn 26 [wm 7,wh (.bin · .num .shr (.tmp 26) (.k (.int .u64 24))),wh (.cvI · .u8 (.tmp 27)),wm 7,wh (.bin · .num .shr (.tmp 29) (.k (.int .u64 16))),wh (.cvI · .u8 (.tmp 30)),wm 7,wh (.bin · .num .shr (.tmp 32) (.k (.int .u64 8))),wh (.cvI · .u8 (.tmp 33)),wm 7,wh (.cvI · .u8 (.tmp 35)),wh (.B9 · 4 .u [(0,(.tmp 28)),(1,(.tmp 31)),(2,(.tmp 34)),(3,(.tmp 36))]),wh (.Np · (.tmp 37)),wm 6,wB .add 38],qn [qa 4 40]] [4] .ret)))))⟩
def m8(j:AF)(g:Int):AA (List UInt8):=bd (yU j) fun h=>gd (List.isEmpty h=false) (bd (C0 g 0 1000000) fun q=>br (!q) (some []) (bd (VC g) fun c=>bd (yY h) fun e=>gd (e9 c+e9 e<=N5) (bd (ya (c++e)) fun a=>gd ([toB (Dy a 24),toB (Dy a 16),toB (Dy a 8),toB a].length+(c++e).length<=N5) (some ([toB (Dy a 24),toB (Dy a 16),toB (Dy a 8),toB a]++(c++e))))))
def AQJ:GF:=AbX.EE (Ah m8)
def AbY:YF:=AbA .z
def AOZ(a:List Int):AA PUnit:=none
def AOc(h:AF)(g:List Int×Int->AA PUnit)(j:List Int×Int):AA PUnit:=let (a,c):=j;br (decide (c<h.BC.length)) (bd (at? h.BC c) fun e=>gd (e9 a+[w64 (e+1)].length<=lim) (g (a++[w64 (e+1)],w64 (c+1)))) (jn AOZ a)
def AOY(c:AF)(a:List Int):AA PUnit:=gd (a.length+[(↑c.BE.length:Int)].length<=lim) (gd ((a++[(↑c.BE.length:Int)]).length+c.BE.length<=lim) (A3 (AOc c) big (a++[(↑c.BE.length:Int)]++c.BE,0)))
def AOb(e:AF)(h:List Int×Int->AA PUnit)(j:List Int×Int):AA PUnit:=let (g,a):=j;br (decide (a<e.AH.length)) (bd (at? e.AH a) fun c=>gd (e9 g+[c.AZ.DY].length<=lim) (h (g++[c.AZ.DY],w64 (a+1)))) (jn (AOY e) g)
def AOX(a:AF)(c:List Int):AA PUnit:=A3 (AOb a) big (c,0)
def AOa(c:AF)(h:List Int×Int->AA PUnit)(j:List Int×Int):AA PUnit:=let (e,g):=j;br (decide (g<c.AG.length)) (bd (at? c.AG g) fun a=>gd (e9 e+[a.Id,a.AY,w64 (a.Bk+1),a.BB,a.Cv,a.Since,a.Ay,a.State,a.Cq,a.DB].length<=lim) (h (e++[a.Id,a.AY,w64 (a.Bk+1),a.BB,a.Cv,a.Since,a.Ay,a.State,a.Cq,a.DB],w64 (g+1)))) (jn (AOX c) e)
def AOW(a:AF):AA PUnit:=bd (Sr a) fun e=>br (!e) (some ()) (bd (m7 a.AQ) fun c=>gd ([(↑(e9 c):Int)].length+e9 c<=lim) (gd (([(↑(e9 c):Int)]++c).length+[a.Now,a.Ay,(↑a.AG.length:Int)].length<=lim) (A3 (AOa a) big ([(↑(e9 c):Int)]++c++[a.Now,a.Ay,(↑a.AG.length:Int)],0))))
def AQK:GF:=AbY.EE (Be AOW)
def AbZ:YF:=⟨[],[.v (.st 8),.v .i],[],.ret [.s],[.tmp 4],sq [qu 2 0,.as 4 (.k (.str []))] [1,2] (sr [wn 8 [wk 15 2,wY AQK rfl],qn [qa 5 9]] [1,5] (.seq (sr [wn 10 [wm 5,wh (.bin · .sl .eql (.tmp 10) (.k .nil)),wM],wf 12 13 [wm 1,wc Eb rfl [13,qj 0,qj 1000000],wX],qn [qp 16 12 15]] [1,5,16] (cn 16 [1,5] (sq [.as 4 (.k (.str []))] [4] .ret))) (.seq (.Ta (.op 0 none [] (.mv 17 (.tmp 1)) (.op 3 none [] (.mv 20 (.tmp 5)) (qd 1 [wn 18 [wY Xn rfl,wh (.Np · (.tmp 18))]] (.op 4 none [18] (.call 21 rf [] rfl [(.tmp 20)]) (qd 5 [qn [qb 22 .add 19 21,qa 6 22]] .nil))))) [6]) (sr [wn 23 [wm 6,wh (.MF · (.tmp 23)),wY rh rfl],qn [qa 7 25]] [6,7] (sr [wn 26 [wm 7,wh (.bin · .num .shr (.tmp 26) (.k (.int .u64 24))),wh (.cvI · .u8 (.tmp 27)),wm 7,wh (.bin · .num .shr (.tmp 29) (.k (.int .u64 16))),wh (.cvI · .u8 (.tmp 30)),wm 7,wh (.bin · .num .shr (.tmp 32) (.k (.int .u64 8))),wh (.cvI · .u8 (.tmp 33)),wm 7,wh (.cvI · .u8 (.tmp 35)),wh (.B9 · 4 .u [(0,(.tmp 28)),(1,(.tmp 31)),(2,(.tmp 34)),(3,(.tmp 36))]),wh (.Np · (.tmp 37)),wm 6,wB .add 38],qn [qa 4 40]] [4] .ret)))))⟩
def AHo(a:AF)(c:Int):AA (List UInt8):=bd (AOW a) fun e=>some []
def AQL:GF:=AbZ.EE (Ah AHo)
def ye(a:AF)(c:Int):AA (List UInt8):=orE (m8 a c) (AHo a c)
def AQM:GF:=AQJ.orE (fun a=>ye a.1 a.2.1) (fun a=>AHo a.1 a.2.1) (fun a=>by kernel_rfl) (fun a r h=>Eq.mp (by kernel_rfl) (AQL.ok a r h))
def yf(a:List Int):AA (List Int):=some a
def dU(h:AF)(g:List Int×Int->AA (List Int))(j:List Int×Int):AA (List Int):=let (a,c):=j;br (decide (c<h.BC.length)) (bd (at? h.BC c) fun e=>gd (e9 a+[w64 (e+1)].length<=lim) (g (a++[w64 (e+1)],w64 (c+1)))) (jn yf a)
def VE(c:AF)(a:List Int):AA (List Int):=gd (a.length+[(↑c.BE.length:Int)].length<=lim) (gd ((a++[(↑c.BE.length:Int)]).length+c.BE.length<=lim) (A3 (dU c) big (a++[(↑c.BE.length:Int)]++c.BE,0)))
def dT(e:AF)(h:List Int×Int->AA (List Int))(j:List Int×Int):AA (List Int):=let (g,a):=j;br (decide (a<e.AH.length)) (bd (at? e.AH a) fun c=>gd (e9 g+[c.AZ.DY].length<=lim) (h (g++[c.AZ.DY],w64 (a+1)))) (jn (VE e) g)
def VD(a:AF)(c:List Int):AA (List Int):=A3 (dT a) big (c,0)
def dS(c:AF)(h:List Int×Int->AA (List Int))(j:List Int×Int):AA (List Int):=let (e,g):=j;br (decide (g<c.AG.length)) (bd (at? c.AG g) fun a=>gd (e9 e+[a.Id,a.AY,w64 (a.Bk+1),a.BB,a.Cv,a.Since,a.Ay,a.State,a.Cq,a.DB].length<=lim) (h (e++[a.Id,a.AY,w64 (a.Bk+1),a.BB,a.Cv,a.Since,a.Ay,a.State,a.Cq,a.DB],w64 (g+1)))) (jn (VD c) e)
def AHp(a:AF):AA (List Int):=bd (Sr a) fun e=>br (!e) (some []) (bd (m7 a.AQ) fun c=>gd ([(↑(e9 c):Int)].length+e9 c<=lim) (gd (([(↑(e9 c):Int)]++c).length+[a.Now,a.Ay,(↑a.AG.length:Int)].length<=lim) (A3 (dS a) big ([(↑(e9 c):Int)]++c++[a.Now,a.Ay,(↑a.AG.length:Int)],0))))
def AQN:=gZ Ns M1 Ca ["AFbK2slVZg3bdFM0JLfk8h6fGVzZUVxk12p9R84VqHdganBorK8ISlXsHM93syNegBlNdmO7EOuI3uA8","J7pQK3MX46m8R0qPPwfDZkPr05YFa4jXOvLKQQIJkRx7jlScQoj4M82gbSXzweG4cLU1gsFJps3nktPp","yWC6d3dqNI9m7uC8PUiNWWXHA2bWRVPMIQ8JN790pV3DozHzsUhZdgIZNGxDm96CnwOJWdiZLmXkkHhN","b59SzxcYQQe6VdSYTHrmRzvy7WCKsfe5E8myS7WP2sCvLOyEsRqJVhlRZMyKXgKo85kQqPM1uOr3booJ","owP29cE7"] [Tj,AD8] (Be AHp)
def yg(a:List Int×Int×Int->AA (Int×List Int))(h:List Int×Int×Int):AA (Int×(List Int)):=let (c,e,g):=h;a (c,w64 (e+1),w64 (g+1))
def dV(e:List Int×Int):AA (Int×(List Int)):=let (a,c):=e;some (c,a)
def VF(g:List Int×Int×Int->AA (Int×List Int))(h:List Int×Int×Int):AA (Int×(List Int)):=let (a,e,c):=h;br (decide (c<(e9 a))) (bd (at? a c) fun j=>bd (at? a c) fun q=>jn (yg g) (an a c.toNat e,e,c)) (jn dV (a,e))
def ZD(a:List Int)(c:Int):AA (Int×(List Int)):=A3 VF big (a,c,0)
def i5:=gZ [.m (.l .i),.v .i] CZ Bw ["r40tXHY0F2xuufH2lUNMXfSeJLXTvUSomCxw6TMGjVsXr4N9dF758"] [] (Ah ZD)
def AOd(a:Ae)(e:Int):AA (Int×Ae):=bd (ZD a.AZ e) fun c=>some (c.fst,Ae.mk c.snd a.Ce a.Room a.BB a.CE a.B0 a.Rest a.Cd a.C3)
def AQO:=gZ [.m (.st 1),.v .i] CZ Bw ["6hugPXTthScLNNycGxb"] [i5] (Ah AOd)
def nA(g:List AM×Int×Int->AA (Int×List AM))(h:List AM×Int×Int):AA (Int×(List AM)):=let (a,c,e):=h;g (a,w64 (c+1),w64 (e+1))
def m9(h:List AM×Int×Int->AA (Int×List AM))(q:List AM×Int×Int):AA (Int×(List AM)):=let (e,g,c):=q;bd (at? e c) fun j=>bd (at? e c) fun a=>jn (nA h) (an e c.toNat (AM.mk a.Id a.AY a.Bk a.BB a.Cv a.Since a.Ay a.State a.Cq (w64 (g+1))),w64 (g+1),c)
def yq(h:List AM×Int×Int->AA (Int×List AM))(q:List AM×Int×Int):AA (Int×(List AM)):=let (e,g,c):=q;bd (at? e c) fun j=>bd (at? e c) fun a=>jn (m9 h) (an e c.toNat (AM.mk a.Id a.AY a.Bk a.BB a.Cv a.Since a.Ay a.State (w64 (g+1)) a.DB),w64 (g+1),c)
def yp(h:List AM×Int×Int->AA (Int×List AM))(q:List AM×Int×Int):AA (Int×(List AM)):=let (e,g,c):=q;bd (at? e c) fun j=>bd (at? e c) fun a=>jn (yq h) (an e c.toNat (AM.mk a.Id a.AY a.Bk a.BB a.Cv a.Since a.Ay (w64 (g+1)) a.Cq a.DB),w64 (g+1),c)
def yo(h:List AM×Int×Int->AA (Int×List AM))(q:List AM×Int×Int):AA (Int×(List AM)):=let (e,g,c):=q;bd (at? e c) fun j=>bd (at? e c) fun a=>jn (yp h) (an e c.toNat (AM.mk a.Id a.AY a.Bk a.BB a.Cv a.Since (w64 (g+1)) a.State a.Cq a.DB),w64 (g+1),c)
def yn(h:List AM×Int×Int->AA (Int×List AM))(q:List AM×Int×Int):AA (Int×(List AM)):=let (e,g,c):=q;bd (at? e c) fun j=>bd (at? e c) fun a=>jn (yo h) (an e c.toNat (AM.mk a.Id a.AY a.Bk a.BB a.Cv (w64 (g+1)) a.Ay a.State a.Cq a.DB),w64 (g+1),c)
def ym(h:List AM×Int×Int->AA (Int×List AM))(q:List AM×Int×Int):AA (Int×(List AM)):=let (e,g,c):=q;bd (at? e c) fun j=>bd (at? e c) fun a=>jn (yn h) (an e c.toNat (AM.mk a.Id a.AY a.Bk a.BB (w64 (g+1)) a.Since a.Ay a.State a.Cq a.DB),w64 (g+1),c)
def yk(h:List AM×Int×Int->AA (Int×List AM))(q:List AM×Int×Int):AA (Int×(List AM)):=let (e,g,c):=q;bd (at? e c) fun j=>bd (at? e c) fun a=>jn (ym h) (an e c.toNat (AM.mk a.Id a.AY a.Bk (w64 (g+1)) a.Cv a.Since a.Ay a.State a.Cq a.DB),w64 (g+1),c)
def yj(h:List AM×Int×Int->AA (Int×List AM))(q:List AM×Int×Int):AA (Int×(List AM)):=let (e,g,c):=q;bd (at? e c) fun j=>bd (at? e c) fun a=>jn (yk h) (an e c.toNat (AM.mk a.Id a.AY (w64 (g+1)) a.BB a.Cv a.Since a.Ay a.State a.Cq a.DB),w64 (g+1),c)
def yh(h:List AM×Int×Int->AA (Int×List AM))(q:List AM×Int×Int):AA (Int×(List AM)):=let (e,g,c):=q;bd (at? e c) fun j=>bd (at? e c) fun a=>jn (yj h) (an e c.toNat (AM.mk a.Id (w64 (g+1)) a.Bk a.BB a.Cv a.Since a.Ay a.State a.Cq a.DB),w64 (g+1),c)
def XP(e:List AM×Int):AA (Int×(List AM)):=let (a,c):=e;some (c,a)
def VG(h:List AM×Int×Int->AA (Int×List AM))(j:List AM×Int×Int):AA (Int×(List AM)):=let (c,g,e):=j;br (decide (e<(e9 c))) (bd (at? c e) fun q=>bd (at? c e) fun a=>jn (yh h) (an c e.toNat (AM.mk g a.AY a.Bk a.BB a.Cv a.Since a.Ay a.State a.Cq a.DB),g,e)) (jn XP (c,g))
def AHq(a:List AM)(c:Int):AA (Int×(List AM)):=A3 VG big (a,c,0)
def AQP:=gZ [.m (.l (.st 2)),.v .i] CZ Bw ["19lwQv2PnyGtK6HMVErziy7POg9zEfjYFTbwbwrpReZN6uDSDeMIrKF03mihwJorKyUzWelQHVGpOa5E","lIULxkN2TWtVCEwZJeB59varvNs638gQYWrBdEIkvj7IsRun4CEQKWySZVoaFL7k6jkjTdy1Axj6SS9a","lmQUnczp6F8ELhYkIWTMPIGhNQ97mOWPOy69XLsgEEWGtjXhq2bAbhnkrC8HDe9z0VkgaMsiT5dq9YeX","rT6tHIyIv5Al6Q5F3Vk9r68KglG1vnBf"] [] (Ah AHq)
def yv(g:List Ad×Int×Int->AA (Int×List Ad))(h:List Ad×Int×Int):AA (Int×(List Ad)):=let (a,c,e):=h;g (a,w64 (c+1),w64 (e+1))
def yu(h:List Ad×Int×Int->AA (Int×List Ad))(q:List Ad×Int×Int):AA (Int×(List Ad)):=let (c,g,a):=q;bd (at? c a) fun j=>bd (at? c a) fun e=>jn (yv h) (an c a.toNat (Ad.mk e.Level e.Ay e.Id (w64 (g+1))),w64 (g+1),a)
def yt(h:List Ad×Int×Int->AA (Int×List Ad))(q:List Ad×Int×Int):AA (Int×(List Ad)):=let (c,g,a):=q;bd (at? c a) fun j=>bd (at? c a) fun e=>jn (yu h) (an c a.toNat (Ad.mk e.Level e.Ay (w64 (g+1)) e.BB),w64 (g+1),a)
def yr(h:List Ad×Int×Int->AA (Int×List Ad))(q:List Ad×Int×Int):AA (Int×(List Ad)):=let (e,g,c):=q;bd (at? e c) fun j=>bd (at? e c) fun a=>jn (yt h) (an e c.toNat (Ad.mk a.Level (w64 (g+1)) a.Id a.BB),w64 (g+1),c)
def dW(e:List Ad×Int):AA (Int×(List Ad)):=let (a,c):=e;some (c,a)
def VH(h:List Ad×Int×Int->AA (Int×List Ad))(j:List Ad×Int×Int):AA (Int×(List Ad)):=let (a,e,c):=j;br (decide (c<(e9 a))) (bd (at? a c) fun q=>bd (at? a c) fun g=>jn (yr h) (an a c.toNat (Ad.mk e g.Ay g.Id g.BB),e,c)) (jn dW (a,e))
def AHr(a:List Ad)(c:Int):AA (Int×(List Ad)):=A3 VH big (a,c,0)
def AQQ:=gZ [.m (.l (.st 4)),.v .i] CZ Bw ["3gSy7gQZ9ptTms9XdyPS1VQi5FtXacolV3kOHfCiV01OlSEIzJOZZXnAcdByavAPoxOvnRGTusytiDDp","99VHzTWpR5uXJOVJN1vL7pRWy44GLxGGJCwYn6r8nZwsyZ"] [] (Ah AHr)
def yx(g:List A7×Int×Int->AA (Int×List A7))(h:List A7×Int×Int):AA (Int×(List A7)):=let (a,c,e):=h;g (a,w64 (c+1),w64 (e+1))
def yw(h:List A7×Int×Int->AA (Int×List A7))(q:List A7×Int×Int):AA (Int×(List A7)):=let (c,g,a):=q;bd (at? c a) fun j=>bd (at? c a) fun e=>jn (yx h) (an c a.toNat (A7.mk e.At (w64 (g+1))),w64 (g+1),a)
def dX(e:List A7×Int):AA (Int×(List A7)):=let (a,c):=e;some (c,a)
def VI(g:List A7×Int×Int->AA (Int×List A7))(j:List A7×Int×Int):AA (Int×(List A7)):=let (a,e,c):=j;br (decide (c<(e9 a))) (bd (at? a c) fun q=>bd (at? a c) fun h=>jn (yw g) (an a c.toNat (A7.mk e h.Id),e,c)) (jn dX (a,e))
def AHs(a:List A7)(c:Int):AA (Int×(List A7)):=A3 VI big (a,c,0)
def AQR:=gZ [.m (.l (.st 5)),.v .i] CZ Bw ["249OMOIUwOi9PueBts4FFMkTyfUMeRGWPTaONEV0lnnIUwWwHqV1WxkCkPhBxK6ZHHDDoNa0O3nhbY"] [] (Ah AHs)
def yy(e:((List (List A7))×Int)):AA (Int×(List (List A7))):=let (c,a):=e;some (a,c)
def VJ(h:((List (List A7))×Int×Int)->AA (Int×(List (List A7))))(q:((List (List A7))×Int×Int)):AA (Int×(List (List A7))):=let (c,e,a):=q;br (decide (a<(e9 c))) (bd (at? c a) fun y=>bd (at? c a) fun j=>bd (AHs j e) fun g=>gd (a.toNat=a.toNat) (bd (c[a.toNat]?) fun B=>h (an c a.toNat g.snd,g.fst,w64 (a+1)))) (jn yy (c,e))
def AHt(a:List (List A7))(c:Int):AA (Int×(List (List A7))):=A3 VJ big (a,c,0)
def AQS:=gZ [.m (.l (.l (.st 5))),.v .i] CZ Bw ["42crtJYQB9y77wO4QoQzfWKy7gugFlyLnY24XpZe9WcQSM0Mwqj"] [AQR] (Ah AHt)
def y8(q:List AX×Int×Int->AA (Int×List AX))(B:List AX×Int×Int):AA (Int×(List AX)):=let (c,h,a):=B;bd (at? c a) fun y=>bd (at? c a) fun j=>bd (AHt j.Bq.An h) fun e=>gd (a.toNat=a.toNat) (bd (c[a.toNat]?) fun g=>q (an c a.toNat (AX.mk g.AZ g.Row (Av.mk e.snd)),e.fst,w64 (a+1)))
def y7(q:List AX×Int×Int->AA (Int×List AX))(B:List AX×Int×Int):AA (Int×(List AX)):=let (c,h,a):=B;bd (at? c a) fun y=>bd (at? c a) fun j=>bd (AHr j.Row (w64 (h+1))) fun e=>gd (a.toNat=a.toNat) (bd (c[a.toNat]?) fun g=>jn (y8 q) (an c a.toNat (AX.mk g.AZ e.snd g.Bq),e.fst,a))
def y6(h:List AX×Int×Int->AA (Int×List AX))(q:List AX×Int×Int):AA (Int×(List AX)):=let (e,g,c):=q;bd (at? e c) fun j=>bd (at? e c) fun a=>jn (y7 h) (an e c.toNat (AX.mk (BJ.mk a.AZ.Total a.AZ.DY a.AZ.EZ a.AZ.FM (w64 (g+1))) a.Row a.Bq),w64 (g+1),c)
def y5(h:List AX×Int×Int->AA (Int×List AX))(q:List AX×Int×Int):AA (Int×(List AX)):=let (e,g,c):=q;bd (at? e c) fun j=>bd (at? e c) fun a=>jn (y6 h) (an e c.toNat (AX.mk (BJ.mk a.AZ.Total a.AZ.DY a.AZ.EZ (w64 (g+1)) a.AZ.Fa) a.Row a.Bq),w64 (g+1),c)
def y4(h:List AX×Int×Int->AA (Int×List AX))(q:List AX×Int×Int):AA (Int×(List AX)):=let (e,g,c):=q;bd (at? e c) fun j=>bd (at? e c) fun a=>jn (y5 h) (an e c.toNat (AX.mk (BJ.mk a.AZ.Total a.AZ.DY (w64 (g+1)) a.AZ.FM a.AZ.Fa) a.Row a.Bq),w64 (g+1),c)
def yz(h:List AX×Int×Int->AA (Int×List AX))(q:List AX×Int×Int):AA (Int×(List AX)):=let (e,g,c):=q;bd (at? e c) fun j=>bd (at? e c) fun a=>jn (y4 h) (an e c.toNat (AX.mk (BJ.mk a.AZ.Total (w64 (g+1)) a.AZ.EZ a.AZ.FM a.AZ.Fa) a.Row a.Bq),w64 (g+1),c)
def y9(e:List AX×Int):AA (Int×(List AX)):=let (a,c):=e;some (c,a)
def VK(h:List AX×Int×Int->AA (Int×List AX))(j:List AX×Int×Int):AA (Int×(List AX)):=let (c,g,e):=j;br (decide (e<(e9 c))) (bd (at? c e) fun q=>bd (at? c e) fun a=>jn (yz h) (an c e.toNat (AX.mk (BJ.mk g a.AZ.DY a.AZ.EZ a.AZ.FM a.AZ.Fa) a.Row a.Bq),g,e)) (jn y9 (c,g))
def AHu(a:List AX)(c:Int):AA (Int×(List AX)):=A3 VK big (a,c,0)
def AQT:=gZ [.m (.l (.st 7)),.v .i] CZ Bw ["MyZgOMuLrxAoASU7T70zxYg91UYISW0lD5zD456mhY23GAUaogJevxjUo1GISEAddictV9SSKSlp5A0V","A7aoR3I1Pu91flu3yUtZDY6Si1iQnSRFKzHZLjh6qrUUMW29a2RYtTm3X0BWRyijY8DSb1ENBYRmcdoQ","PWLoD730hBY3pB6x34XMFXvdDfl4LdzzL0lLd1JAl5HT319ki53"] [AQQ,AQS] (Ah AHu)
def AHv(a:AF)(q:Int):AA (Int×AF):=bd (AOd a.AQ q) fun c=>bd (AHq a.AG c.fst) fun e=>bd (AHu a.AH e.fst) fun g=>bd (ZD a.BE g.fst) fun h=>bd (ZD a.BC h.fst) fun j=>some (j.fst,AF.mk (Ae.mk c.snd.AZ a.AQ.Ce a.AQ.Room a.AQ.BB a.AQ.CE a.AQ.B0 a.AQ.Rest a.AQ.Cd a.AQ.C3) a.Now a.Ay e.snd g.snd h.snd j.snd)
def AQU:=gZ [.m (.st 8),.v .i] CZ Bw ["D6EMIRI8Zt1qH1VrLKGlEDmg8Y6XBbvr7N7LraDBvtTNdN9qrjv35CXuNVG4"] [AQO,AQP,AQT,i5] (Ah AHv)
def zA(a:Int):AA Int:=some a
def da(e:List Int)(g:Int×Int->AA Int)(j:Int×Int):AA Int:=let (a,c):=j;br (decide (c<e.length)) (bd (at? e c) fun h=>br (h != a) (some (-1)) (g (w64 (a+1),w64 (c+1)))) (jn zA a)
def dZ(a:List Int)(c:Int):AA Int:=A3 (da a) big (c,0)
def ri:=gZ ZR CZ Bw ["2jNNvmaZKtlbmOZb9nUh7wffWH9KgOtb73QFOULgRfM4Q2W4C0hoK"] [] (Ah dZ)
def GY(a:Ae):AA Ae:=gd (0+a.AZ.length<=lim) (some (Ae.mk ([]++a.AZ) a.Ce a.Room a.BB a.CE a.B0 a.Rest a.Cd a.C3))
def AQV:=gZ Tr AEx AE4 ["340aVms07AbuQQa5JKlv1LGMQb"] [] (Be GY)
def Aba:YF:=⟨[],[],[],.ret [(.st 6)],[.cell 0 (some 1)],dY ["DoNdXWa2wvAumiFL6eICDChozoT9wMNrdFR2zxc3PN938pp8Qs3qLE4ORbIBzmKtlcoB"] []⟩
def zB(a:Av):AA Av:=some a
def zC(e:Int×Av->AA Av)(g:Int×Av):AA Av:=let (c,a):=g;br (decide (c<9)) (gd (a.An.length+1<=lim) (e (w64 (c+1),Av.mk (a.An++[[]])))) (jn zB a)
def AHw:AA Av:=A3 zC big (0,Av.mk [])
def AQW:GF:=Aba.gf rfl rfl (fun a=>AHw) (fun a=>by kernel_rfl)
def JX(a:List Int):AA (List Int):=gd (0+a.length<=lim) (some a)
def Tl:=gZ Tq M1 Ca ["MFUEauHfay3aG"] [] (Be JX)
def yC(a:Ae):AA Ae:=bd (JX a.AZ) fun c=>some (Ae.mk c a.Ce a.Room a.BB a.CE a.B0 a.Rest a.Cd a.C3)
def AQA:=gZ Tr AEx AE4 ["ryvtVVyyGnXqhIqpCQzQL"] [Tl] (Be yC)
def AbV:YF:=⟨[],[],[],.ret [(.st 6)],[.cell 0 (some 1)],dY ["9CN7LWQwK71I7vk43CvCp"] [] [.LM 1 (.l (.st 5)) (.k (.int .i64 9))]⟩
def AOU:AA Av:=some (Av.mk (List.replicate (Int.toNat 9) []))
def AQB:GF:=AbV.gf rfl rfl (fun a=>AOU) (fun a=>by kernel_rfl)
def m0(a:B3):AA B3:=bd (OT a) fun c=>br (!c) (some a) (some (B3.mk a.Data (↑a.Data.length:Int)))
def re:=gZ Xs Tw jJ ["lA9tLt1RyBocVx3a6cNOesBNDNkkneF2wZp"] [RI] (Be m0)
def yJ(g:List Bo×Int×Int->AA (Int×List Bo))(h:List Bo×Int×Int):AA (Int×(List Bo)):=let (a,c,e):=h;g (a,w64 (c+1),w64 (e+1))
def yI(h:List Bo×Int×Int->AA (Int×List Bo))(q:List Bo×Int×Int):AA (Int×(List Bo)):=let (e,g,c):=q;bd (at? e c) fun j=>bd (at? e c) fun a=>jn (yJ h) (an e c.toNat (Bo.mk a.Kind a.Id a.AY a.Bk a.BB (w64 (g+1))),w64 (g+1),c)
def yH(h:List Bo×Int×Int->AA (Int×List Bo))(q:List Bo×Int×Int):AA (Int×(List Bo)):=let (e,g,c):=q;bd (at? e c) fun j=>bd (at? e c) fun a=>jn (yI h) (an e c.toNat (Bo.mk a.Kind a.Id a.AY a.Bk (w64 (g+1)) a.Cv),w64 (g+1),c)
def yG(h:List Bo×Int×Int->AA (Int×List Bo))(q:List Bo×Int×Int):AA (Int×(List Bo)):=let (e,g,c):=q;bd (at? e c) fun j=>bd (at? e c) fun a=>jn (yH h) (an e c.toNat (Bo.mk a.Kind a.Id a.AY (w64 (g+1)) a.BB a.Cv),w64 (g+1),c)
def yF(h:List Bo×Int×Int->AA (Int×List Bo))(q:List Bo×Int×Int):AA (Int×(List Bo)):=let (e,g,c):=q;bd (at? e c) fun j=>bd (at? e c) fun a=>jn (yG h) (an e c.toNat (Bo.mk a.Kind a.Id (w64 (g+1)) a.Bk a.BB a.Cv),w64 (g+1),c)
def yE(h:List Bo×Int×Int->AA (Int×List Bo))(q:List Bo×Int×Int):AA (Int×(List Bo)):=let (e,g,c):=q;bd (at? e c) fun j=>bd (at? e c) fun a=>jn (yF h) (an e c.toNat (Bo.mk a.Kind (w64 (g+1)) a.AY a.Bk a.BB a.Cv),w64 (g+1),c)
def c9(e:List Bo×Int):AA (Int×(List Bo)):=let (a,c):=e;some (c,a)
def U9(h:List Bo×Int×Int->AA (Int×List Bo))(j:List Bo×Int×Int):AA (Int×(List Bo)):=let (a,g,c):=j;br (decide (c<(e9 a))) (bd (at? a c) fun q=>bd (at? a c) fun e=>jn (yE h) (an a c.toNat (Bo.mk g e.Id e.AY e.Bk e.BB e.Cv),g,c)) (jn c9 (a,g))
def yD(a:List Bo)(c:Int):AA (Int×(List Bo)):=A3 U9 big (a,c,0)
def AD3:=gZ [.m (.l (.st 0)),.v .i] CZ Bw ["2HQP1MJH5x1jJ851TcYqTIpZ0UCcCgw9n5md0IjKyEwGy8ZsUVwSpvhgsSVpAP7IBrSKbb0ZDIMWl6qz","zKoWvTNHQ4TGXtVQLELIMX3paBxhSHJej8CmHkSSuYhpb2QXTyh23wOhotTj1xlZ9kXojrNaLE2omlke","OzQP3ScExanq3AnPk"] [] (Ah yD)
def AHj(a:BD)(g:Int):AA (Int×BD):=bd (AHv a.Az g) fun c=>bd (yD a.Laid c.fst) fun e=>some (e.fst,BD.mk (AF.mk (Ae.mk c.snd.AQ.AZ a.Az.AQ.Ce a.Az.AQ.Room a.Az.AQ.BB a.Az.AQ.CE a.Az.AQ.B0 a.Az.AQ.Rest a.Az.AQ.Cd a.Az.AQ.C3) a.Az.Now a.Az.Ay c.snd.AG c.snd.AH c.snd.BE c.snd.BC) a.Bl a.Seq e.snd)
def AQC:=gZ [.m (.st 11),.v .i] CZ Bw ["HCMhDSSNb6yOxJ51m1bA4D1JWMVgc"] [AQU,AD3] (Ah AHj)
def AOV(c:Ae)(e:Int):AA Int:=bd (dZ c.AZ e) fun a=>br (decide (a<0)) (some (-1)) (some a)
def AQD:=gZ [.v (.st 1),.v .i] CZ Bw ["GF988y3d0W5qJ6PtdAbX0wbLz8"] [ri] (Ah AOV)
def yK(a:Int):AA Int:=some a
def dB(e:List AM)(y:Int×Int->AA Int)(L:Int×Int):AA Int:=let (a,c):=L;br (decide (c<e.length)) (bd (at? e c) fun B=>br (B.Id != a) (some (-1)) (bd (at? e c) fun E=>br (E.AY != w64 (a+1)) (some (-1)) (bd (at? e c) fun G=>br (G.Bk != w64 (w64 (a+1)+1)) (some (-1)) (bd (at? e c) fun H=>br (H.BB != w64 (w64 (w64 (a+1)+1)+1)) (some (-1)) (bd (at? e c) fun I=>br (I.Cv != w64 (w64 (w64 (w64 (a+1)+1)+1)+1)) (some (-1)) (bd (at? e c) fun J=>br (J.Since != w64 (w64 (w64 (w64 (w64 (a+1)+1)+1)+1)+1)) (some (-1)) (bd (at? e c) fun g=>br (g.Ay != w64 (w64 (w64 (w64 (w64 (w64 (a+1)+1)+1)+1)+1)+1)) (some (-1)) (bd (at? e c) fun h=>br (h.State != w64 (w64 (w64 (w64 (w64 (w64 (w64 (a+1)+1)+1)+1)+1)+1)+1)) (some (-1)) (bd (at? e c) fun j=>br (j.Cq != w64 (w64 (w64 (w64 (w64 (w64 (w64 (w64 (a+1)+1)+1)+1)+1)+1)+1)+1)) (some (-1)) (bd (at? e c) fun q=>br (q.DB != w64 (w64 (w64 (w64 (w64 (w64 (w64 (w64 (w64 (a+1)+1)+1)+1)+1)+1)+1)+1)+1)) (some (-1)) (y (w64 (w64 (w64 (w64 (w64 (w64 (w64 (w64 (w64 (w64 (a+1)+1)+1)+1)+1)+1)+1)+1)+1)+1),w64 (c+1))))))))))))) (jn yK a)
def AHk(a:List AM)(c:Int):AA Int:=A3 (dB a) big (c,0)
def AQE:=gZ QO CZ Bw ["7XC8CZNqsJL9WREGDF3JTkIZ8DoPzj2rb1iUdyp0qcDDE3Al3Z9fQWe4KLEx78lbJztB1zQx6VIsiYQN","s0YraWvxNkx0FkR94HHeui3trUCHH4V3JpnHZdwkjmfNAT9bDr0dmVwgdMwMUn8iR4gUPr3SNtRuib6c","oPHF46Kr9guJ4w93HYZ1epy3a7bF6x4PqgXrj45qvmC25SCWJvf8NjsHxrekujWWzVdkhjBFbVNEgPvy","seJM34akeUqsovgyetXxQbEXZqUqZniy1C5ax4qF4RMQTIZ"] [] (Ah AHk)
def yL(a:Int):AA Int:=some a
def dC(e:List Ad)(g:Int×Int->AA Int)(B:Int×Int):AA Int:=let (a,c):=B;br (decide (c<e.length)) (bd (at? e c) fun h=>br (h.Level != a) (some (-1)) (bd (at? e c) fun j=>br (j.Ay != w64 (a+1)) (some (-1)) (bd (at? e c) fun q=>br (q.Id != w64 (w64 (a+1)+1)) (some (-1)) (bd (at? e c) fun y=>br (y.BB != w64 (w64 (w64 (a+1)+1)+1)) (some (-1)) (g (w64 (w64 (w64 (w64 (a+1)+1)+1)+1),w64 (c+1))))))) (jn yL a)
def AHl(a:List Ad)(c:Int):AA Int:=A3 (dC a) big (c,0)
def AQF:=gZ ABS CZ Bw ["FUNgkF6ogXEZjOaBAZQzwLs3NheHvQJyKjNHYefn0DgcV2yHF4s2eQUMZApfMcSw1fc5bZPHVKnqDJHY","cE7r9zvbMeCkgJ68RJQU6By5zACBYud4cOju21HH67p8SZpWFH"] [] (Ah AHl)
def yM(a:Int):AA Int:=some a
def dE(e:List A7)(g:Int×Int->AA Int)(q:Int×Int):AA Int:=let (a,c):=q;br (decide (c<e.length)) (bd (at? e c) fun h=>br (h.At != a) (some (-1)) (bd (at? e c) fun j=>br (j.Id != w64 (a+1)) (some (-1)) (g (w64 (w64 (a+1)+1),w64 (c+1))))) (jn yM a)
def AHm(a:List A7)(c:Int):AA Int:=A3 (dE a) big (c,0)
def AQG:=gZ [.v (.l (.st 5)),.v .i] CZ Bw ["siL2sxb1CgOxPmHyMi9Cswu8Rq38LnjAhUWy8IcUWM5CK63upptTeqO0ikoj2lYTs9r7a1UbFGA5"] [] (Ah AHm)
def yN(a:Int):AA Int:=some a
def dF(c:List (List A7))(h:Int×Int->AA Int)(q:Int×Int):AA Int:=let (e,a):=q;br (decide (a<c.length)) (bd (at? c a) fun j=>bd (AHm j e) fun g=>br (decide (g<0)) (some (-1)) (h (g,w64 (a+1)))) (jn yN e)
def AHn(a:List (List A7))(c:Int):AA Int:=A3 (dF a) big (c,0)
def AQH:=gZ AYU CZ Bw ["6MuaprCro2xwdatnwIqFbraZaxGjgz6xZ5TGtJjFQin1ek7c3Ewd8"] [AQG] (Ah AHn)
def zL(a:Int):AA Int:=some a
def dq(c:List AX)(q:Int×Int->AA Int)(J:Int×Int):AA Int:=let (e,a):=J;br (decide (a<c.length)) (bd (at? c a) fun y=>br (y.AZ.Total != e) (some (-1)) (bd (at? c a) fun B=>br (B.AZ.DY != w64 (e+1)) (some (-1)) (bd (at? c a) fun E=>br (E.AZ.EZ != w64 (w64 (e+1)+1)) (some (-1)) (bd (at? c a) fun G=>br (G.AZ.FM != w64 (w64 (w64 (e+1)+1)+1)) (some (-1)) (bd (at? c a) fun H=>br (H.AZ.Fa != w64 (w64 (w64 (w64 (e+1)+1)+1)+1)) (some (-1)) (bd (at? c a) fun I=>bd (AHl I.Row (w64 (w64 (w64 (w64 (w64 (e+1)+1)+1)+1)+1))) fun g=>br (decide (g<0)) (some (-1)) (bd (at? c a) fun j=>bd (AHn j.Bq.An g) fun h=>br (decide (h<0)) (some (-1)) (q (h,w64 (a+1)))))))))) (jn zL e)
def AH0(a:List AX)(c:Int):AA Int:=A3 (dq a) big (c,0)
def AQa:=gZ [.v (.l (.st 7)),.v .i] CZ Bw ["rkh8ijEp4ahwq6WwR4GMXyyJIdWEc6gBhc80Zgx3scUAm2hOqLnxfeOxnMs4K8sSDyYoJduC4Jq9uaaH","RV56y4PDqh55xccHQs1kvYSPwlxBe9zz2XaaYMBXJjhvpmVAckA2nkbtFMsYFsV7g6vgiUdsikKwtGZl","vYKFBsEKOw7qUmkPrnA6348TUFYgDrXVoiMinxHu0HlDSCjin89nhH9aG2Mni5EqQyz8gu"] [AQF,AQH] (Ah AH0)
def AH1(a:AF)(q:Int):AA Int:=bd (AOV a.AQ q) fun c=>br (decide (c<0)) (some (-1)) (bd (AHk a.AG c) fun e=>br (decide (e<0)) (some (-1)) (bd (AH0 a.AH e) fun g=>br (decide (g<0)) (some (-1)) (bd (dZ a.BE g) fun h=>br (decide (h<0)) (some (-1)) (bd (dZ a.BC h) fun j=>br (decide (j<0)) (some (-1)) (some j)))))
def AQb:=gZ HH CZ Bw ["QYApW8Mo6GZH4PaXgkA4hoGHa0aNClea7S2xK32B8FLDUxYRqS7BheuUl6z4U3NHq46SyLbpxg8vOj8X","jO7kxsxPfvBoaDwIKGuNqhV"] [AQD,AQE,AQa,ri] (Ah AH1)
def zN(a:Int):AA Int:=some a
def dt(e:List Bo)(g:Int×Int->AA Int)(G:Int×Int):AA Int:=let (a,c):=G;br (decide (c<e.length)) (bd (at? e c) fun h=>br (h.Kind != a) (some (-1)) (bd (at? e c) fun j=>br (j.Id != w64 (a+1)) (some (-1)) (bd (at? e c) fun q=>br (q.AY != w64 (w64 (a+1)+1)) (some (-1)) (bd (at? e c) fun y=>br (y.Bk != w64 (w64 (w64 (a+1)+1)+1)) (some (-1)) (bd (at? e c) fun B=>br (B.BB != w64 (w64 (w64 (w64 (a+1)+1)+1)+1)) (some (-1)) (bd (at? e c) fun E=>br (E.Cv != w64 (w64 (w64 (w64 (w64 (a+1)+1)+1)+1)+1)) (some (-1)) (g (w64 (w64 (w64 (w64 (w64 (w64 (a+1)+1)+1)+1)+1)+1),w64 (c+1))))))))) (jn zN a)
def zM(a:List Bo)(c:Int):AA Int:=A3 (dt a) big (c,0)
def AEG:=gZ [.v (.l (.st 0)),.v .i] CZ Bw ["XcHSrazSxJ1hTrooxlLVBUVpCgZFy1auOzOixXLyAiSplEn0HQ1YMhzbf5iU89E9aulRlIiw2AL15xD9","mYpLMbjmsFWo9SeDq7TkKbiw1iRkC4jrKGQ9NeEFNMTGaGuBO71dc35byAfkLYuHgPiTuJ0wwTcDZGdz","BwDgF0gESKrQXvKBSYauPGh"] [] (Ah zM)
def AH2(a:BD)(g:Int):AA Int:=bd (AH1 a.Az g) fun c=>br (decide (c<0)) (some (-1)) (bd (zM a.Laid c) fun e=>br (decide (e<0)) (some (-1)) (some e))
def AQc:=gZ Xr CZ Bw ["2z7a7lj4b524MffNQwClkgKjhbCJMSt10dZqkwaR7hfb9"] [AQb,AEG] (Ah AH2)
def AH3(a c:Bf):AA Bool:=br (a.Code != c.Code) (some false) (bd (ZB a.Ids c.Ids) fun e=>br (!e) (some false) (some true))
def AQd:=gZ [.v (.st 12),.v (.st 12)] CI Bw ["lofOjUhT5lQiq9ccuCtz3pFGH2ZXHr"] [iz] (Ah AH3)
def zO(_:PUnit):AA Bool:=some true
def du(c g:List Bf)(e:Int->AA Bool)(a:Int):AA Bool:=br (decide (a<c.length)) (bd (at? c a) fun h=>bd (at? g a) fun j=>bd (AH3 h j) fun q=>br (!q) (some false) (e (w64 (a+1)))) (jn zO ())
def AH4(a c:List Bf):AA Bool:=br ((↑a.length:Int) != c.length) (some false) (A3 (du a c) big 0)
def AQe:=gZ [.v (.l (.st 12)),.v (.l (.st 12))] CI Bw ["9WRosoWH5KnjW7gSWW6ZJFcQgYvkLEU65UMPBaxXHZhyQ2JHQ01MDTE47izbG"] [AQd] (Ah AH4)
def dv(a c:CB):AA Bool:=bd (AHU a.Ac c.Ac) fun e=>br (!e) (some false) (bd (xa a.GG c.GG) fun g=>br (!g) (some false) (bd (AH4 a.Cx c.Cx) fun h=>br (!h) (some false) (br (a.GH != c.GH) (some false) (some true))))
def AQf:=gZ [.v (.st 13),.v (.st 13)] CI Bw ["8HP3sNW7W0LlstpNFbYwZ3AHMpXd9eIjWZ0wpUiCqJpistJ2ZcZAAqpFXSBD"] [APs,ADw,AQe] (Ah dv)
def zP(j:List Bf×Int×Int->AA (Int×List Bf))(B:List Bf×Int×Int):AA (Int×(List Bf)):=let (e,q,a):=B;bd (at? e a) fun y=>bd (at? e a) fun g=>bd (ZD g.Ids (w64 (q+1))) fun c=>gd (a.toNat=a.toNat) (bd (e[a.toNat]?) fun h=>j (an e a.toNat (Bf.mk h.Code c.snd),c.fst,w64 (a+1)))
def zQ(e:List Bf×Int):AA (Int×(List Bf)):=let (a,c):=e;some (c,a)
def VQ(g:List Bf×Int×Int->AA (Int×List Bf))(j:List Bf×Int×Int):AA (Int×(List Bf)):=let (a,e,c):=j;br (decide (c<(e9 a))) (bd (at? a c) fun q=>bd (at? a c) fun h=>jn (zP g) (an a c.toNat (Bf.mk e h.Ids),e,c)) (jn zQ (a,e))
def AH5(a:List Bf)(c:Int):AA (Int×(List Bf)):=A3 VQ big (a,c,0)
def AQg:=gZ [.m (.l (.st 12)),.v .i] CZ Bw ["1HJxmQsLVU3V5gcMwdyHhG3Hn3Shz8vn3enAeXkrBIzaydWgdwfCCtWGxhSeGNyhFJU2l4eKm"] [i5] (Ah AH5)
def zR(a:CB)(h:Int):AA (Int×CB):=bd (AHj a.Ac h) fun c=>bd (yD a.GG c.fst) fun e=>bd (AH5 a.Cx e.fst) fun g=>some (g.fst,CB.mk (BD.mk (AF.mk (Ae.mk c.snd.Az.AQ.AZ a.Ac.Az.AQ.Ce a.Ac.Az.AQ.Room a.Ac.Az.AQ.BB a.Ac.Az.AQ.CE a.Ac.Az.AQ.B0 a.Ac.Az.AQ.Rest a.Ac.Az.AQ.Cd a.Ac.Az.AQ.C3) a.Ac.Az.Now a.Ac.Az.Ay c.snd.Az.AG c.snd.Az.AH c.snd.Az.BE c.snd.Az.BC) a.Ac.Bl a.Ac.Seq c.snd.Laid) e.snd g.snd a.GH)
def AQh:=gZ [.m (.st 13),.v .i] CZ Bw ["1M4vPj9oqMLbimOhysZwiAX2flaNOBG7zFjzpOiM"] [AQC,AD3,AQg] (Ah zR)
def zS(a:Int):AA Int:=some a
def dw(c:List Bf)(h:Int×Int->AA Int)(y:Int×Int):AA Int:=let (e,a):=y;br (decide (a<c.length)) (bd (at? c a) fun j=>br (j.Code != e) (some (-1)) (bd (at? c a) fun q=>bd (dZ q.Ids (w64 (e+1))) fun g=>br (decide (g<0)) (some (-1)) (h (g,w64 (a+1))))) (jn zS e)
def AH6(a:List Bf)(c:Int):AA Int:=A3 (dw a) big (c,0)
def AQi:=gZ [.v (.l (.st 12)),.v .i] CZ Bw ["22biDHksBdfMKL7DYFpGza3Ee6X6rW3TITkgRMeWWhYEWOhKMq49Varc5RfQS5UbbTpnBcdpXenoM2"] [ri] (Ah AH6)
end Lv
set_option maxRecDepth 100000
namespace Lv
open Go (IntKind BinOp UnOp)
open Y (YF qn qf qt qr q1 qd qm qa qo ql qL qb qi qx qp qq qc qz qe qk qK qB qw qu qj Kp wn wf wt w1 sw sq sr wm wM wo wO wl wL wk wK wz wZ wx wX wb wB wi wI wr wR wq wQ we wE wc wY wj wh cv ca cx cn ce bl)
def zU(a:CB)(h:Int):AA Int:=bd (AH2 a.Ac h) fun c=>br (decide (c<0)) (some (-1)) (bd (zM a.GG c) fun e=>br (decide (e<0)) (some (-1)) (bd (AH6 a.Cx e) fun g=>br (decide (g<0)) (some (-1)) (some g)))
def AQj:=gZ [.v (.st 13),.v .i] CZ Bw ["2NhpFrhoX4yLEwa1hPMkrkmwoBp76bb6iIgvLcpV778s0pdxzkDH5nOpq3FNO3yx"] [AQc,AEG,AQi] (Ah zU)
def zV(a:Av):AA Av:=some a
def zW(g:Av)(h:Int×Av->AA Av)(j:Int×Av):AA Av:=let (a,c):=j;br (decide (a<g.An.length)) (bd (at? g.An a) fun e=>gd (0+e9 e<=lim) (gd (c.An.length+[[]++e].length<=lim) (h (w64 (a+1),Av.mk (c.An++[[]++e]))))) (jn zV c)
def dx(a:Av):AA Av:=A3 (zW a) big (0,Av.mk [])
def rj:=gZ Ts AEz AE5 ["10VmdR56oQMk3bk9z8EEh8Y3pmgqGQTurBbuk3g03KP9QDb28ms3jEK11HFY7PkBSimFd8vR8gohiIWU","LxIRvnI45zSdHly"] [] (Be dx)
def AH7(a:AX):AA AX:=bd (Ur a.Row) fun c=>bd (dx a.Bq) fun e=>some (AX.mk a.AZ c e)
def AQk:=gZ jD AE0 AE6 ["2eTmOj2tBLOG57w1VmbQ6VutseFV5cBpOPHwzz9D4UPWk"] [rM,rj] (Be AH7)
def aV:Y.YOp []:=.app 19 .i true (.tmp 16) (.tmp 18)
def Nb:Y.YOp []:=.app 15 (.st 2) true (.tmp 12) (.tmp 14)
def HC:Y.YOp []:=.call 7 AQV [] rfl [(.tmp 6)]
def AKG:Y.Bt []:=(.op 21 none [] (.st 15 (.tmp 3) (.tmp 24)) (.dr [5,6,7,8,9,10,11,12,13,14,15,16,17,18,19,20,21,22,23,24] .nil))
def Acm:=fun a=>((.op 20 none [5,8,10,13,17,21] (.alloc 3 D9) (.nl [(.cell 3 0,.i),(.cell 3 11,(.st 2)),(.cell 3 12,(.st 7)),(.cell 3 13,.i),(.cell 3 14,.i)] a)):Y.Bt [])
def AXO:Y.Bt []:=Acm AKG
def Acn:=fun a=>((.op 19 none [] (.build 24 D9 [(0,9,(.tmp 7)),(9,1,(.tmp 9)),(10,1,(.tmp 11)),(11,1,(.tmp 15)),(13,1,(.tmp 19)),(14,1,(.tmp 23))]) (.nl [(.tmp 24 12,(.st 7))] a)):Y.Bt [])
def AXP:Y.Bt []:=Acn AXO
def AXQ:Y.Bt []:=(.op 18 none [8,10] (.app 23 .i true (.tmp 20) (.tmp 22)) AXP)
def AXR:Y.Bt []:=Acn AKG
def uN:Y.Bt []:=(.op 18 none [8,10] (.app 23 .i true (.tmp 20) (.tmp 22)) AXR)
def AXS:Y.Bt []:=Acm uN
def Acp:=fun a b=>((.both 1 a b):Y.Bt [])
def AKH:Y.Bt []:=Acp AXQ AXS
def Acq:=fun a b c=>((.op a none [5,8,10,13,17,21] (.B9 b 0 .i []) c):Y.Bt [])
def AXT:Y.Bt []:=Acq 15 20 AKH
def AKI:Y.Bt []:=Acq 15 20 uN
def ATw:Y.Bt []:=Acm AKI
def ATx:Y.Bt []:=Acp AXT ATw
def ATy:Y.Bt []:=(.op 14 none [8,10,21] aV ATx)
def ATz:Y.Bt []:=(.op 14 none [8,10,21] aV AKH)
def Wd:Y.Bt []:=(.op 14 none [8,10,21] aV uN)
def AT0:Y.Bt []:=Acm Wd
def kH:Y.Bt []:=Acp ATz AT0
def AT1:Y.Bt []:=Acq 15 20 kH
def AT2:Y.Bt []:=(.op 14 none [8,10,21] aV AKI)
def AT3:Y.Bt []:=Acq 15 20 Wd
def kI:Y.Bt []:=Acp AT2 AT3
def AT4:Y.Bt []:=Acm kI
def AT5:Y.Bt []:=Acp AT1 AT4
def ACJ:Y.Bt []:=Acp ATy AT5
def AT6:Y.Bt []:=Acq 11 16 ACJ
def AT7:Y.Bt []:=Acq 11 16 kH
def kJ:Y.Bt []:=Acq 11 16 Wd
def AT8:Y.Bt []:=Acm kJ
def ACK:Y.Bt []:=Acp AT7 AT8
def AT9:Y.Bt []:=Acq 15 20 ACK
def AUA:Y.Bt []:=Acq 11 16 kI
def AUB:Y.Bt []:=Acq 15 20 kJ
def ACL:Y.Bt []:=Acp AUA AUB
def AUC:Y.Bt []:=Acm ACL
def AUD:Y.Bt []:=Acp AT9 AUC
def AUE:Y.Bt []:=Acp AT6 AUD
def Acs:=fun a=>((.op 10 none [8,10,17,21] Nb a):Y.Bt [])
def AUF:Y.Bt []:=Acs AUE
def AUG:Y.Bt []:=Acs ACJ
def AUH:Y.Bt []:=Acs kH
def Rk:Y.Bt []:=Acs Wd
def AUI:Y.Bt []:=Acm Rk
def We:Y.Bt []:=Acp AUH AUI
def AUJ:Y.Bt []:=Acq 15 20 We
def AUK:Y.Bt []:=Acs kI
def AUL:Y.Bt []:=Acq 15 20 Rk
def Wf:Y.Bt []:=Acp AUK AUL
def AUM:Y.Bt []:=Acm Wf
def AUN:Y.Bt []:=Acp AUJ AUM
def kK:Y.Bt []:=Acp AUG AUN
def AUO:Y.Bt []:=Acq 11 16 kK
def AUP:Y.Bt []:=Acs ACK
def AUQ:Y.Bt []:=Acq 11 16 We
def AUR:Y.Bt []:=Acs kJ
def AUS:Y.Bt []:=Acq 11 16 Rk
def Wg:Y.Bt []:=Acp AUR AUS
def AUT:Y.Bt []:=Acm Wg
def AUU:Y.Bt []:=Acp AUQ AUT
def kL:Y.Bt []:=Acp AUP AUU
def AUV:Y.Bt []:=Acq 15 20 kL
def AUW:Y.Bt []:=Acs ACL
def AUX:Y.Bt []:=Acq 11 16 Wf
def AUY:Y.Bt []:=Acq 15 20 Wg
def AUZ:Y.Bt []:=Acp AUX AUY
def kM:Y.Bt []:=Acp AUW AUZ
def AUa:Y.Bt []:=Acm kM
def AUb:Y.Bt []:=Acp AUV AUa
def AUc:Y.Bt []:=Acp AUO AUb
def ACN:Y.Bt []:=Acp AUF AUc
def Acu:=fun a=>((.op 7 none [5,8,10,13,17,21] (.B9 12 0 (.st 2) []) a):Y.Bt [])
def AUd:Y.Bt []:=Acu ACN
def AUe:Y.Bt []:=Acu kK
def AUf:Y.Bt []:=Acu We
def Wh:Y.Bt []:=Acu Rk
def AUg:Y.Bt []:=Acm Wh
def kN:Y.Bt []:=Acp AUf AUg
def AUh:Y.Bt []:=Acq 15 20 kN
def AUi:Y.Bt []:=Acu Wf
def AUj:Y.Bt []:=Acq 15 20 Wh
def kO:Y.Bt []:=Acp AUi AUj
def AUk:Y.Bt []:=Acm kO
def AUl:Y.Bt []:=Acp AUh AUk
def ACO:Y.Bt []:=Acp AUe AUl
def AUm:Y.Bt []:=Acq 11 16 ACO
def AUn:Y.Bt []:=Acu kL
def AUo:Y.Bt []:=Acq 11 16 kN
def AUp:Y.Bt []:=Acu Wg
def AUq:Y.Bt []:=Acq 11 16 Wh
def kP:Y.Bt []:=Acp AUp AUq
def AUr:Y.Bt []:=Acm kP
def AUs:Y.Bt []:=Acp AUo AUr
def ACP:Y.Bt []:=Acp AUn AUs
def AUt:Y.Bt []:=Acq 15 20 ACP
def AUu:Y.Bt []:=Acu kM
def AUv:Y.Bt []:=Acq 11 16 kO
def AUw:Y.Bt []:=Acq 15 20 kP
def AUx:Y.Bt []:=Acp AUv AUw
def ACQ:Y.Bt []:=Acp AUu AUx
def AUy:Y.Bt []:=Acm ACQ
def AUz:Y.Bt []:=Acp AUt AUy
def AU0:Y.Bt []:=Acp AUm AUz
def AU1:Y.Bt []:=Acp AUd AU0
def Acv:=fun a=>((.op 2 none [8,10,13,17,21] HC a):Y.Bt [])
def ALn:Y.Bt []:=Acv AU1
def ALo:Y.Bt []:=Acv ACN
def ALp:Y.Bt []:=Acv kK
def ALq:Y.Bt []:=Acv We
def Sa:Y.Bt []:=Acv Rk
def ALr:Y.Bt []:=Acm Sa
def Yg:Y.Bt []:=Acp ALq ALr
def ALs:Y.Bt []:=Acq 15 20 Yg
def ALt:Y.Bt []:=Acv Wf
def ALu:Y.Bt []:=Acq 15 20 Sa
def Yh:Y.Bt []:=Acp ALt ALu
def ALv:Y.Bt []:=Acm Yh
def ALw:Y.Bt []:=Acp ALs ALv
def pA:Y.Bt []:=Acp ALp ALw
def ALx:Y.Bt []:=Acq 11 16 pA
def ALy:Y.Bt []:=Acv kL
def ALz:Y.Bt []:=Acq 11 16 Yg
def AL0:Y.Bt []:=Acv Wg
def AL1:Y.Bt []:=Acq 11 16 Sa
def Yi:Y.Bt []:=Acp AL0 AL1
def AL2:Y.Bt []:=Acm Yi
def AL3:Y.Bt []:=Acp ALz AL2
def pB:Y.Bt []:=Acp ALy AL3
def AL4:Y.Bt []:=Acq 15 20 pB
def AL5:Y.Bt []:=Acv kM
def AL6:Y.Bt []:=Acq 11 16 Yh
def AL7:Y.Bt []:=Acq 15 20 Yi
def AL8:Y.Bt []:=Acp AL6 AL7
def pC:Y.Bt []:=Acp AL5 AL8
def AL9:Y.Bt []:=Acm pC
def AMA:Y.Bt []:=Acp AL4 AL9
def AMB:Y.Bt []:=Acp ALx AMA
def AMC:Y.Bt []:=Acp ALo AMB
def AMD:Y.Bt []:=Acu AMC
def AME:Y.Bt []:=Acv ACO
def AMF:Y.Bt []:=Acu pA
def AMG:Y.Bt []:=Acv kN
def AMH:Y.Bt []:=Acu Yg
def AMI:Y.Bt []:=Acv Wh
def AMJ:Y.Bt []:=Acu Sa
def Yj:Y.Bt []:=Acp AMI AMJ
def AMK:Y.Bt []:=Acm Yj
def AML:Y.Bt []:=Acp AMH AMK
def pD:Y.Bt []:=Acp AMG AML
def AMM:Y.Bt []:=Acq 15 20 pD
def AMN:Y.Bt []:=Acv kO
def AMO:Y.Bt []:=Acu Yh
def AMP:Y.Bt []:=Acq 15 20 Yj
def AMQ:Y.Bt []:=Acp AMO AMP
def pE:Y.Bt []:=Acp AMN AMQ
def AMR:Y.Bt []:=Acm pE
def AMS:Y.Bt []:=Acp AMM AMR
def AMT:Y.Bt []:=Acp AMF AMS
def AMU:Y.Bt []:=Acp AME AMT
def AMV:Y.Bt []:=Acq 11 16 AMU
def AMW:Y.Bt []:=Acv ACP
def AMX:Y.Bt []:=Acu pB
def AMY:Y.Bt []:=Acq 11 16 pD
def AMZ:Y.Bt []:=Acv kP
def AMa:Y.Bt []:=Acu Yi
def AMb:Y.Bt []:=Acq 11 16 Yj
def AMc:Y.Bt []:=Acp AMa AMb
def pF:Y.Bt []:=Acp AMZ AMc
def AMd:Y.Bt []:=Acm pF
def AMe:Y.Bt []:=Acp AMY AMd
def AMf:Y.Bt []:=Acp AMX AMe
def AMg:Y.Bt []:=Acp AMW AMf
def AMh:Y.Bt []:=Acq 15 20 AMg
def AMi:Y.Bt []:=Acv ACQ
def AMj:Y.Bt []:=Acu pC
def AMk:Y.Bt []:=Acq 11 16 pE
def AMl:Y.Bt []:=Acq 15 20 pF
def AMm:Y.Bt []:=Acp AMk AMl
def AMn:Y.Bt []:=Acp AMj AMm
def AMo:Y.Bt []:=Acp AMi AMn
def AMp:Y.Bt []:=Acm AMo
def AMq:Y.Bt []:=Acp AMh AMp
def AMr:Y.Bt []:=Acp AMV AMq
def AMs:Y.Bt []:=Acp AMD AMr
def AMt:Y.Bt []:=Acp ALn AMs
def AMu:Y.Bt []:=(.op 17 none [] (.ld 22 none (.tmp 21)) AMt)
def AMv:Y.Bt []:=(.op 16 none [] (.fa 21 14 (.tmp 1)) AMu)
def AMw:Y.Bt []:=(.op 13 none [] (.ld 18 none (.tmp 17)) AMv)
def AMx:Y.Bt []:=(.op 12 none [] (.fa 17 13 (.tmp 1)) AMw)
def AMy:Y.Bt []:=(.op 9 none [] (.ld 14 none (.tmp 13)) AMx)
def AMz:Y.Bt []:=(.op 8 none [] (.fa 13 11 (.tmp 1)) AMy)
def AM0:Y.Bt []:=(.op 6 none [] (.ld 11 none (.tmp 10)) AMz)
def AM1:Y.Bt []:=(.op 5 none [] (.fa 10 10 (.tmp 1)) AM0)
def AM2:Y.Bt []:=(.op 4 none [] (.ld 9 none (.tmp 8)) AM1)
def AM3:Y.Bt []:=(.op 3 none [] (.fa 8 9 (.tmp 1)) AM2)
def AM4:Y.Bt []:=(.op 1 none [] (.ld 6 (some 9) (.tmp 5)) AM3)
def AM5:Y.Bt []:=(.op 0 none [] (.fa 5 0 (.tmp 1)) AM4)
def Abb:YF:=⟨[],[.v (.st 8)],[],.ret [(.st 8)],[.cell 2 (some 15)],sq [qu 1 0,.alloc 2 D9,.T3 [(.cell 2 0,.i),(.cell 2 11,(.st 2)),(.cell 2 12,(.st 7)),(.cell 2 13,.i),(.cell 2 14,.i)]] [1,2] (.seq (.Ta AM5 [1,2,3]) (.join [cx 3 (.st 8)] (sq [qK 4 0] (Kp 30) (bl 0 [cv 4 .i,cx 3 (.st 8)] (.seq (sw 25 [wm 4,wo 12 1,wL,wZ,wB .lss 25] (Kp 536870942) (ce 29 (Kp 30) [2,3] 0)) (.seq (.block 1 (.Ta (qd 0 [wn 32 [wo 12 3,wL,wo 12 1,wL,wm 4,wE (.st 7) 35,wK 7]] (.op 7 none [32] (.call 39 AQk [] rfl [(.tmp 38)]) (.op 8 none [32] (.B9 40 1 (.st 7) [(0,(.tmp 39))]) (qd 9 [wn 41 [wh (.app · (.st 7) false (.tmp 33) (.tmp 40)),wo 12 3],qn [qw 1 42 41]] .nil)))) [1,2,3,4])) (qr [wn 30 [wm 4,wI .add 1],qn [qa 4 31]] (Kp 30)))))) (sq [qL 43 15 3,qw 15 2 43] [2] .ret)))⟩
def C6(a:AF)(c:Ae)(X2:AA AF):AA AF:=gd (0+a.BC.length<=lim) (CT c c (ev6 a.Now a.Ay ([]++a.AG) ([]:List AX) ([]++a.BE) ([]++a.BC) X2))
def CS(a:AF)(c:Ae)(X4:AA AF):AA AF:=gd (0+a.BE.length<=lim) (gd (0+a.BC.length<=lim) (CT c c (ev6 a.Now a.Ay ([]++a.AG) ([]:List AX) ([]++a.BE) ([]++a.BC) X4)))
def zX(a:AF)(c:Ae)(X5:AA AF):AA AF:=gd (0+a.BE.length<=lim) (gd (0+a.BC.length<=lim) (alt (CS a c) (CT c c (ev6 a.Now a.Ay ([]++a.AG) ([]:List AX) ([]++a.BE) ([]++a.BC) X5))))
def LD(a:AF)(c:Ae)(X3:AA AF):AA AF:=gd (0+a.BE.length<=lim) (gd (0+a.BC.length<=lim) (alt (C6 a c) (alt (CS a c) (alt (zX a c) (CT c c (ev6 a.Now a.Ay ([]++a.AG) ([]:List AX) ([]++a.BE) ([]++a.BC) X3))))))
def zY(a:AF)(c:Ae)(X7:AA AF):AA AF:=gd (0+a.BE.length<=lim) (gd (0+a.BC.length<=lim) (alt (CS a c) (alt (CS a c) (CT c c (ev6 a.Now a.Ay ([]++a.AG) ([]:List AX) ([]++a.BE) ([]++a.BC) X7)))))
def dy(a:AF)(c:Ae)(X6:AA AF):AA AF:=gd (0+a.BE.length<=lim) (gd (0+a.BC.length<=lim) (alt (C6 a c) (alt (CS a c) (alt (CS a c) (alt (zY a c) (CT c c (ev6 a.Now a.Ay ([]++a.AG) ([]:List AX) ([]++a.BE) ([]++a.BC) X6)))))))
def Cy(a:AF)(c:Ae)(X10:AA AF):AA AF:=gd (0+a.AG.length<=lim) (gd (0+a.BE.length<=lim) (gd (0+a.BC.length<=lim) (CT c c (ev6 a.Now a.Ay ([]++a.AG) ([]:List AX) ([]++a.BE) ([]++a.BC) X10))))
def nC(a:AF)(c:Ae)(X11:AA AF):AA AF:=gd (0+a.AG.length<=lim) (gd (0+a.BE.length<=lim) (gd (0+a.BC.length<=lim) (alt (CS a c) (alt (Cy a c) (CT c c (ev6 a.Now a.Ay ([]++a.AG) ([]:List AX) ([]++a.BE) ([]++a.BC) X11))))))
def OZ(a:AF)(c:Ae)(X9:AA AF):AA AF:=gd (0+a.AG.length<=lim) (gd (0+a.BE.length<=lim) (gd (0+a.BC.length<=lim) (alt (C6 a c) (alt (CS a c) (alt (Cy a c) (alt (nC a c) (CT c c (ev6 a.Now a.Ay ([]++a.AG) ([]:List AX) ([]++a.BE) ([]++a.BC) X9))))))))
def XQ(a:AF)(c:Ae)(X14:AA AF):AA AF:=gd (0+a.AG.length<=lim) (gd (0+a.BE.length<=lim) (gd (0+a.BC.length<=lim) (alt (Cy a c) (CT c c (ev6 a.Now a.Ay ([]++a.AG) ([]:List AX) ([]++a.BE) ([]++a.BC) X14)))))
def MT(a:AF)(c:Ae)(X13:AA AF):AA AF:=gd (0+a.AG.length<=lim) (gd (0+a.BE.length<=lim) (gd (0+a.BC.length<=lim) (alt (C6 a c) (alt (CS a c) (alt (Cy a c) (alt (XQ a c) (CT c c (ev6 a.Now a.Ay ([]++a.AG) ([]:List AX) ([]++a.BE) ([]++a.BC) X13))))))))
def MU(a:AF)(c:Ae)(X16:AA AF):AA AF:=gd (0+a.AG.length<=lim) (gd (0+a.BE.length<=lim) (gd (0+a.BC.length<=lim) (alt (CS a c) (alt (Cy a c) (alt (XQ a c) (CT c c (ev6 a.Now a.Ay ([]++a.AG) ([]:List AX) ([]++a.BE) ([]++a.BC) X16)))))))
def nE(a:AF)(c:Ae)(X15:AA AF):AA AF:=gd (0+a.AG.length<=lim) (gd (0+a.BE.length<=lim) (gd (0+a.BC.length<=lim) (alt (CS a c) (alt (CS a c) (alt (MU a c) (CT c c (ev6 a.Now a.Ay ([]++a.AG) ([]:List AX) ([]++a.BE) ([]++a.BC) X15)))))))
def nD(a:AF)(c:Ae)(X12:AA AF):AA AF:=gd (0+a.AG.length<=lim) (gd (0+a.BE.length<=lim) (gd (0+a.BC.length<=lim) (alt (C6 a c) (alt (CS a c) (alt (CS a c) (alt (MT a c) (alt (nE a c) (CT c c (ev6 a.Now a.Ay ([]++a.AG) ([]:List AX) ([]++a.BE) ([]++a.BC) X12)))))))))
def eA(a:AF)(c:Ae)(X8:AA AF):AA AF:=gd (0+a.AG.length<=lim) (gd (0+a.BE.length<=lim) (gd (0+a.BC.length<=lim) (alt (C6 a c) (alt (C6 a c) (alt (LD a c) (alt (OZ a c) (alt (nD a c) (CT c c (ev6 a.Now a.Ay ([]++a.AG) ([]:List AX) ([]++a.BE) ([]++a.BC) X8)))))))))
def nG(a:AF)(c:Ae)(X19:AA AF):AA AF:=gd (0+a.AG.length<=lim) (gd (0+a.BE.length<=lim) (gd (0+a.BC.length<=lim) (alt (CS a c) (alt (Cy a c) (alt (Cy a c) (CT c c (ev6 a.Now a.Ay ([]++a.AG) ([]:List AX) ([]++a.BE) ([]++a.BC) X19)))))))
def XR(a:AF)(c:Ae)(X18:AA AF):AA AF:=gd (0+a.AG.length<=lim) (gd (0+a.BE.length<=lim) (gd (0+a.BC.length<=lim) (alt (C6 a c) (alt (CS a c) (alt (Cy a c) (alt (Cy a c) (alt (nG a c) (CT c c (ev6 a.Now a.Ay ([]++a.AG) ([]:List AX) ([]++a.BE) ([]++a.BC) X18)))))))))
def XT(a:AF)(c:Ae)(X22:AA AF):AA AF:=gd (0+a.AG.length<=lim) (gd (0+a.BE.length<=lim) (gd (0+a.BC.length<=lim) (alt (Cy a c) (alt (Cy a c) (CT c c (ev6 a.Now a.Ay ([]++a.AG) ([]:List AX) ([]++a.BE) ([]++a.BC) X22))))))
def XS(a:AF)(c:Ae)(X21:AA AF):AA AF:=gd (0+a.AG.length<=lim) (gd (0+a.BE.length<=lim) (gd (0+a.BC.length<=lim) (alt (C6 a c) (alt (CS a c) (alt (Cy a c) (alt (Cy a c) (alt (XT a c) (CT c c (ev6 a.Now a.Ay ([]++a.AG) ([]:List AX) ([]++a.BE) ([]++a.BC) X21)))))))))
def XU(a:AF)(c:Ae)(X24:AA AF):AA AF:=gd (0+a.AG.length<=lim) (gd (0+a.BE.length<=lim) (gd (0+a.BC.length<=lim) (alt (CS a c) (alt (Cy a c) (alt (Cy a c) (alt (XT a c) (CT c c (ev6 a.Now a.Ay ([]++a.AG) ([]:List AX) ([]++a.BE) ([]++a.BC) X24))))))))
def nI(a:AF)(c:Ae)(X23:AA AF):AA AF:=gd (0+a.AG.length<=lim) (gd (0+a.BE.length<=lim) (gd (0+a.BC.length<=lim) (alt (CS a c) (alt (CS a c) (alt (MU a c) (alt (XU a c) (CT c c (ev6 a.Now a.Ay ([]++a.AG) ([]:List AX) ([]++a.BE) ([]++a.BC) X23))))))))
def nH(a:AF)(c:Ae)(X20:AA AF):AA AF:=gd (0+a.AG.length<=lim) (gd (0+a.BE.length<=lim) (gd (0+a.BC.length<=lim) (alt (C6 a c) (alt (CS a c) (alt (CS a c) (alt (MT a c) (alt (XS a c) (alt (nI a c) (CT c c (ev6 a.Now a.Ay ([]++a.AG) ([]:List AX) ([]++a.BE) ([]++a.BC) X20))))))))))
def nF(a:AF)(c:Ae)(X17:AA AF):AA AF:=gd (0+a.AG.length<=lim) (gd (0+a.BE.length<=lim) (gd (0+a.BC.length<=lim) (alt (C6 a c) (alt (C6 a c) (alt (LD a c) (alt (OZ a c) (alt (XR a c) (alt (nH a c) (CT c c (ev6 a.Now a.Ay ([]++a.AG) ([]:List AX) ([]++a.BE) ([]++a.BC) X17))))))))))
def Hm(a:AF)(c:Ae)(X31:AA AF):AA AF:=bd (GY a.AQ) fun e=>gd (0+a.AG.length<=lim) (gd (0+a.BE.length<=lim) (gd (0+a.BC.length<=lim) (CT c e (ev6 a.Now a.Ay ([]++a.AG) ([]:List AX) ([]++a.BE) ([]++a.BC) X31))))
def nL(a:AF)(e:Ae)(X33:AA AF):AA AF:=bd (GY a.AQ) fun c=>gd (0+a.AG.length<=lim) (gd (0+a.BE.length<=lim) (gd (0+a.BC.length<=lim) (alt (CS a c) (alt (Cy a c) (alt (Hm a c) (CT e c (ev6 a.Now a.Ay ([]++a.AG) ([]:List AX) ([]++a.BE) ([]++a.BC) X33)))))))
def XV(a:AF)(e:Ae)(X29:AA AF):AA AF:=bd (GY a.AQ) fun c=>gd (0+a.AG.length<=lim) (gd (0+a.BE.length<=lim) (gd (0+a.BC.length<=lim) (alt (C6 a c) (alt (CS a c) (alt (Cy a c) (alt (Hm a c) (alt (nL a c) (CT e c (ev6 a.Now a.Ay ([]++a.AG) ([]:List AX) ([]++a.BE) ([]++a.BC) X29)))))))))
def XX(a:AF)(e:Ae)(X39:AA AF):AA AF:=bd (GY a.AQ) fun c=>gd (0+a.AG.length<=lim) (gd (0+a.BE.length<=lim) (gd (0+a.BC.length<=lim) (alt (Cy a c) (alt (Hm a c) (CT e c (ev6 a.Now a.Ay ([]++a.AG) ([]:List AX) ([]++a.BE) ([]++a.BC) X39))))))
def XW(a:AF)(e:Ae)(X37:AA AF):AA AF:=bd (GY a.AQ) fun c=>gd (0+a.AG.length<=lim) (gd (0+a.BE.length<=lim) (gd (0+a.BC.length<=lim) (alt (C6 a c) (alt (CS a c) (alt (Cy a c) (alt (Hm a c) (alt (XX a c) (CT e c (ev6 a.Now a.Ay ([]++a.AG) ([]:List AX) ([]++a.BE) ([]++a.BC) X37)))))))))
def XY(a:AF)(e:Ae)(X43:AA AF):AA AF:=bd (GY a.AQ) fun c=>gd (0+a.AG.length<=lim) (gd (0+a.BE.length<=lim) (gd (0+a.BC.length<=lim) (alt (CS a c) (alt (Cy a c) (alt (Hm a c) (alt (XX a c) (CT e c (ev6 a.Now a.Ay ([]++a.AG) ([]:List AX) ([]++a.BE) ([]++a.BC) X43))))))))
def nN(a:AF)(e:Ae)(X41:AA AF):AA AF:=bd (GY a.AQ) fun c=>gd (0+a.AG.length<=lim) (gd (0+a.BE.length<=lim) (gd (0+a.BC.length<=lim) (alt (CS a c) (alt (CS a c) (alt (MU a c) (alt (XY a c) (CT e c (ev6 a.Now a.Ay ([]++a.AG) ([]:List AX) ([]++a.BE) ([]++a.BC) X41))))))))
def nM(a:AF)(e:Ae)(X35:AA AF):AA AF:=bd (GY a.AQ) fun c=>gd (0+a.AG.length<=lim) (gd (0+a.BE.length<=lim) (gd (0+a.BC.length<=lim) (alt (C6 a c) (alt (CS a c) (alt (CS a c) (alt (MT a c) (alt (XW a c) (alt (nN a c) (CT e c (ev6 a.Now a.Ay ([]++a.AG) ([]:List AX) ([]++a.BE) ([]++a.BC) X35))))))))))
def nK(a:AF)(e:Ae)(X27:AA AF):AA AF:=bd (GY a.AQ) fun c=>gd (0+a.AG.length<=lim) (gd (0+a.BE.length<=lim) (gd (0+a.BC.length<=lim) (alt (C6 a c) (alt (C6 a c) (alt (LD a c) (alt (OZ a c) (alt (XV a c) (alt (nM a c) (CT e c (ev6 a.Now a.Ay ([]++a.AG) ([]:List AX) ([]++a.BE) ([]++a.BC) X27))))))))))
def SG(a:AF)(e:Ae)(X53:AA AF):AA AF:=bd (GY a.AQ) fun c=>gd (0+a.AG.length<=lim) (gd (0+a.BE.length<=lim) (gd (0+a.BC.length<=lim) (alt (Hm a c) (CT e c (ev6 a.Now a.Ay ([]++a.AG) ([]:List AX) ([]++a.BE) ([]++a.BC) X53)))))
def XZ(a:AF)(e:Ae)(X51:AA AF):AA AF:=bd (GY a.AQ) fun c=>gd (0+a.AG.length<=lim) (gd (0+a.BE.length<=lim) (gd (0+a.BC.length<=lim) (alt (C6 a c) (alt (CS a c) (alt (Cy a c) (alt (Hm a c) (alt (SG a c) (CT e c (ev6 a.Now a.Ay ([]++a.AG) ([]:List AX) ([]++a.BE) ([]++a.BC) X51)))))))))
def Xa(a:AF)(e:Ae)(X57:AA AF):AA AF:=bd (GY a.AQ) fun c=>gd (0+a.AG.length<=lim) (gd (0+a.BE.length<=lim) (gd (0+a.BC.length<=lim) (alt (CS a c) (alt (Cy a c) (alt (Hm a c) (alt (SG a c) (CT e c (ev6 a.Now a.Ay ([]++a.AG) ([]:List AX) ([]++a.BE) ([]++a.BC) X57))))))))
def nR(a:AF)(e:Ae)(X55:AA AF):AA AF:=bd (GY a.AQ) fun c=>gd (0+a.AG.length<=lim) (gd (0+a.BE.length<=lim) (gd (0+a.BC.length<=lim) (alt (CS a c) (alt (Cy a c) (alt (Cy a c) (alt (Xa a c) (CT e c (ev6 a.Now a.Ay ([]++a.AG) ([]:List AX) ([]++a.BE) ([]++a.BC) X55))))))))
def nQ(a:AF)(e:Ae)(X49:AA AF):AA AF:=bd (GY a.AQ) fun c=>gd (0+a.AG.length<=lim) (gd (0+a.BE.length<=lim) (gd (0+a.BC.length<=lim) (alt (C6 a c) (alt (CS a c) (alt (Cy a c) (alt (Cy a c) (alt (XZ a c) (alt (nR a c) (CT e c (ev6 a.Now a.Ay ([]++a.AG) ([]:List AX) ([]++a.BE) ([]++a.BC) X49))))))))))
def nP(a:AF)(e:Ae)(X47:AA AF):AA AF:=bd (GY a.AQ) fun c=>gd (0+a.AG.length<=lim) (gd (0+a.BE.length<=lim) (gd (0+a.BC.length<=lim) (alt (C6 a c) (alt (C6 a c) (alt (LD a c) (alt (OZ a c) (alt (XV a c) (alt (nQ a c) (CT e c (ev6 a.Now a.Ay ([]++a.AG) ([]:List AX) ([]++a.BE) ([]++a.BC) X47))))))))))
def nW(a:AF)(e:Ae)(X67:AA AF):AA AF:=bd (GY a.AQ) fun c=>gd (0+a.AG.length<=lim) (gd (0+a.BE.length<=lim) (gd (0+a.BC.length<=lim) (alt (Cy a c) (alt (Hm a c) (alt (SG a c) (CT e c (ev6 a.Now a.Ay ([]++a.AG) ([]:List AX) ([]++a.BE) ([]++a.BC) X67)))))))
def Xb(a:AF)(e:Ae)(X65:AA AF):AA AF:=bd (GY a.AQ) fun c=>gd (0+a.AG.length<=lim) (gd (0+a.BE.length<=lim) (gd (0+a.BC.length<=lim) (alt (Cy a c) (alt (Cy a c) (alt (nW a c) (CT e c (ev6 a.Now a.Ay ([]++a.AG) ([]:List AX) ([]++a.BE) ([]++a.BC) X65)))))))
def nV(a:AF)(e:Ae)(X63:AA AF):AA AF:=bd (GY a.AQ) fun c=>gd (0+a.AG.length<=lim) (gd (0+a.BE.length<=lim) (gd (0+a.BC.length<=lim) (alt (C6 a c) (alt (CS a c) (alt (Cy a c) (alt (Cy a c) (alt (XZ a c) (alt (Xb a c) (CT e c (ev6 a.Now a.Ay ([]++a.AG) ([]:List AX) ([]++a.BE) ([]++a.BC) X63))))))))))
def nU(a:AF)(e:Ae)(X61:AA AF):AA AF:=bd (GY a.AQ) fun c=>gd (0+a.AG.length<=lim) (gd (0+a.BE.length<=lim) (gd (0+a.BC.length<=lim) (alt (C6 a c) (alt (CS a c) (alt (CS a c) (alt (MT a c) (alt (XW a c) (alt (nV a c) (CT e c (ev6 a.Now a.Ay ([]++a.AG) ([]:List AX) ([]++a.BE) ([]++a.BC) X61))))))))))
def nZ(a:AF)(e:Ae)(X73:AA AF):AA AF:=bd (GY a.AQ) fun c=>gd (0+a.AG.length<=lim) (gd (0+a.BE.length<=lim) (gd (0+a.BC.length<=lim) (alt (CS a c) (alt (Cy a c) (alt (Cy a c) (alt (Xa a c) (alt (Xb a c) (CT e c (ev6 a.Now a.Ay ([]++a.AG) ([]:List AX) ([]++a.BE) ([]++a.BC) X73)))))))))
def nY(a:AF)(e:Ae)(X71:AA AF):AA AF:=bd (GY a.AQ) fun c=>gd (0+a.AG.length<=lim) (gd (0+a.BE.length<=lim) (gd (0+a.BC.length<=lim) (alt (CS a c) (alt (CS a c) (alt (MU a c) (alt (XY a c) (alt (nZ a c) (CT e c (ev6 a.Now a.Ay ([]++a.AG) ([]:List AX) ([]++a.BE) ([]++a.BC) X71)))))))))
def nX(a:AF)(e:Ae)(X69:AA AF):AA AF:=bd (GY a.AQ) fun c=>gd (0+a.AG.length<=lim) (gd (0+a.BE.length<=lim) (gd (0+a.BC.length<=lim) (alt (CS a c) (alt (CS a c) (alt (MU a c) (alt (XU a c) (alt (nY a c) (CT e c (ev6 a.Now a.Ay ([]++a.AG) ([]:List AX) ([]++a.BE) ([]++a.BC) X69)))))))))
def nS(c:AF)(e:Ae)(X59:AA AF):AA AF:=bd (GY c.AQ) fun a=>gd (0+c.AG.length<=lim) (gd (0+c.BE.length<=lim) (gd (0+c.BC.length<=lim) (alt (C6 c a) (alt (CS c a) (alt (CS c a) (alt (MT c a) (alt (XS c a) (alt (nU c a) (alt (nX c a) (CT e a (ev6 c.Now c.Ay ([]++c.AG) ([]:List AX) ([]++c.BE) ([]++c.BC) X59)))))))))))
def nO(c:AF)(e:Ae)(X45:AA AF):AA AF:=bd (GY c.AQ) fun a=>gd (0+c.AG.length<=lim) (gd (0+c.BE.length<=lim) (gd (0+c.BC.length<=lim) (alt (C6 c a) (alt (C6 c a) (alt (LD c a) (alt (OZ c a) (alt (XR c a) (alt (nP c a) (alt (nS c a) (CT e a (ev6 c.Now c.Ay ([]++c.AG) ([]:List AX) ([]++c.BE) ([]++c.BC) X45)))))))))))
def nJ(c:AF)(e:Ae)(X25:AA AF):AA AF:=bd (GY c.AQ) fun a=>gd (0+c.AG.length<=lim) (gd (0+c.BE.length<=lim) (gd (0+c.BC.length<=lim) (alt (C6 c a) (alt (C6 c a) (alt (LD c a) (alt (dy c a) (alt (eA c a) (alt (nK c a) (alt (nO c a) (CT e a (ev6 c.Now c.Ay ([]++c.AG) ([]:List AX) ([]++c.BE) ([]++c.BC) X25)))))))))))
def na(a:AF):AA AF:=some a
def Xc(j:AF)(g:Int×AF->AA AF)(q:Int×AF):AA AF:=let (c,a):=q;br (decide (c<j.AH.length)) (bd (at? j.AH c) fun h=>bd (AH7 h) fun e=>gd (a.AH.length+[e].length<=lim) (g (w64 (c+1),AF.mk a.AQ a.Now a.Ay a.AG (a.AH++[e]) a.BE a.BC))) (jn na a)
def Ms(a:AF):AA AF:=bd (GY a.AQ) fun c=>gd (0+a.AG.length<=lim) (gd (0+a.BE.length<=lim) (gd (0+a.BC.length<=lim) (alt (C6 a c) (alt (C6 a c) (alt (LD a c) (alt (dy a c) (alt (eA a c) (alt (nF a c) (alt (nJ a c) (A3 (Xc a) big (0,AF.mk c a.Now a.Ay ([]++a.AG) [] ([]++a.BE) ([]++a.BC))))))))))))
def LW:GF:=Abb.EE (Be Ms)
def Ss(a:BD):AA BD:=bd (Ms a.Az) fun c=>gd (0+a.Laid.length<=lim) (bd (Ms a.Az) fun e=>gd (0+a.Laid.length<=lim) (JG c e (vJ a.Bl a.Bl (ev2 a.Seq ([]++a.Laid) (some (BD.mk c a.Bl a.Seq ([]++a.Laid)))))))
def Xo:=gZ Tt AE2 AE7 ["N9rGHWkwxyblwBMr5UZOrAwrzb8ACsq0iFX6pNBDmItMIy1NbwcTHFwBGmCdm3fhTMQotgIUZXODr1CX","ivZLFmWIWZoupqiFYPazD0WN11V6Ab67oS"] [LW] (Be Ss)
def zZ(a:Bo):AA (List UInt8):=bd (Ug a) fun c=>br (!c) (some []) (br (a.Kind==1) (bd (ZC ([a.Kind,a.Id,a.AY,w64 (a.Bk+1),a.BB,a.Cv])) fun e=>some e) (br (a.Kind==3) (bd (ZC ([a.Kind,a.AY,a.BB])) fun g=>some g) (br (a.Kind==6) (bd (ZC [a.Kind]) fun h=>some h) (bd (ZC ([a.Kind,a.Id])) fun j=>some j))))
def AEH:=gZ sU Nu Ca ["YSKXPjsfg37kdrZiBm0sG2RekgLHfuTksA5UBa35ISKnNCP2vkTK0CI1aeKu2zgfTuPdc3fC6GBr4UAn","izmsmZvekaI3eG9ol4Qpt73ln9rGk4Mlnur6iOpuCpD6WXItv96"] [il,AD4] (Be zZ)
def eB(h:Int)(a:List UInt8)(j:Bool):AA (List UInt8):=br j (some []) (bd (cV h) fun c=>gd (e9 c+a.length<=N5) (bd (yP (c++a)) fun q=>bd (yS q) fun e=>gd (e9 e+(c++a).length<=N5) (bd (cV (↑(e++(c++a)).length:Int)) fun g=>gd (e9 g+(e++(c++a)).length<=N5) (some (g++(e++(c++a)))))))
def za(a:Int)(c:List UInt8):AA (List UInt8):=bd (ED a 1 1000000) fun e=>br (!e) (jn (eB a c) true) (bd (ED (↑c.length:Int) 1 60) fun g=>jn (eB a c) (!g))
def AEI:=gZ [.v .i,.v .s] Nu Bw ["yavrCQkrh1B1Y6GAjMvE8xMVro9tUKEDwE4cMtUBzq8vSQt3II5FfPVFyf6s4Nz7LdRGAj54"] [Gx,ADy,AD5,AD6] (Ah za) [.MF 22 (.tmp 21)]
def zb(c:Int)(e:Bo):AA (List UInt8):=bd (zZ e) fun a=>br (a==[]) (some []) (bd (za c a) fun g=>some g)
def AQl:=gZ [.v .i,.v (.st 0)] Nu Bw ["2cyJudn9PFBycyUIsv3Tb2OR7cMxlOa7HP"] [AEH,AEI] (Ah zb)
def eD(a:B3)(c:List UInt8)(e:Bool):AA (B3×Bool):=br e (some (a,false)) (gd (a.Data.length+c.length<=N5) (some (B3.mk (a.Data++c) a.Safe,true)))
def eC(a:B3)(c:List UInt8):AA (B3×Bool):=bd (QL a) fun e=>br (!e) (jn (eD a c) true) (jn (eD a c) (decide ((↑c.length:Int)>w64 (20000-(↑a.Data.length:Int)))))
def AEJ:=gZ [.v (.st 9),.v .s] Xw YB ["APONCylCdoFgUJfJp9KelfXDvFqwVAhu2t1WduyC8gGwW4GVMNObnBNI5zKF2WZQv1"] [RF] (Ah eC)
def eE(e:BD)(c:Bo)(a:BD)(h:B3×Bool)(g:Bool):AA (BD×Int):=br g (some (a,24)) (gd (a.Laid.length+[c].length<=lim) (some (BD.mk a.Az (Br.mk h.fst a.Bl.EJ a.Bl.Odd) (w64 (e.Seq+1)) (a.Laid++[c]),0)))
def AH8(a:BD)(e:Bo):AA (BD×Int):=bd (Ss a) fun g=>bd (Y5 a) fun y=>br (!y) (some (g,21)) (bd (Ug e) fun B=>br (!B) (some (g,22)) (br (a.Seq==1000000) (some (g,23)) (bd (zb (w64 (a.Seq+1)) e) fun h=>bd (eC a.Bl.Log h) fun c=>bd (eC a.Bl.Log h) fun j=>eqv c.snd j.snd (N8 c.fst j.fst (bd (zb (w64 (a.Seq+1)) e) fun E=>bd (eC a.Bl.Log E) fun q=>eqv c.snd q.snd (N8 c.fst q.fst (br ((↑a.Laid.length:Int)==8) (jn (eE a e g c) true) (jn (eE a e g c) (!c.snd)))))))))
def AQm:=gZ [.v (.st 11),.v (.st 0)] (.ret [(.st 11),.i]) YC ["2rraND36m8vfe8x5cCUr7R9u9lVRYGz0e8iXJ57qWSNzartTtvS3si3j88lgWxsCMNawTmwT0enlvgvv","dF6YXGLib3hy9IDOrPuuFw6X1VSNgouOFUTWahONfz0iblrGESYzXcIi5EgBdfSa8N8bpFb3AXl5tNHv","T8nK9nBKJxCAe2ulibz3OcNX0XoW6ehrwbaoR1903iPVGsCZ5OIZc5EyNydk5mLraGIsSkoTBIHTN10P","Jksi5XzWMeySSiuxcRLmb4BGF59zBafaYwxIGAZdcAxgyFe4x8"] [Xo,Xk,il,AQl,AEJ] (Ah AH8)
def VR(a:List Ad):AA (List Ad):=gd (0+a.length<=lim) (some a)
def rl:=gZ jC jH Ca ["1dT9yHp2YicwMp"] [] (Be VR)
def zc(a:Av):AA Av:=some a
def zd(g:Av)(h:Int×Av->AA Av)(j:Int×Av):AA Av:=let (a,c):=j;br (decide (a<g.An.length)) (bd (at? g.An a) fun e=>gd (0+e9 e<=lim) (gd (c.An.length+[e].length<=lim) (h (w64 (a+1),Av.mk (c.An++[e]))))) (jn zc c)
def eF(a:Av):AA Av:=A3 (zd a) big (0,Av.mk [])
def rm:=gZ Ts AEz AE5 ["FWF37tnV8ntI0mImfQGOm1ssGG4z04Pme8dzLBGDg8DKz7kOZrhXEL7nlSe3h6Nfg58Eypcah01074qP","x3Qt"] [] (Be eF)
def AH9(a:AX):AA AX:=bd (VR a.Row) fun c=>bd (eF a.Bq) fun e=>some (AX.mk a.AZ c e)
def AQn:=gZ jD AE0 AE6 ["2eTmOj2tBLOG57w1VmbQ6VutseFV5cBpOPHwzz9D4UPWk"] [rl,rm] (Be AH9)
def ze(a:AF):AA AF:=some a
def eG(j:AF)(g:Int×AF->AA AF)(q:Int×AF):AA AF:=let (c,a):=q;br (decide (c<j.AH.length)) (bd (at? j.AH c) fun h=>bd (AH9 h) fun e=>gd (a.AH.length+[e].length<=lim) (g (w64 (c+1),AF.mk a.AQ a.Now a.Ay a.AG (a.AH++[e]) a.BE a.BC))) (jn ze a)
def Mu(a:AF):AA AF:=bd (yC a.AQ) fun c=>gd (0+a.AG.length<=lim) (bd (JX a.BE) fun e=>bd (JX a.BC) fun g=>bd (JX a.BC) fun q=>CT c c (ev5 a.Now a.Ay a.AG ([]:List AX) e (eqv g q (bd (JX a.BE) fun y=>bd (JX a.BC) fun B=>CT c c (ev4 a.Now a.Ay a.AG ([]:List AX) (eqv e y (eqv g B (gd (0+a.AG.length<=lim) (bd (JX a.BE) fun E=>bd (JX a.BC) fun G=>CT c c (ev4 a.Now a.Ay a.AG ([]:List AX) (eqv e E (eqv g G (bd (yC a.AQ) fun H=>gd (0+a.AG.length<=lim) (bd (JX a.BE) fun h=>bd (JX a.BC) fun j=>CT c H (ev4 a.Now a.Ay a.AG ([]:List AX) (eqv e h (eqv g j (A3 (eG a) big (0,AF.mk c a.Now a.Ay a.AG [] e g)))))))))))))))))))
def Kf:=gZ Ns Nt [.cell 2 (some 15)] ["nhzVYgC4RjKGDqo8lS2XgZH09QJ5rOqXlXrQjm1sxta3FNjnDjwT3oCyuHval0gwnM0cshxQa5I2QwE1","rD4STCvVQ2G7vjp6xEQ1jUeBFjIUG4xsh7Y3NXAAACOmquyqzymApTV5anelfopqG7RSgoK2rHBNgCTG","fCeKeu8iQFmBDyZBtfG7tIp3axmyDYOVdvfEp4ijmIE4270G4mrmfxfqjNMNksGv2cLCqY3tploAsK9G","X38f7W2GMeJarSEeXgB6XjbW2ClPoUcsDlS9MEIkiub8pPS438Ltn1DJxqg3JkQi7S3aawgQc2PfCmzh","a6fwtkTEfkFIKfbA4hkh0xxLy567Qo1ZBsxrmCV8a2kTBzgCv4sEKoGbmv3ynMwrNWaMmy9yTeAityZv","9pUsFmVIjw"] [AQA,Tl,AQn] (Be Mu)
def ZE(a:BD):AA BD:=bd (Mu a.Az) fun c=>gd (0+a.Laid.length<=lim) (some (BD.mk c a.Bl a.Seq a.Laid))
def Xp:=gZ Tt AE2 AE7 ["2PyirWFPV1jIAFIV9yWMF7ix5B5niT2ApJwBHxIAn1kiGpdFVHwXXK"] [Kf] (Be ZE)
def Qv(a:List Int):AA (List UInt8):=bd (yY a) fun c=>some c
def zf(a:Bo):AA (List UInt8):=bd (U8 a) fun c=>br (!c) (some []) (br (a.Kind==1) (gd ([a.Kind].length+[a.Id,a.AY,w64 (a.Bk+1),a.BB,a.Cv].length<=lim) (jn Qv ([a.Kind]++[a.Id,a.AY,w64 (a.Bk+1),a.BB,a.Cv]))) (br (a.Kind==3) (gd ([a.Kind].length+[a.AY,a.BB].length<=lim) (jn Qv ([a.Kind]++[a.AY,a.BB]))) (br (a.Kind==6) (jn Qv [a.Kind]) (gd ([a.Kind].length+[a.Id].length<=lim) (jn Qv ([a.Kind]++[a.Id]))))))
def AEK:=gZ sU Nu Ca ["52B9IGY5euKafdARQwOQfdbmfXGqEoGoYP5pom3sGYLt5uzUsABxmDZ197LelyjpogzpAr2NookjVlo9","HSMUg77h9O9yRUUYGPaQAldUYurPhOMiADNzjKyuAGGZReDZZtRyz0cBi"] [iy,rf] (Be zf)
def db(h:Int)(c:List UInt8)(j:Bool):AA (List UInt8):=br j (some []) (bd (VC h) fun e=>gd (e9 e+c.length<=lim) (bd (ya (e++c)) fun a=>gd ([toB (Dy a 24),toB (Dy a 16),toB (Dy a 8),toB a].length+(e++c).length<=lim) (bd (VC (↑([toB (Dy a 24),toB (Dy a 16),toB (Dy a 8),toB a]++(e++c)).length:Int)) fun g=>gd (e9 g+([toB (Dy a 24),toB (Dy a 16),toB (Dy a 8),toB a]++(e++c)).length<=N5) (some (g++([toB (Dy a 24),toB (Dy a 16),toB (Dy a 8),toB a]++(e++c)))))))
def zD(a:Int)(c:List UInt8):AA (List UInt8):=bd (C0 a 1 1000000) fun e=>br (!e) (jn (db a c) true) (bd (C0 (↑c.length:Int) 1 60) fun g=>jn (db a c) (!g))
def AD9:=gZ [.v .i,.v .s] Nu Bw ["83K7cwqk286I20lPd1GJN2Q1GxHD32zJHXxGKNGrxgAbShtwoG2sKpictKTgjTnm8olWqqAXlyc2wvAJ","onwWPJvavtihN0UcVVHnzHRkQ9zlY5inyiuyCRAobtxxF"] [Eb,Xn,rh] (Ah zD)
def zE(a:Int)(c:Bo):AA (List UInt8):=bd (zf c) fun e=>bd (zD a e) fun g=>some g
def AQX:=gZ [.v .i,.v (.st 0)] Nu Bw ["6isx8E2u7kdwxbmsmI"] [AEK,AD9] (Ah zE)
def dg(a:B3)(c:List UInt8)(e:Bool):AA (B3×Bool):=br e (some (a,false)) (some (B3.mk (a.Data++c) a.Safe,true))
def de(a:B3)(c:List UInt8):AA (B3×Bool):=gd (a.Data.length+c.length<=N5) (bd (OT a) fun e=>br (!e) (jn (dg a c) true) (bd (OT (B3.mk (a.Data++c) a.Safe)) fun g=>jn (dg a c) (!g)))
def AEA:=gZ [.v (.st 9),.v .s] Xw YB ["dxLkXAxm9o0JMn8jYCeUQrqMJkZcBVdfvkBFRTZNlTNFqDwwMyLe0oKa55pjbXxNS"] [RI] (Ah de)
def AHx(c:BD)(g:Bo):AA (BD×Int):=bd (ZE c) fun a=>bd (ZA c) fun y=>br (!y) (some (a,21)) (bd (U8 g) fun B=>br (!B) (some (a,22)) (br (c.Seq==1000000) (some (a,23)) (br ((↑c.Laid.length:Int)==8) (some (a,24)) (bd (zE (w64 (c.Seq+1)) g) fun h=>bd (de c.Bl.Log h) fun e=>bd (de c.Bl.Log h) fun j=>eqv e.snd j.snd (N8 e.fst j.fst (bd (zE (w64 (c.Seq+1)) g) fun E=>bd (de c.Bl.Log E) fun q=>eqv e.snd q.snd (N8 e.fst q.fst (br (!e.snd) (some (a,24)) (gd (a.Laid.length+[g].length<=lim) (some (BD.mk a.Az (Br.mk e.fst a.Bl.EJ a.Bl.Odd) (w64 (a.Seq+1)) (a.Laid++[g]),0)))))))))))
def AQY:=gZ [.v (.st 11),.v (.st 0)] (.ret [(.st 11),.i]) YC ["2G1kXx1mfZ5WNn4OhIMcyRalVLAwTejuSFlTIesZyErWUW45VJrQXMgA44og6emau0ydXI2DZ9XV9pd8","qiXUeSVJI9gcH7f8A7E95PVGfDW8op9tFu1viVyqrPVRJUO7MGXkh5JZopVzdMOSffyVXXTwntGU0ts3","zzs46PbZsi1nnwiAeGDK04fnooDiuLH7fcTvqCl6bfebN7iO4zn0APlwimMh7hgYDTr7I3c3HdWxwVwK","LaJJpEn1UK3exy2jBLvD6g1Ku8ZJc4dRgoJ3SEMlaX7M6zTtuJC8SBXaTXV5p2EHgi4LWqSy6VVj888b","bt"] [Xp,Xm,iy,AQX,AEA] (Ah AHx)
end Lv
