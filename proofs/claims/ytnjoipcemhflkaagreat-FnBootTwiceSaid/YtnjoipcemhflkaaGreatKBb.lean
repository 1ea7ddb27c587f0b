/- Functions of the program as typed texts and as plain functions. -/
import Derived.Test.YtnjoipcemhflkaaGreatKAb
open List renaming length->aO
noncomputable section
set_option linter.unusedVariables false
set_option linter.unusedSimpArgs false
set_option linter.unusedSectionVars false
set_option maxRecDepth 100000
namespace Lv
open Go (IntKind BinOp UnOp)
open Y (YF qn qf qt qr q1 qd qm qa qo ql qL qb qi qx qp qq qc qz qe qk qK qB qw qu qj Kp wn wf wt w1 sw sq sr wm wM wo wO wl wL wk wK wz wZ wx wX wb wB wi wI wr wR wq wQ we wE wc wY wj wh cv ca cx cn ce bl)
def qF(a:Aa):AA (List Int):=bd (WM a) fun c=>br (!c) (some []) (gd ([a.CS,a.Room,a.BE,a.CE,a.Bz,a.Rest,a.CY,a.Cu].length+a.AY.length<=lim) (some ([a.CS,a.Room,a.BE,a.CE,a.Bz,a.Rest,a.CY,a.Cu]++a.AY)))
def vq:=gZ Su AbZ DA ["1Oaf0cMWlsniViQaJh6bFpYlxJGfDGnz6dUQDMapJnH5TYMeC8HdkAi0mBh"] [So] (Bc qF)
def AaB(c:C):YF:=⟨[],[.v (.st 8)],[],.ret [c],[.tmp 2],sq [qu 1 0,.as 2 (.k .nil)] [1] (.seq (sw 11 [wk 15 1,wY Qs rfl,wX] [1,13] (cn 13 [1] (sq [.as 2 (.k .nil)] [2] .ret))) (sr [wn 14 [wo 0 1,wK 9,wY vq rfl],qn [qa 3 16]] [1,3] (sr [wn 17 [wm 3,wZ,wh (.CF · 1 .i [(0,(.tmp 18))]),wm 3,wh (.app · .i true (.tmp 19) (.tmp 20))],qn [qa 4 21]] [1,4] (sr [wn 22 [wm 4,wo 9 1,wL,wo 10 1,wL,wo 11 1,wL,wZ,wh (.CF · 3 .i [(0,(.tmp 24)),(1,(.tmp 26)),(2,(.tmp 29))]),wh (.app · .i true (.tmp 22) (.tmp 30))],qn [qa 4 31]] [1,4] (.join [cv 4 (.l .i)] (sw 32 [wo 11 1,wL,wZ,wj 0] (Kp 60129542162) (bl 0 [cv 4 (.l .i),cv 35 .i] (sq [qb 36 .lss 35 34] (Kp 128849018898) (.seq (ce 36 (Kp 60129542162) [1,4] 0) (.seq (.block 1 (sr [wn 37 [we (.st 2) 33 35,wK 10],qn [.alloc 6 AXU,qw 10 6 38]] (Kp 60129542226) (qr [wn 39 [wm 4,wo 0 6,wL,wo 1 6,wL,wo 2 6,wL,wI .add 1,wo 3 6,wL,wo 4 6,wL,wo 5 6,wL,wo 6 6,wL,wo 7 6,wL,wo 8 6,wL,wo 9 6,wL,wh (.CF · 10 .i [(0,(.tmp 41)),(1,(.tmp 43)),(2,(.tmp 46)),(3,(.tmp 48)),(4,(.tmp 50)),(5,(.tmp 52)),(6,(.tmp 54)),(7,(.tmp 56)),(8,(.tmp 58)),(9,(.tmp 60))]),wh (.app · .i true (.tmp 39) (.tmp 61))],qn [qa 4 62]] (Kp 60129542162)))) (q1 [qi 63 .add 35 1,qm 35 63] (Kp 60129542162))))))) (.join [cv 4 (.l .i)] (sw 64 [wo 12 1,wL,wZ,wj 0] [1,4,65,66,67] (bl 2 [cv 4 (.l .i),cv 67 .i] (sq [qb 68 .lss 67 66] [1,4,65,66,67,68] (.seq (ce 68 [1,4,65,66,67] [1,4] 2) (.seq (.block 3 (sr [wn 69 [we (.st 7) 65 67,wK 7],qn [.alloc 8 AXT,.VZ [(.cell 8 5,(.st 4)),(.cell 8 6,(.l (.st 5)))],qw 7 8 70]] [1,4,8,65,66,67] (qr [wn 71 [wm 4,wo 0 8,wO 1,wL,wh (.CF · 1 .i [(0,(.tmp 74))]),wh (.app · .i true (.tmp 71) (.tmp 75))],qn [qa 4 76]] [1,4,65,66,67]))) (q1 [qi 77 .add 67 1,qm 67 77] [1,4,65,66,67])))))) (sr [wn 78 [wm 4,wo 13 1,wL,wZ,wh (.CF · 1 .i [(0,(.tmp 81))]),wh (.app · .i true (.tmp 78) (.tmp 82))],qn [qa 4 83]] [1,4] (sr [wn 84 [wm 4,wo 13 1,wL,wh (.app · .i true (.tmp 84) (.tmp 86))],qn [qa 4 87]] [1,4] (.join [cv 4 (.l .i)] (sw 88 [wo 14 1,wL,wZ,wj 0] [4,89,90,91] (bl 4 [cv 4 (.l .i),cv 91 .i] (sq [qb 92 .lss 91 90] [4,89,90,91,92] (.seq (ce 92 [4,89,90,91] [4] 4) (.seq (.block 5 (sr [wn 93 [we .i 89 91,wL],qn [qa 10 94]] [4,10,89,90,91] (qr [wn 95 [wm 4,wm 10,wI .add 1,wh (.CF · 1 .i [(0,(.tmp 97))]),wh (.app · .i true (.tmp 95) (.tmp 98))],qn [qa 4 99]] [4,89,90,91]))) (q1 [qi 100 .add 91 1,qm 91 100] [4,89,90,91])))))) (sq [qm 101 4,qa 2 101] [2] .ret))))))))))⟩
def Ajk:YF:=AaB (.l .i)
def Afe(a:List Int):AA (List Int):=some a
def AdH(h:AE)(g:List Int×Int->AA (List Int))(j:List Int×Int):AA (List Int):=let (a,c):=j;br (decide (c<h.A9.length)) (bd (at? h.A9 c) fun e=>gd (aO a+[w64 (e+1)].length<=lim) (g (a++[w64 (e+1)],w64 (c+1)))) (jn Afe a)
def Ab5(c:AE)(a:List Int):AA (List Int):=gd (a.length+[(↑c.BB.length:Int)].length<=lim) (gd ((a++[(↑c.BB.length:Int)]).length+c.BB.length<=lim) (BD (AdH c) big (a++[(↑c.BB.length:Int)]++c.BB,0)))
def AdG(e:AE)(h:List Int×Int->AA (List Int))(j:List Int×Int):AA (List Int):=let (g,a):=j;br (decide (a<e.AH.length)) (bd (at? e.AH a) fun c=>gd (aO g+[c.AY.Dv].length<=lim) (h (g++[c.AY.Dv],w64 (a+1)))) (jn (Ab5 e) g)
def Ab4(a:AE)(c:List Int):AA (List Int):=BD (AdG a) big (c,0)
def AdF(c:AE)(h:List Int×Int->AA (List Int))(j:List Int×Int):AA (List Int):=let (e,g):=j;br (decide (g<c.AG.length)) (bd (at? c.AG g) fun a=>gd (aO e+[a.Id,a.Ab,w64 (a.Bu+1),a.BE,a.DJ,a.Since,a.A0,a.State,a.C7,a.Dh].length<=lim) (h (e++[a.Id,a.Ab,w64 (a.Bu+1),a.BE,a.DJ,a.Since,a.A0,a.State,a.C7,a.Dh],w64 (g+1)))) (jn (Ab4 c) e)
def qG(a:AE):AA (List Int):=bd (Rh a) fun e=>br (!e) none (bd (qF a.AQ) fun c=>gd ([(↑(aO c):Int)].length+aO c<=lim) (gd (([(↑(aO c):Int)]++c).length+[a.Now,a.A0,(↑a.AG.length:Int)].length<=lim) (BD (AdF a) big ([(↑(aO c):Int)]++c++[a.Now,a.A0,(↑a.AG.length:Int)],0))))
def vr:GF:=Ajk.EI (Bc qG)
def Wd(e:Int×List UInt8):AA (List UInt8):=let (a,c):=e;gd (c.length+[toB a].length<=lim) (some (c++[toB a]))
def fy(e:Int×List UInt8->AA (List UInt8))(g:Int×List UInt8):AA (List UInt8):=let (a,c):=g;br (decide (a>=128)) (gd (c.length+[toB (w64 (Int.tmod a 128+128))].length<=lim) (e (w64 (Int.tdiv a 128),c++[toB (w64 (Int.tmod a 128+128))]))) (jn Wd (a,c))
def ABB(a:Int):AA (List UInt8):=bd (C5 a 0 2147483647) fun c=>br (!c) (some []) (BD fy big (a,[]))
def AF2:=gZ O3 N0 DA ["9POcVgTlBCU5xIcRNC9iXNc8tnm56AGDIVVkBybIBf9PFkHu5GjXkqX7TnonNRgES0zc9LQcT0wXPdRP"] [Et] (Bc ABB)
def AAm(a:List UInt8):AA (List UInt8):=some a
def AAn(e:List Int)(h:List UInt8×Int->AA (List UInt8))(q:List UInt8×Int):AA (List UInt8):=let (a,c):=q;br (decide (c<e.length)) (bd (at? e c) fun j=>bd (ABB j) fun g=>gd (aO a+aO g<=lim) (h (a++g,w64 (c+1)))) (jn AAm a)
def WR(a:List Int):AA (List UInt8):=BD (AAn a) big ([],0)
def VO:=gZ Acr AbN DA ["8Bb9wQMbjitAHEUsACKZ1ebyItXZJTVJaEKK9AW9moyNC8CwjEW8JUprwbJJWVdklcEe"] [AF2] (Bc WR)
def Ac4(a:Int×Int->AA Int)(c e:Int):AA Int:=a (e,w64 (c+1))
def AfW(a:Int×Int->AA Int)(c e:Int):AA Int:=a (e,w64 (c+1))
def Ac5(g:Int×Int->AA Int)(h:Int)(e:Int×Int->AA Int)(j:Int×Int):AA Int:=let (a,c):=j;br (decide (c<8)) (br (dw a 1==1) (jn (Ac4 e c) (UY (D4 a 1) 3988292384)) (jn (Ac4 e c) (D4 a 1))) (jn (AfW g h) a)
def AfX(a:Int):AA Int:=some (UY a 4294967295)
def fF(c:List UInt8)(g:Int×Int->AA Int)(j:Int×Int):AA Int:=let (e,a):=j;br (decide (a<c.length)) (bd (at? c a) fun h=>BD (Ac5 g a) big (UY e (w64 (↑(UInt8.toNat h):Int)),0)) (jn AfX e)
def AAo(a:List UInt8):AA Int:=BD (fF a) big (4294967295,0)
def lE:=gZ Acs C9 DA ["5UqNevm6siduxmcAMBpAr4I88Rawbhak6v3lSR5P12jO7ntMSmIL3vUlEBFtx9x39bm7c7FeqThdMovj","XbcD9vh2wEP8ke5fu1hFgBhL6D0LHSiXXfnTKKDVphN2DqxOQ"] [] (Bc AAo)
def Aji:YF:=⟨[],[.v (.st 8),.v .i],[],.ret [.s],[.tmp 4],sq [qu 2 0,.as 4 (.k (.str []))] [1,2] (sr [wn 8 [wk 15 2,wY vr rfl],qn [qa 5 9]] [1,5] (.seq (sr [wn 10 [wm 5,wh (.bin · .sl .eql (.tmp 10) (.k .nil)),wM],wf 12 13 [wm 1,wc Et rfl [13,qj 0,qj 1000000],wX],qn [qp 16 12 15]] [1,5,16] (cn 16 [1,5] (sq [.as 4 (.k (.str []))] [4] .ret))) (.seq (.VE (.op 0 none [] (.mv 17 (.tmp 1)) (.op 3 none [] (.mv 20 (.tmp 5)) (qd 1 [wn 18 [wY AF2 rfl,wh (.Ox · (.tmp 18))]] (.op 4 none [18] (.call 21 VO [] rfl [(.tmp 20)]) (qd 5 [qn [qb 22 .add 19 21,qa 6 22]] .nil))))) [6]) (sr [wn 23 [wm 6,wh (.MY · (.tmp 23)),wY lE rfl],qn [qa 7 25]] [6,7] (sr [wn 26 [wm 7,wh (.bin · .num .shr (.tmp 26) (.k (.int .u64 24))),wh (.cvI · .u8 (.tmp 27)),wm 7,wh (.bin · .num .shr (.tmp 29) (.k (.int .u64 16))),wh (.cvI · .u8 (.tmp 30)),wm 7,wh (.bin · .num .shr (.tmp 32) (.k (.int .u64 8))),wh (.cvI · .u8 (.tmp 33)),wm 7,wh (.cvI · .u8 (.tmp 35)),wh (.CF · 4 .u [(0,(.tmp 28)),(1,(.tmp 31)),(2,(.tmp 34)),(3,(.tmp 36))]),wh (.Ox · (.tmp 37)),wm 6,wB .add 38],qn [qa 4 40]] [4] .ret)))))⟩
def AAq(j:AE)(g:Int):AA (List UInt8):=bd (qG j) fun h=>gd (List.isEmpty h=false) (bd (C5 g 0 1000000) fun q=>br (!q) (some []) (bd (ABB g) fun c=>bd (WR h) fun e=>gd (aO c+aO e<=Mn) (bd (AAo (c++e)) fun a=>gd ([toB (D4 a 24),toB (D4 a 16),toB (D4 a 8),toB a].length+(c++e).length<=Mn) (some ([toB (D4 a 24),toB (D4 a 16),toB (D4 a 8),toB a]++(c++e))))))
def lF:GF:=Aji.EI (A4 AAq)
def AaQ:YF:=AaB .z
def AiG(a:List Int):AA PUnit:=none
def AiJ(h:AE)(g:List Int×Int->AA PUnit)(j:List Int×Int):AA PUnit:=let (a,c):=j;br (decide (c<h.A9.length)) (bd (at? h.A9 c) fun e=>gd (aO a+[w64 (e+1)].length<=lim) (g (a++[w64 (e+1)],w64 (c+1)))) (jn AiG a)
def AiF(c:AE)(a:List Int):AA PUnit:=gd (a.length+[(↑c.BB.length:Int)].length<=lim) (gd ((a++[(↑c.BB.length:Int)]).length+c.BB.length<=lim) (BD (AiJ c) big (a++[(↑c.BB.length:Int)]++c.BB,0)))
def AiI(e:AE)(h:List Int×Int->AA PUnit)(j:List Int×Int):AA PUnit:=let (g,a):=j;br (decide (a<e.AH.length)) (bd (at? e.AH a) fun c=>gd (aO g+[c.AY.Dv].length<=lim) (h (g++[c.AY.Dv],w64 (a+1)))) (jn (AiF e) g)
def AiE(a:AE)(c:List Int):AA PUnit:=BD (AiI a) big (c,0)
def AiH(c:AE)(h:List Int×Int->AA PUnit)(j:List Int×Int):AA PUnit:=let (e,g):=j;br (decide (g<c.AG.length)) (bd (at? c.AG g) fun a=>gd (aO e+[a.Id,a.Ab,w64 (a.Bu+1),a.BE,a.DJ,a.Since,a.A0,a.State,a.C7,a.Dh].length<=lim) (h (e++[a.Id,a.Ab,w64 (a.Bu+1),a.BE,a.DJ,a.Since,a.A0,a.State,a.C7,a.Dh],w64 (g+1)))) (jn (AiE c) e)
def pz(a:AE):AA PUnit:=bd (Rh a) fun e=>br (!e) (some ()) (bd (qF a.AQ) fun c=>gd ([(↑(aO c):Int)].length+aO c<=lim) (gd (([(↑(aO c):Int)]++c).length+[a.Now,a.A0,(↑a.AG.length:Int)].length<=lim) (BD (AiH a) big ([(↑(aO c):Int)]++c++[a.Now,a.A0,(↑a.AG.length:Int)],0))))
def AFm:GF:=AaQ.EI (Bc pz)
def AaR:YF:=⟨[],[.v (.st 8),.v .i],[],.ret [.s],[.tmp 4],sq [qu 2 0,.as 4 (.k (.str []))] [1,2] (sr [wn 8 [wk 15 2,wY AFm rfl],qn [qa 5 9]] [1,5] (.seq (sr [wn 10 [wm 5,wh (.bin · .sl .eql (.tmp 10) (.k .nil)),wM],wf 12 13 [wm 1,wc Et rfl [13,qj 0,qj 1000000],wX],qn [qp 16 12 15]] [1,5,16] (cn 16 [1,5] (sq [.as 4 (.k (.str []))] [4] .ret))) (.seq (.VE (.op 0 none [] (.mv 17 (.tmp 1)) (.op 3 none [] (.mv 20 (.tmp 5)) (qd 1 [wn 18 [wY AF2 rfl,wh (.Ox · (.tmp 18))]] (.op 4 none [18] (.call 21 VO [] rfl [(.tmp 20)]) (qd 5 [qn [qb 22 .add 19 21,qa 6 22]] .nil))))) [6]) (sr [wn 23 [wm 6,wh (.MY · (.tmp 23)),wY lE rfl],qn [qa 7 25]] [6,7] (sr [wn 26 [wm 7,wh (.bin · .num .shr (.tmp 26) (.k (.int .u64 24))),wh (.cvI · .u8 (.tmp 27)),wm 7,wh (.bin · .num .shr (.tmp 29) (.k (.int .u64 16))),wh (.cvI · .u8 (.tmp 30)),wm 7,wh (.bin · .num .shr (.tmp 32) (.k (.int .u64 8))),wh (.cvI · .u8 (.tmp 33)),wm 7,wh (.cvI · .u8 (.tmp 35)),wh (.CF · 4 .u [(0,(.tmp 28)),(1,(.tmp 31)),(2,(.tmp 34)),(3,(.tmp 36))]),wh (.Ox · (.tmp 37)),wm 6,wB .add 38],qn [qa 4 40]] [4] .ret)))))⟩
def AQP(a:AE)(c:Int):AA (List UInt8):=bd (pz a) fun e=>some []
def AFn:GF:=AaR.EI (A4 AQP)
def AJi(a:AE)(c:Int):AA (List UInt8):=orE (AAq a c) (AQP a c)
def AFo:GF:=lF.orE (fun a=>AJi a.1 a.2.1) (fun a=>AQP a.1 a.2.1) (fun a=>by kernel_rfl) (fun a r h=>Eq.mp (by kernel_rfl) (AFn.ok a r h))
def AfY(a:List Int):AA (List Int):=some a
def Ac8(h:AE)(g:List Int×Int->AA (List Int))(j:List Int×Int):AA (List Int):=let (a,c):=j;br (decide (c<h.A9.length)) (bd (at? h.A9 c) fun e=>gd (aO a+[w64 (e+1)].length<=lim) (g (a++[w64 (e+1)],w64 (c+1)))) (jn AfY a)
def Ab1(c:AE)(a:List Int):AA (List Int):=gd (a.length+[(↑c.BB.length:Int)].length<=lim) (gd ((a++[(↑c.BB.length:Int)]).length+c.BB.length<=lim) (BD (Ac8 c) big (a++[(↑c.BB.length:Int)]++c.BB,0)))
def Ac7(e:AE)(h:List Int×Int->AA (List Int))(j:List Int×Int):AA (List Int):=let (g,a):=j;br (decide (a<e.AH.length)) (bd (at? e.AH a) fun c=>gd (aO g+[c.AY.Dv].length<=lim) (h (g++[c.AY.Dv],w64 (a+1)))) (jn (Ab1 e) g)
def Ab0(a:AE)(c:List Int):AA (List Int):=BD (Ac7 a) big (c,0)
def Ac6(c:AE)(h:List Int×Int->AA (List Int))(j:List Int×Int):AA (List Int):=let (e,g):=j;br (decide (g<c.AG.length)) (bd (at? c.AG g) fun a=>gd (aO e+[a.Id,a.Ab,w64 (a.Bu+1),a.BE,a.DJ,a.Since,a.A0,a.State,a.C7,a.Dh].length<=lim) (h (e++[a.Id,a.Ab,w64 (a.Bu+1),a.BE,a.DJ,a.Since,a.A0,a.State,a.C7,a.Dh],w64 (g+1)))) (jn (Ab0 c) e)
def qA(a:AE):AA (List Int):=bd (Rh a) fun e=>br (!e) (some []) (bd (qF a.AQ) fun c=>gd ([(↑(aO c):Int)].length+aO c<=lim) (gd (([(↑(aO c):Int)]++c).length+[a.Now,a.A0,(↑a.AG.length:Int)].length<=lim) (BD (Ac6 a) big ([(↑(aO c):Int)]++c++[a.Now,a.A0,(↑a.AG.length:Int)],0))))
def AFp:=gZ Xi AbZ DA ["BavVNFdFfm6yt46G0zTtd0nv3c73CqXyTwKxZqa5fpFTlTS4mU6e5Qka7r6XIhpxiAriSg4TSJXeK0b1","HybdUrjdtwzexyVGPw92UgoVV039HmaAgm7YU2WIwLNLYvFqComJ65VgiKv4wb8ZwX2eu3sqEUe77K1i","wQWiiQ2ZLDxxMYWsq15Yfkr3sUsgXZPvgHUxpHcYGZbGvaCYnnSfCNG6tNhNLcnEYhHUMhbx4m9DpHEv","p7srewSYtYLKRfIfEIhAo0RQSSmijSVvjqgz8qNsIXj3AYgbRLFZYcOx801cWI6LWb4gRDkEKhzPGlbE","KoZjqEqAtzZ"] [Qs,vq] (Bc qA)
def AJj(a:Aa):AA Aa:=gd (0+a.AY.length<=lim) (some (Aa.mk ([]++a.AY) a.CS a.Room a.BE a.CE a.Bz a.Rest a.CY a.Cu))
def AFq:=gZ Su Agn Agq ["5DMNEZFZTUYiL5YNitkpNbuR"] [] (Bc AJj)
def Gy(a:Int):AA (BI×Bool):=bd (AFR (BI.mk a 0 0 a 0)) fun c=>br (!c) (some (BI.mk 0 0 0 0 0,false)) (some (BI.mk a 0 0 a 0,true))
def vg:=gZ O3 Abv [.cell 2 (some 5),.tmp 3] ["3loxyRpp2R7d9cm3mccrsQ3jBzUuyhzCh8oFWiaR3a78Z"] [ADW] (Bc Gy)
def Ajj:YF:=⟨[],[],[],.ret [(.st 6)],[.cell 0 (some 1)],dY ["1guSwxj1Tj1JgNAwJHsmV5zaZDsiF6QfD0tY4ylUnWI5h7E3aCt4fCt6KU4jFZPQsW1FprkW"] []⟩
def AfZ(a:Aw):AA Aw:=some a
def Afa(e:Int×Aw->AA Aw)(g:Int×Aw):AA Aw:=let (c,a):=g;br (decide (c<9)) (gd (a.Ar.length+1<=lim) (e (w64 (c+1),Aw.mk (a.Ar++[[]])))) (jn AfZ a)
def AJk:AA Aw:=BD Afa big (0,Aw.mk [])
def AFr:GF:=Ajj.gf rfl rfl (fun a=>AJk) (fun a=>by kernel_rfl)
def ABJ(c:Int):AA (Ae×Bool):=bd (Gy c) fun a=>br (!a.snd) (some (Ae.mk (BI.mk 0 0 0 0 0) [] (Aw.mk []),false)) (bd AJk fun e=>some (Ae.mk a.fst [] e,true))
def wA:=gZ O3 (.ret [(.st 7),.b]) [.cell 2 (some 7),.tmp 3] ["B9h0RQjXAAlX5ZmbPXBvFuaB16sPz1yor2wJJAMXtXdIcjZrpsjIkcRQr1ZbV5TNvc"] [vg,AFr] (Bc ABJ)
def Afk(a:AE):AA (AE×Bool):=some (a,true)
def Afm(g:Aa)(e:Int×AE->AA (AE×Bool))(h:Int×AE):AA (AE×Bool):=let (c,a):=h;br (decide (c<g.Cu)) (gd (a.A9.length+[-1].length<=lim) (e (w64 (c+1),AE.mk a.AQ a.Now a.A0 a.AG a.AH a.BB (a.A9++[-1])))) (jn Afk a)
def Afj(a:Aa)(c:AE):AA (AE×Bool):=BD (Afm a) big (0,c)
def Afl(c:Aa)(h:Int×AE->AA (AE×Bool))(q:Int×AE):AA (AE×Bool):=let (e,a):=q;br (decide (e<c.AY.length)) (bd (at? c.AY e) fun j=>bd (ABJ j) fun g=>gd (a.AH.length+[g.fst].length<=lim) (h (w64 (e+1),AE.mk a.AQ a.Now a.A0 a.AG (a.AH++[g.fst]) a.BB a.A9))) (jn (Afj c) a)
def AJr(a:Aa):AA (AE×Bool):=bd (ue a) fun c=>br (!c) (some (AE.mk (Aa.mk [] 0 0 0 0 0 0 0 0) 0 0 [] [] [] [],false)) (bd (AJj a) fun e=>BD (Afl a) big (0,AE.mk e 0 1 [] [] [] []))
def AF7:=gZ Su (.ret [(.st 8),.b]) AfP ["5SgnELPP9BbGGK0TBXC64no4syrtUxDDqHepP9ader44RYLP4WWPDzrDSg7nY7jqhsL9lvTdMDA5C0gX","zpPUAykv8LXSstvjMpo9wYxCjehOXjJy8pKjVkBMogjqtbMFBMUQV0plFO6WeuJBtJvYgdtdeMBc1Jxx","qbtanV1vw5AZxpsS2zc6"] [bU,AFq,wA] (Bc AJr)
def ABM(e:Aa):AA (Ap×Bool):=bd (AJr e) fun a=>br (!a.snd) (some (Ap.mk (AE.mk (Aa.mk [] 0 0 0 0 0 0 0 0) 0 0 [] [] [] []) (BZ.mk (Bp.mk [] 0) (Bp.mk [] 0) (Bp.mk [] 0)) 0 [],false)) (bd (ABA a.fst 0) fun c=>some (Ap.mk a.fst (BZ.mk (Bp.mk [] 0) (Bp.mk c (↑(aO c):Int)) (Bp.mk [] 0)) 0 [],true))
def wD:=gZ Su AHa mK ["1FFm3CnaComCnyo6p9cGB36aKWwgkSSKSt8tSRfGB1XKCtcv00quZJSQtL7fPyoBx0BQdhRQCPDtvLA5","0mpL6zglsX"] [AF7,AF1] (Bc ABM)
def AJs(a:List Int):AA (List Int):=gd (0+a.length<=lim) (some a)
def ARO:=gZ Acr AbZ DA ["2PIap9R2TRFEa"] [] (Bc AJs)
def KK(a:Aa):AA Aa:=bd (AJs a.AY) fun c=>some (Aa.mk c a.CS a.Room a.BE a.CE a.Bz a.Rest a.CY a.Cu)
def Sp:=gZ Su Agn Agq ["5lGZi7DSzscOxzFDFPcRIi"] [ARO] (Bc KK)
def Ajl:YF:=⟨[],[],[],.ret [(.st 6)],[.cell 0 (some 1)],dY ["wUHleJumbLnJUZAUGia"] [] [.Ry 1 (.l (.st 5)) (.k (.int .i64 9))]⟩
def qI:AA Aw:=some (Aw.mk (List.replicate (Int.toNat 9) []))
def wF:GF:=Ajl.gf rfl rfl (fun a=>qI) (fun a=>by kernel_rfl)
def AJt(a:Bp):AA Bp:=bd (Pg a) fun c=>br (!c) (some a) (some (Bp.mk a.Data (↑a.Data.length:Int)))
def ARP:=gZ mI Sv Zp ["7cqSLrNpZnWrBMY7yzJhGuBE6vXKOI1kitl"] [Qt] (Bc AJt)
end Lv
set_option maxRecDepth 100000
namespace Lv
open Go (IntKind BinOp UnOp)
open Y (YF qn qf qt qr q1 qd qm qa qo ql qL qb qi qx qp qq qc qz qe qk qK qB qw qu qj Kp wn wf wt w1 sw sq sr wm wM wo wO wl wL wk wK wz wZ wx wX wb wB wi wI wr wR wq wQ we wE wc wY wj wh cv ca cx cn ce bl)
def Afn(a:Aw):AA Aw:=some a
def Afo(g:Aw)(h:Int×Aw->AA Aw)(j:Int×Aw):AA Aw:=let (a,c):=j;br (decide (a<g.Ar.length)) (bd (at? g.Ar a) fun e=>gd (0+aO e<=lim) (gd (c.Ar.length+[[]++e].length<=lim) (h (w64 (a+1),Aw.mk (c.Ar++[[]++e]))))) (jn Afn c)
def AJu(a:Aw):AA Aw:=BD (Afo a) big (0,Aw.mk [])
def wG:=gZ Zc (.ret [(.st 6)]) [.cell 2 (some 1)] ["MLOwsqKClHOHnSEXR9S9XSZXrtmNQwSUZmrYDexfl3uKodOb4iefL8wJGoJninwACAqVsDH3jlFBqmUn","ai1fVZENnSn1f7rT84p"] [] (Bc AJu)
def AJv(a:Ae):AA Ae:=bd (ux a.Row) fun c=>bd (AJu a.By) fun e=>some (Ae.mk a.AY c e)
def ARQ:=gZ xR (.ret [(.st 7)]) [.cell 2 (some 7)] ["7dhyxv4m74RrQWQ9XcxTYJ5Ty5YX7BbQp2EtKmBBxWA"] [ADX,wG] (Bc AJv)
def Ac3:Y.YOp []:=.app 19 .i true (.tmp 16) (.tmp 18)
def Abc:Y.YOp []:=.app 15 (.st 2) true (.tmp 12) (.tmp 14)
def gB:Y.YOp []:=.call 7 AFq [] rfl [(.tmp 6)]
def Ags:Y.Bw []:=(.op 21 none [] (.st 15 (.tmp 3) (.tmp 24)) (.dr [5,6,7,8,9,10,11,12,13,14,15,16,17,18,19,20,21,22,23,24] .nil))
def Aj0:=fun a=>((.op 20 none [5,8,10,13,17,21] (.alloc 3 Ee) (.nl [(.cell 3 0,.i),(.cell 3 11,(.st 2)),(.cell 3 12,(.st 7)),(.cell 3 13,.i),(.cell 3 14,.i)] a)):Y.Bw [])
def AjW:Y.Bw []:=Aj0 Ags
def Aj1:=fun a=>((.op 19 none [] (.build 24 Ee [(0,9,(.tmp 7)),(9,1,(.tmp 9)),(10,1,(.tmp 11)),(11,1,(.tmp 15)),(13,1,(.tmp 19)),(14,1,(.tmp 23))]) (.nl [(.tmp 24 12,(.st 7))] a)):Y.Bw [])
def AjX:Y.Bw []:=Aj1 AjW
def AjY:Y.Bw []:=(.op 18 none [8,10] (.app 23 .i true (.tmp 20) (.tmp 22)) AjX)
def AjZ:Y.Bw []:=Aj1 Ags
def AfV:Y.Bw []:=(.op 18 none [8,10] (.app 23 .i true (.tmp 20) (.tmp 22)) AjZ)
def Aja:Y.Bw []:=Aj0 AfV
def Aj3:=fun a b=>((.both 1 a b):Y.Bw [])
def Agt:Y.Bw []:=Aj3 AjY Aja
def Aj4:=fun a b c=>((.op a none [5,8,10,13,17,21] (.CF b 0 .i []) c):Y.Bw [])
def Ajb:Y.Bw []:=Aj4 15 20 Agt
def Agu:Y.Bw []:=Aj4 15 20 AfV
def AiQ:Y.Bw []:=Aj0 Agu
def AiR:Y.Bw []:=Aj3 Ajb AiQ
def Aj5:=fun a=>((.op 14 none [8,10,21] Ac3 a):Y.Bw [])
def AiS:Y.Bw []:=Aj5 AiR
def AiT:Y.Bw []:=Aj5 Agt
def AcY:Y.Bw []:=Aj5 AfV
def AiU:Y.Bw []:=Aj0 AcY
def Aei:Y.Bw []:=Aj3 AiT AiU
def AiV:Y.Bw []:=Aj4 15 20 Aei
def AiW:Y.Bw []:=Aj5 Agu
def AiX:Y.Bw []:=Aj4 15 20 AcY
def Aej:Y.Bw []:=Aj3 AiW AiX
def AiY:Y.Bw []:=Aj0 Aej
def AiZ:Y.Bw []:=Aj3 AiV AiY
def Age:Y.Bw []:=Aj3 AiS AiZ
def Aia:Y.Bw []:=Aj4 11 16 Age
def Aib:Y.Bw []:=Aj4 11 16 Aei
def Aek:Y.Bw []:=Aj4 11 16 AcY
def Aic:Y.Bw []:=Aj0 Aek
def Agf:Y.Bw []:=Aj3 Aib Aic
def Aid:Y.Bw []:=Aj4 15 20 Agf
def Aie:Y.Bw []:=Aj4 11 16 Aej
def Aif:Y.Bw []:=Aj4 15 20 Aek
def Agg:Y.Bw []:=Aj3 Aie Aif
def Aig:Y.Bw []:=Aj0 Agg
def Aih:Y.Bw []:=Aj3 Aid Aig
def Aii:Y.Bw []:=Aj3 Aia Aih
def Aj6:=fun a=>((.op 10 none [8,10,17,21] Abc a):Y.Bw [])
def Aij:Y.Bw []:=Aj6 Aii
def Aik:Y.Bw []:=Aj6 Age
def Ail:Y.Bw []:=Aj6 Aei
def Abw:Y.Bw []:=Aj6 AcY
def Aim:Y.Bw []:=Aj0 Abw
def AcZ:Y.Bw []:=Aj3 Ail Aim
def Ain:Y.Bw []:=Aj4 15 20 AcZ
def Aio:Y.Bw []:=Aj6 Aej
def Aip:Y.Bw []:=Aj4 15 20 Abw
def Aca:Y.Bw []:=Aj3 Aio Aip
def Aiq:Y.Bw []:=Aj0 Aca
def Air:Y.Bw []:=Aj3 Ain Aiq
def Ael:Y.Bw []:=Aj3 Aik Air
def Ais:Y.Bw []:=Aj4 11 16 Ael
def Ait:Y.Bw []:=Aj6 Agf
def Aiu:Y.Bw []:=Aj4 11 16 AcZ
def Aiv:Y.Bw []:=Aj6 Aek
def Aiw:Y.Bw []:=Aj4 11 16 Abw
def Acb:Y.Bw []:=Aj3 Aiv Aiw
def Aix:Y.Bw []:=Aj0 Acb
def Aiy:Y.Bw []:=Aj3 Aiu Aix
def Aem:Y.Bw []:=Aj3 Ait Aiy
def Aiz:Y.Bw []:=Aj4 15 20 Aem
def Ai0:Y.Bw []:=Aj6 Agg
def Ai1:Y.Bw []:=Aj4 11 16 Aca
def Ai2:Y.Bw []:=Aj4 15 20 Acb
def Ai3:Y.Bw []:=Aj3 Ai1 Ai2
def Aen:Y.Bw []:=Aj3 Ai0 Ai3
def Ai4:Y.Bw []:=Aj0 Aen
def Ai5:Y.Bw []:=Aj3 Aiz Ai4
def Ai6:Y.Bw []:=Aj3 Ais Ai5
def Agh:Y.Bw []:=Aj3 Aij Ai6
def Aj7:=fun a=>((.op 7 none [5,8,10,13,17,21] (.CF 12 0 (.st 2) []) a):Y.Bw [])
def Ai7:Y.Bw []:=Aj7 Agh
def Ai8:Y.Bw []:=Aj7 Ael
def Ai9:Y.Bw []:=Aj7 AcZ
def Acd:Y.Bw []:=Aj7 Abw
def AjA:Y.Bw []:=Aj0 Acd
def Aeo:Y.Bw []:=Aj3 Ai9 AjA
def AjB:Y.Bw []:=Aj4 15 20 Aeo
def AjC:Y.Bw []:=Aj7 Aca
def AjD:Y.Bw []:=Aj4 15 20 Acd
def Aep:Y.Bw []:=Aj3 AjC AjD
def AjE:Y.Bw []:=Aj0 Aep
def AjF:Y.Bw []:=Aj3 AjB AjE
def Agi:Y.Bw []:=Aj3 Ai8 AjF
def AjG:Y.Bw []:=Aj4 11 16 Agi
def AjH:Y.Bw []:=Aj7 Aem
def AjI:Y.Bw []:=Aj4 11 16 Aeo
def AjJ:Y.Bw []:=Aj7 Acb
def AjK:Y.Bw []:=Aj4 11 16 Acd
def Aeq:Y.Bw []:=Aj3 AjJ AjK
def AjL:Y.Bw []:=Aj0 Aeq
def AjM:Y.Bw []:=Aj3 AjI AjL
def Agj:Y.Bw []:=Aj3 AjH AjM
def AjN:Y.Bw []:=Aj4 15 20 Agj
def AjO:Y.Bw []:=Aj7 Aen
def AjP:Y.Bw []:=Aj4 11 16 Aep
def AjQ:Y.Bw []:=Aj4 15 20 Aeq
def AjR:Y.Bw []:=Aj3 AjP AjQ
def Agk:Y.Bw []:=Aj3 AjO AjR
def AjS:Y.Bw []:=Aj0 Agk
def AjT:Y.Bw []:=Aj3 AjN AjS
def AjU:Y.Bw []:=Aj3 AjG AjT
def AjV:Y.Bw []:=Aj3 Ai7 AjU
def Aj8:=fun a=>((.op 2 none [8,10,13,17,21] gB a):Y.Bw [])
def Agv:Y.Bw []:=Aj8 AjV
def Agw:Y.Bw []:=Aj8 Agh
def Agx:Y.Bw []:=Aj8 Ael
def Agy:Y.Bw []:=Aj8 AcZ
def Aby:Y.Bw []:=Aj8 Abw
def Agz:Y.Bw []:=Aj0 Aby
def Acz:Y.Bw []:=Aj3 Agy Agz
def Ag0:Y.Bw []:=Aj4 15 20 Acz
def Ag1:Y.Bw []:=Aj8 Aca
def Ag2:Y.Bw []:=Aj4 15 20 Aby
def Ac0:Y.Bw []:=Aj3 Ag1 Ag2
def Ag3:Y.Bw []:=Aj0 Ac0
def Ag4:Y.Bw []:=Aj3 Ag0 Ag3
def AfF:Y.Bw []:=Aj3 Agx Ag4
def Ag5:Y.Bw []:=Aj4 11 16 AfF
def Ag6:Y.Bw []:=Aj8 Aem
def Ag7:Y.Bw []:=Aj4 11 16 Acz
def Ag8:Y.Bw []:=Aj8 Acb
def Ag9:Y.Bw []:=Aj4 11 16 Aby
def Ac1:Y.Bw []:=Aj3 Ag8 Ag9
def AhA:Y.Bw []:=Aj0 Ac1
def AhB:Y.Bw []:=Aj3 Ag7 AhA
def AfG:Y.Bw []:=Aj3 Ag6 AhB
def AhC:Y.Bw []:=Aj4 15 20 AfG
def AhD:Y.Bw []:=Aj8 Aen
def AhE:Y.Bw []:=Aj4 11 16 Ac0
def AhF:Y.Bw []:=Aj4 15 20 Ac1
def AhG:Y.Bw []:=Aj3 AhE AhF
def AfH:Y.Bw []:=Aj3 AhD AhG
def AhH:Y.Bw []:=Aj0 AfH
def AhI:Y.Bw []:=Aj3 AhC AhH
def AhJ:Y.Bw []:=Aj3 Ag5 AhI
def AhK:Y.Bw []:=Aj3 Agw AhJ
def AhL:Y.Bw []:=Aj7 AhK
def AhM:Y.Bw []:=Aj8 Agi
def AhN:Y.Bw []:=Aj7 AfF
def AhO:Y.Bw []:=Aj8 Aeo
def AhP:Y.Bw []:=Aj7 Acz
def AhQ:Y.Bw []:=Aj8 Acd
def AhR:Y.Bw []:=Aj7 Aby
def Ac2:Y.Bw []:=Aj3 AhQ AhR
def AhS:Y.Bw []:=Aj0 Ac2
def AhT:Y.Bw []:=Aj3 AhP AhS
def AfI:Y.Bw []:=Aj3 AhO AhT
def AhU:Y.Bw []:=Aj4 15 20 AfI
def AhV:Y.Bw []:=Aj8 Aep
def AhW:Y.Bw []:=Aj7 Ac0
def AhX:Y.Bw []:=Aj4 15 20 Ac2
def AhY:Y.Bw []:=Aj3 AhW AhX
def AfJ:Y.Bw []:=Aj3 AhV AhY
def AhZ:Y.Bw []:=Aj0 AfJ
def Aha:Y.Bw []:=Aj3 AhU AhZ
def Ahb:Y.Bw []:=Aj3 AhN Aha
def Ahc:Y.Bw []:=Aj3 AhM Ahb
def Ahd:Y.Bw []:=Aj4 11 16 Ahc
def Ahe:Y.Bw []:=Aj8 Agj
def Ahf:Y.Bw []:=Aj7 AfG
def Ahg:Y.Bw []:=Aj4 11 16 AfI
def Ahh:Y.Bw []:=Aj8 Aeq
def Ahi:Y.Bw []:=Aj7 Ac1
def Ahj:Y.Bw []:=Aj4 11 16 Ac2
def Ahk:Y.Bw []:=Aj3 Ahi Ahj
def AfK:Y.Bw []:=Aj3 Ahh Ahk
def Ahl:Y.Bw []:=Aj0 AfK
def Ahm:Y.Bw []:=Aj3 Ahg Ahl
def Ahn:Y.Bw []:=Aj3 Ahf Ahm
def Aho:Y.Bw []:=Aj3 Ahe Ahn
def Ahp:Y.Bw []:=Aj4 15 20 Aho
def Ahq:Y.Bw []:=Aj8 Agk
def Ahr:Y.Bw []:=Aj7 AfH
def Ahs:Y.Bw []:=Aj4 11 16 AfJ
def Aht:Y.Bw []:=Aj4 15 20 AfK
def Ahu:Y.Bw []:=Aj3 Ahs Aht
def Ahv:Y.Bw []:=Aj3 Ahr Ahu
def Ahw:Y.Bw []:=Aj3 Ahq Ahv
def Ahx:Y.Bw []:=Aj0 Ahw
def Ahy:Y.Bw []:=Aj3 Ahp Ahx
def Ahz:Y.Bw []:=Aj3 Ahd Ahy
def Ah0:Y.Bw []:=Aj3 AhL Ahz
def Ah1:Y.Bw []:=Aj3 Agv Ah0
def Ah2:Y.Bw []:=(.op 17 none [] (.ld 22 none (.tmp 21)) Ah1)
def Ah3:Y.Bw []:=(.op 16 none [] (.fa 21 14 (.tmp 1)) Ah2)
def Ah4:Y.Bw []:=(.op 13 none [] (.ld 18 none (.tmp 17)) Ah3)
def Ah5:Y.Bw []:=(.op 12 none [] (.fa 17 13 (.tmp 1)) Ah4)
def Ah6:Y.Bw []:=(.op 9 none [] (.ld 14 none (.tmp 13)) Ah5)
def Ah7:Y.Bw []:=(.op 8 none [] (.fa 13 11 (.tmp 1)) Ah6)
def Ah8:Y.Bw []:=(.op 6 none [] (.ld 11 none (.tmp 10)) Ah7)
def Ah9:Y.Bw []:=(.op 5 none [] (.fa 10 10 (.tmp 1)) Ah8)
def AiA:Y.Bw []:=(.op 4 none [] (.ld 9 none (.tmp 8)) Ah9)
def AiB:Y.Bw []:=(.op 3 none [] (.fa 8 9 (.tmp 1)) AiA)
def AiC:Y.Bw []:=(.op 1 none [] (.ld 6 (some 9) (.tmp 5)) AiB)
def AiD:Y.Bw []:=(.op 0 none [] (.fa 5 0 (.tmp 1)) AiC)
def Ajm:YF:=⟨[],[.v (.st 8)],[],.ret [(.st 8)],[.cell 2 (some 15)],sq [qu 1 0,.alloc 2 Ee,.VZ [(.cell 2 0,.i),(.cell 2 11,(.st 2)),(.cell 2 12,(.st 7)),(.cell 2 13,.i),(.cell 2 14,.i)]] [1,2] (.seq (.VE AiD [1,2,3]) (.join [cx 3 (.st 8)] (sq [qK 4 0] (Kp 30) (bl 0 [cv 4 .i,cx 3 (.st 8)] (.seq (sw 25 [wm 4,wo 12 1,wL,wZ,wB .lss 25] (Kp 536870942) (ce 29 (Kp 30) [2,3] 0)) (.seq (.block 1 (.VE (qd 0 [wn 32 [wo 12 3,wL,wo 12 1,wL,wm 4,wE (.st 7) 35,wK 7]] (.op 7 none [32] (.call 39 ARQ [] rfl [(.tmp 38)]) (.op 8 none [32] (.CF 40 1 (.st 7) [(0,(.tmp 39))]) (qd 9 [wn 41 [wh (.app · (.st 7) false (.tmp 33) (.tmp 40)),wo 12 3],qn [qw 1 42 41]] .nil)))) [1,2,3,4])) (qr [wn 30 [wm 4,wI .add 1],qn [qa 4 31]] (Kp 30)))))) (sq [qL 43 15 3,qw 15 2 43] [2] .ret)))⟩
def cr(a:AE)(c:Aa)(X2:AA AE):AA AE:=gd (0+a.A9.length<=lim) (CU c c (ev6 a.Now a.A0 ([]++a.AG) ([]:List Ae) ([]++a.BB) ([]++a.A9) X2))
def bf(a:AE)(c:Aa)(X4:AA AE):AA AE:=gd (0+a.BB.length<=lim) (gd (0+a.A9.length<=lim) (CU c c (ev6 a.Now a.A0 ([]++a.AG) ([]:List Ae) ([]++a.BB) ([]++a.A9) X4)))
def Afp(a:AE)(c:Aa)(X5:AA AE):AA AE:=gd (0+a.BB.length<=lim) (gd (0+a.A9.length<=lim) (alt (bf a c) (CU c c (ev6 a.Now a.A0 ([]++a.AG) ([]:List Ae) ([]++a.BB) ([]++a.A9) X5))))
def AbO(a:AE)(c:Aa)(X3:AA AE):AA AE:=gd (0+a.BB.length<=lim) (gd (0+a.A9.length<=lim) (alt (cr a c) (alt (bf a c) (alt (Afp a c) (CU c c (ev6 a.Now a.A0 ([]++a.AG) ([]:List Ae) ([]++a.BB) ([]++a.A9) X3))))))
def Afq(a:AE)(c:Aa)(X7:AA AE):AA AE:=gd (0+a.BB.length<=lim) (gd (0+a.A9.length<=lim) (alt (bf a c) (alt (bf a c) (CU c c (ev6 a.Now a.A0 ([]++a.AG) ([]:List Ae) ([]++a.BB) ([]++a.A9) X7)))))
def AdO(a:AE)(c:Aa)(X6:AA AE):AA AE:=gd (0+a.BB.length<=lim) (gd (0+a.A9.length<=lim) (alt (cr a c) (alt (bf a c) (alt (bf a c) (alt (Afq a c) (CU c c (ev6 a.Now a.A0 ([]++a.AG) ([]:List Ae) ([]++a.BB) ([]++a.A9) X6)))))))
def cm(a:AE)(c:Aa)(X10:AA AE):AA AE:=gd (0+a.AG.length<=lim) (gd (0+a.BB.length<=lim) (gd (0+a.A9.length<=lim) (CU c c (ev6 a.Now a.A0 ([]++a.AG) ([]:List Ae) ([]++a.BB) ([]++a.A9) X10))))
def Aer(a:AE)(c:Aa)(X11:AA AE):AA AE:=gd (0+a.AG.length<=lim) (gd (0+a.BB.length<=lim) (gd (0+a.A9.length<=lim) (alt (bf a c) (alt (cm a c) (CU c c (ev6 a.Now a.A0 ([]++a.AG) ([]:List Ae) ([]++a.BB) ([]++a.A9) X11))))))
def Abg(a:AE)(c:Aa)(X9:AA AE):AA AE:=gd (0+a.AG.length<=lim) (gd (0+a.BB.length<=lim) (gd (0+a.A9.length<=lim) (alt (cr a c) (alt (bf a c) (alt (cm a c) (alt (Aer a c) (CU c c (ev6 a.Now a.A0 ([]++a.AG) ([]:List Ae) ([]++a.BB) ([]++a.A9) X9))))))))
def Ace(a:AE)(c:Aa)(X14:AA AE):AA AE:=gd (0+a.AG.length<=lim) (gd (0+a.BB.length<=lim) (gd (0+a.A9.length<=lim) (alt (cm a c) (CU c c (ev6 a.Now a.A0 ([]++a.AG) ([]:List Ae) ([]++a.BB) ([]++a.A9) X14)))))
def AbT(a:AE)(c:Aa)(X13:AA AE):AA AE:=gd (0+a.AG.length<=lim) (gd (0+a.BB.length<=lim) (gd (0+a.A9.length<=lim) (alt (cr a c) (alt (bf a c) (alt (cm a c) (alt (Ace a c) (CU c c (ev6 a.Now a.A0 ([]++a.AG) ([]:List Ae) ([]++a.BB) ([]++a.A9) X13))))))))
def AbU(a:AE)(c:Aa)(X16:AA AE):AA AE:=gd (0+a.AG.length<=lim) (gd (0+a.BB.length<=lim) (gd (0+a.A9.length<=lim) (alt (bf a c) (alt (cm a c) (alt (Ace a c) (CU c c (ev6 a.Now a.A0 ([]++a.AG) ([]:List Ae) ([]++a.BB) ([]++a.A9) X16)))))))
def Aet(a:AE)(c:Aa)(X15:AA AE):AA AE:=gd (0+a.AG.length<=lim) (gd (0+a.BB.length<=lim) (gd (0+a.A9.length<=lim) (alt (bf a c) (alt (bf a c) (alt (AbU a c) (CU c c (ev6 a.Now a.A0 ([]++a.AG) ([]:List Ae) ([]++a.BB) ([]++a.A9) X15)))))))
def Aes(a:AE)(c:Aa)(X12:AA AE):AA AE:=gd (0+a.AG.length<=lim) (gd (0+a.BB.length<=lim) (gd (0+a.A9.length<=lim) (alt (cr a c) (alt (bf a c) (alt (bf a c) (alt (AbT a c) (alt (Aet a c) (CU c c (ev6 a.Now a.A0 ([]++a.AG) ([]:List Ae) ([]++a.BB) ([]++a.A9) X12)))))))))
def AdP(a:AE)(c:Aa)(X8:AA AE):AA AE:=gd (0+a.AG.length<=lim) (gd (0+a.BB.length<=lim) (gd (0+a.A9.length<=lim) (alt (cr a c) (alt (cr a c) (alt (AbO a c) (alt (Abg a c) (alt (Aes a c) (CU c c (ev6 a.Now a.A0 ([]++a.AG) ([]:List Ae) ([]++a.BB) ([]++a.A9) X8)))))))))
def Aev(a:AE)(c:Aa)(X19:AA AE):AA AE:=gd (0+a.AG.length<=lim) (gd (0+a.BB.length<=lim) (gd (0+a.A9.length<=lim) (alt (bf a c) (alt (cm a c) (alt (cm a c) (CU c c (ev6 a.Now a.A0 ([]++a.AG) ([]:List Ae) ([]++a.BB) ([]++a.A9) X19)))))))
def Acf(a:AE)(c:Aa)(X18:AA AE):AA AE:=gd (0+a.AG.length<=lim) (gd (0+a.BB.length<=lim) (gd (0+a.A9.length<=lim) (alt (cr a c) (alt (bf a c) (alt (cm a c) (alt (cm a c) (alt (Aev a c) (CU c c (ev6 a.Now a.A0 ([]++a.AG) ([]:List Ae) ([]++a.BB) ([]++a.A9) X18)))))))))
def Ach(a:AE)(c:Aa)(X22:AA AE):AA AE:=gd (0+a.AG.length<=lim) (gd (0+a.BB.length<=lim) (gd (0+a.A9.length<=lim) (alt (cm a c) (alt (cm a c) (CU c c (ev6 a.Now a.A0 ([]++a.AG) ([]:List Ae) ([]++a.BB) ([]++a.A9) X22))))))
def Acg(a:AE)(c:Aa)(X21:AA AE):AA AE:=gd (0+a.AG.length<=lim) (gd (0+a.BB.length<=lim) (gd (0+a.A9.length<=lim) (alt (cr a c) (alt (bf a c) (alt (cm a c) (alt (cm a c) (alt (Ach a c) (CU c c (ev6 a.Now a.A0 ([]++a.AG) ([]:List Ae) ([]++a.BB) ([]++a.A9) X21)))))))))
def Aci(a:AE)(c:Aa)(X24:AA AE):AA AE:=gd (0+a.AG.length<=lim) (gd (0+a.BB.length<=lim) (gd (0+a.A9.length<=lim) (alt (bf a c) (alt (cm a c) (alt (cm a c) (alt (Ach a c) (CU c c (ev6 a.Now a.A0 ([]++a.AG) ([]:List Ae) ([]++a.BB) ([]++a.A9) X24))))))))
def Aex(a:AE)(c:Aa)(X23:AA AE):AA AE:=gd (0+a.AG.length<=lim) (gd (0+a.BB.length<=lim) (gd (0+a.A9.length<=lim) (alt (bf a c) (alt (bf a c) (alt (AbU a c) (alt (Aci a c) (CU c c (ev6 a.Now a.A0 ([]++a.AG) ([]:List Ae) ([]++a.BB) ([]++a.A9) X23))))))))
def Aew(a:AE)(c:Aa)(X20:AA AE):AA AE:=gd (0+a.AG.length<=lim) (gd (0+a.BB.length<=lim) (gd (0+a.A9.length<=lim) (alt (cr a c) (alt (bf a c) (alt (bf a c) (alt (AbT a c) (alt (Acg a c) (alt (Aex a c) (CU c c (ev6 a.Now a.A0 ([]++a.AG) ([]:List Ae) ([]++a.BB) ([]++a.A9) X20))))))))))
def Aeu(a:AE)(c:Aa)(X17:AA AE):AA AE:=gd (0+a.AG.length<=lim) (gd (0+a.BB.length<=lim) (gd (0+a.A9.length<=lim) (alt (cr a c) (alt (cr a c) (alt (AbO a c) (alt (Abg a c) (alt (Acf a c) (alt (Aew a c) (CU c c (ev6 a.Now a.A0 ([]++a.AG) ([]:List Ae) ([]++a.BB) ([]++a.A9) X17))))))))))
def gR(a:AE)(c:Aa)(X31:AA AE):AA AE:=bd (AJj a.AQ) fun e=>gd (0+a.AG.length<=lim) (gd (0+a.BB.length<=lim) (gd (0+a.A9.length<=lim) (CU c e (ev6 a.Now a.A0 ([]++a.AG) ([]:List Ae) ([]++a.BB) ([]++a.A9) X31))))
def Ae0(a:AE)(e:Aa)(X33:AA AE):AA AE:=bd (AJj a.AQ) fun c=>gd (0+a.AG.length<=lim) (gd (0+a.BB.length<=lim) (gd (0+a.A9.length<=lim) (alt (bf a c) (alt (cm a c) (alt (gR a c) (CU e c (ev6 a.Now a.A0 ([]++a.AG) ([]:List Ae) ([]++a.BB) ([]++a.A9) X33)))))))
def Acj(a:AE)(e:Aa)(X29:AA AE):AA AE:=bd (AJj a.AQ) fun c=>gd (0+a.AG.length<=lim) (gd (0+a.BB.length<=lim) (gd (0+a.A9.length<=lim) (alt (cr a c) (alt (bf a c) (alt (cm a c) (alt (gR a c) (alt (Ae0 a c) (CU e c (ev6 a.Now a.A0 ([]++a.AG) ([]:List Ae) ([]++a.BB) ([]++a.A9) X29)))))))))
def Acl(a:AE)(e:Aa)(X39:AA AE):AA AE:=bd (AJj a.AQ) fun c=>gd (0+a.AG.length<=lim) (gd (0+a.BB.length<=lim) (gd (0+a.A9.length<=lim) (alt (cm a c) (alt (gR a c) (CU e c (ev6 a.Now a.A0 ([]++a.AG) ([]:List Ae) ([]++a.BB) ([]++a.A9) X39))))))
def Ack(a:AE)(e:Aa)(X37:AA AE):AA AE:=bd (AJj a.AQ) fun c=>gd (0+a.AG.length<=lim) (gd (0+a.BB.length<=lim) (gd (0+a.A9.length<=lim) (alt (cr a c) (alt (bf a c) (alt (cm a c) (alt (gR a c) (alt (Acl a c) (CU e c (ev6 a.Now a.A0 ([]++a.AG) ([]:List Ae) ([]++a.BB) ([]++a.A9) X37)))))))))
def Acm(a:AE)(e:Aa)(X43:AA AE):AA AE:=bd (AJj a.AQ) fun c=>gd (0+a.AG.length<=lim) (gd (0+a.BB.length<=lim) (gd (0+a.A9.length<=lim) (alt (bf a c) (alt (cm a c) (alt (gR a c) (alt (Acl a c) (CU e c (ev6 a.Now a.A0 ([]++a.AG) ([]:List Ae) ([]++a.BB) ([]++a.A9) X43))))))))
def Ae2(a:AE)(e:Aa)(X41:AA AE):AA AE:=bd (AJj a.AQ) fun c=>gd (0+a.AG.length<=lim) (gd (0+a.BB.length<=lim) (gd (0+a.A9.length<=lim) (alt (bf a c) (alt (bf a c) (alt (AbU a c) (alt (Acm a c) (CU e c (ev6 a.Now a.A0 ([]++a.AG) ([]:List Ae) ([]++a.BB) ([]++a.A9) X41))))))))
def Ae1(a:AE)(e:Aa)(X35:AA AE):AA AE:=bd (AJj a.AQ) fun c=>gd (0+a.AG.length<=lim) (gd (0+a.BB.length<=lim) (gd (0+a.A9.length<=lim) (alt (cr a c) (alt (bf a c) (alt (bf a c) (alt (AbT a c) (alt (Ack a c) (alt (Ae2 a c) (CU e c (ev6 a.Now a.A0 ([]++a.AG) ([]:List Ae) ([]++a.BB) ([]++a.A9) X35))))))))))
def Aez(a:AE)(e:Aa)(X27:AA AE):AA AE:=bd (AJj a.AQ) fun c=>gd (0+a.AG.length<=lim) (gd (0+a.BB.length<=lim) (gd (0+a.A9.length<=lim) (alt (cr a c) (alt (cr a c) (alt (AbO a c) (alt (Abg a c) (alt (Acj a c) (alt (Ae1 a c) (CU e c (ev6 a.Now a.A0 ([]++a.AG) ([]:List Ae) ([]++a.BB) ([]++a.A9) X27))))))))))
def Abx(a:AE)(e:Aa)(X53:AA AE):AA AE:=bd (AJj a.AQ) fun c=>gd (0+a.AG.length<=lim) (gd (0+a.BB.length<=lim) (gd (0+a.A9.length<=lim) (alt (gR a c) (CU e c (ev6 a.Now a.A0 ([]++a.AG) ([]:List Ae) ([]++a.BB) ([]++a.A9) X53)))))
def Acn(a:AE)(e:Aa)(X51:AA AE):AA AE:=bd (AJj a.AQ) fun c=>gd (0+a.AG.length<=lim) (gd (0+a.BB.length<=lim) (gd (0+a.A9.length<=lim) (alt (cr a c) (alt (bf a c) (alt (cm a c) (alt (gR a c) (alt (Abx a c) (CU e c (ev6 a.Now a.A0 ([]++a.AG) ([]:List Ae) ([]++a.BB) ([]++a.A9) X51)))))))))
def Aco(a:AE)(e:Aa)(X57:AA AE):AA AE:=bd (AJj a.AQ) fun c=>gd (0+a.AG.length<=lim) (gd (0+a.BB.length<=lim) (gd (0+a.A9.length<=lim) (alt (bf a c) (alt (cm a c) (alt (gR a c) (alt (Abx a c) (CU e c (ev6 a.Now a.A0 ([]++a.AG) ([]:List Ae) ([]++a.BB) ([]++a.A9) X57))))))))
def Ae6(a:AE)(e:Aa)(X55:AA AE):AA AE:=bd (AJj a.AQ) fun c=>gd (0+a.AG.length<=lim) (gd (0+a.BB.length<=lim) (gd (0+a.A9.length<=lim) (alt (bf a c) (alt (cm a c) (alt (cm a c) (alt (Aco a c) (CU e c (ev6 a.Now a.A0 ([]++a.AG) ([]:List Ae) ([]++a.BB) ([]++a.A9) X55))))))))
def Ae5(a:AE)(e:Aa)(X49:AA AE):AA AE:=bd (AJj a.AQ) fun c=>gd (0+a.AG.length<=lim) (gd (0+a.BB.length<=lim) (gd (0+a.A9.length<=lim) (alt (cr a c) (alt (bf a c) (alt (cm a c) (alt (cm a c) (alt (Acn a c) (alt (Ae6 a c) (CU e c (ev6 a.Now a.A0 ([]++a.AG) ([]:List Ae) ([]++a.BB) ([]++a.A9) X49))))))))))
def Ae4(a:AE)(e:Aa)(X47:AA AE):AA AE:=bd (AJj a.AQ) fun c=>gd (0+a.AG.length<=lim) (gd (0+a.BB.length<=lim) (gd (0+a.A9.length<=lim) (alt (cr a c) (alt (cr a c) (alt (AbO a c) (alt (Abg a c) (alt (Acj a c) (alt (Ae5 a c) (CU e c (ev6 a.Now a.A0 ([]++a.AG) ([]:List Ae) ([]++a.BB) ([]++a.A9) X47))))))))))
def AfA(a:AE)(e:Aa)(X67:AA AE):AA AE:=bd (AJj a.AQ) fun c=>gd (0+a.AG.length<=lim) (gd (0+a.BB.length<=lim) (gd (0+a.A9.length<=lim) (alt (cm a c) (alt (gR a c) (alt (Abx a c) (CU e c (ev6 a.Now a.A0 ([]++a.AG) ([]:List Ae) ([]++a.BB) ([]++a.A9) X67)))))))
def Acp(a:AE)(e:Aa)(X65:AA AE):AA AE:=bd (AJj a.AQ) fun c=>gd (0+a.AG.length<=lim) (gd (0+a.BB.length<=lim) (gd (0+a.A9.length<=lim) (alt (cm a c) (alt (cm a c) (alt (AfA a c) (CU e c (ev6 a.Now a.A0 ([]++a.AG) ([]:List Ae) ([]++a.BB) ([]++a.A9) X65)))))))
def Ae9(a:AE)(e:Aa)(X63:AA AE):AA AE:=bd (AJj a.AQ) fun c=>gd (0+a.AG.length<=lim) (gd (0+a.BB.length<=lim) (gd (0+a.A9.length<=lim) (alt (cr a c) (alt (bf a c) (alt (cm a c) (alt (cm a c) (alt (Acn a c) (alt (Acp a c) (CU e c (ev6 a.Now a.A0 ([]++a.AG) ([]:List Ae) ([]++a.BB) ([]++a.A9) X63))))))))))
def Ae8(a:AE)(e:Aa)(X61:AA AE):AA AE:=bd (AJj a.AQ) fun c=>gd (0+a.AG.length<=lim) (gd (0+a.BB.length<=lim) (gd (0+a.A9.length<=lim) (alt (cr a c) (alt (bf a c) (alt (bf a c) (alt (AbT a c) (alt (Ack a c) (alt (Ae9 a c) (CU e c (ev6 a.Now a.A0 ([]++a.AG) ([]:List Ae) ([]++a.BB) ([]++a.A9) X61))))))))))
def AfD(a:AE)(e:Aa)(X73:AA AE):AA AE:=bd (AJj a.AQ) fun c=>gd (0+a.AG.length<=lim) (gd (0+a.BB.length<=lim) (gd (0+a.A9.length<=lim) (alt (bf a c) (alt (cm a c) (alt (cm a c) (alt (Aco a c) (alt (Acp a c) (CU e c (ev6 a.Now a.A0 ([]++a.AG) ([]:List Ae) ([]++a.BB) ([]++a.A9) X73)))))))))
def AfC(a:AE)(e:Aa)(X71:AA AE):AA AE:=bd (AJj a.AQ) fun c=>gd (0+a.AG.length<=lim) (gd (0+a.BB.length<=lim) (gd (0+a.A9.length<=lim) (alt (bf a c) (alt (bf a c) (alt (AbU a c) (alt (Acm a c) (alt (AfD a c) (CU e c (ev6 a.Now a.A0 ([]++a.AG) ([]:List Ae) ([]++a.BB) ([]++a.A9) X71)))))))))
def AfB(a:AE)(e:Aa)(X69:AA AE):AA AE:=bd (AJj a.AQ) fun c=>gd (0+a.AG.length<=lim) (gd (0+a.BB.length<=lim) (gd (0+a.A9.length<=lim) (alt (bf a c) (alt (bf a c) (alt (AbU a c) (alt (Aci a c) (alt (AfC a c) (CU e c (ev6 a.Now a.A0 ([]++a.AG) ([]:List Ae) ([]++a.BB) ([]++a.A9) X69)))))))))
def Ae7(c:AE)(e:Aa)(X59:AA AE):AA AE:=bd (AJj c.AQ) fun a=>gd (0+c.AG.length<=lim) (gd (0+c.BB.length<=lim) (gd (0+c.A9.length<=lim) (alt (cr c a) (alt (bf c a) (alt (bf c a) (alt (AbT c a) (alt (Acg c a) (alt (Ae8 c a) (alt (AfB c a) (CU e a (ev6 c.Now c.A0 ([]++c.AG) ([]:List Ae) ([]++c.BB) ([]++c.A9) X59)))))))))))
def Ae3(c:AE)(e:Aa)(X45:AA AE):AA AE:=bd (AJj c.AQ) fun a=>gd (0+c.AG.length<=lim) (gd (0+c.BB.length<=lim) (gd (0+c.A9.length<=lim) (alt (cr c a) (alt (cr c a) (alt (AbO c a) (alt (Abg c a) (alt (Acf c a) (alt (Ae4 c a) (alt (Ae7 c a) (CU e a (ev6 c.Now c.A0 ([]++c.AG) ([]:List Ae) ([]++c.BB) ([]++c.A9) X45)))))))))))
def Aey(c:AE)(e:Aa)(X25:AA AE):AA AE:=bd (AJj c.AQ) fun a=>gd (0+c.AG.length<=lim) (gd (0+c.BB.length<=lim) (gd (0+c.A9.length<=lim) (alt (cr c a) (alt (cr c a) (alt (AbO c a) (alt (AdO c a) (alt (AdP c a) (alt (Aez c a) (alt (Ae3 c a) (CU e a (ev6 c.Now c.A0 ([]++c.AG) ([]:List Ae) ([]++c.BB) ([]++c.A9) X25)))))))))))
def AfE(a:AE):AA AE:=some a
def Acq(j:AE)(g:Int×AE->AA AE)(q:Int×AE):AA AE:=let (c,a):=q;br (decide (c<j.AH.length)) (bd (at? j.AH c) fun h=>bd (AJv h) fun e=>gd (a.AH.length+[e].length<=lim) (g (w64 (c+1),AE.mk a.AQ a.Now a.A0 a.AG (a.AH++[e]) a.BB a.A9))) (jn AfE a)
def ABR(a:AE):AA AE:=bd (AJj a.AQ) fun c=>gd (0+a.AG.length<=lim) (gd (0+a.BB.length<=lim) (gd (0+a.A9.length<=lim) (alt (cr a c) (alt (cr a c) (alt (AbO a c) (alt (AdO a c) (alt (AdP a c) (alt (Aeu a c) (alt (Aey a c) (BD (Acq a) big (0,AE.mk c a.Now a.A0 ([]++a.AG) [] ([]++a.BB) ([]++a.A9))))))))))))
def AF8:GF:=Ajm.EI (Bc ABR)
def bC(a:Ap):AA Ap:=bd (ABR a.BO) fun c=>gd (0+a.Laid.length<=lim) (bd (ABR a.BO) fun e=>gd (0+a.Laid.length<=lim) (Jz c e (ze a.BH a.BH (ev2 a.Seq ([]++a.Laid) (some (Ap.mk c a.BH a.Seq ([]++a.Laid)))))))
def ZT:=gZ [.v (.st 11)] (.ret [(.st 11)]) [.cell 2 (some 23)] ["FKr6Ep16xeSVfV6oO3wYNigZ8yrXbufD6QWA4OvNHyjSb8YzQ5YIMs6yLFOdtjM5lm5IeJa0GmXTiZaa","QEKuti60baSCWQAr7Uzlab5ezAZEfRD3ksjLRb1na"] [AF8] (Bc bC)
def AJw(a:B3):AA (List UInt8):=bd (ub a) fun c=>br (!c) (some []) (br (a.Kind==1) (bd (fk ([a.Kind,a.Id,a.Ab,w64 (a.Bu+1),a.BE,a.DJ])) fun e=>some e) (br (a.Kind==3) (bd (fk ([a.Kind,a.Ab,a.BE])) fun g=>some g) (br (a.Kind==6) (bd (fk [a.Kind]) fun h=>some h) (bd (fk ([a.Kind,a.Id])) fun j=>some j))))
def ARR:=gZ [.v (.st 0)] AbN DA ["1UzLDomDdMocMBlLvX2wbYQAbFbagavTUdgoGRakKwB1P28eG7yQ9YOVExDvKUGOmzyYMsHgarmNZZoI","Y17KAOmTmsTq9erVrJvuTB4205JgW1XWIdTpwy4GtClJLP1fM"] [sG,AFy] (Bc AJw)
def AdQ(h:Int)(a:List UInt8)(j:Bool):AA (List UInt8):=br j (some []) (bd (AA2 h) fun c=>gd (aO c+a.length<=Mn) (bd (az (c++a)) fun q=>bd (AA7 q) fun e=>gd (aO e+(c++a).length<=Mn) (bd (AA2 (↑(e++(c++a)).length:Int)) fun g=>gd (aO g+(e++(c++a)).length<=Mn) (some (g++(e++(c++a)))))))
def AJx(a:Int)(c:List UInt8):AA (List UInt8):=bd (Eh a 1 1000000) fun e=>br (!e) (jn (AdQ a c) true) (bd (Eh (↑c.length:Int) 1 60) fun g=>jn (AdQ a c) (!g))
def ARS:=gZ [.v .i,.v .s] AbN Ca ["1HcksBthTMFUCf1wMcsrGENYe1275QjrGC4u7GCZnTMDBzRWHcdQEtpzUA9CXnKaV3DMFZ"] [Ho,AFx,AFz,AF0] (A4 AJx) [.MY 22 (.tmp 21)]
def gO(c:Int)(e:B3):AA (List UInt8):=bd (AJw e) fun a=>br (a==[]) (some []) (bd (AJx c a) fun g=>some g)
def lH:=gZ [.v .i,.v (.st 0)] AbN Ca ["cjHZlhfSomYgeDozgGU4ZK1gyuISFSSJYu"] [ARR,ARS] (A4 gO)
def AdR(a:Bp)(c:List UInt8)(e:Bool):AA (Bp×Bool):=br e (some (a,false)) (gd (a.Data.length+c.length<=Mn) (some (Bp.mk (a.Data++c) a.Safe,true)))
def AJy(a:Bp)(c:List UInt8):AA (Bp×Bool):=bd (cP a) fun e=>br (!e) (jn (AdR a c) true) (jn (AdR a c) (decide ((↑c.length:Int)>w64 (20000-(↑a.Data.length:Int)))))
def AF9:=gZ [.v (.st 9),.v .s] Sw xb ["1yAYGtmVYtsvvNAtuOiO0iqMeayVspwrsnZnXcTjyaF3iVAgSdcs0DGPuYDSKgBSzWf"] [Xg] (A4 AJy)
def AdS(e:Ap)(c:B3)(a:Ap)(h:Bp×Bool)(g:Bool):AA (Ap×Int):=br g (some (a,24)) (gd (a.Laid.length+[c].length<=lim) (some (Ap.mk a.BO (BZ.mk h.fst a.BH.DW a.BH.Odd) (w64 (e.Seq+1)) (a.Laid++[c]),0)))
def Np(a:Ap)(e:B3):AA (Ap×Int):=bd (bC a) fun g=>bd (uc a) fun y=>br (!y) (some (g,21)) (bd (ub e) fun B=>br (!B) (some (g,22)) (br (a.Seq==1000000) (some (g,23)) (bd (gO (w64 (a.Seq+1)) e) fun h=>bd (AJy a.BH.Log h) fun c=>bd (AJy a.BH.Log h) fun j=>eqv c.snd j.snd (PQ c.fst j.fst (bd (gO (w64 (a.Seq+1)) e) fun E=>bd (AJy a.BH.Log E) fun q=>eqv c.snd q.snd (PQ c.fst q.fst (br ((↑a.Laid.length:Int)==8) (jn (AdS a e g c) true) (jn (AdS a e g c) (!c.snd)))))))))
def LV:=gZ [.v (.st 11),.v (.st 0)] (.ret [(.st 11),.i]) Agr ["1Ab396Als0aK3ia19lLqi54Fg51V5tNxWGz3UnVlpy9r9pK9NWbujYW7IaC7ZDyKpqkPj8FBfVR8fEVK","YqBH3dSjgCRCYQnk6MMY7FDoMYFPm55idg2gUCzCSlb2w8qDuAtoshmsEScua1Jnru2WNGGfvgIXTDd8","8RBlhYxQoBDpXrGpkPknwzIGXIeUikUZHdtlFYOm8KsBRqJExhj2rImCrnKW8YH0nI9zAiIduEOYtRR7","aWaL8yFSHEnqYEbYu005puDGLvpmHQ2UXdPcVlxzMP0ix5PtfBCXbf1v7GN15LupU2G"] [ZT,sH,sG,lH,AF9] (A4 Np)
def Uc(a:List Au):AA (List Au):=gd (0+a.length<=lim) (some a)
def lI:=gZ xQ xX DA ["LrI2ZSe779xxU"] [] (Bc Uc)
def Afr(a:Aw):AA Aw:=some a
def Afs(g:Aw)(h:Int×Aw->AA Aw)(j:Int×Aw):AA Aw:=let (a,c):=j;br (decide (a<g.Ar.length)) (bd (at? g.Ar a) fun e=>gd (0+aO e<=lim) (gd (c.Ar.length+[e].length<=lim) (h (w64 (a+1),Aw.mk (c.Ar++[e]))))) (jn Afr c)
def ABa(a:Aw):AA Aw:=BD (Afs a) big (0,Aw.mk [])
def AGA:=gZ Zc (.ret [(.st 6)]) [.cell 2 (some 1)] ["2e6iVAQXvU5fy1auVWGklutKhOlJKSPSSr4CsVnnGhzm41rRanQz9j1jsSZjE55qQ7ydStxeIi7Xz5xl","DGYp"] [] (Bc ABa)
def gT(a:Ae):AA Ae:=bd (Uc a.Row) fun c=>bd (ABa a.By) fun e=>some (Ae.mk a.AY c e)
def lJ:=gZ xR (.ret [(.st 7)]) [.cell 2 (some 7)] ["7dhyxv4m74RrQWQ9XcxTYJ5Ty5YX7BbQp2EtKmBBxWA"] [lI,AGA] (Bc gT)
def Aft(a:AE):AA AE:=some a
def AdT(j:AE)(g:Int×AE->AA AE)(q:Int×AE):AA AE:=let (c,a):=q;br (decide (c<j.AH.length)) (bd (at? j.AH c) fun h=>bd (gT h) fun e=>gd (a.AH.length+[e].length<=lim) (g (w64 (c+1),AE.mk a.AQ a.Now a.A0 a.AG (a.AH++[e]) a.BB a.A9))) (jn Aft a)
def ABb(a:AE):AA AE:=bd (KK a.AQ) fun c=>gd (0+a.AG.length<=lim) (bd (AJs a.BB) fun e=>bd (AJs a.A9) fun g=>bd (AJs a.A9) fun q=>CU c c (ev5 a.Now a.A0 a.AG ([]:List Ae) e (eqv g q (bd (AJs a.BB) fun y=>bd (AJs a.A9) fun B=>CU c c (ev4 a.Now a.A0 a.AG ([]:List Ae) (eqv e y (eqv g B (gd (0+a.AG.length<=lim) (bd (AJs a.BB) fun E=>bd (AJs a.A9) fun G=>CU c c (ev4 a.Now a.A0 a.AG ([]:List Ae) (eqv e E (eqv g G (bd (KK a.AQ) fun H=>gd (0+a.AG.length<=lim) (bd (AJs a.BB) fun h=>bd (AJs a.A9) fun j=>CU c H (ev4 a.Now a.A0 a.AG ([]:List Ae) (eqv e h (eqv g j (BD (AdT a) big (0,AE.mk c a.Now a.A0 a.AG [] e g)))))))))))))))))))
def ART:=gZ Xi Abm [.cell 2 (some 15)] ["2hN8X6vAHXl3EcWVojsVq9Cr51i3uO9Ll8btlkkJlYpxt6GAmFMASyHfYL8LNuAFZJ0CqcYi9TeZk6QO","230nS4EdoAkSrFSkvkLHeBmHDM9dBqHVp7uarbpYm4rNyII999XBF2RmlFimUtnhTNwfI2QihgKu3Zlf","rYiFaWirpkfrYzjUh0yg4ehMBzGkPjQ5j3EzMCRgEEqwSd7voPHY6TvVK1XUZsBIB8LOjxKevlZDRv23","l22QdeId2AHB4GluLvMKBp7V38pF5YNCzXEXPToXjl0loXJjPMQZyIplPyAhdurfXJzbd3eXgHZB2Css","9pYSc6VfEJ5gDSObiP3QPzdtfOHWPLcfl69LFAxt5DZFJkOK5cfziOoN2iENGd7SXhc3JaStgy42BTsp","x85ozAGM3P5I9M2"] [Sp,ARO,lJ] (Bc ABb)
def y2(a:Ap):AA Ap:=bd (ABb a.BO) fun c=>gd (0+a.Laid.length<=lim) (some (Ap.mk c a.BH a.Seq a.Laid))
def gW(a:List Int):AA (List UInt8):=bd (WR a) fun c=>some c
def gV(a:B3):AA (List UInt8):=bd (WZ a) fun c=>br (!c) (some []) (br (a.Kind==1) (gd ([a.Kind].length+[a.Id,a.Ab,w64 (a.Bu+1),a.BE,a.DJ].length<=lim) (jn gW ([a.Kind]++[a.Id,a.Ab,w64 (a.Bu+1),a.BE,a.DJ]))) (br (a.Kind==3) (gd ([a.Kind].length+[a.Ab,a.BE].length<=lim) (jn gW ([a.Kind]++[a.Ab,a.BE]))) (br (a.Kind==6) (jn gW [a.Kind]) (gd ([a.Kind].length+[a.Id].length<=lim) (jn gW ([a.Kind]++[a.Id]))))))
def AGB:=gZ [.v (.st 0)] AbN DA ["1TMsRg0l15EfZcNcuuSFi7um2zK8nZr6vB30Aow5ffxW9ArnFjp61nJ6ZiNmh9DkuZdhfYCLmtwdDMiY","xdT7RcvTKpd8aWbJ4WCTax6b1tC0w1ansYNo7S5ims0xpM0cBmuivb"] [ZR,VO] (Bc gV)
def gY(h:Int)(c:List UInt8)(j:Bool):AA (List UInt8):=br j (some []) (bd (ABB h) fun e=>gd (aO e+c.length<=lim) (bd (AAo (e++c)) fun a=>gd ([toB (D4 a 24),toB (D4 a 16),toB (D4 a 8),toB a].length+(e++c).length<=lim) (bd (ABB (↑([toB (D4 a 24),toB (D4 a 16),toB (D4 a 8),toB a]++(e++c)).length:Int)) fun g=>gd (aO g+([toB (D4 a 24),toB (D4 a 16),toB (D4 a 8),toB a]++(e++c)).length<=Mn) (some (g++([toB (D4 a 24),toB (D4 a 16),toB (D4 a 8),toB a]++(e++c)))))))
def gX(a:Int)(c:List UInt8):AA (List UInt8):=bd (C5 a 1 1000000) fun e=>br (!e) (jn (gY a c) true) (bd (C5 (↑c.length:Int) 1 60) fun g=>jn (gY a c) (!g))
def AGC:=gZ [.v .i,.v .s] AbN Ca ["5X1ljd9BzbCZLdSAVCb7qZYSg6W8iqtrbqVBaZQqzJ6cXyO6agp5eSt0rEDD0EkIWnfvneEhSkDws4V8","buVUN7Lj7tSpxMMc8l8Z0o3WPUW5nkWy3RWHwQAmt"] [Et,AF2,lE] (A4 gX)
def AbM(a:Bp)(c:List UInt8)(e:Bool):AA (Bp×Bool):=br e (some (a,false)) (some (Bp.mk (a.Data++c) a.Safe,true))
def Abd(a:Bp)(c:List UInt8):AA (Bp×Bool):=gd (a.Data.length+c.length<=Mn) (bd (Pg a) fun e=>br (!e) (jn (AbM a c) true) (bd (Pg (Bp.mk (a.Data++c) a.Safe)) fun g=>jn (AbM a c) (!g)))
end Lv
