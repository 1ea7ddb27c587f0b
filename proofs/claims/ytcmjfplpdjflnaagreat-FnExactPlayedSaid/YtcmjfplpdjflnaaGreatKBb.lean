/- Functions of the program as typed texts and as plain functions. -/
import Derived.Test.YtcmjfplpdjflnaaGreatKAb
open List renaming length->e8,set->an
noncomputable section
set_option linter.unusedVariables false
set_option linter.unusedSimpArgs false
set_option linter.unusedSectionVars false
set_option maxRecDepth 100000
namespace Lv
open Go (IntKind BinOp UnOp)
open Y (YF qn qf qt qr q1 qd qm qa qo ql qL qb qi qx qp qq qc qz qe qk qK qB qw qu qj Kp wn wf wt w1 sw sq sr wm wM wo wO wl wL wk wK wz wZ wx wX wb wB wi wI wr wR wq wQ we wE wc wY wj wh cv ca cx cn ce bl)
def lq(a:Aa):AA (List Int):=bd (Um a) fun c=>br (!c) (some []) (gd ([a.Cb,a.Room,a.BA,a.CG,a.B1,a.Rest,a.Ca,a.Cx].length+a.AW.length<=lim) (some ([a.Cb,a.Room,a.BA,a.CG,a.B1,a.Rest,a.Ca,a.Cx]++a.AW)))
def ADf:=gZ Oq RW DM ["HNFVNZQJ4ZuNAsB2LEGiDJdjE9FR4B3wEpcMST6AarWLALRG8tU4VY5rrBZP"] [Tv] (Bm lq)
def AZ9(c:C):YF:=⟨[],[.v (.st 8)],[],.ret [c],[.tmp 2],sq [qu 1 0,.as 2 (.k .nil)] [1] (.seq (sw 11 [wk 15 1,wY Tw rfl,wX] [1,13] (cn 13 [1] (sq [.as 2 (.k .nil)] [2] .ret))) (sr [wn 14 [wo 0 1,wK 9,wY ADf rfl],qn [qa 3 16]] [1,3] (sr [wn 17 [wm 3,wZ,wh (.CC · 1 .i [(0,(.tmp 18))]),wm 3,wh (.app · .i true (.tmp 19) (.tmp 20))],qn [qa 4 21]] [1,4] (sr [wn 22 [wm 4,wo 9 1,wL,wo 10 1,wL,wo 11 1,wL,wZ,wh (.CC · 3 .i [(0,(.tmp 24)),(1,(.tmp 26)),(2,(.tmp 29))]),wh (.app · .i true (.tmp 22) (.tmp 30))],qn [qa 4 31]] [1,4] (.join [cv 4 (.l .i)] (sw 32 [wo 11 1,wL,wZ,wj 0] (Kp 60129542162) (bl 0 [cv 4 (.l .i),cv 35 .i] (sq [qb 36 .lss 35 34] (Kp 128849018898) (.seq (ce 36 (Kp 60129542162) [1,4] 0) (.seq (.block 1 (sr [wn 37 [we (.st 2) 33 35,wK 10],qn [.alloc 6 AXC,qw 10 6 38]] (Kp 60129542226) (qr [wn 39 [wm 4,wo 0 6,wL,wo 1 6,wL,wo 2 6,wL,wI .add 1,wo 3 6,wL,wo 4 6,wL,wo 5 6,wL,wo 6 6,wL,wo 7 6,wL,wo 8 6,wL,wo 9 6,wL,wh (.CC · 10 .i [(0,(.tmp 41)),(1,(.tmp 43)),(2,(.tmp 46)),(3,(.tmp 48)),(4,(.tmp 50)),(5,(.tmp 52)),(6,(.tmp 54)),(7,(.tmp 56)),(8,(.tmp 58)),(9,(.tmp 60))]),wh (.app · .i true (.tmp 39) (.tmp 61))],qn [qa 4 62]] (Kp 60129542162)))) (q1 [qi 63 .add 35 1,qm 35 63] (Kp 60129542162))))))) (.join [cv 4 (.l .i)] (sw 64 [wo 12 1,wL,wZ,wj 0] [1,4,65,66,67] (bl 2 [cv 4 (.l .i),cv 67 .i] (sq [qb 68 .lss 67 66] [1,4,65,66,67,68] (.seq (ce 68 [1,4,65,66,67] [1,4] 2) (.seq (.block 3 (sr [wn 69 [we (.st 7) 65 67,wK 7],qn [.alloc 8 AXB,.T7 [(.cell 8 5,(.st 4)),(.cell 8 6,(.l (.st 5)))],qw 7 8 70]] [1,4,8,65,66,67] (qr [wn 71 [wm 4,wo 0 8,wO 1,wL,wh (.CC · 1 .i [(0,(.tmp 74))]),wh (.app · .i true (.tmp 71) (.tmp 75))],qn [qa 4 76]] [1,4,65,66,67]))) (q1 [qi 77 .add 67 1,qm 67 77] [1,4,65,66,67])))))) (sr [wn 78 [wm 4,wo 13 1,wL,wZ,wh (.CC · 1 .i [(0,(.tmp 81))]),wh (.app · .i true (.tmp 78) (.tmp 82))],qn [qa 4 83]] [1,4] (sr [wn 84 [wm 4,wo 13 1,wL,wh (.app · .i true (.tmp 84) (.tmp 86))],qn [qa 4 87]] [1,4] (.join [cv 4 (.l .i)] (sw 88 [wo 14 1,wL,wZ,wj 0] [4,89,90,91] (bl 4 [cv 4 (.l .i),cv 91 .i] (sq [qb 92 .lss 91 90] [4,89,90,91,92] (.seq (ce 92 [4,89,90,91] [4] 4) (.seq (.block 5 (sr [wn 93 [we .i 89 91,wL],qn [qa 10 94]] [4,10,89,90,91] (qr [wn 95 [wm 4,wm 10,wI .add 1,wh (.CC · 1 .i [(0,(.tmp 97))]),wh (.app · .i true (.tmp 95) (.tmp 98))],qn [qa 4 99]] [4,89,90,91]))) (q1 [qi 100 .add 91 1,qm 91 100] [4,89,90,91])))))) (sq [qm 101 4,qa 2 101] [2] .ret))))))))))⟩
def AaV:YF:=AZ9 (.l .i)
def xp(a:List Int):AA (List Int):=some a
def cJ(h:AE)(g:List Int×Int->AA (List Int))(j:List Int×Int):AA (List Int):=let (a,c):=j;br (decide (c<h.BC.length)) (bd (at? h.BC c) fun e=>gd (e8 a+[w64 (e+1)].length<=lim) (g (a++[w64 (e+1)],w64 (c+1)))) (jn xp a)
def U4(c:AE)(a:List Int):AA (List Int):=gd (a.length+[(↑c.BF.length:Int)].length<=lim) (gd ((a++[(↑c.BF.length:Int)]).length+c.BF.length<=lim) (A3 (cJ c) big (a++[(↑c.BF.length:Int)]++c.BF,0)))
def cI(e:AE)(h:List Int×Int->AA (List Int))(j:List Int×Int):AA (List Int):=let (g,a):=j;br (decide (a<e.AH.length)) (bd (at? e.AH a) fun c=>gd (e8 g+[c.AW.Db].length<=lim) (h (g++[c.AW.Db],w64 (a+1)))) (jn (U4 e) g)
def U3(a:AE)(c:List Int):AA (List Int):=A3 (cI a) big (c,0)
def cH(c:AE)(h:List Int×Int->AA (List Int))(j:List Int×Int):AA (List Int):=let (e,g):=j;br (decide (g<c.AG.length)) (bd (at? c.AG g) fun a=>gd (e8 e+[a.Id,a.AY,w64 (a.Bi+1),a.BA,a.Co,a.Since,a.Az,a.State,a.Cq,a.DH].length<=lim) (h (e++[a.Id,a.AY,w64 (a.Bi+1),a.BA,a.Co,a.Since,a.Az,a.State,a.Cq,a.DH],w64 (g+1)))) (jn (U3 c) e)
def xn(a:AE):AA (List Int):=bd (TD a) fun e=>br (!e) none (bd (lq a.AQ) fun c=>gd ([(↑(e8 c):Int)].length+e8 c<=lim) (gd (([(↑(e8 c):Int)]++c).length+[a.Now,a.Az,(↑a.AG.length:Int)].length<=lim) (A3 (cH a) big ([(↑(e8 c):Int)]++c++[a.Now,a.Az,(↑a.AG.length:Int)],0))))
def APY:GF:=AaV.EF (Bm xn)
def xq(e:Int×List UInt8):AA (List UInt8):=let (a,c):=e;gd (c.length+[toB a].length<=lim) (some (c++[toB a]))
def xt(e:Int×List UInt8->AA (List UInt8))(g:Int×List UInt8):AA (List UInt8):=let (a,c):=g;br (decide (a>=128)) (gd (c.length+[toB (w64 (Int.tmod a 128+128))].length<=lim) (e (w64 (Int.tdiv a 128),c++[toB (w64 (Int.tmod a 128+128))]))) (jn xq (a,c))
def U5(a:Int):AA (List UInt8):=bd (C3 a 0 2147483647) fun c=>br (!c) (some []) (A3 xt big (a,[]))
def Xh:=gZ N1 (.ret [(.l .u)]) DM ["9hw6RMmIVAF84ritVXrGVTomtbF1w3zXEWhkl9GgaEy5Lfi4ZHL6TVN9CfNtj6FeEzjHwKVYJeCnqZAk","XF"] [Eb] (Bm U5)
def xv(a:List UInt8):AA (List UInt8):=some a
def cK(e:List Int)(h:List UInt8×Int->AA (List UInt8))(q:List UInt8×Int):AA (List UInt8):=let (a,c):=q;br (decide (c<e.length)) (bd (at? e c) fun j=>bd (U5 j) fun g=>gd (e8 a+e8 g<=lim) (h (a++g,w64 (c+1)))) (jn xv a)
def xu(a:List Int):AA (List UInt8):=A3 (cK a) big ([],0)
def rK:=gZ iN N2 DM ["1txfzitUvAt46RgPy7XfrwdnvWtpq2Hqzp9bqsQKcjg0maJXFj4vV6SzYLSVQLfxBJ9sH7B"] [Xh] (Bm xu)
def cL(a:Int×Int->AA Int)(c e:Int):AA Int:=a (e,w64 (c+1))
def xx(a:Int×Int->AA Int)(c e:Int):AA Int:=a (e,w64 (c+1))
def cO(g:Int×Int->AA Int)(h:Int)(e:Int×Int->AA Int)(j:Int×Int):AA Int:=let (a,c):=j;br (decide (c<8)) (br (AXt a 1==1) (jn (cL e c) (Zu (Dy a 1) 3988292384)) (jn (cL e c) (Dy a 1))) (jn (xx g h) a)
def xy(a:Int):AA Int:=some (Zu a 4294967295)
def cM(c:List UInt8)(g:Int×Int->AA Int)(j:Int×Int):AA Int:=let (e,a):=j;br (decide (a<c.length)) (bd (at? c a) fun h=>A3 (cO g a) big (Zu e (w64 (↑(UInt8.toNat h):Int)),0)) (jn xy e)
def xw(a:List UInt8):AA Int:=A3 (cM a) big (4294967295,0)
def rL:=gZ [.v (.l .u)] Cv DM ["6THfyXASav90ELWSgO9grGNqC1PF5sykhZJ43pT4MjRZkD2eu4jMziQVGmPfuLFOKiMaxOIGO6Ci4Zap","q0giIcFMAovnagrDnGba2O3qh9obkW5JbvwMSqxZgooosb1cJ8yXJm"] [] (Bm xw)
def AaW:YF:=⟨[],[.v (.st 8),.v .i],[],.ret [.s],[.tmp 4],sq [qu 2 0,.as 4 (.k (.str []))] [1,2] (sr [wn 8 [wk 15 2,wY APY rfl],qn [qa 5 9]] [1,5] (.seq (sr [wn 10 [wm 5,wh (.bin · .sl .eql (.tmp 10) (.k .nil)),wM],wf 12 13 [wm 1,wc Eb rfl [13,qj 0,qj 1000000],wX],qn [qp 16 12 15]] [1,5,16] (cn 16 [1,5] (sq [.as 4 (.k (.str []))] [4] .ret))) (.seq (.Tm (.op 0 none [] (.mv 17 (.tmp 1)) (.op 3 none [] (.mv 20 (.tmp 5)) (qd 1 [wn 18 [wY Xh rfl,wh (.Ny · (.tmp 18))]] (.op 4 none [18] (.call 21 rK [] rfl [(.tmp 20)]) (qd 5 [qn [qb 22 .add 19 21,qa 6 22]] .nil))))) [6]) (sr [wn 23 [wm 6,wh (.ML · (.tmp 23)),wY rL rfl],qn [qa 7 25]] [6,7] (sr [wn 26 [wm 7,wh (.bin · .num .shr (.tmp 26) (.k (.int .u64 24))),wh (.cvI · .u8 (.tmp 27)),wm 7,wh (.bin · .num .shr (.tmp 29) (.k (.int .u64 16))),wh (.cvI · .u8 (.tmp 30)),wm 7,wh (.bin · .num .shr (.tmp 32) (.k (.int .u64 8))),wh (.cvI · .u8 (.tmp 33)),wm 7,wh (.cvI · .u8 (.tmp 35)),wh (.CC · 4 .u [(0,(.tmp 28)),(1,(.tmp 31)),(2,(.tmp 34)),(3,(.tmp 36))]),wh (.Ny · (.tmp 37)),wm 6,wB .add 38],qn [qa 4 40]] [4] .ret)))))⟩
def lr(j:AE)(g:Int):AA (List UInt8):=bd (xn j) fun h=>gd (List.isEmpty h=false) (bd (C3 g 0 1000000) fun q=>br (!q) (some []) (bd (U5 g) fun c=>bd (xu h) fun e=>gd (e8 c+e8 e<=OE) (bd (xw (c++e)) fun a=>gd ([toB (Dy a 24),toB (Dy a 16),toB (Dy a 8),toB a].length+(c++e).length<=OE) (some ([toB (Dy a 24),toB (Dy a 16),toB (Dy a 8),toB a]++(c++e))))))
def APZ:GF:=AaW.EF (Aq lr)
def AaX:YF:=AZ9 .z
def ANu(a:List Int):AA PUnit:=none
def ANx(h:AE)(g:List Int×Int->AA PUnit)(j:List Int×Int):AA PUnit:=let (a,c):=j;br (decide (c<h.BC.length)) (bd (at? h.BC c) fun e=>gd (e8 a+[w64 (e+1)].length<=lim) (g (a++[w64 (e+1)],w64 (c+1)))) (jn ANu a)
def ANt(c:AE)(a:List Int):AA PUnit:=gd (a.length+[(↑c.BF.length:Int)].length<=lim) (gd ((a++[(↑c.BF.length:Int)]).length+c.BF.length<=lim) (A3 (ANx c) big (a++[(↑c.BF.length:Int)]++c.BF,0)))
def ANw(e:AE)(h:List Int×Int->AA PUnit)(j:List Int×Int):AA PUnit:=let (g,a):=j;br (decide (a<e.AH.length)) (bd (at? e.AH a) fun c=>gd (e8 g+[c.AW.Db].length<=lim) (h (g++[c.AW.Db],w64 (a+1)))) (jn (ANt e) g)
def ANs(a:AE)(c:List Int):AA PUnit:=A3 (ANw a) big (c,0)
def ANv(c:AE)(h:List Int×Int->AA PUnit)(j:List Int×Int):AA PUnit:=let (e,g):=j;br (decide (g<c.AG.length)) (bd (at? c.AG g) fun a=>gd (e8 e+[a.Id,a.AY,w64 (a.Bi+1),a.BA,a.Co,a.Since,a.Az,a.State,a.Cq,a.DH].length<=lim) (h (e++[a.Id,a.AY,w64 (a.Bi+1),a.BA,a.Co,a.Since,a.Az,a.State,a.Cq,a.DH],w64 (g+1)))) (jn (ANs c) e)
def ANr(a:AE):AA PUnit:=bd (TD a) fun e=>br (!e) (some ()) (bd (lq a.AQ) fun c=>gd ([(↑(e8 c):Int)].length+e8 c<=lim) (gd (([(↑(e8 c):Int)]++c).length+[a.Now,a.Az,(↑a.AG.length:Int)].length<=lim) (A3 (ANv a) big ([(↑(e8 c):Int)]++c++[a.Now,a.Az,(↑a.AG.length:Int)],0))))
def APa:GF:=AaX.EF (Bm ANr)
def AaY:YF:=⟨[],[.v (.st 8),.v .i],[],.ret [.s],[.tmp 4],sq [qu 2 0,.as 4 (.k (.str []))] [1,2] (sr [wn 8 [wk 15 2,wY APa rfl],qn [qa 5 9]] [1,5] (.seq (sr [wn 10 [wm 5,wh (.bin · .sl .eql (.tmp 10) (.k .nil)),wM],wf 12 13 [wm 1,wc Eb rfl [13,qj 0,qj 1000000],wX],qn [qp 16 12 15]] [1,5,16] (cn 16 [1,5] (sq [.as 4 (.k (.str []))] [4] .ret))) (.seq (.Tm (.op 0 none [] (.mv 17 (.tmp 1)) (.op 3 none [] (.mv 20 (.tmp 5)) (qd 1 [wn 18 [wY Xh rfl,wh (.Ny · (.tmp 18))]] (.op 4 none [18] (.call 21 rK [] rfl [(.tmp 20)]) (qd 5 [qn [qb 22 .add 19 21,qa 6 22]] .nil))))) [6]) (sr [wn 23 [wm 6,wh (.ML · (.tmp 23)),wY rL rfl],qn [qa 7 25]] [6,7] (sr [wn 26 [wm 7,wh (.bin · .num .shr (.tmp 26) (.k (.int .u64 24))),wh (.cvI · .u8 (.tmp 27)),wm 7,wh (.bin · .num .shr (.tmp 29) (.k (.int .u64 16))),wh (.cvI · .u8 (.tmp 30)),wm 7,wh (.bin · .num .shr (.tmp 32) (.k (.int .u64 8))),wh (.cvI · .u8 (.tmp 33)),wm 7,wh (.cvI · .u8 (.tmp 35)),wh (.CC · 4 .u [(0,(.tmp 28)),(1,(.tmp 31)),(2,(.tmp 34)),(3,(.tmp 36))]),wh (.Ny · (.tmp 37)),wm 6,wB .add 38],qn [qa 4 40]] [4] .ret)))))⟩
def AGy(a:AE)(c:Int):AA (List UInt8):=bd (ANr a) fun e=>some []
def APb:GF:=AaY.EF (Aq AGy)
def lu(a:AE)(c:Int):AA (List UInt8):=orE (lr a c) (AGy a c)
def ADg:GF:=APZ.orE (fun a=>lu a.1 a.2.1) (fun a=>AGy a.1 a.2.1) (fun a=>by kernel_rfl) (fun a r h=>Eq.mp (by kernel_rfl) (APb.ok a r h))
def xz(a:List Int):AA (List Int):=some a
def cR(h:AE)(g:List Int×Int->AA (List Int))(j:List Int×Int):AA (List Int):=let (a,c):=j;br (decide (c<h.BC.length)) (bd (at? h.BC c) fun e=>gd (e8 a+[w64 (e+1)].length<=lim) (g (a++[w64 (e+1)],w64 (c+1)))) (jn xz a)
def U7(c:AE)(a:List Int):AA (List Int):=gd (a.length+[(↑c.BF.length:Int)].length<=lim) (gd ((a++[(↑c.BF.length:Int)]).length+c.BF.length<=lim) (A3 (cR c) big (a++[(↑c.BF.length:Int)]++c.BF,0)))
def cQ(e:AE)(h:List Int×Int->AA (List Int))(j:List Int×Int):AA (List Int):=let (g,a):=j;br (decide (a<e.AH.length)) (bd (at? e.AH a) fun c=>gd (e8 g+[c.AW.Db].length<=lim) (h (g++[c.AW.Db],w64 (a+1)))) (jn (U7 e) g)
def U6(a:AE)(c:List Int):AA (List Int):=A3 (cQ a) big (c,0)
def cP(c:AE)(h:List Int×Int->AA (List Int))(j:List Int×Int):AA (List Int):=let (e,g):=j;br (decide (g<c.AG.length)) (bd (at? c.AG g) fun a=>gd (e8 e+[a.Id,a.AY,w64 (a.Bi+1),a.BA,a.Co,a.Since,a.Az,a.State,a.Cq,a.DH].length<=lim) (h (e++[a.Id,a.AY,w64 (a.Bi+1),a.BA,a.Co,a.Since,a.Az,a.State,a.Cq,a.DH],w64 (g+1)))) (jn (U6 c) e)
def AGz(a:AE):AA (List Int):=bd (TD a) fun e=>br (!e) (some []) (bd (lq a.AQ) fun c=>gd ([(↑(e8 c):Int)].length+e8 c<=lim) (gd (([(↑(e8 c):Int)]++c).length+[a.Now,a.Az,(↑a.AG.length:Int)].length<=lim) (A3 (cP a) big ([(↑(e8 c):Int)]++c++[a.Now,a.Az,(↑a.AG.length:Int)],0))))
def APc:=gZ Py RW DM ["58mtK26MXYOR2xDe7YNgBDXVWNTUypl9JLhTz1BQLwqOexQuydhH0W7GupT21Tb6pJ3eKoUdy9lqX9Qq","Tv4CQAyrxMq2fAsSMl4iTSLZtnRluo9FMLoqe76JMIjbwArS69WWXhyhN9XYIw5oNos1bh07GBEF7VSg","EhMGGku6AA4WAGYZaLZyLd5A1Hi4kyQ11RE8q92THQIdpM9PvRUsonyz877KeZ2LSfnm6fp31F5r270b","r51FDvqJyKuTTnDyuPok4MieRDAgY3kAxzNVLz18EWQzIeVLcyjkFo9OJCqWdRuc2iAdkMHDhBH7BiS3","D83jwBffjvtNc"] [Tw,ADf] (Bm AGz)
def yA(a:List Int×Int×Int->AA (Int×List Int))(h:List Int×Int×Int):AA (Int×(List Int)):=let (c,e,g):=h;a (c,w64 (e+1),w64 (g+1))
def cS(e:List Int×Int):AA (Int×(List Int)):=let (a,c):=e;some (c,a)
def U9(g:List Int×Int×Int->AA (Int×List Int))(h:List Int×Int×Int):AA (Int×(List Int)):=let (a,e,c):=h;br (decide (c<(e8 a))) (bd (at? a c) fun j=>bd (at? a c) fun q=>jn (yA g) (an a c.toNat e,e,c)) (jn cS (a,e))
def U8(a:List Int)(c:Int):AA (Int×(List Int)):=A3 U9 big (a,c,0)
def Xi:=gZ [.m (.l .i),.v .i] Cv B5 ["3PSju0KUHfhtxwlLHYZIsO2Sfj2EUdBEnY5DQibn2LTfep7neY8umY"] [] (Aq U8)
def yB(a:Aa)(e:Int):AA (Int×Aa):=bd (U8 a.AW e) fun c=>some (c.fst,Aa.mk c.snd a.Cb a.Room a.BA a.CG a.B1 a.Rest a.Ca a.Cx)
def ADh:=gZ [.m (.st 1),.v .i] Cv B5 ["zVXE1ksneMJZV4bh9Jn"] [Xi] (Aq yB)
def l9(g:List AN×Int×Int->AA (Int×List AN))(h:List AN×Int×Int):AA (Int×(List AN)):=let (a,c,e):=h;g (a,w64 (c+1),w64 (e+1))
def lz(h:List AN×Int×Int->AA (Int×List AN))(q:List AN×Int×Int):AA (Int×(List AN)):=let (e,g,c):=q;bd (at? e c) fun j=>bd (at? e c) fun a=>jn (l9 h) (an e c.toNat (AN.mk a.Id a.AY a.Bi a.BA a.Co a.Since a.Az a.State a.Cq (w64 (g+1))),w64 (g+1),c)
def yJ(h:List AN×Int×Int->AA (Int×List AN))(q:List AN×Int×Int):AA (Int×(List AN)):=let (e,g,c):=q;bd (at? e c) fun j=>bd (at? e c) fun a=>jn (lz h) (an e c.toNat (AN.mk a.Id a.AY a.Bi a.BA a.Co a.Since a.Az a.State (w64 (g+1)) a.DH),w64 (g+1),c)
def yI(h:List AN×Int×Int->AA (Int×List AN))(q:List AN×Int×Int):AA (Int×(List AN)):=let (e,g,c):=q;bd (at? e c) fun j=>bd (at? e c) fun a=>jn (yJ h) (an e c.toNat (AN.mk a.Id a.AY a.Bi a.BA a.Co a.Since a.Az (w64 (g+1)) a.Cq a.DH),w64 (g+1),c)
def yH(h:List AN×Int×Int->AA (Int×List AN))(q:List AN×Int×Int):AA (Int×(List AN)):=let (e,g,c):=q;bd (at? e c) fun j=>bd (at? e c) fun a=>jn (yI h) (an e c.toNat (AN.mk a.Id a.AY a.Bi a.BA a.Co a.Since (w64 (g+1)) a.State a.Cq a.DH),w64 (g+1),c)
def yG(h:List AN×Int×Int->AA (Int×List AN))(q:List AN×Int×Int):AA (Int×(List AN)):=let (e,g,c):=q;bd (at? e c) fun j=>bd (at? e c) fun a=>jn (yH h) (an e c.toNat (AN.mk a.Id a.AY a.Bi a.BA a.Co (w64 (g+1)) a.Az a.State a.Cq a.DH),w64 (g+1),c)
def yF(h:List AN×Int×Int->AA (Int×List AN))(q:List AN×Int×Int):AA (Int×(List AN)):=let (e,g,c):=q;bd (at? e c) fun j=>bd (at? e c) fun a=>jn (yG h) (an e c.toNat (AN.mk a.Id a.AY a.Bi a.BA (w64 (g+1)) a.Since a.Az a.State a.Cq a.DH),w64 (g+1),c)
def yE(h:List AN×Int×Int->AA (Int×List AN))(q:List AN×Int×Int):AA (Int×(List AN)):=let (e,g,c):=q;bd (at? e c) fun j=>bd (at? e c) fun a=>jn (yF h) (an e c.toNat (AN.mk a.Id a.AY a.Bi (w64 (g+1)) a.Co a.Since a.Az a.State a.Cq a.DH),w64 (g+1),c)
def yD(h:List AN×Int×Int->AA (Int×List AN))(q:List AN×Int×Int):AA (Int×(List AN)):=let (e,g,c):=q;bd (at? e c) fun j=>bd (at? e c) fun a=>jn (yE h) (an e c.toNat (AN.mk a.Id a.AY (w64 (g+1)) a.BA a.Co a.Since a.Az a.State a.Cq a.DH),w64 (g+1),c)
def yC(h:List AN×Int×Int->AA (Int×List AN))(q:List AN×Int×Int):AA (Int×(List AN)):=let (e,g,c):=q;bd (at? e c) fun j=>bd (at? e c) fun a=>jn (yD h) (an e c.toNat (AN.mk a.Id (w64 (g+1)) a.Bi a.BA a.Co a.Since a.Az a.State a.Cq a.DH),w64 (g+1),c)
def XJ(e:List AN×Int):AA (Int×(List AN)):=let (a,c):=e;some (c,a)
def VA(h:List AN×Int×Int->AA (Int×List AN))(j:List AN×Int×Int):AA (Int×(List AN)):=let (c,g,e):=j;br (decide (e<(e8 c))) (bd (at? c e) fun q=>bd (at? c e) fun a=>jn (yC h) (an c e.toNat (AN.mk g a.AY a.Bi a.BA a.Co a.Since a.Az a.State a.Cq a.DH),g,e)) (jn XJ (c,g))
def AG0(a:List AN)(c:Int):AA (Int×(List AN)):=A3 VA big (a,c,0)
def APd:=gZ [.m (.l (.st 2)),.v .i] Cv B5 ["sqMPGd0FTLnx9GMfFQL2aTixOVj6of7GjSnURZJRvJW2FxMtQs3iRw7Rnp940ijs1CzsoK8TiyjHxIjT","EZywfxWBYqU6gDKcHJOhb1XtRMHJr66kJpzm5NJUfiRoRyxeoX3prKYBcSDQY6thu9qy2lnAYRw4P16L","6zEIJh8X7crWc6fC1kv4XP00KEwnqnYN21nIxX64G6qVlGnUUcuAejuBx0z3bLKknepgJydbmfIGVykL","ptNd2mINI9xGhF9JwZxSncrs7wc7q49M"] [] (Aq AG0)
def yN(g:List Af×Int×Int->AA (Int×List Af))(h:List Af×Int×Int):AA (Int×(List Af)):=let (a,c,e):=h;g (a,w64 (c+1),w64 (e+1))
def yM(h:List Af×Int×Int->AA (Int×List Af))(q:List Af×Int×Int):AA (Int×(List Af)):=let (c,g,a):=q;bd (at? c a) fun j=>bd (at? c a) fun e=>jn (yN h) (an c a.toNat (Af.mk e.Level e.Az e.Id (w64 (g+1))),w64 (g+1),a)
def yL(h:List Af×Int×Int->AA (Int×List Af))(q:List Af×Int×Int):AA (Int×(List Af)):=let (c,g,a):=q;bd (at? c a) fun j=>bd (at? c a) fun e=>jn (yM h) (an c a.toNat (Af.mk e.Level e.Az (w64 (g+1)) e.BA),w64 (g+1),a)
def yK(h:List Af×Int×Int->AA (Int×List Af))(q:List Af×Int×Int):AA (Int×(List Af)):=let (e,g,c):=q;bd (at? e c) fun j=>bd (at? e c) fun a=>jn (yL h) (an e c.toNat (Af.mk a.Level (w64 (g+1)) a.Id a.BA),w64 (g+1),c)
def cU(e:List Af×Int):AA (Int×(List Af)):=let (a,c):=e;some (c,a)
def VB(h:List Af×Int×Int->AA (Int×List Af))(j:List Af×Int×Int):AA (Int×(List Af)):=let (a,e,c):=j;br (decide (c<(e8 a))) (bd (at? a c) fun q=>bd (at? a c) fun g=>jn (yK h) (an a c.toNat (Af.mk e g.Az g.Id g.BA),e,c)) (jn cU (a,e))
def AG1(a:List Af)(c:Int):AA (Int×(List Af)):=A3 VB big (a,c,0)
def APe:=gZ [.m (.l (.st 4)),.v .i] Cv B5 ["6Dqum6yBWNsNbOba1DRVTqNeCIMtw7BgtIBPZuhQLqNsww4vXIOh2So97jHbtj4NLwljeX0TOnMYkYav","UnObeaWe5NdOCbWed4b1U49opn9U1qJXe40bs3w2KlNfi5X"] [] (Aq AG1)
def xJ(g:List BH×Int×Int->AA (Int×List BH))(h:List BH×Int×Int):AA (Int×(List BH)):=let (a,c,e):=h;g (a,w64 (c+1),w64 (e+1))
def xI(h:List BH×Int×Int->AA (Int×List BH))(q:List BH×Int×Int):AA (Int×(List BH)):=let (c,g,a):=q;bd (at? c a) fun j=>bd (at? c a) fun e=>jn (xJ h) (an c a.toNat (BH.mk e.At (w64 (g+1))),w64 (g+1),a)
def bz(e:List BH×Int):AA (Int×(List BH)):=let (a,c):=e;some (c,a)
def Ux(g:List BH×Int×Int->AA (Int×List BH))(j:List BH×Int×Int):AA (Int×(List BH)):=let (a,e,c):=j;br (decide (c<(e8 a))) (bd (at? a c) fun q=>bd (at? a c) fun h=>jn (xI g) (an a c.toNat (BH.mk e h.Id),e,c)) (jn bz (a,e))
def AGo(a:List BH)(c:Int):AA (Int×(List BH)):=A3 Ux big (a,c,0)
def APN:=gZ [.m (.l (.st 5)),.v .i] Cv B5 ["4uzK937SGi4EgJruUrVLfSJb6k4odEgHpfIzR9sW8HWkKebWM8qfiBVgwq4fKRGjfQfztjczmGQKqT"] [] (Aq AGo)
def xK(e:((List (List BH))×Int)):AA (Int×(List (List BH))):=let (c,a):=e;some (a,c)
def Uy(h:((List (List BH))×Int×Int)->AA (Int×(List (List BH))))(q:((List (List BH))×Int×Int)):AA (Int×(List (List BH))):=let (c,e,a):=q;br (decide (a<(e8 c))) (bd (at? c a) fun y=>bd (at? c a) fun j=>bd (AGo j e) fun g=>gd (a.toNat=a.toNat) (bd (c[a.toNat]?) fun B=>h (an c a.toNat g.snd,g.fst,w64 (a+1)))) (jn xK (c,e))
def AGp(a:List (List BH))(c:Int):AA (Int×(List (List BH))):=A3 Uy big (a,c,0)
def APO:=gZ [.m (.l (.l (.st 5))),.v .i] Cv B5 ["uAMLYw4LYyYOc4l20VPTcACJuUmZW6pYy0TB3PhZpotM1BtdmS9"] [APN] (Aq AGp)
def xQ(q:List Ab×Int×Int->AA (Int×List Ab))(B:List Ab×Int×Int):AA (Int×(List Ab)):=let (c,h,a):=B;bd (at? c a) fun y=>bd (at? c a) fun j=>bd (AGp j.Bq.Ao h) fun e=>gd (a.toNat=a.toNat) (bd (c[a.toNat]?) fun g=>q (an c a.toNat (Ab.mk g.AW g.Row (A0.mk e.snd)),e.fst,w64 (a+1)))
def xP(q:List Ab×Int×Int->AA (Int×List Ab))(B:List Ab×Int×Int):AA (Int×(List Ab)):=let (c,h,a):=B;bd (at? c a) fun y=>bd (at? c a) fun j=>bd (AG1 j.Row (w64 (h+1))) fun e=>gd (a.toNat=a.toNat) (bd (c[a.toNat]?) fun g=>jn (xQ q) (an c a.toNat (Ab.mk g.AW e.snd g.Bq),e.fst,a))
def xO(h:List Ab×Int×Int->AA (Int×List Ab))(q:List Ab×Int×Int):AA (Int×(List Ab)):=let (e,g,c):=q;bd (at? e c) fun j=>bd (at? e c) fun a=>jn (xP h) (an e c.toNat (Ab.mk (BE.mk a.AW.Total a.AW.Db a.AW.Ee a.AW.FY (w64 (g+1))) a.Row a.Bq),w64 (g+1),c)
def xN(h:List Ab×Int×Int->AA (Int×List Ab))(q:List Ab×Int×Int):AA (Int×(List Ab)):=let (e,g,c):=q;bd (at? e c) fun j=>bd (at? e c) fun a=>jn (xO h) (an e c.toNat (Ab.mk (BE.mk a.AW.Total a.AW.Db a.AW.Ee (w64 (g+1)) a.AW.Fx) a.Row a.Bq),w64 (g+1),c)
def xM(h:List Ab×Int×Int->AA (Int×List Ab))(q:List Ab×Int×Int):AA (Int×(List Ab)):=let (e,g,c):=q;bd (at? e c) fun j=>bd (at? e c) fun a=>jn (xN h) (an e c.toNat (Ab.mk (BE.mk a.AW.Total a.AW.Db (w64 (g+1)) a.AW.FY a.AW.Fx) a.Row a.Bq),w64 (g+1),c)
def xL(h:List Ab×Int×Int->AA (Int×List Ab))(q:List Ab×Int×Int):AA (Int×(List Ab)):=let (e,g,c):=q;bd (at? e c) fun j=>bd (at? e c) fun a=>jn (xM h) (an e c.toNat (Ab.mk (BE.mk a.AW.Total (w64 (g+1)) a.AW.Ee a.AW.FY a.AW.Fx) a.Row a.Bq),w64 (g+1),c)
def xR(e:List Ab×Int):AA (Int×(List Ab)):=let (a,c):=e;some (c,a)
def Uz(h:List Ab×Int×Int->AA (Int×List Ab))(j:List Ab×Int×Int):AA (Int×(List Ab)):=let (c,g,e):=j;br (decide (e<(e8 c))) (bd (at? c e) fun q=>bd (at? c e) fun a=>jn (xL h) (an c e.toNat (Ab.mk (BE.mk g a.AW.Db a.AW.Ee a.AW.FY a.AW.Fx) a.Row a.Bq),g,e)) (jn xR (c,g))
def AGq(a:List Ab)(c:Int):AA (Int×(List Ab)):=A3 Uz big (a,c,0)
def APP:=gZ [.m (.l (.st 7)),.v .i] Cv B5 ["35hkhleONf37jLnUHezq6KkoS9NaU0GMTEM3bxKQvVkjUsDFrd24dGl6dLfKUg15jqCwPmqTZYcqxw76","O0Bx0bN7oW1C4aQo2u5B3gurNDUvKKPJ95Tfr3CfELLXFbhBYqwTlagkejnafpu26NvtBD3by62xX4kT","M801L8moLISBno3fvcWwzd4W0Qlup4gEkDAHKkppZhUFRbIjzA"] [APe,APO] (Aq AGq)
def AGr(a:AE)(q:Int):AA (Int×AE):=bd (yB a.AQ q) fun c=>bd (AG0 a.AG c.fst) fun e=>bd (AGq a.AH e.fst) fun g=>bd (U8 a.BF g.fst) fun h=>bd (U8 a.BC h.fst) fun j=>some (j.fst,AE.mk (Aa.mk c.snd.AW a.AQ.Cb a.AQ.Room a.AQ.BA a.AQ.CG a.AQ.B1 a.AQ.Rest a.AQ.Ca a.AQ.Cx) a.Now a.Az e.snd g.snd h.snd j.snd)
def APQ:=gZ [.m (.st 8),.v .i] Cv B5 ["GDIfbctAKXbESopcdKsItvwKlULUaNekGhDmDQMoPHGeHdWvuF0Glj1QgWD3"] [ADh,APd,APP,Xi] (Aq AGr)
def xS(a:Int):AA Int:=some a
def b6(e:List Int)(g:Int×Int->AA Int)(j:Int×Int):AA Int:=let (a,c):=j;br (decide (c<e.length)) (bd (at? e c) fun h=>br (h != a) (some (-1)) (g (w64 (a+1),w64 (c+1)))) (jn xS a)
def U0(a:List Int)(c:Int):AA Int:=A3 (b6 a) big (c,0)
def iH:=gZ ZH Cv B5 ["14jM4paJogJRxQwe4ZE1GDtvsxH8LEUEsHaRkzjD68P0hsilMh0jw9"] [] (Aq U0)
def GQ(a:Aa):AA Aa:=gd (0+a.AW.length<=lim) (some (Aa.mk ([]++a.AW) a.Cb a.Room a.BA a.CG a.B1 a.Rest a.Ca a.Cx))
def ADW:=gZ Oq ASG ASR ["2hgMpbI2uI6XQHQgnanl3zrl"] [] (Bm GQ)
def AGs(a:Int):AA (BE×Bool):=bd (AC6 (BE.mk a 0 0 a 0)) fun c=>br (!c) (some (BE.mk 0 0 0 0 0,false)) (some (BE.mk a 0 0 a 0,true))
def APR:=gZ N1 Pz [.cell 2 (some 5),.tmp 3] ["9VQmGVbDo21wvm0tiCK7EJe07oHNNhuookrvpGEm4IzqG"] [AJG] (Bm AGs)
def AaU:YF:=⟨[],[],[],.ret [(.st 6)],[.cell 0 (some 1)],dY ["NaBPOS6UuUfXusJjlAc5CKfn5f1I6ljP0OVFlof3c192JlrYP34P1wp1L04tAnMmO9yfd"] []⟩
def xU(a:A0):AA A0:=some a
def xV(e:Int×A0->AA A0)(g:Int×A0):AA A0:=let (c,a):=g;br (decide (c<9)) (gd (a.Ao.length+1<=lim) (e (w64 (c+1),A0.mk (a.Ao++[[]])))) (jn xU a)
def xT:AA A0:=A3 xV big (0,A0.mk [])
def ADX:GF:=AaU.gf rfl rfl (fun a=>xT) (fun a=>by kernel_rfl)
def AGt(c:Int):AA (Ab×Bool):=bd (AGs c) fun a=>br (!a.snd) (some (Ab.mk (BE.mk 0 0 0 0 0) [] (A0.mk []),false)) (bd xT fun e=>some (Ab.mk a.fst [] e,true))
def APS:=gZ N1 (.ret [(.st 7),.b]) [.cell 2 (some 7),.tmp 3] ["4gznF6tOZ3rjNhO9oOodqHCEubPWemPGTOQKKXXSDvfZI0qPBI6eqrxngrk8nHML7nN"] [APR,ADX] (Bm AGt)
def xX(a:AE):AA (AE×Bool):=some (a,true)
def xZ(g:Aa)(e:Int×AE->AA (AE×Bool))(h:Int×AE):AA (AE×Bool):=let (c,a):=h;br (decide (c<g.Cx)) (gd (a.BC.length+[-1].length<=lim) (e (w64 (c+1),AE.mk a.AQ a.Now a.Az a.AG a.AH a.BF (a.BC++[-1])))) (jn xX a)
def xW(a:Aa)(c:AE):AA (AE×Bool):=A3 (xZ a) big (0,c)
def xY(c:Aa)(h:Int×AE->AA (AE×Bool))(q:Int×AE):AA (AE×Bool):=let (e,a):=q;br (decide (e<c.AW.length)) (bd (at? c.AW e) fun j=>bd (AGt j) fun g=>gd (a.AH.length+[g.fst].length<=lim) (h (w64 (e+1),AE.mk a.AQ a.Now a.Az a.AG (a.AH++[g.fst]) a.BF a.BC))) (jn (xW c) a)
def AGu(a:Aa):AA (AE×Bool):=bd (zN a) fun c=>br (!c) (some (AE.mk (Aa.mk [] 0 0 0 0 0 0 0 0) 0 0 [] [] [] [],false)) (bd (GQ a) fun e=>A3 (xY a) big (0,AE.mk e 0 1 [] [] [] []))
def APT:=gZ Oq AEY iR ["1Iqe9LoNK5g6iRhmJ9K3qlNdx09LBVPnEMcGYAxA9qd1zmEqiJQcfvQ6rgzk2j7tcHgU4lRCG5kT9hlj","AUSojK57pcc62ZZKr3dF8FZvPIaAQMhagcUbi0IMN6UVUsYHGwTCnoKJs8GY4IYuNmFOm9oDBe7VcB03","JGt5JKfHGnTcvgBOdCYd"] [nO,ADW,APS] (Bm AGu)
def AG5(e:Aa):AA (A7×Bool):=bd (AGu e) fun a=>br (!a.snd) (some (A7.mk (AE.mk (Aa.mk [] 0 0 0 0 0 0 0 0) 0 0 [] [] [] []) (Bk.mk (Bl.mk [] 0) (Bl.mk [] 0) (Bl.mk [] 0)) 0 [],false)) (bd (ln a.fst 0) fun c=>some (A7.mk a.fst (Bk.mk (Bl.mk [] 0) (Bl.mk c (↑(e8 c):Int)) (Bl.mk [] 0)) 0 [],true))
def APk:=gZ Oq RX Xy ["rOdb3YkiQAnYT8JczQ08PbmsoXBX0QQEagqbT1dnuyZlCxocnn2kkIE0BQzQOeNP0yQ79iHMrTvXhGTt","hD5v"] [APT,rJ] (Bm AG5)
def Jh(a:List Int):AA (List Int):=gd (0+a.length<=lim) (some a)
def Tx:=gZ iN RW DM ["Ak8T0gzOBH2ZE"] [] (Bm Jh)
def mY(a:Aa):AA Aa:=bd (Jh a.AW) fun c=>some (Aa.mk c a.Cb a.Room a.BA a.CG a.B1 a.Rest a.Ca a.Cx)
def ADk:=gZ Oq ASG ASR ["1KFDQchBlLoj4zR1HSZBRW"] [Tx] (Bm mY)
def AG6(a:Int):AA (BE×Bool):=bd (LH (BE.mk a 0 0 a 0)) fun c=>br (!c) (some (BE.mk 0 0 0 0 0,false)) (some (BE.mk a 0 0 a 0,true))
def APl:=gZ N1 Pz [.cell 2 (some 5),.tmp 3] ["9VQmGVbDo21wvm0tiCK7EJe07oHNNhuookrvpGEm4IzqG"] [Pu] (Bm AG6)
def Aaa:YF:=⟨[],[],[],.ret [(.st 6)],[.cell 0 (some 1)],dY ["21sUUjpr9HlIugy7lUjg1"] [] [.O1 1 (.l (.st 5)) (.k (.int .i64 9))]⟩
def AG7:AA A0:=some (A0.mk (List.replicate (Int.toNat 9) []))
def ADl:GF:=Aaa.gf rfl rfl (fun a=>AG7) (fun a=>by kernel_rfl)
def AG8(c:Int):AA (Ab×Bool):=bd (AG6 c) fun a=>br (!a.snd) (some (Ab.mk (BE.mk 0 0 0 0 0) [] (A0.mk []),false)) (bd AG7 fun e=>some (Ab.mk a.fst [] e,true))
def APm:=gZ N1 (.ret [(.st 7),.b]) [.cell 2 (some 7),.tmp 3] ["4gznF6tOZ3rjNhO9oOodqHCEubPWemPGTOQKKXXSDvfZI0qPBI6eqrxngrk8nHML7nN"] [APl,ADl] (Bm AG8)
def yY(a:AE):AA (AE×Bool):=some (a,true)
def ya(g:Aa)(e:Int×AE->AA (AE×Bool))(h:Int×AE):AA (AE×Bool):=let (c,a):=h;br (decide (c<g.Cx)) (gd (a.BC.length+[-1].length<=lim) (e (w64 (c+1),AE.mk a.AQ a.Now a.Az a.AG a.AH a.BF (a.BC++[-1])))) (jn yY a)
def yX(a:Aa)(c:AE):AA (AE×Bool):=A3 (ya a) big (0,c)
def yZ(c:Aa)(h:Int×AE->AA (AE×Bool))(q:Int×AE):AA (AE×Bool):=let (e,a):=q;br (decide (e<c.AW.length)) (bd (at? c.AW e) fun j=>bd (AG8 j) fun g=>gd (a.AH.length+[g.fst].length<=lim) (h (w64 (e+1),AE.mk a.AQ a.Now a.Az a.AG (a.AH++[g.fst]) a.BF a.BC))) (jn (yX c) a)
def AG9(a:Aa):AA (AE×Bool):=bd (Um a) fun c=>br (!c) (some (AE.mk (Aa.mk [] 0 0 0 0 0 0 0 0) 0 0 [] [] [] [],false)) (bd (mY a) fun e=>A3 (yZ a) big (0,AE.mk e 0 1 [] [] [] []))
def APn:=gZ Oq AEY iR ["4SuG7ybchUfFD61kNx8eNfd3J3vX81OA1Taj2yvUGm7wMJaryMikaNTiNkdNp5zkDY2qJOQketcWV5gZ","z677tm3k14AlqsGeXzhLI2LfdKfkpJBITXNPTTMwPkkQZPbtzSZQz495LasXbOamnUODJ22en4IoxfAA","bVPomOn2rGKcCQ2XTmKSCCGvzdc"] [Tv,ADk,APm] (Bm AG9)
def Y5(a:Bl):AA Bl:=bd (Oa a) fun c=>br (!c) (some a) (some (Bl.mk a.Data (↑a.Data.length:Int)))
def iI:=gZ iO Xt [.cell 2 (some 2)] ["4SwK9hbO8X3BHS3IUPagUvd8xXnOXGhaxl"] [RT] (Bm Y5)
def AHA(c:Aa):AA (A7×Bool):=bd (AG9 c) fun a=>br (!a.snd) (some (A7.mk (AE.mk (Aa.mk [] 0 0 0 0 0 0 0 0) 0 0 [] [] [] []) (Bk.mk (Bl.mk [] 0) (Bl.mk [] 0) (Bl.mk [] 0)) 0 [],false)) (bd (lu a.fst 0) fun e=>bd (Y5 (Bl.mk e 0)) fun g=>some (A7.mk a.fst (Bk.mk (Bl.mk [] 0) g (Bl.mk [] 0)) 0 [],true))
def APo:=gZ Oq RX Xy ["Xx6wYYXd05ZzFmoYsnzEvl5WA8rmMA9CnllG9rJjV8mHB1UN1gG6gcWuTpcLrgTrjiOIIUtwNu"] [APn,ADg,iI] (Bm AHA)
def yj(g:List Bp×Int×Int->AA (Int×List Bp))(h:List Bp×Int×Int):AA (Int×(List Bp)):=let (a,c,e):=h;g (a,w64 (c+1),w64 (e+1))
def yh(h:List Bp×Int×Int->AA (Int×List Bp))(q:List Bp×Int×Int):AA (Int×(List Bp)):=let (e,g,c):=q;bd (at? e c) fun j=>bd (at? e c) fun a=>jn (yj h) (an e c.toNat (Bp.mk a.Kind a.Id a.AY a.Bi a.BA (w64 (g+1))),w64 (g+1),c)
def yg(h:List Bp×Int×Int->AA (Int×List Bp))(q:List Bp×Int×Int):AA (Int×(List Bp)):=let (e,g,c):=q;bd (at? e c) fun j=>bd (at? e c) fun a=>jn (yh h) (an e c.toNat (Bp.mk a.Kind a.Id a.AY a.Bi (w64 (g+1)) a.Co),w64 (g+1),c)
def yf(h:List Bp×Int×Int->AA (Int×List Bp))(q:List Bp×Int×Int):AA (Int×(List Bp)):=let (e,g,c):=q;bd (at? e c) fun j=>bd (at? e c) fun a=>jn (yg h) (an e c.toNat (Bp.mk a.Kind a.Id a.AY (w64 (g+1)) a.BA a.Co),w64 (g+1),c)
def ye(h:List Bp×Int×Int->AA (Int×List Bp))(q:List Bp×Int×Int):AA (Int×(List Bp)):=let (e,g,c):=q;bd (at? e c) fun j=>bd (at? e c) fun a=>jn (yf h) (an e c.toNat (Bp.mk a.Kind a.Id (w64 (g+1)) a.Bi a.BA a.Co),w64 (g+1),c)
def yc(h:List Bp×Int×Int->AA (Int×List Bp))(q:List Bp×Int×Int):AA (Int×(List Bp)):=let (e,g,c):=q;bd (at? e c) fun j=>bd (at? e c) fun a=>jn (ye h) (an e c.toNat (Bp.mk a.Kind (w64 (g+1)) a.AY a.Bi a.BA a.Co),w64 (g+1),c)
def cg(e:List Bp×Int):AA (Int×(List Bp)):=let (a,c):=e;some (c,a)
def VC(h:List Bp×Int×Int->AA (Int×List Bp))(j:List Bp×Int×Int):AA (Int×(List Bp)):=let (a,g,c):=j;br (decide (c<(e8 a))) (bd (at? a c) fun q=>bd (at? a c) fun e=>jn (yc h) (an a c.toNat (Bp.mk g e.Id e.AY e.Bi e.BA e.Co),g,c)) (jn cg (a,g))
def yb(a:List Bp)(c:Int):AA (Int×(List Bp)):=A3 VC big (a,c,0)
def ADm:=gZ [.m (.l (.st 0)),.v .i] Cv B5 ["8qjfdQbR3CSHPZEIUad4ZoQPoPEVSVPH4ua4eMFBoT2PdthffHqnm8h4LBs9dWJMl7FowslwW1N6FFP7","OXt4gMUxR77YHQd5FkGPTVek6rNGtH7xSj7r1KKwcXc2mTsoAHZcOzOldyuaSHu7wjOWCoEDdP9n7W79","w1o2q7mjHW4u18d4Ba"] [] (Aq yb)
def AHB(a:A7)(g:Int):AA (Int×A7):=bd (AGr a.A2 g) fun c=>bd (yb a.Laid c.fst) fun e=>some (e.fst,A7.mk (AE.mk (Aa.mk c.snd.AQ.AW a.A2.AQ.Cb a.A2.AQ.Room a.A2.AQ.BA a.A2.AQ.CG a.A2.AQ.B1 a.A2.AQ.Rest a.A2.AQ.Ca a.A2.AQ.Cx) a.A2.Now a.A2.Az c.snd.AG c.snd.AH c.snd.BF c.snd.BC) a.Bg a.Seq e.snd)
def APp:=gZ [.m (.st 11),.v .i] Cv B5 ["27HWcNf1JfeIuJbcgv1hJN4Kgftebt"] [APQ,ADm] (Aq AHB)
def ANy(c:Aa)(e:Int):AA Int:=bd (U0 c.AW e) fun a=>br (decide (a<0)) (some (-1)) (some a)
def APq:=gZ [.v (.st 1),.v .i] Cv B5 ["mfaJfiCn108fYJL71ssQwG1y1VS"] [iH] (Aq ANy)
def yk(a:Int):AA Int:=some a
def ch(e:List AN)(y:Int×Int->AA Int)(L:Int×Int):AA Int:=let (a,c):=L;br (decide (c<e.length)) (bd (at? e c) fun B=>br (B.Id != a) (some (-1)) (bd (at? e c) fun E=>br (E.AY != w64 (a+1)) (some (-1)) (bd (at? e c) fun G=>br (G.Bi != w64 (w64 (a+1)+1)) (some (-1)) (bd (at? e c) fun H=>br (H.BA != w64 (w64 (w64 (a+1)+1)+1)) (some (-1)) (bd (at? e c) fun I=>br (I.Co != w64 (w64 (w64 (w64 (a+1)+1)+1)+1)) (some (-1)) (bd (at? e c) fun J=>br (J.Since != w64 (w64 (w64 (w64 (w64 (a+1)+1)+1)+1)+1)) (some (-1)) (bd (at? e c) fun g=>br (g.Az != w64 (w64 (w64 (w64 (w64 (w64 (a+1)+1)+1)+1)+1)+1)) (some (-1)) (bd (at? e c) fun h=>br (h.State != w64 (w64 (w64 (w64 (w64 (w64 (w64 (a+1)+1)+1)+1)+1)+1)+1)) (some (-1)) (bd (at? e c) fun j=>br (j.Cq != w64 (w64 (w64 (w64 (w64 (w64 (w64 (w64 (a+1)+1)+1)+1)+1)+1)+1)+1)) (some (-1)) (bd (at? e c) fun q=>br (q.DH != w64 (w64 (w64 (w64 (w64 (w64 (w64 (w64 (w64 (a+1)+1)+1)+1)+1)+1)+1)+1)+1)) (some (-1)) (y (w64 (w64 (w64 (w64 (w64 (w64 (w64 (w64 (w64 (w64 (a+1)+1)+1)+1)+1)+1)+1)+1)+1)+1),w64 (c+1))))))))))))) (jn yk a)
def AHC(a:List AN)(c:Int):AA Int:=A3 (ch a) big (c,0)
def APr:=gZ M8 Cv B5 ["1KMfxKg3RbTWhN4gT6GrVoPOAuqYQeO0FCw7F8vlNyE6WLfyC58bFLPWryuoawJPaZQ5vY83FRa6V81t","6C6E9w5f8CjjhqK9X6ySDvS7RnJc1Inec8iOqTpzJ18A627Hic2JNJWNCPKK0cBxxTRK5UG1Wj9Dtueb","qHKZSsViyxUCQgycsCjgeLBpJgPkbfFK8qGutE861TwiGyGwsW4QsRgvJESkUvemTTsicBEVvYbMzpYb","v2jBu2k8NnvvV8Fmy4BiU03yo7kPZ5vfzIpWxMKhBh0tBetIP"] [] (Aq AHC)
def ym(a:Int):AA Int:=some a
def cj(e:List Af)(g:Int×Int->AA Int)(B:Int×Int):AA Int:=let (a,c):=B;br (decide (c<e.length)) (bd (at? e c) fun h=>br (h.Level != a) (some (-1)) (bd (at? e c) fun j=>br (j.Az != w64 (a+1)) (some (-1)) (bd (at? e c) fun q=>br (q.Id != w64 (w64 (a+1)+1)) (some (-1)) (bd (at? e c) fun y=>br (y.BA != w64 (w64 (w64 (a+1)+1)+1)) (some (-1)) (g (w64 (w64 (w64 (w64 (a+1)+1)+1)+1),w64 (c+1))))))) (jn ym a)
def AHD(a:List Af)(c:Int):AA Int:=A3 (cj a) big (c,0)
def APs:=gZ r9 Cv B5 ["2PbtkCsPmRb3gUlBGo4P0Eqq1MDt6jE6YSrMYP1ksgKZrWuveDduCtpDqUOeGX5FvuDDJBcgHjCflmRZ","2rkfcE0p6icSFxyVYPKYDdfT9hLWyXketh4xAePidrG0CZC5Dje"] [] (Aq AHD)
def yn(a:Int):AA Int:=some a
def ck(e:List BH)(g:Int×Int->AA Int)(q:Int×Int):AA Int:=let (a,c):=q;br (decide (c<e.length)) (bd (at? e c) fun h=>br (h.At != a) (some (-1)) (bd (at? e c) fun j=>br (j.Id != w64 (a+1)) (some (-1)) (g (w64 (w64 (a+1)+1),w64 (c+1))))) (jn yn a)
def AHE(a:List BH)(c:Int):AA Int:=A3 (ck a) big (c,0)
def APt:=gZ [.v (.l (.st 5)),.v .i] Cv B5 ["1MRu3yOhz6vd2OaP8shvNZWRovKXCB6sRhMzKjlEL9o1Nj7ISZ7mamAR9vIMsoAD13FcFaN6PvKVW6"] [] (Aq AHE)
def yo(a:Int):AA Int:=some a
def cm(c:List (List BH))(h:Int×Int->AA Int)(q:Int×Int):AA Int:=let (e,a):=q;br (decide (a<c.length)) (bd (at? c a) fun j=>bd (AHE j e) fun g=>br (decide (g<0)) (some (-1)) (h (g,w64 (a+1)))) (jn yo e)
def AHF(a:List (List BH))(c:Int):AA Int:=A3 (cm a) big (c,0)
def APu:=gZ [.v (.l (.l (.st 5))),.v .i] Cv B5 ["4MX6ATrYjsMjdN7XwkMII2eZklS6bFV4k6UwxpNhyEIo6rlqTSLLWl"] [APt] (Aq AHF)
def yp(a:Int):AA Int:=some a
def cq(c:List Ab)(q:Int×Int->AA Int)(J:Int×Int):AA Int:=let (e,a):=J;br (decide (a<c.length)) (bd (at? c a) fun y=>br (y.AW.Total != e) (some (-1)) (bd (at? c a) fun B=>br (B.AW.Db != w64 (e+1)) (some (-1)) (bd (at? c a) fun E=>br (E.AW.Ee != w64 (w64 (e+1)+1)) (some (-1)) (bd (at? c a) fun G=>br (G.AW.FY != w64 (w64 (w64 (e+1)+1)+1)) (some (-1)) (bd (at? c a) fun H=>br (H.AW.Fx != w64 (w64 (w64 (w64 (e+1)+1)+1)+1)) (some (-1)) (bd (at? c a) fun I=>bd (AHD I.Row (w64 (w64 (w64 (w64 (w64 (e+1)+1)+1)+1)+1))) fun g=>br (decide (g<0)) (some (-1)) (bd (at? c a) fun j=>bd (AHF j.Bq.Ao g) fun h=>br (decide (h<0)) (some (-1)) (q (h,w64 (a+1)))))))))) (jn yp e)
def AHG(a:List Ab)(c:Int):AA Int:=A3 (cq a) big (c,0)
def APv:=gZ [.v (.l (.st 7)),.v .i] Cv B5 ["1lVufEcpgivcA7gRZ50lX1jb4bYyLEjUFvxULeW1eXhEDxgxptqA5q17keXp258yV35nK3Juq2Qgm3fe","AaS5FmCJSwUTZd6GIzrPLQRhn468wEktixqCVChzI2vCurxPH5emOr45lzOygiHy1FbsouVJ1VLo1nx1","GXRmwwUoJXTQjEBcWmVNLpHvT7u0lfEA7rs10OpaZIcX05ZbhLXvvUy1wsF8SwGJXBXMuGb3"] [APs,APu] (Aq AHG)
def AHH(a:AE)(q:Int):AA Int:=bd (ANy a.AQ q) fun c=>br (decide (c<0)) (some (-1)) (bd (AHC a.AG c) fun e=>br (decide (e<0)) (some (-1)) (bd (AHG a.AH e) fun g=>br (decide (g<0)) (some (-1)) (bd (U0 a.BF g) fun h=>br (decide (h<0)) (some (-1)) (bd (U0 a.BC h) fun j=>br (decide (j<0)) (some (-1)) (some j)))))
def APw:=gZ FM Cv B5 ["12zEtZdrld4hoEkL6HNF0wY4dow65P8s5S3chVYhvW1jiFYTSCZuDSQ2IIDoGU9puj3WzXeUMJVDSrlI","4GieKWF5Ks6qyID1Am1i6zESHBbM"] [APq,APr,APv,iH] (Aq AHH)
def yr(a:Int):AA Int:=some a
def cr(e:List Bp)(g:Int×Int->AA Int)(G:Int×Int):AA Int:=let (a,c):=G;br (decide (c<e.length)) (bd (at? e c) fun h=>br (h.Kind != a) (some (-1)) (bd (at? e c) fun j=>br (j.Id != w64 (a+1)) (some (-1)) (bd (at? e c) fun q=>br (q.AY != w64 (w64 (a+1)+1)) (some (-1)) (bd (at? e c) fun y=>br (y.Bi != w64 (w64 (w64 (a+1)+1)+1)) (some (-1)) (bd (at? e c) fun B=>br (B.BA != w64 (w64 (w64 (w64 (a+1)+1)+1)+1)) (some (-1)) (bd (at? e c) fun E=>br (E.Co != w64 (w64 (w64 (w64 (w64 (a+1)+1)+1)+1)+1)) (some (-1)) (g (w64 (w64 (w64 (w64 (w64 (w64 (a+1)+1)+1)+1)+1)+1),w64 (c+1))))))))) (jn yr a)
def yq(a:List Bp)(c:Int):AA Int:=A3 (cr a) big (c,0)
def ADn:=gZ [.v (.l (.st 0)),.v .i] Cv B5 ["L6eJNKWURHfjbo10HhPdKrFmWOFE4lkJDXagh2p7PqllaPabtxAb4vRlqRcCHv2Yr3oOGwJumTIirM8k","Cr3RmvB2HLCfwKcjRdcAXzuaEhoyid7sBpqSRu0nLpkJHWZqmH1WjnhSIYInNPjQx4ymqDgALRIphUgn","TSLPake7KJzLXSxybD5jN0Zm"] [] (Aq yq)
def AHI(a:A7)(g:Int):AA Int:=bd (AHH a.A2 g) fun c=>br (decide (c<0)) (some (-1)) (bd (yq a.Laid c) fun e=>br (decide (e<0)) (some (-1)) (some e))
def APx:=gZ iP Cv B5 ["Cem5mME8q5oBSy4bgHZk85RNk7OAB9koS10VjqNIoS3qhZ"] [APw,ADn] (Aq AHI)
def AHJ(c:Aa):AA (Bu×Bool):=bd (AG5 c) fun a=>br (!a.snd) (some (Bu.mk (A7.mk (AE.mk (Aa.mk [] 0 0 0 0 0 0 0 0) 0 0 [] [] [] []) (Bk.mk (Bl.mk [] 0) (Bl.mk [] 0) (Bl.mk [] 0)) 0 []) [] [] 0,false)) (some (Bu.mk a.fst [] [] 0,true))
def APy:=gZ Oq (.ret [(.st 13),.b]) ASM ["IIUgaAYrF2iMEChSlqFyUodTFMyo82FzgXrmUlMPzEMXX6eRDiMpSm8TQ"] [APk] (Bm AHJ)
def AHK(c:Aa):AA (Bu×Bool):=bd (AHA c) fun a=>br (!a.snd) (some (Bu.mk (A7.mk (AE.mk (Aa.mk [] 0 0 0 0 0 0 0 0) 0 0 [] [] [] []) (Bk.mk (Bl.mk [] 0) (Bl.mk [] 0) (Bl.mk [] 0)) 0 []) [] [] 0,false)) (some (Bu.mk a.fst [] [] 0,true))
def APz:=gZ Oq (.ret [(.st 13),.b]) ASM ["IIUgaAYrF2iMEChSlqFyUodTFMyo82FzgXrmUlMPzEMXX6eRDiMpSm8TQ"] [APo] (Bm AHK)
def AHL(a c:Bz):AA Bool:=br (a.Code != c.Code) (some false) (bd (Qd a.Ids c.Ids) fun e=>br (!e) (some false) (some true))
def AP0:=gZ [.v (.st 12),.v (.st 12)] CK B5 ["1zATEMsh5xMGkaxJMtLcNGWaiSvHyq2"] [Xg] (Aq AHL)
def yt(_:PUnit):AA Bool:=some true
def cw(c g:List Bz)(e:Int->AA Bool)(a:Int):AA Bool:=br (decide (a<c.length)) (bd (at? c a) fun h=>bd (at? g a) fun j=>bd (AHL h j) fun q=>br (!q) (some false) (e (w64 (a+1)))) (jn yt ())
def AHM(a c:List Bz):AA Bool:=br ((↑a.length:Int) != c.length) (some false) (A3 (cw a c) big 0)
def AP1:=gZ [.v (.l (.st 12)),.v (.l (.st 12))] CK B5 ["1TpxGjR82K5V90OUMBR86YmtnqGmCEpTQgvjBgoMBhG0OOUuQfYNvNED2W4LPn"] [AP0] (Aq AHM)
def mZ(a c:Bu):AA Bool:=bd (AGw a.Ac c.Ac) fun e=>br (!e) (some false) (bd (xa a.GL c.GL) fun g=>br (!g) (some false) (bd (AHM a.Cy c.Cy) fun h=>br (!h) (some false) (br (a.G0 != c.G0) (some false) (some true))))
def AP2:=gZ [.v (.st 13),.v (.st 13)] CK B5 ["1jnCY5rHXWOIisx5oyuwydoAOYHZmgs8tiLPdI6YdkTmxmvEsQpx722kRWpUR"] [APW,ADZ,AP1] (Aq mZ)
def yu(j:List Bz×Int×Int->AA (Int×List Bz))(B:List Bz×Int×Int):AA (Int×(List Bz)):=let (e,q,a):=B;bd (at? e a) fun y=>bd (at? e a) fun g=>bd (U8 g.Ids (w64 (q+1))) fun c=>gd (a.toNat=a.toNat) (bd (e[a.toNat]?) fun h=>j (an e a.toNat (Bz.mk h.Code c.snd),c.fst,w64 (a+1)))
def yv(e:List Bz×Int):AA (Int×(List Bz)):=let (a,c):=e;some (c,a)
def VD(g:List Bz×Int×Int->AA (Int×List Bz))(j:List Bz×Int×Int):AA (Int×(List Bz)):=let (a,e,c):=j;br (decide (c<(e8 a))) (bd (at? a c) fun q=>bd (at? a c) fun h=>jn (yu g) (an a c.toNat (Bz.mk e h.Ids),e,c)) (jn yv (a,e))
def AHN(a:List Bz)(c:Int):AA (Int×(List Bz)):=A3 VD big (a,c,0)
def AP3:=gZ [.m (.l (.st 12)),.v .i] Cv B5 ["L64ud2oEjVfkjDS4IG3SnUGUk9kBe7gWWm8uTozGrEo4PRuif3cXvQ06LG293PVdBmHcGS71H"] [Xi] (Aq AHN)
def AG2(a:Bu)(h:Int):AA (Int×Bu):=bd (AHB a.Ac h) fun c=>bd (yb a.GL c.fst) fun e=>bd (AHN a.Cy e.fst) fun g=>some (g.fst,Bu.mk (A7.mk (AE.mk (Aa.mk c.snd.A2.AQ.AW a.Ac.A2.AQ.Cb a.Ac.A2.AQ.Room a.Ac.A2.AQ.BA a.Ac.A2.AQ.CG a.Ac.A2.AQ.B1 a.Ac.A2.AQ.Rest a.Ac.A2.AQ.Ca a.Ac.A2.AQ.Cx) a.Ac.A2.Now a.Ac.A2.Az c.snd.A2.AG c.snd.A2.AH c.snd.A2.BF c.snd.A2.BC) a.Ac.Bg a.Ac.Seq c.snd.Laid) e.snd g.snd a.G0)
def APf:=gZ [.m (.st 13),.v .i] Cv B5 ["RtH2mahayEGpKXjYBI0a4yaIciWbynpmCugeTNLJ"] [APp,ADm,AP3] (Aq AG2)
def yO(a:Int):AA Int:=some a
def cV(c:List Bz)(h:Int×Int->AA Int)(y:Int×Int):AA Int:=let (e,a):=y;br (decide (a<c.length)) (bd (at? c a) fun j=>br (j.Code != e) (some (-1)) (bd (at? c a) fun q=>bd (U0 q.Ids (w64 (e+1))) fun g=>br (decide (g<0)) (some (-1)) (h (g,w64 (a+1))))) (jn yO e)
def AG3(a:List Bz)(c:Int):AA Int:=A3 (cV a) big (c,0)
def APg:=gZ [.v (.l (.st 12)),.v .i] Cv B5 ["ILGnRQ81p1aPD1zMOzEx9lAxRIKwslag2Yk5Ky3aYHEVmwCw3qD9KATRSHtzZdo0lIsSmixRWehEJH"] [iH] (Aq AG3)
end Lv
set_option maxRecDepth 100000
namespace Lv
open Go (IntKind BinOp UnOp)
open Y (YF qn qf qt qr q1 qd qm qa qo ql qL qb qi qx qp qq qc qz qe qk qK qB qw qu qj Kp wn wf wt w1 sw sq sr wm wM wo wO wl wL wk wK wz wZ wx wX wb wB wi wI wr wR wq wQ we wE wc wY wj wh cv ca cx cn ce bl)
def yP(a:Bu)(h:Int):AA Int:=bd (AHI a.Ac h) fun c=>br (decide (c<0)) (some (-1)) (bd (yq a.GL c) fun e=>br (decide (e<0)) (some (-1)) (bd (AG3 a.Cy e) fun g=>br (decide (g<0)) (some (-1)) (some g)))
def APh:=gZ [.v (.st 13),.v .i] Cv B5 ["29x1C93JWCe7WYm327OGRqWMiCdKCuzHGftCMp953rWeiHr05t575LFPtshIIpnQVx"] [APx,ADn,APg] (Aq yP)
def yQ(a:A0):AA A0:=some a
def yR(g:A0)(h:Int×A0->AA A0)(j:Int×A0):AA A0:=let (a,c):=j;br (decide (a<g.Ao.length)) (bd (at? g.Ao a) fun e=>gd (0+e8 e<=lim) (gd (c.Ao.length+[[]++e].length<=lim) (h (w64 (a+1),A0.mk (c.Ao++[[]++e]))))) (jn yQ c)
def cW(a:A0):AA A0:=A3 (yR a) big (0,A0.mk [])
def rM:=gZ Xm (.ret [(.st 6)]) [.cell 2 (some 1)] ["2P4ZG2EVLOwVSnA6R2ctoegwU77cZc3zbOLec3OymDWuIXaQRi57klG2sAFST8NRAPekcmqI6nSRqX8D","f4ZRTa9BJLAVnVEZ"] [] (Bm cW)
def AG4(a:Ab):AA Ab:=bd (qD a.Row) fun c=>bd (cW a.Bq) fun e=>some (Ab.mk a.AW c e)
def APi:=gZ sC (.ret [(.st 7)]) [.cell 2 (some 7)] ["gUVrHRg1111dpOPRwcepqKOAMWq44T3inuGjenkjoBF"] [AJH,rM] (Bm AG4)
def aV:Y.YOp []:=.app 19 .i true (.tmp 16) (.tmp 18)
def Nl:Y.YOp []:=.app 15 (.st 2) true (.tmp 12) (.tmp 14)
def HI:Y.YOp []:=.call 7 ADW [] rfl [(.tmp 6)]
def AJl:Y.Bs []:=(.op 21 none [] (.st 15 (.tmp 3) (.tmp 24)) (.dr [5,6,7,8,9,10,11,12,13,14,15,16,17,18,19,20,21,22,23,24] .nil))
def Abn:=fun a=>((.op 20 none [5,8,10,13,17,21] (.alloc 3 EB) (.nl [(.cell 3 0,.i),(.cell 3 11,(.st 2)),(.cell 3 12,(.st 7)),(.cell 3 13,.i),(.cell 3 14,.i)] a)):Y.Bs [])
def AWm:Y.Bs []:=Abn AJl
def Abo:=fun a=>((.op 19 none [] (.build 24 EB [(0,9,(.tmp 7)),(9,1,(.tmp 9)),(10,1,(.tmp 11)),(11,1,(.tmp 15)),(13,1,(.tmp 19)),(14,1,(.tmp 23))]) (.nl [(.tmp 24 12,(.st 7))] a)):Y.Bs [])
def AWn:Y.Bs []:=Abo AWm
def AWo:Y.Bs []:=(.op 18 none [8,10] (.app 23 .i true (.tmp 20) (.tmp 22)) AWn)
def AWp:Y.Bs []:=Abo AJl
def tw:Y.Bs []:=(.op 18 none [8,10] (.app 23 .i true (.tmp 20) (.tmp 22)) AWp)
def AWq:Y.Bs []:=Abn tw
def Abq:=fun a b=>((.both 1 a b):Y.Bs [])
def AJm:Y.Bs []:=Abq AWo AWq
def Abr:=fun a b c=>((.op a none [5,8,10,13,17,21] (.CC b 0 .i []) c):Y.Bs [])
def AWr:Y.Bs []:=Abr 15 20 AJm
def AJn:Y.Bs []:=Abr 15 20 tw
def ATN:Y.Bs []:=Abn AJn
def ATO:Y.Bs []:=Abq AWr ATN
def ATP:Y.Bs []:=(.op 14 none [8,10,21] aV ATO)
def ATQ:Y.Bs []:=(.op 14 none [8,10,21] aV AJm)
def WV:Y.Bs []:=(.op 14 none [8,10,21] aV tw)
def ATR:Y.Bs []:=Abn WV
def jT:Y.Bs []:=Abq ATQ ATR
def ATS:Y.Bs []:=Abr 15 20 jT
def ATT:Y.Bs []:=(.op 14 none [8,10,21] aV AJn)
def ATU:Y.Bs []:=Abr 15 20 WV
def jU:Y.Bs []:=Abq ATT ATU
def ATV:Y.Bs []:=Abn jU
def ATW:Y.Bs []:=Abq ATS ATV
def AB1:Y.Bs []:=Abq ATP ATW
def ATX:Y.Bs []:=Abr 11 16 AB1
def ATY:Y.Bs []:=Abr 11 16 jT
def jV:Y.Bs []:=Abr 11 16 WV
def ATZ:Y.Bs []:=Abn jV
def AB2:Y.Bs []:=Abq ATY ATZ
def ATa:Y.Bs []:=Abr 15 20 AB2
def ATb:Y.Bs []:=Abr 11 16 jU
def ATc:Y.Bs []:=Abr 15 20 jV
def AB3:Y.Bs []:=Abq ATb ATc
def ATd:Y.Bs []:=Abn AB3
def ATe:Y.Bs []:=Abq ATa ATd
def ATf:Y.Bs []:=Abq ATX ATe
def Abt:=fun a=>((.op 10 none [8,10,17,21] Nl a):Y.Bs [])
def ATg:Y.Bs []:=Abt ATf
def ATh:Y.Bs []:=Abt AB1
def ATi:Y.Bs []:=Abt jT
def Ry:Y.Bs []:=Abt WV
def ATj:Y.Bs []:=Abn Ry
def WW:Y.Bs []:=Abq ATi ATj
def ATk:Y.Bs []:=Abr 15 20 WW
def ATl:Y.Bs []:=Abt jU
def ATm:Y.Bs []:=Abr 15 20 Ry
def WX:Y.Bs []:=Abq ATl ATm
def ATn:Y.Bs []:=Abn WX
def ATo:Y.Bs []:=Abq ATk ATn
def jW:Y.Bs []:=Abq ATh ATo
def ATp:Y.Bs []:=Abr 11 16 jW
def ATq:Y.Bs []:=Abt AB2
def ATr:Y.Bs []:=Abr 11 16 WW
def ATs:Y.Bs []:=Abt jV
def ATt:Y.Bs []:=Abr 11 16 Ry
def WY:Y.Bs []:=Abq ATs ATt
def ATu:Y.Bs []:=Abn WY
def ATv:Y.Bs []:=Abq ATr ATu
def jX:Y.Bs []:=Abq ATq ATv
def ATw:Y.Bs []:=Abr 15 20 jX
def ATx:Y.Bs []:=Abt AB3
def ATy:Y.Bs []:=Abr 11 16 WX
def ATz:Y.Bs []:=Abr 15 20 WY
def AT0:Y.Bs []:=Abq ATy ATz
def jY:Y.Bs []:=Abq ATx AT0
def AT1:Y.Bs []:=Abn jY
def AT2:Y.Bs []:=Abq ATw AT1
def AT3:Y.Bs []:=Abq ATp AT2
def AB4:Y.Bs []:=Abq ATg AT3
def Abu:=fun a=>((.op 7 none [5,8,10,13,17,21] (.CC 12 0 (.st 2) []) a):Y.Bs [])
def AT4:Y.Bs []:=Abu AB4
def AT5:Y.Bs []:=Abu jW
def AT6:Y.Bs []:=Abu WW
def WZ:Y.Bs []:=Abu Ry
def AT7:Y.Bs []:=Abn WZ
def jZ:Y.Bs []:=Abq AT6 AT7
def AT8:Y.Bs []:=Abr 15 20 jZ
def AT9:Y.Bs []:=Abu WX
def AUA:Y.Bs []:=Abr 15 20 WZ
def ja:Y.Bs []:=Abq AT9 AUA
def AUB:Y.Bs []:=Abn ja
def AUC:Y.Bs []:=Abq AT8 AUB
def AB5:Y.Bs []:=Abq AT5 AUC
def AUD:Y.Bs []:=Abr 11 16 AB5
def AUE:Y.Bs []:=Abu jX
def AUF:Y.Bs []:=Abr 11 16 jZ
def AUG:Y.Bs []:=Abu WY
def AUH:Y.Bs []:=Abr 11 16 WZ
def jc:Y.Bs []:=Abq AUG AUH
def AUI:Y.Bs []:=Abn jc
def AUJ:Y.Bs []:=Abq AUF AUI
def AB6:Y.Bs []:=Abq AUE AUJ
def AUK:Y.Bs []:=Abr 15 20 AB6
def AUL:Y.Bs []:=Abu jY
def AUM:Y.Bs []:=Abr 11 16 ja
def AUN:Y.Bs []:=Abr 15 20 jc
def AUO:Y.Bs []:=Abq AUM AUN
def AB7:Y.Bs []:=Abq AUL AUO
def AUP:Y.Bs []:=Abn AB7
def AUQ:Y.Bs []:=Abq AUK AUP
def AUR:Y.Bs []:=Abq AUD AUQ
def AUS:Y.Bs []:=Abq AT4 AUR
def Abv:=fun a=>((.op 2 none [8,10,13,17,21] HI a):Y.Bs [])
def ALP:Y.Bs []:=Abv AUS
def ALQ:Y.Bs []:=Abv AB4
def ALR:Y.Bs []:=Abv jW
def ALS:Y.Bs []:=Abv WW
def Sq:Y.Bs []:=Abv Ry
def ALT:Y.Bs []:=Abn Sq
def Yd:Y.Bs []:=Abq ALS ALT
def ALU:Y.Bs []:=Abr 15 20 Yd
def ALV:Y.Bs []:=Abv WX
def ALW:Y.Bs []:=Abr 15 20 Sq
def Ye:Y.Bs []:=Abq ALV ALW
def ALX:Y.Bs []:=Abn Ye
def ALY:Y.Bs []:=Abq ALU ALX
def nr:Y.Bs []:=Abq ALR ALY
def ALZ:Y.Bs []:=Abr 11 16 nr
def ALa:Y.Bs []:=Abv jX
def ALb:Y.Bs []:=Abr 11 16 Yd
def ALc:Y.Bs []:=Abv WY
def ALd:Y.Bs []:=Abr 11 16 Sq
def Yf:Y.Bs []:=Abq ALc ALd
def ALe:Y.Bs []:=Abn Yf
def ALf:Y.Bs []:=Abq ALb ALe
def nw:Y.Bs []:=Abq ALa ALf
def ALg:Y.Bs []:=Abr 15 20 nw
def ALh:Y.Bs []:=Abv jY
def ALi:Y.Bs []:=Abr 11 16 Ye
def ALj:Y.Bs []:=Abr 15 20 Yf
def ALk:Y.Bs []:=Abq ALi ALj
def nx:Y.Bs []:=Abq ALh ALk
def ALl:Y.Bs []:=Abn nx
def ALm:Y.Bs []:=Abq ALg ALl
def ALn:Y.Bs []:=Abq ALZ ALm
def ALo:Y.Bs []:=Abq ALQ ALn
def ALp:Y.Bs []:=Abu ALo
def ALq:Y.Bs []:=Abv AB5
def ALr:Y.Bs []:=Abu nr
def ALs:Y.Bs []:=Abv jZ
def ALt:Y.Bs []:=Abu Yd
def ALu:Y.Bs []:=Abv WZ
def ALv:Y.Bs []:=Abu Sq
def Yg:Y.Bs []:=Abq ALu ALv
def ALw:Y.Bs []:=Abn Yg
def ALx:Y.Bs []:=Abq ALt ALw
def ny:Y.Bs []:=Abq ALs ALx
def ALy:Y.Bs []:=Abr 15 20 ny
def ALz:Y.Bs []:=Abv ja
def AL0:Y.Bs []:=Abu Ye
def AL1:Y.Bs []:=Abr 15 20 Yg
def AL2:Y.Bs []:=Abq AL0 AL1
def nz:Y.Bs []:=Abq ALz AL2
def AL3:Y.Bs []:=Abn nz
def AL4:Y.Bs []:=Abq ALy AL3
def AL5:Y.Bs []:=Abq ALr AL4
def AL6:Y.Bs []:=Abq ALq AL5
def AL7:Y.Bs []:=Abr 11 16 AL6
def AL8:Y.Bs []:=Abv AB6
def AL9:Y.Bs []:=Abu nw
def AMA:Y.Bs []:=Abr 11 16 ny
def AMB:Y.Bs []:=Abv jc
def AMC:Y.Bs []:=Abu Yf
def AMD:Y.Bs []:=Abr 11 16 Yg
def AME:Y.Bs []:=Abq AMC AMD
def n0:Y.Bs []:=Abq AMB AME
def AMF:Y.Bs []:=Abn n0
def AMG:Y.Bs []:=Abq AMA AMF
def AMH:Y.Bs []:=Abq AL9 AMG
def AMI:Y.Bs []:=Abq AL8 AMH
def AMJ:Y.Bs []:=Abr 15 20 AMI
def AMK:Y.Bs []:=Abv AB7
def AML:Y.Bs []:=Abu nx
def AMM:Y.Bs []:=Abr 11 16 nz
def AMN:Y.Bs []:=Abr 15 20 n0
def AMO:Y.Bs []:=Abq AMM AMN
def AMP:Y.Bs []:=Abq AML AMO
def AMQ:Y.Bs []:=Abq AMK AMP
def AMR:Y.Bs []:=Abn AMQ
def AMS:Y.Bs []:=Abq AMJ AMR
def AMT:Y.Bs []:=Abq AL7 AMS
def AMU:Y.Bs []:=Abq ALp AMT
def AMV:Y.Bs []:=Abq ALP AMU
def AMW:Y.Bs []:=(.op 17 none [] (.ld 22 none (.tmp 21)) AMV)
def AMX:Y.Bs []:=(.op 16 none [] (.fa 21 14 (.tmp 1)) AMW)
def AMY:Y.Bs []:=(.op 13 none [] (.ld 18 none (.tmp 17)) AMX)
def AMZ:Y.Bs []:=(.op 12 none [] (.fa 17 13 (.tmp 1)) AMY)
def AMa:Y.Bs []:=(.op 9 none [] (.ld 14 none (.tmp 13)) AMZ)
def AMb:Y.Bs []:=(.op 8 none [] (.fa 13 11 (.tmp 1)) AMa)
def AMc:Y.Bs []:=(.op 6 none [] (.ld 11 none (.tmp 10)) AMb)
def AMd:Y.Bs []:=(.op 5 none [] (.fa 10 10 (.tmp 1)) AMc)
def AMe:Y.Bs []:=(.op 4 none [] (.ld 9 none (.tmp 8)) AMd)
def AMf:Y.Bs []:=(.op 3 none [] (.fa 8 9 (.tmp 1)) AMe)
def AMg:Y.Bs []:=(.op 1 none [] (.ld 6 (some 9) (.tmp 5)) AMf)
def AMh:Y.Bs []:=(.op 0 none [] (.fa 5 0 (.tmp 1)) AMg)
def AaZ:YF:=⟨[],[.v (.st 8)],[],.ret [(.st 8)],[.cell 2 (some 15)],sq [qu 1 0,.alloc 2 EB,.T7 [(.cell 2 0,.i),(.cell 2 11,(.st 2)),(.cell 2 12,(.st 7)),(.cell 2 13,.i),(.cell 2 14,.i)]] [1,2] (.seq (.Tm AMh [1,2,3]) (.join [cx 3 (.st 8)] (sq [qK 4 0] (Kp 30) (bl 0 [cv 4 .i,cx 3 (.st 8)] (.seq (sw 25 [wm 4,wo 12 1,wL,wZ,wB .lss 25] (Kp 536870942) (ce 29 (Kp 30) [2,3] 0)) (.seq (.block 1 (.Tm (qd 0 [wn 32 [wo 12 3,wL,wo 12 1,wL,wm 4,wE (.st 7) 35,wK 7]] (.op 7 none [32] (.call 39 APi [] rfl [(.tmp 38)]) (.op 8 none [32] (.CC 40 1 (.st 7) [(0,(.tmp 39))]) (qd 9 [wn 41 [wh (.app · (.st 7) false (.tmp 33) (.tmp 40)),wo 12 3],qn [qw 1 42 41]] .nil)))) [1,2,3,4])) (qr [wn 30 [wm 4,wI .add 1],qn [qa 4 31]] (Kp 30)))))) (sq [qL 43 15 3,qw 15 2 43] [2] .ret)))⟩
def C7(a:AE)(c:Aa)(X2:AA AE):AA AE:=gd (0+a.BC.length<=lim) (CU c c (ev6 a.Now a.Az ([]++a.AG) ([]:List Ab) ([]++a.BF) ([]++a.BC) X2))
def CT(a:AE)(c:Aa)(X4:AA AE):AA AE:=gd (0+a.BF.length<=lim) (gd (0+a.BC.length<=lim) (CU c c (ev6 a.Now a.Az ([]++a.AG) ([]:List Ab) ([]++a.BF) ([]++a.BC) X4)))
def yS(a:AE)(c:Aa)(X5:AA AE):AA AE:=gd (0+a.BF.length<=lim) (gd (0+a.BC.length<=lim) (alt (CT a c) (CU c c (ev6 a.Now a.Az ([]++a.AG) ([]:List Ab) ([]++a.BF) ([]++a.BC) X5))))
def LK(a:AE)(c:Aa)(X3:AA AE):AA AE:=gd (0+a.BF.length<=lim) (gd (0+a.BC.length<=lim) (alt (C7 a c) (alt (CT a c) (alt (yS a c) (CU c c (ev6 a.Now a.Az ([]++a.AG) ([]:List Ab) ([]++a.BF) ([]++a.BC) X3))))))
def yT(a:AE)(c:Aa)(X7:AA AE):AA AE:=gd (0+a.BF.length<=lim) (gd (0+a.BC.length<=lim) (alt (CT a c) (alt (CT a c) (CU c c (ev6 a.Now a.Az ([]++a.AG) ([]:List Ab) ([]++a.BF) ([]++a.BC) X7)))))
def cX(a:AE)(c:Aa)(X6:AA AE):AA AE:=gd (0+a.BF.length<=lim) (gd (0+a.BC.length<=lim) (alt (C7 a c) (alt (CT a c) (alt (CT a c) (alt (yT a c) (CU c c (ev6 a.Now a.Az ([]++a.AG) ([]:List Ab) ([]++a.BF) ([]++a.BC) X6)))))))
def Cz(a:AE)(c:Aa)(X10:AA AE):AA AE:=gd (0+a.AG.length<=lim) (gd (0+a.BF.length<=lim) (gd (0+a.BC.length<=lim) (CU c c (ev6 a.Now a.Az ([]++a.AG) ([]:List Ab) ([]++a.BF) ([]++a.BC) X10))))
def mA(a:AE)(c:Aa)(X11:AA AE):AA AE:=gd (0+a.AG.length<=lim) (gd (0+a.BF.length<=lim) (gd (0+a.BC.length<=lim) (alt (CT a c) (alt (Cz a c) (CU c c (ev6 a.Now a.Az ([]++a.AG) ([]:List Ab) ([]++a.BF) ([]++a.BC) X11))))))
def Od(a:AE)(c:Aa)(X9:AA AE):AA AE:=gd (0+a.AG.length<=lim) (gd (0+a.BF.length<=lim) (gd (0+a.BC.length<=lim) (alt (C7 a c) (alt (CT a c) (alt (Cz a c) (alt (mA a c) (CU c c (ev6 a.Now a.Az ([]++a.AG) ([]:List Ab) ([]++a.BF) ([]++a.BC) X9))))))))
def XK(a:AE)(c:Aa)(X14:AA AE):AA AE:=gd (0+a.AG.length<=lim) (gd (0+a.BF.length<=lim) (gd (0+a.BC.length<=lim) (alt (Cz a c) (CU c c (ev6 a.Now a.Az ([]++a.AG) ([]:List Ab) ([]++a.BF) ([]++a.BC) X14)))))
def MZ(a:AE)(c:Aa)(X13:AA AE):AA AE:=gd (0+a.AG.length<=lim) (gd (0+a.BF.length<=lim) (gd (0+a.BC.length<=lim) (alt (C7 a c) (alt (CT a c) (alt (Cz a c) (alt (XK a c) (CU c c (ev6 a.Now a.Az ([]++a.AG) ([]:List Ab) ([]++a.BF) ([]++a.BC) X13))))))))
def Ma(a:AE)(c:Aa)(X16:AA AE):AA AE:=gd (0+a.AG.length<=lim) (gd (0+a.BF.length<=lim) (gd (0+a.BC.length<=lim) (alt (CT a c) (alt (Cz a c) (alt (XK a c) (CU c c (ev6 a.Now a.Az ([]++a.AG) ([]:List Ab) ([]++a.BF) ([]++a.BC) X16)))))))
def mC(a:AE)(c:Aa)(X15:AA AE):AA AE:=gd (0+a.AG.length<=lim) (gd (0+a.BF.length<=lim) (gd (0+a.BC.length<=lim) (alt (CT a c) (alt (CT a c) (alt (Ma a c) (CU c c (ev6 a.Now a.Az ([]++a.AG) ([]:List Ab) ([]++a.BF) ([]++a.BC) X15)))))))
def mB(a:AE)(c:Aa)(X12:AA AE):AA AE:=gd (0+a.AG.length<=lim) (gd (0+a.BF.length<=lim) (gd (0+a.BC.length<=lim) (alt (C7 a c) (alt (CT a c) (alt (CT a c) (alt (MZ a c) (alt (mC a c) (CU c c (ev6 a.Now a.Az ([]++a.AG) ([]:List Ab) ([]++a.BF) ([]++a.BC) X12)))))))))
def cY(a:AE)(c:Aa)(X8:AA AE):AA AE:=gd (0+a.AG.length<=lim) (gd (0+a.BF.length<=lim) (gd (0+a.BC.length<=lim) (alt (C7 a c) (alt (C7 a c) (alt (LK a c) (alt (Od a c) (alt (mB a c) (CU c c (ev6 a.Now a.Az ([]++a.AG) ([]:List Ab) ([]++a.BF) ([]++a.BC) X8)))))))))
def mE(a:AE)(c:Aa)(X19:AA AE):AA AE:=gd (0+a.AG.length<=lim) (gd (0+a.BF.length<=lim) (gd (0+a.BC.length<=lim) (alt (CT a c) (alt (Cz a c) (alt (Cz a c) (CU c c (ev6 a.Now a.Az ([]++a.AG) ([]:List Ab) ([]++a.BF) ([]++a.BC) X19)))))))
def XL(a:AE)(c:Aa)(X18:AA AE):AA AE:=gd (0+a.AG.length<=lim) (gd (0+a.BF.length<=lim) (gd (0+a.BC.length<=lim) (alt (C7 a c) (alt (CT a c) (alt (Cz a c) (alt (Cz a c) (alt (mE a c) (CU c c (ev6 a.Now a.Az ([]++a.AG) ([]:List Ab) ([]++a.BF) ([]++a.BC) X18)))))))))
def XN(a:AE)(c:Aa)(X22:AA AE):AA AE:=gd (0+a.AG.length<=lim) (gd (0+a.BF.length<=lim) (gd (0+a.BC.length<=lim) (alt (Cz a c) (alt (Cz a c) (CU c c (ev6 a.Now a.Az ([]++a.AG) ([]:List Ab) ([]++a.BF) ([]++a.BC) X22))))))
def XM(a:AE)(c:Aa)(X21:AA AE):AA AE:=gd (0+a.AG.length<=lim) (gd (0+a.BF.length<=lim) (gd (0+a.BC.length<=lim) (alt (C7 a c) (alt (CT a c) (alt (Cz a c) (alt (Cz a c) (alt (XN a c) (CU c c (ev6 a.Now a.Az ([]++a.AG) ([]:List Ab) ([]++a.BF) ([]++a.BC) X21)))))))))
def XO(a:AE)(c:Aa)(X24:AA AE):AA AE:=gd (0+a.AG.length<=lim) (gd (0+a.BF.length<=lim) (gd (0+a.BC.length<=lim) (alt (CT a c) (alt (Cz a c) (alt (Cz a c) (alt (XN a c) (CU c c (ev6 a.Now a.Az ([]++a.AG) ([]:List Ab) ([]++a.BF) ([]++a.BC) X24))))))))
def mG(a:AE)(c:Aa)(X23:AA AE):AA AE:=gd (0+a.AG.length<=lim) (gd (0+a.BF.length<=lim) (gd (0+a.BC.length<=lim) (alt (CT a c) (alt (CT a c) (alt (Ma a c) (alt (XO a c) (CU c c (ev6 a.Now a.Az ([]++a.AG) ([]:List Ab) ([]++a.BF) ([]++a.BC) X23))))))))
def mF(a:AE)(c:Aa)(X20:AA AE):AA AE:=gd (0+a.AG.length<=lim) (gd (0+a.BF.length<=lim) (gd (0+a.BC.length<=lim) (alt (C7 a c) (alt (CT a c) (alt (CT a c) (alt (MZ a c) (alt (XM a c) (alt (mG a c) (CU c c (ev6 a.Now a.Az ([]++a.AG) ([]:List Ab) ([]++a.BF) ([]++a.BC) X20))))))))))
def mD(a:AE)(c:Aa)(X17:AA AE):AA AE:=gd (0+a.AG.length<=lim) (gd (0+a.BF.length<=lim) (gd (0+a.BC.length<=lim) (alt (C7 a c) (alt (C7 a c) (alt (LK a c) (alt (Od a c) (alt (XL a c) (alt (mF a c) (CU c c (ev6 a.Now a.Az ([]++a.AG) ([]:List Ab) ([]++a.BF) ([]++a.BC) X17))))))))))
def Ht(a:AE)(c:Aa)(X31:AA AE):AA AE:=bd (GQ a.AQ) fun e=>gd (0+a.AG.length<=lim) (gd (0+a.BF.length<=lim) (gd (0+a.BC.length<=lim) (CU c e (ev6 a.Now a.Az ([]++a.AG) ([]:List Ab) ([]++a.BF) ([]++a.BC) X31))))
def mJ(a:AE)(e:Aa)(X33:AA AE):AA AE:=bd (GQ a.AQ) fun c=>gd (0+a.AG.length<=lim) (gd (0+a.BF.length<=lim) (gd (0+a.BC.length<=lim) (alt (CT a c) (alt (Cz a c) (alt (Ht a c) (CU e c (ev6 a.Now a.Az ([]++a.AG) ([]:List Ab) ([]++a.BF) ([]++a.BC) X33)))))))
def XP(a:AE)(e:Aa)(X29:AA AE):AA AE:=bd (GQ a.AQ) fun c=>gd (0+a.AG.length<=lim) (gd (0+a.BF.length<=lim) (gd (0+a.BC.length<=lim) (alt (C7 a c) (alt (CT a c) (alt (Cz a c) (alt (Ht a c) (alt (mJ a c) (CU e c (ev6 a.Now a.Az ([]++a.AG) ([]:List Ab) ([]++a.BF) ([]++a.BC) X29)))))))))
def XR(a:AE)(e:Aa)(X39:AA AE):AA AE:=bd (GQ a.AQ) fun c=>gd (0+a.AG.length<=lim) (gd (0+a.BF.length<=lim) (gd (0+a.BC.length<=lim) (alt (Cz a c) (alt (Ht a c) (CU e c (ev6 a.Now a.Az ([]++a.AG) ([]:List Ab) ([]++a.BF) ([]++a.BC) X39))))))
def XQ(a:AE)(e:Aa)(X37:AA AE):AA AE:=bd (GQ a.AQ) fun c=>gd (0+a.AG.length<=lim) (gd (0+a.BF.length<=lim) (gd (0+a.BC.length<=lim) (alt (C7 a c) (alt (CT a c) (alt (Cz a c) (alt (Ht a c) (alt (XR a c) (CU e c (ev6 a.Now a.Az ([]++a.AG) ([]:List Ab) ([]++a.BF) ([]++a.BC) X37)))))))))
def XS(a:AE)(e:Aa)(X43:AA AE):AA AE:=bd (GQ a.AQ) fun c=>gd (0+a.AG.length<=lim) (gd (0+a.BF.length<=lim) (gd (0+a.BC.length<=lim) (alt (CT a c) (alt (Cz a c) (alt (Ht a c) (alt (XR a c) (CU e c (ev6 a.Now a.Az ([]++a.AG) ([]:List Ab) ([]++a.BF) ([]++a.BC) X43))))))))
def mL(a:AE)(e:Aa)(X41:AA AE):AA AE:=bd (GQ a.AQ) fun c=>gd (0+a.AG.length<=lim) (gd (0+a.BF.length<=lim) (gd (0+a.BC.length<=lim) (alt (CT a c) (alt (CT a c) (alt (Ma a c) (alt (XS a c) (CU e c (ev6 a.Now a.Az ([]++a.AG) ([]:List Ab) ([]++a.BF) ([]++a.BC) X41))))))))
def mK(a:AE)(e:Aa)(X35:AA AE):AA AE:=bd (GQ a.AQ) fun c=>gd (0+a.AG.length<=lim) (gd (0+a.BF.length<=lim) (gd (0+a.BC.length<=lim) (alt (C7 a c) (alt (CT a c) (alt (CT a c) (alt (MZ a c) (alt (XQ a c) (alt (mL a c) (CU e c (ev6 a.Now a.Az ([]++a.AG) ([]:List Ab) ([]++a.BF) ([]++a.BC) X35))))))))))
def mI(a:AE)(e:Aa)(X27:AA AE):AA AE:=bd (GQ a.AQ) fun c=>gd (0+a.AG.length<=lim) (gd (0+a.BF.length<=lim) (gd (0+a.BC.length<=lim) (alt (C7 a c) (alt (C7 a c) (alt (LK a c) (alt (Od a c) (alt (XP a c) (alt (mK a c) (CU e c (ev6 a.Now a.Az ([]++a.AG) ([]:List Ab) ([]++a.BF) ([]++a.BC) X27))))))))))
def SS(a:AE)(e:Aa)(X53:AA AE):AA AE:=bd (GQ a.AQ) fun c=>gd (0+a.AG.length<=lim) (gd (0+a.BF.length<=lim) (gd (0+a.BC.length<=lim) (alt (Ht a c) (CU e c (ev6 a.Now a.Az ([]++a.AG) ([]:List Ab) ([]++a.BF) ([]++a.BC) X53)))))
def XT(a:AE)(e:Aa)(X51:AA AE):AA AE:=bd (GQ a.AQ) fun c=>gd (0+a.AG.length<=lim) (gd (0+a.BF.length<=lim) (gd (0+a.BC.length<=lim) (alt (C7 a c) (alt (CT a c) (alt (Cz a c) (alt (Ht a c) (alt (SS a c) (CU e c (ev6 a.Now a.Az ([]++a.AG) ([]:List Ab) ([]++a.BF) ([]++a.BC) X51)))))))))
def XU(a:AE)(e:Aa)(X57:AA AE):AA AE:=bd (GQ a.AQ) fun c=>gd (0+a.AG.length<=lim) (gd (0+a.BF.length<=lim) (gd (0+a.BC.length<=lim) (alt (CT a c) (alt (Cz a c) (alt (Ht a c) (alt (SS a c) (CU e c (ev6 a.Now a.Az ([]++a.AG) ([]:List Ab) ([]++a.BF) ([]++a.BC) X57))))))))
def mP(a:AE)(e:Aa)(X55:AA AE):AA AE:=bd (GQ a.AQ) fun c=>gd (0+a.AG.length<=lim) (gd (0+a.BF.length<=lim) (gd (0+a.BC.length<=lim) (alt (CT a c) (alt (Cz a c) (alt (Cz a c) (alt (XU a c) (CU e c (ev6 a.Now a.Az ([]++a.AG) ([]:List Ab) ([]++a.BF) ([]++a.BC) X55))))))))
def mO(a:AE)(e:Aa)(X49:AA AE):AA AE:=bd (GQ a.AQ) fun c=>gd (0+a.AG.length<=lim) (gd (0+a.BF.length<=lim) (gd (0+a.BC.length<=lim) (alt (C7 a c) (alt (CT a c) (alt (Cz a c) (alt (Cz a c) (alt (XT a c) (alt (mP a c) (CU e c (ev6 a.Now a.Az ([]++a.AG) ([]:List Ab) ([]++a.BF) ([]++a.BC) X49))))))))))
def mN(a:AE)(e:Aa)(X47:AA AE):AA AE:=bd (GQ a.AQ) fun c=>gd (0+a.AG.length<=lim) (gd (0+a.BF.length<=lim) (gd (0+a.BC.length<=lim) (alt (C7 a c) (alt (C7 a c) (alt (LK a c) (alt (Od a c) (alt (XP a c) (alt (mO a c) (CU e c (ev6 a.Now a.Az ([]++a.AG) ([]:List Ab) ([]++a.BF) ([]++a.BC) X47))))))))))
def mT(a:AE)(e:Aa)(X67:AA AE):AA AE:=bd (GQ a.AQ) fun c=>gd (0+a.AG.length<=lim) (gd (0+a.BF.length<=lim) (gd (0+a.BC.length<=lim) (alt (Cz a c) (alt (Ht a c) (alt (SS a c) (CU e c (ev6 a.Now a.Az ([]++a.AG) ([]:List Ab) ([]++a.BF) ([]++a.BC) X67)))))))
def XV(a:AE)(e:Aa)(X65:AA AE):AA AE:=bd (GQ a.AQ) fun c=>gd (0+a.AG.length<=lim) (gd (0+a.BF.length<=lim) (gd (0+a.BC.length<=lim) (alt (Cz a c) (alt (Cz a c) (alt (mT a c) (CU e c (ev6 a.Now a.Az ([]++a.AG) ([]:List Ab) ([]++a.BF) ([]++a.BC) X65)))))))
def mS(a:AE)(e:Aa)(X63:AA AE):AA AE:=bd (GQ a.AQ) fun c=>gd (0+a.AG.length<=lim) (gd (0+a.BF.length<=lim) (gd (0+a.BC.length<=lim) (alt (C7 a c) (alt (CT a c) (alt (Cz a c) (alt (Cz a c) (alt (XT a c) (alt (XV a c) (CU e c (ev6 a.Now a.Az ([]++a.AG) ([]:List Ab) ([]++a.BF) ([]++a.BC) X63))))))))))
def mR(a:AE)(e:Aa)(X61:AA AE):AA AE:=bd (GQ a.AQ) fun c=>gd (0+a.AG.length<=lim) (gd (0+a.BF.length<=lim) (gd (0+a.BC.length<=lim) (alt (C7 a c) (alt (CT a c) (alt (CT a c) (alt (MZ a c) (alt (XQ a c) (alt (mS a c) (CU e c (ev6 a.Now a.Az ([]++a.AG) ([]:List Ab) ([]++a.BF) ([]++a.BC) X61))))))))))
def mW(a:AE)(e:Aa)(X73:AA AE):AA AE:=bd (GQ a.AQ) fun c=>gd (0+a.AG.length<=lim) (gd (0+a.BF.length<=lim) (gd (0+a.BC.length<=lim) (alt (CT a c) (alt (Cz a c) (alt (Cz a c) (alt (XU a c) (alt (XV a c) (CU e c (ev6 a.Now a.Az ([]++a.AG) ([]:List Ab) ([]++a.BF) ([]++a.BC) X73)))))))))
def mV(a:AE)(e:Aa)(X71:AA AE):AA AE:=bd (GQ a.AQ) fun c=>gd (0+a.AG.length<=lim) (gd (0+a.BF.length<=lim) (gd (0+a.BC.length<=lim) (alt (CT a c) (alt (CT a c) (alt (Ma a c) (alt (XS a c) (alt (mW a c) (CU e c (ev6 a.Now a.Az ([]++a.AG) ([]:List Ab) ([]++a.BF) ([]++a.BC) X71)))))))))
def mU(a:AE)(e:Aa)(X69:AA AE):AA AE:=bd (GQ a.AQ) fun c=>gd (0+a.AG.length<=lim) (gd (0+a.BF.length<=lim) (gd (0+a.BC.length<=lim) (alt (CT a c) (alt (CT a c) (alt (Ma a c) (alt (XO a c) (alt (mV a c) (CU e c (ev6 a.Now a.Az ([]++a.AG) ([]:List Ab) ([]++a.BF) ([]++a.BC) X69)))))))))
def mQ(c:AE)(e:Aa)(X59:AA AE):AA AE:=bd (GQ c.AQ) fun a=>gd (0+c.AG.length<=lim) (gd (0+c.BF.length<=lim) (gd (0+c.BC.length<=lim) (alt (C7 c a) (alt (CT c a) (alt (CT c a) (alt (MZ c a) (alt (XM c a) (alt (mR c a) (alt (mU c a) (CU e a (ev6 c.Now c.Az ([]++c.AG) ([]:List Ab) ([]++c.BF) ([]++c.BC) X59)))))))))))
def mM(c:AE)(e:Aa)(X45:AA AE):AA AE:=bd (GQ c.AQ) fun a=>gd (0+c.AG.length<=lim) (gd (0+c.BF.length<=lim) (gd (0+c.BC.length<=lim) (alt (C7 c a) (alt (C7 c a) (alt (LK c a) (alt (Od c a) (alt (XL c a) (alt (mN c a) (alt (mQ c a) (CU e a (ev6 c.Now c.Az ([]++c.AG) ([]:List Ab) ([]++c.BF) ([]++c.BC) X45)))))))))))
def mH(c:AE)(e:Aa)(X25:AA AE):AA AE:=bd (GQ c.AQ) fun a=>gd (0+c.AG.length<=lim) (gd (0+c.BF.length<=lim) (gd (0+c.BC.length<=lim) (alt (C7 c a) (alt (C7 c a) (alt (LK c a) (alt (cX c a) (alt (cY c a) (alt (mI c a) (alt (mM c a) (CU e a (ev6 c.Now c.Az ([]++c.AG) ([]:List Ab) ([]++c.BF) ([]++c.BC) X25)))))))))))
def mX(a:AE):AA AE:=some a
def XW(j:AE)(g:Int×AE->AA AE)(q:Int×AE):AA AE:=let (c,a):=q;br (decide (c<j.AH.length)) (bd (at? j.AH c) fun h=>bd (AG4 h) fun e=>gd (a.AH.length+[e].length<=lim) (g (w64 (c+1),AE.mk a.AQ a.Now a.Az a.AG (a.AH++[e]) a.BF a.BC))) (jn mX a)
def Mz(a:AE):AA AE:=bd (GQ a.AQ) fun c=>gd (0+a.AG.length<=lim) (gd (0+a.BF.length<=lim) (gd (0+a.BC.length<=lim) (alt (C7 a c) (alt (C7 a c) (alt (LK a c) (alt (cX a c) (alt (cY a c) (alt (mD a c) (alt (mH a c) (A3 (XW a) big (0,AE.mk c a.Now a.Az ([]++a.AG) [] ([]++a.BF) ([]++a.BC))))))))))))
def La:GF:=AaZ.EF (Bm Mz)
def TE(a:A7):AA A7:=bd (Mz a.A2) fun c=>gd (0+a.Laid.length<=lim) (bd (Mz a.A2) fun e=>gd (0+a.Laid.length<=lim) (JR c e (um a.Bg a.Bg (ev2 a.Seq ([]++a.Laid) (some (A7.mk c a.Bg a.Seq ([]++a.Laid)))))))
def Xj:=gZ Xn (.ret [(.st 11)]) [.cell 2 (some 23)] ["2XqcGRyXV364tuuS65JcnT6tf4jSZljOzNkqizqyhAbWtrnd9viwITX1fbJ9N5JRCCXm5cYKA8kt1Rrz","6SFwgDVkEOmwh7j2KJOjv052HwkRZrpqPAz"] [La] (Bm TE)
def yU(a:Bp):AA (List UInt8):=bd (Uk a) fun c=>br (!c) (some []) (br (a.Kind==1) (bd (Y4 ([a.Kind,a.Id,a.AY,w64 (a.Bi+1),a.BA,a.Co])) fun e=>some e) (br (a.Kind==3) (bd (Y4 ([a.Kind,a.AY,a.BA])) fun g=>some g) (br (a.Kind==6) (bd (Y4 [a.Kind]) fun h=>some h) (bd (Y4 ([a.Kind,a.Id])) fun j=>some j))))
def ADi:=gZ AJK N2 DM ["VscX5h3bc3iEOIKe566TZptL05EFJXuyFkwArfZyrMwBHaBqq8YZ9ifZKUEUkHYpe2G7nDvy4UBOCvaT","iSstLCZpgmmWnmCZG62u13aD99YPVFAcACxJ0VkOdMdGnc6Dvri"] [iD,ADc] (Bm yU)
def cZ(h:Int)(a:List UInt8)(j:Bool):AA (List UInt8):=br j (some []) (bd (cB h) fun c=>gd (e8 c+a.length<=OE) (bd (xj (c++a)) fun q=>bd (xm q) fun e=>gd (e8 e+(c++a).length<=OE) (bd (cB (↑(e++(c++a)).length:Int)) fun g=>gd (e8 g+(e++(c++a)).length<=OE) (some (g++(e++(c++a)))))))
def yV(a:Int)(c:List UInt8):AA (List UInt8):=bd (EE a 1 1000000) fun e=>br (!e) (jn (cZ a c) true) (bd (EE (↑c.length:Int) 1 60) fun g=>jn (cZ a c) (!g))
def ADj:=gZ [.v .i,.v .s] N2 B5 ["7X768ld7XFTdVy52oGAGWVZ76rg2cm3tVtggfxNQ8WzIYlRHUUYTrfjunq0Sfb2kQfE1dkZM"] [G3,ADb,ADd,ADe] (Aq yV) [.ML 22 (.tmp 21)]
def yW(c:Int)(e:Bp):AA (List UInt8):=bd (yU e) fun a=>br (a==[]) (some []) (bd (yV c a) fun g=>some g)
def APj:=gZ [.v .i,.v (.st 0)] N2 B5 ["c1oMvFFRumFykYpcDWpLWemTKfJJzd5hV"] [ADi,ADj] (Aq yW)
def dL(a:Bl)(c:List UInt8)(e:Bool):AA (Bl×Bool):=br e (some (a,false)) (gd (a.Data.length+c.length<=OE) (some (Bl.mk (a.Data++c) a.Safe,true)))
def dK(a:Bl)(c:List UInt8):AA (Bl×Bool):=bd (Qa a) fun e=>br (!e) (jn (dL a c) true) (jn (dL a c) (decide ((↑c.length:Int)>w64 (20000-(↑a.Data.length:Int)))))
def ADq:=gZ [.v (.st 9),.v .s] Xu Xz ["Bwibg2G1hmH9YipruZXAAlDViPjQEBBUmktzyqKE6BksorSEogsokYuyF8UKzXUaX"] [RS] (Aq dK)
def dM(e:A7)(c:Bp)(a:A7)(h:Bl×Bool)(g:Bool):AA (A7×Int):=br g (some (a,24)) (gd (a.Laid.length+[c].length<=lim) (some (A7.mk a.A2 (Bk.mk h.fst a.Bg.EZ a.Bg.Odd) (w64 (e.Seq+1)) (a.Laid++[c]),0)))
def AHR(a:A7)(e:Bp):AA (A7×Int):=bd (TE a) fun g=>bd (Y1 a) fun y=>br (!y) (some (g,21)) (bd (Uk e) fun B=>br (!B) (some (g,22)) (br (a.Seq==1000000) (some (g,23)) (bd (yW (w64 (a.Seq+1)) e) fun h=>bd (dK a.Bg.Log h) fun c=>bd (dK a.Bg.Log h) fun j=>eqv c.snd j.snd (OI c.fst j.fst (bd (yW (w64 (a.Seq+1)) e) fun E=>bd (dK a.Bg.Log E) fun q=>eqv c.snd q.snd (OI c.fst q.fst (br ((↑a.Laid.length:Int)==8) (jn (dM a e g c) true) (jn (dM a e g c) (!c.snd)))))))))
def AP8:=gZ [.v (.st 11),.v (.st 0)] (.ret [(.st 11),.i]) YA ["9zPNde2I4UbFDLCZB5iXCFU094za3zp3NRs5VvUmdKaAoBx44mOMrGEaVMhVnGPiezh66lqcBxqpuk5x","KIL6wCswMEXx0ESGl0dYgISsK2zRMa8TcyxV1NaLUcn4R7Xyr87NbwREXvMnPzBaCel4KhXzFjiqCFk4","OcmCygPFVrLrOMapTO2rGVNPDdlAQU2YIEePJGD84kfbfwzpsOienrWoKhNoFcgtyWGcANeMaGhtdAmQ","JbiYPvrUgEJ6JkjsFuAybiLsvvYqydityHDsUjX7igVA2O"] [Xj,Xe,iD,APj,ADq] (Aq AHR)
def VI(a:List Af):AA (List Af):=gd (0+a.length<=lim) (some a)
def rP:=gZ sA sH DM ["3mcOc2HuP05YGy"] [] (Bm VI)
def y5(a:A0):AA A0:=some a
def y6(g:A0)(h:Int×A0->AA A0)(j:Int×A0):AA A0:=let (a,c):=j;br (decide (a<g.Ao.length)) (bd (at? g.Ao a) fun e=>gd (0+e8 e<=lim) (gd (c.Ao.length+[e].length<=lim) (h (w64 (a+1),A0.mk (c.Ao++[e]))))) (jn y5 c)
def dN(a:A0):AA A0:=A3 (y6 a) big (0,A0.mk [])
def rQ:=gZ Xm (.ret [(.st 6)]) [.cell 2 (some 1)] ["b79lUcvaCNUyiU1jEJpvJokOuygTcnuhGZXeJah3sA7qztq3qFE40hG0Lx3CEptZp7T9mRVeK6bOT6OS","5qB4"] [] (Bm dN)
def AHS(a:Ab):AA Ab:=bd (VI a.Row) fun c=>bd (dN a.Bq) fun e=>some (Ab.mk a.AW c e)
def AP9:=gZ sC (.ret [(.st 7)]) [.cell 2 (some 7)] ["gUVrHRg1111dpOPRwcepqKOAMWq44T3inuGjenkjoBF"] [rP,rQ] (Bm AHS)
def y7(a:AE):AA AE:=some a
def dO(j:AE)(g:Int×AE->AA AE)(q:Int×AE):AA AE:=let (c,a):=q;br (decide (c<j.AH.length)) (bd (at? j.AH c) fun h=>bd (AHS h) fun e=>gd (a.AH.length+[e].length<=lim) (g (w64 (c+1),AE.mk a.AQ a.Now a.Az a.AG (a.AH++[e]) a.BF a.BC))) (jn y7 a)
def M0(a:AE):AA AE:=bd (mY a.AQ) fun c=>gd (0+a.AG.length<=lim) (bd (Jh a.BF) fun e=>bd (Jh a.BC) fun g=>bd (Jh a.BC) fun q=>CU c c (ev5 a.Now a.Az a.AG ([]:List Ab) e (eqv g q (bd (Jh a.BF) fun y=>bd (Jh a.BC) fun B=>CU c c (ev4 a.Now a.Az a.AG ([]:List Ab) (eqv e y (eqv g B (gd (0+a.AG.length<=lim) (bd (Jh a.BF) fun E=>bd (Jh a.BC) fun G=>CU c c (ev4 a.Now a.Az a.AG ([]:List Ab) (eqv e E (eqv g G (bd (mY a.AQ) fun H=>gd (0+a.AG.length<=lim) (bd (Jh a.BF) fun h=>bd (Jh a.BC) fun j=>CU c H (ev4 a.Now a.Az a.AG ([]:List Ab) (eqv e h (eqv g j (A3 (dO a) big (0,AE.mk c a.Now a.Az a.AG [] e g)))))))))))))))))))
def Kq:=gZ Py P0 [.cell 2 (some 15)] ["8cCMhJ0FnwReJZM9r5I095ROP7Cbvu7LcNCccUFpZCi4cb0vzd7wrTEE2iRQJ774wnNJetLbUVZPqr9s","hcGpHumyJX9AiqLjjDY2KMcjGc8J1a3VAnkCRPrWAZWS8tJoVU8r064HCidklHt3emRS7AWlqhqOqfH7","BTOlku7Ncr5sxKAqIriegUXKDRhpzFfwcR7mF9PxFdpLa4uvAEbPi4N4CClauMIedNrqxSIZSASAW8Xp","LJxzT6kklCQxm6N34YkOCFVql7iBPQZmFGo4gep1MrlNbUtspg55H4jooxqQlFAC3FJ9ADMFheLH8QCT","uchUTCELpNb42WEPZ2r2xtSQ1ZwfAL1Q1YVRjZ5AHsoFu6eNQXZeTJqne0RMB6rEhLt0sFby6vtz1Xsy","F8Xs5HI"] [ADk,Tx,AP9] (Bm M0)
def Y6(a:A7):AA A7:=bd (M0 a.A2) fun c=>gd (0+a.Laid.length<=lim) (some (A7.mk c a.Bg a.Seq a.Laid))
def Xl:=gZ Xn (.ret [(.st 11)]) [.cell 2 (some 23)] ["4pgphOldLqCQBABmz2mE8xBlDaQhScaoh3GZsm7TrdMNzxRKdl0sV"] [Kq] (Bm Y6)
def Q6(a:List Int):AA (List UInt8):=bd (xu a) fun c=>some c
def y8(a:Bp):AA (List UInt8):=bd (Uw a) fun c=>br (!c) (some []) (br (a.Kind==1) (gd ([a.Kind].length+[a.Id,a.AY,w64 (a.Bi+1),a.BA,a.Co].length<=lim) (jn Q6 ([a.Kind]++[a.Id,a.AY,w64 (a.Bi+1),a.BA,a.Co]))) (br (a.Kind==3) (gd ([a.Kind].length+[a.AY,a.BA].length<=lim) (jn Q6 ([a.Kind]++[a.AY,a.BA]))) (br (a.Kind==6) (jn Q6 [a.Kind]) (gd ([a.Kind].length+[a.Id].length<=lim) (jn Q6 ([a.Kind]++[a.Id]))))))
def ADr:=gZ AJK N2 DM ["E7yMXTRlP63wk8rsssxt53e5SMK1vpbBH9AtI5kuNKIGinAS6q0xXqZfTV0aiXiHZUIzQg9hd2YMZkGN","b9i8pLX6IJZsuq2H9Ce4dlz9UHidH6KF5TQA2dAQ5dCYUAKmPONUVIslme"] [iG,rK] (Bm y8)
def dP(h:Int)(c:List UInt8)(j:Bool):AA (List UInt8):=br j (some []) (bd (U5 h) fun e=>gd (e8 e+c.length<=lim) (bd (xw (e++c)) fun a=>gd ([toB (Dy a 24),toB (Dy a 16),toB (Dy a 8),toB a].length+(e++c).length<=lim) (bd (U5 (↑([toB (Dy a 24),toB (Dy a 16),toB (Dy a 8),toB a]++(e++c)).length:Int)) fun g=>gd (e8 g+([toB (Dy a 24),toB (Dy a 16),toB (Dy a 8),toB a]++(e++c)).length<=OE) (some (g++([toB (Dy a 24),toB (Dy a 16),toB (Dy a 8),toB a]++(e++c)))))))
def y9(a:Int)(c:List UInt8):AA (List UInt8):=bd (C3 a 1 1000000) fun e=>br (!e) (jn (dP a c) true) (bd (C3 (↑c.length:Int) 1 60) fun g=>jn (dP a c) (!g))
def ADs:=gZ [.v .i,.v .s] N2 B5 ["2WywM8FAdJYlFOArZ7LwIr9TccmtAraaCcDj8vpOxS7aJIMPFymn4i4Rpem8UisQ6ILsD7pUmYvoYleS","q7ucynuOtzMG0knEEFYtXVkvF5s0VV5x5b9ROP5xUjwD"] [Eb,Xh,rL] (Aq y9)
def zA(a:Int)(c:Bp):AA (List UInt8):=bd (y8 c) fun e=>bd (y9 a e) fun g=>some g
def AQA:=gZ [.v .i,.v (.st 0)] N2 B5 ["1qmExJT5kYPgKEYvi2"] [ADr,ADs] (Aq zA)
def dR(a:Bl)(c:List UInt8)(e:Bool):AA (Bl×Bool):=br e (some (a,false)) (some (Bl.mk (a.Data++c) a.Safe,true))
def dQ(a:Bl)(c:List UInt8):AA (Bl×Bool):=gd (a.Data.length+c.length<=OE) (bd (Oa a) fun e=>br (!e) (jn (dR a c) true) (bd (Oa (Bl.mk (a.Data++c) a.Safe)) fun g=>jn (dR a c) (!g)))
def ADt:=gZ [.v (.st 9),.v .s] Xu Xz ["BG8T6gQCZ17aaURuA00HoVNjvRF8nFhGapwasJgQGMfAq76e2sPDNbciODip1HW"] [RT] (Aq dQ)
def AHT(c:A7)(g:Bp):AA (A7×Int):=bd (Y6 c) fun a=>bd (Y3 c) fun y=>br (!y) (some (a,21)) (bd (Uw g) fun B=>br (!B) (some (a,22)) (br (c.Seq==1000000) (some (a,23)) (br ((↑c.Laid.length:Int)==8) (some (a,24)) (bd (zA (w64 (c.Seq+1)) g) fun h=>bd (dQ c.Bg.Log h) fun e=>bd (dQ c.Bg.Log h) fun j=>eqv e.snd j.snd (OI e.fst j.fst (bd (zA (w64 (c.Seq+1)) g) fun E=>bd (dQ c.Bg.Log E) fun q=>eqv e.snd q.snd (OI e.fst q.fst (br (!e.snd) (some (a,24)) (gd (a.Laid.length+[g].length<=lim) (some (A7.mk a.A2 (Bk.mk e.fst a.Bg.EZ a.Bg.Odd) (w64 (a.Seq+1)) (a.Laid++[g]),0)))))))))))
def AQB:=gZ [.v (.st 11),.v (.st 0)] (.ret [(.st 11),.i]) YA ["Tpnjl4ZdfzVRo4YhfhxXAMuEukGCw4fNyQYdTzpz4SGvOG3KGXviog55lKkppMqdu9CSuJZtCREB3xiS","viq9sGAaaNN4F5kufYxozy3UlqfHPepl2Ama3alO2b9zyIFyc9oMrL3ELuhcUSfSixV8IPEEmvvdOtHg","xBuPwqeoqVajo5EgM8B13FQK4PoPfTrNmsLVJAfC5ILNdSgG8dx9X7P0z0DI3wiMt5Gd56DszUtF6x0d","BKWEYanLvNzX4GLVPlwQMFVfaBTMPvier6Sh0u5UIRlqGxE3ExBtGeMchVsJBfogRXw12RGdx8T9Kgb"] [Xl,Xf,iG,AQA,ADt] (Aq AHT)
end Lv
