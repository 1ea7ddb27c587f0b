/- Functions of the program as typed texts and as plain functions. -/
import Derived.Test.YtdmpkjjlnjchkaaGreatKA
noncomputable section
set_option linter.unusedVariables false
set_option linter.unusedSimpArgs false
set_option linter.unusedSectionVars false
set_option maxRecDepth 100000
namespace Lv
open Go (IntKind BinOp UnOp)
open Y (YF qn qf qt qr q1 qd qm qa qo ql qL qb qi qx qp qq qc qz qe qk qK qB qw qu qj Kp wn wf wt w1 sw sq sr wm wM wo wO wl wL wk wK wz wZ wx wX wb wB wi wI wr wR wq wQ we wE wc wY wj wh cv ca cx cn ce bl)
def Tj(a:AZ):AA (List Int):=bd (AHK a) fun c=>br (!c) (some []) (gd ([a.CJ,a.Room,a.A2,a.CB,a.Bq,a.Rest,a.CL,a.Cs].length+a.AV.length<=lim) (some ([a.CJ,a.Room,a.A2,a.CB,a.Bq,a.Rest,a.CL,a.Cs]++a.AV)))
def Ku:GF:=gZ AEY Am1 b9 0x188d6cf477427b14f7d53ce7ce230355f7659da29441b2dfb033e7eda6fbf461612e0afb827269d3de5ec6603e [P7] (BL Tj)
def A0V:YF:=⟨[],[.v (.st 8)],[],.ret [(.l .i)],[.tmp 2],sq [qu 1 0,.as 2 (.k .nil)] [1] (.seq (sw 11 [wk 15 1,wY QK rfl,wX] [1,13] (cn 13 [1] (sq [.as 2 (.k .nil)] [2] .ret))) (sr [wn 14 [wo 0 1,wK 9,wY Ku rfl],qn [qa 3 16]] [1,3] (sr [wn 17 [wm 3,wZ,wh (.B7 · 1 .i [(0,(.tmp 18))]),wm 3,wh (.app · .i true (.tmp 19) (.tmp 20))],qn [qa 4 21]] [1,4] (sr [wn 22 [wm 4,wo 9 1,wL,wo 10 1,wL,wo 11 1,wL,wZ,wh (.B7 · 3 .i [(0,(.tmp 24)),(1,(.tmp 26)),(2,(.tmp 29))]),wh (.app · .i true (.tmp 22) (.tmp 30))],qn [qa 4 31]] [1,4] (.join [cv 4 (.l .i)] (sw 32 [wo 11 1,wL,wZ,wj 0] (Kp 60129542162) (bl 0 [cv 4 (.l .i),cv 35 .i] (sq [qb 36 .lss 35 34] (Kp 128849018898) (.seq (ce 36 (Kp 60129542162) [1,4] 0) (.seq (.block 1 (sr [wn 37 [we (.st 2) 33 35,wK 10],qn [.alloc 6 HW,qw 10 6 38]] (Kp 60129542226) (qr [wn 39 [wm 4,wo 0 6,wL,wo 1 6,wL,wo 2 6,wL,wI .add 1,wo 3 6,wL,wo 4 6,wL,wo 5 6,wL,wo 6 6,wL,wo 7 6,wL,wo 8 6,wL,wo 9 6,wL,wh (.B7 · 10 .i [(0,(.tmp 41)),(1,(.tmp 43)),(2,(.tmp 46)),(3,(.tmp 48)),(4,(.tmp 50)),(5,(.tmp 52)),(6,(.tmp 54)),(7,(.tmp 56)),(8,(.tmp 58)),(9,(.tmp 60))]),wh (.app · .i true (.tmp 39) (.tmp 61))],qn [qa 4 62]] (Kp 60129542162)))) (q1 [qi 63 .add 35 1,qm 35 63] (Kp 60129542162))))))) (.join [cv 4 (.l .i)] (sw 64 [wo 12 1,wL,wZ,wj 0] [1,4,65,66,67] (bl 2 [cv 4 (.l .i),cv 67 .i] (sq [qb 68 .lss 67 66] [1,4,65,66,67,68] (.seq (ce 68 [1,4,65,66,67] [1,4] 2) (.seq (.block 3 (sr [wn 69 [we (.st 7) 65 67,wK 7],qn [.alloc 8 AUY,.Zk [(.cell 8 5,(.st 4)),(.cell 8 6,(.l (.st 5)))],qw 7 8 70]] [1,4,8,65,66,67] (qr [wn 71 [wm 4,wo 0 8,wO 1,wL,wh (.B7 · 1 .i [(0,(.tmp 74))]),wh (.app · .i true (.tmp 71) (.tmp 75))],qn [qa 4 76]] [1,4,65,66,67]))) (q1 [qi 77 .add 67 1,qm 67 77] [1,4,65,66,67])))))) (sr [wn 78 [wm 4,wo 13 1,wL,wZ,wh (.B7 · 1 .i [(0,(.tmp 81))]),wh (.app · .i true (.tmp 78) (.tmp 82))],qn [qa 4 83]] [1,4] (sr [wn 84 [wm 4,wo 13 1,wL,wh (.app · .i true (.tmp 84) (.tmp 86))],qn [qa 4 87]] [1,4] (.join [cv 4 (.l .i)] (sw 88 [wo 14 1,wL,wZ,wj 0] [4,89,90,91] (bl 4 [cv 4 (.l .i),cv 91 .i] (sq [qb 92 .lss 91 90] [4,89,90,91,92] (.seq (ce 92 [4,89,90,91] [4] 4) (.seq (.block 5 (sr [wn 93 [we .i 89 91,wL],qn [qa 10 94]] [4,10,89,90,91] (qr [wn 95 [wm 4,wm 10,wI .add 1,wh (.B7 · 1 .i [(0,(.tmp 97))]),wh (.app · .i true (.tmp 95) (.tmp 98))],qn [qa 4 99]] [4,89,90,91]))) (q1 [qi 100 .add 91 1,qm 91 100] [4,89,90,91])))))) (sq [qm 101 4,qa 2 101] [2] .ret))))))))))⟩
def Av2(a:List Int):AA (List Int):=some a
def Asw(h:AD)(g:((List Int)×Int)->AA (List Int))(j:((List Int)×Int)):AA (List Int):=match j with |(a,c)=>br (decide (c<(↑h.A8.length:Int))) (bd (at? h.A8 c) fun e=>gd (List.length a+[w64 (e+1)].length<=lim) (g ((a++[w64 (e+1)],w64 (c+1))))) (jn Av2 a)
def ArS(c:AD)(a:List Int):AA (List Int):=gd (a.length+[(↑c.BC.length:Int)].length<=lim) (gd ((a++[(↑c.BC.length:Int)]).length+c.BC.length<=lim) (A4 (Asw c) big ((a++[(↑c.BC.length:Int)]++c.BC,0))))
def Asv(e:AD)(h:((List Int)×Int)->AA (List Int))(j:((List Int)×Int)):AA (List Int):=match j with |(g,a)=>br (decide (a<(↑e.AI.length:Int))) (bd (at? e.AI a) fun c=>gd (List.length g+[c.AV.DT].length<=lim) (h ((g++[c.AV.DT],w64 (a+1))))) (jn (ArS e) g)
def ArR(a:AD)(c:List Int):AA (List Int):=A4 (Asv a) big (c,0)
def Asu(c:AD)(h:((List Int)×Int)->AA (List Int))(j:((List Int)×Int)):AA (List Int):=match j with |(e,g)=>br (decide (g<(↑c.AG.length:Int))) (bd (at? c.AG g) fun a=>gd (List.length e+[a.Id,a.Aa,w64 (a.Bl+1),a.A2,a.Cj,a.Since,a.Ap,a.State,a.Cf,a.Cu].length<=lim) (h ((e++[a.Id,a.Aa,w64 (a.Bl+1),a.A2,a.Cj,a.Since,a.Ap,a.State,a.Cf,a.Cu],w64 (g+1))))) (jn (ArR c) e)
def AHz(a:AD):AA (List Int):=bd (AAu a) fun e=>br (!e) (none) (bd (Tj a.AO) fun c=>gd ([(↑(List.length c):Int)].length+List.length c<=lim) (gd (([(↑(List.length c):Int)]++c).length+[a.Now,a.Ap,(↑a.AG.length:Int)].length<=lim) (A4 (Asu a) big (([(↑(List.length c):Int)]++c++[a.Now,a.Ap,(↑a.AG.length:Int)],0)))))
def SK:GF:=A0V.D2 (BL AHz)
def Av3(e:(Int×(List UInt8))):AA (List UInt8):=match e with |(a,c)=>gd (c.length+[toB a].length<=lim) (some (c++[toB a]))
def Av4(e:(Int×(List UInt8))->AA (List UInt8))(g:(Int×(List UInt8))):AA (List UInt8):=match g with |(a,c)=>br (decide (a>=128)) (gd (c.length+[toB (w64 (Int.tmod a 128+128))].length<=lim) (e ((w64 (Int.tdiv a 128),c++[toB (w64 (Int.tmod a 128+128))])))) (jn Av3 (a,c))
def WY(a:Int):AA (List UInt8):=bd (qC a 0 2147483647) fun c=>br (!c) (some []) (A4 (Av4) big (a,[]))
def VC:GF:=gZ AsE (.ret [(.l .u)]) b9 0x61f21c8d53c707b9424040c8a3e958205fca8142294ae62f50ee7d2144e9550bcec3385e87ed4f2e602d2c6367684fe4b16e00c8a99db8bea7e830371cf2 [OE] (BL WY)
def Tl(a:List UInt8):AA (List UInt8):=some a
def Asx(e:List Int)(h:((List UInt8)×Int)->AA (List UInt8))(q:((List UInt8)×Int)):AA (List UInt8):=match q with |(a,c)=>br (decide (c<(↑e.length:Int))) (bd (at? e c) fun j=>bd (WY j) fun g=>gd (List.length a+List.length g<=lim) (h ((a++g,w64 (c+1))))) (jn Tl a)
def fP(a:List Int):AA (List UInt8):=A4 (Asx a) big ([],0)
def OT:GF:=gZ Alo Am2 b9 0x9678e271e8b53100091d69d1130bdb9d6b6df1648dda65020fa92ce05e3c85bda997c717804554f32185e0300bc2433424586e [VC] (BL fP)
def AH0(a:(Int×Int)->AA Int)(c:Int)(e:Int):AA Int:=a ((e,w64 (c+1)))
def Av5(a:(Int×Int)->AA Int)(c:Int)(e:Int):AA Int:=a ((e,w64 (c+1)))
def rj(g:(Int×Int)->AA Int)(h:Int)(e:(Int×Int)->AA Int)(j:(Int×Int)):AA Int:=match j with |(a,c)=>br (decide (c<8)) (br (pP a 1==1) (jn (AH0 e c) (bN (Dx a 1) 3988292384)) (jn (AH0 e c) (Dx a 1))) (jn (Av5 g h) a)
def Av6(a:Int):AA Int:=some (bN a 4294967295)
def Asy(c:List UInt8)(g:(Int×Int)->AA Int)(j:(Int×Int)):AA Int:=match j with |(e,a)=>br (decide (a<(↑c.length:Int))) (bd (at? c a) fun h=>A4 (rj g a) big ((bN e (w64 (↑(UInt8.toNat h):Int)),0))) (jn Av6 e)
def fQ(a:List UInt8):AA Int:=A4 (Asy a) big (4294967295,0)
def SL:GF:=gZ [.v (.l .u)] Cm b9 0x3b8b77b2d792fe2b306dad26395872c9655b55976f43b9c3f130bc712a6226cf9a1a5f7ba3f4612a89fb4165b4074bb9e4a91a457adfe7cf5f74a6291067fc5f05dc58c93e4993cd292f59a1234aec03cee03646b81a6ce5b04a9e05a8dd23886909b274d4b [] (BL fQ)
def A0W:YF:=⟨[],[.v (.st 8),.v .i],[],.ret [.s],[.tmp 4],sq [qu 2 0,.as 4 (.k (.str []))] [1,2] (sr [wn 8 [wk 15 2,wY SK rfl],qn [qa 5 9]] [1,5] (.seq (sr [wn 10 [wm 5,wh (.bin · .sl .eql (.tmp 10) (.k .nil)),wM],wf 12 13 [wm 1,wc OE rfl [13,qj 0,qj 1000000],wX],qn [qp 16 12 15]] [1,5,16] (cn 16 [1,5] (sq [.as 4 (.k (.str []))] [4] .ret))) (.seq (.RD (.op 0 none [] (.mv 17 (.tmp 1)) (.op 3 none [] (.mv 20 (.tmp 5)) (qd 1 [wn 18 [wY VC rfl,wh (.Ru · (.tmp 18))]] (.op 4 none [18] (.call 21 OT [] rfl [(.tmp 20)]) (qd 5 [qn [qb 22 .add 19 21,qa 6 22]] .nil))))) [6]) (sr [wn 23 [wm 6,wh (.OB · (.tmp 23)),wY SL rfl],qn [qa 7 25]] [6,7] (sr [wn 26 [wm 7,wh (.bin · .num .shr (.tmp 26) (.k (.int .u64 24))),wh (.cvI · .u8 (.tmp 27)),wm 7,wh (.bin · .num .shr (.tmp 29) (.k (.int .u64 16))),wh (.cvI · .u8 (.tmp 30)),wm 7,wh (.bin · .num .shr (.tmp 32) (.k (.int .u64 8))),wh (.cvI · .u8 (.tmp 33)),wm 7,wh (.cvI · .u8 (.tmp 35)),wh (.B7 · 4 .u [(0,(.tmp 28)),(1,(.tmp 31)),(2,(.tmp 34)),(3,(.tmp 36))]),wh (.Ru · (.tmp 37)),wm 6,wB .add 38],qn [qa 4 40]] [4] .ret)))))⟩
def nE(j:AD)(g:Int):AA (List UInt8):=bd (AHz j) fun h=>gd (List.isEmpty h=false) (bd (qC g 0 1000000) fun q=>br (!q) (some []) (bd (WY g) fun c=>bd (fP h) fun e=>gd (List.length c+List.length e<=On) (bd (fQ (c++e)) fun a=>gd ([toB (Dx a 24),toB (Dx a 16),toB (Dx a 8),toB a].length+(c++e).length<=On) (some ([toB (Dx a 24),toB (Dx a 16),toB (Dx a 8),toB a]++(c++e))))))
def VD:GF:=A0W.D2 (Ah nE)
def A0X:YF:=⟨[],[.v (.st 8)],[],.ret [.z],[.tmp 2],sq [qu 1 0,.as 2 (.k .nil)] [1] (.seq (sw 11 [wk 15 1,wY QK rfl,wX] [1,13] (cn 13 [1] (sq [.as 2 (.k .nil)] [2] .ret))) (sr [wn 14 [wo 0 1,wK 9,wY Ku rfl],qn [qa 3 16]] [1,3] (sr [wn 17 [wm 3,wZ,wh (.B7 · 1 .i [(0,(.tmp 18))]),wm 3,wh (.app · .i true (.tmp 19) (.tmp 20))],qn [qa 4 21]] [1,4] (sr [wn 22 [wm 4,wo 9 1,wL,wo 10 1,wL,wo 11 1,wL,wZ,wh (.B7 · 3 .i [(0,(.tmp 24)),(1,(.tmp 26)),(2,(.tmp 29))]),wh (.app · .i true (.tmp 22) (.tmp 30))],qn [qa 4 31]] [1,4] (.join [cv 4 (.l .i)] (sw 32 [wo 11 1,wL,wZ,wj 0] (Kp 60129542162) (bl 0 [cv 4 (.l .i),cv 35 .i] (sq [qb 36 .lss 35 34] (Kp 128849018898) (.seq (ce 36 (Kp 60129542162) [1,4] 0) (.seq (.block 1 (sr [wn 37 [we (.st 2) 33 35,wK 10],qn [.alloc 6 HW,qw 10 6 38]] (Kp 60129542226) (qr [wn 39 [wm 4,wo 0 6,wL,wo 1 6,wL,wo 2 6,wL,wI .add 1,wo 3 6,wL,wo 4 6,wL,wo 5 6,wL,wo 6 6,wL,wo 7 6,wL,wo 8 6,wL,wo 9 6,wL,wh (.B7 · 10 .i [(0,(.tmp 41)),(1,(.tmp 43)),(2,(.tmp 46)),(3,(.tmp 48)),(4,(.tmp 50)),(5,(.tmp 52)),(6,(.tmp 54)),(7,(.tmp 56)),(8,(.tmp 58)),(9,(.tmp 60))]),wh (.app · .i true (.tmp 39) (.tmp 61))],qn [qa 4 62]] (Kp 60129542162)))) (q1 [qi 63 .add 35 1,qm 35 63] (Kp 60129542162))))))) (.join [cv 4 (.l .i)] (sw 64 [wo 12 1,wL,wZ,wj 0] [1,4,65,66,67] (bl 2 [cv 4 (.l .i),cv 67 .i] (sq [qb 68 .lss 67 66] [1,4,65,66,67,68] (.seq (ce 68 [1,4,65,66,67] [1,4] 2) (.seq (.block 3 (sr [wn 69 [we (.st 7) 65 67,wK 7],qn [.alloc 8 AUY,.Zk [(.cell 8 5,(.st 4)),(.cell 8 6,(.l (.st 5)))],qw 7 8 70]] [1,4,8,65,66,67] (qr [wn 71 [wm 4,wo 0 8,wO 1,wL,wh (.B7 · 1 .i [(0,(.tmp 74))]),wh (.app · .i true (.tmp 71) (.tmp 75))],qn [qa 4 76]] [1,4,65,66,67]))) (q1 [qi 77 .add 67 1,qm 67 77] [1,4,65,66,67])))))) (sr [wn 78 [wm 4,wo 13 1,wL,wZ,wh (.B7 · 1 .i [(0,(.tmp 81))]),wh (.app · .i true (.tmp 78) (.tmp 82))],qn [qa 4 83]] [1,4] (sr [wn 84 [wm 4,wo 13 1,wL,wh (.app · .i true (.tmp 84) (.tmp 86))],qn [qa 4 87]] [1,4] (.join [cv 4 (.l .i)] (sw 88 [wo 14 1,wL,wZ,wj 0] [4,89,90,91] (bl 4 [cv 4 (.l .i),cv 91 .i] (sq [qb 92 .lss 91 90] [4,89,90,91,92] (.seq (ce 92 [4,89,90,91] [4] 4) (.seq (.block 5 (sr [wn 93 [we .i 89 91,wL],qn [qa 10 94]] [4,10,89,90,91] (qr [wn 95 [wm 4,wm 10,wI .add 1,wh (.B7 · 1 .i [(0,(.tmp 97))]),wh (.app · .i true (.tmp 95) (.tmp 98))],qn [qa 4 99]] [4,89,90,91]))) (q1 [qi 100 .add 91 1,qm 91 100] [4,89,90,91])))))) (sq [qm 101 4,qa 2 101] [2] .ret))))))))))⟩
def Ayn(a:List Int):AA PUnit:=none
def Ayq(h:AD)(g:((List Int)×Int)->AA PUnit)(j:((List Int)×Int)):AA PUnit:=match j with |(a,c)=>br (decide (c<(↑h.A8.length:Int))) (bd (at? h.A8 c) fun e=>gd (List.length a+[w64 (e+1)].length<=lim) (g ((a++[w64 (e+1)],w64 (c+1))))) (jn Ayn a)
def Aym(c:AD)(a:List Int):AA PUnit:=gd (a.length+[(↑c.BC.length:Int)].length<=lim) (gd ((a++[(↑c.BC.length:Int)]).length+c.BC.length<=lim) (A4 (Ayq c) big ((a++[(↑c.BC.length:Int)]++c.BC,0))))
def Ayp(e:AD)(h:((List Int)×Int)->AA PUnit)(j:((List Int)×Int)):AA PUnit:=match j with |(g,a)=>br (decide (a<(↑e.AI.length:Int))) (bd (at? e.AI a) fun c=>gd (List.length g+[c.AV.DT].length<=lim) (h ((g++[c.AV.DT],w64 (a+1))))) (jn (Aym e) g)
def Ayl(a:AD)(c:List Int):AA PUnit:=A4 (Ayp a) big (c,0)
def Ayo(c:AD)(h:((List Int)×Int)->AA PUnit)(j:((List Int)×Int)):AA PUnit:=match j with |(e,g)=>br (decide (g<(↑c.AG.length:Int))) (bd (at? c.AG g) fun a=>gd (List.length e+[a.Id,a.Aa,w64 (a.Bl+1),a.A2,a.Cj,a.Since,a.Ap,a.State,a.Cf,a.Cu].length<=lim) (h ((e++[a.Id,a.Aa,w64 (a.Bl+1),a.A2,a.Cj,a.Since,a.Ap,a.State,a.Cf,a.Cu],w64 (g+1))))) (jn (Ayl c) e)
def AQj(a:AD):AA PUnit:=bd (AAu a) fun e=>br (!e) (some ()) (bd (Tj a.AO) fun c=>gd ([(↑(List.length c):Int)].length+List.length c<=lim) (gd (([(↑(List.length c):Int)]++c).length+[a.Now,a.Ap,(↑a.AG.length:Int)].length<=lim) (A4 (Ayo a) big (([(↑(List.length c):Int)]++c++[a.Now,a.Ap,(↑a.AG.length:Int)],0)))))
def ky:GF:=A0X.D2 (BL AQj)
def A0Y:YF:=⟨[],[.v (.st 8),.v .i],[],.ret [.s],[.tmp 4],sq [qu 2 0,.as 4 (.k (.str []))] [1,2] (sr [wn 8 [wk 15 2,wY ky rfl],qn [qa 5 9]] [1,5] (.seq (sr [wn 10 [wm 5,wh (.bin · .sl .eql (.tmp 10) (.k .nil)),wM],wf 12 13 [wm 1,wc OE rfl [13,qj 0,qj 1000000],wX],qn [qp 16 12 15]] [1,5,16] (cn 16 [1,5] (sq [.as 4 (.k (.str []))] [4] .ret))) (.seq (.RD (.op 0 none [] (.mv 17 (.tmp 1)) (.op 3 none [] (.mv 20 (.tmp 5)) (qd 1 [wn 18 [wY VC rfl,wh (.Ru · (.tmp 18))]] (.op 4 none [18] (.call 21 OT [] rfl [(.tmp 20)]) (qd 5 [qn [qb 22 .add 19 21,qa 6 22]] .nil))))) [6]) (sr [wn 23 [wm 6,wh (.OB · (.tmp 23)),wY SL rfl],qn [qa 7 25]] [6,7] (sr [wn 26 [wm 7,wh (.bin · .num .shr (.tmp 26) (.k (.int .u64 24))),wh (.cvI · .u8 (.tmp 27)),wm 7,wh (.bin · .num .shr (.tmp 29) (.k (.int .u64 16))),wh (.cvI · .u8 (.tmp 30)),wm 7,wh (.bin · .num .shr (.tmp 32) (.k (.int .u64 8))),wh (.cvI · .u8 (.tmp 33)),wm 7,wh (.cvI · .u8 (.tmp 35)),wh (.B7 · 4 .u [(0,(.tmp 28)),(1,(.tmp 31)),(2,(.tmp 34)),(3,(.tmp 36))]),wh (.Ru · (.tmp 37)),wm 6,wB .add 38],qn [qa 4 40]] [4] .ret)))))⟩
def AQk(a:AD)(c:Int):AA (List UInt8):=bd (AQj a) fun e=>some []
def kz:GF:=A0Y.D2 (Ah AQk)
def AQl(a:AD)(c:Int):AA (List UInt8):=orE (nE a c) (AQk a c)
def lA:GF:=VD.orE (fun a=>AQl a.1 a.2.1) (fun a=>AQk a.1 a.2.1) (fun a=>by kernel_rfl) (fun a r h=>Eq.mp (by kernel_rfl) (kz.ok a r h))
def Av7(a:List Int):AA (List Int):=some a
def As1(h:AD)(g:((List Int)×Int)->AA (List Int))(j:((List Int)×Int)):AA (List Int):=match j with |(a,c)=>br (decide (c<(↑h.A8.length:Int))) (bd (at? h.A8 c) fun e=>gd (List.length a+[w64 (e+1)].length<=lim) (g ((a++[w64 (e+1)],w64 (c+1))))) (jn Av7 a)
def ArU(c:AD)(a:List Int):AA (List Int):=gd (a.length+[(↑c.BC.length:Int)].length<=lim) (gd ((a++[(↑c.BC.length:Int)]).length+c.BC.length<=lim) (A4 (As1 c) big ((a++[(↑c.BC.length:Int)]++c.BC,0))))
def As0(e:AD)(h:((List Int)×Int)->AA (List Int))(j:((List Int)×Int)):AA (List Int):=match j with |(g,a)=>br (decide (a<(↑e.AI.length:Int))) (bd (at? e.AI a) fun c=>gd (List.length g+[c.AV.DT].length<=lim) (h ((g++[c.AV.DT],w64 (a+1))))) (jn (ArU e) g)
def ArT(a:AD)(c:List Int):AA (List Int):=A4 (As0 a) big (c,0)
def Asz(c:AD)(h:((List Int)×Int)->AA (List Int))(j:((List Int)×Int)):AA (List Int):=match j with |(e,g)=>br (decide (g<(↑c.AG.length:Int))) (bd (at? c.AG g) fun a=>gd (List.length e+[a.Id,a.Aa,w64 (a.Bl+1),a.A2,a.Cj,a.Since,a.Ap,a.State,a.Cf,a.Cu].length<=lim) (h ((e++[a.Id,a.Aa,w64 (a.Bl+1),a.A2,a.Cj,a.Since,a.Ap,a.State,a.Cf,a.Cu],w64 (g+1))))) (jn (ArT c) e)
def AQm(a:AD):AA (List Int):=bd (AAu a) fun e=>br (!e) (some []) (bd (Tj a.AO) fun c=>gd ([(↑(List.length c):Int)].length+List.length c<=lim) (gd (([(↑(List.length c):Int)]++c).length+[a.Now,a.Ap,(↑a.AG.length:Int)].length<=lim) (A4 (Asz a) big (([(↑(List.length c):Int)]++c++[a.Now,a.Ap,(↑a.AG.length:Int)],0)))))
def lB:GF:=gZ Aqu Am1 b9 0x18761e378288cc4c33ce9cb16eba20d772da894e5870b03a35ebbdfb10462ba1f238a5f81960cd5dbe07f608f1735bd47fce95b6b41f846b16b61f995027985e342683a495cd1e2810a79da289af285b7bac446cf27ecd07c37681ec3f79470a19bcd793d1975643c6eb02666b01650cb269b268dbbfdb54105cd72a9a2cddda2e988fbca81e0598edac3d983a51005b1e689e6e9b40b1b58b347852a17f64e597a72680117ca4ecb901d7bd9f73b1f81136ac7c98ca875c3df089dbca69df18e08936342b19756e76c9e84074e80b12717d4d90fb900d628aba6a6b8b7b53de33bf895f65acf3b42ea1bfaf183818e2a5bfe709e9e [QK,Ku] (BL AQm)
def Av8(a:((List Int)×Int×Int)->AA (Int×(List Int)))(h:((List Int)×Int×Int)):AA (Int×(List Int)):=match h with |(c,e,g)=>a ((c,w64 (e+1),w64 (g+1)))
def As2(e:((List Int)×Int)):AA (Int×(List Int)):=match e with |(a,c)=>some (c,a)
def ArV(g:((List Int)×Int×Int)->AA (Int×(List Int)))(h:((List Int)×Int×Int)):AA (Int×(List Int)):=match h with |(a,e,c)=>br (decide (c<(↑(List.length a):Int))) (bd (at? a c) fun j=>bd (at? a c) fun q=>jn (Av8 g) (List.set a c.toNat e,e,c)) (jn As2 (a,e))
def AQn(a:List Int)(c:Int):AA (Int×(List Int)):=A4 (ArV) big (a,c,0)
def lC:GF:=gZ [.m (.l .i),.v .i] Cm Bz 0x218f02f199c9315b62e6e0f4a102aaddc5945d0b0dc955b60574412431ab2d96602907d092d4219b0 [] (Ah AQn)
def AQo(a:AZ)(e:Int):AA (Int×AZ):=bd (AQn a.AV e) fun c=>some (c.fst,AZ.mk c.snd a.CJ a.Room a.A2 a.CB a.Bq a.Rest a.CL a.Cs)
def lD:GF:=gZ [.m (.st 1),.v .i] Cm Bz 0xb3fa30323c907465e347f1dabed67 [lC] (Ah AQo)
def AuS(g:((List AK)×Int×Int)->AA (Int×(List AK)))(h:((List AK)×Int×Int)):AA (Int×(List AK)):=match h with |(a,c,e)=>g ((a,w64 (c+1),w64 (e+1)))
def AuR(h:((List AK)×Int×Int)->AA (Int×(List AK)))(q:((List AK)×Int×Int)):AA (Int×(List AK)):=match q with |(e,g,c)=>bd (at? e c) fun j=>bd (at? e c) fun a=>jn (AuS h) ((List.set e c.toNat (AK.mk a.Id a.Aa a.Bl a.A2 a.Cj a.Since a.Ap a.State a.Cf (w64 (g+1))),w64 (g+1),c))
def AwG(h:((List AK)×Int×Int)->AA (Int×(List AK)))(q:((List AK)×Int×Int)):AA (Int×(List AK)):=match q with |(e,g,c)=>bd (at? e c) fun j=>bd (at? e c) fun a=>jn (AuR h) ((List.set e c.toNat (AK.mk a.Id a.Aa a.Bl a.A2 a.Cj a.Since a.Ap a.State (w64 (g+1)) a.Cu),w64 (g+1),c))
def AwF(h:((List AK)×Int×Int)->AA (Int×(List AK)))(q:((List AK)×Int×Int)):AA (Int×(List AK)):=match q with |(e,g,c)=>bd (at? e c) fun j=>bd (at? e c) fun a=>jn (AwG h) ((List.set e c.toNat (AK.mk a.Id a.Aa a.Bl a.A2 a.Cj a.Since a.Ap (w64 (g+1)) a.Cf a.Cu),w64 (g+1),c))
def AwE(h:((List AK)×Int×Int)->AA (Int×(List AK)))(q:((List AK)×Int×Int)):AA (Int×(List AK)):=match q with |(e,g,c)=>bd (at? e c) fun j=>bd (at? e c) fun a=>jn (AwF h) ((List.set e c.toNat (AK.mk a.Id a.Aa a.Bl a.A2 a.Cj a.Since (w64 (g+1)) a.State a.Cf a.Cu),w64 (g+1),c))
def AwD(h:((List AK)×Int×Int)->AA (Int×(List AK)))(q:((List AK)×Int×Int)):AA (Int×(List AK)):=match q with |(e,g,c)=>bd (at? e c) fun j=>bd (at? e c) fun a=>jn (AwE h) ((List.set e c.toNat (AK.mk a.Id a.Aa a.Bl a.A2 a.Cj (w64 (g+1)) a.Ap a.State a.Cf a.Cu),w64 (g+1),c))
def AwC(h:((List AK)×Int×Int)->AA (Int×(List AK)))(q:((List AK)×Int×Int)):AA (Int×(List AK)):=match q with |(e,g,c)=>bd (at? e c) fun j=>bd (at? e c) fun a=>jn (AwD h) ((List.set e c.toNat (AK.mk a.Id a.Aa a.Bl a.A2 (w64 (g+1)) a.Since a.Ap a.State a.Cf a.Cu),w64 (g+1),c))
def AwB(h:((List AK)×Int×Int)->AA (Int×(List AK)))(q:((List AK)×Int×Int)):AA (Int×(List AK)):=match q with |(e,g,c)=>bd (at? e c) fun j=>bd (at? e c) fun a=>jn (AwC h) ((List.set e c.toNat (AK.mk a.Id a.Aa a.Bl (w64 (g+1)) a.Cj a.Since a.Ap a.State a.Cf a.Cu),w64 (g+1),c))
def AwA(h:((List AK)×Int×Int)->AA (Int×(List AK)))(q:((List AK)×Int×Int)):AA (Int×(List AK)):=match q with |(e,g,c)=>bd (at? e c) fun j=>bd (at? e c) fun a=>jn (AwB h) ((List.set e c.toNat (AK.mk a.Id a.Aa (w64 (g+1)) a.A2 a.Cj a.Since a.Ap a.State a.Cf a.Cu),w64 (g+1),c))
def Av9(h:((List AK)×Int×Int)->AA (Int×(List AK)))(q:((List AK)×Int×Int)):AA (Int×(List AK)):=match q with |(e,g,c)=>bd (at? e c) fun j=>bd (at? e c) fun a=>jn (AwA h) ((List.set e c.toNat (AK.mk a.Id (w64 (g+1)) a.Bl a.A2 a.Cj a.Since a.Ap a.State a.Cf a.Cu),w64 (g+1),c))
def Arz(e:((List AK)×Int)):AA (Int×(List AK)):=match e with |(a,c)=>some (c,a)
def ArW(h:((List AK)×Int×Int)->AA (Int×(List AK)))(j:((List AK)×Int×Int)):AA (Int×(List AK)):=match j with |(c,g,e)=>br (decide (e<(↑(List.length c):Int))) (bd (at? c e) fun q=>bd (at? c e) fun a=>jn (Av9 h) ((List.set c e.toNat (AK.mk g a.Aa a.Bl a.A2 a.Cj a.Since a.Ap a.State a.Cf a.Cu),g,e))) (jn Arz (c,g))
def AQp(a:List AK)(c:Int):AA (Int×(List AK)):=A4 (ArW) big (a,c,0)
def lE:GF:=gZ [.m (.l (.st 2)),.v .i] Cm Bz 0xbce7f6f578482cbc774d8446d2ccbccba1668a1512e37d17f452379be0eba645b0b03b2343f49a9d6de1b7867cd10e507f1529dc1c941133f2a6c5f4077914b9a2fdfb469bf65b01867511a8126f601dbb86c35e8366c4986d181b3efd8fdd6bc8e6f4ac64d4ed6ed7db51684e77f233fda385f0d42728778888e93b44fe1c05a96ebc14edfb9c8af989a9c853c424f8b76ea788e3c512d68ffa5608b5f7c2795b2aa284d998ef925b5433d3999259498ab0c9568b02dfb5ee177101475d4d5fe13787d72a331ea587a3dc73c4213 [] (Ah AQp)
def AwJ(g:((List Ad)×Int×Int)->AA (Int×(List Ad)))(h:((List Ad)×Int×Int)):AA (Int×(List Ad)):=match h with |(a,c,e)=>g ((a,w64 (c+1),w64 (e+1)))
def AwI(h:((List Ad)×Int×Int)->AA (Int×(List Ad)))(q:((List Ad)×Int×Int)):AA (Int×(List Ad)):=match q with |(c,g,a)=>bd (at? c a) fun j=>bd (at? c a) fun e=>jn (AwJ h) ((List.set c a.toNat (Ad.mk e.Level e.Ap e.Id (w64 (g+1))),w64 (g+1),a))
def AwH(h:((List Ad)×Int×Int)->AA (Int×(List Ad)))(q:((List Ad)×Int×Int)):AA (Int×(List Ad)):=match q with |(c,g,a)=>bd (at? c a) fun j=>bd (at? c a) fun e=>jn (AwI h) ((List.set c a.toNat (Ad.mk e.Level e.Ap (w64 (g+1)) e.A2),w64 (g+1),a))
def AH7(h:((List Ad)×Int×Int)->AA (Int×(List Ad)))(q:((List Ad)×Int×Int)):AA (Int×(List Ad)):=match q with |(e,g,c)=>bd (at? e c) fun j=>bd (at? e c) fun a=>jn (AwH h) ((List.set e c.toNat (Ad.mk a.Level (w64 (g+1)) a.Id a.A2),w64 (g+1),c))
def As3(e:((List Ad)×Int)):AA (Int×(List Ad)):=match e with |(a,c)=>some (c,a)
def AH8(h:((List Ad)×Int×Int)->AA (Int×(List Ad)))(j:((List Ad)×Int×Int)):AA (Int×(List Ad)):=match j with |(a,e,c)=>br (decide (c<(↑(List.length a):Int))) (bd (at? a c) fun q=>bd (at? a c) fun g=>jn (AH7 h) ((List.set a c.toNat (Ad.mk e g.Ap g.Id g.A2),e,c))) (jn As3 (a,e))
def AQq(a:List Ad)(c:Int):AA (Int×(List Ad)):=A4 (AH8) big (a,c,0)
def lF:GF:=gZ [.m (.l (.st 4)),.v .i] Cm Bz 0x2a1f452046357329a5443a643efad0fe8383dd1ca79bd6e728b628412f0ca4823ac76244003eeeb32810663668d8aa2bc0c2357abc867a7a300a5e14690d89aaa14718759e65b56485a4cda09bba3413c0a0cfb0f78147917407b6ac96ad230407 [] (Ah AQq)
def AwK(g:((List A6)×Int×Int)->AA (Int×(List A6)))(h:((List A6)×Int×Int)):AA (Int×(List A6)):=match h with |(a,c,e)=>g ((a,w64 (c+1),w64 (e+1)))
def AH9(h:((List A6)×Int×Int)->AA (Int×(List A6)))(q:((List A6)×Int×Int)):AA (Int×(List A6)):=match q with |(c,g,a)=>bd (at? c a) fun j=>bd (at? c a) fun e=>jn (AwK h) ((List.set c a.toNat (A6.mk e.At (w64 (g+1))),w64 (g+1),a))
def As4(e:((List A6)×Int)):AA (Int×(List A6)):=match e with |(a,c)=>some (c,a)
def AIA(g:((List A6)×Int×Int)->AA (Int×(List A6)))(j:((List A6)×Int×Int)):AA (Int×(List A6)):=match j with |(a,e,c)=>br (decide (c<(↑(List.length a):Int))) (bd (at? a c) fun q=>bd (at? a c) fun h=>jn (AH9 g) ((List.set a c.toNat (A6.mk e h.Id),e,c))) (jn As4 (a,e))
def AQr(a:List A6)(c:Int):AA (Int×(List A6)):=A4 (AIA) big (a,c,0)
def lG:GF:=gZ [.m (.l (.st 5)),.v .i] Cm Bz 0x228a57bd2a244f940ef40491ca5f8d12e25ed81eb4e4a1eb37cdd093bbff9ea9d6f6142817d350508394a564d9b5911d57d583c1084e4d501d1775c [] (Ah AQr)
def AwL(e:((List (List A6))×Int)):AA (Int×(List (List A6))):=match e with |(c,a)=>some (a,c)
def ArX(h:((List (List A6))×Int×Int)->AA (Int×(List (List A6))))(q:((List (List A6))×Int×Int)):AA (Int×(List (List A6))):=match q with |(c,e,a)=>br (decide (a<(↑(List.length c):Int))) (bd (at? c a) fun y=>bd (at? c a) fun j=>bd (AQr j e) fun g=>gd (a.toNat=a.toNat) (bd (c[a.toNat]?) fun B=>h ((List.set c a.toNat g.snd,g.fst,w64 (a+1))))) (jn AwL (c,e))
def AQs(a:List (List A6))(c:Int):AA (Int×(List (List A6))):=A4 (ArX) big (a,c,0)
def lH:GF:=gZ [.m (.l (.l (.st 5))),.v .i] Cm Bz 0x3e6756df6c8db166e1823d7e570ea9b2812a0fabe0463d1c3c0910e47fdf81effeed7b13da27b [lG] (Ah AQs)
def AwR(q:((List AY)×Int×Int)->AA (Int×(List AY)))(B:((List AY)×Int×Int)):AA (Int×(List AY)):=match B with |(c,h,a)=>bd (at? c a) fun y=>bd (at? c a) fun j=>bd (AQs j.Bw.Ak h) fun e=>gd (a.toNat=a.toNat) (bd (c[a.toNat]?) fun g=>q ((List.set c a.toNat (AY.mk g.AV g.Row (An.mk e.snd)),e.fst,w64 (a+1))))
def AwQ(q:((List AY)×Int×Int)->AA (Int×(List AY)))(B:((List AY)×Int×Int)):AA (Int×(List AY)):=match B with |(c,h,a)=>bd (at? c a) fun y=>bd (at? c a) fun j=>bd (AQq j.Row (w64 (h+1))) fun e=>gd (a.toNat=a.toNat) (bd (c[a.toNat]?) fun g=>jn (AwR q) ((List.set c a.toNat (AY.mk g.AV e.snd g.Bw),e.fst,a)))
def AwP(h:((List AY)×Int×Int)->AA (Int×(List AY)))(q:((List AY)×Int×Int)):AA (Int×(List AY)):=match q with |(e,g,c)=>bd (at? e c) fun j=>bd (at? e c) fun a=>jn (AwQ h) ((List.set e c.toNat (AY.mk (A9.mk a.AV.Total a.AV.DT a.AV.EH a.AV.Ep (w64 (g+1))) a.Row a.Bw),w64 (g+1),c))
def AwO(h:((List AY)×Int×Int)->AA (Int×(List AY)))(q:((List AY)×Int×Int)):AA (Int×(List AY)):=match q with |(e,g,c)=>bd (at? e c) fun j=>bd (at? e c) fun a=>jn (AwP h) ((List.set e c.toNat (AY.mk (A9.mk a.AV.Total a.AV.DT a.AV.EH (w64 (g+1)) a.AV.E8) a.Row a.Bw),w64 (g+1),c))
def AwN(h:((List AY)×Int×Int)->AA (Int×(List AY)))(q:((List AY)×Int×Int)):AA (Int×(List AY)):=match q with |(e,g,c)=>bd (at? e c) fun j=>bd (at? e c) fun a=>jn (AwO h) ((List.set e c.toNat (AY.mk (A9.mk a.AV.Total a.AV.DT (w64 (g+1)) a.AV.Ep a.AV.E8) a.Row a.Bw),w64 (g+1),c))
def AwM(h:((List AY)×Int×Int)->AA (Int×(List AY)))(q:((List AY)×Int×Int)):AA (Int×(List AY)):=match q with |(e,g,c)=>bd (at? e c) fun j=>bd (at? e c) fun a=>jn (AwN h) ((List.set e c.toNat (AY.mk (A9.mk a.AV.Total (w64 (g+1)) a.AV.EH a.AV.Ep a.AV.E8) a.Row a.Bw),w64 (g+1),c))
def AwS(e:((List AY)×Int)):AA (Int×(List AY)):=match e with |(a,c)=>some (c,a)
def ArY(h:((List AY)×Int×Int)->AA (Int×(List AY)))(j:((List AY)×Int×Int)):AA (Int×(List AY)):=match j with |(c,g,e)=>br (decide (e<(↑(List.length c):Int))) (bd (at? c e) fun q=>bd (at? c e) fun a=>jn (AwM h) ((List.set c e.toNat (AY.mk (A9.mk g a.AV.DT a.AV.EH a.AV.Ep a.AV.E8) a.Row a.Bw),g,e))) (jn AwS (c,g))
def AQt(a:List AY)(c:Int):AA (Int×(List AY)):=A4 (ArY) big (a,c,0)
def lI:GF:=gZ [.m (.l (.st 7)),.v .i] Cm Bz 0x4a0295071bb988d58b1a109511ca6caf2a86bdd0e950d1a4e0efc18fe3eac64513f4c414ce71c3d49c67aaffef63f1dc479cac05bda2316a2aee08c507d599eab5e0e143e22ee58670fa662f45ccccd645ad56a6a23d3d2593540fbbe0fb9755303ba21c9751364ba15ed658add7c87448d22aad90f0fbbb88d3837382ce528a27c7b4b1190267991b0698ca3afd569a27e630c7122fa2432a28c25224e71fcd1985 [lF,lH] (Ah AQt)
def AQd(a:AD)(q:Int):AA (Int×AD):=bd (AQo a.AO q) fun c=>bd (AQp a.AG c.fst) fun e=>bd (AQt a.AI e.fst) fun g=>bd (AQn a.BC g.fst) fun h=>bd (AQn a.A8 h.fst) fun j=>some ((j.fst,AD.mk (AZ.mk c.snd.AV a.AO.CJ a.AO.Room a.AO.A2 a.AO.CB a.AO.Bq a.AO.Rest a.AO.CL a.AO.Cs) a.Now a.Ap e.snd g.snd h.snd j.snd))
def kv:GF:=gZ [.m (.st 8),.v .i] Cm Bz 0x7492377500064180b4fb0d9309fd3e3d99804493f9c4b50bbb147b4b19fd7675ae14627686ed9dad7f067d91103 [lD,lE,lI,lC] (Ah AQd)
def Avq(a:Int):AA Int:=some a
def Asn(e:List Int)(g:(Int×Int)->AA Int)(j:(Int×Int)):AA Int:=match j with |(a,c)=>br (decide (c<(↑e.length:Int))) (bd (at? e c) fun h=>br (h != a) (some (-1)) (g ((w64 (a+1),w64 (c+1))))) (jn Avq a)
def AAx(a:List Int)(c:Int):AA Int:=A4 (Asn a) big (c,0)
def cZ:GF:=gZ Qa Cm Bz 0x23d41dd4032d2a09e0c34a997461779001463f9c06437c49b7735ebea1109ff0bbf4936e8b9ccf08 [] (Ah AAx)
def AAy(a:AZ):AA AZ:=gd (0+a.AV.length<=lim) (some (AZ.mk ([]++a.AV) a.CJ a.Room a.A2 a.CB a.Bq a.Rest a.CL a.Cs))
def xF:GF:=gZ AEY (.ret [(.st 1)]) [.cell 2 (some 9)] 0x37d08b5bfb2785459b21e1718e68cd6a50b6ce [] (BL AAy)
def A0T:YF:=⟨[],[],[],.ret [(.st 6)],[.cell 0 (some 1)],dY 0x3f3e5f350eaf299d991a9991688f42da37d26e15dae71ee263e8d4c955092671a59a4bfab5b25b0fb80fa436b7e7ca5ccd02707 []⟩
def Avr(a:An):AA An:=some a
def Avs(e:(Int×An)->AA An)(g:(Int×An)):AA An:=match g with |(c,a)=>br (decide (c<9)) (gd (a.Ak.length+1<=lim) (e ((w64 (c+1),An.mk (a.Ak++[[]]))))) (jn Avr a)
def AQe:AA An:=A4 (Avs) big (0,An.mk [])
def xG:GF:=A0T.gf rfl rfl (fun a=>AQe) (fun a=>by kernel_rfl)
def AAz(a:List Int):AA (List Int):=gd (0+a.length<=lim) (some a)
def xH:GF:=gZ Alo Am1 b9 0xa65e98c56354ee5a45d [] (BL AAz)
def AHq(a:AZ):AA AZ:=bd (AAz a.AV) fun c=>some (AZ.mk c a.CJ a.Room a.A2 a.CB a.Bq a.Rest a.CL a.Cs)
def kx:GF:=gZ AEY (.ret [(.st 1)]) [.cell 2 (some 9)] 0x88d00561737a1745842a3d2f83857d25 [xH] (BL AHq)
def A0U:YF:=⟨[],[],[],.ret [(.st 6)],[.cell 0 (some 1)],dY 0x48869b1142701ec58994385e125b4df4 [] [.Nt 1 (.l (.st 5)) (.k (.int .i64 9))]⟩
def XA:AA An:=some (An.mk (List.replicate (Int.toNat 9) []))
def Xj:GF:=A0U.gf rfl rfl (fun a=>XA) (fun a=>by kernel_rfl)
def AQf(a:Bu):AA Bu:=bd (AYD a) fun c=>br (!c) (some a) (some (Bu.mk a.Data (↑a.Data.length:Int)))
def AY7:GF:=gZ ALa Awr Ayt 0xc001603b458c878f32d2370d31ebc4f1ff773a46825a262c2d2d [SD] (BL AQf)
def Avv(g:((List BX)×Int×Int)->AA (Int×(List BX)))(h:((List BX)×Int×Int)):AA (Int×(List BX)):=match h with |(a,c,e)=>g ((a,w64 (c+1),w64 (e+1)))
def Aly(h:((List BX)×Int×Int)->AA (Int×(List BX)))(q:((List BX)×Int×Int)):AA (Int×(List BX)):=match q with |(e,g,c)=>bd (at? e c) fun j=>bd (at? e c) fun a=>jn (Avv h) ((List.set e c.toNat (BX.mk a.Kind a.Id a.Aa a.Bl a.A2 (w64 (g+1))),w64 (g+1),c))
def Avu(h:((List BX)×Int×Int)->AA (Int×(List BX)))(q:((List BX)×Int×Int)):AA (Int×(List BX)):=match q with |(e,g,c)=>bd (at? e c) fun j=>bd (at? e c) fun a=>jn (Aly h) ((List.set e c.toNat (BX.mk a.Kind a.Id a.Aa a.Bl (w64 (g+1)) a.Cj),w64 (g+1),c))
def Aih(h:((List BX)×Int×Int)->AA (Int×(List BX)))(q:((List BX)×Int×Int)):AA (Int×(List BX)):=match q with |(e,g,c)=>bd (at? e c) fun j=>bd (at? e c) fun a=>jn (Avu h) ((List.set e c.toNat (BX.mk a.Kind a.Id a.Aa (w64 (g+1)) a.A2 a.Cj),w64 (g+1),c))
def Avt(h:((List BX)×Int×Int)->AA (Int×(List BX)))(q:((List BX)×Int×Int)):AA (Int×(List BX)):=match q with |(e,g,c)=>bd (at? e c) fun j=>bd (at? e c) fun a=>jn (Aih h) ((List.set e c.toNat (BX.mk a.Kind a.Id (w64 (g+1)) a.Bl a.A2 a.Cj),w64 (g+1),c))
def Aig(h:((List BX)×Int×Int)->AA (Int×(List BX)))(q:((List BX)×Int×Int)):AA (Int×(List BX)):=match q with |(e,g,c)=>bd (at? e c) fun j=>bd (at? e c) fun a=>jn (Avt h) ((List.set e c.toNat (BX.mk a.Kind (w64 (g+1)) a.Aa a.Bl a.A2 a.Cj),w64 (g+1),c))
def Aso(e:((List BX)×Int)):AA (Int×(List BX)):=match e with |(a,c)=>some (c,a)
def AjZ(h:((List BX)×Int×Int)->AA (Int×(List BX)))(j:((List BX)×Int×Int)):AA (Int×(List BX)):=match j with |(a,g,c)=>br (decide (c<(↑(List.length a):Int))) (bd (at? a c) fun q=>bd (at? a c) fun e=>jn (Aig h) ((List.set a c.toNat (BX.mk g e.Id e.Aa e.Bl e.A2 e.Cj),g,c))) (jn Aso (a,g))
def AQg(a:List BX)(c:Int):AA (Int×(List BX)):=A4 (AjZ) big (a,c,0)
def AY8:GF:=gZ [.m (.l (.st 0)),.v .i] Cm Bz 0x928f5c4aec3a8cf55ccb25bcb5e1f7b3a658f76a809f257a56ca88b0009867250d8758ea74a9d10e34ba90f8e042596c548005c648c0bd15adf7c91df531bbb16601f0568e415c2911dc58113529afa45c7428e30a4eb1e26f4bc3d380d0f14109579a994a380725825177bf5bba1cc17782ec1c191ab7849e718f08720499f3b39075cfbd36e570 [] (Ah AQg)
def AQh(a:Ae)(g:Int):AA (Int×Ae):=bd (AQd a.BD g) fun c=>bd (AQg a.Laid c.fst) fun e=>some ((e.fst,Ae.mk (AD.mk (AZ.mk c.snd.AO.AV a.BD.AO.CJ a.BD.AO.Room a.BD.AO.A2 a.BD.AO.CB a.BD.AO.Bq a.BD.AO.Rest a.BD.AO.CL a.BD.AO.Cs) a.BD.Now a.BD.Ap c.snd.AG c.snd.AI c.snd.BC c.snd.A8) a.BO a.Seq e.snd))
def Xk:GF:=gZ [.m (.st 11),.v .i] Cm Bz 0x29695c65e78c2b8c1ea0c48f9e6178a05613949b58d2de5d [kv,AY8] (Ah AQh)
def AII(c:AZ)(e:Int):AA Int:=bd (AAx c.AV e) fun a=>br (decide (a<0)) (some (-1)) (some a)
def VF:GF:=gZ [.v (.st 1),.v .i] Cm Bz 0xb9058d3f6630ede412966da932c1c1d780a347db0 [cZ] (Ah AII)
def AIK(a:Int):AA Int:=some a
def AIL(e:List AK)(y:(Int×Int)->AA Int)(L:(Int×Int)):AA Int:=match L with |(a,c)=>br (decide (c<(↑e.length:Int))) (bd (at? e c) fun B=>br (B.Id != a) (some (-1)) (bd (at? e c) fun E=>br (E.Aa != w64 (a+1)) (some (-1)) (bd (at? e c) fun G=>br (G.Bl != w64 (w64 (a+1)+1)) (some (-1)) (bd (at? e c) fun H=>br (H.A2 != w64 (w64 (w64 (a+1)+1)+1)) (some (-1)) (bd (at? e c) fun I=>br (I.Cj != w64 (w64 (w64 (w64 (a+1)+1)+1)+1)) (some (-1)) (bd (at? e c) fun J=>br (J.Since != w64 (w64 (w64 (w64 (w64 (a+1)+1)+1)+1)+1)) (some (-1)) (bd (at? e c) fun g=>br (g.Ap != w64 (w64 (w64 (w64 (w64 (w64 (a+1)+1)+1)+1)+1)+1)) (some (-1)) (bd (at? e c) fun h=>br (h.State != w64 (w64 (w64 (w64 (w64 (w64 (w64 (a+1)+1)+1)+1)+1)+1)+1)) (some (-1)) (bd (at? e c) fun j=>br (j.Cf != w64 (w64 (w64 (w64 (w64 (w64 (w64 (w64 (a+1)+1)+1)+1)+1)+1)+1)+1)) (some (-1)) (bd (at? e c) fun q=>br (q.Cu != w64 (w64 (w64 (w64 (w64 (w64 (w64 (w64 (w64 (a+1)+1)+1)+1)+1)+1)+1)+1)+1)) (some (-1)) (y ((w64 (w64 (w64 (w64 (w64 (w64 (w64 (w64 (w64 (w64 (a+1)+1)+1)+1)+1)+1)+1)+1)+1)+1),w64 (c+1)))))))))))))) (jn AIK a)
def rr(a:List AK)(c:Int):AA Int:=A4 (AIL a) big (c,0)
def SN:GF:=gZ Aqi Cm Bz 0xa0c8a352c70a5c4da108dd30ab68948c73512ede8b4d93cc45a42c4e4ead34da39c3aad071b8abd669ec095b60768a293cc6a58b95dba709b6fb199f5368bc48fdf84f94e3d933e5313e1ce3c6d2d9d536a7e16f3b02edadba6437f21e0b4a27c2fa8a927d6ffa5cfe7d1d6bb1f0a14aa159e1a57862e88b40110f222f78e4de600d03624b2d9b366efbca390a7c166a9425cfd1fd6aa0e72eb77c1e784091f8b035353b48fc1eaa23ec88c9cf3f4b8a3fcb7a19b8c1c3382b4fec23b7b2482b8466ade40ed421deb8f8a2c656e75ba406d136908606cacacbdc8c6 [] (Ah rr)
def AIM(a:Int):AA Int:=some a
def rz(e:List Ad)(g:(Int×Int)->AA Int)(B:(Int×Int)):AA Int:=match B with |(a,c)=>br (decide (c<(↑e.length:Int))) (bd (at? e c) fun h=>br (h.Level != a) (some (-1)) (bd (at? e c) fun j=>br (j.Ap != w64 (a+1)) (some (-1)) (bd (at? e c) fun q=>br (q.Id != w64 (w64 (a+1)+1)) (some (-1)) (bd (at? e c) fun y=>br (y.A2 != w64 (w64 (w64 (a+1)+1)+1)) (some (-1)) (g ((w64 (w64 (w64 (w64 (a+1)+1)+1)+1),w64 (c+1)))))))) (jn AIM a)
def nF(a:List Ad)(c:Int):AA Int:=A4 (rz a) big (c,0)
def SO:GF:=gZ Ak7 Cm Bz 0x277c0c4aa1173babeba34e0a9a4732348443de87d272a5433bd2c8fca3dfe74a153ee5023d488886d0ef276d05f1e74e5b0445b5daa0cc32974af5885ea02ce463bdcd2f2c32cdb93a97b1c4a66a4bcf4dd4c247fe2f9a313254a41b3882447454af80137 [] (Ah nF)
def AwW(a:Int):AA Int:=some a
def sB(e:List A6)(g:(Int×Int)->AA Int)(q:(Int×Int)):AA Int:=match q with |(a,c)=>br (decide (c<(↑e.length:Int))) (bd (at? e c) fun h=>br (h.At != a) (some (-1)) (bd (at? e c) fun j=>br (j.Id != w64 (a+1)) (some (-1)) (g ((w64 (w64 (a+1)+1),w64 (c+1)))))) (jn AwW a)
def AIN(a:List A6)(c:Int):AA Int:=A4 (sB a) big (c,0)
def SP:GF:=gZ [.v (.l (.st 5)),.v .i] Cm Bz 0xba93c2f8399624f2e6ae7ba4b696a40b6a5ee4da38b731cc0c22cb09700e9d54a32b1dad3163587776869cd58bd0be04ca5dd6dc864d7e8caca9e5 [] (Ah AIN)
def AwX(a:Int):AA Int:=some a
def AtA(c:List (List A6))(h:(Int×Int)->AA Int)(q:(Int×Int)):AA Int:=match q with |(e,a)=>br (decide (a<(↑c.length:Int))) (bd (at? c a) fun j=>bd (AIN j e) fun g=>br (decide (g<0)) (some (-1)) (h ((g,w64 (a+1))))) (jn AwX e)
def AIQ(a:List (List A6))(c:Int):AA Int:=A4 (AtA a) big (c,0)
def SQ:GF:=gZ [.v (.l (.l (.st 5))),.v .i] Cm Bz 0x8da48084b6055617843234638a4ae130b775a0a458ef1cdb46d14ec2be221b5ebbb53d3da886d6e8 [SP] (Ah AIQ)
def Aik(a:Int):AA Int:=some a
def Ajj(c:List AY)(q:(Int×Int)->AA Int)(J:(Int×Int)):AA Int:=match J with |(e,a)=>br (decide (a<(↑c.length:Int))) (bd (at? c a) fun y=>br (y.AV.Total != e) (some (-1)) (bd (at? c a) fun B=>br (B.AV.DT != w64 (e+1)) (some (-1)) (bd (at? c a) fun E=>br (E.AV.EH != w64 (w64 (e+1)+1)) (some (-1)) (bd (at? c a) fun G=>br (G.AV.Ep != w64 (w64 (w64 (e+1)+1)+1)) (some (-1)) (bd (at? c a) fun H=>br (H.AV.E8 != w64 (w64 (w64 (w64 (e+1)+1)+1)+1)) (some (-1)) (bd (at? c a) fun I=>bd (nF I.Row (w64 (w64 (w64 (w64 (w64 (e+1)+1)+1)+1)+1))) fun g=>br (decide (g<0)) (some (-1)) (bd (at? c a) fun j=>bd (AIQ j.Bw.Ak g) fun h=>br (decide (h<0)) (some (-1)) (q ((h,w64 (a+1))))))))))) (jn Aik e)
def AA5(a:List AY)(c:Int):AA Int:=A4 (Ajj a) big (c,0)
def SR:GF:=gZ [.v (.l (.st 7)),.v .i] Cm Bz 0x32d047f18479f51a478b7394f2443ebdb37921c20bf8a17b62ef46e096e7965452cc2a0ff459dd0885a95870bed42d32a5e5f8243709b94063e56badcf5e04904a50bb85df1b88504180799deeb6b1519ba70dca4dc6c7cd20c29a9dddb26258ce6448e3678319b891822c075ce5513c7f4539880cbdc51aae371bb852d159ace28bcfd456bb7224c69f7f00065ab0fcbb2b92a1e9663e33b5408ea3a32fadbad4de70011a2dcf4c8cd58e226b376318a88 [SO,SQ] (Ah AA5)
def AA6(a:AD)(q:Int):AA Int:=bd (AII a.AO q) fun c=>br (decide (c<0)) (some (-1)) (bd (rr a.AG c) fun e=>br (decide (e<0)) (some (-1)) (bd (AA5 a.AI e) fun g=>br (decide (g<0)) (some (-1)) (bd (AAx a.BC g) fun h=>br (decide (h<0)) (some (-1)) (bd (AAx a.A8 h) fun j=>br (decide (j<0)) (some (-1)) (some j)))))
def SS:GF:=gZ lQ Cm Bz 0x3f62f458b63d08ec699321703cfb63eade88d45958c6020a82708e74c85ba5f78e2d08a1309473c981cb704f788c05477458ac1ee0bbfd09c9f7305e5ac67d23bc2ff24016e2cecfd47fbecc16cccbcf24f6 [VF,SN,SR,cZ] (Ah AA6)
def fT(a:Int):AA Int:=some a
def sE(e:List BX)(g:(Int×Int)->AA Int)(G:(Int×Int)):AA Int:=match G with |(a,c)=>br (decide (c<(↑e.length:Int))) (bd (at? e c) fun h=>br (h.Kind != a) (some (-1)) (bd (at? e c) fun j=>br (j.Id != w64 (a+1)) (some (-1)) (bd (at? e c) fun q=>br (q.Aa != w64 (w64 (a+1)+1)) (some (-1)) (bd (at? e c) fun y=>br (y.Bl != w64 (w64 (w64 (a+1)+1)+1)) (some (-1)) (bd (at? e c) fun B=>br (B.A2 != w64 (w64 (w64 (w64 (a+1)+1)+1)+1)) (some (-1)) (bd (at? e c) fun E=>br (E.Cj != w64 (w64 (w64 (w64 (w64 (a+1)+1)+1)+1)+1)) (some (-1)) (g ((w64 (w64 (w64 (w64 (w64 (w64 (a+1)+1)+1)+1)+1)+1),w64 (c+1)))))))))) (jn fT a)
def AIR(a:List BX)(c:Int):AA Int:=A4 (sE a) big (c,0)
def Xl:GF:=gZ [.v (.l (.st 0)),.v .i] Cm Bz 0x77533c196dd7c6f964e063d7f4701f178934b223e7fd8ee71c4906cfdb1162ffd63cb102a73c726901fb14435a42663a2b88e2c124ef4b2e8c5e0edd9df4fe0c6bb54a82f151a1da474f10c8feb49d9a58493d5dee434432d1bf16f3a5db83acc3827d1b510e8df6adecf79dd33f48edc49b1db81015466d7c519b1f09284cea9643f52553007c7c373a84ad7d6 [] (Ah AIR)
def fV(a:Ae)(g:Int):AA Int:=bd (AA6 a.BD g) fun c=>br (decide (c<0)) (some (-1)) (bd (AIR a.Laid c) fun e=>br (decide (e<0)) (some (-1)) (some e))
def Ll:GF:=gZ [.v (.st 11),.v .i] Cm Bz 0x18f261f4ec45604eca6dc74476ebfd32ea4a2f09e9fe699af9480a79951d6858841e75f2d [SS,Xl] (Ah fV)
end Lv
set_option maxRecDepth 100000
namespace Lv
open Go (IntKind BinOp UnOp)
open Y (YF qn qf qt qr q1 qd qm qa qo ql qL qb qi qx qp qq qc qz qe qk qK qB qw qu qj Kp wn wf wt w1 sw sq sr wm wM wo wO wl wL wk wK wz wZ wx wX wb wB wi wI wr wR wq wQ we wE wc wY wj wh cv ca cx cn ce bl)
def AIW(a:An):AA An:=some a
def sH(g:An)(h:(Int×An)->AA An)(j:(Int×An)):AA An:=match j with |(a,c)=>br (decide (a<(↑g.Ak.length:Int))) (bd (at? g.Ak a) fun e=>gd (0+List.length e<=lim) (gd (c.Ak.length+[[]++e].length<=lim) (h ((w64 (a+1),An.mk (c.Ak++[[]++e])))))) (jn AIW c)
def AIV(a:An):AA An:=A4 (sH a) big (0,An.mk [])
def OU:GF:=gZ AsD (.ret [(.st 6)]) [.cell 2 (some 1)] 0x1ae152301bddc1b7314643059bcc68c9acf3feb5bcc9741d5eb6c4999143895e3229cfa4337db6bf1e709413e2dd9172f474817666a13e52403c538660dcc24b30f7079b58a3f819a326 [] (BL AIV)
def AIX(a:AY):AA AY:=bd (Adh a.Row) fun c=>bd (AIV a.Bw) fun e=>some (AY.mk a.AV c e)
def OV:GF:=gZ xY (.ret [(.st 7)]) [.cell 2 (some 7)] 0x10e9571345fcef505f6c62e9f43171c14ccab327915d52f57b385c98159ab99e [ATS,OU] (BL AIX)
def AsY:Y.YOp []:=.app 19 .i true (.tmp 16) (.tmp 18)
def Aql:Y.YOp []:=.app 15 (.st 2) true (.tmp 12) (.tmp 14)
def gB:Y.YOp []:=.call 7 xF [] rfl [(.tmp 6)]
def AxN:Y.B2 []:=(.op 21 none [] (.st 15 (.tmp 3) (.tmp 24)) (.dr [5,6,7,8,9,10,11,12,13,14,15,16,17,18,19,20,21,22,23,24] .nil))
def A0s:=fun a=>((.op 20 none [5,8,10,13,17,21] (.alloc 3 EW) (.nl [(.cell 3 0,.i),(.cell 3 11,(.st 2)),(.cell 3 12,(.st 7)),(.cell 3 13,.i),(.cell 3 14,.i)] a)):Y.B2 [])
def Az2:Y.B2 []:=A0s AxN
def A0t:=fun a=>((.op 19 none [] (.build 24 EW [(0,9,(.tmp 7)),(9,1,(.tmp 9)),(10,1,(.tmp 11)),(11,1,(.tmp 15)),(13,1,(.tmp 19)),(14,1,(.tmp 23))]) (.nl [(.tmp 24 12,(.st 7))] a)):Y.B2 [])
def Az3:Y.B2 []:=A0t Az2
def Az4:Y.B2 []:=(.op 18 none [8,10] (.app 23 .i true (.tmp 20) (.tmp 22)) Az3)
def Az5:Y.B2 []:=A0t AxN
def AvX:Y.B2 []:=(.op 18 none [8,10] (.app 23 .i true (.tmp 20) (.tmp 22)) Az5)
def Az6:Y.B2 []:=A0s AvX
def A0v:=fun a b=>((.both 1 a b):Y.B2 [])
def AxO:Y.B2 []:=A0v Az4 Az6
def A0w:=fun a b c=>((.op a none [5,8,10,13,17,21] (.B7 b 0 .i []) c):Y.B2 [])
def Az7:Y.B2 []:=A0w 15 20 AxO
def AxP:Y.B2 []:=A0w 15 20 AvX
def Ayw:Y.B2 []:=A0s AxP
def Ayx:Y.B2 []:=A0v Az7 Ayw
def A0x:=fun a=>((.op 14 none [8,10,21] AsY a):Y.B2 [])
def Ayy:Y.B2 []:=A0x Ayx
def Ayz:Y.B2 []:=A0x AxO
def Arr:Y.B2 []:=A0x AvX
def Ay0:Y.B2 []:=A0s Arr
def AuF:Y.B2 []:=A0v Ayz Ay0
def Ay1:Y.B2 []:=A0w 15 20 AuF
def Ay2:Y.B2 []:=A0x AxP
def Ay3:Y.B2 []:=A0w 15 20 Arr
def AuG:Y.B2 []:=A0v Ay2 Ay3
def Ay4:Y.B2 []:=A0s AuG
def Ay5:Y.B2 []:=A0v Ay1 Ay4
def Aws:Y.B2 []:=A0v Ayy Ay5
def Ay6:Y.B2 []:=A0w 11 16 Aws
def Ay7:Y.B2 []:=A0w 11 16 AuF
def AuH:Y.B2 []:=A0w 11 16 Arr
def Ay8:Y.B2 []:=A0s AuH
def Awt:Y.B2 []:=A0v Ay7 Ay8
def Ay9:Y.B2 []:=A0w 15 20 Awt
def AzA:Y.B2 []:=A0w 11 16 AuG
def AzB:Y.B2 []:=A0w 15 20 AuH
def Awu:Y.B2 []:=A0v AzA AzB
def AzC:Y.B2 []:=A0s Awu
def AzD:Y.B2 []:=A0v Ay9 AzC
def AzE:Y.B2 []:=A0v Ay6 AzD
def A0y:=fun a=>((.op 10 none [8,10,17,21] Aql a):Y.B2 [])
def AzF:Y.B2 []:=A0y AzE
def AzG:Y.B2 []:=A0y Aws
def AzH:Y.B2 []:=A0y AuF
def Aq5:Y.B2 []:=A0y Arr
def AzI:Y.B2 []:=A0s Aq5
def Ars:Y.B2 []:=A0v AzH AzI
def AzJ:Y.B2 []:=A0w 15 20 Ars
def AzK:Y.B2 []:=A0y AuG
def AzL:Y.B2 []:=A0w 15 20 Aq5
def Art:Y.B2 []:=A0v AzK AzL
def AzM:Y.B2 []:=A0s Art
def AzN:Y.B2 []:=A0v AzJ AzM
def AuI:Y.B2 []:=A0v AzG AzN
def AzO:Y.B2 []:=A0w 11 16 AuI
def AzP:Y.B2 []:=A0y Awt
def AzQ:Y.B2 []:=A0w 11 16 Ars
def AzR:Y.B2 []:=A0y AuH
def AzS:Y.B2 []:=A0w 11 16 Aq5
def Aru:Y.B2 []:=A0v AzR AzS
def AzT:Y.B2 []:=A0s Aru
def AzU:Y.B2 []:=A0v AzQ AzT
def AuJ:Y.B2 []:=A0v AzP AzU
def AzV:Y.B2 []:=A0w 15 20 AuJ
def AzW:Y.B2 []:=A0y Awu
def AzX:Y.B2 []:=A0w 11 16 Art
def AzY:Y.B2 []:=A0w 15 20 Aru
def AzZ:Y.B2 []:=A0v AzX AzY
def AuK:Y.B2 []:=A0v AzW AzZ
def Aza:Y.B2 []:=A0s AuK
def Azb:Y.B2 []:=A0v AzV Aza
def Azc:Y.B2 []:=A0v AzO Azb
def Awv:Y.B2 []:=A0v AzF Azc
def A0z:=fun a=>((.op 7 none [5,8,10,13,17,21] (.B7 12 0 (.st 2) []) a):Y.B2 [])
def Azd:Y.B2 []:=A0z Awv
def Aze:Y.B2 []:=A0z AuI
def Azf:Y.B2 []:=A0z Ars
def Arv:Y.B2 []:=A0z Aq5
def Azg:Y.B2 []:=A0s Arv
def AuL:Y.B2 []:=A0v Azf Azg
def Azh:Y.B2 []:=A0w 15 20 AuL
def Azi:Y.B2 []:=A0z Art
def Azj:Y.B2 []:=A0w 15 20 Arv
def AuM:Y.B2 []:=A0v Azi Azj
def Azk:Y.B2 []:=A0s AuM
def Azl:Y.B2 []:=A0v Azh Azk
def Aww:Y.B2 []:=A0v Aze Azl
def Azm:Y.B2 []:=A0w 11 16 Aww
def Azn:Y.B2 []:=A0z AuJ
def Azo:Y.B2 []:=A0w 11 16 AuL
def Azp:Y.B2 []:=A0z Aru
def Azq:Y.B2 []:=A0w 11 16 Arv
def AuN:Y.B2 []:=A0v Azp Azq
def Azr:Y.B2 []:=A0s AuN
def Azs:Y.B2 []:=A0v Azo Azr
def Awx:Y.B2 []:=A0v Azn Azs
def Azt:Y.B2 []:=A0w 15 20 Awx
def Azu:Y.B2 []:=A0z AuK
def Azv:Y.B2 []:=A0w 11 16 AuM
def Azw:Y.B2 []:=A0w 15 20 AuN
def Azx:Y.B2 []:=A0v Azv Azw
def Awy:Y.B2 []:=A0v Azu Azx
def Azy:Y.B2 []:=A0s Awy
def Azz:Y.B2 []:=A0v Azt Azy
def Az0:Y.B2 []:=A0v Azm Azz
def Az1:Y.B2 []:=A0v Azd Az0
def A00:=fun a=>((.op 2 none [8,10,13,17,21] gB a):Y.B2 [])
def AxS:Y.B2 []:=A00 Az1
def AxT:Y.B2 []:=A00 Awv
def AxU:Y.B2 []:=A00 AuI
def AxV:Y.B2 []:=A00 Ars
def ArD:Y.B2 []:=A00 Aq5
def AxW:Y.B2 []:=A0s ArD
def AsJ:Y.B2 []:=A0v AxV AxW
def AxX:Y.B2 []:=A0w 15 20 AsJ
def AxY:Y.B2 []:=A00 Art
def AxZ:Y.B2 []:=A0w 15 20 ArD
def AsK:Y.B2 []:=A0v AxY AxZ
def Axa:Y.B2 []:=A0s AsK
def Axb:Y.B2 []:=A0v AxX Axa
def Aur:Y.B2 []:=A0v AxU Axb
def Axc:Y.B2 []:=A0w 11 16 Aur
def Axd:Y.B2 []:=A00 AuJ
def Axe:Y.B2 []:=A0w 11 16 AsJ
def Axf:Y.B2 []:=A00 Aru
def Axg:Y.B2 []:=A0w 11 16 ArD
def AsL:Y.B2 []:=A0v Axf Axg
def Axh:Y.B2 []:=A0s AsL
def Axi:Y.B2 []:=A0v Axe Axh
def Aus:Y.B2 []:=A0v Axd Axi
def Axj:Y.B2 []:=A0w 15 20 Aus
def Axk:Y.B2 []:=A00 AuK
def Axl:Y.B2 []:=A0w 11 16 AsK
def Axm:Y.B2 []:=A0w 15 20 AsL
def Axn:Y.B2 []:=A0v Axl Axm
def Aut:Y.B2 []:=A0v Axk Axn
def Axo:Y.B2 []:=A0s Aut
def Axp:Y.B2 []:=A0v Axj Axo
def Axq:Y.B2 []:=A0v Axc Axp
def Axr:Y.B2 []:=A0v AxT Axq
def Axs:Y.B2 []:=A0z Axr
def Axt:Y.B2 []:=A00 Aww
def Axu:Y.B2 []:=A0z Aur
def Axv:Y.B2 []:=A00 AuL
def Axw:Y.B2 []:=A0z AsJ
def Axx:Y.B2 []:=A00 Arv
def Axy:Y.B2 []:=A0z ArD
def AsM:Y.B2 []:=A0v Axx Axy
def Axz:Y.B2 []:=A0s AsM
def Ax0:Y.B2 []:=A0v Axw Axz
def Auu:Y.B2 []:=A0v Axv Ax0
def Ax1:Y.B2 []:=A0w 15 20 Auu
def Ax2:Y.B2 []:=A00 AuM
def Ax3:Y.B2 []:=A0z AsK
def Ax4:Y.B2 []:=A0w 15 20 AsM
def Ax5:Y.B2 []:=A0v Ax3 Ax4
def Auv:Y.B2 []:=A0v Ax2 Ax5
def Ax6:Y.B2 []:=A0s Auv
def Ax7:Y.B2 []:=A0v Ax1 Ax6
def Ax8:Y.B2 []:=A0v Axu Ax7
def Ax9:Y.B2 []:=A0v Axt Ax8
def AyA:Y.B2 []:=A0w 11 16 Ax9
def AyB:Y.B2 []:=A00 Awx
def AyC:Y.B2 []:=A0z Aus
def AyD:Y.B2 []:=A0w 11 16 Auu
def AyE:Y.B2 []:=A00 AuN
def AyF:Y.B2 []:=A0z AsL
def AyG:Y.B2 []:=A0w 11 16 AsM
def AyH:Y.B2 []:=A0v AyF AyG
def Auw:Y.B2 []:=A0v AyE AyH
def AyI:Y.B2 []:=A0s Auw
def AyJ:Y.B2 []:=A0v AyD AyI
def AyK:Y.B2 []:=A0v AyC AyJ
def AyL:Y.B2 []:=A0v AyB AyK
def AyM:Y.B2 []:=A0w 15 20 AyL
def AyN:Y.B2 []:=A00 Awy
def AyO:Y.B2 []:=A0z Aut
def AyP:Y.B2 []:=A0w 11 16 Auv
def AyQ:Y.B2 []:=A0w 15 20 Auw
def AyR:Y.B2 []:=A0v AyP AyQ
def AyS:Y.B2 []:=A0v AyO AyR
def AyT:Y.B2 []:=A0v AyN AyS
def AyU:Y.B2 []:=A0s AyT
def AyV:Y.B2 []:=A0v AyM AyU
def AyW:Y.B2 []:=A0v AyA AyV
def AyX:Y.B2 []:=A0v Axs AyW
def AyY:Y.B2 []:=A0v AxS AyX
def AyZ:Y.B2 []:=(.op 17 none [] (.ld 22 none (.tmp 21)) AyY)
def Aya:Y.B2 []:=(.op 16 none [] (.fa 21 14 (.tmp 1)) AyZ)
def Ayb:Y.B2 []:=(.op 13 none [] (.ld 18 none (.tmp 17)) Aya)
def Ayc:Y.B2 []:=(.op 12 none [] (.fa 17 13 (.tmp 1)) Ayb)
def Ayd:Y.B2 []:=(.op 9 none [] (.ld 14 none (.tmp 13)) Ayc)
def Aye:Y.B2 []:=(.op 8 none [] (.fa 13 11 (.tmp 1)) Ayd)
def Ayf:Y.B2 []:=(.op 6 none [] (.ld 11 none (.tmp 10)) Aye)
def Ayg:Y.B2 []:=(.op 5 none [] (.fa 10 10 (.tmp 1)) Ayf)
def Ayh:Y.B2 []:=(.op 4 none [] (.ld 9 none (.tmp 8)) Ayg)
def Ayi:Y.B2 []:=(.op 3 none [] (.fa 8 9 (.tmp 1)) Ayh)
def Ayj:Y.B2 []:=(.op 1 none [] (.ld 6 (some 9) (.tmp 5)) Ayi)
def Ayk:Y.B2 []:=(.op 0 none [] (.fa 5 0 (.tmp 1)) Ayj)
def Ahv:YF:=⟨[],[.v (.st 8)],[],.ret [(.st 8)],[.cell 2 (some 15)],sq [qu 1 0,.alloc 2 EW,.Zk [(.cell 2 0,.i),(.cell 2 11,(.st 2)),(.cell 2 12,(.st 7)),(.cell 2 13,.i),(.cell 2 14,.i)]] [1,2] (.seq (.RD Ayk [1,2,3]) (.join [cx 3 (.st 8)] (sq [qK 4 0] (Kp 30) (bl 0 [cv 4 .i,cx 3 (.st 8)] (.seq (sw 25 [wm 4,wo 12 1,wL,wZ,wB .lss 25] (Kp 536870942) (ce 29 (Kp 30) [2,3] 0)) (.seq (.block 1 (.RD (qd 0 [wn 32 [wo 12 3,wL,wo 12 1,wL,wm 4,wE (.st 7) 35,wK 7]] (.op 7 none [32] (.call 39 OV [] rfl [(.tmp 38)]) (.op 8 none [32] (.B7 40 1 (.st 7) [(0,(.tmp 39))]) (qd 9 [wn 41 [wh (.app · (.st 7) false (.tmp 33) (.tmp 40)),wo 12 3],qn [qw 1 42 41]] .nil)))) [1,2,3,4])) (qr [wn 30 [wm 4,wI .add 1],qn [qa 4 31]] (Kp 30)))))) (sq [qL 43 15 3,qw 15 2 43] [2] .ret)))⟩
def b7(a:AD)(c:AZ)(X2:AA AD):AA AD:=gd (0+a.A8.length<=lim) (Ci c c (ev6 a.Now a.Ap ([]++a.AG) ([]:List AY) ([]++a.BC) ([]++a.A8) (X2)))
def L7(a:AD)(c:AZ)(X4:AA AD):AA AD:=gd (0+a.BC.length<=lim) (gd (0+a.A8.length<=lim) (Ci c c (ev6 a.Now a.Ap ([]++a.AG) ([]:List AY) ([]++a.BC) ([]++a.A8) (X4))))
def AwY(a:AD)(c:AZ)(X5:AA AD):AA AD:=gd (0+a.BC.length<=lim) (gd (0+a.A8.length<=lim) (alt (L7 a c) (Ci c c (ev6 a.Now a.Ap ([]++a.AG) ([]:List AY) ([]++a.BC) ([]++a.A8) (X5)))))
def Aqb(a:AD)(c:AZ)(X3:AA AD):AA AD:=gd (0+a.BC.length<=lim) (gd (0+a.A8.length<=lim) (alt (b7 a c) (alt (L7 a c) (alt (AwY a c) (Ci c c (ev6 a.Now a.Ap ([]++a.AG) ([]:List AY) ([]++a.BC) ([]++a.A8) (X3)))))))
def AwZ(a:AD)(c:AZ)(X7:AA AD):AA AD:=gd (0+a.BC.length<=lim) (gd (0+a.A8.length<=lim) (alt (L7 a c) (alt (L7 a c) (Ci c c (ev6 a.Now a.Ap ([]++a.AG) ([]:List AY) ([]++a.BC) ([]++a.A8) (X7))))))
def AtB(a:AD)(c:AZ)(X6:AA AD):AA AD:=gd (0+a.BC.length<=lim) (gd (0+a.A8.length<=lim) (alt (b7 a c) (alt (L7 a c) (alt (L7 a c) (alt (AwZ a c) (Ci c c (ev6 a.Now a.Ap ([]++a.AG) ([]:List AY) ([]++a.BC) ([]++a.A8) (X6))))))))
def b6(a:AD)(c:AZ)(X10:AA AD):AA AD:=gd (0+a.AG.length<=lim) (gd (0+a.BC.length<=lim) (gd (0+a.A8.length<=lim) (Ci c c (ev6 a.Now a.Ap ([]++a.AG) ([]:List AY) ([]++a.BC) ([]++a.A8) (X10)))))
def AuT(a:AD)(c:AZ)(X11:AA AD):AA AD:=gd (0+a.AG.length<=lim) (gd (0+a.BC.length<=lim) (gd (0+a.A8.length<=lim) (alt (L7 a c) (alt (b6 a c) (Ci c c (ev6 a.Now a.Ap ([]++a.AG) ([]:List AY) ([]++a.BC) ([]++a.A8) (X11)))))))
def Aqo(a:AD)(c:AZ)(X9:AA AD):AA AD:=gd (0+a.AG.length<=lim) (gd (0+a.BC.length<=lim) (gd (0+a.A8.length<=lim) (alt (b7 a c) (alt (L7 a c) (alt (b6 a c) (alt (AuT a c) (Ci c c (ev6 a.Now a.Ap ([]++a.AG) ([]:List AY) ([]++a.BC) ([]++a.A8) (X9)))))))))
def Ar0(a:AD)(c:AZ)(X14:AA AD):AA AD:=gd (0+a.AG.length<=lim) (gd (0+a.BC.length<=lim) (gd (0+a.A8.length<=lim) (alt (b6 a c) (Ci c c (ev6 a.Now a.Ap ([]++a.AG) ([]:List AY) ([]++a.BC) ([]++a.A8) (X14))))))
def Aqg(a:AD)(c:AZ)(X13:AA AD):AA AD:=gd (0+a.AG.length<=lim) (gd (0+a.BC.length<=lim) (gd (0+a.A8.length<=lim) (alt (b7 a c) (alt (L7 a c) (alt (b6 a c) (alt (Ar0 a c) (Ci c c (ev6 a.Now a.Ap ([]++a.AG) ([]:List AY) ([]++a.BC) ([]++a.A8) (X13)))))))))
def Aqh(a:AD)(c:AZ)(X16:AA AD):AA AD:=gd (0+a.AG.length<=lim) (gd (0+a.BC.length<=lim) (gd (0+a.A8.length<=lim) (alt (L7 a c) (alt (b6 a c) (alt (Ar0 a c) (Ci c c (ev6 a.Now a.Ap ([]++a.AG) ([]:List AY) ([]++a.BC) ([]++a.A8) (X16))))))))
def AuV(a:AD)(c:AZ)(X15:AA AD):AA AD:=gd (0+a.AG.length<=lim) (gd (0+a.BC.length<=lim) (gd (0+a.A8.length<=lim) (alt (L7 a c) (alt (L7 a c) (alt (Aqh a c) (Ci c c (ev6 a.Now a.Ap ([]++a.AG) ([]:List AY) ([]++a.BC) ([]++a.A8) (X15))))))))
def AuU(a:AD)(c:AZ)(X12:AA AD):AA AD:=gd (0+a.AG.length<=lim) (gd (0+a.BC.length<=lim) (gd (0+a.A8.length<=lim) (alt (b7 a c) (alt (L7 a c) (alt (L7 a c) (alt (Aqg a c) (alt (AuV a c) (Ci c c (ev6 a.Now a.Ap ([]++a.AG) ([]:List AY) ([]++a.BC) ([]++a.A8) (X12))))))))))
def AtD(a:AD)(c:AZ)(X8:AA AD):AA AD:=gd (0+a.AG.length<=lim) (gd (0+a.BC.length<=lim) (gd (0+a.A8.length<=lim) (alt (b7 a c) (alt (b7 a c) (alt (Aqb a c) (alt (Aqo a c) (alt (AuU a c) (Ci c c (ev6 a.Now a.Ap ([]++a.AG) ([]:List AY) ([]++a.BC) ([]++a.A8) (X8))))))))))
def AuX(a:AD)(c:AZ)(X19:AA AD):AA AD:=gd (0+a.AG.length<=lim) (gd (0+a.BC.length<=lim) (gd (0+a.A8.length<=lim) (alt (L7 a c) (alt (b6 a c) (alt (b6 a c) (Ci c c (ev6 a.Now a.Ap ([]++a.AG) ([]:List AY) ([]++a.BC) ([]++a.A8) (X19))))))))
def Ar1(a:AD)(c:AZ)(X18:AA AD):AA AD:=gd (0+a.AG.length<=lim) (gd (0+a.BC.length<=lim) (gd (0+a.A8.length<=lim) (alt (b7 a c) (alt (L7 a c) (alt (b6 a c) (alt (b6 a c) (alt (AuX a c) (Ci c c (ev6 a.Now a.Ap ([]++a.AG) ([]:List AY) ([]++a.BC) ([]++a.A8) (X18))))))))))
def Ar3(a:AD)(c:AZ)(X22:AA AD):AA AD:=gd (0+a.AG.length<=lim) (gd (0+a.BC.length<=lim) (gd (0+a.A8.length<=lim) (alt (b6 a c) (alt (b6 a c) (Ci c c (ev6 a.Now a.Ap ([]++a.AG) ([]:List AY) ([]++a.BC) ([]++a.A8) (X22)))))))
def Ar2(a:AD)(c:AZ)(X21:AA AD):AA AD:=gd (0+a.AG.length<=lim) (gd (0+a.BC.length<=lim) (gd (0+a.A8.length<=lim) (alt (b7 a c) (alt (L7 a c) (alt (b6 a c) (alt (b6 a c) (alt (Ar3 a c) (Ci c c (ev6 a.Now a.Ap ([]++a.AG) ([]:List AY) ([]++a.BC) ([]++a.A8) (X21))))))))))
def Ar4(a:AD)(c:AZ)(X24:AA AD):AA AD:=gd (0+a.AG.length<=lim) (gd (0+a.BC.length<=lim) (gd (0+a.A8.length<=lim) (alt (L7 a c) (alt (b6 a c) (alt (b6 a c) (alt (Ar3 a c) (Ci c c (ev6 a.Now a.Ap ([]++a.AG) ([]:List AY) ([]++a.BC) ([]++a.A8) (X24)))))))))
def AuZ(a:AD)(c:AZ)(X23:AA AD):AA AD:=gd (0+a.AG.length<=lim) (gd (0+a.BC.length<=lim) (gd (0+a.A8.length<=lim) (alt (L7 a c) (alt (L7 a c) (alt (Aqh a c) (alt (Ar4 a c) (Ci c c (ev6 a.Now a.Ap ([]++a.AG) ([]:List AY) ([]++a.BC) ([]++a.A8) (X23)))))))))
def AuY(a:AD)(c:AZ)(X20:AA AD):AA AD:=gd (0+a.AG.length<=lim) (gd (0+a.BC.length<=lim) (gd (0+a.A8.length<=lim) (alt (b7 a c) (alt (L7 a c) (alt (L7 a c) (alt (Aqg a c) (alt (Ar2 a c) (alt (AuZ a c) (Ci c c (ev6 a.Now a.Ap ([]++a.AG) ([]:List AY) ([]++a.BC) ([]++a.A8) (X20)))))))))))
def AuW(a:AD)(c:AZ)(X17:AA AD):AA AD:=gd (0+a.AG.length<=lim) (gd (0+a.BC.length<=lim) (gd (0+a.A8.length<=lim) (alt (b7 a c) (alt (b7 a c) (alt (Aqb a c) (alt (Aqo a c) (alt (Ar1 a c) (alt (AuY a c) (Ci c c (ev6 a.Now a.Ap ([]++a.AG) ([]:List AY) ([]++a.BC) ([]++a.A8) (X17)))))))))))
def gR(a:AD)(c:AZ)(X31:AA AD):AA AD:=bd (AAy a.AO) fun e=>gd (0+a.AG.length<=lim) (gd (0+a.BC.length<=lim) (gd (0+a.A8.length<=lim) (Ci c e (ev6 a.Now a.Ap ([]++a.AG) ([]:List AY) ([]++a.BC) ([]++a.A8) (X31)))))
def Auc(a:AD)(e:AZ)(X33:AA AD):AA AD:=bd (AAy a.AO) fun c=>gd (0+a.AG.length<=lim) (gd (0+a.BC.length<=lim) (gd (0+a.A8.length<=lim) (alt (L7 a c) (alt (b6 a c) (alt (gR a c) (Ci e c (ev6 a.Now a.Ap ([]++a.AG) ([]:List AY) ([]++a.BC) ([]++a.A8) (X33))))))))
def Ar5(a:AD)(e:AZ)(X29:AA AD):AA AD:=bd (AAy a.AO) fun c=>gd (0+a.AG.length<=lim) (gd (0+a.BC.length<=lim) (gd (0+a.A8.length<=lim) (alt (b7 a c) (alt (L7 a c) (alt (b6 a c) (alt (gR a c) (alt (Auc a c) (Ci e c (ev6 a.Now a.Ap ([]++a.AG) ([]:List AY) ([]++a.BC) ([]++a.A8) (X29))))))))))
def Ar7(a:AD)(e:AZ)(X39:AA AD):AA AD:=bd (AAy a.AO) fun c=>gd (0+a.AG.length<=lim) (gd (0+a.BC.length<=lim) (gd (0+a.A8.length<=lim) (alt (b6 a c) (alt (gR a c) (Ci e c (ev6 a.Now a.Ap ([]++a.AG) ([]:List AY) ([]++a.BC) ([]++a.A8) (X39)))))))
def Ar6(a:AD)(e:AZ)(X37:AA AD):AA AD:=bd (AAy a.AO) fun c=>gd (0+a.AG.length<=lim) (gd (0+a.BC.length<=lim) (gd (0+a.A8.length<=lim) (alt (b7 a c) (alt (L7 a c) (alt (b6 a c) (alt (gR a c) (alt (Ar7 a c) (Ci e c (ev6 a.Now a.Ap ([]++a.AG) ([]:List AY) ([]++a.BC) ([]++a.A8) (X37))))))))))
def Ar8(a:AD)(e:AZ)(X43:AA AD):AA AD:=bd (AAy a.AO) fun c=>gd (0+a.AG.length<=lim) (gd (0+a.BC.length<=lim) (gd (0+a.A8.length<=lim) (alt (L7 a c) (alt (b6 a c) (alt (gR a c) (alt (Ar7 a c) (Ci e c (ev6 a.Now a.Ap ([]++a.AG) ([]:List AY) ([]++a.BC) ([]++a.A8) (X43)))))))))
def Aue(a:AD)(e:AZ)(X41:AA AD):AA AD:=bd (AAy a.AO) fun c=>gd (0+a.AG.length<=lim) (gd (0+a.BC.length<=lim) (gd (0+a.A8.length<=lim) (alt (L7 a c) (alt (L7 a c) (alt (Aqh a c) (alt (Ar8 a c) (Ci e c (ev6 a.Now a.Ap ([]++a.AG) ([]:List AY) ([]++a.BC) ([]++a.A8) (X41)))))))))
def Aud(a:AD)(e:AZ)(X35:AA AD):AA AD:=bd (AAy a.AO) fun c=>gd (0+a.AG.length<=lim) (gd (0+a.BC.length<=lim) (gd (0+a.A8.length<=lim) (alt (b7 a c) (alt (L7 a c) (alt (L7 a c) (alt (Aqg a c) (alt (Ar6 a c) (alt (Aue a c) (Ci e c (ev6 a.Now a.Ap ([]++a.AG) ([]:List AY) ([]++a.BC) ([]++a.A8) (X35)))))))))))
def Aub(a:AD)(e:AZ)(X27:AA AD):AA AD:=bd (AAy a.AO) fun c=>gd (0+a.AG.length<=lim) (gd (0+a.BC.length<=lim) (gd (0+a.A8.length<=lim) (alt (b7 a c) (alt (b7 a c) (alt (Aqb a c) (alt (Aqo a c) (alt (Ar5 a c) (alt (Aud a c) (Ci e c (ev6 a.Now a.Ap ([]++a.AG) ([]:List AY) ([]++a.BC) ([]++a.A8) (X27)))))))))))
def Aq9(a:AD)(e:AZ)(X53:AA AD):AA AD:=bd (AAy a.AO) fun c=>gd (0+a.AG.length<=lim) (gd (0+a.BC.length<=lim) (gd (0+a.A8.length<=lim) (alt (gR a c) (Ci e c (ev6 a.Now a.Ap ([]++a.AG) ([]:List AY) ([]++a.BC) ([]++a.A8) (X53))))))
def Ar9(a:AD)(e:AZ)(X51:AA AD):AA AD:=bd (AAy a.AO) fun c=>gd (0+a.AG.length<=lim) (gd (0+a.BC.length<=lim) (gd (0+a.A8.length<=lim) (alt (b7 a c) (alt (L7 a c) (alt (b6 a c) (alt (gR a c) (alt (Aq9 a c) (Ci e c (ev6 a.Now a.Ap ([]++a.AG) ([]:List AY) ([]++a.BC) ([]++a.A8) (X51))))))))))
def AsA(a:AD)(e:AZ)(X57:AA AD):AA AD:=bd (AAy a.AO) fun c=>gd (0+a.AG.length<=lim) (gd (0+a.BC.length<=lim) (gd (0+a.A8.length<=lim) (alt (L7 a c) (alt (b6 a c) (alt (gR a c) (alt (Aq9 a c) (Ci e c (ev6 a.Now a.Ap ([]++a.AG) ([]:List AY) ([]++a.BC) ([]++a.A8) (X57)))))))))
def Aui(a:AD)(e:AZ)(X55:AA AD):AA AD:=bd (AAy a.AO) fun c=>gd (0+a.AG.length<=lim) (gd (0+a.BC.length<=lim) (gd (0+a.A8.length<=lim) (alt (L7 a c) (alt (b6 a c) (alt (b6 a c) (alt (AsA a c) (Ci e c (ev6 a.Now a.Ap ([]++a.AG) ([]:List AY) ([]++a.BC) ([]++a.A8) (X55)))))))))
def Auh(a:AD)(e:AZ)(X49:AA AD):AA AD:=bd (AAy a.AO) fun c=>gd (0+a.AG.length<=lim) (gd (0+a.BC.length<=lim) (gd (0+a.A8.length<=lim) (alt (b7 a c) (alt (L7 a c) (alt (b6 a c) (alt (b6 a c) (alt (Ar9 a c) (alt (Aui a c) (Ci e c (ev6 a.Now a.Ap ([]++a.AG) ([]:List AY) ([]++a.BC) ([]++a.A8) (X49)))))))))))
def Aug(a:AD)(e:AZ)(X47:AA AD):AA AD:=bd (AAy a.AO) fun c=>gd (0+a.AG.length<=lim) (gd (0+a.BC.length<=lim) (gd (0+a.A8.length<=lim) (alt (b7 a c) (alt (b7 a c) (alt (Aqb a c) (alt (Aqo a c) (alt (Ar5 a c) (alt (Auh a c) (Ci e c (ev6 a.Now a.Ap ([]++a.AG) ([]:List AY) ([]++a.BC) ([]++a.A8) (X47)))))))))))
def Aum(a:AD)(e:AZ)(X67:AA AD):AA AD:=bd (AAy a.AO) fun c=>gd (0+a.AG.length<=lim) (gd (0+a.BC.length<=lim) (gd (0+a.A8.length<=lim) (alt (b6 a c) (alt (gR a c) (alt (Aq9 a c) (Ci e c (ev6 a.Now a.Ap ([]++a.AG) ([]:List AY) ([]++a.BC) ([]++a.A8) (X67))))))))
def AsB(a:AD)(e:AZ)(X65:AA AD):AA AD:=bd (AAy a.AO) fun c=>gd (0+a.AG.length<=lim) (gd (0+a.BC.length<=lim) (gd (0+a.A8.length<=lim) (alt (b6 a c) (alt (b6 a c) (alt (Aum a c) (Ci e c (ev6 a.Now a.Ap ([]++a.AG) ([]:List AY) ([]++a.BC) ([]++a.A8) (X65))))))))
def Aul(a:AD)(e:AZ)(X63:AA AD):AA AD:=bd (AAy a.AO) fun c=>gd (0+a.AG.length<=lim) (gd (0+a.BC.length<=lim) (gd (0+a.A8.length<=lim) (alt (b7 a c) (alt (L7 a c) (alt (b6 a c) (alt (b6 a c) (alt (Ar9 a c) (alt (AsB a c) (Ci e c (ev6 a.Now a.Ap ([]++a.AG) ([]:List AY) ([]++a.BC) ([]++a.A8) (X63)))))))))))
def Auk(a:AD)(e:AZ)(X61:AA AD):AA AD:=bd (AAy a.AO) fun c=>gd (0+a.AG.length<=lim) (gd (0+a.BC.length<=lim) (gd (0+a.A8.length<=lim) (alt (b7 a c) (alt (L7 a c) (alt (L7 a c) (alt (Aqg a c) (alt (Ar6 a c) (alt (Aul a c) (Ci e c (ev6 a.Now a.Ap ([]++a.AG) ([]:List AY) ([]++a.BC) ([]++a.A8) (X61)))))))))))
def Aup(a:AD)(e:AZ)(X73:AA AD):AA AD:=bd (AAy a.AO) fun c=>gd (0+a.AG.length<=lim) (gd (0+a.BC.length<=lim) (gd (0+a.A8.length<=lim) (alt (L7 a c) (alt (b6 a c) (alt (b6 a c) (alt (AsA a c) (alt (AsB a c) (Ci e c (ev6 a.Now a.Ap ([]++a.AG) ([]:List AY) ([]++a.BC) ([]++a.A8) (X73))))))))))
def Auo(a:AD)(e:AZ)(X71:AA AD):AA AD:=bd (AAy a.AO) fun c=>gd (0+a.AG.length<=lim) (gd (0+a.BC.length<=lim) (gd (0+a.A8.length<=lim) (alt (L7 a c) (alt (L7 a c) (alt (Aqh a c) (alt (Ar8 a c) (alt (Aup a c) (Ci e c (ev6 a.Now a.Ap ([]++a.AG) ([]:List AY) ([]++a.BC) ([]++a.A8) (X71))))))))))
def Aun(a:AD)(e:AZ)(X69:AA AD):AA AD:=bd (AAy a.AO) fun c=>gd (0+a.AG.length<=lim) (gd (0+a.BC.length<=lim) (gd (0+a.A8.length<=lim) (alt (L7 a c) (alt (L7 a c) (alt (Aqh a c) (alt (Ar4 a c) (alt (Auo a c) (Ci e c (ev6 a.Now a.Ap ([]++a.AG) ([]:List AY) ([]++a.BC) ([]++a.A8) (X69))))))))))
def Auj(c:AD)(e:AZ)(X59:AA AD):AA AD:=bd (AAy c.AO) fun a=>gd (0+c.AG.length<=lim) (gd (0+c.BC.length<=lim) (gd (0+c.A8.length<=lim) (alt (b7 c a) (alt (L7 c a) (alt (L7 c a) (alt (Aqg c a) (alt (Ar2 c a) (alt (Auk c a) (alt (Aun c a) (Ci e a (ev6 c.Now c.Ap ([]++c.AG) ([]:List AY) ([]++c.BC) ([]++c.A8) (X59))))))))))))
def Auf(c:AD)(e:AZ)(X45:AA AD):AA AD:=bd (AAy c.AO) fun a=>gd (0+c.AG.length<=lim) (gd (0+c.BC.length<=lim) (gd (0+c.A8.length<=lim) (alt (b7 c a) (alt (b7 c a) (alt (Aqb c a) (alt (Aqo c a) (alt (Ar1 c a) (alt (Aug c a) (alt (Auj c a) (Ci e a (ev6 c.Now c.Ap ([]++c.AG) ([]:List AY) ([]++c.BC) ([]++c.A8) (X45))))))))))))
def Aua(c:AD)(e:AZ)(X25:AA AD):AA AD:=bd (AAy c.AO) fun a=>gd (0+c.AG.length<=lim) (gd (0+c.BC.length<=lim) (gd (0+c.A8.length<=lim) (alt (b7 c a) (alt (b7 c a) (alt (Aqb c a) (alt (AtB c a) (alt (AtD c a) (alt (Aub c a) (alt (Auf c a) (Ci e a (ev6 c.Now c.Ap ([]++c.AG) ([]:List AY) ([]++c.BC) ([]++c.A8) (X25))))))))))))
def Auq(a:AD):AA AD:=some a
def AsC(j:AD)(g:(Int×AD)->AA AD)(q:(Int×AD)):AA AD:=match q with |(c,a)=>br (decide (c<(↑j.AI.length:Int))) (bd (at? j.AI c) fun h=>bd (AIX h) fun e=>gd (a.AI.length+[e].length<=lim) (g ((w64 (c+1),AD.mk a.AO a.Now a.Ap a.AG (a.AI++[e]) a.BC a.A8)))) (jn Auq a)
def AA7(a:AD):AA AD:=bd (AAy a.AO) fun c=>gd (0+a.AG.length<=lim) (gd (0+a.BC.length<=lim) (gd (0+a.A8.length<=lim) (alt (b7 a c) (alt (b7 a c) (alt (Aqb a c) (alt (AtB a c) (alt (AtD a c) (alt (AuW a c) (alt (Aua a c) (A4 (AsC a) big ((0,AD.mk c a.Now a.Ap ([]++a.AG) [] ([]++a.BC) ([]++a.A8)))))))))))))
def Xm:GF:=Ahv.D2 (BL AA7)
def AYG(a:BX):AA (List UInt8):=bd (AQS a) fun c=>br (!c) (some []) (br (a.Kind==1) (bd (AQi ([a.Kind,a.Id,a.Aa,w64 (a.Bl+1),a.A2,a.Cj])) fun e=>some e) (br (a.Kind==3) (bd (AQi ([a.Kind,a.Aa,a.A2])) fun g=>some g) (br (a.Kind==6) (bd (AQi [a.Kind]) fun h=>some h) (bd (AQi ([a.Kind,a.Id])) fun j=>some j))))
def Xn:GF:=gZ [.v (.st 0)] Am2 b9 0x3c7bce442a174cb04cb73ed5375afccd0dcb57bc22667421ae2f49777a8155333a7fd871bd1c96d229f156ee1149a00166c84fa1bca8d5feec31c0ac524c7619e7c6824c3d3402c8e28b64ac08c9d2e193f09bcb3679033be641917ece21a3404a [R0,SI] (BL AYG)
def AtE(h:Int)(a:List UInt8)(j:Bool):AA (List UInt8):=br j (some []) (bd (nD h) fun c=>gd (List.length c+a.length<=On) (bd (AYF (c++a)) fun q=>bd (AA1 q) fun e=>gd (List.length e+(c++a).length<=On) (bd (nD ((↑(e++(c++a)).length:Int))) fun g=>gd (List.length g+(e++(c++a)).length<=On) (some (g++(e++(c++a)))))))
def AQ0(a:Int)(c:List UInt8):AA (List UInt8):=bd (Afl a 1 1000000) fun e=>br (!e) (jn (AtE a c) true) (bd (Afl (↑c.length:Int) 1 60) fun g=>jn (AtE a c) (!g))
def Xo:GF:=gZ [.v .i,.v .s] Am2 Bz 0x39d8528ab6664c02aa806f1ae3e15d97aaff02094d4ccf60baa16b6a01ab8cf4e892624ebf48ac0befb7841fbc406ff04580bf512bf [ATF,QQ,SJ,OS] (Ah AQ0) [.OB 22 (.tmp 21)]
def AA8(a:List Ad):AA (List Ad):=gd (0+a.length<=lim) (some a)
def AZB:GF:=gZ AvS AvU b9 0x277feb6285c8dac32563 [] (BL AA8)
def fW(a:An):AA An:=some a
def sL(g:An)(h:(Int×An)->AA An)(j:(Int×An)):AA An:=match j with |(a,c)=>br (decide (a<(↑g.Ak.length:Int))) (bd (at? g.Ak a) fun e=>gd (0+List.length e<=lim) (gd (c.Ak.length+[e].length<=lim) (h ((w64 (a+1),An.mk (c.Ak++[e])))))) (jn fW c)
def AQ1(a:An):AA An:=A4 (sL a) big (0,An.mk [])
def Xp:GF:=gZ AsD (.ret [(.st 6)]) [.cell 2 (some 1)] 0x1a906e6583f4090b0621c2d77312d205b4774a0353baeacde25a9b3859446ad3c39336778bd7e108c27f50e012760a568c56263e79d0bdaa1742cc30219e4c [] (BL AQ1)
def sO(a:AY):AA AY:=bd (AA8 a.Row) fun c=>bd (AQ1 a.Bw) fun e=>some (AY.mk a.AV c e)
def lJ:GF:=gZ xY (.ret [(.st 7)]) [.cell 2 (some 7)] 0x10e9571345fcef505f6c62e9f43171c14ccab327915d52f57b385c98159ab99e [AZB,Xp] (BL sO)
def Awa(a:AD):AA AD:=some a
def AtF(j:AD)(g:(Int×AD)->AA AD)(q:(Int×AD)):AA AD:=match q with |(c,a)=>br (decide (c<(↑j.AI.length:Int))) (bd (at? j.AI c) fun h=>bd (sO h) fun e=>gd (a.AI.length+[e].length<=lim) (g ((w64 (c+1),AD.mk a.AO a.Now a.Ap a.AG (a.AI++[e]) a.BC a.A8)))) (jn Awa a)
def AYN(a:AD):AA AD:=bd (AHq a.AO) fun c=>gd (0+a.AG.length<=lim) (bd (AAz a.BC) fun e=>bd (AAz a.A8) fun g=>bd (AAz a.A8) fun q=>Ci c c (ev5 a.Now a.Ap a.AG ([]:List AY) e (eqv g q (bd (AAz a.BC) fun y=>bd (AAz a.A8) fun B=>Ci c c (ev4 a.Now a.Ap a.AG ([]:List AY) (eqv e y (eqv g B (gd (0+a.AG.length<=lim) (bd (AAz a.BC) fun E=>bd (AAz a.A8) fun G=>Ci c c (ev4 a.Now a.Ap a.AG ([]:List AY) (eqv e E (eqv g G (bd (AHq a.AO) fun H=>gd (0+a.AG.length<=lim) (bd (AAz a.BC) fun h=>bd (AAz a.A8) fun j=>Ci c H (ev4 a.Now a.Ap a.AG ([]:List AY) (eqv e h (eqv g j (A4 (AtF a) big (0,AD.mk c a.Now a.Ap a.AG [] e g)))))))))))))))))))
def AD6:GF:=gZ Aqu Vd [.cell 2 (some 15)] 0xa64de33805662b8ff2bb5129a4390800b8396ac12d1f335542f5f86be52f344519c3d5562d66473cac88ebfb4c75fb2db46b93f761c2f661cc9863eab6bf7df15a27d2b34fea803724840b0c8f38ec76568b661b331eb1b4cdc54ba462bfe471a4f49a76106fcc75320a9509a2e6ef01431922a2a5b16c46ee86e77d8321562d8b070232386de1825d6f416f147ee7f514cb2c1dc435d9b437d540772bdb9ed28aad9de09419f11b387d8ab8de217fc13f28f8db896d91b279897acd043b424a9bcc3e69bca8cda7cc5eee3132b23831e270ebab1e2dc83f7c4d7744e6618fd849785195bdfae5bbefd2a23a41d5e11914227c78ae649c2b92a80a3b1ccd28d1507c3015b6cfabb521f64a1eb17eb7509685bfffd6f2f8c6090c8c378b676add566cb782abaaf7316efecd3295e56141 [kx,xH,lJ] (BL AYN)
def Aq0(a:List Int):AA (List UInt8):=bd (fP a) fun c=>some c
def AQ2(a:BX):AA (List UInt8):=bd (AQb a) fun c=>br (!c) (some []) (br (a.Kind==1) (gd ([a.Kind].length+[a.Id,a.Aa,w64 (a.Bl+1),a.A2,a.Cj].length<=lim) (jn (Aq0) ([a.Kind]++[a.Id,a.Aa,w64 (a.Bl+1),a.A2,a.Cj]))) (br (a.Kind==3) (gd ([a.Kind].length+[a.Aa,a.A2].length<=lim) (jn (Aq0) ([a.Kind]++[a.Aa,a.A2]))) (br (a.Kind==6) (jn Aq0 [a.Kind]) (gd ([a.Kind].length+[a.Id].length<=lim) (jn (Aq0) ([a.Kind]++[a.Id]))))))
def AD7:GF:=gZ [.v (.st 0)] Am2 b9 0x1747d95cbf52844a4b48f8496144edf15a589cfe2516420472d474589737ca6c2c026bfbc12ab8757010cf59497966881edb546d5dc38a548c3d2081c7dfc6ba426c68a296554298ae8d3da66005261510c1082294c08070d49da1d175fa198e86ca921ee9 [QL,OT] (BL AQ2)
def AtG(h:Int)(c:List UInt8)(j:Bool):AA (List UInt8):=br j (some []) (bd (WY h) fun e=>gd (List.length e+c.length<=lim) (bd (fQ (e++c)) fun a=>gd ([toB (Dx a 24),toB (Dx a 16),toB (Dx a 8),toB a].length+(e++c).length<=lim) (bd (WY ((↑([toB (Dx a 24),toB (Dx a 16),toB (Dx a 8),toB a]++(e++c)).length:Int))) fun g=>gd (List.length g+([toB (Dx a 24),toB (Dx a 16),toB (Dx a 8),toB a]++(e++c)).length<=On) (some (g++([toB (Dx a 24),toB (Dx a 16),toB (Dx a 8),toB a]++(e++c)))))))
def AQ3(a:Int)(c:List UInt8):AA (List UInt8):=bd (qC a 1 1000000) fun e=>br (!e) (jn (AtG a c) true) (bd (qC (↑c.length:Int) 1 60) fun g=>jn (AtG a c) (!g))
def AD8:GF:=gZ [.v .i,.v .s] Am2 Bz 0x10582a09dc08bef13358c5faadc7621399554d34a29c0afe8e0ef3c6f9958108d6e43ddbf3035904c4c7fe13c90a105c1babe049ce4916aef34e7495ad154a3db96fdbc6b49298cbd5786b1037478896afacdc03ffb62aa79c63eaf0377 [OE,VC,SL] (Ah AQ3)
end Lv
