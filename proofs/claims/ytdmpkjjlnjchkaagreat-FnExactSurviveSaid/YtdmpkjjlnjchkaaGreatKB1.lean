/- Functions of the program as typed texts and as plain functions. -/
import Derived.Test.YtdmpkjjlnjchkaaGreatKA1
noncomputable section
set_option linter.unusedVariables false
set_option linter.unusedSimpArgs false
set_option linter.unusedSectionVars false
set_option maxRecDepth 100000
namespace Lv
open Go (IntKind BinOp UnOp)
open Y (YF qn qf qt qr q1 qd qm qa qo ql qL qb qi qx qp qq qc qz qe qk qK qB qw qu qj Kp wn wf wt w1 sw sq sr wm wM wo wO wl wL wk wK wz wZ wx wX wb wB wi wI wr wR wq wQ we wE wc wY wj wh cv ca cx cn ce bl)
def AIQ(a:AZ):AA (List Int):=bd (eU a) fun c=>br (!c) (some []) (gd ([a.CJ,a.Room,a.A2,a.CB,a.Bq,a.Rest,a.CL,a.Cs].length+a.AV.length<=lim) (some ([a.CJ,a.Room,a.A2,a.CB,a.Bq,a.Rest,a.CL,a.Cs]++a.AV)))
def SQ:GF:=gZ Aic lr b9 0x4b3e632664dd5b96e1d9a77d75f37423370a4a11140a7fe824d6f5148ee5dee9e7bf5749d070798d1c14b4ebe7 [Kt] (BL AIQ)
def Ap4:YF:=⟨[],[.v (.st 8)],[],.ret [(.l .i)],[.tmp 2],sq [qu 1 0,.as 2 (.k .nil)] [1] (.seq (sw 11 [wk 15 1,wY Ji rfl,wX] [1,13] (cn 13 [1] (sq [.as 2 (.k .nil)] [2] .ret))) (sr [wn 14 [wo 0 1,wK 9,wY SQ rfl],qn [qa 3 16]] [1,3] (sr [wn 17 [wm 3,wZ,wh (.B7 · 1 .i [(0,(.tmp 18))]),wm 3,wh (.app · .i true (.tmp 19) (.tmp 20))],qn [qa 4 21]] [1,4] (sr [wn 22 [wm 4,wo 9 1,wL,wo 10 1,wL,wo 11 1,wL,wZ,wh (.B7 · 3 .i [(0,(.tmp 24)),(1,(.tmp 26)),(2,(.tmp 29))]),wh (.app · .i true (.tmp 22) (.tmp 30))],qn [qa 4 31]] [1,4] (.join [cv 4 (.l .i)] (sw 32 [wo 11 1,wL,wZ,wj 0] (Kp 60129542162) (bl 0 [cv 4 (.l .i),cv 35 .i] (sq [qb 36 .lss 35 34] (Kp 128849018898) (.seq (ce 36 (Kp 60129542162) [1,4] 0) (.seq (.block 1 (sr [wn 37 [we (.st 2) 33 35,wK 10],qn [.alloc 6 HW,qw 10 6 38]] (Kp 60129542226) (qr [wn 39 [wm 4,wo 0 6,wL,wo 1 6,wL,wo 2 6,wL,wI .add 1,wo 3 6,wL,wo 4 6,wL,wo 5 6,wL,wo 6 6,wL,wo 7 6,wL,wo 8 6,wL,wo 9 6,wL,wh (.B7 · 10 .i [(0,(.tmp 41)),(1,(.tmp 43)),(2,(.tmp 46)),(3,(.tmp 48)),(4,(.tmp 50)),(5,(.tmp 52)),(6,(.tmp 54)),(7,(.tmp 56)),(8,(.tmp 58)),(9,(.tmp 60))]),wh (.app · .i true (.tmp 39) (.tmp 61))],qn [qa 4 62]] (Kp 60129542162)))) (q1 [qi 63 .add 35 1,qm 35 63] (Kp 60129542162))))))) (.join [cv 4 (.l .i)] (sw 64 [wo 12 1,wL,wZ,wj 0] [1,4,65,66,67] (bl 2 [cv 4 (.l .i),cv 67 .i] (sq [qb 68 .lss 67 66] [1,4,65,66,67,68] (.seq (ce 68 [1,4,65,66,67] [1,4] 2) (.seq (.block 3 (sr [wn 69 [we (.st 7) 65 67,wK 7],qn [.alloc 8 AUY,.Zk [(.cell 8 5,(.st 4)),(.cell 8 6,(.l (.st 5)))],qw 7 8 70]] [1,4,8,65,66,67] (qr [wn 71 [wm 4,wo 0 8,wO 1,wL,wh (.B7 · 1 .i [(0,(.tmp 74))]),wh (.app · .i true (.tmp 71) (.tmp 75))],qn [qa 4 76]] [1,4,65,66,67]))) (q1 [qi 77 .add 67 1,qm 67 77] [1,4,65,66,67])))))) (sr [wn 78 [wm 4,wo 13 1,wL,wZ,wh (.B7 · 1 .i [(0,(.tmp 81))]),wh (.app · .i true (.tmp 78) (.tmp 82))],qn [qa 4 83]] [1,4] (sr [wn 84 [wm 4,wo 13 1,wL,wh (.app · .i true (.tmp 84) (.tmp 86))],qn [qa 4 87]] [1,4] (.join [cv 4 (.l .i)] (sw 88 [wo 14 1,wL,wZ,wj 0] [4,89,90,91] (bl 4 [cv 4 (.l .i),cv 91 .i] (sq [qb 92 .lss 91 90] [4,89,90,91,92] (.seq (ce 92 [4,89,90,91] [4] 4) (.seq (.block 5 (sr [wn 93 [we .i 89 91,wL],qn [qa 10 94]] [4,10,89,90,91] (qr [wn 95 [wm 4,wm 10,wI .add 1,wh (.B7 · 1 .i [(0,(.tmp 97))]),wh (.app · .i true (.tmp 95) (.tmp 98))],qn [qa 4 99]] [4,89,90,91]))) (q1 [qi 100 .add 91 1,qm 91 100] [4,89,90,91])))))) (sq [qm 101 4,qa 2 101] [2] .ret))))))))))⟩
def Al6(a:List Int):AA (List Int):=some a
def Ajl(h:AD)(g:((List Int)×Int)->AA (List Int))(j:((List Int)×Int)):AA (List Int):=match j with |(a,c)=>br (decide (c<(↑h.A8.length:Int))) (bd (at? h.A8 c) fun e=>gd (List.length a+[w64 (e+1)].length<=lim) (g ((a++[w64 (e+1)],w64 (c+1))))) (jn Al6 a)
def Ail(c:AD)(a:List Int):AA (List Int):=gd (a.length+[(↑c.BC.length:Int)].length<=lim) (gd ((a++[(↑c.BC.length:Int)]).length+c.BC.length<=lim) (A4 (Ajl c) big ((a++[(↑c.BC.length:Int)]++c.BC,0))))
def Ajk(e:AD)(h:((List Int)×Int)->AA (List Int))(j:((List Int)×Int)):AA (List Int):=match j with |(g,a)=>br (decide (a<(↑e.AI.length:Int))) (bd (at? e.AI a) fun c=>gd (List.length g+[c.AV.DT].length<=lim) (h ((g++[c.AV.DT],w64 (a+1))))) (jn (Ail e) g)
def Aik(a:AD)(c:List Int):AA (List Int):=A4 (Ajk a) big (c,0)
def Ajj(c:AD)(h:((List Int)×Int)->AA (List Int))(j:((List Int)×Int)):AA (List Int):=match j with |(e,g)=>br (decide (g<(↑c.AG.length:Int))) (bd (at? c.AG g) fun a=>gd (List.length e+[a.Id,a.Aa,w64 (a.Bl+1),a.A2,a.Cj,a.Since,a.Ap,a.State,a.Cf,a.Cu].length<=lim) (h ((e++[a.Id,a.Aa,w64 (a.Bl+1),a.A2,a.Cj,a.Since,a.Ap,a.State,a.Cf,a.Cu],w64 (g+1))))) (jn (Aik c) e)
def AA5(a:AD):AA (List Int):=bd (WX a) fun e=>br (!e) (none) (bd (AIQ a.AO) fun c=>gd ([(↑(List.length c):Int)].length+List.length c<=lim) (gd (([(↑(List.length c):Int)]++c).length+[a.Now,a.Ap,(↑a.AG.length:Int)].length<=lim) (A4 (Ajj a) big (([(↑(List.length c):Int)]++c++[a.Now,a.Ap,(↑a.AG.length:Int)],0)))))
def SR:GF:=Ap4.D2 (BL AA5)
def Al7(e:(Int×(List UInt8))):AA (List UInt8):=match e with |(a,c)=>gd (c.length+[toB a].length<=lim) (some (c++[toB a]))
def Al8(e:(Int×(List UInt8))->AA (List UInt8))(g:(Int×(List UInt8))):AA (List UInt8):=match g with |(a,c)=>br (decide (a>=128)) (gd (c.length+[toB (w64 (Int.tmod a 128+128))].length<=lim) (e ((w64 (Int.tdiv a 128),c++[toB (w64 (Int.tmod a 128+128))])))) (jn Al7 (a,c))
def AA6(a:Int):AA (List UInt8):=bd (DE a 0 2147483647) fun c=>br (!c) (some []) (A4 (Al8) big (a,[]))
def SS:GF:=gZ AjP (.ret [(.l .u)]) b9 0x4de1aab68d790eb3b7d67f915c9685702b78d809952680c6ed3742041f98ea9b65e5d34c4be832851855911fb58610355ba4c0a240964a36a1071a7d0 [EC] (BL AA6)
def fT(a:List UInt8):AA (List UInt8):=some a
def sE(e:List Int)(h:((List UInt8)×Int)->AA (List UInt8))(q:((List UInt8)×Int)):AA (List UInt8):=match q with |(a,c)=>br (decide (c<(↑e.length:Int))) (bd (at? e c) fun j=>bd (AA6 j) fun g=>gd (List.length a+List.length g<=lim) (h ((a++g,w64 (c+1))))) (jn fT a)
def AIR(a:List Int):AA (List UInt8):=A4 (sE a) big ([],0)
def Xl:GF:=gZ ACS AiY b9 0x6dd322f4cf6ab4759883c6bfaf290fad9ab03282d07aed7a5a05989aecb55cb8ae4f94c3e77d85f2ed13c267a12f6c10db53cd [SS] (BL AIR)
def Ajm(a:(Int×Int)->AA Int)(c:Int)(e:Int):AA Int:=a ((e,w64 (c+1)))
def Al9(a:(Int×Int)->AA Int)(c:Int)(e:Int):AA Int:=a ((e,w64 (c+1)))
def Ajn(g:(Int×Int)->AA Int)(h:Int)(e:(Int×Int)->AA Int)(j:(Int×Int)):AA Int:=match j with |(a,c)=>br (decide (c<8)) (br (pP a 1==1) (jn (Ajm e c) (bN (Dx a 1) 3988292384)) (jn (Ajm e c) (Dx a 1))) (jn (Al9 g h) a)
def AmA(a:Int):AA Int:=some (bN a 4294967295)
def AIU(c:List UInt8)(g:(Int×Int)->AA Int)(j:(Int×Int)):AA Int:=match j with |(e,a)=>br (decide (a<(↑c.length:Int))) (bd (at? c a) fun h=>A4 (Ajn g a) big ((bN e (w64 (↑(UInt8.toNat h):Int)),0))) (jn AmA e)
def fV(a:List UInt8):AA Int:=A4 (AIU a) big (4294967295,0)
def Ll:GF:=gZ [.v (.l .u)] Cm b9 0x10056d109efbdfb97055c4814553636abb89f56e10550c1e3a2921328605f3b929d7744665e82012fff579770404cf02d47c99e58fcc23df2a9f0ccd59f15cfbe47756f9de5b10d440e6f3297dd6028d4da6bdb4e514702c5c04411fa3645ee740a641199eb [] (BL fV)
def Ap5:YF:=⟨[],[.v (.st 8),.v .i],[],.ret [.s],[.tmp 4],sq [qu 2 0,.as 4 (.k (.str []))] [1,2] (sr [wn 8 [wk 15 2,wY SR rfl],qn [qa 5 9]] [1,5] (.seq (sr [wn 10 [wm 5,wh (.bin · .sl .eql (.tmp 10) (.k .nil)),wM],wf 12 13 [wm 1,wc EC rfl [13,qj 0,qj 1000000],wX],qn [qp 16 12 15]] [1,5,16] (cn 16 [1,5] (sq [.as 4 (.k (.str []))] [4] .ret))) (.seq (.RD (.op 0 none [] (.mv 17 (.tmp 1)) (.op 3 none [] (.mv 20 (.tmp 5)) (qd 1 [wn 18 [wY SS rfl,wh (.Ru · (.tmp 18))]] (.op 4 none [18] (.call 21 Xl [] rfl [(.tmp 20)]) (qd 5 [qn [qb 22 .add 19 21,qa 6 22]] .nil))))) [6]) (sr [wn 23 [wm 6,wh (.OB · (.tmp 23)),wY Ll rfl],qn [qa 7 25]] [6,7] (sr [wn 26 [wm 7,wh (.bin · .num .shr (.tmp 26) (.k (.int .u64 24))),wh (.cvI · .u8 (.tmp 27)),wm 7,wh (.bin · .num .shr (.tmp 29) (.k (.int .u64 16))),wh (.cvI · .u8 (.tmp 30)),wm 7,wh (.bin · .num .shr (.tmp 32) (.k (.int .u64 8))),wh (.cvI · .u8 (.tmp 33)),wm 7,wh (.cvI · .u8 (.tmp 35)),wh (.B7 · 4 .u [(0,(.tmp 28)),(1,(.tmp 31)),(2,(.tmp 34)),(3,(.tmp 36))]),wh (.Ru · (.tmp 37)),wm 6,wB .add 38],qn [qa 4 40]] [4] .ret)))))⟩
def AIV(j:AD)(g:Int):AA (List UInt8):=bd (AA5 j) fun h=>gd (List.isEmpty h=false) (bd (DE g 0 1000000) fun q=>br (!q) (some []) (bd (AA6 g) fun c=>bd (AIR h) fun e=>gd (List.length c+List.length e<=On) (bd (fV (c++e)) fun a=>gd ([toB (Dx a 24),toB (Dx a 16),toB (Dx a 8),toB a].length+(c++e).length<=On) (some ([toB (Dx a 24),toB (Dx a 16),toB (Dx a 8),toB a]++(c++e))))))
def OU:GF:=Ap5.D2 (Ah AIV)
def Ap6:YF:=⟨[],[.v (.st 8)],[],.ret [.z],[.tmp 2],sq [qu 1 0,.as 2 (.k .nil)] [1] (.seq (sw 11 [wk 15 1,wY Ji rfl,wX] [1,13] (cn 13 [1] (sq [.as 2 (.k .nil)] [2] .ret))) (sr [wn 14 [wo 0 1,wK 9,wY SQ rfl],qn [qa 3 16]] [1,3] (sr [wn 17 [wm 3,wZ,wh (.B7 · 1 .i [(0,(.tmp 18))]),wm 3,wh (.app · .i true (.tmp 19) (.tmp 20))],qn [qa 4 21]] [1,4] (sr [wn 22 [wm 4,wo 9 1,wL,wo 10 1,wL,wo 11 1,wL,wZ,wh (.B7 · 3 .i [(0,(.tmp 24)),(1,(.tmp 26)),(2,(.tmp 29))]),wh (.app · .i true (.tmp 22) (.tmp 30))],qn [qa 4 31]] [1,4] (.join [cv 4 (.l .i)] (sw 32 [wo 11 1,wL,wZ,wj 0] (Kp 60129542162) (bl 0 [cv 4 (.l .i),cv 35 .i] (sq [qb 36 .lss 35 34] (Kp 128849018898) (.seq (ce 36 (Kp 60129542162) [1,4] 0) (.seq (.block 1 (sr [wn 37 [we (.st 2) 33 35,wK 10],qn [.alloc 6 HW,qw 10 6 38]] (Kp 60129542226) (qr [wn 39 [wm 4,wo 0 6,wL,wo 1 6,wL,wo 2 6,wL,wI .add 1,wo 3 6,wL,wo 4 6,wL,wo 5 6,wL,wo 6 6,wL,wo 7 6,wL,wo 8 6,wL,wo 9 6,wL,wh (.B7 · 10 .i [(0,(.tmp 41)),(1,(.tmp 43)),(2,(.tmp 46)),(3,(.tmp 48)),(4,(.tmp 50)),(5,(.tmp 52)),(6,(.tmp 54)),(7,(.tmp 56)),(8,(.tmp 58)),(9,(.tmp 60))]),wh (.app · .i true (.tmp 39) (.tmp 61))],qn [qa 4 62]] (Kp 60129542162)))) (q1 [qi 63 .add 35 1,qm 35 63] (Kp 60129542162))))))) (.join [cv 4 (.l .i)] (sw 64 [wo 12 1,wL,wZ,wj 0] [1,4,65,66,67] (bl 2 [cv 4 (.l .i),cv 67 .i] (sq [qb 68 .lss 67 66] [1,4,65,66,67,68] (.seq (ce 68 [1,4,65,66,67] [1,4] 2) (.seq (.block 3 (sr [wn 69 [we (.st 7) 65 67,wK 7],qn [.alloc 8 AUY,.Zk [(.cell 8 5,(.st 4)),(.cell 8 6,(.l (.st 5)))],qw 7 8 70]] [1,4,8,65,66,67] (qr [wn 71 [wm 4,wo 0 8,wO 1,wL,wh (.B7 · 1 .i [(0,(.tmp 74))]),wh (.app · .i true (.tmp 71) (.tmp 75))],qn [qa 4 76]] [1,4,65,66,67]))) (q1 [qi 77 .add 67 1,qm 67 77] [1,4,65,66,67])))))) (sr [wn 78 [wm 4,wo 13 1,wL,wZ,wh (.B7 · 1 .i [(0,(.tmp 81))]),wh (.app · .i true (.tmp 78) (.tmp 82))],qn [qa 4 83]] [1,4] (sr [wn 84 [wm 4,wo 13 1,wL,wh (.app · .i true (.tmp 84) (.tmp 86))],qn [qa 4 87]] [1,4] (.join [cv 4 (.l .i)] (sw 88 [wo 14 1,wL,wZ,wj 0] [4,89,90,91] (bl 4 [cv 4 (.l .i),cv 91 .i] (sq [qb 92 .lss 91 90] [4,89,90,91,92] (.seq (ce 92 [4,89,90,91] [4] 4) (.seq (.block 5 (sr [wn 93 [we .i 89 91,wL],qn [qa 10 94]] [4,10,89,90,91] (qr [wn 95 [wm 4,wm 10,wI .add 1,wh (.B7 · 1 .i [(0,(.tmp 97))]),wh (.app · .i true (.tmp 95) (.tmp 98))],qn [qa 4 99]] [4,89,90,91]))) (q1 [qi 100 .add 91 1,qm 91 100] [4,89,90,91])))))) (sq [qm 101 4,qa 2 101] [2] .ret))))))))))⟩
def Aod(a:List Int):AA PUnit:=none
def Aof(h:AD)(g:((List Int)×Int)->AA PUnit)(j:((List Int)×Int)):AA PUnit:=match j with |(a,c)=>br (decide (c<(↑h.A8.length:Int))) (bd (at? h.A8 c) fun e=>gd (List.length a+[w64 (e+1)].length<=lim) (g ((a++[w64 (e+1)],w64 (c+1))))) (jn Aod a)
def AIY(c:AD)(a:List Int):AA PUnit:=gd (a.length+[(↑c.BC.length:Int)].length<=lim) (gd ((a++[(↑c.BC.length:Int)]).length+c.BC.length<=lim) (A4 (Aof c) big ((a++[(↑c.BC.length:Int)]++c.BC,0))))
def Aoe(e:AD)(h:((List Int)×Int)->AA PUnit)(j:((List Int)×Int)):AA PUnit:=match j with |(g,a)=>br (decide (a<(↑e.AI.length:Int))) (bd (at? e.AI a) fun c=>gd (List.length g+[c.AV.DT].length<=lim) (h ((g++[c.AV.DT],w64 (a+1))))) (jn (AIY e) g)
def Aoc(a:AD)(c:List Int):AA PUnit:=A4 (Aoe a) big (c,0)
def sJ(c:AD)(h:((List Int)×Int)->AA PUnit)(j:((List Int)×Int)):AA PUnit:=match j with |(e,g)=>br (decide (g<(↑c.AG.length:Int))) (bd (at? c.AG g) fun a=>gd (List.length e+[a.Id,a.Aa,w64 (a.Bl+1),a.A2,a.Cj,a.Since,a.Ap,a.State,a.Cf,a.Cu].length<=lim) (h ((e++[a.Id,a.Aa,w64 (a.Bl+1),a.A2,a.Cj,a.Since,a.Ap,a.State,a.Cf,a.Cu],w64 (g+1))))) (jn (Aoc c) e)
def AIX(a:AD):AA PUnit:=bd (WX a) fun e=>br (!e) (some ()) (bd (AIQ a.AO) fun c=>gd ([(↑(List.length c):Int)].length+List.length c<=lim) (gd (([(↑(List.length c):Int)]++c).length+[a.Now,a.Ap,(↑a.AG.length:Int)].length<=lim) (A4 (sJ a) big (([(↑(List.length c):Int)]++c++[a.Now,a.Ap,(↑a.AG.length:Int)],0)))))
def OV:GF:=Ap6.D2 (BL AIX)
def Ahv:YF:=⟨[],[.v (.st 8),.v .i],[],.ret [.s],[.tmp 4],sq [qu 2 0,.as 4 (.k (.str []))] [1,2] (sr [wn 8 [wk 15 2,wY OV rfl],qn [qa 5 9]] [1,5] (.seq (sr [wn 10 [wm 5,wh (.bin · .sl .eql (.tmp 10) (.k .nil)),wM],wf 12 13 [wm 1,wc EC rfl [13,qj 0,qj 1000000],wX],qn [qp 16 12 15]] [1,5,16] (cn 16 [1,5] (sq [.as 4 (.k (.str []))] [4] .ret))) (.seq (.RD (.op 0 none [] (.mv 17 (.tmp 1)) (.op 3 none [] (.mv 20 (.tmp 5)) (qd 1 [wn 18 [wY SS rfl,wh (.Ru · (.tmp 18))]] (.op 4 none [18] (.call 21 Xl [] rfl [(.tmp 20)]) (qd 5 [qn [qb 22 .add 19 21,qa 6 22]] .nil))))) [6]) (sr [wn 23 [wm 6,wh (.OB · (.tmp 23)),wY Ll rfl],qn [qa 7 25]] [6,7] (sr [wn 26 [wm 7,wh (.bin · .num .shr (.tmp 26) (.k (.int .u64 24))),wh (.cvI · .u8 (.tmp 27)),wm 7,wh (.bin · .num .shr (.tmp 29) (.k (.int .u64 16))),wh (.cvI · .u8 (.tmp 30)),wm 7,wh (.bin · .num .shr (.tmp 32) (.k (.int .u64 8))),wh (.cvI · .u8 (.tmp 33)),wm 7,wh (.cvI · .u8 (.tmp 35)),wh (.B7 · 4 .u [(0,(.tmp 28)),(1,(.tmp 31)),(2,(.tmp 34)),(3,(.tmp 36))]),wh (.Ru · (.tmp 37)),wm 6,wB .add 38],qn [qa 4 40]] [4] .ret)))))⟩
def AA7(a:AD)(c:Int):AA (List UInt8):=bd (AIX a) fun e=>some []
def Xm:GF:=Ahv.D2 (Ah AA7)
def AYG(a:AD)(c:Int):AA (List UInt8):=orE (AIV a c) (AA7 a c)
def Xn:GF:=OU.orE (fun a=>AYG a.1 a.2.1) (fun a=>AA7 a.1 a.2.1) (fun a=>by kernel_rfl) (fun a r h=>Eq.mp (by kernel_rfl) (Xm.ok a r h))
def AmB(a:List Int):AA (List Int):=some a
def Ajq(h:AD)(g:((List Int)×Int)->AA (List Int))(j:((List Int)×Int)):AA (List Int):=match j with |(a,c)=>br (decide (c<(↑h.A8.length:Int))) (bd (at? h.A8 c) fun e=>gd (List.length a+[w64 (e+1)].length<=lim) (g ((a++[w64 (e+1)],w64 (c+1))))) (jn AmB a)
def Ain(c:AD)(a:List Int):AA (List Int):=gd (a.length+[(↑c.BC.length:Int)].length<=lim) (gd ((a++[(↑c.BC.length:Int)]).length+c.BC.length<=lim) (A4 (Ajq c) big ((a++[(↑c.BC.length:Int)]++c.BC,0))))
def Ajp(e:AD)(h:((List Int)×Int)->AA (List Int))(j:((List Int)×Int)):AA (List Int):=match j with |(g,a)=>br (decide (a<(↑e.AI.length:Int))) (bd (at? e.AI a) fun c=>gd (List.length g+[c.AV.DT].length<=lim) (h ((g++[c.AV.DT],w64 (a+1))))) (jn (Ain e) g)
def Aim(a:AD)(c:List Int):AA (List Int):=A4 (Ajp a) big (c,0)
def Ajo(c:AD)(h:((List Int)×Int)->AA (List Int))(j:((List Int)×Int)):AA (List Int):=match j with |(e,g)=>br (decide (g<(↑c.AG.length:Int))) (bd (at? c.AG g) fun a=>gd (List.length e+[a.Id,a.Aa,w64 (a.Bl+1),a.A2,a.Cj,a.Since,a.Ap,a.State,a.Cf,a.Cu].length<=lim) (h ((e++[a.Id,a.Aa,w64 (a.Bl+1),a.A2,a.Cj,a.Since,a.Ap,a.State,a.Cf,a.Cu],w64 (g+1))))) (jn (Aim c) e)
def AQ0(a:AD):AA (List Int):=bd (WX a) fun e=>br (!e) (some []) (bd (AIQ a.AO) fun c=>gd ([(↑(List.length c):Int)].length+List.length c<=lim) (gd (([(↑(List.length c):Int)]++c).length+[a.Now,a.Ap,(↑a.AG.length:Int)].length<=lim) (A4 (Ajo a) big (([(↑(List.length c):Int)]++c++[a.Now,a.Ap,(↑a.AG.length:Int)],0)))))
def Xo:GF:=gZ mh lr b9 0xb0629ec2482be124e39ef535a6363d716e81c44b418ee568da0d969e53d70628356b95afc3f96ccddfc91d487888f4f630c2c20b60cb045d189f4e2f64daa1b461b1d0e3a82c2e0b71e48bf18c3a4672e5be9d9cca2e54925ed1bd957cef983a878a8c40e5d37921128bd39d70e5935d1c1c6a744fb32042606d660e80e59e25f62e2116a4f3182863e0363d61324eb8d282a229fa2bca9e24e604cfb32d229ce21657348f77f8f556b4519a7bb8b8380dc02f92818d731f8fe469445a260e41e7da85599bd138d6b234b3284ae346b2cc61a95a2341fb15f87611f5124f85914d8a8aa702655af08c95698a4499a4f3d7217e0d5322 [Ji,SQ] (BL AQ0)
def AA8(a:AZ):AA AZ:=gd (0+a.AV.length<=lim) (some (AZ.mk ([]++a.AV) a.CJ a.Room a.A2 a.CB a.Bq a.Rest a.CL a.Cs))
def AZB:GF:=gZ Aic Am0 Am4 0x310ff8c18597b4216d8be74c06ba9837925984 [] (BL AA8)
def Ap7:YF:=⟨[],[],[],.ret [(.st 6)],[.cell 0 (some 1)],dY 0x4e46444cb09af65ce14f48d42695a1e0fa6b918b7ca8da78b62ac24a175aaa201a6b8b591176656fed94333e805baad107f292 []⟩
def fW(a:An):AA An:=some a
def sL(e:(Int×An)->AA An)(g:(Int×An)):AA An:=match g with |(c,a)=>br (decide (c<9)) (gd (a.Ak.length+1<=lim) (e ((w64 (c+1),An.mk (a.Ak++[[]]))))) (jn fW a)
def AQ1:AA An:=A4 (sL) big (0,An.mk [])
def Xp:GF:=Ap7.gf rfl rfl (fun a=>AQ1) (fun a=>by kernel_rfl)
def sO(a:List Int):AA (List Int):=gd (0+a.length<=lim) (some a)
def lJ:GF:=gZ ACS lr b9 0x4e0fe61ee0a7d093377 [] (BL sO)
def AYN(a:AZ):AA AZ:=bd (sO a.AV) fun c=>some (AZ.mk c a.CJ a.Room a.A2 a.CB a.Bq a.Rest a.CL a.Cs)
def AD6:GF:=gZ Aic Am0 Am4 0x3a13732f31454719eb2fdafca60f4a99 [lJ] (BL AYN)
def Ap8:YF:=⟨[],[],[],.ret [(.st 6)],[.cell 0 (some 1)],dY 0x913d9f26e00226f81dc620f0acd5 [] [.Nt 1 (.l (.st 5)) (.k (.int .i64 9))]⟩
def AQ2:AA An:=some (An.mk (List.replicate (Int.toNat 9) []))
def AD7:GF:=Ap8.gf rfl rfl (fun a=>AQ2) (fun a=>by kernel_rfl)
def AQ3(a:Bu):AA Bu:=bd (Tj a) fun c=>br (!c) (some a) (some (Bu.mk a.Data (↑a.Data.length:Int)))
def AD8:GF:=gZ xZ lT Ak9 0x3f36efa33f0cde55b1a4585e56227ebd7921e843d67bda630a6e57 [Ku] (BL AQ3)
def AQ4(a:CE)(c:CE):AA Bool:=br (a.Code != c.Code) (some false) (bd (nE a.Ids c.Ids) fun e=>br (!e) (some false) (some true))
def AD9:GF:=gZ [.v (.st 12),.v (.st 12)] ah Bz 0x2e851f6637811be11095185c288510549290f2a3354a9 [VD] (Ah AQ4)
def AIq(_:PUnit):AA Bool:=some true
def fj(c:List CE)(g:List CE)(e:Int->AA Bool)(a:Int):AA Bool:=br (decide (a<(↑c.length:Int))) (bd (at? c a) fun h=>bd (at? g a) fun j=>bd (AQ4 h j) fun q=>br (!q) (some false) (e (w64 (a+1)))) (jn AIq ())
def AQ5(a:List CE)(c:List CE):AA Bool:=br ((↑a.length:Int) != (↑c.length:Int)) (some false) (A4 (fj a c) big 0)
def AEA:GF:=gZ [.v (.l (.st 12)),.v (.l (.st 12))] ah Bz 0x423f09b2f75f75fd46805f99bcdba89b45a25c41550939c9408bad3116326d0e3fbc4cbc779bfcaf5695391a62f0f [AD9] (Ah AQ5)
def AQ6(a:GK)(c:GK):AA Bool:=bd (XA a.Cr c.Cr) fun e=>br (!e) (some false) (bd (AHq a.AGd c.AGd) fun g=>br (!g) (some false) (bd (AQ5 a.O4 c.O4) fun h=>br (!h) (some false) (br (a.AAU != c.AAU) (some false) (some true))))
def AEB:GF:=gZ [.v (.st 13),.v (.st 13)] ah Bz 0x78a5e6e8014353824e684e5ec2b25a0eee908107485feaa6e4364b8fd54f519061cb216a052ed5b7b1c7e23ea19f259e1f96e69ed [Xj,kx,AEA] (Ah AQ6)
end Lv
set_option maxRecDepth 100000
namespace Lv
open Go (IntKind BinOp UnOp)
open Y (YF qn qf qt qr q1 qd qm qa qo ql qL qb qi qx qp qq qc qz qe qk qK qB qw qu qj Kp wn wf wt w1 sw sq sr wm wM wo wO wl wL wk wK wz wZ wx wX wb wB wi wI wr wR wq wQ we wE wc wY wj wh cv ca cx cn ce bl)
def AmC(a:An):AA An:=some a
def AmD(g:An)(h:(Int×An)->AA An)(j:(Int×An)):AA An:=match j with |(a,c)=>br (decide (a<(↑g.Ak.length:Int))) (bd (at? g.Ak a) fun e=>gd (0+List.length e<=lim) (gd (c.Ak.length+[[]++e].length<=lim) (h ((w64 (a+1),An.mk (c.Ak++[[]++e])))))) (jn AmC c)
def AIy(a:An):AA An:=A4 (AmD a) big (0,An.mk [])
def xI:GF:=gZ xY dM ZJ 0x382eed3258815728e53f6b7ba0f75043f2cd1b4ea0754161b4d9842c268e4aa1674bbd0629cc60f256b67efb3424d0d2c55926d9693dcb641057d6e93ca518f4e12be06ef2617685a8 [] (BL AIy)
def sS(a:AY):AA AY:=bd (bR a.Row) fun c=>bd (AIy a.Bw) fun e=>some (AY.mk a.AV c e)
def lK:GF:=gZ AOC ZI Am5 0x5dd4fb53ee7895a8c9c4e1a256399ee460b930e16f2a47b75e0a33eb63726f0e [Mo,xI] (BL sS)
def AjY:Y.YOp []:=.app 19 .i true (.tmp 16) (.tmp 18)
def lz:Y.YOp []:=.app 15 (.st 2) true (.tmp 12) (.tmp 14)
def cq:Y.YOp []:=.call 7 AZB [] rfl [(.tmp 6)]
def AnE:Y.B2 []:=(.op 21 none [] (.st 15 (.tmp 3) (.tmp 24)) (.dr [5,6,7,8,9,10,11,12,13,14,15,16,17,18,19,20,21,22,23,24] .nil))
def AqZ:=fun a=>((.op 20 none [5,8,10,13,17,21] (.alloc 3 EW) (.nl [(.cell 3 0,.i),(.cell 3 11,(.st 2)),(.cell 3 12,(.st 7)),(.cell 3 13,.i),(.cell 3 14,.i)] a)):Y.B2 [])
def Apy:Y.B2 []:=AqZ AnE
def Aqa:=fun a=>((.op 19 none [] (.build 24 EW [(0,9,(.tmp 7)),(9,1,(.tmp 9)),(10,1,(.tmp 11)),(11,1,(.tmp 15)),(13,1,(.tmp 19)),(14,1,(.tmp 23))]) (.nl [(.tmp 24 12,(.st 7))] a)):Y.B2 [])
def Apz:Y.B2 []:=Aqa Apy
def Ap0:Y.B2 []:=(.op 18 none [8,10] (.app 23 .i true (.tmp 20) (.tmp 22)) Apz)
def Ap1:Y.B2 []:=Aqa AnE
def Alx:Y.B2 []:=(.op 18 none [8,10] (.app 23 .i true (.tmp 20) (.tmp 22)) Ap1)
def Ap2:Y.B2 []:=AqZ Alx
def Aqc:=fun a b=>((.both 1 a b):Y.B2 [])
def AnF:Y.B2 []:=Aqc Ap0 Ap2
def Aqd:=fun a b c=>((.op a none [5,8,10,13,17,21] (.B7 b 0 .i []) c):Y.B2 [])
def Ap3:Y.B2 []:=Aqd 15 20 AnF
def AnG:Y.B2 []:=Aqd 15 20 Alx
def Aor:Y.B2 []:=AqZ AnG
def Aos:Y.B2 []:=Aqc Ap3 Aor
def Aqe:=fun a=>((.op 14 none [8,10,21] AjY a):Y.B2 [])
def Aot:Y.B2 []:=Aqe Aos
def Aou:Y.B2 []:=Aqe AnF
def Ai7:Y.B2 []:=Aqe Alx
def Aov:Y.B2 []:=AqZ Ai7
def AlA:Y.B2 []:=Aqc Aou Aov
def Aow:Y.B2 []:=Aqd 15 20 AlA
def Aox:Y.B2 []:=Aqe AnG
def Aoy:Y.B2 []:=Aqd 15 20 Ai7
def AlB:Y.B2 []:=Aqc Aox Aoy
def Aoz:Y.B2 []:=AqZ AlB
def Ao0:Y.B2 []:=Aqc Aow Aoz
def Amp:Y.B2 []:=Aqc Aot Ao0
def Ao1:Y.B2 []:=Aqd 11 16 Amp
def Ao2:Y.B2 []:=Aqd 11 16 AlA
def AlC:Y.B2 []:=Aqd 11 16 Ai7
def Ao3:Y.B2 []:=AqZ AlC
def Amq:Y.B2 []:=Aqc Ao2 Ao3
def Ao4:Y.B2 []:=Aqd 15 20 Amq
def Ao5:Y.B2 []:=Aqd 11 16 AlB
def Ao6:Y.B2 []:=Aqd 15 20 AlC
def Amr:Y.B2 []:=Aqc Ao5 Ao6
def Ao7:Y.B2 []:=AqZ Amr
def Ao8:Y.B2 []:=Aqc Ao4 Ao7
def Ao9:Y.B2 []:=Aqc Ao1 Ao8
def Aqf:=fun a=>((.op 10 none [8,10,17,21] lz a):Y.B2 [])
def ApA:Y.B2 []:=Aqf Ao9
def ApB:Y.B2 []:=Aqf Amp
def ApC:Y.B2 []:=Aqf AlA
def AiZ:Y.B2 []:=Aqf Ai7
def ApD:Y.B2 []:=AqZ AiZ
def Ai8:Y.B2 []:=Aqc ApC ApD
def ApE:Y.B2 []:=Aqd 15 20 Ai8
def ApF:Y.B2 []:=Aqf AlB
def ApG:Y.B2 []:=Aqd 15 20 AiZ
def Ai9:Y.B2 []:=Aqc ApF ApG
def ApH:Y.B2 []:=AqZ Ai9
def ApI:Y.B2 []:=Aqc ApE ApH
def AlD:Y.B2 []:=Aqc ApB ApI
def ApJ:Y.B2 []:=Aqd 11 16 AlD
def ApK:Y.B2 []:=Aqf Amq
def ApL:Y.B2 []:=Aqd 11 16 Ai8
def ApM:Y.B2 []:=Aqf AlC
def ApN:Y.B2 []:=Aqd 11 16 AiZ
def AjA:Y.B2 []:=Aqc ApM ApN
def ApO:Y.B2 []:=AqZ AjA
def ApP:Y.B2 []:=Aqc ApL ApO
def AlE:Y.B2 []:=Aqc ApK ApP
def ApQ:Y.B2 []:=Aqd 15 20 AlE
def ApR:Y.B2 []:=Aqf Amr
def ApS:Y.B2 []:=Aqd 11 16 Ai9
def ApT:Y.B2 []:=Aqd 15 20 AjA
def ApU:Y.B2 []:=Aqc ApS ApT
def AlF:Y.B2 []:=Aqc ApR ApU
def ApV:Y.B2 []:=AqZ AlF
def ApW:Y.B2 []:=Aqc ApQ ApV
def ApX:Y.B2 []:=Aqc ApJ ApW
def Ams:Y.B2 []:=Aqc ApA ApX
def Aqg:=fun a=>((.op 7 none [5,8,10,13,17,21] (.B7 12 0 (.st 2) []) a):Y.B2 [])
def ApY:Y.B2 []:=Aqg Ams
def ApZ:Y.B2 []:=Aqg AlD
def Apa:Y.B2 []:=Aqg Ai8
def AjB:Y.B2 []:=Aqg AiZ
def Apb:Y.B2 []:=AqZ AjB
def AlG:Y.B2 []:=Aqc Apa Apb
def Apc:Y.B2 []:=Aqd 15 20 AlG
def Apd:Y.B2 []:=Aqg Ai9
def Ape:Y.B2 []:=Aqd 15 20 AjB
def AlH:Y.B2 []:=Aqc Apd Ape
def Apf:Y.B2 []:=AqZ AlH
def Apg:Y.B2 []:=Aqc Apc Apf
def Amt:Y.B2 []:=Aqc ApZ Apg
def Aph:Y.B2 []:=Aqd 11 16 Amt
def Api:Y.B2 []:=Aqg AlE
def Apj:Y.B2 []:=Aqd 11 16 AlG
def Apk:Y.B2 []:=Aqg AjA
def Apl:Y.B2 []:=Aqd 11 16 AjB
def AlI:Y.B2 []:=Aqc Apk Apl
def Apm:Y.B2 []:=AqZ AlI
def Apn:Y.B2 []:=Aqc Apj Apm
def Amu:Y.B2 []:=Aqc Api Apn
def Apo:Y.B2 []:=Aqd 15 20 Amu
def Apq:Y.B2 []:=Aqg AlF
def Apr:Y.B2 []:=Aqd 11 16 AlH
def Aps:Y.B2 []:=Aqd 15 20 AlI
def Apt:Y.B2 []:=Aqc Apr Aps
def Amv:Y.B2 []:=Aqc Apq Apt
def Apu:Y.B2 []:=AqZ Amv
def Apv:Y.B2 []:=Aqc Apo Apu
def Apw:Y.B2 []:=Aqc Aph Apv
def Apx:Y.B2 []:=Aqc ApY Apw
def Aqh:=fun a=>((.op 2 none [8,10,13,17,21] cq a):Y.B2 [])
def AnH:Y.B2 []:=Aqh Apx
def AnI:Y.B2 []:=Aqh Ams
def AnJ:Y.B2 []:=Aqh AlD
def AnK:Y.B2 []:=Aqh Ai8
def Aib:Y.B2 []:=Aqh AiZ
def AnL:Y.B2 []:=AqZ Aib
def AjU:Y.B2 []:=Aqc AnK AnL
def AnM:Y.B2 []:=Aqd 15 20 AjU
def AnN:Y.B2 []:=Aqh Ai9
def AnO:Y.B2 []:=Aqd 15 20 Aib
def AjV:Y.B2 []:=Aqc AnN AnO
def AnP:Y.B2 []:=AqZ AjV
def AnQ:Y.B2 []:=Aqc AnM AnP
def Alh:Y.B2 []:=Aqc AnJ AnQ
def AnR:Y.B2 []:=Aqd 11 16 Alh
def AnS:Y.B2 []:=Aqh AlE
def AnT:Y.B2 []:=Aqd 11 16 AjU
def AnU:Y.B2 []:=Aqh AjA
def AnV:Y.B2 []:=Aqd 11 16 Aib
def AjW:Y.B2 []:=Aqc AnU AnV
def AnW:Y.B2 []:=AqZ AjW
def AnX:Y.B2 []:=Aqc AnT AnW
def Ali:Y.B2 []:=Aqc AnS AnX
def AnY:Y.B2 []:=Aqd 15 20 Ali
def AnZ:Y.B2 []:=Aqh AlF
def Ana:Y.B2 []:=Aqd 11 16 AjV
def Anb:Y.B2 []:=Aqd 15 20 AjW
def Anc:Y.B2 []:=Aqc Ana Anb
def Alj:Y.B2 []:=Aqc AnZ Anc
def Ane:Y.B2 []:=AqZ Alj
def Anf:Y.B2 []:=Aqc AnY Ane
def Ang:Y.B2 []:=Aqc AnR Anf
def Anh:Y.B2 []:=Aqc AnI Ang
def Ani:Y.B2 []:=Aqg Anh
def Anj:Y.B2 []:=Aqh Amt
def Ank:Y.B2 []:=Aqg Alh
def Anl:Y.B2 []:=Aqh AlG
def Anm:Y.B2 []:=Aqg AjU
def Ann:Y.B2 []:=Aqh AjB
def Ano:Y.B2 []:=Aqg Aib
def AjX:Y.B2 []:=Aqc Ann Ano
def Anp:Y.B2 []:=AqZ AjX
def Anq:Y.B2 []:=Aqc Anm Anp
def Alk:Y.B2 []:=Aqc Anl Anq
def Anr:Y.B2 []:=Aqd 15 20 Alk
def Ans:Y.B2 []:=Aqh AlH
def Ant:Y.B2 []:=Aqg AjV
def Anu:Y.B2 []:=Aqd 15 20 AjX
def Anv:Y.B2 []:=Aqc Ant Anu
def Alm:Y.B2 []:=Aqc Ans Anv
def Anw:Y.B2 []:=AqZ Alm
def Anx:Y.B2 []:=Aqc Anr Anw
def Anz:Y.B2 []:=Aqc Ank Anx
def An0:Y.B2 []:=Aqc Anj Anz
def An1:Y.B2 []:=Aqd 11 16 An0
def An2:Y.B2 []:=Aqh Amu
def An3:Y.B2 []:=Aqg Ali
def An4:Y.B2 []:=Aqd 11 16 Alk
def An5:Y.B2 []:=Aqh AlI
def An6:Y.B2 []:=Aqg AjW
def An7:Y.B2 []:=Aqd 11 16 AjX
def An8:Y.B2 []:=Aqc An6 An7
def Aln:Y.B2 []:=Aqc An5 An8
def An9:Y.B2 []:=AqZ Aln
def AoA:Y.B2 []:=Aqc An4 An9
def AoB:Y.B2 []:=Aqc An3 AoA
def AoC:Y.B2 []:=Aqc An2 AoB
def AoD:Y.B2 []:=Aqd 15 20 AoC
def AoE:Y.B2 []:=Aqh Amv
def AoF:Y.B2 []:=Aqg Alj
def AoG:Y.B2 []:=Aqd 11 16 Alm
def AoH:Y.B2 []:=Aqd 15 20 Aln
def AoI:Y.B2 []:=Aqc AoG AoH
def AoJ:Y.B2 []:=Aqc AoF AoI
def AoK:Y.B2 []:=Aqc AoE AoJ
def AoL:Y.B2 []:=AqZ AoK
def AoM:Y.B2 []:=Aqc AoD AoL
def AoN:Y.B2 []:=Aqc An1 AoM
def AoO:Y.B2 []:=Aqc Ani AoN
def AoP:Y.B2 []:=Aqc AnH AoO
def AoQ:Y.B2 []:=(.op 17 none [] (.ld 22 none (.tmp 21)) AoP)
def AoR:Y.B2 []:=(.op 16 none [] (.fa 21 14 (.tmp 1)) AoQ)
def AoS:Y.B2 []:=(.op 13 none [] (.ld 18 none (.tmp 17)) AoR)
def AoT:Y.B2 []:=(.op 12 none [] (.fa 17 13 (.tmp 1)) AoS)
def AoU:Y.B2 []:=(.op 9 none [] (.ld 14 none (.tmp 13)) AoT)
def AoV:Y.B2 []:=(.op 8 none [] (.fa 13 11 (.tmp 1)) AoU)
def AoW:Y.B2 []:=(.op 6 none [] (.ld 11 none (.tmp 10)) AoV)
def AoX:Y.B2 []:=(.op 5 none [] (.fa 10 10 (.tmp 1)) AoW)
def AoY:Y.B2 []:=(.op 4 none [] (.ld 9 none (.tmp 8)) AoX)
def AoZ:Y.B2 []:=(.op 3 none [] (.fa 8 9 (.tmp 1)) AoY)
def Aoa:Y.B2 []:=(.op 1 none [] (.ld 6 (some 9) (.tmp 5)) AoZ)
def Aob:Y.B2 []:=(.op 0 none [] (.fa 5 0 (.tmp 1)) Aoa)
def Ap9:YF:=⟨[],[.v (.st 8)],[],.ret [(.st 8)],[.cell 2 (some 15)],sq [qu 1 0,.alloc 2 EW,.Zk [(.cell 2 0,.i),(.cell 2 11,(.st 2)),(.cell 2 12,(.st 7)),(.cell 2 13,.i),(.cell 2 14,.i)]] [1,2] (.seq (.RD Aob [1,2,3]) (.join [cx 3 (.st 8)] (sq [qK 4 0] (Kp 30) (bl 0 [cv 4 .i,cx 3 (.st 8)] (.seq (sw 25 [wm 4,wo 12 1,wL,wZ,wB .lss 25] (Kp 536870942) (ce 29 (Kp 30) [2,3] 0)) (.seq (.block 1 (.RD (qd 0 [wn 32 [wo 12 3,wL,wo 12 1,wL,wm 4,wE (.st 7) 35,wK 7]] (.op 7 none [32] (.call 39 lK [] rfl [(.tmp 38)]) (.op 8 none [32] (.B7 40 1 (.st 7) [(0,(.tmp 39))]) (qd 9 [wn 41 [wh (.app · (.st 7) false (.tmp 33) (.tmp 40)),wo 12 3],qn [qw 1 42 41]] .nil)))) [1,2,3,4])) (qr [wn 30 [wm 4,wI .add 1],qn [qa 4 31]] (Kp 30)))))) (sq [qL 43 15 3,qw 15 2 43] [2] .ret)))⟩
def cm(a:AD)(c:AZ)(X2:AA AD):AA AD:=gd (0+a.A8.length<=lim) (Ci c c (ev6 a.Now a.Ap ([]++a.AG) ([]:List AY) ([]++a.BC) ([]++a.A8) (X2)))
def ay(a:AD)(c:AZ)(X4:AA AD):AA AD:=gd (0+a.BC.length<=lim) (gd (0+a.A8.length<=lim) (Ci c c (ev6 a.Now a.Ap ([]++a.AG) ([]:List AY) ([]++a.BC) ([]++a.A8) (X4))))
def AmE(a:AD)(c:AZ)(X5:AA AD):AA AD:=gd (0+a.BC.length<=lim) (gd (0+a.A8.length<=lim) (alt (ay a c) (Ci c c (ev6 a.Now a.Ap ([]++a.AG) ([]:List AY) ([]++a.BC) ([]++a.A8) (X5)))))
def fe(a:AD)(c:AZ)(X3:AA AD):AA AD:=gd (0+a.BC.length<=lim) (gd (0+a.A8.length<=lim) (alt (cm a c) (alt (ay a c) (alt (AmE a c) (Ci c c (ev6 a.Now a.Ap ([]++a.AG) ([]:List AY) ([]++a.BC) ([]++a.A8) (X3)))))))
def AmF(a:AD)(c:AZ)(X7:AA AD):AA AD:=gd (0+a.BC.length<=lim) (gd (0+a.A8.length<=lim) (alt (ay a c) (alt (ay a c) (Ci c c (ev6 a.Now a.Ap ([]++a.AG) ([]:List AY) ([]++a.BC) ([]++a.A8) (X7))))))
def Ajr(a:AD)(c:AZ)(X6:AA AD):AA AD:=gd (0+a.BC.length<=lim) (gd (0+a.A8.length<=lim) (alt (cm a c) (alt (ay a c) (alt (ay a c) (alt (AmF a c) (Ci c c (ev6 a.Now a.Ap ([]++a.AG) ([]:List AY) ([]++a.BC) ([]++a.A8) (X6))))))))
def ck(a:AD)(c:AZ)(X10:AA AD):AA AD:=gd (0+a.AG.length<=lim) (gd (0+a.BC.length<=lim) (gd (0+a.A8.length<=lim) (Ci c c (ev6 a.Now a.Ap ([]++a.AG) ([]:List AY) ([]++a.BC) ([]++a.A8) (X10)))))
def AlJ(a:AD)(c:AZ)(X11:AA AD):AA AD:=gd (0+a.AG.length<=lim) (gd (0+a.BC.length<=lim) (gd (0+a.A8.length<=lim) (alt (ay a c) (alt (ck a c) (Ci c c (ev6 a.Now a.Ap ([]++a.AG) ([]:List AY) ([]++a.BC) ([]++a.A8) (X11)))))))
def r6(a:AD)(c:AZ)(X9:AA AD):AA AD:=gd (0+a.AG.length<=lim) (gd (0+a.BC.length<=lim) (gd (0+a.A8.length<=lim) (alt (cm a c) (alt (ay a c) (alt (ck a c) (alt (AlJ a c) (Ci c c (ev6 a.Now a.Ap ([]++a.AG) ([]:List AY) ([]++a.BC) ([]++a.A8) (X9)))))))))
def AjC(a:AD)(c:AZ)(X14:AA AD):AA AD:=gd (0+a.AG.length<=lim) (gd (0+a.BC.length<=lim) (gd (0+a.A8.length<=lim) (alt (ck a c) (Ci c c (ev6 a.Now a.Ap ([]++a.AG) ([]:List AY) ([]++a.BC) ([]++a.A8) (X14))))))
def j5(a:AD)(c:AZ)(X13:AA AD):AA AD:=gd (0+a.AG.length<=lim) (gd (0+a.BC.length<=lim) (gd (0+a.A8.length<=lim) (alt (cm a c) (alt (ay a c) (alt (ck a c) (alt (AjC a c) (Ci c c (ev6 a.Now a.Ap ([]++a.AG) ([]:List AY) ([]++a.BC) ([]++a.A8) (X13)))))))))
def kb(a:AD)(c:AZ)(X16:AA AD):AA AD:=gd (0+a.AG.length<=lim) (gd (0+a.BC.length<=lim) (gd (0+a.A8.length<=lim) (alt (ay a c) (alt (ck a c) (alt (AjC a c) (Ci c c (ev6 a.Now a.Ap ([]++a.AG) ([]:List AY) ([]++a.BC) ([]++a.A8) (X16))))))))
def AlL(a:AD)(c:AZ)(X15:AA AD):AA AD:=gd (0+a.AG.length<=lim) (gd (0+a.BC.length<=lim) (gd (0+a.A8.length<=lim) (alt (ay a c) (alt (ay a c) (alt (kb a c) (Ci c c (ev6 a.Now a.Ap ([]++a.AG) ([]:List AY) ([]++a.BC) ([]++a.A8) (X15))))))))
def AlK(a:AD)(c:AZ)(X12:AA AD):AA AD:=gd (0+a.AG.length<=lim) (gd (0+a.BC.length<=lim) (gd (0+a.A8.length<=lim) (alt (cm a c) (alt (ay a c) (alt (ay a c) (alt (j5 a c) (alt (AlL a c) (Ci c c (ev6 a.Now a.Ap ([]++a.AG) ([]:List AY) ([]++a.BC) ([]++a.A8) (X12))))))))))
def Ajs(a:AD)(c:AZ)(X8:AA AD):AA AD:=gd (0+a.AG.length<=lim) (gd (0+a.BC.length<=lim) (gd (0+a.A8.length<=lim) (alt (cm a c) (alt (cm a c) (alt (fe a c) (alt (r6 a c) (alt (AlK a c) (Ci c c (ev6 a.Now a.Ap ([]++a.AG) ([]:List AY) ([]++a.BC) ([]++a.A8) (X8))))))))))
def AlN(a:AD)(c:AZ)(X19:AA AD):AA AD:=gd (0+a.AG.length<=lim) (gd (0+a.BC.length<=lim) (gd (0+a.A8.length<=lim) (alt (ay a c) (alt (ck a c) (alt (ck a c) (Ci c c (ev6 a.Now a.Ap ([]++a.AG) ([]:List AY) ([]++a.BC) ([]++a.A8) (X19))))))))
def AjD(a:AD)(c:AZ)(X18:AA AD):AA AD:=gd (0+a.AG.length<=lim) (gd (0+a.BC.length<=lim) (gd (0+a.A8.length<=lim) (alt (cm a c) (alt (ay a c) (alt (ck a c) (alt (ck a c) (alt (AlN a c) (Ci c c (ev6 a.Now a.Ap ([]++a.AG) ([]:List AY) ([]++a.BC) ([]++a.A8) (X18))))))))))
def AjF(a:AD)(c:AZ)(X22:AA AD):AA AD:=gd (0+a.AG.length<=lim) (gd (0+a.BC.length<=lim) (gd (0+a.A8.length<=lim) (alt (ck a c) (alt (ck a c) (Ci c c (ev6 a.Now a.Ap ([]++a.AG) ([]:List AY) ([]++a.BC) ([]++a.A8) (X22)))))))
def AjE(a:AD)(c:AZ)(X21:AA AD):AA AD:=gd (0+a.AG.length<=lim) (gd (0+a.BC.length<=lim) (gd (0+a.A8.length<=lim) (alt (cm a c) (alt (ay a c) (alt (ck a c) (alt (ck a c) (alt (AjF a c) (Ci c c (ev6 a.Now a.Ap ([]++a.AG) ([]:List AY) ([]++a.BC) ([]++a.A8) (X21))))))))))
def AjG(a:AD)(c:AZ)(X24:AA AD):AA AD:=gd (0+a.AG.length<=lim) (gd (0+a.BC.length<=lim) (gd (0+a.A8.length<=lim) (alt (ay a c) (alt (ck a c) (alt (ck a c) (alt (AjF a c) (Ci c c (ev6 a.Now a.Ap ([]++a.AG) ([]:List AY) ([]++a.BC) ([]++a.A8) (X24)))))))))
def AlP(a:AD)(c:AZ)(X23:AA AD):AA AD:=gd (0+a.AG.length<=lim) (gd (0+a.BC.length<=lim) (gd (0+a.A8.length<=lim) (alt (ay a c) (alt (ay a c) (alt (kb a c) (alt (AjG a c) (Ci c c (ev6 a.Now a.Ap ([]++a.AG) ([]:List AY) ([]++a.BC) ([]++a.A8) (X23)))))))))
def AlO(a:AD)(c:AZ)(X20:AA AD):AA AD:=gd (0+a.AG.length<=lim) (gd (0+a.BC.length<=lim) (gd (0+a.A8.length<=lim) (alt (cm a c) (alt (ay a c) (alt (ay a c) (alt (j5 a c) (alt (AjE a c) (alt (AlP a c) (Ci c c (ev6 a.Now a.Ap ([]++a.AG) ([]:List AY) ([]++a.BC) ([]++a.A8) (X20)))))))))))
def AlM(a:AD)(c:AZ)(X17:AA AD):AA AD:=gd (0+a.AG.length<=lim) (gd (0+a.BC.length<=lim) (gd (0+a.A8.length<=lim) (alt (cm a c) (alt (cm a c) (alt (fe a c) (alt (r6 a c) (alt (AjD a c) (alt (AlO a c) (Ci c c (ev6 a.Now a.Ap ([]++a.AG) ([]:List AY) ([]++a.BC) ([]++a.A8) (X17)))))))))))
def cr(a:AD)(c:AZ)(X31:AA AD):AA AD:=bd (AA8 a.AO) fun e=>gd (0+a.AG.length<=lim) (gd (0+a.BC.length<=lim) (gd (0+a.A8.length<=lim) (Ci c e (ev6 a.Now a.Ap ([]++a.AG) ([]:List AY) ([]++a.BC) ([]++a.A8) (X31)))))
def AlS(a:AD)(e:AZ)(X33:AA AD):AA AD:=bd (AA8 a.AO) fun c=>gd (0+a.AG.length<=lim) (gd (0+a.BC.length<=lim) (gd (0+a.A8.length<=lim) (alt (ay a c) (alt (ck a c) (alt (cr a c) (Ci e c (ev6 a.Now a.Ap ([]++a.AG) ([]:List AY) ([]++a.BC) ([]++a.A8) (X33))))))))
def AjH(a:AD)(e:AZ)(X29:AA AD):AA AD:=bd (AA8 a.AO) fun c=>gd (0+a.AG.length<=lim) (gd (0+a.BC.length<=lim) (gd (0+a.A8.length<=lim) (alt (cm a c) (alt (ay a c) (alt (ck a c) (alt (cr a c) (alt (AlS a c) (Ci e c (ev6 a.Now a.Ap ([]++a.AG) ([]:List AY) ([]++a.BC) ([]++a.A8) (X29))))))))))
def AjJ(a:AD)(e:AZ)(X39:AA AD):AA AD:=bd (AA8 a.AO) fun c=>gd (0+a.AG.length<=lim) (gd (0+a.BC.length<=lim) (gd (0+a.A8.length<=lim) (alt (ck a c) (alt (cr a c) (Ci e c (ev6 a.Now a.Ap ([]++a.AG) ([]:List AY) ([]++a.BC) ([]++a.A8) (X39)))))))
def AjI(a:AD)(e:AZ)(X37:AA AD):AA AD:=bd (AA8 a.AO) fun c=>gd (0+a.AG.length<=lim) (gd (0+a.BC.length<=lim) (gd (0+a.A8.length<=lim) (alt (cm a c) (alt (ay a c) (alt (ck a c) (alt (cr a c) (alt (AjJ a c) (Ci e c (ev6 a.Now a.Ap ([]++a.AG) ([]:List AY) ([]++a.BC) ([]++a.A8) (X37))))))))))
def AjK(a:AD)(e:AZ)(X43:AA AD):AA AD:=bd (AA8 a.AO) fun c=>gd (0+a.AG.length<=lim) (gd (0+a.BC.length<=lim) (gd (0+a.A8.length<=lim) (alt (ay a c) (alt (ck a c) (alt (cr a c) (alt (AjJ a c) (Ci e c (ev6 a.Now a.Ap ([]++a.AG) ([]:List AY) ([]++a.BC) ([]++a.A8) (X43)))))))))
def AlU(a:AD)(e:AZ)(X41:AA AD):AA AD:=bd (AA8 a.AO) fun c=>gd (0+a.AG.length<=lim) (gd (0+a.BC.length<=lim) (gd (0+a.A8.length<=lim) (alt (ay a c) (alt (ay a c) (alt (kb a c) (alt (AjK a c) (Ci e c (ev6 a.Now a.Ap ([]++a.AG) ([]:List AY) ([]++a.BC) ([]++a.A8) (X41)))))))))
def AlT(a:AD)(e:AZ)(X35:AA AD):AA AD:=bd (AA8 a.AO) fun c=>gd (0+a.AG.length<=lim) (gd (0+a.BC.length<=lim) (gd (0+a.A8.length<=lim) (alt (cm a c) (alt (ay a c) (alt (ay a c) (alt (j5 a c) (alt (AjI a c) (alt (AlU a c) (Ci e c (ev6 a.Now a.Ap ([]++a.AG) ([]:List AY) ([]++a.BC) ([]++a.A8) (X35)))))))))))
def AlR(a:AD)(e:AZ)(X27:AA AD):AA AD:=bd (AA8 a.AO) fun c=>gd (0+a.AG.length<=lim) (gd (0+a.BC.length<=lim) (gd (0+a.A8.length<=lim) (alt (cm a c) (alt (cm a c) (alt (fe a c) (alt (r6 a c) (alt (AjH a c) (alt (AlT a c) (Ci e c (ev6 a.Now a.Ap ([]++a.AG) ([]:List AY) ([]++a.BC) ([]++a.A8) (X27)))))))))))
def Aia(a:AD)(e:AZ)(X53:AA AD):AA AD:=bd (AA8 a.AO) fun c=>gd (0+a.AG.length<=lim) (gd (0+a.BC.length<=lim) (gd (0+a.A8.length<=lim) (alt (cr a c) (Ci e c (ev6 a.Now a.Ap ([]++a.AG) ([]:List AY) ([]++a.BC) ([]++a.A8) (X53))))))
def AjL(a:AD)(e:AZ)(X51:AA AD):AA AD:=bd (AA8 a.AO) fun c=>gd (0+a.AG.length<=lim) (gd (0+a.BC.length<=lim) (gd (0+a.A8.length<=lim) (alt (cm a c) (alt (ay a c) (alt (ck a c) (alt (cr a c) (alt (Aia a c) (Ci e c (ev6 a.Now a.Ap ([]++a.AG) ([]:List AY) ([]++a.BC) ([]++a.A8) (X51))))))))))
def AjM(a:AD)(e:AZ)(X57:AA AD):AA AD:=bd (AA8 a.AO) fun c=>gd (0+a.AG.length<=lim) (gd (0+a.BC.length<=lim) (gd (0+a.A8.length<=lim) (alt (ay a c) (alt (ck a c) (alt (cr a c) (alt (Aia a c) (Ci e c (ev6 a.Now a.Ap ([]++a.AG) ([]:List AY) ([]++a.BC) ([]++a.A8) (X57)))))))))
def AlY(a:AD)(e:AZ)(X55:AA AD):AA AD:=bd (AA8 a.AO) fun c=>gd (0+a.AG.length<=lim) (gd (0+a.BC.length<=lim) (gd (0+a.A8.length<=lim) (alt (ay a c) (alt (ck a c) (alt (ck a c) (alt (AjM a c) (Ci e c (ev6 a.Now a.Ap ([]++a.AG) ([]:List AY) ([]++a.BC) ([]++a.A8) (X55)))))))))
def AlX(a:AD)(e:AZ)(X49:AA AD):AA AD:=bd (AA8 a.AO) fun c=>gd (0+a.AG.length<=lim) (gd (0+a.BC.length<=lim) (gd (0+a.A8.length<=lim) (alt (cm a c) (alt (ay a c) (alt (ck a c) (alt (ck a c) (alt (AjL a c) (alt (AlY a c) (Ci e c (ev6 a.Now a.Ap ([]++a.AG) ([]:List AY) ([]++a.BC) ([]++a.A8) (X49)))))))))))
def AlW(a:AD)(e:AZ)(X47:AA AD):AA AD:=bd (AA8 a.AO) fun c=>gd (0+a.AG.length<=lim) (gd (0+a.BC.length<=lim) (gd (0+a.A8.length<=lim) (alt (cm a c) (alt (cm a c) (alt (fe a c) (alt (r6 a c) (alt (AjH a c) (alt (AlX a c) (Ci e c (ev6 a.Now a.Ap ([]++a.AG) ([]:List AY) ([]++a.BC) ([]++a.A8) (X47)))))))))))
def Alc(a:AD)(e:AZ)(X67:AA AD):AA AD:=bd (AA8 a.AO) fun c=>gd (0+a.AG.length<=lim) (gd (0+a.BC.length<=lim) (gd (0+a.A8.length<=lim) (alt (ck a c) (alt (cr a c) (alt (Aia a c) (Ci e c (ev6 a.Now a.Ap ([]++a.AG) ([]:List AY) ([]++a.BC) ([]++a.A8) (X67))))))))
def AjN(a:AD)(e:AZ)(X65:AA AD):AA AD:=bd (AA8 a.AO) fun c=>gd (0+a.AG.length<=lim) (gd (0+a.BC.length<=lim) (gd (0+a.A8.length<=lim) (alt (ck a c) (alt (ck a c) (alt (Alc a c) (Ci e c (ev6 a.Now a.Ap ([]++a.AG) ([]:List AY) ([]++a.BC) ([]++a.A8) (X65))))))))
def Alb(a:AD)(e:AZ)(X63:AA AD):AA AD:=bd (AA8 a.AO) fun c=>gd (0+a.AG.length<=lim) (gd (0+a.BC.length<=lim) (gd (0+a.A8.length<=lim) (alt (cm a c) (alt (ay a c) (alt (ck a c) (alt (ck a c) (alt (AjL a c) (alt (AjN a c) (Ci e c (ev6 a.Now a.Ap ([]++a.AG) ([]:List AY) ([]++a.BC) ([]++a.A8) (X63)))))))))))
def Ala(a:AD)(e:AZ)(X61:AA AD):AA AD:=bd (AA8 a.AO) fun c=>gd (0+a.AG.length<=lim) (gd (0+a.BC.length<=lim) (gd (0+a.A8.length<=lim) (alt (cm a c) (alt (ay a c) (alt (ay a c) (alt (j5 a c) (alt (AjI a c) (alt (Alb a c) (Ci e c (ev6 a.Now a.Ap ([]++a.AG) ([]:List AY) ([]++a.BC) ([]++a.A8) (X61)))))))))))
def Alf(a:AD)(e:AZ)(X73:AA AD):AA AD:=bd (AA8 a.AO) fun c=>gd (0+a.AG.length<=lim) (gd (0+a.BC.length<=lim) (gd (0+a.A8.length<=lim) (alt (ay a c) (alt (ck a c) (alt (ck a c) (alt (AjM a c) (alt (AjN a c) (Ci e c (ev6 a.Now a.Ap ([]++a.AG) ([]:List AY) ([]++a.BC) ([]++a.A8) (X73))))))))))
def Ale(a:AD)(e:AZ)(X71:AA AD):AA AD:=bd (AA8 a.AO) fun c=>gd (0+a.AG.length<=lim) (gd (0+a.BC.length<=lim) (gd (0+a.A8.length<=lim) (alt (ay a c) (alt (ay a c) (alt (kb a c) (alt (AjK a c) (alt (Alf a c) (Ci e c (ev6 a.Now a.Ap ([]++a.AG) ([]:List AY) ([]++a.BC) ([]++a.A8) (X71))))))))))
def Ald(a:AD)(e:AZ)(X69:AA AD):AA AD:=bd (AA8 a.AO) fun c=>gd (0+a.AG.length<=lim) (gd (0+a.BC.length<=lim) (gd (0+a.A8.length<=lim) (alt (ay a c) (alt (ay a c) (alt (kb a c) (alt (AjG a c) (alt (Ale a c) (Ci e c (ev6 a.Now a.Ap ([]++a.AG) ([]:List AY) ([]++a.BC) ([]++a.A8) (X69))))))))))
def AlZ(c:AD)(e:AZ)(X59:AA AD):AA AD:=bd (AA8 c.AO) fun a=>gd (0+c.AG.length<=lim) (gd (0+c.BC.length<=lim) (gd (0+c.A8.length<=lim) (alt (cm c a) (alt (ay c a) (alt (ay c a) (alt (j5 c a) (alt (AjE c a) (alt (Ala c a) (alt (Ald c a) (Ci e a (ev6 c.Now c.Ap ([]++c.AG) ([]:List AY) ([]++c.BC) ([]++c.A8) (X59))))))))))))
def AlV(c:AD)(e:AZ)(X45:AA AD):AA AD:=bd (AA8 c.AO) fun a=>gd (0+c.AG.length<=lim) (gd (0+c.BC.length<=lim) (gd (0+c.A8.length<=lim) (alt (cm c a) (alt (cm c a) (alt (fe c a) (alt (r6 c a) (alt (AjD c a) (alt (AlW c a) (alt (AlZ c a) (Ci e a (ev6 c.Now c.Ap ([]++c.AG) ([]:List AY) ([]++c.BC) ([]++c.A8) (X45))))))))))))
def AlQ(c:AD)(e:AZ)(X25:AA AD):AA AD:=bd (AA8 c.AO) fun a=>gd (0+c.AG.length<=lim) (gd (0+c.BC.length<=lim) (gd (0+c.A8.length<=lim) (alt (cm c a) (alt (cm c a) (alt (fe c a) (alt (Ajr c a) (alt (Ajs c a) (alt (AlR c a) (alt (AlV c a) (Ci e a (ev6 c.Now c.Ap ([]++c.AG) ([]:List AY) ([]++c.BC) ([]++c.A8) (X25))))))))))))
def Alg(a:AD):AA AD:=some a
def AjO(j:AD)(g:(Int×AD)->AA AD)(q:(Int×AD)):AA AD:=match q with |(c,a)=>br (decide (c<(↑j.AI.length:Int))) (bd (at? j.AI c) fun h=>bd (sS h) fun e=>gd (a.AI.length+[e].length<=lim) (g ((w64 (c+1),AD.mk a.AO a.Now a.Ap a.AG (a.AI++[e]) a.BC a.A8)))) (jn Alg a)
def HB(a:AD):AA AD:=bd (AA8 a.AO) fun c=>gd (0+a.AG.length<=lim) (gd (0+a.BC.length<=lim) (gd (0+a.A8.length<=lim) (alt (cm a c) (alt (cm a c) (alt (fe a c) (alt (Ajr a c) (alt (Ajs a c) (alt (AlM a c) (alt (AlQ a c) (A4 (AjO a) big ((0,AD.mk c a.Now a.Ap ([]++a.AG) [] ([]++a.BC) ([]++a.A8)))))))))))))
def VG:GF:=Ap9.D2 (BL HB)
def AQu(a:BX):AA (List UInt8):=bd (eS a) fun c=>br (!c) (some []) (br (a.Kind==1) (bd (AII ([a.Kind,a.Id,a.Aa,w64 (a.Bl+1),a.A2,a.Cj])) fun e=>some e) (br (a.Kind==3) (bd (AII ([a.Kind,a.Aa,a.A2])) fun g=>some g) (br (a.Kind==6) (bd (AII [a.Kind]) fun h=>some h) (bd (AII ([a.Kind,a.Id])) fun j=>some j))))
def ANi:GF:=gZ Alo AiY b9 0x36c64badb0574eb96c75500b499e8acab4b2b667b306cf4520d79ace882f8503f069b8a639c9481b886f575ef74bdb91f8ff49a24320a6ef3b8f7d3792261419e03030c891967623ceb0dc8605de13be1afada23de958b590ecc4bd8d43f17b8 [Mm,VF] (BL AQu)
def Ajc(h:Int)(a:List UInt8)(j:Bool):AA (List UInt8):=br j (some []) (bd (AQh h) fun c=>gd (List.length c+a.length<=On) (bd (rr (c++a)) fun q=>bd (nF q) fun e=>gd (List.length e+(c++a).length<=On) (bd (AQh ((↑(e++(c++a)).length:Int))) fun g=>gd (List.length g+(e++(c++a)).length<=On) (some (g++(e++(c++a)))))))
def rl(a:Int)(c:List UInt8):AA (List UInt8):=bd (Ee a 1 1000000) fun e=>br (!e) (jn (Ajc a c) true) (bd (Ee (↑c.length:Int) 1 60) fun g=>jn (Ajc a c) (!g))
def QR:GF:=gZ [.v .i,.v .s] AiY Bz 0xb66e9f46df31f8331f4e4a698d8d59b07b66d5f95ac875b5ac18c878f884e70afe55675a519237af087e81aabce7580ea78b112d000b [Fm,Xk,SN,SO] (Ah rl) [.OB 22 (.tmp 21)]
def AQv(a:List Ad):AA (List Ad):=gd (0+a.length<=lim) (some a)
def ANj:GF:=gZ Ak7 AON b9 0xa8e31f6bf6af1ce1ba5 [] (BL AQv)
def AID(a:An):AA An:=some a
def AIF(g:An)(h:(Int×An)->AA An)(j:(Int×An)):AA An:=match j with |(a,c)=>br (decide (a<(↑g.Ak.length:Int))) (bd (at? g.Ak a) fun e=>gd (0+List.length e<=lim) (gd (c.Ak.length+[e].length<=lim) (h ((w64 (a+1),An.mk (c.Ak++[e])))))) (jn AID c)
def AA3(a:An):AA An:=A4 (AIF a) big (0,An.mk [])
def AD5:GF:=gZ xY dM ZJ 0x25ee324963578077303172c7bb40e118305d1432217b29ba3616063869d27d1d0fe5d40908b8cffa3e9b5607b3a64c52da24c78494f79027fa2a361a05f83 [] (BL AA3)
def AQw(a:AY):AA AY:=bd (AQv a.Row) fun c=>bd (AA3 a.Bw) fun e=>some (AY.mk a.AV c e)
def ANk:GF:=gZ AOC ZI Am5 0x5dd4fb53ee7895a8c9c4e1a256399ee460b930e16f2a47b75e0a33eb63726f0e [ANj,AD5] (BL AQw)
def Al1(a:AD):AA AD:=some a
def Ajd(j:AD)(g:(Int×AD)->AA AD)(q:(Int×AD)):AA AD:=match q with |(c,a)=>br (decide (c<(↑j.AI.length:Int))) (bd (at? j.AI c) fun h=>bd (AQw h) fun e=>gd (a.AI.length+[e].length<=lim) (g ((w64 (c+1),AD.mk a.AO a.Now a.Ap a.AG (a.AI++[e]) a.BC a.A8)))) (jn Al1 a)
def Lf(a:AD):AA AD:=bd (AYN a.AO) fun c=>gd (0+a.AG.length<=lim) (bd (sO a.BC) fun e=>bd (sO a.A8) fun g=>bd (sO a.A8) fun q=>Ci c c (ev5 a.Now a.Ap a.AG ([]:List AY) e (eqv g q (bd (sO a.BC) fun y=>bd (sO a.A8) fun B=>Ci c c (ev4 a.Now a.Ap a.AG ([]:List AY) (eqv e y (eqv g B (gd (0+a.AG.length<=lim) (bd (sO a.BC) fun E=>bd (sO a.A8) fun G=>Ci c c (ev4 a.Now a.Ap a.AG ([]:List AY) (eqv e E (eqv g G (bd (AYN a.AO) fun H=>gd (0+a.AG.length<=lim) (bd (sO a.BC) fun h=>bd (sO a.A8) fun j=>Ci c H (ev4 a.Now a.Ap a.AG ([]:List AY) (eqv e h (eqv g j (A4 (Ajd a) big (0,AD.mk c a.Now a.Ap a.AG [] e g)))))))))))))))))))
def Lk:GF:=gZ mh mz [.cell 2 (some 15)] 0x2af2f9c1b6e09ad2a3c9626b1a8030f5b93bb658fe7c69782abe8b33fa3c19113c5ee82fb4904b84c944099b7fa8da39c8a2129923f21a3ceca3078f15f9a1a278f1f0a3be291665cfc70b88e7169e91e71d9ae3f92a13985cf5275b665134fa300a03e72e8d9b3564c8f5bf48027007b0b7a5eca7f208beca7e575ed2264242adf8f8f9ed1c9dd2526660949ce31130cd08d90f61d9e57406cfc43586d782d413d95a7232eaed499ec4bed430446c05b3e8429c7948300b0608e5a859961151e298f4915babd214802d621d35b246b7db1e548eaf46bf3ef703d9997427a2f9796469a50ebba1312a6841fd0efb3046d4feb2480cdb14cd3c578ce691f1a69282adc0b0bac3d8236fa56665fc2e55f3c6473f9f9dfd2664e37797e2d73cb323c02c2f5e35f449f113bdb52cb4ff7f516f4fe0d [AD6,lJ,ANk] (BL Lf)
def r9(a:List Int):AA (List UInt8):=bd (AIR a) fun c=>some c
def AA4(a:BX):AA (List UInt8):=bd (fP a) fun c=>br (!c) (some []) (br (a.Kind==1) (gd ([a.Kind].length+[a.Id,a.Aa,w64 (a.Bl+1),a.A2,a.Cj].length<=lim) (jn (r9) ([a.Kind]++[a.Id,a.Aa,w64 (a.Bl+1),a.A2,a.Cj]))) (br (a.Kind==3) (gd ([a.Kind].length+[a.Aa,a.A2].length<=lim) (jn (r9) ([a.Kind]++[a.Aa,a.A2]))) (br (a.Kind==6) (jn r9 [a.Kind]) (gd ([a.Kind].length+[a.Id].length<=lim) (jn (r9) ([a.Kind]++[a.Id]))))))
def SM:GF:=gZ Alo AiY b9 0x38d16627416f6a485aaec3dc39c2750cb650363e576c2b5423606924a88b1ee324f9a2c30b93e31f75d83e489058ef2d87ef94a709a1649623e629a81c8a50ee45d270475747a72843e0f45d7efb30e50aa5d4488c69e36c8ba97ee9037bfc21897215708e [OT,Xl] (BL AA4)
def Aje(h:Int)(c:List UInt8)(j:Bool):AA (List UInt8):=br j (some []) (bd (AA6 h) fun e=>gd (List.length e+c.length<=lim) (bd (fV (e++c)) fun a=>gd ([toB (Dx a 24),toB (Dx a 16),toB (Dx a 8),toB a].length+(e++c).length<=lim) (bd (AA6 ((↑([toB (Dx a 24),toB (Dx a 16),toB (Dx a 8),toB a]++(e++c)).length:Int))) fun g=>gd (List.length g+([toB (Dx a 24),toB (Dx a 16),toB (Dx a 8),toB a]++(e++c)).length<=On) (some (g++([toB (Dx a 24),toB (Dx a 16),toB (Dx a 8),toB a]++(e++c)))))))
def AQx(a:Int)(c:List UInt8):AA (List UInt8):=bd (DE a 1 1000000) fun e=>br (!e) (jn (Aje a c) true) (bd (DE (↑c.length:Int) 1 60) fun g=>jn (Aje a c) (!g))
def AY9:GF:=gZ [.v .i,.v .s] AiY Bz 0x1cf4da74449758197088dfa38d4e71f6b2538fef92fc2bf96f1877595749a16fa25366370323993e2da74dcc1925b31f0491015738258b3b04b813599c67ae14ef8e36d96403506a5adf5661e0deb59e0c4e99cbfba6304364a9b280097 [EC,SS,Ll] (Ah AQx)
end Lv
