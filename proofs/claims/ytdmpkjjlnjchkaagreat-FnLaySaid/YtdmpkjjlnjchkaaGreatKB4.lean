/- Functions of the program as typed texts and as plain functions. -/
import Derived.Test.YtdmpkjjlnjchkaaGreatKA4
noncomputable section
set_option linter.unusedVariables false
set_option linter.unusedSimpArgs false
set_option linter.unusedSectionVars false
set_option maxRecDepth 100000
namespace Lv
open Go (IntKind BinOp UnOp)
open Y (YF qn qf qt qr q1 qd qm qa qo ql qL qb qi qx qp qq qc qz qe qk qK qB qw qu qj Kp wn wf wt w1 sw sq sr wm wM wo wO wl wL wk wK wz wZ wx wX wb wB wi wI wr wR wq wQ we wE wc wY wj wh cv ca cx cn ce bl)
def AX8(a:AZ):AA (List Int):=bd (AAi a) fun c=>br (!c) (some []) (gd ([a.CJ,a.Room,a.A2,a.CB,a.Bq,a.Rest,a.CL,a.Cs].length+a.AV.length<=lim) (some ([a.CJ,a.Room,a.A2,a.CB,a.Bq,a.Rest,a.CL,a.Cs]++a.AV)))
def R6:GF:=gZ BAE A87 A8H 0x4b91342b9e1741b172aa15457aafcd1c7ecfbef96da66a7125b35dd6d040c31380c7558adbbdc75bc6fd24cb2e86 [OD] (BL AX8)
def BGP:YF:=⟨[],[.v (.st 8)],[],.ret [(.l .i)],[.tmp 2],sq [qu 1 0,.as 2 (.k .nil)] [1] (.seq (sw 11 [wk 15 1,wY OO rfl,wX] [1,13] (cn 13 [1] (sq [.as 2 (.k .nil)] [2] .ret))) (sr [wn 14 [wo 0 1,wK 9,wY R6 rfl],qn [qa 3 16]] [1,3] (sr [wn 17 [wm 3,wZ,wh (.B7 · 1 .i [(0,(.tmp 18))]),wm 3,wh (.app · .i true (.tmp 19) (.tmp 20))],qn [qa 4 21]] [1,4] (sr [wn 22 [wm 4,wo 9 1,wL,wo 10 1,wL,wo 11 1,wL,wZ,wh (.B7 · 3 .i [(0,(.tmp 24)),(1,(.tmp 26)),(2,(.tmp 29))]),wh (.app · .i true (.tmp 22) (.tmp 30))],qn [qa 4 31]] [1,4] (.join [cv 4 (.l .i)] (sw 32 [wo 11 1,wL,wZ,wj 0] (Kp 60129542162) (bl 0 [cv 4 (.l .i),cv 35 .i] (sq [qb 36 .lss 35 34] (Kp 128849018898) (.seq (ce 36 (Kp 60129542162) [1,4] 0) (.seq (.block 1 (sr [wn 37 [we (.st 2) 33 35,wK 10],qn [.alloc 6 HW,qw 10 6 38]] (Kp 60129542226) (qr [wn 39 [wm 4,wo 0 6,wL,wo 1 6,wL,wo 2 6,wL,wI .add 1,wo 3 6,wL,wo 4 6,wL,wo 5 6,wL,wo 6 6,wL,wo 7 6,wL,wo 8 6,wL,wo 9 6,wL,wh (.B7 · 10 .i [(0,(.tmp 41)),(1,(.tmp 43)),(2,(.tmp 46)),(3,(.tmp 48)),(4,(.tmp 50)),(5,(.tmp 52)),(6,(.tmp 54)),(7,(.tmp 56)),(8,(.tmp 58)),(9,(.tmp 60))]),wh (.app · .i true (.tmp 39) (.tmp 61))],qn [qa 4 62]] (Kp 60129542162)))) (q1 [qi 63 .add 35 1,qm 35 63] (Kp 60129542162))))))) (.join [cv 4 (.l .i)] (sw 64 [wo 12 1,wL,wZ,wj 0] [1,4,65,66,67] (bl 2 [cv 4 (.l .i),cv 67 .i] (sq [qb 68 .lss 67 66] [1,4,65,66,67,68] (.seq (ce 68 [1,4,65,66,67] [1,4] 2) (.seq (.block 3 (sr [wn 69 [we (.st 7) 65 67,wK 7],qn [.alloc 8 AUY,.Zk [(.cell 8 5,(.st 4)),(.cell 8 6,(.l (.st 5)))],qw 7 8 70]] [1,4,8,65,66,67] (qr [wn 71 [wm 4,wo 0 8,wO 1,wL,wh (.B7 · 1 .i [(0,(.tmp 74))]),wh (.app · .i true (.tmp 71) (.tmp 75))],qn [qa 4 76]] [1,4,65,66,67]))) (q1 [qi 77 .add 67 1,qm 67 77] [1,4,65,66,67])))))) (sr [wn 78 [wm 4,wo 13 1,wL,wZ,wh (.B7 · 1 .i [(0,(.tmp 81))]),wh (.app · .i true (.tmp 78) (.tmp 82))],qn [qa 4 83]] [1,4] (sr [wn 84 [wm 4,wo 13 1,wL,wh (.app · .i true (.tmp 84) (.tmp 86))],qn [qa 4 87]] [1,4] (.join [cv 4 (.l .i)] (sw 88 [wo 14 1,wL,wZ,wj 0] [4,89,90,91] (bl 4 [cv 4 (.l .i),cv 91 .i] (sq [qb 92 .lss 91 90] [4,89,90,91,92] (.seq (ce 92 [4,89,90,91] [4] 4) (.seq (.block 5 (sr [wn 93 [we .i 89 91,wL],qn [qa 10 94]] [4,10,89,90,91] (qr [wn 95 [wm 4,wm 10,wI .add 1,wh (.B7 · 1 .i [(0,(.tmp 97))]),wh (.app · .i true (.tmp 95) (.tmp 98))],qn [qa 4 99]] [4,89,90,91]))) (q1 [qi 100 .add 91 1,qm 91 100] [4,89,90,91])))))) (sq [qm 101 4,qa 2 101] [2] .ret))))))))))⟩
def BCL(a:List Int):AA (List Int):=some a
def BAV(h:AD)(g:((List Int)×Int)->AA (List Int))(j:((List Int)×Int)):AA (List Int):=match j with |(a,c)=>br (decide (c<(↑h.A8.length:Int))) (bd (at? h.A8 c) fun e=>gd (List.length a+[w64 (e+1)].length<=lim) (g ((a++[w64 (e+1)],w64 (c+1))))) (jn BCL a)
def A9M(c:AD)(a:List Int):AA (List Int):=gd (a.length+[(↑c.BC.length:Int)].length<=lim) (gd ((a++[(↑c.BC.length:Int)]).length+c.BC.length<=lim) (A4 (BAV c) big ((a++[(↑c.BC.length:Int)]++c.BC,0))))
def BAU(e:AD)(h:((List Int)×Int)->AA (List Int))(j:((List Int)×Int)):AA (List Int):=match j with |(g,a)=>br (decide (a<(↑e.AI.length:Int))) (bd (at? e.AI a) fun c=>gd (List.length g+[c.AV.DT].length<=lim) (h ((g++[c.AV.DT],w64 (a+1))))) (jn (A9M e) g)
def Avf(a:AD)(c:List Int):AA (List Int):=A4 (BAU a) big (c,0)
def Avg(c:AD)(h:((List Int)×Int)->AA (List Int))(j:((List Int)×Int)):AA (List Int):=match j with |(e,g)=>br (decide (g<(↑c.AG.length:Int))) (bd (at? c.AG g) fun a=>gd (List.length e+[a.Id,a.Aa,w64 (a.Bl+1),a.A2,a.Cj,a.Since,a.Ap,a.State,a.Cf,a.Cu].length<=lim) (h ((e++[a.Id,a.Aa,w64 (a.Bl+1),a.A2,a.Cj,a.Since,a.Ap,a.State,a.Cf,a.Cu],w64 (g+1))))) (jn (Avf c) e)
def AQW(a:AD):AA (List Int):=bd (AAt a) fun e=>br (!e) (none) (bd (AX8 a.AO) fun c=>gd ([(↑(List.length c):Int)].length+List.length c<=lim) (gd (([(↑(List.length c):Int)]++c).length+[a.Now,a.Ap,(↑a.AG.length:Int)].length<=lim) (A4 (Avg a) big (([(↑(List.length c):Int)]++c++[a.Now,a.Ap,(↑a.AG.length:Int)],0)))))
def R7:GF:=BGP.D2 (BL AQW)
def Avh(e:(Int×(List UInt8))):AA (List UInt8):=match e with |(a,c)=>gd (c.length+[toB a].length<=lim) (some (c++[toB a]))
def Avi(e:(Int×(List UInt8))->AA (List UInt8))(g:(Int×(List UInt8))):AA (List UInt8):=match g with |(a,c)=>br (decide (a>=128)) (gd (c.length+[toB (w64 (Int.tmod a 128+128))].length<=lim) (e ((w64 (Int.tdiv a 128),c++[toB (w64 (Int.tmod a 128+128))])))) (jn Avh (a,c))
def AHd(a:Int):AA (List UInt8):=bd (AQR a 0 2147483647) fun c=>br (!c) (some []) (A4 (Avi) big (a,[]))
def OJ:GF:=gZ AvT ZI A8H 0x4638bc8250dceb86f007b9b099799b5de9a0b2fea81d92ca7e64aa243d868caa5f4cae9ab9119070d5a5d5074a506b342df1bae388ab5dc3e4e6775 [Rz] (BL AHd)
def BCM(a:List UInt8):AA (List UInt8):=some a
def AHe(e:List Int)(h:((List UInt8)×Int)->AA (List UInt8))(q:((List UInt8)×Int)):AA (List UInt8):=match q with |(a,c)=>br (decide (c<(↑e.length:Int))) (bd (at? e c) fun j=>bd (AHd j) fun g=>gd (List.length a+List.length g<=lim) (h ((a++g,w64 (c+1))))) (jn BCM a)
def AX9(a:List Int):AA (List UInt8):=A4 (AHe a) big ([],0)
def R8:GF:=gZ dL xc A8H 0x5033bf19092f9b52948cc6dc6dd89ad89f90dd81bb720807465222db4b1eb4f3a7446b89d9bb7e847608791dd290fe452f6f1d0 [OJ] (BL AX9)
def BAW(a:(Int×Int)->AA Int)(c:Int)(e:Int):AA Int:=a ((e,w64 (c+1)))
def BCN(a:(Int×Int)->AA Int)(c:Int)(e:Int):AA Int:=a ((e,w64 (c+1)))
def BAY(g:(Int×Int)->AA Int)(h:Int)(e:(Int×Int)->AA Int)(j:(Int×Int)):AA Int:=match j with |(a,c)=>br (decide (c<8)) (br (pP a 1==1) (jn (BAW e c) (bN (Dx a 1) 3988292384)) (jn (BAW e c) (Dx a 1))) (jn (BCN g h) a)
def BCO(a:Int):AA Int:=some (bN a 4294967295)
def BAX(c:List UInt8)(g:(Int×Int)->AA Int)(j:(Int×Int)):AA Int:=match j with |(e,a)=>br (decide (a<(↑c.length:Int))) (bd (at? c a) fun h=>A4 (BAY g a) big ((bN e (w64 (↑(UInt8.toNat h):Int)),0))) (jn BCO e)
def AQX(a:List UInt8):AA Int:=A4 (BAX a) big (4294967295,0)
def R9:GF:=gZ Aw1 A4O A8H 0x31c2610b9c8264859ce49c3e545d35fe33f4da6673bd0b0a2dbe0b98251558ef8f628b722981c42d48ddd6297940db0322edfef9a5a9aded9facda67ea1e64bcbd1683d453211705ce6faad19f209243ff3f5396b0c87f404878769c50a5cec6 [] (BL AQX)
def Ahb:YF:=⟨[],[.v (.st 8),.v .i],[],.ret [.s],[.tmp 4],sq [qu 2 0,.as 4 (.k (.str []))] [1,2] (sr [wn 8 [wk 15 2,wY R7 rfl],qn [qa 5 9]] [1,5] (.seq (sr [wn 10 [wm 5,wh (.bin · .sl .eql (.tmp 10) (.k .nil)),wM],wf 12 13 [wm 1,wc Rz rfl [13,qj 0,qj 1000000],wX],qn [qp 16 12 15]] [1,5,16] (cn 16 [1,5] (sq [.as 4 (.k (.str []))] [4] .ret))) (.seq (.RD (.op 0 none [] (.mv 17 (.tmp 1)) (.op 3 none [] (.mv 20 (.tmp 5)) (qd 1 [wn 18 [wY OJ rfl,wh (.Ru · (.tmp 18))]] (.op 4 none [18] (.call 21 R8 [] rfl [(.tmp 20)]) (qd 5 [qn [qb 22 .add 19 21,qa 6 22]] .nil))))) [6]) (sr [wn 23 [wm 6,wh (.OB · (.tmp 23)),wY R9 rfl],qn [qa 7 25]] [6,7] (sr [wn 26 [wm 7,wh (.bin · .num .shr (.tmp 26) (.k (.int .u64 24))),wh (.cvI · .u8 (.tmp 27)),wm 7,wh (.bin · .num .shr (.tmp 29) (.k (.int .u64 16))),wh (.cvI · .u8 (.tmp 30)),wm 7,wh (.bin · .num .shr (.tmp 32) (.k (.int .u64 8))),wh (.cvI · .u8 (.tmp 33)),wm 7,wh (.cvI · .u8 (.tmp 35)),wh (.B7 · 4 .u [(0,(.tmp 28)),(1,(.tmp 31)),(2,(.tmp 34)),(3,(.tmp 36))]),wh (.Ru · (.tmp 37)),wm 6,wB .add 38],qn [qa 4 40]] [4] .ret)))))⟩
def rG(j:AD)(g:Int):AA (List UInt8):=bd (AQW j) fun h=>gd (List.isEmpty h=false) (bd (AQR g 0 1000000) fun q=>br (!q) (some []) (bd (AHd g) fun c=>bd (AX9 h) fun e=>gd (List.length c+List.length e<=On) (bd (AQX (c++e)) fun a=>gd ([toB (Dx a 24),toB (Dx a 16),toB (Dx a 8),toB a].length+(c++e).length<=On) (some ([toB (Dx a 24),toB (Dx a 16),toB (Dx a 8),toB a]++(c++e))))))
def OK:GF:=Ahb.D2 (Ah rG)
def Ahc:YF:=⟨[],[.v (.st 8)],[],.ret [.z],[.tmp 2],sq [qu 1 0,.as 2 (.k .nil)] [1] (.seq (sw 11 [wk 15 1,wY OO rfl,wX] [1,13] (cn 13 [1] (sq [.as 2 (.k .nil)] [2] .ret))) (sr [wn 14 [wo 0 1,wK 9,wY R6 rfl],qn [qa 3 16]] [1,3] (sr [wn 17 [wm 3,wZ,wh (.B7 · 1 .i [(0,(.tmp 18))]),wm 3,wh (.app · .i true (.tmp 19) (.tmp 20))],qn [qa 4 21]] [1,4] (sr [wn 22 [wm 4,wo 9 1,wL,wo 10 1,wL,wo 11 1,wL,wZ,wh (.B7 · 3 .i [(0,(.tmp 24)),(1,(.tmp 26)),(2,(.tmp 29))]),wh (.app · .i true (.tmp 22) (.tmp 30))],qn [qa 4 31]] [1,4] (.join [cv 4 (.l .i)] (sw 32 [wo 11 1,wL,wZ,wj 0] (Kp 60129542162) (bl 0 [cv 4 (.l .i),cv 35 .i] (sq [qb 36 .lss 35 34] (Kp 128849018898) (.seq (ce 36 (Kp 60129542162) [1,4] 0) (.seq (.block 1 (sr [wn 37 [we (.st 2) 33 35,wK 10],qn [.alloc 6 HW,qw 10 6 38]] (Kp 60129542226) (qr [wn 39 [wm 4,wo 0 6,wL,wo 1 6,wL,wo 2 6,wL,wI .add 1,wo 3 6,wL,wo 4 6,wL,wo 5 6,wL,wo 6 6,wL,wo 7 6,wL,wo 8 6,wL,wo 9 6,wL,wh (.B7 · 10 .i [(0,(.tmp 41)),(1,(.tmp 43)),(2,(.tmp 46)),(3,(.tmp 48)),(4,(.tmp 50)),(5,(.tmp 52)),(6,(.tmp 54)),(7,(.tmp 56)),(8,(.tmp 58)),(9,(.tmp 60))]),wh (.app · .i true (.tmp 39) (.tmp 61))],qn [qa 4 62]] (Kp 60129542162)))) (q1 [qi 63 .add 35 1,qm 35 63] (Kp 60129542162))))))) (.join [cv 4 (.l .i)] (sw 64 [wo 12 1,wL,wZ,wj 0] [1,4,65,66,67] (bl 2 [cv 4 (.l .i),cv 67 .i] (sq [qb 68 .lss 67 66] [1,4,65,66,67,68] (.seq (ce 68 [1,4,65,66,67] [1,4] 2) (.seq (.block 3 (sr [wn 69 [we (.st 7) 65 67,wK 7],qn [.alloc 8 AUY,.Zk [(.cell 8 5,(.st 4)),(.cell 8 6,(.l (.st 5)))],qw 7 8 70]] [1,4,8,65,66,67] (qr [wn 71 [wm 4,wo 0 8,wO 1,wL,wh (.B7 · 1 .i [(0,(.tmp 74))]),wh (.app · .i true (.tmp 71) (.tmp 75))],qn [qa 4 76]] [1,4,65,66,67]))) (q1 [qi 77 .add 67 1,qm 67 77] [1,4,65,66,67])))))) (sr [wn 78 [wm 4,wo 13 1,wL,wZ,wh (.B7 · 1 .i [(0,(.tmp 81))]),wh (.app · .i true (.tmp 78) (.tmp 82))],qn [qa 4 83]] [1,4] (sr [wn 84 [wm 4,wo 13 1,wL,wh (.app · .i true (.tmp 84) (.tmp 86))],qn [qa 4 87]] [1,4] (.join [cv 4 (.l .i)] (sw 88 [wo 14 1,wL,wZ,wj 0] [4,89,90,91] (bl 4 [cv 4 (.l .i),cv 91 .i] (sq [qb 92 .lss 91 90] [4,89,90,91,92] (.seq (ce 92 [4,89,90,91] [4] 4) (.seq (.block 5 (sr [wn 93 [we .i 89 91,wL],qn [qa 10 94]] [4,10,89,90,91] (qr [wn 95 [wm 4,wm 10,wI .add 1,wh (.B7 · 1 .i [(0,(.tmp 97))]),wh (.app · .i true (.tmp 95) (.tmp 98))],qn [qa 4 99]] [4,89,90,91]))) (q1 [qi 100 .add 91 1,qm 91 100] [4,89,90,91])))))) (sq [qm 101 4,qa 2 101] [2] .ret))))))))))⟩
def BEx(a:List Int):AA PUnit:=none
def BE0(h:AD)(g:((List Int)×Int)->AA PUnit)(j:((List Int)×Int)):AA PUnit:=match j with |(a,c)=>br (decide (c<(↑h.A8.length:Int))) (bd (at? h.A8 c) fun e=>gd (List.length a+[w64 (e+1)].length<=lim) (g ((a++[w64 (e+1)],w64 (c+1))))) (jn BEx a)
def BEw(c:AD)(a:List Int):AA PUnit:=gd (a.length+[(↑c.BC.length:Int)].length<=lim) (gd ((a++[(↑c.BC.length:Int)]).length+c.BC.length<=lim) (A4 (BE0 c) big ((a++[(↑c.BC.length:Int)]++c.BC,0))))
def BEz(e:AD)(h:((List Int)×Int)->AA PUnit)(j:((List Int)×Int)):AA PUnit:=match j with |(g,a)=>br (decide (a<(↑e.AI.length:Int))) (bd (at? e.AI a) fun c=>gd (List.length g+[c.AV.DT].length<=lim) (h ((g++[c.AV.DT],w64 (a+1))))) (jn (BEw e) g)
def BEv(a:AD)(c:List Int):AA PUnit:=A4 (BEz a) big (c,0)
def BEy(c:AD)(h:((List Int)×Int)->AA PUnit)(j:((List Int)×Int)):AA PUnit:=match j with |(e,g)=>br (decide (g<(↑c.AG.length:Int))) (bd (at? c.AG g) fun a=>gd (List.length e+[a.Id,a.Aa,w64 (a.Bl+1),a.A2,a.Cj,a.Since,a.Ap,a.State,a.Cf,a.Cu].length<=lim) (h ((e++[a.Id,a.Aa,w64 (a.Bl+1),a.A2,a.Cj,a.Since,a.Ap,a.State,a.Cf,a.Cu],w64 (g+1))))) (jn (BEv c) e)
def Agv(a:AD):AA PUnit:=bd (AAt a) fun e=>br (!e) (some ()) (bd (AX8 a.AO) fun c=>gd ([(↑(List.length c):Int)].length+List.length c<=lim) (gd (([(↑(List.length c):Int)]++c).length+[a.Now,a.Ap,(↑a.AG.length:Int)].length<=lim) (A4 (BEy a) big (([(↑(List.length c):Int)]++c++[a.Now,a.Ap,(↑a.AG.length:Int)],0)))))
def OL:GF:=Ahc.D2 (BL Agv)
def Ahd:YF:=⟨[],[.v (.st 8),.v .i],[],.ret [.s],[.tmp 4],sq [qu 2 0,.as 4 (.k (.str []))] [1,2] (sr [wn 8 [wk 15 2,wY OL rfl],qn [qa 5 9]] [1,5] (.seq (sr [wn 10 [wm 5,wh (.bin · .sl .eql (.tmp 10) (.k .nil)),wM],wf 12 13 [wm 1,wc Rz rfl [13,qj 0,qj 1000000],wX],qn [qp 16 12 15]] [1,5,16] (cn 16 [1,5] (sq [.as 4 (.k (.str []))] [4] .ret))) (.seq (.RD (.op 0 none [] (.mv 17 (.tmp 1)) (.op 3 none [] (.mv 20 (.tmp 5)) (qd 1 [wn 18 [wY OJ rfl,wh (.Ru · (.tmp 18))]] (.op 4 none [18] (.call 21 R8 [] rfl [(.tmp 20)]) (qd 5 [qn [qb 22 .add 19 21,qa 6 22]] .nil))))) [6]) (sr [wn 23 [wm 6,wh (.OB · (.tmp 23)),wY R9 rfl],qn [qa 7 25]] [6,7] (sr [wn 26 [wm 7,wh (.bin · .num .shr (.tmp 26) (.k (.int .u64 24))),wh (.cvI · .u8 (.tmp 27)),wm 7,wh (.bin · .num .shr (.tmp 29) (.k (.int .u64 16))),wh (.cvI · .u8 (.tmp 30)),wm 7,wh (.bin · .num .shr (.tmp 32) (.k (.int .u64 8))),wh (.cvI · .u8 (.tmp 33)),wm 7,wh (.cvI · .u8 (.tmp 35)),wh (.B7 · 4 .u [(0,(.tmp 28)),(1,(.tmp 31)),(2,(.tmp 34)),(3,(.tmp 36))]),wh (.Ru · (.tmp 37)),wm 6,wB .add 38],qn [qa 4 40]] [4] .ret)))))⟩
def Agw(a:AD)(c:Int):AA (List UInt8):=bd (Agv a) fun e=>some []
def FN:GF:=Ahd.D2 (Ah Agw)
def AYA(a:AD)(c:Int):AA (List UInt8):=orE (rG a c) (Agw a c)
def IB:GF:=OK.orE (fun a=>AYA a.1 a.2.1) (fun a=>Agw a.1 a.2.1) (fun a=>by kernel_rfl) (fun a r h=>Eq.mp (by kernel_rfl) (FN.ok a r h))
def BCP(a:List Int):AA (List Int):=some a
def BAb(h:AD)(g:((List Int)×Int)->AA (List Int))(j:((List Int)×Int)):AA (List Int):=match j with |(a,c)=>br (decide (c<(↑h.A8.length:Int))) (bd (at? h.A8 c) fun e=>gd (List.length a+[w64 (e+1)].length<=lim) (g ((a++[w64 (e+1)],w64 (c+1))))) (jn BCP a)
def A9O(c:AD)(a:List Int):AA (List Int):=gd (a.length+[(↑c.BC.length:Int)].length<=lim) (gd ((a++[(↑c.BC.length:Int)]).length+c.BC.length<=lim) (A4 (BAb c) big ((a++[(↑c.BC.length:Int)]++c.BC,0))))
def BAa(e:AD)(h:((List Int)×Int)->AA (List Int))(j:((List Int)×Int)):AA (List Int):=match j with |(g,a)=>br (decide (a<(↑e.AI.length:Int))) (bd (at? e.AI a) fun c=>gd (List.length g+[c.AV.DT].length<=lim) (h ((g++[c.AV.DT],w64 (a+1))))) (jn (A9O e) g)
def A9N(a:AD)(c:List Int):AA (List Int):=A4 (BAa a) big (c,0)
def BAZ(c:AD)(h:((List Int)×Int)->AA (List Int))(j:((List Int)×Int)):AA (List Int):=match j with |(e,g)=>br (decide (g<(↑c.AG.length:Int))) (bd (at? c.AG g) fun a=>gd (List.length e+[a.Id,a.Aa,w64 (a.Bl+1),a.A2,a.Cj,a.Since,a.Ap,a.State,a.Cf,a.Cu].length<=lim) (h ((e++[a.Id,a.Aa,w64 (a.Bl+1),a.A2,a.Cj,a.Since,a.Ap,a.State,a.Cf,a.Cu],w64 (g+1))))) (jn (A9N c) e)
def AQY(a:AD):AA (List Int):=bd (AAt a) fun e=>br (!e) (some []) (bd (AX8 a.AO) fun c=>gd ([(↑(List.length c):Int)].length+List.length c<=lim) (gd (([(↑(List.length c):Int)]++c).length+[a.Now,a.Ap,(↑a.AG.length:Int)].length<=lim) (A4 (BAZ a) big (([(↑(List.length c):Int)]++c++[a.Now,a.Ap,(↑a.AG.length:Int)],0)))))
def SA:GF:=gZ Ae8 A87 A8H 0x20e1f2b9693ba5758ceb57a2f56ebc701840b857740bd370eac0ede5a14b23d9f913bcda817a2b7ade1b8bf17aff319e0b9dc3ddbeba823827a7a439501b3a840417f3e1b730dccfb40efc39173f86d2dae9db8fdde6b7758ac200af9a23d779c343d0e1b87502560d4e8428b0c5236de94945ea4545f26a7f0641779a48d805dafaceec8ff306ff0c42b998a7aa95451b0a2b138b6b292639d019f31be7866403e55fe400b99c828f5f75d9c1309b48c1ab990adbd51cbbf8c112f9f52b41b52c9caa36c7e5931a27f6adf9f7eeaf97fae555c231cc7c64dec96226a21663824e98e7519fe82ee1d460cdd7fa88337b1413b00ddbd23d256 [OO,R6] (BL AQY)
def AA0(a:AZ):AA AZ:=gd (0+a.AV.length<=lim) (some (AZ.mk ([]++a.AV) a.CJ a.Room a.A2 a.CB a.Bq a.Rest a.CL a.Cs))
def SH:GF:=gZ BAE lT xh 0x15c1dadadca1b952ef2ef4cffd064c528a0c [] (BL AA0)
def rT(a:Int):AA (A9×Bool):=bd (Afm (A9.mk a 0 0 a 0)) fun c=>br (!c) (some (A9.mk 0 0 0 0 0,false)) (some (A9.mk a 0 0 a 0,true))
def QN:GF:=gZ AvT Am1 [.cell 2 (some 5),.tmp 3] 0x54f48883c2cc4e96f62a6f86e2f7c3937cbda04d47c9afdcc685f439c247c2ac85427 [ATH] (BL rT)
def BGR:YF:=⟨[],[],[],.ret [(.st 6)],[.cell 0 (some 1)],dY 0x95351fde22f437d10b674101b2bd1b8d75a010ff9f49d6424c005c3c065ac0f099f2de860216ff549313226dd849f6699 []⟩
def AHu(a:An):AA An:=some a
def rU(e:(Int×An)->AA An)(g:(Int×An)):AA An:=match g with |(c,a)=>br (decide (c<9)) (gd (a.Ak.length+1<=lim) (e ((w64 (c+1),An.mk (a.Ak++[[]]))))) (jn AHu a)
def AHt:AA An:=A4 (rU) big (0,An.mk [])
def QO:GF:=BGR.gf rfl rfl (fun a=>AHt) (fun a=>by kernel_rfl)
def rV(c:Int):AA (AY×Bool):=bd (rT c) fun a=>br (!a.snd) (some ((AY.mk (A9.mk 0 0 0 0 0) [] (An.mk []),false))) (bd (AHt) fun e=>some (AY.mk a.fst [] e,true))
def QP:GF:=gZ AvT (.ret [(.st 7),.b]) [.cell 2 (some 7),.tmp 3] 0xfc14f8200f5af68990db3e2059ce0ecb3a71730477558598a60adcce7a082897c49750ae4017323d61fa27c43decc10de [QN,QO] (BL rV)
def AHw(a:AD):AA (AD×Bool):=some (a,true)
def BCa(g:AZ)(e:(Int×AD)->AA (AD×Bool))(h:(Int×AD)):AA (AD×Bool):=match h with |(c,a)=>br (decide (c<g.Cs)) (gd (a.A8.length+[-1].length<=lim) (e ((w64 (c+1),AD.mk a.AO a.Now a.Ap a.AG a.AI a.BC (a.A8++[-1]))))) (jn AHw a)
def rY(a:AZ)(c:AD):AA (AD×Bool):=A4 (BCa a) big (0,c)
def ra(c:AZ)(h:(Int×AD)->AA (AD×Bool))(q:(Int×AD)):AA (AD×Bool):=match q with |(e,a)=>br (decide (e<(↑c.AV.length:Int))) (bd (at? c.AV e) fun j=>bd (rV j) fun g=>gd (a.AI.length+[g.fst].length<=lim) (h ((w64 (e+1),AD.mk a.AO a.Now a.Ap a.AG (a.AI++[g.fst]) a.BC a.A8)))) (jn (rY c) a)
def nD(a:AZ):AA (AD×Bool):=bd (Afi a) fun c=>br (!c) (some ((AD.mk (AZ.mk [] 0 0 0 0 0 0 0 0) 0 0 [] [] [] [],false))) (bd (AA0 a) fun e=>A4 (ra a) big (0,AD.mk e 0 1 [] [] [] []))
def QQ:GF:=gZ BAE (.ret [(.st 8),.b]) BC9 0x40fb3b3673437dda5e7734cab36256666584f931e9aea2a5356ceb7eb04cfa4b1e34f7427bc7fd200d75cbccd29e5e84ed09e0ca1387196ab94acb69f0f8f18bbf2db765178a6b9490fe06020b4a048e0614f90ced3e396880b425861eb8c2cb97b490ed83b6580c08f16467580db6dbcbd3dfd8a60f138837d16ea921385e47630c79fa [ATC,SH,QP] (BL nD)
def AQi(e:AZ):AA (Ae×Bool):=bd (nD e) fun a=>br (!a.snd) (some ((Ae.mk (AD.mk (AZ.mk [] 0 0 0 0 0 0 0 0) 0 0 [] [] [] []) (Bb.mk (Bu.mk [] 0) (Bu.mk [] 0) (Bu.mk [] 0)) 0 [],false))) (bd (AHn a.fst 0) fun c=>some ((Ae.mk a.fst (Bb.mk (Bu.mk [] 0) (Bu.mk c (↑(List.length c):Int)) (Bu.mk [] 0)) 0 [],true)))
def SI:GF:=gZ BAE Am2 BE1 0x122cb1cc927928267e157063b95b2559d8a08f1cf0f5af2c9ea24c0fec92710a3133c9ebe6894cb8003d85dce2ad7339abef38e6935be12a46ff7ce9c3a7169176b8 [QQ,QM] (BL AQi)
def AYF(a:List Int):AA (List Int):=gd (0+a.length<=lim) (some a)
def SJ:GF:=gZ dL A87 A8H 0x3dda41493d850cf910c9 [] (BL AYF)
def AA1(a:AZ):AA AZ:=bd (AYF a.AV) fun c=>some (AZ.mk c a.CJ a.Room a.A2 a.CB a.Bq a.Rest a.CL a.Cs)
def OS:GF:=gZ BAE lT xh 0x1eb3a4a2e7c971165e7ad5a1f67f57a05 [SJ] (BL AA1)
def BGS:YF:=⟨[],[],[],.ret [(.st 6)],[.cell 0 (some 1)],dY 0xd18d973e37a056dbe1df9363ca [] [.Nt 1 (.l (.st 5)) (.k (.int .i64 9))]⟩
def WX:AA An:=some (An.mk (List.replicate (Int.toNat 9) []))
def Ji:GF:=BGS.gf rfl rfl (fun a=>WX) (fun a=>by kernel_rfl)
def A8u(a:Bu):AA Bu:=bd (W6 a) fun c=>br (!c) (some a) (some (Bu.mk a.Data (↑a.Data.length:Int)))
end Lv
set_option maxRecDepth 100000
namespace Lv
open Go (IntKind BinOp UnOp)
open Y (YF qn qf qt qr q1 qd qm qa qo ql qL qb qi qx qp qq qc qz qe qk qK qB qw qu qj Kp wn wf wt w1 sw sq sr wm wM wo wO wl wL wk wK wz wZ wx wX wb wB wi wI wr wR wq wQ we wE wc wY wj wh cv ca cx cn ce bl)
def BCb(a:An):AA An:=some a
def BCc(g:An)(h:(Int×An)->AA An)(j:(Int×An)):AA An:=match j with |(a,c)=>br (decide (a<(↑g.Ak.length:Int))) (bd (at? g.Ak a) fun e=>gd (0+List.length e<=lim) (gd (c.Ak.length+[[]++e].length<=lim) (h ((w64 (a+1),An.mk (c.Ak++[[]++e])))))) (jn BCb c)
def Tj(a:An):AA An:=A4 (BCc a) big (0,An.mk [])
def Ku:GF:=gZ dK Vd BCE 0xad7023f6eb09f258a4caadae986b2391d747f7e4805d8c21e417692100d98516fccb6344c29f64db5b7bfbcc28d97ed8e41e2ab6cb77a1875d7d999e04f4857259651ed6c449b09039 [] (BL Tj)
def AHz(a:AY):AA AY:=bd (Afo a.Row) fun c=>bd (Tj a.Bw) fun e=>some (AY.mk a.AV c e)
def SK:GF:=gZ Aqu dN xi 0xa7e6fde25aab99061079c54f3dd2735164181161942bbbc7538c45f5bcb30dde [ATO,Ku] (BL AHz)
def BAN:Y.YOp []:=.app 19 .i true (.tmp 16) (.tmp 18)
def A8c:Y.YOp []:=.app 15 (.st 2) true (.tmp 12) (.tmp 14)
def A8K:Y.YOp []:=.call 7 SH [] rfl [(.tmp 6)]
def BDW:Y.B2 []:=(.op 21 none [] (.st 15 (.tmp 3) (.tmp 24)) (.dr [5,6,7,8,9,10,11,12,13,14,15,16,17,18,19,20,21,22,23,24] .nil))
def BGZ:=fun a=>((.op 20 none [5,8,10,13,17,21] (.alloc 3 EW) (.nl [(.cell 3 0,.i),(.cell 3 11,(.st 2)),(.cell 3 12,(.st 7)),(.cell 3 13,.i),(.cell 3 14,.i)] a)):Y.B2 [])
def BF8:Y.B2 []:=BGZ BDW
def BGa:=fun a=>((.op 19 none [] (.build 24 EW [(0,9,(.tmp 7)),(9,1,(.tmp 9)),(10,1,(.tmp 11)),(11,1,(.tmp 15)),(13,1,(.tmp 19)),(14,1,(.tmp 23))]) (.nl [(.tmp 24 12,(.st 7))] a)):Y.B2 [])
def BF9:Y.B2 []:=BGa BF8
def BGA:Y.B2 []:=(.op 18 none [8,10] (.app 23 .i true (.tmp 20) (.tmp 22)) BF9)
def BGB:Y.B2 []:=BGa BDW
def BCF:Y.B2 []:=(.op 18 none [8,10] (.app 23 .i true (.tmp 20) (.tmp 22)) BGB)
def BGC:Y.B2 []:=BGZ BCF
def BGc:=fun a b=>((.both 1 a b):Y.B2 [])
def BDX:Y.B2 []:=BGc BGA BGC
def BGd:=fun a b c=>((.op a none [5,8,10,13,17,21] (.B7 b 0 .i []) c):Y.B2 [])
def BGD:Y.B2 []:=BGd 15 20 BDX
def BDY:Y.B2 []:=BGd 15 20 BCF
def BE2:Y.B2 []:=BGZ BDY
def BE3:Y.B2 []:=BGc BGD BE2
def BGe:=fun a=>((.op 14 none [8,10,21] BAN a):Y.B2 [])
def BE4:Y.B2 []:=BGe BE3
def BE5:Y.B2 []:=BGe BDX
def A9n:Y.B2 []:=BGe BCF
def BE6:Y.B2 []:=BGZ A9n
def BBF:Y.B2 []:=BGc BE5 BE6
def BE7:Y.B2 []:=BGd 15 20 BBF
def BE8:Y.B2 []:=BGe BDY
def BE9:Y.B2 []:=BGd 15 20 A9n
def BBG:Y.B2 []:=BGc BE8 BE9
def BFA:Y.B2 []:=BGZ BBG
def BFB:Y.B2 []:=BGc BE7 BFA
def BC0:Y.B2 []:=BGc BE4 BFB
def BFC:Y.B2 []:=BGd 11 16 BC0
def BFD:Y.B2 []:=BGd 11 16 BBF
def BBH:Y.B2 []:=BGd 11 16 A9n
def BFE:Y.B2 []:=BGZ BBH
def BC1:Y.B2 []:=BGc BFD BFE
def BFF:Y.B2 []:=BGd 15 20 BC1
def BFG:Y.B2 []:=BGd 11 16 BBG
def BFH:Y.B2 []:=BGd 15 20 BBH
def BC2:Y.B2 []:=BGc BFG BFH
def BFI:Y.B2 []:=BGZ BC2
def BFJ:Y.B2 []:=BGc BFF BFI
def BFK:Y.B2 []:=BGc BFC BFJ
def BGf:=fun a=>((.op 10 none [8,10,17,21] A8c a):Y.B2 [])
def BFL:Y.B2 []:=BGf BFK
def BFM:Y.B2 []:=BGf BC0
def BFN:Y.B2 []:=BGf BBF
def A88:Y.B2 []:=BGf A9n
def BFO:Y.B2 []:=BGZ A88
def A9o:Y.B2 []:=BGc BFN BFO
def BFP:Y.B2 []:=BGd 15 20 A9o
def BFQ:Y.B2 []:=BGf BBG
def BFR:Y.B2 []:=BGd 15 20 A88
def A9p:Y.B2 []:=BGc BFQ BFR
def BFS:Y.B2 []:=BGZ A9p
def BFT:Y.B2 []:=BGc BFP BFS
def BBI:Y.B2 []:=BGc BFM BFT
def BFU:Y.B2 []:=BGd 11 16 BBI
def BFV:Y.B2 []:=BGf BC1
def BFW:Y.B2 []:=BGd 11 16 A9o
def BFX:Y.B2 []:=BGf BBH
def BFY:Y.B2 []:=BGd 11 16 A88
def A9q:Y.B2 []:=BGc BFX BFY
def BFZ:Y.B2 []:=BGZ A9q
def BFa:Y.B2 []:=BGc BFW BFZ
def BBJ:Y.B2 []:=BGc BFV BFa
def BFb:Y.B2 []:=BGd 15 20 BBJ
def BFc:Y.B2 []:=BGf BC2
def BFd:Y.B2 []:=BGd 11 16 A9p
def BFe:Y.B2 []:=BGd 15 20 A9q
def BFf:Y.B2 []:=BGc BFd BFe
def BBK:Y.B2 []:=BGc BFc BFf
def BFg:Y.B2 []:=BGZ BBK
def BFh:Y.B2 []:=BGc BFb BFg
def BFi:Y.B2 []:=BGc BFU BFh
def BC3:Y.B2 []:=BGc BFL BFi
def BGg:=fun a=>((.op 7 none [5,8,10,13,17,21] (.B7 12 0 (.st 2) []) a):Y.B2 [])
def BFj:Y.B2 []:=BGg BC3
def BFk:Y.B2 []:=BGg BBI
def BFl:Y.B2 []:=BGg A9o
def A9r:Y.B2 []:=BGg A88
def BFm:Y.B2 []:=BGZ A9r
def BBL:Y.B2 []:=BGc BFl BFm
def BFn:Y.B2 []:=BGd 15 20 BBL
def BFo:Y.B2 []:=BGg A9p
def BFp:Y.B2 []:=BGd 15 20 A9r
def BBM:Y.B2 []:=BGc BFo BFp
def BFq:Y.B2 []:=BGZ BBM
def BFr:Y.B2 []:=BGc BFn BFq
def BC4:Y.B2 []:=BGc BFk BFr
def BFs:Y.B2 []:=BGd 11 16 BC4
def BFt:Y.B2 []:=BGg BBJ
def BFu:Y.B2 []:=BGd 11 16 BBL
def BFv:Y.B2 []:=BGg A9q
def BFw:Y.B2 []:=BGd 11 16 A9r
def BBN:Y.B2 []:=BGc BFv BFw
def BFx:Y.B2 []:=BGZ BBN
def BFy:Y.B2 []:=BGc BFu BFx
def BC5:Y.B2 []:=BGc BFt BFy
def BFz:Y.B2 []:=BGd 15 20 BC5
def BF0:Y.B2 []:=BGg BBK
def BF1:Y.B2 []:=BGd 11 16 BBM
def BF2:Y.B2 []:=BGd 15 20 BBN
def BF3:Y.B2 []:=BGc BF1 BF2
def BC6:Y.B2 []:=BGc BF0 BF3
def BF4:Y.B2 []:=BGZ BC6
def BF5:Y.B2 []:=BGc BFz BF4
def BF6:Y.B2 []:=BGc BFs BF5
def BF7:Y.B2 []:=BGc BFj BF6
def BGh:=fun a=>((.op 2 none [8,10,13,17,21] A8K a):Y.B2 [])
def BDb:Y.B2 []:=BGh BF7
def BDc:Y.B2 []:=BGh BC3
def BDd:Y.B2 []:=BGh BBI
def BDe:Y.B2 []:=BGh A9o
def A9F:Y.B2 []:=BGh A88
def BDf:Y.B2 []:=BGZ A9F
def BAA:Y.B2 []:=BGc BDe BDf
def BDg:Y.B2 []:=BGd 15 20 BAA
def BDh:Y.B2 []:=BGh A9p
def BDi:Y.B2 []:=BGd 15 20 A9F
def BAB:Y.B2 []:=BGc BDh BDi
def BDj:Y.B2 []:=BGZ BAB
def BDk:Y.B2 []:=BGc BDg BDj
def BBq:Y.B2 []:=BGc BDd BDk
def BDl:Y.B2 []:=BGd 11 16 BBq
def BDm:Y.B2 []:=BGh BBJ
def BDn:Y.B2 []:=BGd 11 16 BAA
def BDo:Y.B2 []:=BGh A9q
def BDp:Y.B2 []:=BGd 11 16 A9F
def BAC:Y.B2 []:=BGc BDo BDp
def BDq:Y.B2 []:=BGZ BAC
def BDr:Y.B2 []:=BGc BDn BDq
def BBr:Y.B2 []:=BGc BDm BDr
def BDs:Y.B2 []:=BGd 15 20 BBr
def BDt:Y.B2 []:=BGh BBK
def BDu:Y.B2 []:=BGd 11 16 BAB
def BDv:Y.B2 []:=BGd 15 20 BAC
def BDw:Y.B2 []:=BGc BDu BDv
def BBs:Y.B2 []:=BGc BDt BDw
def BDx:Y.B2 []:=BGZ BBs
def BDy:Y.B2 []:=BGc BDs BDx
def BDz:Y.B2 []:=BGc BDl BDy
def BD0:Y.B2 []:=BGc BDc BDz
def BD1:Y.B2 []:=BGg BD0
def BD2:Y.B2 []:=BGh BC4
def BD3:Y.B2 []:=BGg BBq
def BD4:Y.B2 []:=BGh BBL
def BD5:Y.B2 []:=BGg BAA
def BD6:Y.B2 []:=BGh A9r
def BD7:Y.B2 []:=BGg A9F
def BAD:Y.B2 []:=BGc BD6 BD7
def BD8:Y.B2 []:=BGZ BAD
def BD9:Y.B2 []:=BGc BD5 BD8
def BBt:Y.B2 []:=BGc BD4 BD9
def BEA:Y.B2 []:=BGd 15 20 BBt
def BEB:Y.B2 []:=BGh BBM
def BEC:Y.B2 []:=BGg BAB
def BED:Y.B2 []:=BGd 15 20 BAD
def BEE:Y.B2 []:=BGc BEC BED
def BBu:Y.B2 []:=BGc BEB BEE
def BEF:Y.B2 []:=BGZ BBu
def BEG:Y.B2 []:=BGc BEA BEF
def BEH:Y.B2 []:=BGc BD3 BEG
def BEI:Y.B2 []:=BGc BD2 BEH
def BEJ:Y.B2 []:=BGd 11 16 BEI
def BEK:Y.B2 []:=BGh BC5
def BEL:Y.B2 []:=BGg BBr
def BEM:Y.B2 []:=BGd 11 16 BBt
def BEN:Y.B2 []:=BGh BBN
def BEO:Y.B2 []:=BGg BAC
def BEP:Y.B2 []:=BGd 11 16 BAD
def BEQ:Y.B2 []:=BGc BEO BEP
def BBv:Y.B2 []:=BGc BEN BEQ
def BER:Y.B2 []:=BGZ BBv
def BES:Y.B2 []:=BGc BEM BER
def BET:Y.B2 []:=BGc BEL BES
def BEU:Y.B2 []:=BGc BEK BET
def BEV:Y.B2 []:=BGd 15 20 BEU
def BEW:Y.B2 []:=BGh BC6
def BEX:Y.B2 []:=BGg BBs
def BEY:Y.B2 []:=BGd 11 16 BBu
def BEZ:Y.B2 []:=BGd 15 20 BBv
def BEa:Y.B2 []:=BGc BEY BEZ
def BEb:Y.B2 []:=BGc BEX BEa
def BEc:Y.B2 []:=BGc BEW BEb
def BEd:Y.B2 []:=BGZ BEc
def BEe:Y.B2 []:=BGc BEV BEd
def BEf:Y.B2 []:=BGc BEJ BEe
def BEg:Y.B2 []:=BGc BD1 BEf
def BEh:Y.B2 []:=BGc BDb BEg
def BEi:Y.B2 []:=(.op 17 none [] (.ld 22 none (.tmp 21)) BEh)
def BEj:Y.B2 []:=(.op 16 none [] (.fa 21 14 (.tmp 1)) BEi)
def BEk:Y.B2 []:=(.op 13 none [] (.ld 18 none (.tmp 17)) BEj)
def BEl:Y.B2 []:=(.op 12 none [] (.fa 17 13 (.tmp 1)) BEk)
def BEm:Y.B2 []:=(.op 9 none [] (.ld 14 none (.tmp 13)) BEl)
def BEn:Y.B2 []:=(.op 8 none [] (.fa 13 11 (.tmp 1)) BEm)
def BEo:Y.B2 []:=(.op 6 none [] (.ld 11 none (.tmp 10)) BEn)
def BEp:Y.B2 []:=(.op 5 none [] (.fa 10 10 (.tmp 1)) BEo)
def BEr:Y.B2 []:=(.op 4 none [] (.ld 9 none (.tmp 8)) BEp)
def BEs:Y.B2 []:=(.op 3 none [] (.fa 8 9 (.tmp 1)) BEr)
def BEt:Y.B2 []:=(.op 1 none [] (.ld 6 (some 9) (.tmp 5)) BEs)
def BEu:Y.B2 []:=(.op 0 none [] (.fa 5 0 (.tmp 1)) BEt)
def BGT:YF:=⟨[],[.v (.st 8)],[],.ret [(.st 8)],[.cell 2 (some 15)],sq [qu 1 0,.alloc 2 EW,.Zk [(.cell 2 0,.i),(.cell 2 11,(.st 2)),(.cell 2 12,(.st 7)),(.cell 2 13,.i),(.cell 2 14,.i)]] [1,2] (.seq (.RD BEu [1,2,3]) (.join [cx 3 (.st 8)] (sq [qK 4 0] (Kp 30) (bl 0 [cv 4 .i,cx 3 (.st 8)] (.seq (sw 25 [wm 4,wo 12 1,wL,wZ,wB .lss 25] (Kp 536870942) (ce 29 (Kp 30) [2,3] 0)) (.seq (.block 1 (.RD (qd 0 [wn 32 [wo 12 3,wL,wo 12 1,wL,wm 4,wE (.st 7) 35,wK 7]] (.op 7 none [32] (.call 39 SK [] rfl [(.tmp 38)]) (.op 8 none [32] (.B7 40 1 (.st 7) [(0,(.tmp 39))]) (qd 9 [wn 41 [wh (.app · (.st 7) false (.tmp 33) (.tmp 40)),wo 12 3],qn [qw 1 42 41]] .nil)))) [1,2,3,4])) (qr [wn 30 [wm 4,wI .add 1],qn [qa 4 31]] (Kp 30)))))) (sq [qL 43 15 3,qw 15 2 43] [2] .ret)))⟩
def A8G(a:AD)(c:AZ)(X2:AA AD):AA AD:=gd (0+a.A8.length<=lim) (Ci c c (ev6 a.Now a.Ap ([]++a.AG) ([]:List AY) ([]++a.BC) ([]++a.A8) (X2)))
def l7(a:AD)(c:AZ)(X4:AA AD):AA AD:=gd (0+a.BC.length<=lim) (gd (0+a.A8.length<=lim) (Ci c c (ev6 a.Now a.Ap ([]++a.AG) ([]:List AY) ([]++a.BC) ([]++a.A8) (X4))))
def BCd(a:AD)(c:AZ)(X5:AA AD):AA AD:=gd (0+a.BC.length<=lim) (gd (0+a.A8.length<=lim) (alt (l7 a c) (Ci c c (ev6 a.Now a.Ap ([]++a.AG) ([]:List AY) ([]++a.BC) ([]++a.A8) (X5)))))
def A8S(a:AD)(c:AZ)(X3:AA AD):AA AD:=gd (0+a.BC.length<=lim) (gd (0+a.A8.length<=lim) (alt (A8G a c) (alt (l7 a c) (alt (BCd a c) (Ci c c (ev6 a.Now a.Ap ([]++a.AG) ([]:List AY) ([]++a.BC) ([]++a.A8) (X3)))))))
def BCe(a:AD)(c:AZ)(X7:AA AD):AA AD:=gd (0+a.BC.length<=lim) (gd (0+a.A8.length<=lim) (alt (l7 a c) (alt (l7 a c) (Ci c c (ev6 a.Now a.Ap ([]++a.AG) ([]:List AY) ([]++a.BC) ([]++a.A8) (X7))))))
def BAu(a:AD)(c:AZ)(X6:AA AD):AA AD:=gd (0+a.BC.length<=lim) (gd (0+a.A8.length<=lim) (alt (A8G a c) (alt (l7 a c) (alt (l7 a c) (alt (BCe a c) (Ci c c (ev6 a.Now a.Ap ([]++a.AG) ([]:List AY) ([]++a.BC) ([]++a.A8) (X6))))))))
def mh(a:AD)(c:AZ)(X10:AA AD):AA AD:=gd (0+a.AG.length<=lim) (gd (0+a.BC.length<=lim) (gd (0+a.A8.length<=lim) (Ci c c (ev6 a.Now a.Ap ([]++a.AG) ([]:List AY) ([]++a.BC) ([]++a.A8) (X10)))))
def BBR(a:AD)(c:AZ)(X11:AA AD):AA AD:=gd (0+a.AG.length<=lim) (gd (0+a.BC.length<=lim) (gd (0+a.A8.length<=lim) (alt (l7 a c) (alt (mh a c) (Ci c c (ev6 a.Now a.Ap ([]++a.AG) ([]:List AY) ([]++a.BC) ([]++a.A8) (X11)))))))
def A8k(a:AD)(c:AZ)(X9:AA AD):AA AD:=gd (0+a.AG.length<=lim) (gd (0+a.BC.length<=lim) (gd (0+a.A8.length<=lim) (alt (A8G a c) (alt (l7 a c) (alt (mh a c) (alt (BBR a c) (Ci c c (ev6 a.Now a.Ap ([]++a.AG) ([]:List AY) ([]++a.BC) ([]++a.A8) (X9)))))))))
def A9v(a:AD)(c:AZ)(X14:AA AD):AA AD:=gd (0+a.AG.length<=lim) (gd (0+a.BC.length<=lim) (gd (0+a.A8.length<=lim) (alt (mh a c) (Ci c c (ev6 a.Now a.Ap ([]++a.AG) ([]:List AY) ([]++a.BC) ([]++a.A8) (X14))))))
def A8U(a:AD)(c:AZ)(X13:AA AD):AA AD:=gd (0+a.AG.length<=lim) (gd (0+a.BC.length<=lim) (gd (0+a.A8.length<=lim) (alt (A8G a c) (alt (l7 a c) (alt (mh a c) (alt (A9v a c) (Ci c c (ev6 a.Now a.Ap ([]++a.AG) ([]:List AY) ([]++a.BC) ([]++a.A8) (X13)))))))))
def A8V(a:AD)(c:AZ)(X16:AA AD):AA AD:=gd (0+a.AG.length<=lim) (gd (0+a.BC.length<=lim) (gd (0+a.A8.length<=lim) (alt (l7 a c) (alt (mh a c) (alt (A9v a c) (Ci c c (ev6 a.Now a.Ap ([]++a.AG) ([]:List AY) ([]++a.BC) ([]++a.A8) (X16))))))))
def BBT(a:AD)(c:AZ)(X15:AA AD):AA AD:=gd (0+a.AG.length<=lim) (gd (0+a.BC.length<=lim) (gd (0+a.A8.length<=lim) (alt (l7 a c) (alt (l7 a c) (alt (A8V a c) (Ci c c (ev6 a.Now a.Ap ([]++a.AG) ([]:List AY) ([]++a.BC) ([]++a.A8) (X15))))))))
def BBS(a:AD)(c:AZ)(X12:AA AD):AA AD:=gd (0+a.AG.length<=lim) (gd (0+a.BC.length<=lim) (gd (0+a.A8.length<=lim) (alt (A8G a c) (alt (l7 a c) (alt (l7 a c) (alt (A8U a c) (alt (BBT a c) (Ci c c (ev6 a.Now a.Ap ([]++a.AG) ([]:List AY) ([]++a.BC) ([]++a.A8) (X12))))))))))
def BAv(a:AD)(c:AZ)(X8:AA AD):AA AD:=gd (0+a.AG.length<=lim) (gd (0+a.BC.length<=lim) (gd (0+a.A8.length<=lim) (alt (A8G a c) (alt (A8G a c) (alt (A8S a c) (alt (A8k a c) (alt (BBS a c) (Ci c c (ev6 a.Now a.Ap ([]++a.AG) ([]:List AY) ([]++a.BC) ([]++a.A8) (X8))))))))))
def BBV(a:AD)(c:AZ)(X19:AA AD):AA AD:=gd (0+a.AG.length<=lim) (gd (0+a.BC.length<=lim) (gd (0+a.A8.length<=lim) (alt (l7 a c) (alt (mh a c) (alt (mh a c) (Ci c c (ev6 a.Now a.Ap ([]++a.AG) ([]:List AY) ([]++a.BC) ([]++a.A8) (X19))))))))
def A9w(a:AD)(c:AZ)(X18:AA AD):AA AD:=gd (0+a.AG.length<=lim) (gd (0+a.BC.length<=lim) (gd (0+a.A8.length<=lim) (alt (A8G a c) (alt (l7 a c) (alt (mh a c) (alt (mh a c) (alt (BBV a c) (Ci c c (ev6 a.Now a.Ap ([]++a.AG) ([]:List AY) ([]++a.BC) ([]++a.A8) (X18))))))))))
def A9y(a:AD)(c:AZ)(X22:AA AD):AA AD:=gd (0+a.AG.length<=lim) (gd (0+a.BC.length<=lim) (gd (0+a.A8.length<=lim) (alt (mh a c) (alt (mh a c) (Ci c c (ev6 a.Now a.Ap ([]++a.AG) ([]:List AY) ([]++a.BC) ([]++a.A8) (X22)))))))
def A9x(a:AD)(c:AZ)(X21:AA AD):AA AD:=gd (0+a.AG.length<=lim) (gd (0+a.BC.length<=lim) (gd (0+a.A8.length<=lim) (alt (A8G a c) (alt (l7 a c) (alt (mh a c) (alt (mh a c) (alt (A9y a c) (Ci c c (ev6 a.Now a.Ap ([]++a.AG) ([]:List AY) ([]++a.BC) ([]++a.A8) (X21))))))))))
def A9z(a:AD)(c:AZ)(X24:AA AD):AA AD:=gd (0+a.AG.length<=lim) (gd (0+a.BC.length<=lim) (gd (0+a.A8.length<=lim) (alt (l7 a c) (alt (mh a c) (alt (mh a c) (alt (A9y a c) (Ci c c (ev6 a.Now a.Ap ([]++a.AG) ([]:List AY) ([]++a.BC) ([]++a.A8) (X24)))))))))
def BBX(a:AD)(c:AZ)(X23:AA AD):AA AD:=gd (0+a.AG.length<=lim) (gd (0+a.BC.length<=lim) (gd (0+a.A8.length<=lim) (alt (l7 a c) (alt (l7 a c) (alt (A8V a c) (alt (A9z a c) (Ci c c (ev6 a.Now a.Ap ([]++a.AG) ([]:List AY) ([]++a.BC) ([]++a.A8) (X23)))))))))
def BBW(a:AD)(c:AZ)(X20:AA AD):AA AD:=gd (0+a.AG.length<=lim) (gd (0+a.BC.length<=lim) (gd (0+a.A8.length<=lim) (alt (A8G a c) (alt (l7 a c) (alt (l7 a c) (alt (A8U a c) (alt (A9x a c) (alt (BBX a c) (Ci c c (ev6 a.Now a.Ap ([]++a.AG) ([]:List AY) ([]++a.BC) ([]++a.A8) (X20)))))))))))
def BBU(a:AD)(c:AZ)(X17:AA AD):AA AD:=gd (0+a.AG.length<=lim) (gd (0+a.BC.length<=lim) (gd (0+a.A8.length<=lim) (alt (A8G a c) (alt (A8G a c) (alt (A8S a c) (alt (A8k a c) (alt (A9w a c) (alt (BBW a c) (Ci c c (ev6 a.Now a.Ap ([]++a.AG) ([]:List AY) ([]++a.BC) ([]++a.A8) (X17)))))))))))
def A8L(a:AD)(c:AZ)(X31:AA AD):AA AD:=bd (AA0 a.AO) fun e=>gd (0+a.AG.length<=lim) (gd (0+a.BC.length<=lim) (gd (0+a.A8.length<=lim) (Ci c e (ev6 a.Now a.Ap ([]++a.AG) ([]:List AY) ([]++a.BC) ([]++a.A8) (X31)))))
def BBa(a:AD)(e:AZ)(X33:AA AD):AA AD:=bd (AA0 a.AO) fun c=>gd (0+a.AG.length<=lim) (gd (0+a.BC.length<=lim) (gd (0+a.A8.length<=lim) (alt (l7 a c) (alt (mh a c) (alt (A8L a c) (Ci e c (ev6 a.Now a.Ap ([]++a.AG) ([]:List AY) ([]++a.BC) ([]++a.A8) (X33))))))))
def A90(a:AD)(e:AZ)(X29:AA AD):AA AD:=bd (AA0 a.AO) fun c=>gd (0+a.AG.length<=lim) (gd (0+a.BC.length<=lim) (gd (0+a.A8.length<=lim) (alt (A8G a c) (alt (l7 a c) (alt (mh a c) (alt (A8L a c) (alt (BBa a c) (Ci e c (ev6 a.Now a.Ap ([]++a.AG) ([]:List AY) ([]++a.BC) ([]++a.A8) (X29))))))))))
def A92(a:AD)(e:AZ)(X39:AA AD):AA AD:=bd (AA0 a.AO) fun c=>gd (0+a.AG.length<=lim) (gd (0+a.BC.length<=lim) (gd (0+a.A8.length<=lim) (alt (mh a c) (alt (A8L a c) (Ci e c (ev6 a.Now a.Ap ([]++a.AG) ([]:List AY) ([]++a.BC) ([]++a.A8) (X39)))))))
def A91(a:AD)(e:AZ)(X37:AA AD):AA AD:=bd (AA0 a.AO) fun c=>gd (0+a.AG.length<=lim) (gd (0+a.BC.length<=lim) (gd (0+a.A8.length<=lim) (alt (A8G a c) (alt (l7 a c) (alt (mh a c) (alt (A8L a c) (alt (A92 a c) (Ci e c (ev6 a.Now a.Ap ([]++a.AG) ([]:List AY) ([]++a.BC) ([]++a.A8) (X37))))))))))
def A93(a:AD)(e:AZ)(X43:AA AD):AA AD:=bd (AA0 a.AO) fun c=>gd (0+a.AG.length<=lim) (gd (0+a.BC.length<=lim) (gd (0+a.A8.length<=lim) (alt (l7 a c) (alt (mh a c) (alt (A8L a c) (alt (A92 a c) (Ci e c (ev6 a.Now a.Ap ([]++a.AG) ([]:List AY) ([]++a.BC) ([]++a.A8) (X43)))))))))
def BBc(a:AD)(e:AZ)(X41:AA AD):AA AD:=bd (AA0 a.AO) fun c=>gd (0+a.AG.length<=lim) (gd (0+a.BC.length<=lim) (gd (0+a.A8.length<=lim) (alt (l7 a c) (alt (l7 a c) (alt (A8V a c) (alt (A93 a c) (Ci e c (ev6 a.Now a.Ap ([]++a.AG) ([]:List AY) ([]++a.BC) ([]++a.A8) (X41)))))))))
def BBb(a:AD)(e:AZ)(X35:AA AD):AA AD:=bd (AA0 a.AO) fun c=>gd (0+a.AG.length<=lim) (gd (0+a.BC.length<=lim) (gd (0+a.A8.length<=lim) (alt (A8G a c) (alt (l7 a c) (alt (l7 a c) (alt (A8U a c) (alt (A91 a c) (alt (BBc a c) (Ci e c (ev6 a.Now a.Ap ([]++a.AG) ([]:List AY) ([]++a.BC) ([]++a.A8) (X35)))))))))))
def BBZ(a:AD)(e:AZ)(X27:AA AD):AA AD:=bd (AA0 a.AO) fun c=>gd (0+a.AG.length<=lim) (gd (0+a.BC.length<=lim) (gd (0+a.A8.length<=lim) (alt (A8G a c) (alt (A8G a c) (alt (A8S a c) (alt (A8k a c) (alt (A90 a c) (alt (BBb a c) (Ci e c (ev6 a.Now a.Ap ([]++a.AG) ([]:List AY) ([]++a.BC) ([]++a.A8) (X27)))))))))))
def A9E(a:AD)(e:AZ)(X53:AA AD):AA AD:=bd (AA0 a.AO) fun c=>gd (0+a.AG.length<=lim) (gd (0+a.BC.length<=lim) (gd (0+a.A8.length<=lim) (alt (A8L a c) (Ci e c (ev6 a.Now a.Ap ([]++a.AG) ([]:List AY) ([]++a.BC) ([]++a.A8) (X53))))))
def A94(a:AD)(e:AZ)(X51:AA AD):AA AD:=bd (AA0 a.AO) fun c=>gd (0+a.AG.length<=lim) (gd (0+a.BC.length<=lim) (gd (0+a.A8.length<=lim) (alt (A8G a c) (alt (l7 a c) (alt (mh a c) (alt (A8L a c) (alt (A9E a c) (Ci e c (ev6 a.Now a.Ap ([]++a.AG) ([]:List AY) ([]++a.BC) ([]++a.A8) (X51))))))))))
def A95(a:AD)(e:AZ)(X57:AA AD):AA AD:=bd (AA0 a.AO) fun c=>gd (0+a.AG.length<=lim) (gd (0+a.BC.length<=lim) (gd (0+a.A8.length<=lim) (alt (l7 a c) (alt (mh a c) (alt (A8L a c) (alt (A9E a c) (Ci e c (ev6 a.Now a.Ap ([]++a.AG) ([]:List AY) ([]++a.BC) ([]++a.A8) (X57)))))))))
def BBg(a:AD)(e:AZ)(X55:AA AD):AA AD:=bd (AA0 a.AO) fun c=>gd (0+a.AG.length<=lim) (gd (0+a.BC.length<=lim) (gd (0+a.A8.length<=lim) (alt (l7 a c) (alt (mh a c) (alt (mh a c) (alt (A95 a c) (Ci e c (ev6 a.Now a.Ap ([]++a.AG) ([]:List AY) ([]++a.BC) ([]++a.A8) (X55)))))))))
def BBf(a:AD)(e:AZ)(X49:AA AD):AA AD:=bd (AA0 a.AO) fun c=>gd (0+a.AG.length<=lim) (gd (0+a.BC.length<=lim) (gd (0+a.A8.length<=lim) (alt (A8G a c) (alt (l7 a c) (alt (mh a c) (alt (mh a c) (alt (A94 a c) (alt (BBg a c) (Ci e c (ev6 a.Now a.Ap ([]++a.AG) ([]:List AY) ([]++a.BC) ([]++a.A8) (X49)))))))))))
def BBe(a:AD)(e:AZ)(X47:AA AD):AA AD:=bd (AA0 a.AO) fun c=>gd (0+a.AG.length<=lim) (gd (0+a.BC.length<=lim) (gd (0+a.A8.length<=lim) (alt (A8G a c) (alt (A8G a c) (alt (A8S a c) (alt (A8k a c) (alt (A90 a c) (alt (BBf a c) (Ci e c (ev6 a.Now a.Ap ([]++a.AG) ([]:List AY) ([]++a.BC) ([]++a.A8) (X47)))))))))))
def BBk(a:AD)(e:AZ)(X67:AA AD):AA AD:=bd (AA0 a.AO) fun c=>gd (0+a.AG.length<=lim) (gd (0+a.BC.length<=lim) (gd (0+a.A8.length<=lim) (alt (mh a c) (alt (A8L a c) (alt (A9E a c) (Ci e c (ev6 a.Now a.Ap ([]++a.AG) ([]:List AY) ([]++a.BC) ([]++a.A8) (X67))))))))
def A96(a:AD)(e:AZ)(X65:AA AD):AA AD:=bd (AA0 a.AO) fun c=>gd (0+a.AG.length<=lim) (gd (0+a.BC.length<=lim) (gd (0+a.A8.length<=lim) (alt (mh a c) (alt (mh a c) (alt (BBk a c) (Ci e c (ev6 a.Now a.Ap ([]++a.AG) ([]:List AY) ([]++a.BC) ([]++a.A8) (X65))))))))
def BBj(a:AD)(e:AZ)(X63:AA AD):AA AD:=bd (AA0 a.AO) fun c=>gd (0+a.AG.length<=lim) (gd (0+a.BC.length<=lim) (gd (0+a.A8.length<=lim) (alt (A8G a c) (alt (l7 a c) (alt (mh a c) (alt (mh a c) (alt (A94 a c) (alt (A96 a c) (Ci e c (ev6 a.Now a.Ap ([]++a.AG) ([]:List AY) ([]++a.BC) ([]++a.A8) (X63)))))))))))
def BBi(a:AD)(e:AZ)(X61:AA AD):AA AD:=bd (AA0 a.AO) fun c=>gd (0+a.AG.length<=lim) (gd (0+a.BC.length<=lim) (gd (0+a.A8.length<=lim) (alt (A8G a c) (alt (l7 a c) (alt (l7 a c) (alt (A8U a c) (alt (A91 a c) (alt (BBj a c) (Ci e c (ev6 a.Now a.Ap ([]++a.AG) ([]:List AY) ([]++a.BC) ([]++a.A8) (X61)))))))))))
def BBn(a:AD)(e:AZ)(X73:AA AD):AA AD:=bd (AA0 a.AO) fun c=>gd (0+a.AG.length<=lim) (gd (0+a.BC.length<=lim) (gd (0+a.A8.length<=lim) (alt (l7 a c) (alt (mh a c) (alt (mh a c) (alt (A95 a c) (alt (A96 a c) (Ci e c (ev6 a.Now a.Ap ([]++a.AG) ([]:List AY) ([]++a.BC) ([]++a.A8) (X73))))))))))
def BBm(a:AD)(e:AZ)(X71:AA AD):AA AD:=bd (AA0 a.AO) fun c=>gd (0+a.AG.length<=lim) (gd (0+a.BC.length<=lim) (gd (0+a.A8.length<=lim) (alt (l7 a c) (alt (l7 a c) (alt (A8V a c) (alt (A93 a c) (alt (BBn a c) (Ci e c (ev6 a.Now a.Ap ([]++a.AG) ([]:List AY) ([]++a.BC) ([]++a.A8) (X71))))))))))
def BBl(a:AD)(e:AZ)(X69:AA AD):AA AD:=bd (AA0 a.AO) fun c=>gd (0+a.AG.length<=lim) (gd (0+a.BC.length<=lim) (gd (0+a.A8.length<=lim) (alt (l7 a c) (alt (l7 a c) (alt (A8V a c) (alt (A9z a c) (alt (BBm a c) (Ci e c (ev6 a.Now a.Ap ([]++a.AG) ([]:List AY) ([]++a.BC) ([]++a.A8) (X69))))))))))
def BBh(c:AD)(e:AZ)(X59:AA AD):AA AD:=bd (AA0 c.AO) fun a=>gd (0+c.AG.length<=lim) (gd (0+c.BC.length<=lim) (gd (0+c.A8.length<=lim) (alt (A8G c a) (alt (l7 c a) (alt (l7 c a) (alt (A8U c a) (alt (A9x c a) (alt (BBi c a) (alt (BBl c a) (Ci e a (ev6 c.Now c.Ap ([]++c.AG) ([]:List AY) ([]++c.BC) ([]++c.A8) (X59))))))))))))
def BBd(c:AD)(e:AZ)(X45:AA AD):AA AD:=bd (AA0 c.AO) fun a=>gd (0+c.AG.length<=lim) (gd (0+c.BC.length<=lim) (gd (0+c.A8.length<=lim) (alt (A8G c a) (alt (A8G c a) (alt (A8S c a) (alt (A8k c a) (alt (A9w c a) (alt (BBe c a) (alt (BBh c a) (Ci e a (ev6 c.Now c.Ap ([]++c.AG) ([]:List AY) ([]++c.BC) ([]++c.A8) (X45))))))))))))
def BBY(c:AD)(e:AZ)(X25:AA AD):AA AD:=bd (AA0 c.AO) fun a=>gd (0+c.AG.length<=lim) (gd (0+c.BC.length<=lim) (gd (0+c.A8.length<=lim) (alt (A8G c a) (alt (A8G c a) (alt (A8S c a) (alt (BAu c a) (alt (BAv c a) (alt (BBZ c a) (alt (BBd c a) (Ci e a (ev6 c.Now c.Ap ([]++c.AG) ([]:List AY) ([]++c.BC) ([]++c.A8) (X25))))))))))))
def BBo(a:AD):AA AD:=some a
def A97(j:AD)(g:(Int×AD)->AA AD)(q:(Int×AD)):AA AD:=match q with |(c,a)=>br (decide (c<(↑j.AI.length:Int))) (bd (at? j.AI c) fun h=>bd (AHz h) fun e=>gd (a.AI.length+[e].length<=lim) (g ((w64 (c+1),AD.mk a.AO a.Now a.Ap a.AG (a.AI++[e]) a.BC a.A8)))) (jn BBo a)
def WY(a:AD):AA AD:=bd (AA0 a.AO) fun c=>gd (0+a.AG.length<=lim) (gd (0+a.BC.length<=lim) (gd (0+a.A8.length<=lim) (alt (A8G a c) (alt (A8G a c) (alt (A8S a c) (alt (BAu a c) (alt (BAv a c) (alt (BBU a c) (alt (BBY a c) (A4 (A97 a) big ((0,AD.mk c a.Now a.Ap ([]++a.AG) [] ([]++a.BC) ([]++a.A8)))))))))))))
def VC:GF:=BGT.D2 (BL WY)
def fP(a:Ae):AA Ae:=bd (WY a.BD) fun c=>gd (0+a.Laid.length<=lim) (bd (WY a.BD) fun e=>gd (0+a.Laid.length<=lim) (NS c e (AGW a.BO a.BO (ev2 a.Seq ([]++a.Laid) (some (Ae.mk c a.BO a.Seq ([]++a.Laid)))))))
def OT:GF:=gZ A9G AsG AvV 0x53f0f009bb66c877a45f97c1c8c5dcb62132eace61bf536ccc94285505dd8fac809e59c072affc0400dfd073faeb99cedd502a87211dbb95d33d9eba966e1aa25acc12e69b486204499a69e316528d0035ea64dee4e11c455 [VC] (BL fP)
def fQ(a:BX):AA (List UInt8):=bd (z8 a) fun c=>br (!c) (some []) (br (a.Kind==1) (bd (AQc ([a.Kind,a.Id,a.Aa,w64 (a.Bl+1),a.A2,a.Cj])) fun e=>some e) (br (a.Kind==3) (bd (AQc ([a.Kind,a.Aa,a.A2])) fun g=>some g) (br (a.Kind==6) (bd (AQc [a.Kind]) fun h=>some h) (bd (AQc ([a.Kind,a.Id])) fun j=>some j))))
def SL:GF:=gZ [.v (.st 0)] xc A8H 0x1a22ed612fba708940f6df6a83b667276b287c5f089d1809d74ae902f588e4ef4690db12c7e0adfb0ae674df3a0d4fa3cb25c85560844dfe3f47cdbee3a1dd6bc5aa6b31065d2ba2bb37e61424c308307aaba408aed1d585b35330f981098b90c4e364 [O1,SF] (BL fQ)
def BAw(h:Int)(a:List UInt8)(j:Bool):AA (List UInt8):=br j (some []) (bd (AYE h) fun c=>gd (List.length c+a.length<=On) (bd (AAw (c++a)) fun q=>bd (nC q) fun e=>gd (List.length e+(c++a).length<=On) (bd (AYE ((↑(e++(c++a)).length:Int))) fun g=>gd (List.length g+(e++(c++a)).length<=On) (some (g++(e++(c++a)))))))
def nE(a:Int)(c:List UInt8):AA (List UInt8):=bd (AUr a 1 1000000) fun e=>br (!e) (jn (BAw a c) true) (bd (AUr (↑c.length:Int) 1 60) fun g=>jn (BAw a c) (!g))
def VD:GF:=gZ [.v .i,.v .s] xc A8I 0xc49a633e4554b1fe92af4dbb9e61ec0fe537bcc3d57f2b8bd65907fd187720fafb83a28bce2cb81f1addfed74b6f4fe419893bbeecea [ACO,IC,SG,OR] (Ah nE) [.OB 22 (.tmp 21)]
def AQj(c:Int)(e:BX):AA (List UInt8):=bd (fQ e) fun a=>br (a==[]) (some []) (bd (nE c a) fun g=>some g)
def ky:GF:=gZ [.v .i,.v (.st 0)] xc A8I 0x5c028fcaa0b2fb975c4dabf812504e66feeba27b08c6c64d79b6 [SL,VD] (Ah AQj)
def BAx(a:Bu)(c:List UInt8)(e:Bool):AA (Bu×Bool):=br e (some (a,false)) (gd (a.Data.length+c.length<=On) (some ((Bu.mk (a.Data++c) a.Safe,true))))
def AQk(a:Bu)(c:List UInt8):AA (Bu×Bool):=bd (AX7 a) fun e=>br (!e) (jn (BAx a c) true) (jn (BAx a c) (decide ((↑c.length:Int)>w64 (20000-(↑a.Data.length:Int)))))
def kz:GF:=gZ [.v (.st 9),.v .s] AOR BDA 0x590c8fa2d05fff3c306854713804f64921b5a09ad01453ae14b57961abecddb74b7eadb1f4c749b3b24cf6b9e9d67488760f58 [ALY] (Ah AQk)
def BAy(e:Ae)(c:BX)(a:Ae)(h:(Bu×Bool))(g:Bool):AA (Ae×Int):=br g (some (a,24)) (gd (a.Laid.length+[c].length<=lim) (some ((Ae.mk a.BD (Bb.mk h.fst a.BO.Dl a.BO.Odd) (w64 (e.Seq+1)) (a.Laid++[c]),0))))
def AQl(a:Ae)(e:BX):AA (Ae×Int):=bd (fP a) fun g=>bd (ANV a) fun y=>br (!y) (some (g,21)) (bd (z8 e) fun B=>br (!B) (some (g,22)) (br (a.Seq==1000000) (some (g,23)) (bd (AQj (w64 (a.Seq+1)) e) fun h=>bd (AQk a.BO.Log h) fun c=>bd (AQk a.BO.Log h) fun j=>eqv c.snd j.snd (TN c.fst j.fst (bd (AQj (w64 (a.Seq+1)) e) fun E=>bd (AQk a.BO.Log E) fun q=>eqv c.snd q.snd (TN c.fst q.fst (br ((↑a.Laid.length:Int)==8) (jn (BAy a e g c) true) (jn (BAy a e g c) (!c.snd)))))))))
def lA:GF:=gZ Amz (.ret [(.st 11),.i]) xj 0x6d2ae9534103a0d7aaecb71705dbc7ea68d3595bae0096e3dbfcca3208b57ec7437f3b7a0837f589ff0db62675dce19a46423a7546cdcf6a9f673c309d7f72fe440951c3909c1bfd4d14f22894d633ba225e6a1de7e11db84eb4ae179c6097a6e1edc698c5615de82672dfa3fb0c7b5af1f420dd1270a38dd8cfc7c4d98271277bcb99aafead17c846c9c480cc6c13ba32288679fc34791e20837c030786c685093da5ba1802a2a9a93c5a31d609568b2cfc8219e98ca7519830f2d15a6489f2f42fc9a0713f8fa5c363aeff818105017db15f68d8a766a74fa0a2a87104019364290 [OT,T7,O1,ky,kz] (Ah AQl)
def AQm(a:List Ad):AA (List Ad):=gd (0+a.length<=lim) (some a)
def lB:GF:=gZ AEY lS A8H 0xb93b986a5e9f36e99d60 [] (BL AQm)
def Av8(a:An):AA An:=some a
def ArV(g:An)(h:(Int×An)->AA An)(j:(Int×An)):AA An:=match j with |(a,c)=>br (decide (a<(↑g.Ak.length:Int))) (bd (at? g.Ak a) fun e=>gd (0+List.length e<=lim) (gd (c.Ak.length+[e].length<=lim) (h ((w64 (a+1),An.mk (c.Ak++[e])))))) (jn Av8 c)
def AQn(a:An):AA An:=A4 (ArV a) big (0,An.mk [])
def lC:GF:=gZ dK Vd BCE 0xa81d491f6f14c8a7a6b40ca582241fbef4017f9e66d70fe7c835ae73822d9a5e2979d6232cc4a04fecf3e77b6b20e01c203df77c0536be516aa4cd3fc65 [] (BL AQn)
def AQo(a:AY):AA AY:=bd (AQm a.Row) fun c=>bd (AQn a.Bw) fun e=>some (AY.mk a.AV c e)
def lD:GF:=gZ Aqu dN xi 0xa7e6fde25aab99061079c54f3dd2735164181161942bbbc7538c45f5bcb30dde [lB,lC] (BL AQo)
def Av9(a:AD):AA AD:=some a
def ArW(j:AD)(g:(Int×AD)->AA AD)(q:(Int×AD)):AA AD:=match q with |(c,a)=>br (decide (c<(↑j.AI.length:Int))) (bd (at? j.AI c) fun h=>bd (AQo h) fun e=>gd (a.AI.length+[e].length<=lim) (g ((w64 (c+1),AD.mk a.AO a.Now a.Ap a.AG (a.AI++[e]) a.BC a.A8)))) (jn Av9 a)
def AQp(a:AD):AA AD:=bd (AA1 a.AO) fun c=>gd (0+a.AG.length<=lim) (bd (AYF a.BC) fun e=>bd (AYF a.A8) fun g=>bd (AYF a.A8) fun q=>Ci c c (ev5 a.Now a.Ap a.AG ([]:List AY) e (eqv g q (bd (AYF a.BC) fun y=>bd (AYF a.A8) fun B=>Ci c c (ev4 a.Now a.Ap a.AG ([]:List AY) (eqv e y (eqv g B (gd (0+a.AG.length<=lim) (bd (AYF a.BC) fun E=>bd (AYF a.A8) fun G=>Ci c c (ev4 a.Now a.Ap a.AG ([]:List AY) (eqv e E (eqv g G (bd (AA1 a.AO) fun H=>gd (0+a.AG.length<=lim) (bd (AYF a.BC) fun h=>bd (AYF a.A8) fun j=>Ci c H (ev4 a.Now a.Ap a.AG ([]:List AY) (eqv e h (eqv g j (A4 (ArW a) big (0,AD.mk c a.Now a.Ap a.AG [] e g)))))))))))))))))))
def lE:GF:=gZ Ae8 A8p BDB 0x1226148d0d9f4c07d668c4c1c230bb47076acb4c555ca9e52d150e97087b2758c8398a0f1ec4e2b27e4a6a82dd70992762ee6d09f23858ee3da19969e97fbb72869eaab83b008d730167c96906a6a7d900f46f11815e9066b10ccc0765507894a2389864a234065bee8fe17f838873370bb6aac6404a652b6baa345259b1329cc33b9031675fb67dc09fb2009c313437df83de17d0cbfbc66ffc86b8e0fcff2d2bff52850b8c63553bff87dd78f5ae7f641ae9cb229061e183468b45e59c23d38f3020e3d3d5e4bd2a7eb61b3a6307208fa5f0bfaf43597278c42fcef95ec1be72efc43519e1ac35f787607f923da3c12a66d12319bbc53b6b039ab5172e5a328c20a4cb444667145fd86b87a950b3bb9020142c7b3239d9a1957f1fdad65fa4c04577e100258e472820617c31a176adaea5 [OS,SJ,lD] (BL AQp)
def AQq(a:Ae):AA Ae:=bd (AQp a.BD) fun c=>gd (0+a.Laid.length<=lim) (some (Ae.mk c a.BO a.Seq a.Laid))
def lF:GF:=gZ A9G AsG AvV 0x324b0812405720b5a9cf0dc8456a67978e6ef42c27b1c4cc9fb0a3fd73aceaf0c6ae46d9e8f8662ced [lE] (BL AQq)
def A81(a:List Int):AA (List UInt8):=bd (AX9 a) fun c=>some c
def AQr(a:BX):AA (List UInt8):=bd (AYD a) fun c=>br (!c) (some []) (br (a.Kind==1) (gd ([a.Kind].length+[a.Id,a.Aa,w64 (a.Bl+1),a.A2,a.Cj].length<=lim) (jn (A81) ([a.Kind]++[a.Id,a.Aa,w64 (a.Bl+1),a.A2,a.Cj]))) (br (a.Kind==3) (gd ([a.Kind].length+[a.Aa,a.A2].length<=lim) (jn (A81) ([a.Kind]++[a.Aa,a.A2]))) (br (a.Kind==6) (jn A81 [a.Kind]) (gd ([a.Kind].length+[a.Id].length<=lim) (jn (A81) ([a.Kind]++[a.Id]))))))
def lG:GF:=gZ [.v (.st 0)] xc A8H 0x3434be23d3750b3c6f24aab98be10aba872b5d5bc3bb052f3f122dc8003ac4a21014c03a20e277e860d41bceb8857dc9ce5b4241e3a0720290227e5c2e60ae360c34d8f44a888a8c796e1f748d36038f9082f0b254db2c917e41f4ae179497a9dd772662af79d [SD,R8] (BL AQr)
def BAz(h:Int)(c:List UInt8)(j:Bool):AA (List UInt8):=br j (some []) (bd (AHd h) fun e=>gd (List.length e+c.length<=lim) (bd (AQX (e++c)) fun a=>gd ([toB (Dx a 24),toB (Dx a 16),toB (Dx a 8),toB a].length+(e++c).length<=lim) (bd (AHd ((↑([toB (Dx a 24),toB (Dx a 16),toB (Dx a 8),toB a]++(e++c)).length:Int))) fun g=>gd (List.length g+([toB (Dx a 24),toB (Dx a 16),toB (Dx a 8),toB a]++(e++c)).length<=On) (some (g++([toB (Dx a 24),toB (Dx a 16),toB (Dx a 8),toB a]++(e++c)))))))
def AQs(a:Int)(c:List UInt8):AA (List UInt8):=bd (AQR a 1 1000000) fun e=>br (!e) (jn (BAz a c) true) (bd (AQR (↑c.length:Int) 1 60) fun g=>jn (BAz a c) (!g))
def lH:GF:=gZ [.v .i,.v .s] xc A8I 0x13cf0e2aa17a972f8d50b660bca9a4084863a13bb3d4a471f26ce6f1ec491be77d2f1f8fefab5c2a5098775fb6fd87a69347a590b731d5f98577ed35afef1b08fac5c75fdcd12c790f2ad5768ded87a9fb4094677db5dff20413a257258c2 [Rz,OJ,R9] (Ah AQs)
def AQt(a:Int)(c:BX):AA (List UInt8):=bd (AQr c) fun e=>bd (AQs a e) fun g=>some g
def lI:GF:=gZ [.v .i,.v (.st 0)] xc A8I 0x1be91d50253256e213b7b28d65b3 [lG,lH] (Ah AQt)
def BAr(a:Bu)(c:List UInt8)(e:Bool):AA (Bu×Bool):=br e (some (a,false)) (some ((Bu.mk (a.Data++c) a.Safe,true)))
def AQd(a:Bu)(c:List UInt8):AA (Bu×Bool):=gd (a.Data.length+c.length<=On) (bd (W6 a) fun e=>br (!e) (jn (BAr a c) true) (bd (W6 (Bu.mk (a.Data++c) a.Safe)) fun g=>jn (BAr a c) (!g)))
def kv:GF:=gZ [.v (.st 9),.v .s] AOR BDA 0x4d3c1276baa5593217431378c10e41c45d8d24b506ada7704dc2fe9cc3fdb2972e391dd03783760427cbea48635660dc59be [E3] (Ah AQd)
def AAx(c:Ae)(g:BX):AA (Ae×Int):=bd (AQq c) fun a=>bd (AQa c) fun y=>br (!y) (some (a,21)) (bd (AYD g) fun B=>br (!B) (some (a,22)) (br (c.Seq==1000000) (some (a,23)) (br ((↑c.Laid.length:Int)==8) (some (a,24)) (bd (AQt (w64 (c.Seq+1)) g) fun h=>bd (AQd c.BO.Log h) fun e=>bd (AQd c.BO.Log h) fun j=>eqv e.snd j.snd (TN e.fst j.fst (bd (AQt (w64 (c.Seq+1)) g) fun E=>bd (AQd c.BO.Log E) fun q=>eqv e.snd q.snd (TN e.fst q.fst (br (!e.snd) (some (a,24)) (gd (a.Laid.length+[g].length<=lim) (some ((Ae.mk a.BD (Bb.mk e.fst a.BO.Dl a.BO.Odd) (w64 (a.Seq+1)) (a.Laid++[g]),0))))))))))))
def cZ:GF:=gZ Amz (.ret [(.st 11),.i]) xj 0x1d2b1443cfd453cbab79473bd90135f8747af056df5ce23a2fa240e7a1797b789aa8518898125132d4480a0a62958ce538bbaaa9c78caaa72c073fca2b3b6da2024565164bcc1b74edfb6df2e4d48ddf718610c437b5708731acd93ecd119445ea00df4c23ba60e09ae6dddcfcb05c949e33eabaf55ab7e9e2b1d6dcbea26a1e91d29ff3a5145e99e2bc0d8e1903f3da4f6c5940ee8cafc86b564463d6fa080c7959a31f33f0a3e1e3d666de00fb0690921efd71e3e8afb6fff52c266a182d09a5827d54cec29b00f9232b7b87358bdd44e006bd0a86e12055526c28a01c5b0b78ed4d7bf5fa08dbd40e3e11bcc44709b0fc54e765f542ad [lF,SE,SD,lI,kv] (Ah AAx)
end Lv
