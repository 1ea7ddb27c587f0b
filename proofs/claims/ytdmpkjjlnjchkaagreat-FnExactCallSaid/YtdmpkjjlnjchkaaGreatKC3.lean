/- Functions of the program as typed texts and as plain functions. -/
import Derived.Test.YtdmpkjjlnjchkaaGreatKB3
noncomputable section
set_option linter.unusedVariables false
set_option linter.unusedSimpArgs false
set_option linter.unusedSectionVars false
set_option maxRecDepth 100000
namespace Lv
open Go (IntKind BinOp UnOp)
open Y (YF qn qf qt qr q1 qd qm qa qo ql qL qb qi qx qp qq qc qz qe qk qK qB qw qu qj Kp wn wf wt w1 sw sq sr wm wM wo wO wl wL wk wK wz wZ wx wX wb wB wi wI wr wR wq wQ we wE wc wY wj wh cv ca cx cn ce bl)
def zz(c:Int)(e:Int)(a:Int)(h:UInt8)(g:Bool):AA (Int×Int×Bool):=br g (some (0,0,false)) (some ((orI e (AAM ((w64 (↑(UInt8.toNat h):Int)).tmod 128) (w64 (7*a))),w64 (w64 (c+a)+1),true)))
def A1C(j:List UInt8)(g:Int)(h:(Int×Int)->AA (Int×Int×Bool))(e:Int)(a:Int)(q:Bool):AA (Int×Int×Bool):=br q (some (0,0,false)) (bd (at? j (w64 (g+a))) fun c=>gd (¬w64 (7*a)<0) (br (decide (w64 (↑(UInt8.toNat c):Int)<128)) (br (decide (a>0)) (br (w64 (↑(UInt8.toNat c):Int)==0) (jn (zz g e a c) true) (jn (zz g e a c) (decide (orI e (AAM ((w64 (↑(UInt8.toNat c):Int)).tmod 128) (w64 (7*a)))>2147483647)))) (jn (zz g e a c) (decide (orI e (AAM ((w64 (↑(UInt8.toNat c):Int)).tmod 128) (w64 (7*a)))>2147483647)))) (h ((orI e (AAM ((w64 (↑(UInt8.toNat c):Int)).tmod 128) (w64 (7*a))),w64 (a+1))))))
def A2T(_:PUnit):AA (Int×Int×Bool):=some (0,0,false)
def A2U(e:List UInt8)(a:Int)(g:(Int×Int)->AA (Int×Int×Bool))(j:(Int×Int)):AA (Int×Int×Bool):=match j with |(h,c)=>br (decide (c<5)) (br (decide (a<0)) (jn (A1C e a g h c) true) (jn (A1C e a g h c) (decide (a>=w64 ((↑e.length:Int)-c))))) (jn A2T ())
def A3v(a:List UInt8)(c:Int):AA (Int×Int×Bool):=A4 (A2U a c) big (0,0)
def A18(a:List Int):AA ((List Int)×Bool):=some (a,true)
def A19(e:List UInt8)(h:((List Int)×Int)->AA ((List Int)×Bool))(j:((List Int)×Int)):AA ((List Int)×Bool):=match j with |(c,g)=>br (decide (g<(↑e.length:Int))) (bd (A3v e g) fun a=>br (!a.snd.snd) (some ([],false)) (gd (List.length c+[a.fst].length<=lim) (h (c++[a.fst],a.snd.fst)))) (jn A18 c)
def A26(a:List UInt8):AA ((List Int)×Bool):=A4 (A19 a) big ([],0)
def A2Q(_:PUnit):AA (Int×Int×Bool):=some (0,0,false)
def A1B(j:List UInt8)(g:Int)(h:(Int×Int)->AA (Int×Int×Bool))(e:Int)(a:Int)(q:Bool):AA (Int×Int×Bool):=br q (bd (at? j (w64 (g+a))) fun c=>gd (¬w64 (7*a)<0) (br (decide (w64 (↑(UInt8.toNat c):Int)<128)) (bd (rr (w64 (e+AAM ((w64 (↑(UInt8.toNat c):Int)).tmod 128) (w64 (7*a))))) fun y=>br ((↑(List.length y):Int) != w64 (a+1)) (some (0,0,false)) (some ((w64 (e+AAM ((w64 (↑(UInt8.toNat c):Int)).tmod 128) (w64 (7*a))),w64 (w64 (g+a)+1),true)))) (h ((w64 (e+AAM ((w64 (↑(UInt8.toNat c):Int)).tmod 128) (w64 (7*a))),w64 (a+1)))))) (jn A2Q ())
def A2R(c:List UInt8)(e:Int)(g:(Int×Int)->AA (Int×Int×Bool))(j:(Int×Int)):AA (Int×Int×Bool):=match j with |(h,a)=>br (decide (a<5)) (jn (A1B c e g h a) (decide (w64 (e+a)<(↑c.length:Int)))) (jn (A1B c e g h a) false)
def A3t(a:List UInt8)(c:Int):AA (Int×Int×Bool):=bd (DE c 0 (w64 ((↑a.length:Int)-1))) fun e=>br (!e) (some (0,0,false)) (A4 (A2R a c) big (0,0))
def A1y(a:List Int):AA ((List Int)×Bool):=some (a,true)
def A1z(e:List UInt8)(h:((List Int)×Int)->AA ((List Int)×Bool))(j:((List Int)×Int)):AA ((List Int)×Bool):=match j with |(c,g)=>br (decide (g<(↑e.length:Int))) (bd (A3t e g) fun a=>br (!a.snd.snd) (some ([],false)) (gd (List.length c+[a.fst].length<=lim) (h (c++[a.fst],a.snd.fst)))) (jn A1y c)
def A22(a:List UInt8):AA ((List Int)×Bool):=A4 (A1z a) big ([],0)
def A2C(a:Int)(c:Int):AA Int:=br (decide (a<c)) (some a) (some c)
def AJM(_:PUnit):AA Int:=some (-1)
def sj(c:List AK)(g:Int)(e:Int->AA Int)(a:Int):AA Int:=br (decide (a<(↑c.length:Int))) (bd (at? c a) fun h=>br (h.Id==g) (some a) (e (w64 (a+1)))) (jn AJM ())
def ARI(a:List AK)(c:Int):AA Int:=A4 (sj a c) big 0
def ANo:GF:=gZ Wb Cm Bz 0x3303bcc41d9b9722bca47cfeea223055d6666628670f716b8571ed68197342c417d [] (Ah ARI)
def A72:YF:=⟨[],[.v (.l (.st 2)),.v (.st 2)],[],.ret [(.l (.st 2))],[.tmp 4],sq [qu 3 1,.as 4 (.k .nil),.Zk [(.tmp 4 0,(.st 2))]] [0,3] (sr [wn 7 [wm 0,wo 0 3,wL,wc ANo rfl [7,9]],qn [qa 5 10]] (Kp 41) (sr [wn 11 [wh (.B7 · 0 (.st 2) []),wm 0,wh (.app · (.st 2) true (.tmp 11) (.tmp 12))],qn [qa 6 13]] (Kp 105) (.seq (sw 14 [wm 5,wI .geq 0] (Kp 32873) (.cond 15 (Kp 104) [0,3] (sr [wn 16 [wm 6,wm 5,wk 10 3,we (.st 2) 16 17],qn [qw 10 19 18]] [6] (sq [qm 20 6,qa 4 20] [4] .ret)) .skip)) (sq [qK 5 0] (Kp 41) (.join [cv 5 .i] (bl 0 [cv 5 .i] (.seq (.join [cv 34 .b] (.RD (qd 0 [wn 21 [wm 5,wm 0,wZ,wB .lss 21,wM],wt 25 26 [wm 0,wm 5,wE (.st 2) 26,wO 0,wL,wo 0 3,wL,wB .lss 30],qn [qq 34 25 33]] .nil) [0,3,5,34]) (ce 34 [0,3,5] (Kp 41) 0)) (.block 1 (qr [wn 35 [wm 5,wI .add 1],qn [qa 5 36]] (Kp 41))))) (.seq (.RD (qd 1 [wn 38 [wm 0,wm 5,wh (.sub · (.st 2) (.tmp 38) none (some (.tmp 39)))]] (.op 5 none [] (.ld 42 (some 10) (.tmp 3)) (.both 0 (.op 0 none [3] (.B7 37 0 (.st 2) []) (.both 0 (.op 4 none [3] (.app 41 (.st 2) true (.tmp 37) (.tmp 40)) (qd 6 [wn 43 [wh (.B7 · 1 (.st 2) [(0,(.tmp 42))]),wh (.app · (.st 2) true (.tmp 41) (.tmp 43))],qn [qa 6 44]] .nil)) (.op 6 none [] (.B7 43 1 (.st 2) [(0,(.tmp 42))]) (.op 4 none [3] (.app 41 (.st 2) true (.tmp 37) (.tmp 40)) (qd 7 [qn [.app 44 (.st 2) true (.tmp 41) (.tmp 43),qa 6 44]] .nil))))) (.op 6 none [] (.B7 43 1 (.st 2) [(0,(.tmp 42))]) (.op 0 none [3] (.B7 37 0 (.st 2) []) (.op 4 none [3] (.app 41 (.st 2) true (.tmp 37) (.tmp 40)) (qd 7 [qn [.app 44 (.st 2) true (.tmp 41) (.tmp 43),qa 6 44]] .nil))))))) [0,5,6]) (sr [wn 45 [wm 6,wm 0,wm 5,wh (.sub · (.st 2) (.tmp 46) (some (.tmp 47)) none),wh (.app · (.st 2) true (.tmp 45) (.tmp 48))],qn [qa 4 49]] [4] .ret)))))))⟩
def A3J(c:List AK)(e:AK)(a:Int):AA (List AK):=gd (0<=a/\a<=(↑c.length:Int)) (gd (0+(List.take a.toNat c).length<=lim) (gd (([]++List.take a.toNat c).length+[e].length<=lim) (gd (0+(List.take a.toNat c).length<=lim) (gd (([]++List.take a.toNat c).length+[e].length<=lim) (ev2 ([]++List.take a.toNat c++[e]) [e] (gd (0+(List.take a.toNat c).length<=lim) (gd (([]++List.take a.toNat c).length+[e].length<=lim) (ev2 ([]++List.take a.toNat c++[e]) [e] (gd (0<=a/\a<=(↑c.length:Int)) (gd (([]++List.take a.toNat c++[e]).length+(List.drop a.toNat c).length<=lim) (some ([]++List.take a.toNat c++[e]++List.drop a.toNat c))))))))))))
def A2F(e:List AK)(g:AK)(c:Int->AA (List AK))(a:Int)(h:Bool):AA (List AK):=br h (c (w64 (a+1))) (jn (A3J e g) a)
def A3K(a:List AK)(e:AK)(g:Int->AA (List AK))(c:Int):AA (List AK):=br (decide (c<(↑a.length:Int))) (bd (at? a c) fun h=>jn (A2F a e g c) (decide (h.Id<e.Id))) (jn (A2F a e g c) false)
def sk(a:List AK)(e:AK):AA (List AK):=bd (ARI a e.Id) fun c=>gd (0+a.length<=lim) (br (decide (c>=0)) (bd (at? ([]++a) c) fun g=>bd (at? ([]++a) c) fun h=>some (([]++a).set (Int.toNat c) e)) (A4 (A3K a e) big 0))
def AEK:GF:=A72.D2 (Ah sk)
def A3L(h:An)(a:A6)(c:An)(j:Bool):AA (An×Bool):=br j (some (c,false)) (bd (at? c.Ak (a.At.tmod 9)) fun B=>bd (at? c.Ak (a.At.tmod 9)) fun q=>bd (AAp q a) fun g=>bd (at? c.Ak (a.At.tmod 9)) fun E=>bd (at? c.Ak (a.At.tmod 9)) fun G=>bd (bQ (An.mk (c.Ak.set (a.At.tmod 9).toNat g))) fun y=>br (!y) (bd (AA3 h) fun e=>some (e,false)) (some ((An.mk (c.Ak.set (a.At.tmod 9).toNat g),true))))
def su(a:An)(c:A6):AA (An×Bool):=bd (AA3 a) fun e=>bd (bQ a) fun g=>br (!g) (jn (A3L a c e) true) (jn (A3L a c e) (decide (c.At<1)))
def AEL:GF:=gZ Aoi A4X ArF 0x10fb40b890e3f7efcf9352b7b95de4704da3c1ad80c9cb7b89b2ea1208da0ab15b43fb11158ba5c57f48bb4d37fad33e7575eb30f090584e4db4d07344a3a882a540dd65c200ca61a529d0110ceaaaeb557b1386f5c4add229c [AD5,Li,OG] (Ah su)
def ARJ(a:List Int)(c:Int):AA (List Int):=gd (0+a.length<=lim) (bd (AAi a c) fun e=>br e (some ([]++a)) (gd (([]++a).length+[c].length<=lim) (some ([]++a++[c]))))
def AZE:GF:=gZ nU A4O Bz 0x2884b95c1eb29e6c094c680dd841301792479aae87b6fa2bf33f5aba5dc80 [OD] (Ah ARJ)
end Lv
set_option maxRecDepth 100000
namespace Lv
open Go (IntKind BinOp UnOp)
open Y (YF qn qf qt qr q1 qd qm qa qo ql qL qb qi qx qp qq qc qz qe qk qK qB qw qu qj Kp wn wf wt w1 sw sq sr wm wM wo wO wl wL wk wK wz wZ wx wX wb wB wi wI wr wR wq wQ we wE wc wY wj wh cv ca cx cn ce bl)
end Lv
