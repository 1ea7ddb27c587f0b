/- Functions of the program as typed texts and as plain functions. -/
import Derived.Test.YtnjoipcemhflkaaGreatTCw
open List renaming take->ae,length->an,drop->aq,set->aO
noncomputable section
set_option linter.unusedVariables false
set_option linter.unusedSimpArgs false
set_option linter.unusedSectionVars false
set_option maxRecDepth 100000
namespace Lv
open Go (IntKind BinOp UnOp)
open Y (YF qn qf qt qr q1 qd qm qa qo ql qL qb qi qx qp qq qc qz qe qk qK qB qw qu qj Kp wn wf wt w1 sw sq sr wm wM wo wO wl wL wk wK wz wZ wx wX wb wB wi wI wr wR wq wQ we wE wc wY wj wh cv ca cx cn ce bl)
def dF(a:Bool):AA Bool:=some a
def Eh(a c e:Int):AA Bool:=br (decide (a>=c)) (jn dF (decide (a<=e))) (jn dF false)
def Ho:=gZ ASW C1 Ui ["CK1hoUbdXtgDHOlPNWuI9KTC"] [] (Gq Eh)
def WK(a:Bool):AA Bool:=some a
def AJd(a:Aa)(_:PUnit):AA Bool:=bd (Eh a.Bz 1 8) fun e=>br e (bd (Eh a.Rest 0 8) fun g=>br g (bd (Eh a.CY 1 4) fun h=>br h (bd (Eh a.Cu 1 3) fun c=>jn WK c) (jn WK false)) (jn WK false)) (jn WK false)
def uf(a:Aa)(e:Int->AA Bool)(c:Int):AA Bool:=br (decide (c<a.AY.length)) (bd (at? a.AY c) fun g=>bd (Eh g 1 60) fun h=>br (!h) (some false) (e (w64 (c+1)))) (jn (AJd a) ())
def Qg(a:Aa)(c:Bool):AA Bool:=br c (some false) (BD (uf a) big 0)
def ue(a:Aa):AA Bool:=bd (Eh (↑a.AY.length:Int) 1 4) fun j=>br (!j) (jn (Qg a) true) (bd (Eh a.CS 1 5) fun c=>br (!c) (jn (Qg a) true) (bd (Eh a.Room 1 10) fun e=>br (!e) (jn (Qg a) true) (bd (Eh a.BE 1 6) fun g=>br (!g) (jn (Qg a) true) (bd (Eh a.CE 1 12) fun h=>jn (Qg a) (!h)))))
def bU:=gZ Su C1 DA ["2jw3QeA36FkTz5JtLvSx8r018s3qGkIqd4TguoAKXAk2pnDRGQYlCzmEZ6p55MEIjacu83yMwtgx1AB7","qlmu8TNHKNYEpPIAH70fp3W0ai4EsmtV0tCL6RoYLDI5fD7rxUMB88P3Iwj3PNA13b8y35dHS5hqdYn7","bTuohg3ezKw4mfpuMq"] [Ho] (Bc ue)
def Tv(a:Bool):AA Bool:=some a
def Qh(c:Aa)(a:AU)(e:Int)(g:Bool):AA Bool:=br g (some false) (br (a.State==1) (bd (Eh a.C7 0 (w64 (e+c.Rest))) fun h=>br h (jn Tv true) (br (a.State==2) (bd (Eh a.C7 1 (w64 (e+c.Bz))) fun j=>jn Tv j) (jn Tv false))) (br (a.State==2) (bd (Eh a.C7 1 (w64 (e+c.Bz))) fun q=>jn Tv q) (jn Tv false)))
def OW(c:Aa)(a:AU)(e:Int)(q:Bool):AA Bool:=br q (some false) (bd (Eh a.BE 1 c.BE) fun y=>br (!y) (jn (Qh c a e) true) (bd (Eh a.DJ 0 (w64 (c.CS-1))) fun B=>br (!B) (jn (Qh c a e) true) (bd (Eh a.Since 0 e) fun g=>br (!g) (jn (Qh c a e) true) (bd (Eh a.A0 1 1000000) fun h=>br (!h) (jn (Qh c a e) true) (bd (Eh a.Dh 0 (w64 (c.CY-1))) fun j=>jn (Qh c a e) (!j))))))
def AFQ(c:Aa)(a:AU)(e:Int):AA Bool:=bd (ue c) fun y=>br (!y) (jn (OW c a e) true) (bd (Eh e 0 1000000) fun g=>br (!g) (jn (OW c a e) true) (bd (Eh a.Id 1 999) fun h=>br (!h) (jn (OW c a e) true) (bd (Eh a.Ab 0 (w64 ((↑c.AY.length:Int)-1))) fun j=>br (!j) (jn (OW c a e) true) (bd (Eh a.Bu (-1) (w64 ((↑c.AY.length:Int)-1))) fun q=>br (!q) (jn (OW c a e) true) (jn (OW c a e) (a.Bu==a.Ab))))))
def sI:=gZ bW C1 Ui ["15PbnLmD8wVOy0BnMs6lcR9D5EaiSYlRnFbnChTGO08gH1Ho0ozxEO06s1T3FoPljfZDAFA9nGEba78Z","WPmxtZNpz1ni3JllUY90udM71ntk1oJ21opi4n4Ogt4cV0pEhAtz8QLJWYkM1FlVRqnYYK7hAMk62Qq6","XB1Pcn3ugsHeikdUd74x8eV4ZWIWgy1MYhAGpdySHEqrIjhCxh2yaS4dD2rZc1jIeHk3MSr4sg1nKcdR","4PaU3kmD0euvhbVUONtFqHqF0ig9hJbUmEOmgsbBf7D"] [bU,Ho] (Gq AFQ)
def OX(a:Int->AA Bool)(c:Int)(e:Bool):AA Bool:=br e (some false) (a (w64 (c+1)))
def AJp(a:Int->AA Bool)(c:Int)(_:PUnit):AA Bool:=a (w64 (c+1))
def uh(q:AE)(j:Int->AA Bool)(h:Int)(c:AU)(g:Int->AA Bool)(a:Int):AA Bool:=br (decide (a<h)) (bd (at? q.AG a) fun e=>br (e.A0==c.A0) (jn (OX g a) true) (br (decide (e.A0<c.A0)) (br (decide (e.Since>c.Since)) (jn (OX g a) true) (br (decide (e.A0>c.A0)) (jn (OX g a) (decide (e.Since<c.Since))) (jn (OX g a) false))) (br (decide (e.A0>c.A0)) (jn (OX g a) (decide (e.Since<c.Since))) (jn (OX g a) false)))) (jn (AJp j h) ())
def Ty(c:AE)(a:Int->AA Bool)(e:Int)(h:AU)(g:Bool):AA Bool:=br g (some false) (BD (uh c a e h) big 0)
def AJq(_:PUnit):AA Bool:=some true
def ug(a:AE)(g:Int->AA Bool)(c:Int):AA Bool:=br (decide (c<a.AG.length)) (bd (at? a.AG c) fun e=>bd (AFQ a.AQ e a.Now) fun j=>br (!j) (jn (Ty a g c e) true) (br (decide (e.A0>=a.A0)) (jn (Ty a g c e) true) (br (decide (c>0)) (bd (at? a.AG (w64 (c-1))) fun h=>jn (Ty a g c e) (decide (h.Id>=e.Id))) (jn (Ty a g c e) false)))) (jn AJq ())
def AWF(a:AE):AA Bool:=BD (ug a) big 0
def ARL:=gZ Xi C1 DA ["EBHqrXI6QzxVBvvzvScf8BeeSDuQG2Zilv7T2LBhluTyvCzJUMdA5tLlMV9GroKEvS9N8Iufj1WVTx5W","FWAB1vtSfNT7PjcUMxl3Lrx0ZGabZC0LqBTtkEarwyl1po4bqC5easjoY4n5vSjDfthUOAGsRaFJhMCY","lndlKT5ZqiLemgvHioo2ngi6snpaT9mbJfxMAdO3BSUaRxxLPg9LBcwvV91Bb8FhI9OM2agxx3kNNthb","DlD0hCG9vOokcYlzGXjCbaHTEFD"] [sI] (Bc AWF)
def AJ3(_:PUnit):AA Bool:=some false
def AJ4(c:List Int)(g:Int)(e:Int->AA Bool)(a:Int):AA Bool:=br (decide (a<c.length)) (bd (at? c a) fun h=>br (h==g) (some true) (e (w64 (a+1)))) (jn AJ3 ())
def ANM(a:List Int)(c:Int):AA Bool:=BD (AJ4 a c) big 0
def ADV:=gZ sK C1 Ca ["3ThzDQxkIC5EbWFfUn7ijmlbOqiljbm0G2jabd2Hin3G"] [] (A4 ANM)
def ui(a:Int->AA Bool)(c:Int)(e:Bool):AA Bool:=br e (some false) (a (w64 (c+1)))
def AKG(a:AE)(_:PUnit):AA Bool:=some ((↑a.A9.length:Int)==a.AQ.Cu)
def uk(a:AE)(h:Int->AA Bool)(c:Int):AA Bool:=br (decide (c<a.A9.length)) (bd (at? a.A9 c) fun e=>bd (Eh e (-1) (w64 ((↑a.AH.length:Int)-1))) fun g=>br (!g) (some false) (h (w64 (c+1)))) (jn (AKG a) ())
def dG(a:AE)(_:PUnit):AA Bool:=BD (uk a) big 0
def uj(c:AE)(e:Int->AA Bool)(a:Int):AA Bool:=br (decide (a<c.BB.length)) (bd (at? c.BB a) fun g=>bd (Eh g 0 (w64 ((↑c.AH.length:Int)-1))) fun h=>br (!h) (jn (ui e a) true) (gd (0<=a/\a<=c.BB.length) (bd (at? c.BB a) fun j=>bd (ANM (ae a.toNat c.BB) j) fun q=>jn (ui e a) q))) (jn (dG c) ())
def AWG(a:AE):AA Bool:=BD (uj a) big 0
def ARb:=gZ Xi C1 DA ["1JaEGgQvVIzvOPn0G8bg7qtBevLdpWlxI7ERICTedNcbj3IsUstxW46p67ECm680o0baaNbuaj5PV84I","Gz011c1YYSCP09Kj6LNHA93yfYgH2e2NZa7jtuopiqhPtmL6FkKv7DAefCw3Mb13FuvdfKWTCQmWsZLa","I"] [Ho,ADV] (Bc AWG)
def Qi(a:Bool):AA Bool:=some a
def AFR(a:BI):AA Bool:=bd (Eh a.Total 1 60) fun c=>br c (bd (Eh a.Dv 0 a.Total) fun e=>br e (bd (Eh a.FA 0 a.Total) fun g=>br g (bd (Eh a.Fm 0 a.Total) fun h=>br h (br (w64 (w64 (a.Dv+a.FA)+a.Fm)==a.Total) (bd (Eh a.F8 0 a.Fm) fun j=>jn Qi j) (jn Qi false)) (jn Qi false)) (jn Qi false)) (jn Qi false)) (jn Qi false)
def ADW:=gZ [.v (.st 3)] C1 DA ["IWa14JKycPVw3rIy6VWV8nLIchTL0ZLgdsq6Ovg6CucyBMTPKm6cHSmGwOn3OUT0QcbNIe2GRo1KdDq6","pAgf623trDCZrAAUxNgCIlpaydfoy"] [Ho] (Bc AFR)
def dH(a:Bool):AA Bool:=some a
def AQd(a c:Au):AA Bool:=br (decide (a.Level<c.Level)) (jn dH true) (br (a.Level==c.Level) (jn dH (decide (a.A0<c.A0))) (jn dH false))
def AL2:=gZ ASe C1 Ca ["8HPkOi0KJcPntgz98zmnj67SaqESvD3oBKdAe98isodaPMrDi"] [] (A4 AQd)
def AKt(_:PUnit):AA Int:=some (-1)
def AKu(c:List Au)(g:Int)(e:Int->AA Int)(a:Int):AA Int:=br (decide (a<c.length)) (bd (at? c a) fun h=>br (h.Id==g) (some a) (e (w64 (a+1)))) (jn AKt ())
def ANN(a:List Au)(c:Int):AA Int:=BD (AKu a c) big 0
def AL3:=gZ AHU C9 Ca ["8d8slle2ib4wmiFAB1WAxQmdwqNNVmApkmaGCPIBKrStJhJL5"] [] (A4 ANN)
def XM(a:Int->AA Bool)(c:Int)(e:Bool):AA Bool:=br e (some false) (a (w64 (c+1)))
def T0(e:List Au)(c:Int->AA Bool)(a:Int)(h:Au)(j:Bool):AA Bool:=br j (some false) (br (decide (a>0)) (bd (at? e (w64 (a-1))) fun q=>bd (AQd q h) fun y=>br (!y) (jn (XM c a) true) (bd (ANN e h.Id) fun B=>jn (XM c a) (B != a))) (bd (ANN e h.Id) fun g=>jn (XM c a) (g != a)))
def ALM(_:PUnit):AA Bool:=some true
def um(c:List Au)(g:Int->AA Bool)(e:Int):AA Bool:=br (decide (e<c.length)) (bd (at? c e) fun a=>bd (Eh a.Level 0 4) fun y=>br (!y) (jn (T0 c g e a) true) (bd (Eh a.A0 1 1000000) fun h=>br (!h) (jn (T0 c g e a) true) (bd (Eh a.Id 1 999) fun j=>br (!j) (jn (T0 c g e a) true) (bd (Eh a.BE 1 6) fun q=>jn (T0 c g e a) (!q))))) (jn ALM ())
def AWH(a:List Au):AA Bool:=br (decide ((↑a.length:Int)>10)) (some false) (BD (um a) big 0)
def AR0:=gZ xQ C1 DA ["I82dpvx41G039qfmEWGX2VXNAsBi579Ipbf9zRtQ0tvOfEJN0kYcMxGeJr5CR1QIcJbwuLQdjbQxf2FZ","poQDkYpqZwdH2w0ksRRN7GlQJHtadc7hBa8Tu3t8HMC30sq6H3XgFt7z7bkPYeTG2K9JcTjbZo62Hepj","kuA7fn3SouSV80GIheEABSgm3mi1Lk"] [Ho,AL2,AL3] (Bc AWH)
def ALa(a:List BY):AA (List BY):=some a
def ALb(e:Aw)(h:List BY×Int->AA (List BY))(j:List BY×Int):AA (List BY):=let (a,c):=j;br (decide (c<e.Ar.length)) (bd (at? e.Ar c) fun g=>gd (an a+an g<=lim) (h (a++g,w64 (c+1)))) (jn ALa a)
def AQv(a:Aw):AA (List BY):=BD (ALb a) big ([],0)
def AL4:=gZ Zc Zk DA ["EWnOH4TamIU0QO9CIQVLHMZde1asojeG83JIzX5Avk3s3E5VgKUeIphYj0mH8P"] [] (Bc AQv)
def dI(a:Bool):AA Bool:=some a
def AQw(a c:BY):AA Bool:=br (decide (a.At<c.At)) (jn dI true) (br (a.At==c.At) (jn dI (decide (a.Id<c.Id))) (jn dI false))
def AL5:=gZ [.v (.st 5),.v (.st 5)] C1 Ca ["8HPkOi0KJcPntgz98zmnj67SaqESvD3oBKdAe98isodaPMrDi"] [] (A4 AQw)
def ALd(a:Int->AA Bool)(c:Int)(_:PUnit):AA Bool:=a (w64 (c+1))
def uq(e:List BY)(j:Int->AA Bool)(c:Int)(q:Int->AA Bool)(a:Int):AA Bool:=br (decide (a<c)) (bd (at? e a) fun y=>bd (at? e a) fun g=>bd (at? e c) fun B=>bd (at? e c) fun h=>br (g.Id==h.Id) (some false) (q (w64 (a+1)))) (jn (ALd j c) ())
def dK(g:List BY)(a:Int->AA Bool)(c:Int)(e:Bool):AA Bool:=br e (some false) (BD (uq g a c) big 0)
def dM(a:Int->AA Bool)(c:Int)(e:Bool):AA Bool:=br e (some false) (a (w64 (c+1)))
def ADA(a:Int->AA Bool)(c:Int)(_:PUnit):AA Bool:=a (w64 (c+1))
def uu(g:Aw)(h:Int->AA Bool)(c:Int)(e:Int->AA Bool)(a:Int):AA Bool:=bd (at? g.Ar c) fun j=>br (decide (a<(an j))) (bd (at? g.Ar c) fun q=>bd (at? q a) fun y=>br (y.At.tmod 9 != c) (jn (dM e a) true) (br (decide (a>0)) (bd (at? g.Ar c) fun B=>bd (at? B (w64 (a-1))) fun E=>bd (at? g.Ar c) fun G=>bd (at? G a) fun H=>bd (AQw E H) fun I=>jn (dM e a) (!I)) (jn (dM e a) false))) (jn (ADA h c) ())
def ADB(_:PUnit):AA Bool:=some true
def ur(e:Aw)(c:Int->AA Bool)(a:Int):AA Bool:=br (decide (a<e.Ar.length)) (BD (uu e c a) big 0) (jn ADB ())
def dL(a:Aw)(_:PUnit):AA Bool:=BD (ur a) big 0
def uo(j:Aw)(c:List BY)(h:Int->AA Bool)(a:Int):AA Bool:=br (decide (a<(an c))) (bd (at? c a) fun E=>bd (at? c a) fun y=>bd (Eh y.At 1 1000008) fun B=>br (!B) (jn (dK c h a) true) (bd (at? c a) fun q=>bd (at? c a) fun e=>bd (Eh e.Id 1 999) fun g=>jn (dK c h a) (!g))) (jn (dL j) ())
def dJ(a:Aw)(e:List BY)(c:Bool):AA Bool:=br c (some false) (BD (uo a e) big 0)
def pB(a:Aw):AA Bool:=bd (AQv a) fun c=>br ((↑a.Ar.length:Int) != 9) (jn (dJ a c) true) (jn (dJ a c) (decide ((↑(an c):Int)>10)))
def mH:=gZ Zc C1 DA ["BH4ZqJSESicgLgs4rIGe6YdJ8G4ZdLw1iJ4US4VAbnzG5KZ45oR4KN2ij0yI69K8O06z0FtfZpmKABQW","BZjxuerdM3Kfe5rhNsKk6BA3vvnM9jt2QNpqDyJwXlkEgU7EAACqw49Kr0rT6UxErbY6SfEDlAhkYC0y","1xvv70xOGJ4V1rFAgp6dmhRXCyMVkV9eKrcLF7BtbekADtENEYmna4tJClsXvsFCYCXjYaxnpeAJFPWX","RLAVhlxFD82vigwAW1UlQHKimi8lkD42uMzAyOSr3qwyVBPGySOS4gkZa0Sxk8smmHlRQ0qSQgN02TPb","nW5m4gT0F0QAFxjVX8J7A47mHZhL"] [AL4,Ho,AL5] (Bc pB)
def dN(a:Bool):AA Bool:=some a
def ANO(a:Ae):AA Bool:=bd (AFR a.AY) fun c=>br c (bd (AWH a.Row) fun e=>br e (bd (pB a.By) fun g=>jn dN g) (jn dN false)) (jn dN false)
def AL6:=gZ xR C1 DA ["1qRfUh8D1yp7Gb5GfHSGnVTLoNuFjHw20"] [ADW,AR0,mH] (Bc ANO)
def OL(a c:Int):AA Int:=br (decide (a>c)) (some a) (some c)
def bV:=gZ [.v .i,.v .i] C9 Ca ["HEFVK9rTsHKdwv3AFkEThz"] [] (A4 OL)
def AWI(a:Aa)(c e:Int):AA Int:=gd (a.CE≠0) (bd (OL 0 (w64 (c-w64 (e.tdiv a.CE)))) fun g=>some g)
def ASU:=gZ [.v (.st 1),.v .i,.v .i] C9 Ui ["hEczRFWycjTqonj5PdPOFl"] [bV] (Gq AWI)
def AWJ(c:Aa)(a:AU)(e:Int):AA Int:=bd (AFQ c a e) fun g=>br (!g) (some (-1)) (bd (AWI c a.DJ (w64 (e-a.Since))) fun h=>some h)
def ASV:=gZ bW C9 Ui ["7PhcQfU1lBAC6FJXC9tQnBPZFPXt9zgoWgBQWT6yxGm"] [sI,ASU] (Gq AWJ)
def uw(a:AU)(e:Int)(c:Bool):AA (Au×Bool):=br c (some (Au.mk 0 0 0 0,false)) (some (Au.mk e a.A0 a.Id a.BE,true))
def ANP(e:Aa)(a:AU)(g:Int):AA (Au×Bool):=bd (AWJ e a g) fun c=>br (decide (c<0)) (jn (uw a c) true) (jn (uw a c) (a.State != 1))
def AL7:=gZ bW (.ret [(.st 4),.b]) [.cell 6 (some 4),.tmp 7] ["L3Mal35cqKsulfLuRjMKVlepCgXUWeR0CGkPOrvnXlqpXuNziszHNOCVYahHdJ0YZlq0mBIshX"] [ASV] (Gq ANP)
def ux(a:List Au):AA (List Au):=gd (0+a.length<=lim) (some ([]++a))
def ADX:=gZ xQ AoW DA ["1UVUWuH12rsSaCD5"] [] (Bc ux)
def uy(c:List Au)(e:Au)(a:Int):AA (List Au):=gd (0<=a/\a<=c.length) (bd (ux (ae a.toNat c)) fun g=>gd (an g+[e].length<=lim) (bd (ux (ae a.toNat c)) fun h=>gd (an h+[e].length<=lim) (eqv (g++[e]) (h++[e]) (gd (0<=a/\a<=c.length) (gd ((g++[e]).length+(aq a.toNat c).length<=lim) (some (g++[e]++aq a.toNat c)))))))
def dO(e:List Au)(g:Au)(c:Int->AA (List Au))(a:Int)(h:Bool):AA (List Au):=br h (c (w64 (a+1))) (jn (uy e g) a)
def uz(a:List Au)(e:Au)(g:Int->AA (List Au))(c:Int):AA (List Au):=br (decide (c<a.length)) (bd (at? a c) fun h=>bd (AQd h e) fun j=>jn (dO a e g c) j) (jn (dO a e g c) false)
def AFS(a:List Au)(c:Au):AA (List Au):=BD (uz a c) big 0
def AL8:=gZ Aqn AoW Ca ["Nt4DSXppvDoBKNCAGTl4GFlNCiPQKHRqNDVhgrcHUvdtQ924PjsWSddF1LRqVLC7JtMSZForKWo7UQvR","jMR7xvf4WTUj1WnHG2tUvmAqgXGD4jl7dK5His223Y"] [AL2,ADX] (A4 AFS)
def vB(c:List Au×Int->AA (List Au))(e:Int)(a:List Au):AA (List Au):=c (a,w64 (e-1))
def vA(a:List Au×Int->AA (List Au))(c:List Au)(e:Int)(h:Au×Bool)(g:Bool):AA (List Au):=br g (bd (AFS c h.fst) fun j=>jn (vB a e) j) (jn (vB a e) c)
def ALe(a:List Au):AA (List Au):=some a
def ALf(h:Aa)(j:List AU)(E q:Int)(g:List Au×Int->AA (List Au))(H:List Au×Int):AA (List Au):=let (e,a):=H;br (decide (a>=0)) (bd (at? j a) fun y=>bd (ANP h y q) fun c=>bd (ANP h y q) fun B=>eqv c.snd B.snd (zb c.fst B.fst (br c.snd (bd (at? j a) fun G=>jn (vA g e a c) (G.Ab==E)) (jn (vA g e a c) false)))) (jn ALe e)
def ANQ(c:Aa)(a:List AU)(e g:Int):AA (List Au):=BD (ALf c a e g) big ([],w64 ((↑a.length:Int)-1))
def ADY:=gZ [.v (.st 1),.v (.l (.st 2)),.v .i,.v .i] AoW [.tmp 8] ["9olazY1cAaXYnvykmxulCPEtE60afYpKaB9EF8B1ceHFl1eKFusfhMBqOf8PYlKzPPIMGFcXqPVDoJ26","6luSpxOQlzA767MIg3Rzvq9cEnFXXvjmFj9DD0qkLBKTpV1a1PKEALPZVfKlKULZ6Q4OQF60O3I0YpiV","ES5LfK9TNRqLjZ4enrR16l7QG"] [AL7,AL8] (Vv ANQ)
def ALg(_:PUnit):AA Bool:=some true
def vC(g j:List Au)(h:Int->AA Bool)(a:Int):AA Bool:=br (decide (a<g.length)) (bd (at? g a) fun c=>bd (at? j a) fun e=>br (!(c.Level==e.Level&&(c.A0==e.A0&&(c.Id==e.Id&&(c.BE==e.BE&&true))))) (some false) (h (w64 (a+1)))) (jn ALg ())
def AQx(a c:List Au):AA Bool:=br ((↑a.length:Int) != c.length) (some false) (BD (vC a c) big 0)
def AL9:=gZ ASX C1 Ca ["1qepgUVbERxhvHMf2Kw58W1SPNQkU3STrUw2GVOdRtIleIMR8vB8O49EtfOujzcIY"] [] (A4 AQx)
def vD(c:List BY)(e:BY)(a:Int):AA (List BY):=gd (0<=a/\a<=c.length) (gd (0+(ae a.toNat c).length<=lim) (gd (([]++ae a.toNat c).length+[e].length<=lim) (gd (0<=a/\a<=c.length) (gd (([]++ae a.toNat c++[e]).length+(aq a.toNat c).length<=lim) (some ([]++ae a.toNat c++[e]++aq a.toNat c))))))
def dP(e:List BY)(g:BY)(c:Int->AA (List BY))(a:Int)(h:Bool):AA (List BY):=br h (c (w64 (a+1))) (jn (vD e g) a)
def vE(a:List BY)(e:BY)(g:Int->AA (List BY))(c:Int):AA (List BY):=br (decide (c<a.length)) (bd (at? a c) fun h=>bd (AQw h e) fun j=>jn (dP a e g c) j) (jn (dP a e g c) false)
def ANR(a:List BY)(c:BY):AA (List BY):=BD (vE a c) big 0
def ADZ:=gZ ASY Zk Ca ["1RzP2vitxPy8uteThMdcpQS8L9L0rDr26Vfc40QzA6QXd4Q5zOl8VZFuBAImsx0myt1GbzUyWUts0rh1","PZEAIe8FjELzdDt"] [AL5] (A4 ANR)
def ALh(a:List BY):AA (List BY):=some a
def vF(c:List BY)(g:List BY×Int->AA (List BY))(q:List BY×Int):AA (List BY):=let (e,a):=q;br (decide (a<(an c))) (bd (at? c a) fun y=>bd (at? c a) fun h=>bd (ANR e h) fun j=>g (j,w64 (a+1))) (jn ALh e)
def AFT(a:Aw):AA (List BY):=bd (pB a) fun c=>br (!c) (some []) (bd (AQv a) fun e=>BD (vF e) big ([],0))
def ADa:=gZ Zc Zk DA ["1nNVOk8nZYY9o3NAVolqfnDFXEjhlvBfB51XMHNLZS51WXXS32B8MASm0mErhuXtl2IN6U6MnDnWRPkK"] [mH,AL4,ADZ] (Bc AFT)
def vH(c:List BY×Int->AA (List BY))(e:Int)(a:List BY):AA (List BY):=c (a,w64 (e+1))
def vG(e:List AU)(c:List BY×Int->AA (List BY))(g:List BY)(a:Int)(h:Bool):AA (List BY):=br h (bd (at? e a) fun j=>bd (at? e a) fun q=>bd (ANR g (BY.mk j.C7 q.Id)) fun y=>jn (vH c a) y) (jn (vH c a) g)
def ALi(a:List BY):AA (List BY):=some a
def vI(a:List AU)(h:Int)(g:List BY×Int->AA (List BY))(y:List BY×Int):AA (List BY):=let (e,c):=y;br (decide (c<a.length)) (bd (at? a c) fun j=>br (j.State==2) (bd (at? a c) fun q=>jn (vG a g e c) (q.Ab==h)) (jn (vG a g e c) false)) (jn ALi e)
def AQy(a:List AU)(c:Int):AA (List BY):=BD (vI a c) big ([],0)
def AMA:=gZ ASZ Zk Ca ["PcNvE7TwEgttO7da2uZLp183QjyiHghaOJYo0IaKc68zsKaG4QGGN1VqGzA3RTORFbOepKYNkAmCOx2n","JBq28MtlBLJC4bsrxtI6Ov1AIKImgInqPEOew"] [ADZ] (A4 AQy)
def ALj(_:PUnit):AA Bool:=some true
def vJ(c j:List BY)(h:Int->AA Bool)(a:Int):AA Bool:=br (decide (a<c.length)) (bd (at? c a) fun e=>bd (at? j a) fun g=>br (!(e.At==g.At&&(e.Id==g.Id&&true))) (some false) (h (w64 (a+1)))) (jn ALj ())
def AQz(a c:List BY):AA Bool:=br ((↑a.length:Int) != c.length) (some false) (BD (vJ a c) big 0)
def AMB:=gZ O2 C1 Ca ["4MVjxmKmJI0xpZGNOXqYioHsJPCUj1geAfc5i10zTV3fwxdHeZYkgkTZdsbLZR8f"] [] (A4 AQz)
def uR(c:Int×Int->AA Int)(e a:Int):AA Int:=c (a,w64 (e+1))
def dB(g:List AU)(c:Int×Int->AA Int)(e a:Int)(h:Bool):AA Int:=br h (bd (at? g a) fun j=>jn (uR c a) (w64 (e+j.BE))) (jn (uR c a) e)
def AJW(a:Int):AA Int:=some a
def uS(a:List AU)(h:Int)(g:Int×Int->AA Int)(E:Int×Int):AA Int:=let (e,c):=E;br (decide (c<a.length)) (bd (at? a c) fun j=>br (j.State==2) (bd (at? a c) fun q=>br (q.Ab==h) (bd (at? a c) fun y=>bd (Eh y.BE 1 6) fun B=>jn (dB a g e c) B) (jn (dB a g e c) false)) (jn (dB a g e c) false)) (jn AJW e)
def AQI(a:List AU)(c:Int):AA Int:=BD (uS a c) big (0,0)
def AL0:=gZ ASZ C9 Ca ["aw1fz0F1kADFy9ZIjtF8RHvXUmJtwFMAaPZF3UPxFW2W2pSbuSMHqemrwi2hPCFsqUIn1rrwUq7heB4a","4TmjzUWx8HvNm6pn4pUpCS6WymaUPvWhyuTuM"] [Ho] (A4 AQI)
def uV(a:Int×Int->AA Int)(c e:Int):AA Int:=a (e,w64 (c+1))
def uU(g:List AU)(c:Int×Int->AA Int)(e a:Int)(h:Bool):AA Int:=br h (bd (at? g a) fun j=>jn (uV c a) (w64 (e+j.BE))) (jn (uV c a) e)
def AJX(a:Int):AA Int:=some a
def uW(a:List AU)(h:Int)(g:Int×Int->AA Int)(B:Int×Int):AA Int:=let (e,c):=B;br (decide (c<a.length)) (bd (at? a c) fun j=>br (j.Bu==h) (bd (at? a c) fun q=>bd (Eh q.BE 1 6) fun y=>jn (uU a g e c) y) (jn (uU a g e c) false)) (jn AJX e)
def ANH(a:List AU)(c:Int):AA Int:=BD (uW a c) big (0,0)
def AL1:=gZ ASZ C9 Ca ["Vert10Zu3SjU0u11uKO6kUOIgpwp7FS7McLKWFimbPMqGaCoyPDbnqLtBJABtnIbqkAtRnAQEjXd5EY2","jtObJkzS21KMQ7W"] [Ho] (A4 ANH)
def Tr(a:Bool):AA Bool:=some a
def AWE(g:Aa)(a:Ae)(c:List AU)(e h:Int):AA Bool:=bd (ANO a) fun j=>br j (bd (ANQ g c e h) fun q=>bd (AQx a.Row q) fun y=>br y (bd (AFT a.By) fun B=>bd (AQy c e) fun E=>bd (AQz B E) fun G=>br G (bd (AQI c e) fun H=>br (a.AY.FA==H) (bd (ANH c e) fun I=>jn Tr (a.AY.F8==I)) (jn Tr false)) (jn Tr false)) (jn Tr false)) (jn Tr false)
def ARI:=gZ ASa C1 [.tmp 10] ["cayWkCmOITKzWf5A7lwmupGc24QwhHpBnI7t97rAJYia1FjajCoZnaRPfS33NaG0zQZJ0UrggBAI1sGj","9xsnP1QYQLr2NEBVORTKjp0PS6XS5RMJ4VZPEu6dmkYJq0gTfCFkLNHKLqX1i0"] [AL6,ADY,AL9,ADa,AMA,AMB,AL0,AL1] (AVe AWE)
def uX(a:Int×Int->AA Int)(c e:Int):AA Int:=a (e,w64 (c+1))
def AJY(a:Int):AA Int:=some a
def uY(g:List AU)(h:Int)(e:Int×Int->AA Int)(q:Int×Int):AA Int:=let (c,a):=q;br (decide (a<g.length)) (bd (at? g a) fun j=>br (j.Ab==h) (jn (uX e a) (w64 (c+1))) (jn (uX e a) c)) (jn AJY c)
def ANI(a:List AU)(c:Int):AA Int:=BD (uY a c) big (0,0)
def ADT:=gZ ASZ C9 Ca ["7tobBuh8woCrvBbaQNO3O8YQFnQuoaic0tvd9t3kmPeDFAh5Ne9uBHdUbk"] [] (A4 ANI)
def WH(a:Int->AA Bool)(c:Int)(e:Bool):AA Bool:=br e (some false) (a (w64 (c+1)))
def AJZ(_:PUnit):AA Bool:=some true
def uZ(a:AE)(e:Int->AA Bool)(c:Int):AA Bool:=br (decide (c<a.AH.length)) (bd (at? a.AH c) fun q=>bd (at? a.AQ.AY c) fun y=>br (q.AY.Total != y) (jn (WH e c) true) (bd (at? a.AH c) fun g=>bd (AWE a.AQ g a.AG c a.Now) fun h=>br (!h) (jn (WH e c) true) (bd (ANI a.AG c) fun j=>jn (WH e c) (decide (j>a.AQ.Room))))) (jn AJZ ())
def dC(a:AE)(c:Bool):AA Bool:=br c (some false) (BD (uZ a) big 0)
def OV(a:AE)(e:Bool):AA Bool:=br e (some false) (bd (AWF a) fun g=>br (!g) (jn (dC a) true) (bd (AWG a) fun c=>jn (dC a) (!c)))
def eP(a:AE):AA Bool:=bd (ue a.AQ) fun g=>br (!g) (jn (OV a) true) (bd (Eh a.Now 0 1000000) fun c=>br (!c) (jn (OV a) true) (bd (Eh a.A0 1 1000001) fun e=>br (!e) (jn (OV a) true) (br (decide ((↑a.AG.length:Int)>40)) (jn (OV a) true) (jn (OV a) ((↑a.AH.length:Int) != a.AQ.AY.length)))))
def Xf:=gZ Xi C1 DA ["3NsbM9biXc2o0gX5p5EpI2pIehlqCGov2LwoGP3EBIqqSHKYiu1fiHGUyMizWFz3zJODv7UTllfRHdAr","GTORFi2qxtOgvZ4Dm43QPifZ8quimTf3RfwGBAuHb2D23c2yTY42ojxB7GX75hbXZ7ri1LLN84VYNcid","0MuUyxGSKsZQVw4wac7BSKDaeeKNjam58XVpwv6U4orLxIjCeppSfJ1BQbwYbczZMLN6foeiYlG7ikYl","boLglEZnvxiRx7meNMMbyZR5EpHqgqgWhF"] [bU,Ho,ARL,ARb,ARI,ADT] (Bc eP)
def ua(a:Bool):AA Bool:=some a
def cP(a:Bp):AA Bool:=br (decide ((↑a.Data.length:Int)<=20000)) (bd (Eh a.Safe 0 (↑a.Data.length:Int)) fun c=>jn ua c) (jn ua false)
def Xg:=gZ [.v (.st 9)] C1 DA ["LdBejy988fSPRfDapRIEGDkiGIfc81jBiS6"] [Ho] (Bc cP)
def dE(a:Bool):AA Bool:=some a
def ANJ(a:BZ):AA Bool:=bd (cP a.Log) fun c=>br c (bd (cP a.DW) fun e=>br e (bd (cP a.Odd) fun g=>jn dE g) (jn dE false)) (jn dE false)
def ADU:=gZ ASb C1 DA ["4IHTGuNDZr0YHgJBVLD4P9qq6F8UbC5FO"] [Xg] (Bc ANJ)
def cQ(a:Int):AA Bool:=bd (Eh a 0 9999) fun c=>some c
def ARJ:=gZ mI C1 DA ["AIRSU6mx1pd5gP"] [Ho] (Bc cQ)
def Im(a:Bool):AA Bool:=some a
def Ts(a:B3)(e:Bool):AA Bool:=br e (bd (cQ a.Id) fun g=>br g (jn Im (a.Kind==a.Kind&&(a.Id==a.Id&&(a.Ab==0&&(a.Bu==0&&(a.BE==0&&(a.DJ==0&&true))))))) (jn Im false)) (br (a.Kind==3) (bd (cQ a.Ab) fun h=>br h (bd (cQ a.BE) fun c=>br c (jn Im (a.Kind==a.Kind&&(a.Id==0&&(a.Ab==a.Ab&&(a.Bu==0&&(a.BE==a.BE&&(a.DJ==0&&true))))))) (jn Im false)) (jn Im false)) (br (a.Kind==6) (some (a.Kind==a.Kind&&(a.Id==0&&(a.Ab==0&&(a.Bu==0&&(a.BE==0&&(a.DJ==0&&true))))))) (some false)))
def ub(a:B3):AA Bool:=br (a.Kind==1) (bd (cQ a.Id) fun c=>br c (bd (cQ a.Ab) fun e=>br e (bd (Eh a.Bu (-1) 9999) fun g=>br g (bd (cQ a.BE) fun h=>br h (bd (cQ a.DJ) fun j=>jn Im j) (jn Im false)) (jn Im false)) (jn Im false)) (jn Im false)) (br (a.Kind==2) (jn (Ts a) (a.Kind==2)) (br (a.Kind==4) (jn (Ts a) (a.Kind==4)) (br (a.Kind==5) (jn (Ts a) (a.Kind==5)) (jn (Ts a) (a.Kind==7)))))
def sG:=gZ [.v (.st 0)] C1 DA ["aYrWdhuuSMdVQuSQrq04aHD2hqM8Wx8IpVfwEjQnPdbXp1plNadmohiol3H4zYhPxyGi4HAoIcZYPDHN","Fvr43OaV6BG63FKviIISMv99ZnJYwnGPtOY1q7AMn4CvXueLTQx8ZVUba7hZraZuGJQ9wKPPCfLuvD5u","8sko9C1wBAbOlWb5ebgThj142HFEtRntZ8umB5jJdrP80fUj0n8gO08EN8lb1U5iM6sm9HGW6KYHXK0c","zs2eCi3zwgePAbT0QQajtrYvbFj"] [ARJ,Ho] (Bc ub)
def AJa(_:PUnit):AA Bool:=some true
def ud(c:Ap)(e:Int->AA Bool)(a:Int):AA Bool:=br (decide (a<c.Laid.length)) (bd (at? c.Laid a) fun g=>bd (ub g) fun h=>br (!h) (some false) (e (w64 (a+1)))) (jn AJa ())
def Tt(a:Ap)(c:Bool):AA Bool:=br c (some false) (BD (ud a) big 0)
def uc(a:Ap):AA Bool:=bd (eP a.BO) fun c=>br (!c) (jn (Tt a) true) (bd (ANJ a.BH) fun e=>br (!e) (jn (Tt a) true) (br (decide ((↑a.Laid.length:Int)>8)) (jn (Tt a) true) (bd (Eh a.Seq (↑a.Laid.length:Int) 1000000) fun g=>jn (Tt a) (!g))))
def sH:=gZ Ma C1 DA ["2OQQM873ibnn1EkYfwoNNn7fkIMzRCK3zsQaiihQwWysZ4Wur9sBfrRjGOlWhnNNGfCVnzmvoWESr8vp","NEC9lMhsrVCbqTHcOIFiWWFIcBKC61hgOG"] [Xf,ADU,Ho,sG] (Bc uc)
def WL(a:Bool):AA Bool:=some a
def C5(a c e:Int):AA Bool:=br (decide (a>=c)) (jn WL (decide (a<=e))) (jn WL false)
def Et:=gZ ASW C1 Ui ["CK1hoUbdXtgDHOlPNWuI9KTC"] [] (Gq C5)
def Kc(a:Bool):AA Bool:=some a
def AAf(a:Aa)(_:PUnit):AA Bool:=bd (C5 a.CS 1 5) fun j=>br j (bd (C5 a.Room 1 10) fun q=>br q (bd (C5 a.BE 1 6) fun y=>br y (bd (C5 a.CE 1 12) fun B=>br B (bd (C5 a.Bz 1 8) fun c=>br c (bd (C5 a.CY 1 4) fun e=>br e (bd (C5 a.Cu 1 3) fun g=>br g (bd (C5 a.Rest 0 8) fun h=>jn Kc h) (jn Kc false)) (jn Kc false)) (jn Kc false)) (jn Kc false)) (jn Kc false)) (jn Kc false)) (jn Kc false)
def eV(a:Aa)(e:Int->AA Bool)(c:Int):AA Bool:=br (decide (c<a.AY.length)) (bd (at? a.AY c) fun g=>bd (C5 g 1 60) fun h=>br (!h) (some false) (e (w64 (c+1)))) (jn (AAf a) ())
def WM(a:Aa):AA Bool:=bd (C5 (↑a.AY.length:Int) 1 4) fun c=>br (!c) (some false) (BD (eV a) big 0)
def So:=gZ Su C1 DA ["1b7Tj7BSQwusFDEyrmBxlqq19tVmUfblujOJYkoT1qnYLgiDApNXbPYLTpP2QnE8myRd8lyOnsVbvpJx","0fjdDpgLPqo371zapLnlsWphJHEehezxCvUNIORnZmlKI09lEqRtWXBFqeYg8qkQEqtGug7IPWCeuFoR","qNJg2FwPlISr"] [Et] (Bc WM)
def Mv(a c:Int):AA Bool:=bd (C5 a 0 (w64 (c-1))) fun e=>some e
def Oy:=gZ [.v .i,.v .i] C1 Ca ["II238bf0Zh44mjD"] [Et] (A4 Mv)
def Pc(a:Bool):AA Bool:=some a
def Nn(c:Aa)(a:AU)(e:Int)(g:Bool):AA Bool:=br g (some false) (br (a.State==1) (bd (C5 a.C7 0 (w64 (e+c.Rest))) fun h=>br h (jn Pc true) (br (a.State==2) (bd (C5 a.C7 1 (w64 (e+c.Bz))) fun j=>jn Pc j) (jn Pc false))) (br (a.State==2) (bd (C5 a.C7 1 (w64 (e+c.Bz))) fun q=>jn Pc q) (jn Pc false)))
def MA(c:Aa)(a:AU)(e:Int)(q:Bool):AA Bool:=br q (some false) (bd (C5 a.BE 1 c.BE) fun y=>br (!y) (jn (Nn c a e) true) (bd (Mv a.DJ c.CS) fun B=>br (!B) (jn (Nn c a e) true) (bd (C5 a.Since 0 e) fun g=>br (!g) (jn (Nn c a e) true) (bd (C5 a.A0 1 1000000) fun h=>br (!h) (jn (Nn c a e) true) (bd (Mv a.Dh c.CY) fun j=>jn (Nn c a e) (!j))))))
def eW(c:Aa)(a:AU)(e:Int):AA Bool:=bd (WM c) fun y=>br (!y) (jn (MA c a e) true) (bd (C5 e 0 1000000) fun g=>br (!g) (jn (MA c a e) true) (bd (C5 a.Id 1 999) fun h=>br (!h) (jn (MA c a e) true) (bd (Mv a.Ab (↑c.AY.length:Int)) fun j=>br (!j) (jn (MA c a e) true) (bd (C5 a.Bu (-1) (w64 ((↑c.AY.length:Int)-1))) fun q=>br (!q) (jn (MA c a e) true) (jn (MA c a e) (a.Bu==a.Ab))))))
def ZO:=gZ bW C1 Ui ["1W8v3pjqlln9YLRjIvgbawKNdtjuPa0MgaM4Ous907Qb9zI20RpcOMitWTSY5F1FLpfUVu0yVnY4Qoj4","Rua6PuY4VJ5HxoaENvD0UYr8McZveXriWL97iTEMYZveqgVG5ihGLF8xwosM54GX46HlBLA5keCBOSiw","gnKbzgcuFzhFmXM2mpnROVB6qPBERj2wlSZ87NAkJokXQd2oTCkBf9lXrpgMh9aPq5zKpie5yhd8oRkE","rmJO57wxU7jNDmmuTuRuc7YHBo1aC"] [So,Et,Oy] (Gq eW)
def eX(a:Int×Int->AA Int)(c e:Int):AA Int:=a (e,w64 (c+1))
def AAg(a:Int):AA Int:=some a
def eY(g:List AU)(h:Int)(e:Int×Int->AA Int)(q:Int×Int):AA Int:=let (c,a):=q;br (decide (a<g.length)) (bd (at? g a) fun j=>br (j.Ab==h) (jn (eX e a) (w64 (c+1))) (jn (eX e a) c)) (jn AAg c)
def po(a:List AU)(c:Int):AA Int:=BD (eY a c) big (0,0)
def kz:=gZ ASZ C9 Ca ["avcMt2zdjoBKgWKAwpPaCKlieSAoNj5QSflnVKjS9GByRq1gbJIM7xbJd5EfiHMY9tu"] [] (A4 po)
def No(a:Bool):AA Bool:=some a
def MC(a:BI):AA Bool:=bd (C5 a.Total 1 60) fun c=>br c (bd (C5 a.Dv 0 a.Total) fun e=>br e (bd (C5 a.FA 0 a.Total) fun g=>br g (bd (C5 a.Fm 0 a.Total) fun h=>br h (br (w64 (w64 (a.Dv+a.FA)+a.Fm)==a.Total) (bd (C5 a.F8 0 a.Fm) fun j=>jn No j) (jn No false)) (jn No false)) (jn No false)) (jn No false)) (jn No false)
def Oz:=gZ [.v (.st 3)] C1 DA ["IWa14JKycPVw3rIy6VWV8nLIchTL0ZLgdsq6Ovg6CucyBMTPKm6cHSmGwOn3OUT0QcbNIe2GRo1KdDq6","pAgf623trDCZrAAUxNgCIlpaydfoy"] [Et] (Bc MC)
def AJe(a:Int):AA Bool:=some (a != a)
def AFh:=gZ mI C1 DA ["7NhPAEKWTfsJ"] [] (Bc AJe)
def eZ(a c:Int):AA Int:=bd (AJe a) fun g=>bd (AJe c) fun e=>br g (br e (some 0) (some (-1))) (br e (some 1) (br (decide (a<c)) (some (-1)) (br (decide (a>c)) (some 1) (some 0))))
def vY:=gZ [.v .i,.v .i] C9 Ca ["6qczinl8GYq9Zxt1zPvfUEnBFN9OHEqc6mgEzC4JfO5UOJHclWv9yHSjxMcbzysf5E"] [AFh] (A4 eZ)
def Ub(a c:Au):AA Int:=bd (eZ a.Level c.Level) fun e=>br (e != 0) (some e) (bd (eZ a.A0 c.A0) fun g=>some g)
def I9:=gZ ASe C9 Ca ["ZeRZERTnfTx3ze6GTRiDHunXxlZFhwLmuJ2dK"] [vY] (A4 Ub)
def AAh(a c:Au):AA Bool:=bd (Ub a c) fun e=>some (decide (e<0))
def vZ:=gZ ASe C1 Ca ["2pEEvoFERtQGhQRMVbx"] [I9] (A4 AAh)
def AQL(a:Au)(c:Int):AA Bool:=some (a.Id==c)
def lA:=gZ [.v (.st 4),.p .i] C1 [.tmp 3] ["2AruWGKK0sPfSIMS"] [] (A4 AQL)
def AaJ:YF:=⟨[lA],[.v (.l (.st 4)),.f lA.x [(true,.i)]],[0],.ret [.i],[.tmp 4],dY ["3dBaUFuQVrAJzwwvHsXWIhzCtdPXWETZTCZdo1K1qJIfzNhleQqBJTnSQhSN0hBpL"] [] [.D2 16 (.tmp 11) [.v,.p] [.tmp 15]]⟩
def AAi(_:PUnit):AA Int:=some (-1)
def AAj(e:List Au)(a:Int)(g:Int->AA Int)(c:Int):AA Int:=br (decide (c<e.length)) (bd (at? e c) fun h=>bd (AQL h a) fun j=>br j (some c) (g (w64 (c+1)))) (jn AAi ())
def AQM(c:List Au)(a:Int):AA Int:=BD (AAj c a) big 0
def AFi:GF:=AaJ.gf rfl rfl (fun a=>AQM a.1 a.2.1.1) (fun a=>by kernel_rfl)
def AaK:YF:=⟨[lA],[.v (.l (.st 4)),.v .i],[],.ret [.i],[.tmp 4],dY ["K4Xqea9ZXQqlp"] [] [.NC 6 0 [.tmp 3],.call 7 AFi [0] rfl [.tmp 5,.tmp 6]]⟩
def pq(a:List Au)(c:Int):AA Int:=bd (AQM a c) fun e=>some e
def va:GF:=AaK.EI (A4 pq)
end Lv
set_option maxRecDepth 100000
namespace Lv
open Go (IntKind BinOp UnOp)
open Y (YF qn qf qt qr q1 qd qm qa qo ql qL qb qi qx qp qq qc qz qe qk qK qB qw qu qj Kp wn wf wt w1 sw sq sr wm wM wo wO wl wL wk wK wz wZ wx wX wb wB wi wI wr wR wq wQ we wE wc wY wj wh cv ca cx cn ce bl)
def Pd(a:Int->AA Bool)(c:Int)(e:Bool):AA Bool:=br e (some false) (a (w64 (c+1)))
def SH(a:Int->AA Bool)(c:Int)(e:Au)(j:Bool):AA Bool:=br j (some false) (bd (Mv e.Level 5) fun q=>br (!q) (jn (Pd a c) true) (bd (C5 e.A0 1 1000000) fun y=>br (!y) (jn (Pd a c) true) (bd (C5 e.Id 1 999) fun g=>br (!g) (jn (Pd a c) true) (bd (C5 e.BE 1 6) fun h=>jn (Pd a c) (!h)))))
def AAk(_:PUnit):AA Bool:=some true
def eu(c:List Au)(g:Int->AA Bool)(a:Int):AA Bool:=br (decide (a<c.length)) (bd (at? c a) fun e=>br (decide (a>0)) (bd (at? c (w64 (a-1))) fun q=>bd (AAh q e) fun y=>br (!y) (jn (SH g a e) true) (gd (0<=a/\a<=c.length) (bd (pq (ae a.toNat c) e.Id) fun h=>jn (SH g a e) (decide (h>=0))))) (gd (0<=a/\a<=c.length) (bd (pq (ae a.toNat c) e.Id) fun j=>jn (SH g a e) (decide (j>=0))))) (jn AAk ())
def pt(a:List Au):AA Bool:=br (decide ((↑a.length:Int)>10)) (some false) (BD (eu a) big 0)
def vd:=gZ xQ C1 DA ["EkNTIwPGa6N2EXv3TV7FW8UGWjr7Hr6hBDWOBF2h0Yl4qn5oh57fQrRwvlhZdY7Q92Q61LNtnZribqEH","O8MUPx7S6xNG9W7C8XfvikT7kBH2tLA6MEWX5f5Wn6FEz2nw4rXlTe7ILLUVtCYAiIhqDjfovnIaildR","QwcO4MxINe5Testyf7bAIkeStDqi7B1yY3j3"] [vZ,va,Oy,Et] (Bc pt)
def fA(a:Bool):AA Bool:=some a
def pw(a:BY):AA Bool:=bd (C5 a.At 1 1000008) fun c=>br c (bd (C5 a.Id 1 999) fun e=>jn fA e) (jn fA false)
def lB:=gZ [.v (.st 5)] C1 DA ["2qKpQgu2oXr4OjpTznz5VCHM5H705"] [Et] (Bc pw)
def SI(a c:BY):AA Int:=bd (eZ a.At c.At) fun e=>br (e != 0) (some e) (bd (eZ a.Id c.Id) fun g=>some g)
def Gi:=gZ [.v (.st 5),.v (.st 5)] C9 Ca ["ZeRZERTnfTx3ze6GTRiDHunXxlZFhwLmuJ2dK"] [vY] (A4 SI)
def SJ(g:((List (Int×Int))×Int×Int)->AA Bool)(e:List (Int×Int))(h j:Int)(a:BY)(c:Bool):AA Bool:=br c (some false) (g (Jf e a.Id (w64 (Mh e a.Id+1)),w64 (h+1),w64 (j+1)))
def AAl(e:((List (Int×Int))×Int×Int)->AA Bool)(g:Int)(h:((List (Int×Int))×Int)):AA Bool:=let (a,c):=h;e (a,c,w64 (g+1))
def fD(G:((List (Int×Int))×Int×Int)->AA Bool)(E:Int)(B:List BY)(h:((List (Int×Int))×Int×Int)->AA Bool)(H:((List (Int×Int))×Int×Int)):AA Bool:=let (e,g,c):=H;br (decide (c<(an B))) (bd (at? B c) fun a=>bd (pw a) fun j=>br (!j) (jn (SJ h e g c a) true) (br (a.At.tmod 9 != E) (jn (SJ h e g c a) true) (br (decide (c>0)) (bd (at? B (w64 (c-1))) fun q=>bd (SI q a) fun y=>jn (SJ h e g c a) (decide (y>0))) (jn (SJ h e g c a) false)))) (jn (AAl G E) (e,g))
def fB(a:Bool):AA Bool:=some a
def WN(e:((List (Int×Int))×Int)):AA Bool:=let (c,a):=e;br (decide (a<=10)) (jn fB ((↑(an c):Int)==a)) (jn fB false)
def fC(c:Aw)(h:((List (Int×Int))×Int×Int)->AA Bool)(q:((List (Int×Int))×Int×Int)):AA Bool:=let (e,g,a):=q;br (decide (a<c.Ar.length)) (bd (at? c.Ar a) fun j=>BD (fD h a j) big (e,g,0)) (jn WN (e,g))
def Rg(a:Aw):AA Bool:=br ((↑a.Ar.length:Int) != 9) (some false) (BD (fC a) big ([],0,0))
def VM:=gZ Zc C1 DA ["CRkfAm4l72RpShKfnh5SN9bQCYbdkMg0qdj6YI4QuULURbg4ivysHElPw5UXh0GFxbww3RAkrrmE7nKs","d1u5lC16flWcef33qkZjkCF9uObPIFEUG9xzJ1twePuGy4na6ONbDteuwhlcpDxa3m3AwlIjiRomwaP5","OaBlR9lmFCM8Mc3DRfA6yXtzmndcJi5WXKF1QLeqQLxZZQhSFbdTF7jl8ZHMLqN6SnjJ8Y7fyyFtFmXM","xgce899zilCXBLn8XXYVsaByzwM"] [lB,Gi] (Bc Rg) [.mmk 13,.UR 56 (.tmp 53) (.tmp 55),.TG (.tmp 53) (.tmp 55) (.tmp 57),.US 66 (.tmp 65)]
def WO(a:Bool):AA Bool:=some a
def px(a:Ae):AA Bool:=bd (MC a.AY) fun c=>br c (bd (pt a.Row) fun e=>br e (bd (Rg a.By) fun g=>jn WO g) (jn WO false)) (jn WO false)
def ve:=gZ xR C1 DA ["1qRfUh8D1yp7Gb5GfHSGnVTLoNuFjHw20"] [Oz,vd,VM] (Bc px)
def WQ(a:Aa)(c e:Int)(g:Bool):AA Int:=br g (some (-1)) (gd (a.CE≠0) (some (if true=true then if w64 (c-w64 (e.tdiv a.CE))>0 then w64 (c-w64 (e.tdiv a.CE)) else 0 else if w64 (c-w64 (e.tdiv a.CE))<0 then w64 (c-w64 (e.tdiv a.CE)) else 0)))
def AQN(a:Aa)(c e:Int):AA Int:=bd (WM a) fun g=>br (!g) (jn (WQ a c e) true) (bd (Mv c a.CS) fun h=>br (!h) (jn (WQ a c e) true) (jn (WQ a c e) (decide (e<0))))
def AFj:=gZ [.v (.st 1),.v .i,.v .i] C9 Ui ["qQAzYcFlGoXvGHY8RWSKiRJovt56ngcr7voyEJ4xVOD3Of4ysxOsGTqiY"] [So,Oy] (Gq AQN) [.mm 27 true (.k (.int .i64 0)) (.tmp 26)]
def AJf(c:Aa)(a:AU)(e:Int):AA Int:=bd (eW c a e) fun g=>br (!g) (some (-1)) (bd (AQN c a.DJ (w64 (e-a.Since))) fun h=>some h)
def AFk:=gZ bW C9 Ui ["7PhcQfU1lBAC6FJXC9tQnBPZFPXt9zgoWgBQWT6yxGm"] [ZO,AFj] (Gq AJf)
def fE(c:Aa)(a:AU)(e:Int)(g:Bool):AA (Au×Bool):=br g (some (Au.mk 0 0 0 0,false)) (bd (AJf c a e) fun h=>some (Au.mk h a.A0 a.Id a.BE,true))
def py(c:Aa)(a:AU)(e:Int):AA (Au×Bool):=bd (eW c a e) fun g=>br (!g) (jn (fE c a e) true) (jn (fE c a e) (a.State != 1))
def lC:=gZ bW (.ret [(.st 4),.b]) [.cell 6 (some 4),.tmp 7] ["475jM5DbV3QsSg5mww1AAcrOAGZptL4tDzCdCepHuUEPeSD5ueyZFOh7nlo6NhB5igaXF0unCXgSkVe3","VaBEGTvYcW1"] [ZO,AFk] (Gq py)
def ER{α:Type}(cmp:α->α->AA Int)(c:((List α)×Int)->AA (List α))(e:Int)(a:List α):AA (List α):=c ((a,w64 (e+1)))
def Dj{α:Type}(cmp:α->α->AA Int)(j:((List α)×Int)->AA (List α))(y:Int)(q:((List α)×Int)->AA (List α))(c:List α)(a:Int)(g:Bool):AA (List α):=br g (bd (at? c (w64 (a-1))) fun B=>bd (at? c (w64 (a-1))) fun e=>bd (at? c a) fun E=>bd (at? c a) fun h=>bd (at? c a) fun G=>bd (at? c a) fun H=>bd (at? (aO c a.toNat e) (w64 (a-1))) fun I=>bd (at? (aO c a.toNat e) (w64 (a-1))) fun J=>q (((aO c a.toNat e).set (w64 (a-1)).toNat h,w64 (a-1)))) (jn (ER cmp j y) c)
def Dl{α:Type}(cmp:α->α->AA Int)(y:Int)(h:((List α)×Int)->AA (List α))(q:Int)(j:((List α)×Int)->AA (List α))(E:((List α)×Int)):AA (List α):=match E with |(c,a)=>br (decide (a>y)) (bd (at? c a) fun G=>bd (at? c a) fun B=>bd (at? c (w64 (a-1))) fun H=>bd (at? c (w64 (a-1))) fun e=>bd (cmp B e) fun g=>jn (Dj cmp h q j c a) (decide (g<0))) (jn (Dj cmp h q j c a) false)
def Dk{α:Type}(cmp:α->α->AA Int)(g:Int)(h:Int)(e:((List α)×Int)->AA (List α))(j:((List α)×Int)):AA (List α):=match j with |(c,a)=>br (decide (a<h)) (BD (Dl cmp g e a) big (c,a)) (some c)
def DQ{α:Type}(cmp:α->α->AA Int)(c:List α)(a:Int)(e:Int):AA (List α):=BD (Dk cmp a e) big ((c,w64 (a+1)))
def Ke{α:Type}(cmp:α->α->AA Int)(e:Int)(g:Int)(q:Int)(j:((List α)×Int)->AA (List α))(G:((List α)×Int)):AA (List α):=match G with |(c,a)=>br (decide (a<q)) (bd (at? c (w64 (g+a))) fun H=>bd (at? c (w64 (g+a))) fun h=>bd (at? c (w64 (e+a))) fun I=>bd (at? c (w64 (e+a))) fun E=>bd (at? c (w64 (e+a))) fun J=>bd (at? c (w64 (e+a))) fun L=>bd (at? (aO c (w64 (e+a)).toNat h) (w64 (g+a))) fun y=>bd (at? (aO c (w64 (e+a)).toNat h) (w64 (g+a))) fun B=>j (((aO c (w64 (e+a)).toNat h).set (w64 (g+a)).toNat E,w64 (a+1)))) (some c)
def Ea{α:Type}(cmp:α->α->AA Int)(a:List α)(c:Int)(e:Int)(g:Int):AA (List α):=BD (Ke cmp c e g) big (a,0)
def Mx{α:Type}(cmp:α->α->AA Int)(a:Int)(h:((List α)×Int)):AA (List α):=match h with |(e,c)=>bd (Ea cmp e (w64 (a-c)) a c) fun g=>some g
def My{α:Type}(cmp:α->α->AA Int)(e:Int)(h:((List α)×Int×Int)->AA (List α))(y:((List α)×Int×Int)):AA (List α):=match y with |(g,a,c)=>br (a != c) (br (decide (a>c)) (bd (Ea cmp g (w64 (e-a)) e c) fun j=>h ((j,w64 (a-c),c))) (bd (Ea cmp g (w64 (e-a)) (w64 (w64 (e+c)-a)) a) fun q=>h ((q,a,w64 (c-a))))) (jn (Mx cmp e) (g,a))
def Hn{α:Type}(cmp:α->α->AA Int)(c:List α)(e:Int)(a:Int)(g:Int):AA (List α):=BD (My cmp a) big ((c,w64 (a-e),w64 (g-a)))
def Gs{α:Type}(cmp:α->α->AA Int)(a:List α):AA (List α):=some a
def LH{α:Type}(cmp:α->α->AA Int)(j:Int)(g:((List α)×Int)->AA (List α))(I:((List α)×Int)):AA (List α):=match I with |(c,a)=>br (decide (a<w64 (j-1))) (bd (at? c (w64 (a+1))) fun q=>bd (at? c (w64 (a+1))) fun e=>bd (at? c a) fun y=>bd (at? c a) fun h=>bd (at? c a) fun B=>bd (at? c a) fun E=>bd (at? (aO c a.toNat e) (w64 (a+1))) fun G=>bd (at? (aO c a.toNat e) (w64 (a+1))) fun H=>g (((aO c a.toNat e).set (w64 (a+1)).toNat h,w64 (a+1)))) (jn (Gs cmp) c)
def LB{α:Type}(cmp:α->α->AA Int)(a:List α)(c:Int)(e:Int):AA (List α):=BD (LH cmp e) big (a,c)
def LG{α:Type}(cmp:α->α->AA Int)(e:List α)(g:Int)(h:(Int×Int)->AA (List α))(B:(Int×Int)):AA (List α):=match B with |(a,c)=>br (decide (a<c)) (bd (at? e (w64 (D4 (Go.IntKind.u64.wrap (w64 (a+c))) 1))) fun E=>bd (at? e (w64 (D4 (Go.IntKind.u64.wrap (w64 (a+c))) 1))) fun j=>bd (at? e g) fun G=>bd (at? e g) fun q=>bd (cmp j q) fun y=>br (decide (y<0)) (h ((w64 (w64 (D4 (Go.IntKind.u64.wrap (w64 (a+c))) 1)+1),c))) (h ((a,w64 (D4 (Go.IntKind.u64.wrap (w64 (a+c))) 1))))) (jn (LB cmp e g) a)
def LJ{α:Type}(cmp:α->α->AA Int)(h:Int)(g:((List α)×Int)->AA (List α))(I:((List α)×Int)):AA (List α):=match I with |(c,a)=>br (decide (a>h)) (bd (at? c (w64 (a-1))) fun q=>bd (at? c (w64 (a-1))) fun e=>bd (at? c a) fun y=>bd (at? c a) fun j=>bd (at? c a) fun B=>bd (at? c a) fun E=>bd (at? (aO c a.toNat e) (w64 (a-1))) fun G=>bd (at? (aO c a.toNat e) (w64 (a-1))) fun H=>g (((aO c a.toNat e).set (w64 (a-1)).toNat j,w64 (a-1)))) (jn (Gs cmp) c)
def LD{α:Type}(cmp:α->α->AA Int)(c:List α)(e:Int)(a:Int):AA (List α):=BD (LJ cmp a) big (c,e)
def LI{α:Type}(cmp:α->α->AA Int)(g:List α)(h:Int)(e:(Int×Int)->AA (List α))(G:(Int×Int)):AA (List α):=match G with |(a,c)=>br (decide (a<c)) (bd (at? g h) fun B=>bd (at? g h) fun j=>bd (at? g (w64 (D4 (Go.IntKind.u64.wrap (w64 (a+c))) 1))) fun E=>bd (at? g (w64 (D4 (Go.IntKind.u64.wrap (w64 (a+c))) 1))) fun q=>bd (cmp j q) fun y=>br (!decide (y<0)) (e ((w64 (w64 (D4 (Go.IntKind.u64.wrap (w64 (a+c))) 1)+1),c))) (e ((a,w64 (D4 (Go.IntKind.u64.wrap (w64 (a+c))) 1))))) (jn (LD cmp g h) a)
def IA{α:Type}(cmp:α->α->AA Int)(rE:List α->Int->Int->Int->AA (List α))(j:Int)(q:Int)(c:Int)(e:Int)(a:List α)(g:Bool):AA (List α):=br g (bd (rE a (w64 (D4 (Go.IntKind.u64.wrap (w64 (j+c))) 1)) (w64 (w64 (w64 (D4 (Go.IntKind.u64.wrap (w64 (j+c))) 1)+q)-e)) c) fun h=>some h) (some a)
def GH{α:Type}(cmp:α->α->AA Int)(rE:List α->Int->Int->Int->AA (List α))(e:Int)(h:Int)(c:Int)(a:Int)(g:List α):AA (List α):=br (decide (w64 (D4 (Go.IntKind.u64.wrap (w64 (e+c))) 1)<w64 (w64 (w64 (D4 (Go.IntKind.u64.wrap (w64 (e+c))) 1)+h)-a))) (jn (IA cmp rE e h c a g) (decide (w64 (w64 (w64 (D4 (Go.IntKind.u64.wrap (w64 (e+c))) 1)+h)-a)<c))) (jn (IA cmp rE e h c a g) false)
def H9{α:Type}(cmp:α->α->AA Int)(rE:List α->Int->Int->Int->AA (List α))(e:Int)(q:Int)(g:Int)(a:Int)(c:List α)(h:Bool):AA (List α):=br h (bd (rE c e a (w64 (D4 (Go.IntKind.u64.wrap (w64 (e+g))) 1))) fun j=>jn (GH cmp rE e q g a) j) (jn (GH cmp rE e q g a) c)
def GG{α:Type}(cmp:α->α->AA Int)(rE:List α->Int->Int->Int->AA (List α))(e:Int)(h:Int)(g:Int)(a:Int)(c:List α):AA (List α):=br (decide (e<a)) (jn (H9 cmp rE e h g a c) (decide (a<w64 (D4 (Go.IntKind.u64.wrap (w64 (e+g))) 1)))) (jn (H9 cmp rE e h g a c) false)
def H8{α:Type}(cmp:α->α->AA Int)(rE:List α->Int->Int->Int->AA (List α))(q:List α)(e:Int)(c:Int)(g:Int)(a:Int)(h:Bool):AA (List α):=br h (bd (Hn cmp q a c (w64 (w64 (w64 (D4 (Go.IntKind.u64.wrap (w64 (e+g))) 1)+c)-a))) fun j=>jn (GG cmp rE e c g a) j) (jn (GG cmp rE e c g a) q)
def H7{α:Type}(cmp:α->α->AA Int)(rE:List α->Int->Int->Int->AA (List α))(h:List α)(e:Int)(c:Int)(g:Int)(a:Int):AA (List α):=br (decide (a<c)) (jn (H8 cmp rE h e c g a) (decide (c<w64 (w64 (w64 (D4 (Go.IntKind.u64.wrap (w64 (e+g))) 1)+c)-a)))) (jn (H8 cmp rE h e c g a) false)
def Kf{α:Type}(cmp:α->α->AA Int)(rE:List α->Int->Int->Int->AA (List α))(g:List α)(h:Int)(j:Int)(q:Int)(e:(Int×Int)->AA (List α))(I:(Int×Int)):AA (List α):=match I with |(a,c)=>br (decide (a<c)) (bd (at? g (w64 (w64 (w64 (w64 (D4 (Go.IntKind.u64.wrap (w64 (h+q))) 1)+j)-1)-w64 (D4 (Go.IntKind.u64.wrap (w64 (a+c))) 1)))) fun G=>bd (at? g (w64 (w64 (w64 (w64 (D4 (Go.IntKind.u64.wrap (w64 (h+q))) 1)+j)-1)-w64 (D4 (Go.IntKind.u64.wrap (w64 (a+c))) 1)))) fun y=>bd (at? g (w64 (D4 (Go.IntKind.u64.wrap (w64 (a+c))) 1))) fun H=>bd (at? g (w64 (D4 (Go.IntKind.u64.wrap (w64 (a+c))) 1))) fun B=>bd (cmp y B) fun E=>br (!decide (E<0)) (e ((w64 (w64 (D4 (Go.IntKind.u64.wrap (w64 (a+c))) 1)+1),c))) (e ((a,w64 (D4 (Go.IntKind.u64.wrap (w64 (a+c))) 1))))) (jn (H7 cmp rE g h j q) a)
def GD{α:Type}(cmp:α->α->AA Int)(rE:List α->Int->Int->Int->AA (List α))(e:List α)(g:Int)(h:Int)(j:Int)(q:(Int×Int)):AA (List α):=match q with |(a,c)=>BD (Kf cmp rE e g h j) big (a,c)
def LF{α:Type}(cmp:α->α->AA Int)(rE:List α->Int->Int->Int->AA (List α))(g:List α)(a:Int)(e:Int)(c:Int)(_:PUnit):AA (List α):=br (decide (e>w64 (D4 (Go.IntKind.u64.wrap (w64 (a+c))) 1))) (jn (GD cmp rE g a e c) ((w64 (w64 (w64 (D4 (Go.IntKind.u64.wrap (w64 (a+c))) 1)+e)-c),w64 (D4 (Go.IntKind.u64.wrap (w64 (a+c))) 1)))) (jn (GD cmp rE g a e c) (a,e))
def LC{α:Type}(cmp:α->α->AA Int)(rE:List α->Int->Int->Int->AA (List α))(c:List α)(e:Int)(a:Int)(g:Int)(_:PUnit):AA (List α):=br (w64 (g-a)==1) (BD (LI cmp c a) big (e,a)) (jn (LF cmp rE c e a g) ())
def Fi{α:Type}(cmp:α->α->AA Int)(rE:List α->Int->Int->Int->AA (List α))(e:List α)(a:Int)(c:Int)(g:Int):AA (List α):=br (w64 (c-a)==1) (BD (LG cmp e a) big (c,g)) (jn (LC cmp rE e a c g) ())
def Hi{α:Type}(cmp:α->α->AA Int)(mrg:List α->Int->Int->Int->AA (List α))(e:((List α)×Int)->AA (List α))(a:Int)(c:List α):AA (List α):=e ((c,w64 (a*2)))
def Mz{α:Type}(cmp:α->α->AA Int)(mrg:List α->Int->Int->Int->AA (List α))(j:Int)(h:((List α)×Int)->AA (List α))(a:Int)(q:((List α)×Int)):AA (List α):=match q with |(e,c)=>br (decide (w64 (c+a)<j)) (bd (mrg e c (w64 (c+a)) j) fun g=>jn (Hi cmp mrg h a) g) (jn (Hi cmp mrg h a) e)
def M0{α:Type}(cmp:α->α->AA Int)(mrg:List α->Int->Int->Int->AA (List α))(q:Int)(y:((List α)×Int)->AA (List α))(c:Int)(h:((List α)×Int×Int)->AA (List α))(B:((List α)×Int×Int)):AA (List α):=match B with |(g,e,a)=>br (decide (a<=q)) (bd (mrg g e (w64 (e+c)) a) fun j=>h ((j,a,w64 (a+w64 (2*c))))) (jn (Mz cmp mrg q y c) (g,e))
def F4{α:Type}(cmp:α->α->AA Int)(mrg:List α->Int->Int->Int->AA (List α))(e:Int)(g:((List α)×Int)->AA (List α))(h:((List α)×Int)):AA (List α):=match h with |(c,a)=>br (decide (a<e)) (BD (M0 cmp mrg e g a) big ((c,0,w64 (2*a)))) (some c)
def Hh{α:Type}(cmp:α->α->AA Int)(mrg:List α->Int->Int->Int->AA (List α))(a:Int)(h:((List α)×Int)):AA (List α):=match h with |(c,e)=>bd (DQ cmp c e a) fun g=>BD (F4 cmp mrg a) big (g,20)
def F3{α:Type}(cmp:α->α->AA Int)(mrg:List α->Int->Int->Int->AA (List α))(c:Int)(h:((List α)×Int×Int)->AA (List α))(q:((List α)×Int×Int)):AA (List α):=match q with |(e,g,a)=>br (decide (a<=c)) (bd (DQ cmp e g a) fun j=>h ((j,a,w64 (a+20)))) (jn (Hh cmp mrg c) (e,g))
def GU{α:Type}(cmp:α->α->AA Int)(mrg:List α->Int->Int->Int->AA (List α))(a:List α)(c:Int):AA (List α):=BD (F3 cmp mrg c) big (a,0,20)
def AaL:YF:=⟨[I9],[.m (.l (.st 4)),.v .i,.v .i,.f I9.x []],[0],.ret [],[],dY ["1lmQmlKkGR0XTV2Ma2xTa4dXWYz5UGtktSKkhktVYypoU3TLsWPf3c4lhF6WbmbL4Zw7HGqW2mb1we4g","xXdwUPYc0Hn518u5cNRhfESiJHVluOXwCtIydSSofapfELxK3PUPtk12JXu31zkWsbR"] [] [.D2 32 (.tmp 22) [.v,.v] [.tmp 26,.tmp 31]]⟩
def AJg(a:List Au)(c e:Int):AA (List Au):=DQ Ub a c e
def vf:GF:=AaL.EI (Gq AJg)
def AaM:YF:=⟨[I9],[.m (.l (.st 4)),.v .i,.v .i,.v .i,.f I9.x []],[0],.ret [],[],dY ["2LipbWl4baIxiuUpgN7sYZYpTSDzObc3GKPhO3U6rAx62ShekvosvBA0IpZJuKkQBazPUNfQdaKLF9r"] []⟩
def AZV(a:List Au)(c e g:Int):AA (List Au):=Ea Ub a c e g
def lD:GF:=AaM.EI (Vv AZV)
def AaN:YF:=⟨[I9],[.m (.l (.st 4)),.v .i,.v .i,.v .i,.f I9.x []],[0],.ret [],[],dY ["2JsZCVPqTvGTA9BhZDipzYqj14IVZhKOxDHVCEVKJROfAK1lSVmctwVN1mQderEl8wgboIq5NtroIQQQ","qJVp0H7jHbsi5BWWNp6GbcUBDMh9gKCwWu"] [] [.call 31 lD [0] rfl [.tmp 24,.tmp 27,.tmp 28,.tmp 29,.tmp 30],.call 46 lD [0] rfl [.tmp 35,.tmp 38,.tmp 43,.tmp 44,.tmp 45],.call 57 lD [0] rfl [.tmp 50,.tmp 53,.tmp 54,.tmp 55,.tmp 56]]⟩
def AZW(a:List Au)(c e g:Int):AA (List Au):=Hn Ub a c e g
def VN:GF:=AaN.EI (Vv AZW)
abbrev oT:=zq [.m (.l (.st 4)),.v .i,.v .i,.v .i,.f I9.x []] (.ret [])
def ANK(rE:oT)(a:List Au)(c e g:Int):AA (List Au):=rE.d (a,c,e,g,(),())
def AaO(rE:oT):YF:=⟨[I9],[.m (.l (.st 4)),.v .i,.v .i,.v .i,.f I9.x []],[0],.ret [],[],dY ["EOfjLjZzaDHpQjXH0HFO3cNfdXUJp8lV1j3y9MatcP9vjWwPnPcQi165wlMPFAiuVnWq8i5nNtQo5BCV","sjuyx7XEef7JzdMz1PfdVzoX5sAosJGc4Uq0fldgnQ4j40swTxquY4oM7CVhLfumD5Hddlz7EEY7Ts9A","MRb3wEhfW50dORyUchVuSI55Wxa71FrLnWw99zIKUWSuDCFiRPpmc5ZVQGH6fuAQJuZ9itL9Q23aqAu8","aNFyJIbLv5UzfiQwmzVwggw4ZwapbPw7j61B7mTeEJTaWGEzQSbbQYlpzjQSDncBOtLtZOsoyakN3KQP","Dzo7PujX8UZKnGAYiOuwcSuLJFmwAv3BcxNyW2KmYzeRKV1W9HI7qmuwzsXfdGqK2FymxJ1NtXqpz1HU","DvK9sJl1ABPGFoGktCOUCQquJ5Ri3kq0jn4N1yPYYssLs5PVm3x1FGQX0GZfOibq38OFLkQ1hl9mqVnf","RHkld0lWjbwXnW1PR2BdRMTL1bmbhAvS0bXkzLl6mUUSsXysEQGIbA0XRNzrtIKR2TXtJG78BrHUBXb1","bxQNyi3A0zL5cjxLKT92TuIM3X7eSRVCNeOlkouR5Ssfff10DfWsp2i51wNB5CvGtukFDJlI9SymYu11","sYeTgjVf5ovKbQERZV6QhPZIPuiTJ2cnMxA4"] [] [.D2 49 (.tmp 40) [.v,.v] [.tmp 44,.tmp 48],.D2 101 (.tmp 92) [.v,.v] [.tmp 96,.tmp 100],.D2 169 (.tmp 158) [.v,.v] [.tmp 164,.tmp 168],.call 191 VN [0] rfl [.tmp 186,.tmp 187,.tmp 188,.tmp 189,.tmp 190],.call 205 rE.gf [0] rfl [.tmp 200,.tmp 201,.tmp 202,.tmp 203,.tmp 204],.call 219 rE.gf [0] rfl [.tmp 214,.tmp 215,.tmp 216,.tmp 217,.tmp 218]]⟩
def AYD(rE:oT)(a:List Au)(c e g:Int):AA (List Au):=Fi Ub (ANK rE) a c e g
def AFa(rE:oT):GF:=(AaO rE).gf rfl rfl (fun a=>AYD rE a.1 a.2.1 a.2.2.1 a.2.2.2.1) (fun a=>by kernel_rfl)
def Ro:Nat->oT|0=>.nil _ _|k+1=>.of (AFa (Ro k))
def AQO(a:List Au)(c e g:Int):AA (List Au):=(Ro 7).d (a,c,e,g,(),())
def ZP:GF:=(Ro 7).gf
def AaP:YF:=⟨[I9],[.m (.l (.st 4)),.v .i,.f I9.x []],[0],.ret [],[],dY ["whA28favrwKTqLXMnPg8U6VmFr51b9RfYqjLw8hHGZwsQx5lh0HBSsbEP3ExkNZFiBGqBGQp53qxFEQM","mJzY6QhmMxVORZMJjcx4GNr1VuuL0pXSMT6BiOhKO2cnuy0KiJxxtI6WVRHTyZYBALuGkP8xN9z716jZ","nsXAs0BeUi8Pw02so"] [] [.call 18 vf [0] rfl [.tmp 14,.tmp 15,.tmp 16,.tmp 17],.call 27 vf [0] rfl [.tmp 23,.tmp 24,.tmp 25,.tmp 26],.call 43 ZP [0] rfl [.tmp 36,.tmp 37,.tmp 40,.tmp 41,.tmp 42],.call 60 ZP [0] rfl [.tmp 55,.tmp 56,.tmp 57,.tmp 58,.tmp 59]]⟩
def AJh(a:List Au)(c:Int):AA (List Au):=GU Ub AQO a c
def AFl:GF:=AaP.EI (A4 AJh)
def AaC:YF:=⟨[I9],[.m (.l (.st 4)),.f I9.x []],[0],.ret [],[],dY ["1DBv2kgLqUMr"] [] [.call 8 AFl [0] rfl [.tmp 4,.tmp 6,.tmp 7]]⟩
def pn(a:List Au):AA (List Au):=bd (AJh a (↑a.length:Int)) fun c=>some c
def AFc:GF:=AaC.EI (Bc pn)
def AaD:YF:=⟨[I9],[.v (.st 1),.v (.l (.st 2)),.v .i,.v .i],[],.ret [(.l (.st 4))],[.tmp 8],dY ["Fl7XzNLO01b37OjGrgEFXb9IJhalC63WtT7CuQFMg7WpyIcG838aSlILznAvIkm89HEHyazhNl5WCQ7k","nLH3GZOSOLSCX8a2nnOOeXiShxc73hP1SnU5Dz4LNjngeLZOAYgW1xBNxJb6F68tN"] [lC] [.call 40 AFc [0] rfl [.tmp 39,.fn 0]]⟩
def WJ(a:List Au×Int->AA (List Au))(c:Int)(e:List Au):AA (List Au):=a (e,w64 (c+1))
def WI(c:List Au×Int->AA (List Au))(a:List Au)(e:Int)(g:Au×Bool)(h:Bool):AA (List Au):=br h (gd (an a+[g.fst].length<=lim) (jn (WJ c e) (a++[g.fst]))) (jn (WJ c e) a)
def SF(a:List Au):AA (List Au):=bd (pn a) fun c=>some c
def SG(q:Aa)(h:List AU)(y B:Int)(g:List Au×Int->AA (List Au))(E:List Au×Int):AA (List Au):=let (c,a):=E;br (decide (a<h.length)) (bd (at? h a) fun j=>bd (py q j B) fun e=>br e.snd (jn (WI g c a e) (j.Ab==y)) (jn (WI g c a e) false)) (jn SF c)
def aw(a:Aa)(c:List AU)(e g:Int):AA (List Au):=BD (SG a c e g) big ([],0)
def ku:GF:=AaD.EI (Vv aw)
def AAa(_:PUnit):AA Bool:=some true
def eQ(g j:List Au)(h:Int->AA Bool)(a:Int):AA Bool:=br (decide (a<g.length)) (bd (at? g a) fun c=>bd (at? j a) fun e=>br (!(c.Level==e.Level&&(c.A0==e.A0&&(c.Id==e.Id&&(c.BE==e.BE&&true))))) (some false) (h (w64 (a+1)))) (jn AAa ())
def AAZ(a c:List Au):AA Bool:=br ((↑a.length:Int) != c.length) (some false) (BD (eQ a c) big 0)
def vX:=gZ ASX C1 Ca ["NVNkPr7I1ivZ3jibn31JCdvrFArxWIXhGPZPOmxb6WtzcQmPk5zSSWO1VT63qPLlC9SfXVHJDS"] [] (A4 AAZ)
def eT(g:Int×Int):AA Int:=let (a,c):=g;bd (α:=UInt8) (at? [0,1,2,2,3,3,3,3,4,4,4,4,4,4,4,4,5,5,5,5,5,5,5,5,5,5,5,5,5,5,5,5,6,6,6,6,6,6,6,6,6,6,6,6,6,6,6,6,6,6,6,6,6,6,6,6,6,6,6,6,6,6,6,6,7,7,7,7,7,7,7,7,7,7,7,7,7,7,7,7,7,7,7,7,7,7,7,7,7,7,7,7,7,7,7,7,7,7,7,7,7,7,7,7,7,7,7,7,7,7,7,7,7,7,7,7,7,7,7,7,7,7,7,7,7,7,7,7,8,8,8,8,8,8,8,8,8,8,8,8,8,8,8,8,8,8,8,8,8,8,8,8,8,8,8,8,8,8,8,8,8,8,8,8,8,8,8,8,8,8,8,8,8,8,8,8,8,8,8,8,8,8,8,8,8,8,8,8,8,8,8,8,8,8,8,8,8,8,8,8,8,8,8,8,8,8,8,8,8,8,8,8,8,8,8,8,8,8,8,8,8,8,8,8,8,8,8,8,8,8,8,8,8,8,8,8,8,8,8,8,8,8,8,8,8,8,8,8,8,8,8,8,8,8,8,8] (↑(toB a).toNat:Int)) fun e=>some (w64 (c+w64 (↑e.toNat:Int)))
def eS(e:Int×Int):AA Int:=let (a,c):=e;br (decide (a>=256)) (jn eT (D4 a 8,w64 (c+8))) (jn eT (a,c))
def eR(e:Int×Int):AA Int:=let (a,c):=e;br (decide (a>=65536)) (jn eS (D4 a 16,w64 (c+16))) (jn eS (a,c))
def AQJ(a:Int):AA Int:=br (decide (a>=4294967296)) (jn eR (D4 a 32,32)) (jn eR (a,0))
def AFd:=gZ [.v (.ki .u64)] C9 DA ["CsCCqi8s9JhWtl3L2hOhOdnytbz7lRFQX9sQpZ9yiZz7FKzJRIDCM52JQHtKZwYeU1Cds2VOi1j7nVQL","lThzB8qRK6EkKYmgLT0zOPm8DX"] [] (Bc AQJ) [.ix 22 (.k (.str [0,1,2,2,3,3,3,3,4,4,4,4,4,4,4,4,5,5,5,5,5,5,5,5,5,5,5,5,5,5,5,5,6,6,6,6,6,6,6,6,6,6,6,6,6,6,6,6,6,6,6,6,6,6,6,6,6,6,6,6,6,6,6,6,7,7,7,7,7,7,7,7,7,7,7,7,7,7,7,7,7,7,7,7,7,7,7,7,7,7,7,7,7,7,7,7,7,7,7,7,7,7,7,7,7,7,7,7,7,7,7,7,7,7,7,7,7,7,7,7,7,7,7,7,7,7,7,7,8,8,8,8,8,8,8,8,8,8,8,8,8,8,8,8,8,8,8,8,8,8,8,8,8,8,8,8,8,8,8,8,8,8,8,8,8,8,8,8,8,8,8,8,8,8,8,8,8,8,8,8,8,8,8,8,8,8,8,8,8,8,8,8,8,8,8,8,8,8,8,8,8,8,8,8,8,8,8,8,8,8,8,8,8,8,8,8,8,8,8,8,8,8,8,8,8,8,8,8,8,8,8,8,8,8,8,8,8,8,8,8,8,8,8,8,8,8,8,8,8,8,8,8,8,8,8,8])) (.tmp 21)]
def AJb(a:Int):AA Int:=bd (AQJ a) fun c=>some c
def AFe:=gZ [.v (.ki .u64)] C9 DA ["65iEKHWpZ4xiHzV1fa"] [AFd] (Bc AJb)
def AaE:YF:=⟨[Gi],[.m (.l (.st 5)),.v .i,.v .i,.f Gi.x []],[0],.ret [],[],dY ["27AhMX0ntF8KanVx8QgEDjb8m4PwJ0h1upb6qM7Hq2hXPcmxjO0NjdMhcviV94rziBZXHOrNJvbMI04h","b8fOKiuQc4hK8qycZD41FgOEHI8OyPhA1OVjUyWakJlFrXQh6GBZBY1WL70Nwfoqf"] [] [.D2 32 (.tmp 22) [.v,.v] [.tmp 26,.tmp 31]]⟩
def AAb(a:List BY)(c e:Int):AA (List BY):=DQ SI a c e
def kv:GF:=AaE.EI (Gq AAb)
def AaF:YF:=⟨[Gi],[.m (.l (.st 5)),.v .i,.v .i,.v .i,.f Gi.x []],[0],.ret [],[],dY ["2kJaYQyYAtxnXcamS1aRNsdwDklXlcelsbh0WH426B8MfzDHSoIeGN3qZjIAPhouPA2QrjU0xbC4RWOi","cd1z27R3znKSBS87RakNaaVWqxi1em4HoZRD0vgPtibefKQeQmHk2I5jK6jBjHjm40R4fYWxAB4fTdB9","3vzNtShJrYj3Cd8Pa2VKOscKoheIwHUlh8JtIfQ02tLzcFrfTuzfgm0eRQeDm1ZLcMUwrMsV9ri7gKUG","XY9X7qYbQVRdSmZZC7kLRTsap1xDx94hIxOW8r0kuw4Rnlx4xrXMS4Yvf1c8msOB4MC8VUQ8CwkTFWya","JXTDGdKSuj04GviZoYxfKHjMT2H7zRZyC8nbwMy7F8mAsizTMsM7wPhFpeETZcjzmR92bsQUU24n7JQQ","vqapjo7vJPLwdRwRCYaSxwk"] [] [.call 30 kv [0] rfl [.tmp 26,.tmp 27,.tmp 28,.tmp 29],.bad (some 37),.bad (some 44),.bad (some 52),.bad (some 61),.bad (some 80),.bad (some 94),.bad (some 103),.bad (some 111),.bad (some 134),.bad (some 146)]⟩
def AAc(e:List BY)(a c g:Int)(j:PUnit->AA (List BY))(_:PUnit):AA (List BY):=br (decide (w64 (c-a)<=12)) (bd (AAb e a c) fun h=>some h) (br (g==0) none none)
def AQK(a:List BY)(c e g:Int):AA (List BY):=BD (AAc a c e g) big ()
def AFf:GF:=AaF.EI (Vv AQK)
def AaG:YF:=⟨[Gi],[.m (.l (.st 5)),.f Gi.x []],[0],.ret [],[],dY ["3rTFCKnUds5FOXncC6xG5we"] [AFe] [.call 13 AFf [0] rfl [.tmp 7,.k (.int .i64 0),.tmp 8,.tmp 11,.tmp 12]]⟩
def AJc(a:List BY):AA (List BY):=bd (AJb (Go.IntKind.u64.wrap (↑a.length:Int))) fun c=>bd (AQK a 0 (↑a.length:Int) c) fun e=>some e
def AFg:GF:=AaG.EI (Bc AJc)
def AaH:YF:=⟨[Gi],[.v (.st 6)],[],.ret [(.l (.st 5))],[.tmp 2],dY ["1bJnU1fN9psGEwHfyadRPzMnazzub22VLJ7w4egGm57nxYLxG6wNwEbiCSDUlTMCokW0VHEhkzEHT3JF","Qw"] [VM] [.call 21 AFg [0] rfl [.tmp 20,.fn 0]]⟩
def AAd(a:List BY):AA (List BY):=bd (AJc a) fun c=>some c
def AAe(e:Aw)(h:List BY×Int->AA (List BY))(j:List BY×Int):AA (List BY):=let (a,c):=j;br (decide (c<e.Ar.length)) (bd (at? e.Ar c) fun g=>gd (an a+an g<=lim) (h (a++g,w64 (c+1)))) (jn AAd a)
def eU(a:Aw):AA (List BY):=bd (Rg a) fun c=>br (!c) (some []) (BD (AAe a) big ([],0))
def kx:GF:=AaH.EI (Bc eU)
def AaI:YF:=⟨[Gi],[.m (.l (.st 5)),.v .i,.v .i,.v .i,.f Gi.x []],[0],.ret [],[],dY ["sPLVuZYXxtsokCLiXPmZYF4bTqY1y7us3tjoWw3E1zDdBTvmFI07QTI7NEAFZGIb9tbwpN9kZZfY7"] []⟩
def AZU(a:List BY)(c e g:Int):AA (List BY):=Ea SI a c e g
def ky:GF:=AaI.EI (Vv AZU)
def AaT:YF:=⟨[Gi],[.m (.l (.st 5)),.v .i,.v .i,.v .i,.f Gi.x []],[0],.ret [],[],dY ["133LakJGBrzuLi2MN1HbFwiYQy16e55KpT8PVrqkz5xEfTKPJFVqUmlsG0e5x09CJww0Og8OqTcwcmFt","WO9iyRoTc6ir38gmnN2YHxXoSVyRxejBYw"] [] [.call 31 ky [0] rfl [.tmp 24,.tmp 27,.tmp 28,.tmp 29,.tmp 30],.call 46 ky [0] rfl [.tmp 35,.tmp 38,.tmp 43,.tmp 44,.tmp 45],.call 57 ky [0] rfl [.tmp 50,.tmp 53,.tmp 54,.tmp 55,.tmp 56]]⟩
def AZX(a:List BY)(c e g:Int):AA (List BY):=Hn SI a c e g
def VP:GF:=AaT.EI (Vv AZX)
abbrev oU:=zq [.m (.l (.st 5)),.v .i,.v .i,.v .i,.f Gi.x []] (.ret [])
def ANL(rE:oU)(a:List BY)(c e g:Int):AA (List BY):=rE.d (a,c,e,g,(),())
def AaU(rE:oU):YF:=⟨[Gi],[.m (.l (.st 5)),.v .i,.v .i,.v .i,.f Gi.x []],[0],.ret [],[],dY ["2LUMNhJ9a5tIOgK6s3mhA2BOz1ulgv0qaw0RlXDt1EI76lqrHivwT3qtjJIrLXE8MIF98z2fFbdrFf9S","dcSXD0FiM12RdbfxOviFcYDKlsxpOQLnmaYebC4yPLSPQdn2UrXRkZ2NZxRn5k0i6SgPaQzj3lhGPnX6","b7w5HTnHBOZso3z3QoTBtI3dgJ3dKtKqZ85NVBxCRshuAVTc6SqWwlxitxWU2h8o3NyWPmVD6HYTzvnH","839NYPg1zywVCzx2ZE5uDZ3S1AfuSCItWkTdPyP0DakioS4GsTcFh1JWaBPve3FX5rBlXJdQ0fNRI1sl","foAgofWuHaMWDt5p6XTv8W9UdUOGPfyRVn5xRImVYhYUaXHWtbB7pkdDUE6A4KtW2haRN0N8ixuNZ5th","MLgTwdEnITzf3qil6W5HreALoFzKGCvv22BoItpL5BRqrUxJBDxzxv0VyHoVZ2HLYbvJTx40ZsnXLno5","T2wmFaGgB10TFWexYeNhAz7zNZ8FKV6pabrYcH8KFlxqyKgDppRaMy8HMd8U8VdrrY3DLeU6Jzi9QGEA","ReZ9QAO8XVJBc7q9CylyHqNW45bNCslXc1BQmcI5zvySOnFC8FHWl4A7OKy2UEnk9N5zMyIXCehobVb2","mmNnQYGFKkHMlJZVtjty9G5WWLA1Zmse"] [] [.D2 49 (.tmp 40) [.v,.v] [.tmp 44,.tmp 48],.D2 101 (.tmp 92) [.v,.v] [.tmp 96,.tmp 100],.D2 169 (.tmp 158) [.v,.v] [.tmp 164,.tmp 168],.call 191 VP [0] rfl [.tmp 186,.tmp 187,.tmp 188,.tmp 189,.tmp 190],.call 205 rE.gf [0] rfl [.tmp 200,.tmp 201,.tmp 202,.tmp 203,.tmp 204],.call 219 rE.gf [0] rfl [.tmp 214,.tmp 215,.tmp 216,.tmp 217,.tmp 218]]⟩
def AYE(rE:oU)(a:List BY)(c e g:Int):AA (List BY):=Fi SI (ANL rE) a c e g
def AFb(rE:oU):GF:=(AaU rE).gf rfl rfl (fun a=>AYE rE a.1 a.2.1 a.2.2.1 a.2.2.2.1) (fun a=>by kernel_rfl)
def Rp:Nat->oU|0=>.nil _ _|k+1=>.of (AFb (Rp k))
def AQW(a:List BY)(c e g:Int):AA (List BY):=(Rp 7).d (a,c,e,g,(),())
def ZQ:GF:=(Rp 7).gf
def AaV:YF:=⟨[Gi],[.m (.l (.st 5)),.v .i,.f Gi.x []],[0],.ret [],[],dY ["5QN7a7AqLLuvo79UmzaB4XzxZyWAVkax4BAvxrL4YonZZZixdx1E232GFttjP7spI7wApIvvxLpzG6kl","nGg9OvQKzC7SiSxzVNno9hz4tWx8Xksri21uUvmBKKacqZYzm60n1ou5ECZapx2xReDm2adLnPBfT1TD","XweoLMTRUs5nyYck0"] [] [.call 18 kv [0] rfl [.tmp 14,.tmp 15,.tmp 16,.tmp 17],.call 27 kv [0] rfl [.tmp 23,.tmp 24,.tmp 25,.tmp 26],.call 43 ZQ [0] rfl [.tmp 36,.tmp 37,.tmp 40,.tmp 41,.tmp 42],.call 60 ZQ [0] rfl [.tmp 55,.tmp 56,.tmp 57,.tmp 58,.tmp 59]]⟩
def AJl(a:List BY)(c:Int):AA (List BY):=GU SI AQW a c
def AFs:GF:=AaV.EI (A4 AJl)
def AaW:YF:=⟨[Gi],[.m (.l (.st 5)),.f Gi.x []],[0],.ret [],[],dY ["1DBv2kgLqUMr"] [] [.call 8 AFs [0] rfl [.tmp 4,.tmp 6,.tmp 7]]⟩
def qC(a:List BY):AA (List BY):=bd (AJl a (↑a.length:Int)) fun c=>some c
def AFt:GF:=AaW.EI (Bc qC)
def AaX:YF:=⟨[Gi],[.v (.l (.st 2)),.v .i],[],.ret [(.l (.st 5))],[.tmp 4],dY ["2cfbtW6o08VYhfF74eczrhFCEONK0nf8XsMIEpQG7n2LOGcroZb77tb821vlLnMJkJAaUzn6O54Wa8Mx","m3ihLhyOgXWdVZdvJ8CVgMrCdbVZzO"] [] [.call 33 AFt [0] rfl [.tmp 32,.fn 0]]⟩
def WV(a:List BY×Int->AA (List BY))(c:Int)(e:List BY):AA (List BY):=a (e,w64 (c+1))
def WU(e:List BY×Int->AA (List BY))(c:List BY)(g:Int)(a:AU)(h:Bool):AA (List BY):=br h (gd (an c+[BY.mk a.C7 a.Id].length<=lim) (jn (WV e g) (c++[BY.mk a.C7 a.Id]))) (jn (WV e g) c)
def SK(a:List BY):AA (List BY):=bd (qC a) fun c=>some c
def SL(h:List AU)(j:Int)(g:List BY×Int->AA (List BY))(q:List BY×Int):AA (List BY):=let (e,a):=q;br (decide (a<h.length)) (bd (at? h a) fun c=>br (c.State==2) (jn (WU g e a c) (c.Ab==j)) (jn (WU g e a c) false)) (jn SK e)
def fM(a:List AU)(c:Int):AA (List BY):=BD (SL a c) big ([],0)
def vi:GF:=AaX.EI (A4 fM)
def AAv(_:PUnit):AA Bool:=some true
def fN(c j:List BY)(h:Int->AA Bool)(a:Int):AA Bool:=br (decide (a<c.length)) (bd (at? c a) fun e=>bd (at? j a) fun g=>br (!(e.At==g.At&&(e.Id==g.Id&&true))) (some false) (h (w64 (a+1)))) (jn AAv ())
def AAu(a c:List BY):AA Bool:=br ((↑a.length:Int) != c.length) (some false) (BD (fN a c) big 0)
def vj:=gZ O2 C1 Ca ["tSNNwDODDgF2ikTYk2ZWidrDZBpDx9CXAcakyGddjWdAEmQ7gyipA42rjK4rluJ1K8GVVwsOB"] [] (A4 AAu)
def fP(a:Int×Int->AA Int)(c e:Int):AA Int:=a (e,w64 (c+1))
def WW(a:Int×Int->AA Int)(c e:Int)(h:AU)(g:Bool):AA Int:=br g (jn (fP a e) (w64 (c+h.BE))) (jn (fP a e) c)
def AAw(a:Int):AA Int:=some a
def fQ(h:List AU)(j:Int)(g:Int×Int->AA Int)(y:Int×Int):AA Int:=let (e,c):=y;br (decide (c<h.length)) (bd (at? h c) fun a=>br (a.State==2) (br (a.Ab==j) (bd (C5 a.BE 1 6) fun q=>jn (WW g e c a) q) (jn (WW g e c a) false)) (jn (WW g e c a) false)) (jn AAw e)
def fO(a:List AU)(c:Int):AA Int:=BD (fQ a c) big (0,0)
def vk:=gZ ASZ C9 Ca ["YqfnYldBOJzCzV5YrjP1hTyAlErzRP3GrgV5LME3ur33YePhGU3cEwPZVPU0DArIvYSaHV4Zkkbz1fKZ","MusvuhQahWnZC2aKNq4m9uWx"] [Et] (A4 fO)
def fS(a:Int×Int->AA Int)(c e:Int):AA Int:=a (e,w64 (c+1))
def fR(a:Int×Int->AA Int)(c e:Int)(h:AU)(g:Bool):AA Int:=br g (jn (fS a e) (w64 (c+h.BE))) (jn (fS a e) c)
def AAx(a:Int):AA Int:=some a
def fT(h:List AU)(j:Int)(g:Int×Int->AA Int)(y:Int×Int):AA Int:=let (e,a):=y;br (decide (a<h.length)) (bd (at? h a) fun c=>br (c.Bu==j) (bd (C5 c.BE 1 6) fun q=>jn (fR g e a c) q) (jn (fR g e a c) false)) (jn AAx e)
def ax(a:List AU)(c:Int):AA Int:=BD (fT a c) big (0,0)
def vm:=gZ ASZ C9 Ca ["8i3oMUbb7Sn6IPZxEEFw2zV8p55r2aIiiFwYMayKXWp2ndiDFb3Hb4XyO4bqXecmENYavJLnco7wrpaQ","8VoQMJg41"] [Et] (A4 ax)
def Pe(a:Bool):AA Bool:=some a
def AJm(g:Aa)(a:Ae)(c:List AU)(e h:Int):AA Bool:=bd (px a) fun j=>br j (bd (aw g c e h) fun q=>bd (AAZ a.Row q) fun y=>br y (bd (eU a.By) fun B=>bd (fM c e) fun E=>bd (AAu B E) fun G=>br G (bd (fO c e) fun H=>br (a.AY.FA==H) (bd (ax c e) fun I=>jn Pe (a.AY.F8==I)) (jn Pe false)) (jn Pe false)) (jn Pe false)) (jn Pe false)
def AFu:=gZ ASa C1 [.tmp 10] ["cayWkCmOITKzWf5A7lwmupGc24QwhHpBnI7t97rAJYia1FjajCoZnaRPfS33NaG0zQZJ0UrggBAI1sGj","9xsnP1QYQLr2NEBVORTKjp0PS6XS5RMJ4VZPEu6dmkYJq0gTfCFkLNHKLqX1i0"] [ve,ku,vX,kx,vi,vj,vk,vm] (AVe AJm)
def AAy(_:PUnit):AA Int:=some (-1)
def fU(c:List Int)(g:Int)(e:Int->AA Int)(a:Int):AA Int:=br (decide (a<c.length)) (bd (at? c a) fun h=>br (g==h) (some a) (e (w64 (a+1)))) (jn AAy ())
def AQX(a:List Int)(c:Int):AA Int:=BD (fU a c) big 0
def AFv:=gZ sK C9 Ca ["2KjJuJ0i5PnsEwr5tuA4EKM2hNfQ3QUtIdZTGphybpjF7u1JBKp0pEse9"] [] (A4 AQX)
def qD(a:List Int)(c:Int):AA Bool:=bd (AQX a c) fun e=>some (decide (e>=0))
def lG:=gZ sK C1 Ca ["1271gF14ZwCnL2H"] [AFv] (A4 qD)
def ME(c:Int->AA Bool)(e:Int)(a:Bool):AA Bool:=br a (some false) (c (w64 (e+1)))
def AAz(a:Int->AA Bool)(c:Int)(_:PUnit):AA Bool:=a (w64 (c+1))
def fW(j:AE)(q:Int->AA Bool)(h:Int)(e:AU)(g:Int->AA Bool)(c:Int):AA Bool:=br (decide (c<(ae h.toNat j.AG).length)) (bd (at? (ae h.toNat j.AG) c) fun a=>br (e.A0==a.A0) (jn (ME g c) true) (br (decide (e.A0<a.A0)) (br (decide (e.Since>a.Since)) (jn (ME g c) true) (br (decide (a.A0<e.A0)) (jn (ME g c) (decide (a.Since>e.Since))) (jn (ME g c) false))) (br (decide (a.A0<e.A0)) (jn (ME g c) (decide (a.Since>e.Since))) (jn (ME g c) false)))) (jn (AAz q h) ())
def Pf(c:AE)(e:Int->AA Bool)(a:Int)(h:AU)(g:Bool):AA Bool:=br g (some false) (gd (0<=a/\a<=c.AG.length) (BD (fW c e a h) big 0))
def SM(a:Int->AA Bool)(c:Int)(e:Bool):AA Bool:=br e (some false) (a (w64 (c+1)))
def Y0(a:Int->AA Bool)(c:Int)(e:Bool):AA Bool:=br e (some false) (a (w64 (c+1)))
def qE(_:PUnit):AA Bool:=some true
def Y2(e:AE)(c:Int->AA Bool)(a:Int):AA Bool:=br (decide (a<e.A9.length)) (bd (at? e.A9 a) fun g=>bd (C5 g (-1) (w64 ((↑e.AQ.AY.length:Int)-1))) fun h=>br (!h) (some false) (c (w64 (a+1)))) (jn qE ())
def Tx(a:AE)(_:PUnit):AA Bool:=BD (Y2 a) big 0
def Y1(c:AE)(e:Int->AA Bool)(a:Int):AA Bool:=br (decide (a<c.BB.length)) (bd (at? c.BB a) fun g=>bd (Mv g (↑c.AQ.AY.length:Int)) fun h=>br (!h) (jn (Y0 e a) true) (gd (0<=a/\a<=c.BB.length) (bd (qD (ae a.toNat c.BB) g) fun j=>jn (Y0 e a) j))) (jn (Tx c) ())
def Tw(a:AE)(_:PUnit):AA Bool:=BD (Y1 a) big 0
def fY(c:AE)(e:Int->AA Bool)(a:Int):AA Bool:=br (decide (a<c.AH.length)) (bd (at? c.AH a) fun g=>bd (at? c.AQ.AY a) fun h=>br (g.AY.Total != h) (jn (SM e a) true) (bd (po c.AG a) fun j=>br (decide (j>c.AQ.Room)) (jn (SM e a) true) (bd (AJm c.AQ g c.AG a c.Now) fun q=>jn (SM e a) (!q)))) (jn (Tw c) ())
def WX(a:AE)(_:PUnit):AA Bool:=BD (fY a) big 0
def fV(a:AE)(g:Int->AA Bool)(c:Int):AA Bool:=br (decide (c<a.AG.length)) (bd (at? a.AG c) fun e=>bd (eW a.AQ e a.Now) fun j=>br (!j) (jn (Pf a g c e) true) (br (decide (e.A0>=a.A0)) (jn (Pf a g c e) true) (br (decide (c>0)) (bd (at? a.AG (w64 (c-1))) fun h=>jn (Pf a g c e) (decide (h.Id>=e.Id))) (jn (Pf a g c e) false)))) (jn (WX a) ())
def MD(a:AE)(c:Bool):AA Bool:=br c (some false) (br (decide ((↑a.AG.length:Int)>40)) (some false) (BD (fV a) big 0))
def Rh(a:AE):AA Bool:=bd (WM a.AQ) fun g=>br (!g) (jn (MD a) true) (bd (C5 a.Now 0 1000000) fun c=>br (!c) (jn (MD a) true) (bd (C5 a.A0 1 1000001) fun e=>br (!e) (jn (MD a) true) (br ((↑a.AH.length:Int) != a.AQ.AY.length) (jn (MD a) true) (jn (MD a) ((↑a.A9.length:Int) != a.AQ.Cu)))))
def Qs:=gZ Xi C1 DA ["BcoAJQE3s6mZyIo8gkLhzdfJyV2RLpm6GbSmXHByOBcEdfFCBOoC07yguN5xkOZn6yOrRxQlMeuRXuyL","ifgX7xTeH4YEEuMNrXAtnY8CEU8TqtD4J3AdLK9WhafFLGoIdWH4RuSHnY52B5zvcEmQM2ZamCShfNTA","k5VVsLynd0h4S52KoVhA79apWnJaace6hITwKy5OEY9n1HR8vkzOYCDe9Hmi7jM40OrW6FTT2jGXe2oV","VHEeLqz1C9G6iJZVbEj1owy3OXNOgeVV1FfgT9lEffedv4LjmQM3BDd6tiTKMWlBbyE28DmZQZsi7p6M","o4T0rQlqHUj7K4oklpmZcw2pYbJth7y51qh7xqSSJuVSe57BujHj5PKCEUytSdbofXlYOj2zvxwmW2Kr","9KHjybep4ekhLrAHmatUZnoRQHlSHtXZaERwePXJO80LGz85lMHRztBZaYG6RQRaEsqObNyZ64sCqVGi","NKlFRP4dYzLLYbnmWOzbyCbTO3XOH3kD5Ppk8t9S2Ew6rNyvO2eAD9ieMDW2TA88HZCjlUhzoI6yhZRd","xBPqYNjWPkXODHxLfAejABkRLVk7E7AbfDjw6TksVSP5Nd6nM3fdMJZDwjvOwv9Q8CS71SrOOziGCcZO","t2C47ASfyqX7NWXYziAxPOURp76iF6SclDHvwthvptyI5a2RlTNC8F3haDKCY43JdrpMbwrDVxqDiYso","LDfCSBL9"] [So,Et,ZO,kz,AFu,Oy,lG] (Bc Rh) [.as 10 (.tmp 182),.as 11 (.tmp 184),.as 13 (.tmp 204)]
def fZ(a:Bool):AA Bool:=some a
def Pg(a:Bp):AA Bool:=br (decide ((↑a.Data.length:Int)<=20000)) (bd (C5 a.Safe 0 (↑a.Data.length:Int)) fun c=>jn fZ c) (jn fZ false)
def Qt:=gZ [.v (.st 9)] C1 DA ["LdBejy988fSPRfDapRIEGDkiGIfc81jBiS6"] [Et] (Bc Pg)
def WY(a:Bool):AA Bool:=some a
def AA0(a:BZ):AA Bool:=bd (Pg a.Log) fun c=>br c (bd (Pg a.DW) fun e=>br e (bd (Pg a.Odd) fun g=>jn WY g) (jn WY false)) (jn WY false)
def vn:=gZ ASb C1 DA ["4IHTGuNDZr0YHgJBVLD4P9qq6F8UbC5FO"] [Qt] (Bc AA0)
def Ri(a:Int):AA Bool:=bd (C5 a 0 9999) fun c=>some c
def AFw:=gZ mI C1 DA ["AIRSU6mx1pd5gP"] [Et] (Bc Ri)
def AaY:YF:=⟨[AFw],[.v (.st 0)],[],.ret [.b],[.tmp 2],dY ["H859L5qCZDj3MMY1LoKfMOdQ5fpRcBaqCJ5oFk6XvoHLTMWkC6t2RFfSJeYZNq6ROw2I2Dx1ZLv6PrWT","gUSmIUUrUHoNFCKEhaXGIdPnv9iEwJgbIae3OqrkZK4y04NHGy3YNaE4f3Nv7R6q7XG04B4RX539Hoe6","3w28x5pysWgCHlyzjfJxxemi98ZT7aK0GCnE3TiQ1ndLWJAUJVK84DyEvwgiPKYivCNxHSGWywqKtTqu","ngfdUSjyX4Llc0cFAx9EdY6dcGmVhmQwogh1JDgp2LZiefNxwAj73ODyyWY8Y7"] [Et] [.as 3 (.fn 0),.D2 11 (.tmp 8) [.v] [.tmp 10],.D2 16 (.tmp 13) [.v] [.tmp 15],.D2 27 (.tmp 24) [.v] [.tmp 26],.D2 33 (.tmp 30) [.v] [.tmp 32],.D2 43 (.tmp 40) [.v] [.tmp 42],.D2 58 (.tmp 55) [.v] [.tmp 57],.D2 63 (.tmp 60) [.v] [.tmp 62]]⟩
def G9(a:Bool):AA Bool:=some a
def Ph(a:B3)(e:Bool):AA Bool:=br e (bd (Ri a.Id) fun g=>br g (jn G9 (a.Kind==a.Kind&&(a.Id==a.Id&&(a.Ab==0&&(a.Bu==0&&(a.BE==0&&(a.DJ==0&&true))))))) (jn G9 false)) (br (a.Kind==3) (bd (Ri a.Ab) fun h=>br h (bd (Ri a.BE) fun c=>br c (jn G9 (a.Kind==a.Kind&&(a.Id==0&&(a.Ab==a.Ab&&(a.Bu==0&&(a.BE==a.BE&&(a.DJ==0&&true))))))) (jn G9 false)) (jn G9 false)) (br (a.Kind==6) (some (a.Kind==6&&(a.Id==0&&(a.Ab==0&&(a.Bu==0&&(a.BE==0&&(a.DJ==0&&true))))))) (some false)))
def WZ(a:B3):AA Bool:=br (a.Kind==1) (bd (Ri a.Id) fun c=>br c (bd (Ri a.Ab) fun e=>br e (bd (C5 a.Bu (-1) 9999) fun g=>br g (bd (Ri a.BE) fun h=>br h (bd (Ri a.DJ) fun j=>jn G9 j) (jn G9 false)) (jn G9 false)) (jn G9 false)) (jn G9 false)) (br (a.Kind==2) (jn (Ph a) (a.Kind==2)) (br (a.Kind==4) (jn (Ph a) (a.Kind==4)) (br (a.Kind==5) (jn (Ph a) (a.Kind==5)) (jn (Ph a) (a.Kind==7)))))
def ZR:GF:=AaY.EI (Bc WZ)
def AA1(_:PUnit):AA Bool:=some true
def fb(c:Ap)(e:Int->AA Bool)(a:Int):AA Bool:=br (decide (a<c.Laid.length)) (bd (at? c.Laid a) fun g=>bd (WZ g) fun h=>br (!h) (some false) (e (w64 (a+1)))) (jn AA1 ())
def Pj(a:Ap)(c:Bool):AA Bool:=br c (some false) (BD (fb a) big 0)
def Wa(a:Ap):AA Bool:=bd (Rh a.BO) fun c=>br (!c) (jn (Pj a) true) (bd (AA0 a.BH) fun e=>br (!e) (jn (Pj a) true) (br (decide ((↑a.Laid.length:Int)>8)) (jn (Pj a) true) (bd (C5 a.Seq (↑a.Laid.length:Int) 1000000) fun g=>jn (Pj a) (!g))))
def VQ:=gZ Ma C1 DA ["5ZPZ4klHxHSJ0yLt1LZQl3HHwvlEoOzBrLy2pmEvoK9rEjH4xizmIvFtXXbRGMSgbHZ7IEzDd7KM8d6L","43A3cvMxHlvGN0Ktu602yNIAdLXzDV4w7joTJTNlwSvPNtkB"] [Qs,vn,Et,ZR] (Bc Wa)
def WG(a c:B3):AA Bool:=br (a.Kind != c.Kind) (some false) (br (a.Id != c.Id) (some false) (br (a.Ab != c.Ab) (some false) (br (a.Bu != c.Bu) (some false) (br (a.BE != c.BE) (some false) (br (a.DJ != c.DJ) (some false) (some true))))))
def Akr(a:Aa):AA (List Int):=bd (ue a) fun c=>br (!c) (some []) (gd ([a.CS,a.Room,a.BE,a.CE,a.Bz,a.Rest,a.CY,a.Cu].length+a.AY.length<=lim) (some ([a.CS,a.Room,a.BE,a.CE,a.Bz,a.Rest,a.CY,a.Cu]++a.AY)))
def Ak6(a:List Int):AA (List Int):=some a
def AkJ(h:AE)(g:List Int×Int->AA (List Int))(j:List Int×Int):AA (List Int):=let (a,c):=j;br (decide (c<h.A9.length)) (bd (at? h.A9 c) fun e=>gd (an a+[w64 (e+1)].length<=lim) (g (a++[w64 (e+1)],w64 (c+1)))) (jn Ak6 a)
def sx(c:AE)(a:List Int):AA (List Int):=gd (a.length+[(↑c.BB.length:Int)].length<=lim) (gd ((a++[(↑c.BB.length:Int)]).length+c.BB.length<=lim) (BD (AkJ c) big (a++[(↑c.BB.length:Int)]++c.BB,0)))
def AkI(e:AE)(h:List Int×Int->AA (List Int))(j:List Int×Int):AA (List Int):=let (g,a):=j;br (decide (a<e.AH.length)) (bd (at? e.AH a) fun c=>gd (an g+[c.AY.Dv].length<=lim) (h (g++[c.AY.Dv],w64 (a+1)))) (jn (sx e) g)
def nx(a:AE)(c:List Int):AA (List Int):=BD (AkI a) big (c,0)
def AkH(c:AE)(h:List Int×Int->AA (List Int))(j:List Int×Int):AA (List Int):=let (e,g):=j;br (decide (g<c.AG.length)) (bd (at? c.AG g) fun a=>gd (an e+[a.Id,a.Ab,w64 (a.Bu+1),a.BE,a.DJ,a.Since,a.A0,a.State,a.C7,a.Dh].length<=lim) (h (e++[a.Id,a.Ab,w64 (a.Bu+1),a.BE,a.DJ,a.Since,a.A0,a.State,a.C7,a.Dh],w64 (g+1)))) (jn (nx c) e)
def AkE(a:AE):AA (List Int):=bd (eP a) fun e=>br (!e) (some []) (bd (Akr a.AQ) fun c=>gd ([(↑(an c):Int)].length+an c<=lim) (gd (([(↑(an c):Int)]++c).length+[a.Now,a.A0,(↑a.AG.length:Int)].length<=lim) (BD (AkH a) big ([(↑(an c):Int)]++c++[a.Now,a.A0,(↑a.AG.length:Int)],0))))
def Ald(e:Int×List UInt8):AA (List UInt8):=let (a,c):=e;gd (c.length+[toB a].length<=lim) (some (c++[toB a]))
def Ale(e:Int×List UInt8->AA (List UInt8))(g:Int×List UInt8):AA (List UInt8):=let (a,c):=g;br (decide (a>127)) (gd (c.length+[toB (w64 (Int.tmod a 128+128))].length<=lim) (e (w64 (Int.tdiv a 128),c++[toB (w64 (Int.tmod a 128+128))]))) (jn Ald (a,c))
def Aj5(a:Int):AA (List UInt8):=bd (Eh a 0 2147483647) fun c=>br (!c) (some []) (BD Ale big (a,[]))
def AlU(a:List UInt8):AA (List UInt8):=some a
def Akj(e:List Int)(h:List UInt8×Int->AA (List UInt8))(q:List UInt8×Int):AA (List UInt8):=let (a,c):=q;br (decide (c<e.length)) (bd (at? e c) fun j=>bd (Aj5 j) fun g=>gd (an a+an g<=lim) (h (a++g,w64 (c+1)))) (jn AlU a)
def ez(a:List Int):AA (List UInt8):=BD (Akj a) big ([],0)
def AlY(a:Int×Int->AA Int)(c e:Int):AA Int:=a (e,w64 (c+1))
def Al2(a:Int×Int->AA Int)(c e:Int):AA Int:=a (e,w64 (c+1))
def Ala(g:Int×Int->AA Int)(h:Int)(e:Int×Int->AA Int)(j:Int×Int):AA Int:=let (a,c):=j;br (decide (c<8)) (br (Int.tmod a 2==1) (jn (AlY e c) (UY (w64 (Int.tdiv a 2)) 3988292384)) (jn (AlY e c) (w64 (Int.tdiv a 2)))) (jn (Al2 g h) a)
def Al3(a:Int):AA Int:=some (UY a 4294967295)
def AlZ(c:List UInt8)(g:Int×Int->AA Int)(j:Int×Int):AA Int:=let (e,a):=j;br (decide (a<c.length)) (bd (at? c a) fun h=>BD (Ala g a) big (UY e (w64 (↑(UInt8.toNat h):Int)),0)) (jn Al3 e)
def Alk(a:List UInt8):AA Int:=BD (AlZ a) big (4294967295,0)
def Akv(a:Int):AA (List UInt8):=some ([toB (D4 a 24),toB (D4 a 16),toB (D4 a 8),toB a])
def AkS(h:AE)(c:Int)(j:Bool):AA (List UInt8):=br j (some []) (bd (AkE h) fun e=>gd ([c].length+an e<=lim) (bd (ez ([c]++e)) fun a=>bd (Alk a) fun q=>bd (Akv q) fun g=>gd (an g+an a<=Mn) (some (g++a))))
def AkQ(a:AE)(c:Int):AA (List UInt8):=bd (eP a) fun e=>br (!e) (jn (AkS a c) true) (bd (Eh c 0 1000000) fun g=>jn (AkS a c) (!g))
end Lv
