/- Functions of the program as typed texts and as plain functions. -/
import Derived.Test.YtnjoipcemhflkaaGreatTCb
open List renaming take->an,length->aO,drop->aP,set->aQ
noncomputable section
set_option linter.unusedVariables false
set_option linter.unusedSimpArgs false
set_option linter.unusedSectionVars false
set_option maxRecDepth 100000
namespace Lv
open Go (IntKind BinOp UnOp)
open Y (YF qn qf qt qr q1 qd qm qa qo ql qL qb qi qx qp qq qc qz qe qk qK qB qw qu qj Kp wn wf wt w1 sw sq sr wm wM wo wO wl wL wk wK wz wZ wx wX wb wB wi wI wr wR wq wQ we wE wc wY wj wh cv ca cx cn ce bl)
def dF(a:Bool):AA Bool:=some a
def Eh(a c e:Int):AA Bool:=br (decide (a>=c)) (jn dF (decide (a<=e))) (jn dF false)
def Ho:=gZ ASW C1 Ui ["2AtNPTHuyKmct545u7wlt47Jp"] [] (Gq Eh)
def WK(a:Bool):AA Bool:=some a
def AJd(a:Aa)(_:PUnit):AA Bool:=bd (Eh a.Bz 1 8) fun e=>br e (bd (Eh a.Rest 0 8) fun g=>br g (bd (Eh a.CY 1 4) fun h=>br h (bd (Eh a.Cu 1 3) fun c=>jn WK c) (jn WK false)) (jn WK false)) (jn WK false)
def uf(a:Aa)(e:Int->AA Bool)(c:Int):AA Bool:=br (decide (c<a.AY.length)) (bd (at? a.AY c) fun g=>bd (Eh g 1 60) fun h=>br (!h) (some false) (e (w64 (c+1)))) (jn (AJd a) ())
def Qg(a:Aa)(c:Bool):AA Bool:=br c (some false) (BD (uf a) big 0)
def ue(a:Aa):AA Bool:=bd (Eh (↑a.AY.length:Int) 1 4) fun j=>br (!j) (jn (Qg a) true) (bd (Eh a.CS 1 5) fun c=>br (!c) (jn (Qg a) true) (bd (Eh a.Room 1 10) fun e=>br (!e) (jn (Qg a) true) (bd (Eh a.BE 1 6) fun g=>br (!g) (jn (Qg a) true) (bd (Eh a.CE 1 12) fun h=>jn (Qg a) (!h)))))
def bU:=gZ Su C1 DA ["1LZGwfwUk7fwJxu9sw4QlhD8FwSx4mhKyxPUxgsYwtaeszB8FTUzTZ7dm1vn6Hm1pAQiMqy6hLfOmiEN","8VgC0c6fONMazHMCrqfjPQpy255tztFweZeFwzcX9MTNb0HtLZgIOznplYSzoDZ296tcBuBvlj73ViIh","wlQ4DOLe271rts5tp"] [Ho] (Bc ue)
def Tv(a:Bool):AA Bool:=some a
def Qh(c:Aa)(a:AU)(e:Int)(g:Bool):AA Bool:=br g (some false) (br (a.State==1) (bd (Eh a.C7 0 (w64 (e+c.Rest))) fun h=>br h (jn Tv true) (br (a.State==2) (bd (Eh a.C7 1 (w64 (e+c.Bz))) fun j=>jn Tv j) (jn Tv false))) (br (a.State==2) (bd (Eh a.C7 1 (w64 (e+c.Bz))) fun q=>jn Tv q) (jn Tv false)))
def OW(c:Aa)(a:AU)(e:Int)(q:Bool):AA Bool:=br q (some false) (bd (Eh a.BE 1 c.BE) fun y=>br (!y) (jn (Qh c a e) true) (bd (Eh a.DJ 0 (w64 (c.CS-1))) fun B=>br (!B) (jn (Qh c a e) true) (bd (Eh a.Since 0 e) fun g=>br (!g) (jn (Qh c a e) true) (bd (Eh a.A0 1 1000000) fun h=>br (!h) (jn (Qh c a e) true) (bd (Eh a.Dh 0 (w64 (c.CY-1))) fun j=>jn (Qh c a e) (!j))))))
def AFQ(c:Aa)(a:AU)(e:Int):AA Bool:=bd (ue c) fun y=>br (!y) (jn (OW c a e) true) (bd (Eh e 0 1000000) fun g=>br (!g) (jn (OW c a e) true) (bd (Eh a.Id 1 999) fun h=>br (!h) (jn (OW c a e) true) (bd (Eh a.Ab 0 (w64 ((↑c.AY.length:Int)-1))) fun j=>br (!j) (jn (OW c a e) true) (bd (Eh a.Bu (-1) (w64 ((↑c.AY.length:Int)-1))) fun q=>br (!q) (jn (OW c a e) true) (jn (OW c a e) (a.Bu==a.Ab))))))
def sI:=gZ bW C1 Ui ["FQYamI24I7MN05e7zniJcz9UvO6Z02LLmsUZvYkzoqvOfUF7qRW6cWHeQtdS1O5gNhPDBZvqofShik5N","IOzwFUSygcpOpK0BdQkUe3d6GKoXbRdNS88uzrW4U1KreAnln7L3Qmp6RS5aOOb3Oze7GsFTQmKdxjzh","f4N0rJU1d3yUav5g9LXX4zUWVmhWNgPisaDNIbbBKqd3Wdf3MYHYR7Ziq5TWqciFsMD0w9cysNl0lsdy","zq6dmE76u1z1tkYQAexAI536IMYuwjEgiuTg7X4CA4"] [bU,Ho] (Gq AFQ)
def OX(a:Int->AA Bool)(c:Int)(e:Bool):AA Bool:=br e (some false) (a (w64 (c+1)))
def AJp(a:Int->AA Bool)(c:Int)(_:PUnit):AA Bool:=a (w64 (c+1))
def uh(q:AE)(j:Int->AA Bool)(h:Int)(c:AU)(g:Int->AA Bool)(a:Int):AA Bool:=br (decide (a<h)) (bd (at? q.AG a) fun e=>br (e.A0==c.A0) (jn (OX g a) true) (br (decide (e.A0<c.A0)) (br (decide (e.Since>c.Since)) (jn (OX g a) true) (br (decide (e.A0>c.A0)) (jn (OX g a) (decide (e.Since<c.Since))) (jn (OX g a) false))) (br (decide (e.A0>c.A0)) (jn (OX g a) (decide (e.Since<c.Since))) (jn (OX g a) false)))) (jn (AJp j h) ())
def Ty(c:AE)(a:Int->AA Bool)(e:Int)(h:AU)(g:Bool):AA Bool:=br g (some false) (BD (uh c a e h) big 0)
def AJq(_:PUnit):AA Bool:=some true
def ug(a:AE)(g:Int->AA Bool)(c:Int):AA Bool:=br (decide (c<a.AG.length)) (bd (at? a.AG c) fun e=>bd (AFQ a.AQ e a.Now) fun j=>br (!j) (jn (Ty a g c e) true) (br (decide (e.A0>=a.A0)) (jn (Ty a g c e) true) (br (decide (c>0)) (bd (at? a.AG (w64 (c-1))) fun h=>jn (Ty a g c e) (decide (h.Id>=e.Id))) (jn (Ty a g c e) false)))) (jn AJq ())
def AWF(a:AE):AA Bool:=BD (ug a) big 0
def ARL:=gZ Xi C1 DA ["4pP7DVqKwA1izUODBnGtxlqaitzCB1AoLKoUMPSM1QoIEZ80EZMUtpIE0m8pAQ6FZcdLZOHDUgUk1mDt","PtXQNBL36auJcmsn0OkVyhDVbAggRCGUHLMUhnFDh46LAIPpc9KKAze08tWdSsWnKBR2VjSASo9GXFIb","VKB1geRoIpE9MUiyr7lcPXPXWNDU2lFLLs7DgBeICRLKCajETpRO8roWAJMEl6vbU4OBBvoDp3nnqCBp","okEsDcPCslhgDCwImzP4erej3jqa3CGC"] [sI] (Bc AWF)
def AJ3(_:PUnit):AA Bool:=some false
def AJ4(c:List Int)(g:Int)(e:Int->AA Bool)(a:Int):AA Bool:=br (decide (a<c.length)) (bd (at? c a) fun h=>br (h==g) (some true) (e (w64 (a+1)))) (jn AJ3 ())
def ANM(a:List Int)(c:Int):AA Bool:=BD (AJ4 a c) big 0
def ADV:=gZ sK C1 Ca ["EHu4zH2Pke30ragAorjJLWpt57Qxm0L5BUqbWYcl26F"] [] (A4 ANM)
def ui(a:Int->AA Bool)(c:Int)(e:Bool):AA Bool:=br e (some false) (a (w64 (c+1)))
def AKG(a:AE)(_:PUnit):AA Bool:=some ((↑a.A9.length:Int)==a.AQ.Cu)
def uk(a:AE)(h:Int->AA Bool)(c:Int):AA Bool:=br (decide (c<a.A9.length)) (bd (at? a.A9 c) fun e=>bd (Eh e (-1) (w64 ((↑a.AH.length:Int)-1))) fun g=>br (!g) (some false) (h (w64 (c+1)))) (jn (AKG a) ())
def dG(a:AE)(_:PUnit):AA Bool:=BD (uk a) big 0
def uj(c:AE)(e:Int->AA Bool)(a:Int):AA Bool:=br (decide (a<c.BB.length)) (bd (at? c.BB a) fun g=>bd (Eh g 0 (w64 ((↑c.AH.length:Int)-1))) fun h=>br (!h) (jn (ui e a) true) (gd (0<=a/\a<=c.BB.length) (bd (at? c.BB a) fun j=>bd (ANM (an a.toNat c.BB) j) fun q=>jn (ui e a) q))) (jn (dG c) ())
def AWG(a:AE):AA Bool:=BD (uj a) big 0
def ARb:=gZ Xi C1 DA ["1DmCWQxYNfNeqwJFlcCHGrPbyJWgW84j99UOCy6JAlPoQvmvWxNiAkiDOFzfYEsFlTOPyTAJuxLYGYVM","ZaFhLoYVrl8IemAEFuJTD0huKGJcxLJitfVog0w7JUCIxY5Zn5YRSW4Ua4WBmWhhdMbdeVnCDF9DtSi"] [Ho,ADV] (Bc AWG)
def Qi(a:Bool):AA Bool:=some a
def AFR(a:BI):AA Bool:=bd (Eh a.Total 1 60) fun c=>br c (bd (Eh a.Dv 0 a.Total) fun e=>br e (bd (Eh a.FA 0 a.Total) fun g=>br g (bd (Eh a.Fm 0 a.Total) fun h=>br h (br (w64 (w64 (a.Dv+a.FA)+a.Fm)==a.Total) (bd (Eh a.F8 0 a.Fm) fun j=>jn Qi j) (jn Qi false)) (jn Qi false)) (jn Qi false)) (jn Qi false)) (jn Qi false)
def ADW:=gZ [.v (.st 3)] C1 DA ["JrlrsAnthdMdRSHhvD9OoyiKDROSW7Lv6lkbFI2JMn0J7ECe1MHvl2BIHTIhKvceDnXnkFY4DUpf8kjj","NxjdMx6dYIDNhMCurJdTdJho3wpHctyo"] [Ho] (Bc AFR)
def dH(a:Bool):AA Bool:=some a
def AQd(a c:Au):AA Bool:=br (decide (a.Level<c.Level)) (jn dH true) (br (a.Level==c.Level) (jn dH (decide (a.A0<c.A0))) (jn dH false))
def AL2:=gZ ASe C1 Ca ["eKHd5GE3Yjqe33dNyUbBhRFQ3MauKYb49bb7sDs6mpeSh0WvJT"] [] (A4 AQd)
def AKt(_:PUnit):AA Int:=some (-1)
def AKu(c:List Au)(g:Int)(e:Int->AA Int)(a:Int):AA Int:=br (decide (a<c.length)) (bd (at? c a) fun h=>br (h.Id==g) (some a) (e (w64 (a+1)))) (jn AKt ())
def ANN(a:List Au)(c:Int):AA Int:=BD (AKu a c) big 0
def AL3:=gZ AHU C9 Ca ["IX8NTGuRswy6VroiuvvmLuS9L0jRcKMTyb29jzOzwJBiZ8Fx"] [] (A4 ANN)
def XM(a:Int->AA Bool)(c:Int)(e:Bool):AA Bool:=br e (some false) (a (w64 (c+1)))
def T0(e:List Au)(c:Int->AA Bool)(a:Int)(h:Au)(j:Bool):AA Bool:=br j (some false) (br (decide (a>0)) (bd (at? e (w64 (a-1))) fun q=>bd (AQd q h) fun y=>br (!y) (jn (XM c a) true) (bd (ANN e h.Id) fun B=>jn (XM c a) (B != a))) (bd (ANN e h.Id) fun g=>jn (XM c a) (g != a)))
def ALM(_:PUnit):AA Bool:=some true
def um(c:List Au)(g:Int->AA Bool)(e:Int):AA Bool:=br (decide (e<c.length)) (bd (at? c e) fun a=>bd (Eh a.Level 0 4) fun y=>br (!y) (jn (T0 c g e a) true) (bd (Eh a.A0 1 1000000) fun h=>br (!h) (jn (T0 c g e a) true) (bd (Eh a.Id 1 999) fun j=>br (!j) (jn (T0 c g e a) true) (bd (Eh a.BE 1 6) fun q=>jn (T0 c g e a) (!q))))) (jn ALM ())
def AWH(a:List Au):AA Bool:=br (decide ((↑a.length:Int)>10)) (some false) (BD (um a) big 0)
def AR0:=gZ xQ C1 DA ["LppAArCC0TcXGNhedWBVLwL5AJvviKNEr1KyLnN8FFFQdbzISdCaH0cxzLI9dN3h8qm28sccMS2utGpF","zR9LBKPm8KdYXTWDxIMCR777OMMlo7PnyFVPNCmQ9lFo29QUzWtuZBBTYa6gSpqZe1kNiAb8gSlPn8P2","k1NDhi3Ql9pTVhPT7lom2Igw5XvNya"] [Ho,AL2,AL3] (Bc AWH)
def ALa(a:List BY):AA (List BY):=some a
def ALb(e:Aw)(h:List BY×Int->AA (List BY))(j:List BY×Int):AA (List BY):=let (a,c):=j;br (decide (c<e.Ar.length)) (bd (at? e.Ar c) fun g=>gd (aO a+aO g<=lim) (h (a++g,w64 (c+1)))) (jn ALa a)
def AQv(a:Aw):AA (List BY):=BD (ALb a) big ([],0)
def AL4:=gZ Zc Zk DA ["3htA4NJoWLEUFrmQzVg269qEa05XtvCdpKSSYDfcAPC5YT3VqAiY0Kiot01q"] [] (Bc AQv)
def dI(a:Bool):AA Bool:=some a
def AQw(a c:BY):AA Bool:=br (decide (a.At<c.At)) (jn dI true) (br (a.At==c.At) (jn dI (decide (a.Id<c.Id))) (jn dI false))
def AL5:=gZ [.v (.st 5),.v (.st 5)] C1 Ca ["eKHd5GE3Yjqe33dNyUbBhRFQ3MauKYb49bb7sDs6mpeSh0WvJT"] [] (A4 AQw)
def ALd(a:Int->AA Bool)(c:Int)(_:PUnit):AA Bool:=a (w64 (c+1))
def uq(e:List BY)(j:Int->AA Bool)(c:Int)(q:Int->AA Bool)(a:Int):AA Bool:=br (decide (a<c)) (bd (at? e a) fun y=>bd (at? e a) fun g=>bd (at? e c) fun B=>bd (at? e c) fun h=>br (g.Id==h.Id) (some false) (q (w64 (a+1)))) (jn (ALd j c) ())
def dK(g:List BY)(a:Int->AA Bool)(c:Int)(e:Bool):AA Bool:=br e (some false) (BD (uq g a c) big 0)
def dM(a:Int->AA Bool)(c:Int)(e:Bool):AA Bool:=br e (some false) (a (w64 (c+1)))
def ADA(a:Int->AA Bool)(c:Int)(_:PUnit):AA Bool:=a (w64 (c+1))
def uu(g:Aw)(h:Int->AA Bool)(c:Int)(e:Int->AA Bool)(a:Int):AA Bool:=bd (at? g.Ar c) fun j=>br (decide (a<(aO j))) (bd (at? g.Ar c) fun q=>bd (at? q a) fun y=>br (y.At.tmod 9 != c) (jn (dM e a) true) (br (decide (a>0)) (bd (at? g.Ar c) fun B=>bd (at? B (w64 (a-1))) fun E=>bd (at? g.Ar c) fun G=>bd (at? G a) fun H=>bd (AQw E H) fun I=>jn (dM e a) (!I)) (jn (dM e a) false))) (jn (ADA h c) ())
def ADB(_:PUnit):AA Bool:=some true
def ur(e:Aw)(c:Int->AA Bool)(a:Int):AA Bool:=br (decide (a<e.Ar.length)) (BD (uu e c a) big 0) (jn ADB ())
def dL(a:Aw)(_:PUnit):AA Bool:=BD (ur a) big 0
def uo(j:Aw)(c:List BY)(h:Int->AA Bool)(a:Int):AA Bool:=br (decide (a<(aO c))) (bd (at? c a) fun E=>bd (at? c a) fun y=>bd (Eh y.At 1 1000008) fun B=>br (!B) (jn (dK c h a) true) (bd (at? c a) fun q=>bd (at? c a) fun e=>bd (Eh e.Id 1 999) fun g=>jn (dK c h a) (!g))) (jn (dL j) ())
def dJ(a:Aw)(e:List BY)(c:Bool):AA Bool:=br c (some false) (BD (uo a e) big 0)
def pB(a:Aw):AA Bool:=bd (AQv a) fun c=>br ((↑a.Ar.length:Int) != 9) (jn (dJ a c) true) (jn (dJ a c) (decide ((↑(aO c):Int)>10)))
def mH:=gZ Zc C1 DA ["15Hgmb2t92eAZ1DzhYy5A8GqLCiZ1GPQzit6Y9qngVB214JbejfCmj8DCrXsiyqd5JowpDVgKWu896Qj","vpKVO0Cdjw7Gim7Noe3seVHQwVG2pabtWGnMimLBmmh2JLWDdWT0e28TxLGtBL9wDVSxaBz3dWMI8mu3","wTIPYxY5xAAGYeYilpfOlzp1IvcIiYUAzdN9WBtN9Tjq7wUjtGHLFNeTjjTTFUeX5EIWZMPDwlPlZopn","UswwzZNn7ELcgKYET47SYyIY7sUlXuoQkF4M8vlouKMPZJjXqPu8yJImUsmvfoUv5ikY3qvObrSFpre1","0F4AJGbfwxRKnEU8zHGfP6Gc2bDW40m4Lwip"] [AL4,Ho,AL5] (Bc pB)
def dN(a:Bool):AA Bool:=some a
def ANO(a:Ae):AA Bool:=bd (AFR a.AY) fun c=>br c (bd (AWH a.Row) fun e=>br e (bd (pB a.By) fun g=>jn dN g) (jn dN false)) (jn dN false)
def AL6:=gZ xR C1 DA ["8wdS5Zk3LMVVEb06iWKDO5tDBbtny0Rxx2"] [ADW,AR0,mH] (Bc ANO)
def OL(a c:Int):AA Int:=br (decide (a>c)) (some a) (some c)
def bV:=gZ xS C9 Ca ["5JYoM41VWXdZo3iWJlFC83"] [] (A4 OL)
def AWI(a:Aa)(c e:Int):AA Int:=gd (a.CE≠0) (bd (OL 0 (w64 (c-w64 (e.tdiv a.CE)))) fun g=>some g)
def ASU:=gZ [.v (.st 1),.v .i,.v .i] C9 Ui ["1HJxNRirjIQiCyvjdP44NquT"] [bV] (Gq AWI)
def AWJ(c:Aa)(a:AU)(e:Int):AA Int:=bd (AFQ c a e) fun g=>br (!g) (some (-1)) (bd (AWI c a.DJ (w64 (e-a.Since))) fun h=>some h)
def ASV:=gZ bW C9 Ui ["5GspQpuFkfHkxkQ5RQWl1kcUP2aN2FL9qd60kEDpnB4"] [sI,ASU] (Gq AWJ)
def uw(a:AU)(e:Int)(c:Bool):AA (Au×Bool):=br c (some (Au.mk 0 0 0 0,false)) (some (Au.mk e a.A0 a.Id a.BE,true))
def ANP(e:Aa)(a:AU)(g:Int):AA (Au×Bool):=bd (AWJ e a g) fun c=>br (decide (c<0)) (jn (uw a c) true) (jn (uw a c) (a.State != 1))
def AL7:=gZ bW (.ret [(.st 4),.b]) [.cell 6 (some 4),.tmp 7] ["hSGNBcK7aUrOnTLWftsMeJpkSkscIA4NK5oJQtCrygd442zBZbXd5jTCzKQO3TqoolTBhE0VY03"] [ASV] (Gq ANP)
def ux(a:List Au):AA (List Au):=gd (0+a.length<=lim) (some ([]++a))
def ADX:=gZ xQ xX DA ["1TJxeI40Jowh55kB"] [] (Bc ux)
def uy(c:List Au)(e:Au)(a:Int):AA (List Au):=gd (0<=a/\a<=c.length) (bd (ux (an a.toNat c)) fun g=>gd (aO g+[e].length<=lim) (bd (ux (an a.toNat c)) fun h=>gd (aO h+[e].length<=lim) (eqv (g++[e]) (h++[e]) (gd (0<=a/\a<=c.length) (gd ((g++[e]).length+(aP a.toNat c).length<=lim) (some (g++[e]++aP a.toNat c)))))))
def dO(e:List Au)(g:Au)(c:Int->AA (List Au))(a:Int)(h:Bool):AA (List Au):=br h (c (w64 (a+1))) (jn (uy e g) a)
def uz(a:List Au)(e:Au)(g:Int->AA (List Au))(c:Int):AA (List Au):=br (decide (c<a.length)) (bd (at? a c) fun h=>bd (AQd h e) fun j=>jn (dO a e g c) j) (jn (dO a e g c) false)
def AFS(a:List Au)(c:Au):AA (List Au):=BD (uz a c) big 0
def AL8:=gZ ASX xX Ca ["2zPtJoOAKEwClpzolvg80UXhlJBLvbqPtDNv7B6XXFg1BOzJ0Wnx12mA5ErkCZRpk0k5oXUPy9ekBeA1","cOL2f0jndfX6VpCaRYuSHUcBfmniKyXnmhKHYgnTWY2"] [AL2,ADX] (A4 AFS)
def vB(c:List Au×Int->AA (List Au))(e:Int)(a:List Au):AA (List Au):=c (a,w64 (e-1))
def vA(a:List Au×Int->AA (List Au))(c:List Au)(e:Int)(h:Au×Bool)(g:Bool):AA (List Au):=br g (bd (AFS c h.fst) fun j=>jn (vB a e) j) (jn (vB a e) c)
def ALe(a:List Au):AA (List Au):=some a
def ALf(h:Aa)(j:List AU)(E q:Int)(g:List Au×Int->AA (List Au))(H:List Au×Int):AA (List Au):=let (e,a):=H;br (decide (a>=0)) (bd (at? j a) fun y=>bd (ANP h y q) fun c=>bd (ANP h y q) fun B=>eqv c.snd B.snd (zb c.fst B.fst (br c.snd (bd (at? j a) fun G=>jn (vA g e a c) (G.Ab==E)) (jn (vA g e a c) false)))) (jn ALe e)
def ANQ(c:Aa)(a:List AU)(e g:Int):AA (List Au):=BD (ALf c a e g) big ([],w64 ((↑a.length:Int)-1))
def ADY:=gZ [.v (.st 1),.v (.l (.st 2)),.v .i,.v .i] xX [.tmp 8] ["7TwL6TFiZv8vLPYCdzHAypCzf19Dezd40vbBB0VUQnI25PAgmFvHtNy2lnOFINiRUeTaZrkqQHX3ZrLn","1LCJvBttkvDFcTxARyh4xXZia1ZymBdtmOw2kL6gKQwhRTg7w6tafjdq3bKfvBEz4tuUgDfOhHynEUNe","Wu3heKFAjfxx6KhNxo4Jpfs"] [AL7,AL8] (Vv ANQ)
def ALg(_:PUnit):AA Bool:=some true
def vC(g j:List Au)(h:Int->AA Bool)(a:Int):AA Bool:=br (decide (a<g.length)) (bd (at? g a) fun c=>bd (at? j a) fun e=>br (!(c.Level==e.Level&&(c.A0==e.A0&&(c.Id==e.Id&&(c.BE==e.BE&&true))))) (some false) (h (w64 (a+1)))) (jn ALg ())
def AQx(a c:List Au):AA Bool:=br ((↑a.length:Int) != c.length) (some false) (BD (vC a c) big 0)
def AL9:=gZ ASY C1 Ca ["5fdkF2A5azoiL9SmI3i3vdrf6cz13WNtG8zIyuE5FiiYOK5nmf21komxt9whLxQmIu"] [] (A4 AQx)
def vD(c:List BY)(e:BY)(a:Int):AA (List BY):=gd (0<=a/\a<=c.length) (gd (0+(an a.toNat c).length<=lim) (gd (([]++an a.toNat c).length+[e].length<=lim) (gd (0<=a/\a<=c.length) (gd (([]++an a.toNat c++[e]).length+(aP a.toNat c).length<=lim) (some ([]++an a.toNat c++[e]++aP a.toNat c))))))
def dP(e:List BY)(g:BY)(c:Int->AA (List BY))(a:Int)(h:Bool):AA (List BY):=br h (c (w64 (a+1))) (jn (vD e g) a)
def vE(a:List BY)(e:BY)(g:Int->AA (List BY))(c:Int):AA (List BY):=br (decide (c<a.length)) (bd (at? a c) fun h=>bd (AQw h e) fun j=>jn (dP a e g c) j) (jn (dP a e g c) false)
def ANR(a:List BY)(c:BY):AA (List BY):=BD (vE a c) big 0
def ADZ:=gZ ASZ Zk Ca ["1E3jCrnl8Ro7vS7A77VfO2k7w6hUFDs6okZLlGCVYEcQcWkjg4WOyKqR9MRSn5or5z2bCoBRJg1Mw2Di","YH8kLGKVYrAAvw"] [AL5] (A4 ANR)
def ALh(a:List BY):AA (List BY):=some a
def vF(c:List BY)(g:List BY×Int->AA (List BY))(q:List BY×Int):AA (List BY):=let (e,a):=q;br (decide (a<(aO c))) (bd (at? c a) fun y=>bd (at? c a) fun h=>bd (ANR e h) fun j=>g (j,w64 (a+1))) (jn ALh e)
def AFT(a:Aw):AA (List BY):=bd (pB a) fun c=>br (!c) (some []) (bd (AQv a) fun e=>BD (vF e) big ([],0))
def ADa:=gZ Zc Zk DA ["YP05y5X9muu92d8JTRowcnbi0ArE29h9CVp4e7s4iedCfbR8KnwIdILtq3nH7tT0PoKAwY8sESaXeLz"] [mH,AL4,ADZ] (Bc AFT)
def vH(c:List BY×Int->AA (List BY))(e:Int)(a:List BY):AA (List BY):=c (a,w64 (e+1))
def vG(e:List AU)(c:List BY×Int->AA (List BY))(g:List BY)(a:Int)(h:Bool):AA (List BY):=br h (bd (at? e a) fun j=>bd (at? e a) fun q=>bd (ANR g (BY.mk j.C7 q.Id)) fun y=>jn (vH c a) y) (jn (vH c a) g)
def ALi(a:List BY):AA (List BY):=some a
def vI(a:List AU)(h:Int)(g:List BY×Int->AA (List BY))(y:List BY×Int):AA (List BY):=let (e,c):=y;br (decide (c<a.length)) (bd (at? a c) fun j=>br (j.State==2) (bd (at? a c) fun q=>jn (vG a g e c) (q.Ab==h)) (jn (vG a g e c) false)) (jn ALi e)
def AQy(a:List AU)(c:Int):AA (List BY):=BD (vI a c) big ([],0)
def AMA:=gZ O2 Zk Ca ["1WIkYJKHjaUU2jr4sjunaqi8kQk7dC5rtZDFpdx8KJE9scBISsTm2sJS73FOPPFP8VPMAve5sVwMHkMo","RD9d4pXancUZCXlVBtr07VV495uhHKdiS0sWM"] [ADZ] (A4 AQy)
def ALj(_:PUnit):AA Bool:=some true
def vJ(c j:List BY)(h:Int->AA Bool)(a:Int):AA Bool:=br (decide (a<c.length)) (bd (at? c a) fun e=>bd (at? j a) fun g=>br (!(e.At==g.At&&(e.Id==g.Id&&true))) (some false) (h (w64 (a+1)))) (jn ALj ())
def AQz(a c:List BY):AA Bool:=br ((↑a.length:Int) != c.length) (some false) (BD (vJ a c) big 0)
def AMB:=gZ ASa C1 Ca ["TmtfzoaNsED3FnBjwUXhMaQfTWzlW1ArceiYjnihkzdjvlq4mZMGRgSVrfX0yBKV0"] [] (A4 AQz)
def uR(c:Int×Int->AA Int)(e a:Int):AA Int:=c (a,w64 (e+1))
def dB(g:List AU)(c:Int×Int->AA Int)(e a:Int)(h:Bool):AA Int:=br h (bd (at? g a) fun j=>jn (uR c a) (w64 (e+j.BE))) (jn (uR c a) e)
def AJW(a:Int):AA Int:=some a
def uS(a:List AU)(h:Int)(g:Int×Int->AA Int)(E:Int×Int):AA Int:=let (e,c):=E;br (decide (c<a.length)) (bd (at? a c) fun j=>br (j.State==2) (bd (at? a c) fun q=>br (q.Ab==h) (bd (at? a c) fun y=>bd (Eh y.BE 1 6) fun B=>jn (dB a g e c) B) (jn (dB a g e c) false)) (jn (dB a g e c) false)) (jn AJW e)
def AQI(a:List AU)(c:Int):AA Int:=BD (uS a c) big (0,0)
def AL0:=gZ O2 C9 Ca ["41A3h1MHlhWjHZNMIPPASKWsUtkzqy9gsQbYCjjYKp8SKt61gKHvord7hRcpV2yUEuRlMYeKP0l4AeDz","XZHu3QK51aomN5nxlBDZi7KkuAPyJIX3ddwIPv"] [Ho] (A4 AQI)
def uV(a:Int×Int->AA Int)(c e:Int):AA Int:=a (e,w64 (c+1))
def uU(g:List AU)(c:Int×Int->AA Int)(e a:Int)(h:Bool):AA Int:=br h (bd (at? g a) fun j=>jn (uV c a) (w64 (e+j.BE))) (jn (uV c a) e)
def AJX(a:Int):AA Int:=some a
def uW(a:List AU)(h:Int)(g:Int×Int->AA Int)(B:Int×Int):AA Int:=let (e,c):=B;br (decide (c<a.length)) (bd (at? a c) fun j=>br (j.Bu==h) (bd (at? a c) fun q=>bd (Eh q.BE 1 6) fun y=>jn (uU a g e c) y) (jn (uU a g e c) false)) (jn AJX e)
def ANH(a:List AU)(c:Int):AA Int:=BD (uW a c) big (0,0)
def AL1:=gZ O2 C9 Ca ["WFSukYxOljWCOiPZuediKiYQBN9E2gLDMZjCWtp3hOHKD9muU4zJsGyR2qqZt89SgbFyVL5yoyoz6y5y","NYjzS2izvDlnHY7"] [Ho] (A4 ANH)
def Tr(a:Bool):AA Bool:=some a
def AWE(g:Aa)(a:Ae)(c:List AU)(e h:Int):AA Bool:=bd (ANO a) fun j=>br j (bd (ANQ g c e h) fun q=>bd (AQx a.Row q) fun y=>br y (bd (AFT a.By) fun B=>bd (AQy c e) fun E=>bd (AQz B E) fun G=>br G (bd (AQI c e) fun H=>br (a.AY.FA==H) (bd (ANH c e) fun I=>jn Tr (a.AY.F8==I)) (jn Tr false)) (jn Tr false)) (jn Tr false)) (jn Tr false)
def ARI:=gZ ASb C1 [.tmp 10] ["5aPalTXYsAUIosEM8yUNqEPmIMfkIUWGjXVvmZCrhbcyp8LTjKH4NvgwgxcvZTMJnOeNmMNUcfAsdnSe","zm2CliN72HGAY80C4voExmJWOaf5I5I9G6sX0X6MAY95ex0quYPfbdj5AeDclGgYJg"] [AL6,ADY,AL9,ADa,AMA,AMB,AL0,AL1] (AVe AWE)
def uX(a:Int×Int->AA Int)(c e:Int):AA Int:=a (e,w64 (c+1))
def AJY(a:Int):AA Int:=some a
def uY(g:List AU)(h:Int)(e:Int×Int->AA Int)(q:Int×Int):AA Int:=let (c,a):=q;br (decide (a<g.length)) (bd (at? g a) fun j=>br (j.Ab==h) (jn (uX e a) (w64 (c+1))) (jn (uX e a) c)) (jn AJY c)
def ANI(a:List AU)(c:Int):AA Int:=BD (uY a c) big (0,0)
def ADT:=gZ O2 C9 Ca ["10oNVcHuayplg9Zn8JzmZJIH1kBMB3Ym7ByqlEAYVvPzjkyrsgz2VO4e9F"] [] (A4 ANI)
def WH(a:Int->AA Bool)(c:Int)(e:Bool):AA Bool:=br e (some false) (a (w64 (c+1)))
def AJZ(_:PUnit):AA Bool:=some true
def uZ(a:AE)(e:Int->AA Bool)(c:Int):AA Bool:=br (decide (c<a.AH.length)) (bd (at? a.AH c) fun q=>bd (at? a.AQ.AY c) fun y=>br (q.AY.Total != y) (jn (WH e c) true) (bd (at? a.AH c) fun g=>bd (AWE a.AQ g a.AG c a.Now) fun h=>br (!h) (jn (WH e c) true) (bd (ANI a.AG c) fun j=>jn (WH e c) (decide (j>a.AQ.Room))))) (jn AJZ ())
def dC(a:AE)(c:Bool):AA Bool:=br c (some false) (BD (uZ a) big 0)
def OV(a:AE)(e:Bool):AA Bool:=br e (some false) (bd (AWF a) fun g=>br (!g) (jn (dC a) true) (bd (AWG a) fun c=>jn (dC a) (!c)))
def eP(a:AE):AA Bool:=bd (ue a.AQ) fun g=>br (!g) (jn (OV a) true) (bd (Eh a.Now 0 1000000) fun c=>br (!c) (jn (OV a) true) (bd (Eh a.A0 1 1000001) fun e=>br (!e) (jn (OV a) true) (br (decide ((↑a.AG.length:Int)>40)) (jn (OV a) true) (jn (OV a) ((↑a.AH.length:Int) != a.AQ.AY.length)))))
def Xf:=gZ Xi C1 DA ["3eSu5GROKbPWaeWI9ddFBmjns6oBQynrRnBdmkZ6VNASAnfgLN2TZ7uJvwu0uccXFGmFZQ58qX8N3713","rxhKQshMLtvGSbR9u8MjqCIITMqLSY3cLo9M3akcqpDwcbuoMn6JqtSaccpl7PaEbBMFhEhcvnlD4xL2","eTTuWtm3HohOzBLuN1R2R4vSxp3ccXOLBXWXYZwKEdIT090KHovu1MZ4ZQeZLXELAXLPEMxRTunx4Yzd","sDKlAzYjlkglSLieN2riJpRKW9VyCbJZX4UHL"] [bU,Ho,ARL,ARb,ARI,ADT] (Bc eP)
def ua(a:Bool):AA Bool:=some a
def cP(a:Bp):AA Bool:=br (decide ((↑a.Data.length:Int)<=20000)) (bd (Eh a.Safe 0 (↑a.Data.length:Int)) fun c=>jn ua c) (jn ua false)
def Xg:=gZ mI C1 DA ["KRl17r2zHG6BKsSWhQoj1u2MCbhLthmM2pCO"] [Ho] (Bc cP)
def dE(a:Bool):AA Bool:=some a
def ANJ(a:BZ):AA Bool:=bd (cP a.Log) fun c=>br c (bd (cP a.DW) fun e=>br e (bd (cP a.Odd) fun g=>jn dE g) (jn dE false)) (jn dE false)
def ADU:=gZ Ma C1 DA ["3L2uYbhIzv2VHbsvwnqDAcZVBFHauizFyn"] [Xg] (Bc ANJ)
def cQ(a:Int):AA Bool:=bd (Eh a 0 9999) fun c=>some c
def ARJ:=gZ O3 C1 DA ["1kBew2JFlZrI14"] [Ho] (Bc cQ)
def Im(a:Bool):AA Bool:=some a
def Ts(a:B3)(e:Bool):AA Bool:=br e (bd (cQ a.Id) fun g=>br g (jn Im (a.Kind==a.Kind&&(a.Id==a.Id&&(a.Ab==0&&(a.Bu==0&&(a.BE==0&&(a.DJ==0&&true))))))) (jn Im false)) (br (a.Kind==3) (bd (cQ a.Ab) fun h=>br h (bd (cQ a.BE) fun c=>br c (jn Im (a.Kind==a.Kind&&(a.Id==0&&(a.Ab==a.Ab&&(a.Bu==0&&(a.BE==a.BE&&(a.DJ==0&&true))))))) (jn Im false)) (jn Im false)) (br (a.Kind==6) (some (a.Kind==a.Kind&&(a.Id==0&&(a.Ab==0&&(a.Bu==0&&(a.BE==0&&(a.DJ==0&&true))))))) (some false)))
def ub(a:B3):AA Bool:=br (a.Kind==1) (bd (cQ a.Id) fun c=>br c (bd (cQ a.Ab) fun e=>br e (bd (Eh a.Bu (-1) 9999) fun g=>br g (bd (cQ a.BE) fun h=>br h (bd (cQ a.DJ) fun j=>jn Im j) (jn Im false)) (jn Im false)) (jn Im false)) (jn Im false)) (br (a.Kind==2) (jn (Ts a) (a.Kind==2)) (br (a.Kind==4) (jn (Ts a) (a.Kind==4)) (br (a.Kind==5) (jn (Ts a) (a.Kind==5)) (jn (Ts a) (a.Kind==7)))))
def sG:=gZ [.v (.st 0)] C1 DA ["1SilKwt3u6peJgiLWUIZDNW9xWorPj2HDj74OgRra77jP6yJyu5SG7vlab2ZP1t0Vl9eVbsUFzoUQ0fU","KPOihRHpAxhnfvvLDYq96mT4gNMeo6em18jsopvOp9xautc89ZBp3d7cguDaIszHwMjmlqSuFJOc4Eoj","pHpayTdbDUY5AOv3Wo7zfSXLDu5birYI08yQB0AwsyELRrDHyHykpT0Z2PTOgjr2cLGxr7H5nYEJeIhc","eYPSrIuYLXBzNhEF3fBkwdblx8nerKdLGzU8"] [ARJ,Ho] (Bc ub)
def AJa(_:PUnit):AA Bool:=some true
def ud(c:Ap)(e:Int->AA Bool)(a:Int):AA Bool:=br (decide (a<c.Laid.length)) (bd (at? c.Laid a) fun g=>bd (ub g) fun h=>br (!h) (some false) (e (w64 (a+1)))) (jn AJa ())
def Tt(a:Ap)(c:Bool):AA Bool:=br c (some false) (BD (ud a) big 0)
def uc(a:Ap):AA Bool:=bd (eP a.BO) fun c=>br (!c) (jn (Tt a) true) (bd (ANJ a.BH) fun e=>br (!e) (jn (Tt a) true) (br (decide ((↑a.Laid.length:Int)>8)) (jn (Tt a) true) (bd (Eh a.Seq (↑a.Laid.length:Int) 1000000) fun g=>jn (Tt a) (!g))))
def sH:=gZ [.v (.st 11)] C1 DA ["1pjU9MRzaZp08i29eKzvO4btLC4vtXWNiI3BqJrxII7KrLQLbfJy6InbvHjDJBTlIogG4QhOHIfX0Xxy","zTA412XHiXRlbOmVBDp0suJZL10gfOhsyCh"] [Xf,ADU,Ho,sG] (Bc uc)
def WL(a:Bool):AA Bool:=some a
def C5(a c e:Int):AA Bool:=br (decide (a>=c)) (jn WL (decide (a<=e))) (jn WL false)
def Et:=gZ ASW C1 Ui ["2AtNPTHuyKmct545u7wlt47Jp"] [] (Gq C5)
def Kc(a:Bool):AA Bool:=some a
def AAf(a:Aa)(_:PUnit):AA Bool:=bd (C5 a.CS 1 5) fun j=>br j (bd (C5 a.Room 1 10) fun q=>br q (bd (C5 a.BE 1 6) fun y=>br y (bd (C5 a.CE 1 12) fun B=>br B (bd (C5 a.Bz 1 8) fun c=>br c (bd (C5 a.CY 1 4) fun e=>br e (bd (C5 a.Cu 1 3) fun g=>br g (bd (C5 a.Rest 0 8) fun h=>jn Kc h) (jn Kc false)) (jn Kc false)) (jn Kc false)) (jn Kc false)) (jn Kc false)) (jn Kc false)) (jn Kc false)
def eV(a:Aa)(e:Int->AA Bool)(c:Int):AA Bool:=br (decide (c<a.AY.length)) (bd (at? a.AY c) fun g=>bd (C5 g 1 60) fun h=>br (!h) (some false) (e (w64 (c+1)))) (jn (AAf a) ())
def WM(a:Aa):AA Bool:=bd (C5 (↑a.AY.length:Int) 1 4) fun c=>br (!c) (some false) (BD (eV a) big 0)
def So:=gZ Su C1 DA ["RZXFWw5EeKqnZClKSF9mrJlX0iQEyuaS9oYdp6UkNBxcUeiID5Jc2BFkqoENWHRq5w1kt6JbCEbCLZwb","5IslYe999TuXuDwXKuB63ZGLTzaWWKRm6mGr8V6nmKxJjcd74EvSZDoZcTk5mKrAIPbGDUVnt3yXFWl8","xU3M1JVZyjf8"] [Et] (Bc WM)
def Mv(a c:Int):AA Bool:=bd (C5 a 0 (w64 (c-1))) fun e=>some e
def Oy:=gZ xS C1 Ca ["9YHcSpIvonGB3Jy"] [Et] (A4 Mv)
def Pc(a:Bool):AA Bool:=some a
def Nn(c:Aa)(a:AU)(e:Int)(g:Bool):AA Bool:=br g (some false) (br (a.State==1) (bd (C5 a.C7 0 (w64 (e+c.Rest))) fun h=>br h (jn Pc true) (br (a.State==2) (bd (C5 a.C7 1 (w64 (e+c.Bz))) fun j=>jn Pc j) (jn Pc false))) (br (a.State==2) (bd (C5 a.C7 1 (w64 (e+c.Bz))) fun q=>jn Pc q) (jn Pc false)))
def MA(c:Aa)(a:AU)(e:Int)(q:Bool):AA Bool:=br q (some false) (bd (C5 a.BE 1 c.BE) fun y=>br (!y) (jn (Nn c a e) true) (bd (Mv a.DJ c.CS) fun B=>br (!B) (jn (Nn c a e) true) (bd (C5 a.Since 0 e) fun g=>br (!g) (jn (Nn c a e) true) (bd (C5 a.A0 1 1000000) fun h=>br (!h) (jn (Nn c a e) true) (bd (Mv a.Dh c.CY) fun j=>jn (Nn c a e) (!j))))))
def eW(c:Aa)(a:AU)(e:Int):AA Bool:=bd (WM c) fun y=>br (!y) (jn (MA c a e) true) (bd (C5 e 0 1000000) fun g=>br (!g) (jn (MA c a e) true) (bd (C5 a.Id 1 999) fun h=>br (!h) (jn (MA c a e) true) (bd (Mv a.Ab (↑c.AY.length:Int)) fun j=>br (!j) (jn (MA c a e) true) (bd (C5 a.Bu (-1) (w64 ((↑c.AY.length:Int)-1))) fun q=>br (!q) (jn (MA c a e) true) (jn (MA c a e) (a.Bu==a.Ab))))))
def ZO:=gZ bW C1 Ui ["9VO2IxyGCC20XY15s7pGXRy3KIu0fS8gdUn1LEXa4WoFg6bnQTBj9eKHT6MAD6IU9s40agdaYxzioBUP","rK4k76lYyHcpegFcPovutmob1hMLWRFSuXYoLo8EVCbtX8tFowu8ZijEA1dXG7dc7GmwmWwvDwjxhhsw","UN4cdOSh6b2Gb8F0Ja9tSt0jtmGBRTTokAfOv4ZU8nCenbxW80WrSEoqRv4d8uaaA5yQdcTqwT1IsCet","liaHDxXpivo3EvLMAGZgXoSOfscMkd"] [So,Et,Oy] (Gq eW)
def eX(a:Int×Int->AA Int)(c e:Int):AA Int:=a (e,w64 (c+1))
def AAg(a:Int):AA Int:=some a
def eY(g:List AU)(h:Int)(e:Int×Int->AA Int)(q:Int×Int):AA Int:=let (c,a):=q;br (decide (a<g.length)) (bd (at? g a) fun j=>br (j.Ab==h) (jn (eX e a) (w64 (c+1))) (jn (eX e a) c)) (jn AAg c)
def po(a:List AU)(c:Int):AA Int:=BD (eY a c) big (0,0)
def kz:=gZ O2 C9 Ca ["3pIk5cohYVTWVeWgzk9ZO8Uqr73zlVd3FeIBeks6vntPfRt2oAru601K0dC73jqs7TcR"] [] (A4 po)
def No(a:Bool):AA Bool:=some a
def MC(a:BI):AA Bool:=bd (C5 a.Total 1 60) fun c=>br c (bd (C5 a.Dv 0 a.Total) fun e=>br e (bd (C5 a.FA 0 a.Total) fun g=>br g (bd (C5 a.Fm 0 a.Total) fun h=>br h (br (w64 (w64 (a.Dv+a.FA)+a.Fm)==a.Total) (bd (C5 a.F8 0 a.Fm) fun j=>jn No j) (jn No false)) (jn No false)) (jn No false)) (jn No false)) (jn No false)
def Oz:=gZ [.v (.st 3)] C1 DA ["JrlrsAnthdMdRSHhvD9OoyiKDROSW7Lv6lkbFI2JMn0J7ECe1MHvl2BIHTIhKvceDnXnkFY4DUpf8kjj","NxjdMx6dYIDNhMCurJdTdJho3wpHctyo"] [Et] (Bc MC)
def AJe(a:Int):AA Bool:=some (a != a)
def AFh:=gZ O3 C1 DA ["1PRMv8o42jb4"] [] (Bc AJe)
def eZ(a c:Int):AA Int:=bd (AJe a) fun g=>bd (AJe c) fun e=>br g (br e (some 0) (some (-1))) (br e (some 1) (br (decide (a<c)) (some (-1)) (br (decide (a>c)) (some 1) (some 0))))
def vY:=gZ xS C9 Ca ["366pSmzPf6SMnKnMKFnfzuIHxjaTAdo191015e0bMHM8BzqEt0kA7SOYUghmonHUp"] [AFh] (A4 eZ)
def Ub(a c:Au):AA Int:=bd (eZ a.Level c.Level) fun e=>br (e != 0) (some e) (bd (eZ a.A0 c.A0) fun g=>some g)
def I9:=gZ ASe C9 Ca ["a89krPHSgGfNvnAY0Fx8RmRTwCAWmUeM5D8Kev"] [vY] (A4 Ub)
def AAh(a c:Au):AA Bool:=bd (Ub a c) fun e=>some (decide (e<0))
def vZ:=gZ ASe C1 Ca ["e5V8Fzkc9NygHidtoG5"] [I9] (A4 AAh)
def AQL(a:Au)(c:Int):AA Bool:=some (a.Id==c)
def lA:=gZ [.v (.st 4),.p .i] C1 [.tmp 3] ["k1S6T1MlK8N4Huj"] [] (A4 AQL)
def AaJ:YF:=⟨[lA],[.v (.l (.st 4)),.f lA.x [(true,.i)]],[0],.ret [.i],[.tmp 4],dY ["PTcrz1k3fh8jPHeQyzzdcX4E9gKPOJE3RkB3mLdl2i8diJAOHArirqvCJ1MQiDSUA"] [] [.D2 16 (.tmp 11) [.v,.p] [.tmp 15]]⟩
def AAi(_:PUnit):AA Int:=some (-1)
def AAj(e:List Au)(a:Int)(g:Int->AA Int)(c:Int):AA Int:=br (decide (c<e.length)) (bd (at? e c) fun h=>bd (AQL h a) fun j=>br j (some c) (g (w64 (c+1)))) (jn AAi ())
def AQM(c:List Au)(a:Int):AA Int:=BD (AAj c a) big 0
def AFi:GF:=AaJ.gf rfl rfl (fun a=>AQM a.1 a.2.1.1) (fun a=>by kernel_rfl)
def AaK:YF:=⟨[lA],[.v (.l (.st 4)),.v .i],[],.ret [.i],[.tmp 4],dY ["PLNwHHCBlm5Ej"] [] [.NC 6 0 [.tmp 3],.call 7 AFi [0] rfl [.tmp 5,.tmp 6]]⟩
def pq(a:List Au)(c:Int):AA Int:=bd (AQM a c) fun e=>some e
def va:GF:=AaK.EI (A4 pq)
end Lv
set_option maxRecDepth 100000
namespace Lv
open Go (IntKind BinOp UnOp)
open Y (YF qn qf qt qr q1 qd qm qa qo ql qL qb qi qx qp qq qc qz qe qk qK qB qw qu qj Kp wn wf wt w1 sw sq sr wm wM wo wO wl wL wk wK wz wZ wx wX wb wB wi wI wr wR wq wQ we wE wc wY wj wh cv ca cx cn ce bl)
def Pd(a:Int->AA Bool)(c:Int)(e:Bool):AA Bool:=br e (some false) (a (w64 (c+1)))
def SH(a:Int->AA Bool)(c:Int)(e:Au)(j:Bool):AA Bool:=br j (some false) (bd (Mv e.Level 5) fun q=>br (!q) (jn (Pd a c) true) (bd (C5 e.A0 1 1000000) fun y=>br (!y) (jn (Pd a c) true) (bd (C5 e.Id 1 999) fun g=>br (!g) (jn (Pd a c) true) (bd (C5 e.BE 1 6) fun h=>jn (Pd a c) (!h)))))
def AAk(_:PUnit):AA Bool:=some true
def eu(c:List Au)(g:Int->AA Bool)(a:Int):AA Bool:=br (decide (a<c.length)) (bd (at? c a) fun e=>br (decide (a>0)) (bd (at? c (w64 (a-1))) fun q=>bd (AAh q e) fun y=>br (!y) (jn (SH g a e) true) (gd (0<=a/\a<=c.length) (bd (pq (an a.toNat c) e.Id) fun h=>jn (SH g a e) (decide (h>=0))))) (gd (0<=a/\a<=c.length) (bd (pq (an a.toNat c) e.Id) fun j=>jn (SH g a e) (decide (j>=0))))) (jn AAk ())
def pt(a:List Au):AA Bool:=br (decide ((↑a.length:Int)>10)) (some false) (BD (eu a) big 0)
def vd:=gZ xQ C1 DA ["2GBqib3X8jntMqVicTwv7lXbaZ1BCt74nZrtzq4MLtv1MllQAfJvtkkOpEmtnaUzbBwD95slSMjPEihi","V2xRBwtthHfWWJFCmsqp8jgSx69TkEkNx4RjKwEsdKHQuC7Ab55bS0u2HosMMMfihhLQw2ko6GfHyRX4","5Ndst1W8zOUG1tAHg5BaznVBGeE21YdgMLlFc"] [vZ,va,Oy,Et] (Bc pt)
def fA(a:Bool):AA Bool:=some a
def pw(a:BY):AA Bool:=bd (C5 a.At 1 1000008) fun c=>br c (bd (C5 a.Id 1 999) fun e=>jn fA e) (jn fA false)
def lB:=gZ [.v (.st 5)] C1 DA ["gZcTTNbzFa0LWCrxYyWVSRL4pmizC"] [Et] (Bc pw)
def SI(a c:BY):AA Int:=bd (eZ a.At c.At) fun e=>br (e != 0) (some e) (bd (eZ a.Id c.Id) fun g=>some g)
def Gi:=gZ [.v (.st 5),.v (.st 5)] C9 Ca ["a89krPHSgGfNvnAY0Fx8RmRTwCAWmUeM5D8Kev"] [vY] (A4 SI)
def SJ(g:((List (Int×Int))×Int×Int)->AA Bool)(e:List (Int×Int))(h j:Int)(a:BY)(c:Bool):AA Bool:=br c (some false) (g (Jf e a.Id (w64 (Mh e a.Id+1)),w64 (h+1),w64 (j+1)))
def AAl(e:((List (Int×Int))×Int×Int)->AA Bool)(g:Int)(h:((List (Int×Int))×Int)):AA Bool:=let (a,c):=h;e (a,c,w64 (g+1))
def fD(G:((List (Int×Int))×Int×Int)->AA Bool)(E:Int)(B:List BY)(h:((List (Int×Int))×Int×Int)->AA Bool)(H:((List (Int×Int))×Int×Int)):AA Bool:=let (e,g,c):=H;br (decide (c<(aO B))) (bd (at? B c) fun a=>bd (pw a) fun j=>br (!j) (jn (SJ h e g c a) true) (br (a.At.tmod 9 != E) (jn (SJ h e g c a) true) (br (decide (c>0)) (bd (at? B (w64 (c-1))) fun q=>bd (SI q a) fun y=>jn (SJ h e g c a) (decide (y>0))) (jn (SJ h e g c a) false)))) (jn (AAl G E) (e,g))
def fB(a:Bool):AA Bool:=some a
def WN(e:((List (Int×Int))×Int)):AA Bool:=let (c,a):=e;br (decide (a<=10)) (jn fB ((↑(aO c):Int)==a)) (jn fB false)
def fC(c:Aw)(h:((List (Int×Int))×Int×Int)->AA Bool)(q:((List (Int×Int))×Int×Int)):AA Bool:=let (e,g,a):=q;br (decide (a<c.Ar.length)) (bd (at? c.Ar a) fun j=>BD (fD h a j) big (e,g,0)) (jn WN (e,g))
def Rg(a:Aw):AA Bool:=br ((↑a.Ar.length:Int) != 9) (some false) (BD (fC a) big ([],0,0))
def VM:=gZ Zc C1 DA ["4be6M2Ubqg4BJlnSw9rtaafzd4SXOC9bc4lsXjT3hMYGXXquykD6XxjnbwQqssN8tFV6xlwkJHTV3GB2","sbI3NkVaeJ2dVhsKoHYcvocF5rrzgiUgMHFaHBg2R7EJxk7UXjfbicOeNZoFhWrbwJpkzIpqm9cwCLfj","U45qGvJBsbZZ7jqMd9qEaPl0viSeVjE7qVdwUnqYxlBKkAQhpVHxoVwcamTAJ5K6DWl6OXAoNQFnFssn","TabyhEWR7g4gE5OjYz3eNZWIO9QEGUz"] [lB,Gi] (Bc Rg) [.mmk 13,.UR 56 (.tmp 53) (.tmp 55),.TG (.tmp 53) (.tmp 55) (.tmp 57),.US 66 (.tmp 65)]
def WO(a:Bool):AA Bool:=some a
def px(a:Ae):AA Bool:=bd (MC a.AY) fun c=>br c (bd (pt a.Row) fun e=>br e (bd (Rg a.By) fun g=>jn WO g) (jn WO false)) (jn WO false)
def ve:=gZ xR C1 DA ["8wdS5Zk3LMVVEb06iWKDO5tDBbtny0Rxx2"] [Oz,vd,VM] (Bc px)
def WQ(a:Aa)(c e:Int)(g:Bool):AA Int:=br g (some (-1)) (gd (a.CE≠0) (some (if true=true then if w64 (c-w64 (e.tdiv a.CE))>0 then w64 (c-w64 (e.tdiv a.CE)) else 0 else if w64 (c-w64 (e.tdiv a.CE))<0 then w64 (c-w64 (e.tdiv a.CE)) else 0)))
def AQN(a:Aa)(c e:Int):AA Int:=bd (WM a) fun g=>br (!g) (jn (WQ a c e) true) (bd (Mv c a.CS) fun h=>br (!h) (jn (WQ a c e) true) (jn (WQ a c e) (decide (e<0))))
def AFj:=gZ [.v (.st 1),.v .i,.v .i] C9 Ui ["2AvDpGgLUIxDzP2CUQ2lAsc5ModNyKjQ061OD84dXi0enB0PDrd9xsEqDsXt"] [So,Oy] (Gq AQN) [.mm 27 true (.k (.int .i64 0)) (.tmp 26)]
def AJf(c:Aa)(a:AU)(e:Int):AA Int:=bd (eW c a e) fun g=>br (!g) (some (-1)) (bd (AQN c a.DJ (w64 (e-a.Since))) fun h=>some h)
def AFk:=gZ bW C9 Ui ["5GspQpuFkfHkxkQ5RQWl1kcUP2aN2FL9qd60kEDpnB4"] [ZO,AFj] (Gq AJf)
def fE(c:Aa)(a:AU)(e:Int)(g:Bool):AA (Au×Bool):=br g (some (Au.mk 0 0 0 0,false)) (bd (AJf c a e) fun h=>some (Au.mk h a.A0 a.Id a.BE,true))
def py(c:Aa)(a:AU)(e:Int):AA (Au×Bool):=bd (eW c a e) fun g=>br (!g) (jn (fE c a e) true) (jn (fE c a e) (a.State != 1))
def lC:=gZ bW (.ret [(.st 4),.b]) [.cell 6 (some 4),.tmp 7] ["6q69fzvCM9pMz7DVFFEyinbpppi1tEet1Pau4vlV9p92EA3EFWEu6cJQtP5aEzCR4x6DU33b5FVROj0n","ILF4SQbwdHrZL5"] [ZO,AFk] (Gq py)
def ER{α:Type}(cmp:α->α->AA Int)(c:((List α)×Int)->AA (List α))(e:Int)(a:List α):AA (List α):=c ((a,w64 (e+1)))
def Dj{α:Type}(cmp:α->α->AA Int)(j:((List α)×Int)->AA (List α))(y:Int)(q:((List α)×Int)->AA (List α))(c:List α)(a:Int)(g:Bool):AA (List α):=br g (bd (at? c (w64 (a-1))) fun B=>bd (at? c (w64 (a-1))) fun e=>bd (at? c a) fun E=>bd (at? c a) fun h=>bd (at? c a) fun G=>bd (at? c a) fun H=>bd (at? (aQ c a.toNat e) (w64 (a-1))) fun I=>bd (at? (aQ c a.toNat e) (w64 (a-1))) fun J=>q (((aQ c a.toNat e).set (w64 (a-1)).toNat h,w64 (a-1)))) (jn (ER cmp j y) c)
def Dl{α:Type}(cmp:α->α->AA Int)(y:Int)(h:((List α)×Int)->AA (List α))(q:Int)(j:((List α)×Int)->AA (List α))(E:((List α)×Int)):AA (List α):=match E with |(c,a)=>br (decide (a>y)) (bd (at? c a) fun G=>bd (at? c a) fun B=>bd (at? c (w64 (a-1))) fun H=>bd (at? c (w64 (a-1))) fun e=>bd (cmp B e) fun g=>jn (Dj cmp h q j c a) (decide (g<0))) (jn (Dj cmp h q j c a) false)
def Dk{α:Type}(cmp:α->α->AA Int)(g:Int)(h:Int)(e:((List α)×Int)->AA (List α))(j:((List α)×Int)):AA (List α):=match j with |(c,a)=>br (decide (a<h)) (BD (Dl cmp g e a) big (c,a)) (some c)
def DQ{α:Type}(cmp:α->α->AA Int)(c:List α)(a:Int)(e:Int):AA (List α):=BD (Dk cmp a e) big ((c,w64 (a+1)))
def Ke{α:Type}(cmp:α->α->AA Int)(e:Int)(g:Int)(q:Int)(j:((List α)×Int)->AA (List α))(G:((List α)×Int)):AA (List α):=match G with |(c,a)=>br (decide (a<q)) (bd (at? c (w64 (g+a))) fun H=>bd (at? c (w64 (g+a))) fun h=>bd (at? c (w64 (e+a))) fun I=>bd (at? c (w64 (e+a))) fun E=>bd (at? c (w64 (e+a))) fun J=>bd (at? c (w64 (e+a))) fun L=>bd (at? (aQ c (w64 (e+a)).toNat h) (w64 (g+a))) fun y=>bd (at? (aQ c (w64 (e+a)).toNat h) (w64 (g+a))) fun B=>j (((aQ c (w64 (e+a)).toNat h).set (w64 (g+a)).toNat E,w64 (a+1)))) (some c)
def Ea{α:Type}(cmp:α->α->AA Int)(a:List α)(c:Int)(e:Int)(g:Int):AA (List α):=BD (Ke cmp c e g) big (a,0)
def Mx{α:Type}(cmp:α->α->AA Int)(a:Int)(h:((List α)×Int)):AA (List α):=match h with |(e,c)=>bd (Ea cmp e (w64 (a-c)) a c) fun g=>some g
def My{α:Type}(cmp:α->α->AA Int)(e:Int)(h:((List α)×Int×Int)->AA (List α))(y:((List α)×Int×Int)):AA (List α):=match y with |(g,a,c)=>br (a != c) (br (decide (a>c)) (bd (Ea cmp g (w64 (e-a)) e c) fun j=>h ((j,w64 (a-c),c))) (bd (Ea cmp g (w64 (e-a)) (w64 (w64 (e+c)-a)) a) fun q=>h ((q,a,w64 (c-a))))) (jn (Mx cmp e) (g,a))
def Hn{α:Type}(cmp:α->α->AA Int)(c:List α)(e:Int)(a:Int)(g:Int):AA (List α):=BD (My cmp a) big ((c,w64 (a-e),w64 (g-a)))
def Gs{α:Type}(cmp:α->α->AA Int)(a:List α):AA (List α):=some a
def LH{α:Type}(cmp:α->α->AA Int)(j:Int)(g:((List α)×Int)->AA (List α))(I:((List α)×Int)):AA (List α):=match I with |(c,a)=>br (decide (a<w64 (j-1))) (bd (at? c (w64 (a+1))) fun q=>bd (at? c (w64 (a+1))) fun e=>bd (at? c a) fun y=>bd (at? c a) fun h=>bd (at? c a) fun B=>bd (at? c a) fun E=>bd (at? (aQ c a.toNat e) (w64 (a+1))) fun G=>bd (at? (aQ c a.toNat e) (w64 (a+1))) fun H=>g (((aQ c a.toNat e).set (w64 (a+1)).toNat h,w64 (a+1)))) (jn (Gs cmp) c)
def LB{α:Type}(cmp:α->α->AA Int)(a:List α)(c:Int)(e:Int):AA (List α):=BD (LH cmp e) big (a,c)
def LG{α:Type}(cmp:α->α->AA Int)(e:List α)(g:Int)(h:(Int×Int)->AA (List α))(B:(Int×Int)):AA (List α):=match B with |(a,c)=>br (decide (a<c)) (bd (at? e (w64 (D4 (Go.IntKind.u64.wrap (w64 (a+c))) 1))) fun E=>bd (at? e (w64 (D4 (Go.IntKind.u64.wrap (w64 (a+c))) 1))) fun j=>bd (at? e g) fun G=>bd (at? e g) fun q=>bd (cmp j q) fun y=>br (decide (y<0)) (h ((w64 (w64 (D4 (Go.IntKind.u64.wrap (w64 (a+c))) 1)+1),c))) (h ((a,w64 (D4 (Go.IntKind.u64.wrap (w64 (a+c))) 1))))) (jn (LB cmp e g) a)
def LJ{α:Type}(cmp:α->α->AA Int)(h:Int)(g:((List α)×Int)->AA (List α))(I:((List α)×Int)):AA (List α):=match I with |(c,a)=>br (decide (a>h)) (bd (at? c (w64 (a-1))) fun q=>bd (at? c (w64 (a-1))) fun e=>bd (at? c a) fun y=>bd (at? c a) fun j=>bd (at? c a) fun B=>bd (at? c a) fun E=>bd (at? (aQ c a.toNat e) (w64 (a-1))) fun G=>bd (at? (aQ c a.toNat e) (w64 (a-1))) fun H=>g (((aQ c a.toNat e).set (w64 (a-1)).toNat j,w64 (a-1)))) (jn (Gs cmp) c)
def LD{α:Type}(cmp:α->α->AA Int)(c:List α)(e:Int)(a:Int):AA (List α):=BD (LJ cmp a) big (c,e)
def LI{α:Type}(cmp:α->α->AA Int)(g:List α)(h:Int)(e:(Int×Int)->AA (List α))(G:(Int×Int)):AA (List α):=match G with |(a,c)=>br (decide (a<c)) (bd (at? g h) fun B=>bd (at? g h) fun j=>bd (at? g (w64 (D4 (Go.IntKind.u64.wrap (w64 (a+c))) 1))) fun E=>bd (at? g (w64 (D4 (Go.IntKind.u64.wrap (w64 (a+c))) 1))) fun q=>bd (cmp j q) fun y=>br (!decide (y<0)) (e ((w64 (w64 (D4 (Go.IntKind.u64.wrap (w64 (a+c))) 1)+1),c))) (e ((a,w64 (D4 (Go.IntKind.u64.wrap (w64 (a+c))) 1))))) (jn (LD cmp g h) a)
def IA{α:Type}(cmp:α->α->AA Int)(rE:List α->Int->Int->Int->AA (List α))(j:Int)(q:Int)(c:Int)(e:Int)(a:List α)(g:Bool):AA (List α):=br g (bd (rE a (w64 (D4 (Go.IntKind.u64.wrap (w64 (j+c))) 1)) (w64 (w64 (w64 (D4 (Go.IntKind.u64.wrap (w64 (j+c))) 1)+q)-e)) c) fun h=>some h) (some a)
def GH{α:Type}(cmp:α->α->AA Int)(rE:List α->Int->Int->Int->AA (List α))(e:Int)(h:Int)(c:Int)(a:Int)(g:List α):AA (List α):=br (decide (w64 (D4 (Go.IntKind.u64.wrap (w64 (e+c))) 1)<w64 (w64 (w64 (D4 (Go.IntKind.u64.wrap (w64 (e+c))) 1)+h)-a))) (jn (IA cmp rE e h c a g) (decide (w64 (w64 (w64 (D4 (Go.IntKind.u64.wrap (w64 (e+c))) 1)+h)-a)<c))) (jn (IA cmp rE e h c a g) false)
def H9{α:Type}(cmp:α->α->AA Int)(rE:List α->Int->Int->Int->AA (List α))(e:Int)(q:Int)(g:Int)(a:Int)(c:List α)(h:Bool):AA (List α):=br h (bd (rE c e a (w64 (D4 (Go.IntKind.u64.wrap (w64 (e+g))) 1))) fun j=>jn (GH cmp rE e q g a) j) (jn (GH cmp rE e q g a) c)
def GG{α:Type}(cmp:α->α->AA Int)(rE:List α->Int->Int->Int->AA (List α))(e:Int)(h:Int)(g:Int)(a:Int)(c:List α):AA (List α):=br (decide (e<a)) (jn (H9 cmp rE e h g a c) (decide (a<w64 (D4 (Go.IntKind.u64.wrap (w64 (e+g))) 1)))) (jn (H9 cmp rE e h g a c) false)
def H8{α:Type}(cmp:α->α->AA Int)(rE:List α->Int->Int->Int->AA (List α))(q:List α)(e:Int)(c:Int)(g:Int)(a:Int)(h:Bool):AA (List α):=br h (bd (Hn cmp q a c (w64 (w64 (w64 (D4 (Go.IntKind.u64.wrap (w64 (e+g))) 1)+c)-a))) fun j=>jn (GG cmp rE e c g a) j) (jn (GG cmp rE e c g a) q)
def H7{α:Type}(cmp:α->α->AA Int)(rE:List α->Int->Int->Int->AA (List α))(h:List α)(e:Int)(c:Int)(g:Int)(a:Int):AA (List α):=br (decide (a<c)) (jn (H8 cmp rE h e c g a) (decide (c<w64 (w64 (w64 (D4 (Go.IntKind.u64.wrap (w64 (e+g))) 1)+c)-a)))) (jn (H8 cmp rE h e c g a) false)
def Kf{α:Type}(cmp:α->α->AA Int)(rE:List α->Int->Int->Int->AA (List α))(g:List α)(h:Int)(j:Int)(q:Int)(e:(Int×Int)->AA (List α))(I:(Int×Int)):AA (List α):=match I with |(a,c)=>br (decide (a<c)) (bd (at? g (w64 (w64 (w64 (w64 (D4 (Go.IntKind.u64.wrap (w64 (h+q))) 1)+j)-1)-w64 (D4 (Go.IntKind.u64.wrap (w64 (a+c))) 1)))) fun G=>bd (at? g (w64 (w64 (w64 (w64 (D4 (Go.IntKind.u64.wrap (w64 (h+q))) 1)+j)-1)-w64 (D4 (Go.IntKind.u64.wrap (w64 (a+c))) 1)))) fun y=>bd (at? g (w64 (D4 (Go.IntKind.u64.wrap (w64 (a+c))) 1))) fun H=>bd (at? g (w64 (D4 (Go.IntKind.u64.wrap (w64 (a+c))) 1))) fun B=>bd (cmp y B) fun E=>br (!decide (E<0)) (e ((w64 (w64 (D4 (Go.IntKind.u64.wrap (w64 (a+c))) 1)+1),c))) (e ((a,w64 (D4 (Go.IntKind.u64.wrap (w64 (a+c))) 1))))) (jn (H7 cmp rE g h j q) a)
def GD{α:Type}(cmp:α->α->AA Int)(rE:List α->Int->Int->Int->AA (List α))(e:List α)(g:Int)(h:Int)(j:Int)(q:(Int×Int)):AA (List α):=match q with |(a,c)=>BD (Kf cmp rE e g h j) big (a,c)
def LF{α:Type}(cmp:α->α->AA Int)(rE:List α->Int->Int->Int->AA (List α))(g:List α)(a:Int)(e:Int)(c:Int)(_:PUnit):AA (List α):=br (decide (e>w64 (D4 (Go.IntKind.u64.wrap (w64 (a+c))) 1))) (jn (GD cmp rE g a e c) ((w64 (w64 (w64 (D4 (Go.IntKind.u64.wrap (w64 (a+c))) 1)+e)-c),w64 (D4 (Go.IntKind.u64.wrap (w64 (a+c))) 1)))) (jn (GD cmp rE g a e c) (a,e))
def LC{α:Type}(cmp:α->α->AA Int)(rE:List α->Int->Int->Int->AA (List α))(c:List α)(e:Int)(a:Int)(g:Int)(_:PUnit):AA (List α):=br (w64 (g-a)==1) (BD (LI cmp c a) big (e,a)) (jn (LF cmp rE c e a g) ())
def Fi{α:Type}(cmp:α->α->AA Int)(rE:List α->Int->Int->Int->AA (List α))(e:List α)(a:Int)(c:Int)(g:Int):AA (List α):=br (w64 (c-a)==1) (BD (LG cmp e a) big (c,g)) (jn (LC cmp rE e a c g) ())
def Hi{α:Type}(cmp:α->α->AA Int)(mrg:List α->Int->Int->Int->AA (List α))(e:((List α)×Int)->AA (List α))(a:Int)(c:List α):AA (List α):=e ((c,w64 (a*2)))
def Mz{α:Type}(cmp:α->α->AA Int)(mrg:List α->Int->Int->Int->AA (List α))(j:Int)(h:((List α)×Int)->AA (List α))(a:Int)(q:((List α)×Int)):AA (List α):=match q with |(e,c)=>br (decide (w64 (c+a)<j)) (bd (mrg e c (w64 (c+a)) j) fun g=>jn (Hi cmp mrg h a) g) (jn (Hi cmp mrg h a) e)
def M0{α:Type}(cmp:α->α->AA Int)(mrg:List α->Int->Int->Int->AA (List α))(q:Int)(y:((List α)×Int)->AA (List α))(c:Int)(h:((List α)×Int×Int)->AA (List α))(B:((List α)×Int×Int)):AA (List α):=match B with |(g,e,a)=>br (decide (a<=q)) (bd (mrg g e (w64 (e+c)) a) fun j=>h ((j,a,w64 (a+w64 (2*c))))) (jn (Mz cmp mrg q y c) (g,e))
def F4{α:Type}(cmp:α->α->AA Int)(mrg:List α->Int->Int->Int->AA (List α))(e:Int)(g:((List α)×Int)->AA (List α))(h:((List α)×Int)):AA (List α):=match h with |(c,a)=>br (decide (a<e)) (BD (M0 cmp mrg e g a) big ((c,0,w64 (2*a)))) (some c)
def Hh{α:Type}(cmp:α->α->AA Int)(mrg:List α->Int->Int->Int->AA (List α))(a:Int)(h:((List α)×Int)):AA (List α):=match h with |(c,e)=>bd (DQ cmp c e a) fun g=>BD (F4 cmp mrg a) big (g,20)
def F3{α:Type}(cmp:α->α->AA Int)(mrg:List α->Int->Int->Int->AA (List α))(c:Int)(h:((List α)×Int×Int)->AA (List α))(q:((List α)×Int×Int)):AA (List α):=match q with |(e,g,a)=>br (decide (a<=c)) (bd (DQ cmp e g a) fun j=>h ((j,a,w64 (a+20)))) (jn (Hh cmp mrg c) (e,g))
def GU{α:Type}(cmp:α->α->AA Int)(mrg:List α->Int->Int->Int->AA (List α))(a:List α)(c:Int):AA (List α):=BD (F3 cmp mrg c) big (a,0,20)
def AaL:YF:=⟨[I9],[.m (.l (.st 4)),.v .i,.v .i,.f I9.x []],[0],.ret [],[],dY ["3TnPxCSOy47hlvGl7ECaaXXBy6NrThqDmYoZsKaUh0Hm8V2pFnjd4oYG0UCM3PpwqBfyurm8QAIPQtP4","RPhqvR4ltdWvADD8bVoJx1QlheBIP4Km16bzUYK8NAIA62XbgksPuFZMidqOqi8rr7C"] [] [.D2 32 (.tmp 22) [.v,.v] [.tmp 26,.tmp 31]]⟩
def AJg(a:List Au)(c e:Int):AA (List Au):=DQ Ub a c e
def vf:GF:=AaL.EI (Gq AJg)
def AaM:YF:=⟨[I9],[.m (.l (.st 4)),.v .i,.v .i,.v .i,.f I9.x []],[0],.ret [],[],dY ["BqyXuHi6e1xgFaVvwxeXIAda147MdXUvtXi3LGNSuk7x20l133XPOcMZzj4PWm9V5DMLBt6ZJ52o"] []⟩
def AZV(a:List Au)(c e g:Int):AA (List Au):=Ea Ub a c e g
def lD:GF:=AaM.EI (Vv AZV)
def AaN:YF:=⟨[I9],[.m (.l (.st 4)),.v .i,.v .i,.v .i,.f I9.x []],[0],.ret [],[],dY ["AELt0ffmNJDmWtExbzgbdytIiE8ZLeXydXytRz5dVVSDidzcUq4IAfYyDjLczBezp0UQbLKZOTUtT6Kc","2uZSRlXxRbfw5graRF5Bh0OaRqy0POrc"] [] [.call 31 lD [0] rfl [.tmp 24,.tmp 27,.tmp 28,.tmp 29,.tmp 30],.call 46 lD [0] rfl [.tmp 35,.tmp 38,.tmp 43,.tmp 44,.tmp 45],.call 57 lD [0] rfl [.tmp 50,.tmp 53,.tmp 54,.tmp 55,.tmp 56]]⟩
def AZW(a:List Au)(c e g:Int):AA (List Au):=Hn Ub a c e g
def VN:GF:=AaN.EI (Vv AZW)
abbrev oT:=zq [.m (.l (.st 4)),.v .i,.v .i,.v .i,.f I9.x []] (.ret [])
def ANK(rE:oT)(a:List Au)(c e g:Int):AA (List Au):=rE.d (a,c,e,g,(),())
def AaO(rE:oT):YF:=⟨[I9],[.m (.l (.st 4)),.v .i,.v .i,.v .i,.f I9.x []],[0],.ret [],[],dY ["5dSdxZMznFy20kd6sBLUjI9eIwGUihMZfBOeqCe3oOMBMuhiJr6ENJ51X3OTG71lguYqahw6R69ep95s","bo1HPZ2IIvBuwtBK8y6myuVHz75M6WoIoGL2q2XebfBV19FZuJm4U5AH0X2sxPIOgHMTKlsamSacVM7A","hYuWHDqL2LazkfwXwhYCsq6X53gUoJtkUSpahrfR4XEMxCOfzrUCCMaDbd3D2E5eLYDzuJKfyDG3rOhU","cxwkAeqNZOpGGaoo4kEWD0ROhSq5jqL9wgIoC79yNUMrzphFIu3CH4l7dKoh9uZBiZmwZ4eGvURZuE3J","AUI8LzUMOiHunyD7Jw8smKQOHPlWcTZoGvaOsJK3DAAc4m963ko24HGHpoXdM4aHJ94o4j2D6pp6WLB5","4zm597F6sF6DEpALtxQLRxpFGTUReGps6D6to53m2UL2OstiNa9yS2pPoNT0AY5K2vEjhZtWmOuo11BQ","Nq27Gw8ImGDbyRu5zY4J3XLpDohJSpfdbRNJF5cj6JnlNPlP3hvAPSXDHpMcUgKCYvjQKtJ24JbB4qth","PG5lOFfMBv4dqg42oLjOaYyS99ldZpmiD1WnlxFnf3I1esXFbeJiE7oxjzv7Npo27DbagO3e40FbMhMp","tFhgF2xY4pVP9hnDTjeMxrhrBA12Rl1daRg"] [] [.D2 49 (.tmp 40) [.v,.v] [.tmp 44,.tmp 48],.D2 101 (.tmp 92) [.v,.v] [.tmp 96,.tmp 100],.D2 169 (.tmp 158) [.v,.v] [.tmp 164,.tmp 168],.call 191 VN [0] rfl [.tmp 186,.tmp 187,.tmp 188,.tmp 189,.tmp 190],.call 205 rE.gf [0] rfl [.tmp 200,.tmp 201,.tmp 202,.tmp 203,.tmp 204],.call 219 rE.gf [0] rfl [.tmp 214,.tmp 215,.tmp 216,.tmp 217,.tmp 218]]⟩
def AYD(rE:oT)(a:List Au)(c e g:Int):AA (List Au):=Fi Ub (ANK rE) a c e g
def AFa(rE:oT):GF:=(AaO rE).gf rfl rfl (fun a=>AYD rE a.1 a.2.1 a.2.2.1 a.2.2.2.1) (fun a=>by kernel_rfl)
def Ro:Nat->oT|0=>.nil _ _|k+1=>.of (AFa (Ro k))
def AQO(a:List Au)(c e g:Int):AA (List Au):=(Ro 7).d (a,c,e,g,(),())
def ZP:GF:=(Ro 7).gf
def AaP:YF:=⟨[I9],[.m (.l (.st 4)),.v .i,.f I9.x []],[0],.ret [],[],dY ["bu10SYm11Ey5wtVomN5cXT4Mx8maKnbnIr327GDMTUxJxHOLmJIwqvNl5NizeYYCYuJu7xPAn5YoAxiR","jnMz8ZzEVk5GXPeBzQB84UWGR9VqEUVUmladEYfYouRyRJYnjpfYp9vEwtRssuYbGouyt5Mv8JQGIZzY","obJ72KSUaEk1m1eYwhPY"] [] [.call 18 vf [0] rfl [.tmp 14,.tmp 15,.tmp 16,.tmp 17],.call 27 vf [0] rfl [.tmp 23,.tmp 24,.tmp 25,.tmp 26],.call 43 ZP [0] rfl [.tmp 36,.tmp 37,.tmp 40,.tmp 41,.tmp 42],.call 60 ZP [0] rfl [.tmp 55,.tmp 56,.tmp 57,.tmp 58,.tmp 59]]⟩
def AJh(a:List Au)(c:Int):AA (List Au):=GU Ub AQO a c
def AFl:GF:=AaP.EI (A4 AJh)
def AaC:YF:=⟨[I9],[.m (.l (.st 4)),.f I9.x []],[0],.ret [],[],dY ["10jjJFMBcfY9"] [] [.call 8 AFl [0] rfl [.tmp 4,.tmp 6,.tmp 7]]⟩
def pn(a:List Au):AA (List Au):=bd (AJh a (↑a.length:Int)) fun c=>some c
def AFc:GF:=AaC.EI (Bc pn)
def AaD:YF:=⟨[I9],[.v (.st 1),.v (.l (.st 2)),.v .i,.v .i],[],.ret [(.l (.st 4))],[.tmp 8],dY ["TY1pEvBKWo77ImP6x1rZ0hc9s1zdEEmVrCLszmEpwGNkG55Xv09bQhzAFKLoWLsxu7AGN0iXt1ptRHnY","SCmHZnK4j3fMxjRgZsR47rxCP2hhs8bzsxxpcqNfq9xQ7Qoz3U5zoGGQLEM8VOl"] [lC] [.call 40 AFc [0] rfl [.tmp 39,.fn 0]]⟩
def WJ(a:List Au×Int->AA (List Au))(c:Int)(e:List Au):AA (List Au):=a (e,w64 (c+1))
def WI(c:List Au×Int->AA (List Au))(a:List Au)(e:Int)(g:Au×Bool)(h:Bool):AA (List Au):=br h (gd (aO a+[g.fst].length<=lim) (jn (WJ c e) (a++[g.fst]))) (jn (WJ c e) a)
def SF(a:List Au):AA (List Au):=bd (pn a) fun c=>some c
def SG(q:Aa)(h:List AU)(y B:Int)(g:List Au×Int->AA (List Au))(E:List Au×Int):AA (List Au):=let (c,a):=E;br (decide (a<h.length)) (bd (at? h a) fun j=>bd (py q j B) fun e=>br e.snd (jn (WI g c a e) (j.Ab==y)) (jn (WI g c a e) false)) (jn SF c)
def aw(a:Aa)(c:List AU)(e g:Int):AA (List Au):=BD (SG a c e g) big ([],0)
def ku:GF:=AaD.EI (Vv aw)
def AAa(_:PUnit):AA Bool:=some true
def eQ(g j:List Au)(h:Int->AA Bool)(a:Int):AA Bool:=br (decide (a<g.length)) (bd (at? g a) fun c=>bd (at? j a) fun e=>br (!(c.Level==e.Level&&(c.A0==e.A0&&(c.Id==e.Id&&(c.BE==e.BE&&true))))) (some false) (h (w64 (a+1)))) (jn AAa ())
def AAZ(a c:List Au):AA Bool:=br ((↑a.length:Int) != c.length) (some false) (BD (eQ a c) big 0)
def vX:=gZ ASY C1 Ca ["5DrmYRcvDd2JXOt59QHLTMI9ifwEd5AKJMjcDgJbNQWnxKEmtrkC5Dtj2DTtmHsihe52EL0alDIx"] [] (A4 AAZ)
def eT(g:Int×Int):AA Int:=let (a,c):=g;bd (α:=UInt8) (at? [0,1,2,2,3,3,3,3,4,4,4,4,4,4,4,4,5,5,5,5,5,5,5,5,5,5,5,5,5,5,5,5,6,6,6,6,6,6,6,6,6,6,6,6,6,6,6,6,6,6,6,6,6,6,6,6,6,6,6,6,6,6,6,6,7,7,7,7,7,7,7,7,7,7,7,7,7,7,7,7,7,7,7,7,7,7,7,7,7,7,7,7,7,7,7,7,7,7,7,7,7,7,7,7,7,7,7,7,7,7,7,7,7,7,7,7,7,7,7,7,7,7,7,7,7,7,7,7,8,8,8,8,8,8,8,8,8,8,8,8,8,8,8,8,8,8,8,8,8,8,8,8,8,8,8,8,8,8,8,8,8,8,8,8,8,8,8,8,8,8,8,8,8,8,8,8,8,8,8,8,8,8,8,8,8,8,8,8,8,8,8,8,8,8,8,8,8,8,8,8,8,8,8,8,8,8,8,8,8,8,8,8,8,8,8,8,8,8,8,8,8,8,8,8,8,8,8,8,8,8,8,8,8,8,8,8,8,8,8,8,8,8,8,8,8,8,8,8,8,8,8,8,8,8,8,8] (↑(toB a).toNat:Int)) fun e=>some (w64 (c+w64 (↑e.toNat:Int)))
def eS(e:Int×Int):AA Int:=let (a,c):=e;br (decide (a>=256)) (jn eT (D4 a 8,w64 (c+8))) (jn eT (a,c))
def eR(e:Int×Int):AA Int:=let (a,c):=e;br (decide (a>=65536)) (jn eS (D4 a 16,w64 (c+16))) (jn eS (a,c))
def AQJ(a:Int):AA Int:=br (decide (a>=4294967296)) (jn eR (D4 a 32,32)) (jn eR (a,0))
def AFd:=gZ [.v (.ki .u64)] C9 DA ["5tiNmrQZKznxe4z2UzayLQWxZg2WttpdIq4ZIROdUZ4xvJfm6o79XXBpBy4Zn6t3ZZ0ehnorOrEdYaov","35Uwoptr2Msg84kMMIGtNKrRs"] [] (Bc AQJ) [.ix 22 (.k (.str [0,1,2,2,3,3,3,3,4,4,4,4,4,4,4,4,5,5,5,5,5,5,5,5,5,5,5,5,5,5,5,5,6,6,6,6,6,6,6,6,6,6,6,6,6,6,6,6,6,6,6,6,6,6,6,6,6,6,6,6,6,6,6,6,7,7,7,7,7,7,7,7,7,7,7,7,7,7,7,7,7,7,7,7,7,7,7,7,7,7,7,7,7,7,7,7,7,7,7,7,7,7,7,7,7,7,7,7,7,7,7,7,7,7,7,7,7,7,7,7,7,7,7,7,7,7,7,7,8,8,8,8,8,8,8,8,8,8,8,8,8,8,8,8,8,8,8,8,8,8,8,8,8,8,8,8,8,8,8,8,8,8,8,8,8,8,8,8,8,8,8,8,8,8,8,8,8,8,8,8,8,8,8,8,8,8,8,8,8,8,8,8,8,8,8,8,8,8,8,8,8,8,8,8,8,8,8,8,8,8,8,8,8,8,8,8,8,8,8,8,8,8,8,8,8,8,8,8,8,8,8,8,8,8,8,8,8,8,8,8,8,8,8,8,8,8,8,8,8,8,8,8,8,8,8,8])) (.tmp 21)]
def AJb(a:Int):AA Int:=bd (AQJ a) fun c=>some c
def AFe:=gZ [.v (.ki .u64)] C9 DA ["1SjmXAA3YXhYXqaoEu"] [AFd] (Bc AJb)
def AaE:YF:=⟨[Gi],[.m (.l (.st 5)),.v .i,.v .i,.f Gi.x []],[0],.ret [],[],dY ["1UolbJTFMadMvWf9X0lyNkZ07VzzciVRc24phTKrApS3fCa34qNiOvhhH189nGNpPbxXHiieFCvS0kMZ","nf9j5DKbxTcFVUZBvnIhADTidi6BhQLLuOSlj5WRU1xmtBtRHX9wfpn3gchdrhP3i"] [] [.D2 32 (.tmp 22) [.v,.v] [.tmp 26,.tmp 31]]⟩
def AAb(a:List BY)(c e:Int):AA (List BY):=DQ SI a c e
def kv:GF:=AaE.EI (Gq AAb)
def AaF:YF:=⟨[Gi],[.m (.l (.st 5)),.v .i,.v .i,.v .i,.f Gi.x []],[0],.ret [],[],dY ["QGwSD5LICTbe01HSDO9SbSK46laq1rAhoPkQQ5SjjEEcBoWGKRx67cT0Rh0a4D67uSGHbj0AIfXx3rSS","aaSfz1z0CbLdhltvyBjAhoOwazWkhWr0okB52yzK8zLwwEAOr6qOclfYN56n0QgrwCUr7zpDxJAfGXOT","9SMEb3qXkwG0ZOLvAs1ZwVNGFC6oate4ko0D9DiMpS48lI9jq51B5UuGc7nAQOKKNntk7TfBSW4U63qr","s5TPmiKyh3cLwUO3vvSV7URLOY7P7gdtMJX7RCOk6vtvqhW9OS5815e9ToSTklUKcgXgEKh4ppTKKnU5","Ay4V20YYSpgEvj8M53rNwYVl88Gtd1MfKgDOdJDoDXIaSv3YwAgsVFt5Jy2GaxxNwQtF1hnEM1mDqXFg","ZbV0q5Sx2I2fgeueQXwow3ktuJ6GBI0MW"] [] [.call 30 kv [0] rfl [.tmp 26,.tmp 27,.tmp 28,.tmp 29],.bad (some 37),.bad (some 44),.bad (some 52),.bad (some 61),.bad (some 80),.bad (some 94),.bad (some 103),.bad (some 111),.bad (some 134),.bad (some 146)]⟩
def AAc(e:List BY)(a c g:Int)(j:PUnit->AA (List BY))(_:PUnit):AA (List BY):=br (decide (w64 (c-a)<=12)) (bd (AAb e a c) fun h=>some h) (br (g==0) none none)
def AQK(a:List BY)(c e g:Int):AA (List BY):=BD (AAc a c e g) big ()
def AFf:GF:=AaF.EI (Vv AQK)
def AaG:YF:=⟨[Gi],[.m (.l (.st 5)),.f Gi.x []],[0],.ret [],[],dY ["lfg5sQ5wIybUEbApBoQJG"] [AFe] [.call 13 AFf [0] rfl [.tmp 7,.k (.int .i64 0),.tmp 8,.tmp 11,.tmp 12]]⟩
def AJc(a:List BY):AA (List BY):=bd (AJb (Go.IntKind.u64.wrap (↑a.length:Int))) fun c=>bd (AQK a 0 (↑a.length:Int) c) fun e=>some e
def AFg:GF:=AaG.EI (Bc AJc)
def AaH:YF:=⟨[Gi],[.v (.st 6)],[],.ret [(.l (.st 5))],[.tmp 2],dY ["1R1cZ6VF7q61tiXOCQBfv48DEKuFP9YOlsSBvhOZO2MJG11qJKA60tZ0lnrLbDz1SXmWcDr1rXHVjqEU","228"] [VM] [.call 21 AFg [0] rfl [.tmp 20,.fn 0]]⟩
def AAd(a:List BY):AA (List BY):=bd (AJc a) fun c=>some c
def AAe(e:Aw)(h:List BY×Int->AA (List BY))(j:List BY×Int):AA (List BY):=let (a,c):=j;br (decide (c<e.Ar.length)) (bd (at? e.Ar c) fun g=>gd (aO a+aO g<=lim) (h (a++g,w64 (c+1)))) (jn AAd a)
def eU(a:Aw):AA (List BY):=bd (Rg a) fun c=>br (!c) (some []) (BD (AAe a) big ([],0))
def kx:GF:=AaH.EI (Bc eU)
def AaI:YF:=⟨[Gi],[.m (.l (.st 5)),.v .i,.v .i,.v .i,.f Gi.x []],[0],.ret [],[],dY ["25TPCDKNbHsCngo7JobXaOM9MasiRaD2Lglw6Viex1UwhwAD82hQRn5Ncx9LGBIJYhjNx3T75Cq"] []⟩
def AZU(a:List BY)(c e g:Int):AA (List BY):=Ea SI a c e g
def ky:GF:=AaI.EI (Vv AZU)
def AaT:YF:=⟨[Gi],[.m (.l (.st 5)),.v .i,.v .i,.v .i,.f Gi.x []],[0],.ret [],[],dY ["4ktWMTMckxXB9uQIULNGTTSWeXjENlvYSt7gQiPY7bIN1vHFCnZIh8Iwjpx7EbpSzkz1rU1kQcYz8mvk","NdsOu3j3xl9HdzZm1nbuwHWa7JzkW5MS"] [] [.call 31 ky [0] rfl [.tmp 24,.tmp 27,.tmp 28,.tmp 29,.tmp 30],.call 46 ky [0] rfl [.tmp 35,.tmp 38,.tmp 43,.tmp 44,.tmp 45],.call 57 ky [0] rfl [.tmp 50,.tmp 53,.tmp 54,.tmp 55,.tmp 56]]⟩
def AZX(a:List BY)(c e g:Int):AA (List BY):=Hn SI a c e g
def VP:GF:=AaT.EI (Vv AZX)
abbrev oU:=zq [.m (.l (.st 5)),.v .i,.v .i,.v .i,.f Gi.x []] (.ret [])
def ANL(rE:oU)(a:List BY)(c e g:Int):AA (List BY):=rE.d (a,c,e,g,(),())
def AaU(rE:oU):YF:=⟨[Gi],[.m (.l (.st 5)),.v .i,.v .i,.v .i,.f Gi.x []],[0],.ret [],[],dY ["5TZ6NIUTLrE9yMTLADQNYSjasEpAfjueSldNDhDbl4w4fazO5PdkTfF7MPb0kZbzrAHYuHpxcGYlff5x","eARqViumImKZPmsWzJrvew2Vz5XxGA29tdoVCfCKXfGKT1ie2nVvbr6BbridTLYLKYXKuG5mbIyFu9Lu","CmeZW8hh8SLb1hhWhpsEWMT1tU2CjUTQsp4XRu5Nu9ohsnYVI4bGTqr2yB3w5iPUvEBjdA16PcCeKBZK","ARefJnXpkc8BaNiqz3xYGdVh7T9Wsnniz5Jduv3n6d048btBEnRnudWxHgnI3n1QJPqxl9dtYWZx7jEE","Cr3ldn50NNcwNcOJPPGzo71IYymTPChi32RhdKgycEX7rrqA2MZN4rzsCPtJKJj0mjilqBwGEYwOqLSh","7ZQlcvqeipDT1dnw1aFMwo3ZwkEkbJDdlxoqAR3snsfreIOI6xMBKMmYU9QT9vLgD4nPPT5ssi1AOvTe","ZFDrvFgP0eDyj56SRs204Ss6niF44U8KLzcsnW5DiXWypZBHEvY4pTPlWTQl3ULbSSJpG2uQMUHE6PHg","LDLlm06Bj6z0th3xASPU3aUalmy5SWuVNdJ1zuCvdBSeNnvcxTvzwIZlBt8il8fTTTrM9MqoYLfM6xzV","H4ZBkpMm9JKkf0CeqEK1CNxM274BVk"] [] [.D2 49 (.tmp 40) [.v,.v] [.tmp 44,.tmp 48],.D2 101 (.tmp 92) [.v,.v] [.tmp 96,.tmp 100],.D2 169 (.tmp 158) [.v,.v] [.tmp 164,.tmp 168],.call 191 VP [0] rfl [.tmp 186,.tmp 187,.tmp 188,.tmp 189,.tmp 190],.call 205 rE.gf [0] rfl [.tmp 200,.tmp 201,.tmp 202,.tmp 203,.tmp 204],.call 219 rE.gf [0] rfl [.tmp 214,.tmp 215,.tmp 216,.tmp 217,.tmp 218]]⟩
def AYE(rE:oU)(a:List BY)(c e g:Int):AA (List BY):=Fi SI (ANL rE) a c e g
def AFb(rE:oU):GF:=(AaU rE).gf rfl rfl (fun a=>AYE rE a.1 a.2.1 a.2.2.1 a.2.2.2.1) (fun a=>by kernel_rfl)
def Rp:Nat->oU|0=>.nil _ _|k+1=>.of (AFb (Rp k))
def AQW(a:List BY)(c e g:Int):AA (List BY):=(Rp 7).d (a,c,e,g,(),())
def ZQ:GF:=(Rp 7).gf
def AaV:YF:=⟨[Gi],[.m (.l (.st 5)),.v .i,.f Gi.x []],[0],.ret [],[],dY ["3o5jrwQ8SBJJCpQvfHGrSf1lR6lb9Dwt8b6OoDs7COyIPJ4Gsq6cTwQaOm995pgQhNGQAbThqYCC0CDn","piiZRtg54gl2FWEKvjuGqI5ghXab3znDu4xQUe1sWcmrCF5e9Y7OAXIHEjgQl0tObXtsV1EqSGF9RYNV","5QJ66GKgjn14Rc6ADE0b"] [] [.call 18 kv [0] rfl [.tmp 14,.tmp 15,.tmp 16,.tmp 17],.call 27 kv [0] rfl [.tmp 23,.tmp 24,.tmp 25,.tmp 26],.call 43 ZQ [0] rfl [.tmp 36,.tmp 37,.tmp 40,.tmp 41,.tmp 42],.call 60 ZQ [0] rfl [.tmp 55,.tmp 56,.tmp 57,.tmp 58,.tmp 59]]⟩
def AJl(a:List BY)(c:Int):AA (List BY):=GU SI AQW a c
def AFs:GF:=AaV.EI (A4 AJl)
def AaW:YF:=⟨[Gi],[.m (.l (.st 5)),.f Gi.x []],[0],.ret [],[],dY ["10jjJFMBcfY9"] [] [.call 8 AFs [0] rfl [.tmp 4,.tmp 6,.tmp 7]]⟩
def qC(a:List BY):AA (List BY):=bd (AJl a (↑a.length:Int)) fun c=>some c
def AFt:GF:=AaW.EI (Bc qC)
def AaX:YF:=⟨[Gi],[.v (.l (.st 2)),.v .i],[],.ret [(.l (.st 5))],[.tmp 4],dY ["1wXKN7PEVb3xrAHDswIs1GRMBG7pTjbSxBuKLfJMDinmhhV5XiXXXPDeIUTGjIt88GQhPjfr1vIi517d","KqxQ2myj9H4GyQs7ehYgw08id1nzuU"] [] [.call 33 AFt [0] rfl [.tmp 32,.fn 0]]⟩
def WV(a:List BY×Int->AA (List BY))(c:Int)(e:List BY):AA (List BY):=a (e,w64 (c+1))
def WU(e:List BY×Int->AA (List BY))(c:List BY)(g:Int)(a:AU)(h:Bool):AA (List BY):=br h (gd (aO c+[BY.mk a.C7 a.Id].length<=lim) (jn (WV e g) (c++[BY.mk a.C7 a.Id]))) (jn (WV e g) c)
def SK(a:List BY):AA (List BY):=bd (qC a) fun c=>some c
def SL(h:List AU)(j:Int)(g:List BY×Int->AA (List BY))(q:List BY×Int):AA (List BY):=let (e,a):=q;br (decide (a<h.length)) (bd (at? h a) fun c=>br (c.State==2) (jn (WU g e a c) (c.Ab==j)) (jn (WU g e a c) false)) (jn SK e)
def fM(a:List AU)(c:Int):AA (List BY):=BD (SL a c) big ([],0)
def vi:GF:=AaX.EI (A4 fM)
def AAv(_:PUnit):AA Bool:=some true
def fN(c j:List BY)(h:Int->AA Bool)(a:Int):AA Bool:=br (decide (a<c.length)) (bd (at? c a) fun e=>bd (at? j a) fun g=>br (!(e.At==g.At&&(e.Id==g.Id&&true))) (some false) (h (w64 (a+1)))) (jn AAv ())
def AAu(a c:List BY):AA Bool:=br ((↑a.length:Int) != c.length) (some false) (BD (fN a c) big 0)
def vj:=gZ ASa C1 Ca ["RR1Xa6CJLDhR9njEwPv0cVrBSjcTC5CCeBmQm3XP0H3WtTn1kbVTspopsNbe0aaiaKHGjZNHRvg"] [] (A4 AAu)
def fP(a:Int×Int->AA Int)(c e:Int):AA Int:=a (e,w64 (c+1))
def WW(a:Int×Int->AA Int)(c e:Int)(h:AU)(g:Bool):AA Int:=br g (jn (fP a e) (w64 (c+h.BE))) (jn (fP a e) c)
def AAw(a:Int):AA Int:=some a
def fQ(h:List AU)(j:Int)(g:Int×Int->AA Int)(y:Int×Int):AA Int:=let (e,c):=y;br (decide (c<h.length)) (bd (at? h c) fun a=>br (a.State==2) (br (a.Ab==j) (bd (C5 a.BE 1 6) fun q=>jn (WW g e c a) q) (jn (WW g e c a) false)) (jn (WW g e c a) false)) (jn AAw e)
def fO(a:List AU)(c:Int):AA Int:=BD (fQ a c) big (0,0)
def vk:=gZ O2 C9 Ca ["2gcVEe51T28f1oYdtHsVlPC4Dfzcwk0zcJYTXpjODfRSZvAPtscepqNuZIZOQ4vUlMvhttQ9YOHKJk4t","t80d5Eub6mDcKkskQ9e5OSbh4"] [Et] (A4 fO)
def fS(a:Int×Int->AA Int)(c e:Int):AA Int:=a (e,w64 (c+1))
def fR(a:Int×Int->AA Int)(c e:Int)(h:AU)(g:Bool):AA Int:=br g (jn (fS a e) (w64 (c+h.BE))) (jn (fS a e) c)
def AAx(a:Int):AA Int:=some a
def fT(h:List AU)(j:Int)(g:Int×Int->AA Int)(y:Int×Int):AA Int:=let (e,a):=y;br (decide (a<h.length)) (bd (at? h a) fun c=>br (c.Bu==j) (bd (C5 c.BE 1 6) fun q=>jn (fR g e a c) q) (jn (fR g e a c) false)) (jn AAx e)
def ax(a:List AU)(c:Int):AA Int:=BD (fT a c) big (0,0)
def vm:=gZ O2 C9 Ca ["AZfwSdBwEDXGEfNiD6r4BECMdp4rQd1jVZs8sH1uoETYdCZLpSuo4gX7ETesOtSQtbSvuLeC7Dy3m4cS","6dwxCGXad"] [Et] (A4 ax)
def Pe(a:Bool):AA Bool:=some a
def AJm(g:Aa)(a:Ae)(c:List AU)(e h:Int):AA Bool:=bd (px a) fun j=>br j (bd (aw g c e h) fun q=>bd (AAZ a.Row q) fun y=>br y (bd (eU a.By) fun B=>bd (fM c e) fun E=>bd (AAu B E) fun G=>br G (bd (fO c e) fun H=>br (a.AY.FA==H) (bd (ax c e) fun I=>jn Pe (a.AY.F8==I)) (jn Pe false)) (jn Pe false)) (jn Pe false)) (jn Pe false)
def AFu:=gZ ASb C1 [.tmp 10] ["5aPalTXYsAUIosEM8yUNqEPmIMfkIUWGjXVvmZCrhbcyp8LTjKH4NvgwgxcvZTMJnOeNmMNUcfAsdnSe","zm2CliN72HGAY80C4voExmJWOaf5I5I9G6sX0X6MAY95ex0quYPfbdj5AeDclGgYJg"] [ve,ku,vX,kx,vi,vj,vk,vm] (AVe AJm)
def AAy(_:PUnit):AA Int:=some (-1)
def fU(c:List Int)(g:Int)(e:Int->AA Int)(a:Int):AA Int:=br (decide (a<c.length)) (bd (at? c a) fun h=>br (g==h) (some a) (e (w64 (a+1)))) (jn AAy ())
def AQX(a:List Int)(c:Int):AA Int:=BD (fU a c) big 0
def AFv:=gZ sK C9 Ca ["6x8rRkj8ZRULKCXepxeRJDHoocau7LgFXSZki1bkRdHxfRODinej1hASj"] [] (A4 AQX)
def qD(a:List Int)(c:Int):AA Bool:=bd (AQX a c) fun e=>some (decide (e>=0))
def lG:=gZ sK C1 Ca ["jv0x0zQjwAhDKe"] [AFv] (A4 qD)
def ME(c:Int->AA Bool)(e:Int)(a:Bool):AA Bool:=br a (some false) (c (w64 (e+1)))
def AAz(a:Int->AA Bool)(c:Int)(_:PUnit):AA Bool:=a (w64 (c+1))
def fW(j:AE)(q:Int->AA Bool)(h:Int)(e:AU)(g:Int->AA Bool)(c:Int):AA Bool:=br (decide (c<(an h.toNat j.AG).length)) (bd (at? (an h.toNat j.AG) c) fun a=>br (e.A0==a.A0) (jn (ME g c) true) (br (decide (e.A0<a.A0)) (br (decide (e.Since>a.Since)) (jn (ME g c) true) (br (decide (a.A0<e.A0)) (jn (ME g c) (decide (a.Since>e.Since))) (jn (ME g c) false))) (br (decide (a.A0<e.A0)) (jn (ME g c) (decide (a.Since>e.Since))) (jn (ME g c) false)))) (jn (AAz q h) ())
def Pf(c:AE)(e:Int->AA Bool)(a:Int)(h:AU)(g:Bool):AA Bool:=br g (some false) (gd (0<=a/\a<=c.AG.length) (BD (fW c e a h) big 0))
def SM(a:Int->AA Bool)(c:Int)(e:Bool):AA Bool:=br e (some false) (a (w64 (c+1)))
def Y0(a:Int->AA Bool)(c:Int)(e:Bool):AA Bool:=br e (some false) (a (w64 (c+1)))
def qE(_:PUnit):AA Bool:=some true
def Y2(e:AE)(c:Int->AA Bool)(a:Int):AA Bool:=br (decide (a<e.A9.length)) (bd (at? e.A9 a) fun g=>bd (C5 g (-1) (w64 ((↑e.AQ.AY.length:Int)-1))) fun h=>br (!h) (some false) (c (w64 (a+1)))) (jn qE ())
def Tx(a:AE)(_:PUnit):AA Bool:=BD (Y2 a) big 0
def Y1(c:AE)(e:Int->AA Bool)(a:Int):AA Bool:=br (decide (a<c.BB.length)) (bd (at? c.BB a) fun g=>bd (Mv g (↑c.AQ.AY.length:Int)) fun h=>br (!h) (jn (Y0 e a) true) (gd (0<=a/\a<=c.BB.length) (bd (qD (an a.toNat c.BB) g) fun j=>jn (Y0 e a) j))) (jn (Tx c) ())
def Tw(a:AE)(_:PUnit):AA Bool:=BD (Y1 a) big 0
def fY(c:AE)(e:Int->AA Bool)(a:Int):AA Bool:=br (decide (a<c.AH.length)) (bd (at? c.AH a) fun g=>bd (at? c.AQ.AY a) fun h=>br (g.AY.Total != h) (jn (SM e a) true) (bd (po c.AG a) fun j=>br (decide (j>c.AQ.Room)) (jn (SM e a) true) (bd (AJm c.AQ g c.AG a c.Now) fun q=>jn (SM e a) (!q)))) (jn (Tw c) ())
def WX(a:AE)(_:PUnit):AA Bool:=BD (fY a) big 0
def fV(a:AE)(g:Int->AA Bool)(c:Int):AA Bool:=br (decide (c<a.AG.length)) (bd (at? a.AG c) fun e=>bd (eW a.AQ e a.Now) fun j=>br (!j) (jn (Pf a g c e) true) (br (decide (e.A0>=a.A0)) (jn (Pf a g c e) true) (br (decide (c>0)) (bd (at? a.AG (w64 (c-1))) fun h=>jn (Pf a g c e) (decide (h.Id>=e.Id))) (jn (Pf a g c e) false)))) (jn (WX a) ())
def MD(a:AE)(c:Bool):AA Bool:=br c (some false) (br (decide ((↑a.AG.length:Int)>40)) (some false) (BD (fV a) big 0))
def Rh(a:AE):AA Bool:=bd (WM a.AQ) fun g=>br (!g) (jn (MD a) true) (bd (C5 a.Now 0 1000000) fun c=>br (!c) (jn (MD a) true) (bd (C5 a.A0 1 1000001) fun e=>br (!e) (jn (MD a) true) (br ((↑a.AH.length:Int) != a.AQ.AY.length) (jn (MD a) true) (jn (MD a) ((↑a.A9.length:Int) != a.AQ.Cu)))))
def Qs:=gZ Xi C1 DA ["AsK1l70bHuvcQoyvxzDVmM8eK9vehcrJCtN508BUJlkavChOeZ67GSyJi1cGfeKMI1lh4xCuvEHwxX7s","lIOCPBpQEVUCRVClD86pJhDo35z0l7mr7Co0TpPpP6102yHdQmZmod88GTZUeKn5pyQmQzJu5Uo8BMJO","Msj2mzGViUbGZtf9GtX1vQsUvNZ6gXFU0T771f9hQxgSyZwOAuTQBdOXS0RVt6uwnyv4V3puqyiq79zb","2paP9yVcTgDu6u00N92uDdjneIR8ubDELW5MNHWgD6pvClIxtHtSMOuNZhMI6RqPeQGoiTUP2WQROgUS","BXHJRo2OM9vgZBvhQjOuGPLvbeB6uRKUDCA5Ozpe5dewhVcgYKCqZcG03yRFKL03a3cL5y9X6cglKRgy","wgScROgnwJPFMJBioTEiRL01BqjG8iLfBSf9czLUyr6Y6brqBUIKyVZVPOZFaedmYhmsuRKxEwzcgddJ","7dYSN7e92rYK83V2QGKl8IM1eqNtAufdPh3Z9K1q9SOE6cFexn9hV6m0Sv0yU3cZ3YaD91msVfIgvQZm","tYDgUwfo8F9RkwPDodSNbj6SRJPk8jh4z2pM0q6Matx0iVUzvvdo4W2ER5g2SglBis0WIqkBXMyuwtlI","O3krBdpMeJr7sHJKymfm6aq0qINcPvMZ7UjYc9RT4ezOkXZeWCdbT30D4r0GOaaJqR856daRgbXU3rkw","SvwToF4YQKP3opJAcEj"] [So,Et,ZO,kz,AFu,Oy,lG] (Bc Rh) [.as 10 (.tmp 182),.as 11 (.tmp 184),.as 13 (.tmp 204)]
def fZ(a:Bool):AA Bool:=some a
def Pg(a:Bp):AA Bool:=br (decide ((↑a.Data.length:Int)<=20000)) (bd (C5 a.Safe 0 (↑a.Data.length:Int)) fun c=>jn fZ c) (jn fZ false)
def Qt:=gZ mI C1 DA ["KRl17r2zHG6BKsSWhQoj1u2MCbhLthmM2pCO"] [Et] (Bc Pg)
def WY(a:Bool):AA Bool:=some a
def AA0(a:BZ):AA Bool:=bd (Pg a.Log) fun c=>br c (bd (Pg a.DW) fun e=>br e (bd (Pg a.Odd) fun g=>jn WY g) (jn WY false)) (jn WY false)
def vn:=gZ Ma C1 DA ["3L2uYbhIzv2VHbsvwnqDAcZVBFHauizFyn"] [Qt] (Bc AA0)
def Ri(a:Int):AA Bool:=bd (C5 a 0 9999) fun c=>some c
def AFw:=gZ O3 C1 DA ["1kBew2JFlZrI14"] [Et] (Bc Ri)
def AaY:YF:=⟨[AFw],[.v (.st 0)],[],.ret [.b],[.tmp 2],dY ["2W1a1DCEI4JKt9eMZT2fY9trhFGYbQmljWCKl6we3npHplSQDm4byCmdpZAeofO8Em50vV0xtBr8VW6W","x3LaCNkZJp29qCw93AQRPdHIwwKiegHl2kL8XnPx0d96AaNx8pofB1xthMDApyyEt8C3KrEAlziqot6c","sicVWS3W7eFWREsinrg5kQyttnwMx1y0d3txojlL7VJSXDFYUo5pCU2IPA2HxXACVU0p06DdyIlWZSjB","TlLpt4ctsMLUBSwIfnClSMvs5hFBbNvyG4Pr2mOfUTbWw2Se3zdkbXSxCcX6zJkiVsj8R"] [Et] [.as 3 (.fn 0),.D2 11 (.tmp 8) [.v] [.tmp 10],.D2 16 (.tmp 13) [.v] [.tmp 15],.D2 27 (.tmp 24) [.v] [.tmp 26],.D2 33 (.tmp 30) [.v] [.tmp 32],.D2 43 (.tmp 40) [.v] [.tmp 42],.D2 58 (.tmp 55) [.v] [.tmp 57],.D2 63 (.tmp 60) [.v] [.tmp 62]]⟩
def G9(a:Bool):AA Bool:=some a
def Ph(a:B3)(e:Bool):AA Bool:=br e (bd (Ri a.Id) fun g=>br g (jn G9 (a.Kind==a.Kind&&(a.Id==a.Id&&(a.Ab==0&&(a.Bu==0&&(a.BE==0&&(a.DJ==0&&true))))))) (jn G9 false)) (br (a.Kind==3) (bd (Ri a.Ab) fun h=>br h (bd (Ri a.BE) fun c=>br c (jn G9 (a.Kind==a.Kind&&(a.Id==0&&(a.Ab==a.Ab&&(a.Bu==0&&(a.BE==a.BE&&(a.DJ==0&&true))))))) (jn G9 false)) (jn G9 false)) (br (a.Kind==6) (some (a.Kind==6&&(a.Id==0&&(a.Ab==0&&(a.Bu==0&&(a.BE==0&&(a.DJ==0&&true))))))) (some false)))
def WZ(a:B3):AA Bool:=br (a.Kind==1) (bd (Ri a.Id) fun c=>br c (bd (Ri a.Ab) fun e=>br e (bd (C5 a.Bu (-1) 9999) fun g=>br g (bd (Ri a.BE) fun h=>br h (bd (Ri a.DJ) fun j=>jn G9 j) (jn G9 false)) (jn G9 false)) (jn G9 false)) (jn G9 false)) (br (a.Kind==2) (jn (Ph a) (a.Kind==2)) (br (a.Kind==4) (jn (Ph a) (a.Kind==4)) (br (a.Kind==5) (jn (Ph a) (a.Kind==5)) (jn (Ph a) (a.Kind==7)))))
def ZR:GF:=AaY.EI (Bc WZ)
def AbV(_:PUnit):AA Bool:=some true
def yd(c:Ap)(e:Int->AA Bool)(a:Int):AA Bool:=br (decide (a<c.Laid.length)) (bd (at? c.Laid a) fun g=>bd (WZ g) fun h=>br (!h) (some false) (e (w64 (a+1)))) (jn AbV ())
def cw(a:Ap)(c:Bool):AA Bool:=br c (some false) (BD (yd a) big 0)
def AbR(a:Ap):AA Bool:=bd (Rh a.BO) fun c=>br (!c) (jn (cw a) true) (bd (AA0 a.BH) fun e=>br (!e) (jn (cw a) true) (br (decide ((↑a.Laid.length:Int)>8)) (jn (cw a) true) (bd (C5 a.Seq (↑a.Laid.length:Int) 1000000) fun g=>jn (cw a) (!g))))
def WG(a c:B3):AA Bool:=br (a.Kind != c.Kind) (some false) (br (a.Id != c.Id) (some false) (br (a.Ab != c.Ab) (some false) (br (a.Bu != c.Bu) (some false) (br (a.BE != c.BE) (some false) (br (a.DJ != c.DJ) (some false) (some true))))))
def Wa(a:Aa):AA (List Int):=bd (ue a) fun c=>br (!c) (some []) (gd ([a.CS,a.Room,a.BE,a.CE,a.Bz,a.Rest,a.CY,a.Cu].length+a.AY.length<=lim) (some ([a.CS,a.Room,a.BE,a.CE,a.Bz,a.Rest,a.CY,a.Cu]++a.AY)))
def VQ:=gZ Su AbZ DA ["6A9wT52YYtxjBOcFXyyydyYb9ELFUfSxWb5KohSkce3GWYD1DyRjiaxteHj8"] [bU] (Bc Wa)
def Afb(a:List Int):AA (List Int):=some a
def AdB(h:AE)(g:List Int×Int->AA (List Int))(j:List Int×Int):AA (List Int):=let (a,c):=j;br (decide (c<h.A9.length)) (bd (at? h.A9 c) fun e=>gd (aO a+[w64 (e+1)].length<=lim) (g (a++[w64 (e+1)],w64 (c+1)))) (jn Afb a)
def Ab3(c:AE)(a:List Int):AA (List Int):=gd (a.length+[(↑c.BB.length:Int)].length<=lim) (gd ((a++[(↑c.BB.length:Int)]).length+c.BB.length<=lim) (BD (AdB c) big (a++[(↑c.BB.length:Int)]++c.BB,0)))
def AdA(e:AE)(h:List Int×Int->AA (List Int))(j:List Int×Int):AA (List Int):=let (g,a):=j;br (decide (a<e.AH.length)) (bd (at? e.AH a) fun c=>gd (aO g+[c.AY.Dv].length<=lim) (h (g++[c.AY.Dv],w64 (a+1)))) (jn (Ab3 e) g)
def Ab2(a:AE)(c:List Int):AA (List Int):=BD (AdA a) big (c,0)
def Ac9(c:AE)(h:List Int×Int->AA (List Int))(j:List Int×Int):AA (List Int):=let (e,g):=j;br (decide (g<c.AG.length)) (bd (at? c.AG g) fun a=>gd (aO e+[a.Id,a.Ab,w64 (a.Bu+1),a.BE,a.DJ,a.Since,a.A0,a.State,a.C7,a.Dh].length<=lim) (h (e++[a.Id,a.Ab,w64 (a.Bu+1),a.BE,a.DJ,a.Since,a.A0,a.State,a.C7,a.Dh],w64 (g+1)))) (jn (Ab2 c) e)
def AJn(a:AE):AA (List Int):=bd (eP a) fun e=>br (!e) (some []) (bd (Wa a.AQ) fun c=>gd ([(↑(aO c):Int)].length+aO c<=lim) (gd (([(↑(aO c):Int)]++c).length+[a.Now,a.A0,(↑a.AG.length:Int)].length<=lim) (BD (Ac9 a) big ([(↑(aO c):Int)]++c++[a.Now,a.A0,(↑a.AG.length:Int)],0))))
def ARK:=gZ Xi AbZ DA ["6Ai03fscBCflsiWPnHyGqYFgUcwAn4P31bUO07SlQBJwj0d0ItTzlYMcKUbl4tZCSFIema0Z8mICzNfU","qlpLIQWlWcgQ3IJxVtl6uBrA9CreNckZh7uXYvS9Glvpo9yKsoD5mS2cpQ24QpG5SDxaXic6ZckJixY0","tyaYxO3gMEC7wKPy0TJ4kBA0luf9jxM6dBAzCu4fF9dXG4qlx7BtY8urkY95L07dzwGNCyMUUieLjISH","Bke1wuHCefjMeVybuQp7zs5Pr1IHOCJbJY1fJHzWz0sDaKJ3arVbNT3PsKBSXbT0VZayb"] [Xf,VQ] (Bc AJn)
def Wb(e:Int×List UInt8):AA (List UInt8):=let (a,c):=e;gd (c.length+[toB a].length<=lim) (some (c++[toB a]))
def fc(e:Int×List UInt8->AA (List UInt8))(g:Int×List UInt8):AA (List UInt8):=let (a,c):=g;br (decide (a>127)) (gd (c.length+[toB (w64 (Int.tmod a 128+128))].length<=lim) (e (w64 (Int.tdiv a 128),c++[toB (w64 (Int.tmod a 128+128))]))) (jn Wb (a,c))
def AA2(a:Int):AA (List UInt8):=bd (Eh a 0 2147483647) fun c=>br (!c) (some []) (BD fc big (a,[]))
def AFx:=gZ O3 N0 DA ["LPWkl0zH4QD5nwPLDyTfRW0Gazfr1YIcnhtoJeu5pYYqVvccDPXQUz6Y372GvOjknY1QPEpdgxT3lTJH","BpH6c"] [Ho] (Bc AA2)
def AA4(a:List UInt8):AA (List UInt8):=some a
def AA5(e:List Int)(h:List UInt8×Int->AA (List UInt8))(q:List UInt8×Int):AA (List UInt8):=let (a,c):=q;br (decide (c<e.length)) (bd (at? e c) fun j=>bd (AA2 j) fun g=>gd (aO a+aO g<=lim) (h (a++g,w64 (c+1)))) (jn AA4 a)
def fk(a:List Int):AA (List UInt8):=BD (AA5 a) big ([],0)
def AFy:=gZ Acr AbN DA ["HAOiUVSIgcDbKNjsAUIYmmbOpLaC52h5V02FWcyqMvyFojza1eLXcCDtrtBvOO"] [AFx] (Bc fk)
def AdC(a:Int×Int->AA Int)(c e:Int):AA Int:=a (e,w64 (c+1))
def Afc(a:Int×Int->AA Int)(c e:Int):AA Int:=a (e,w64 (c+1))
def AdD(g:Int×Int->AA Int)(h:Int)(e:Int×Int->AA Int)(j:Int×Int):AA Int:=let (a,c):=j;br (decide (c<8)) (br (Int.tmod a 2==1) (jn (AdC e c) (UY (w64 (Int.tdiv a 2)) 3988292384)) (jn (AdC e c) (w64 (Int.tdiv a 2)))) (jn (Afc g h) a)
def Afd(a:Int):AA Int:=some (UY a 4294967295)
def fq(c:List UInt8)(g:Int×Int->AA Int)(j:Int×Int):AA Int:=let (e,a):=j;br (decide (a<c.length)) (bd (at? c a) fun h=>BD (AdD g a) big (UY e (w64 (↑(UInt8.toNat h):Int)),0)) (jn Afd e)
def az(a:List UInt8):AA Int:=BD (fq a) big (4294967295,0)
def AFz:=gZ Acs C9 DA ["Dy2jB7GjF2PCc5Yi84vgD4Gn5JxxYVoM19rqd3V9ySY7T7Ol3WCnVKHmT4ud48ia4s60HZ8dKOy6SceJ","Nvsdkcn747CzbxAxdUC16jHD5mIl3XNxnMmKeyOb"] [] (Bc az)
def AA7(a:Int):AA (List UInt8):=some ([toB (D4 a 24),toB (D4 a 16),toB (D4 a 8),toB a])
def AF0:=gZ O3 AbN DA ["DmVsPfEJK78kr6j769PUrs8nwQJDy3UMtabkv97Rd"] [] (Bc AA7)
def AdE(h:AE)(c:Int)(j:Bool):AA (List UInt8):=br j (some []) (bd (AJn h) fun e=>gd ([c].length+aO e<=lim) (bd (fk ([c]++e)) fun a=>bd (az a) fun q=>bd (AA7 q) fun g=>gd (aO g+aO a<=Mn) (some (g++a))))
def ABA(a:AE)(c:Int):AA (List UInt8):=bd (eP a) fun e=>br (!e) (jn (AdE a c) true) (bd (Eh c 0 1000000) fun g=>jn (AdE a c) (!g))
def AF1:=gZ Zf AbN Ca ["4NcgB6hW7hjJdGAvdjyn7hkDxcWRw0Qrw9rEtb522mnnQVJEYYyFpWYQ7oYLzm"] [Xf,Ho,ARK,AFy,AFz,AF0] (A4 ABA) [.MY 21 (.tmp 20)]
end Lv
