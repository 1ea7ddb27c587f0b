/- Functions of the program as typed texts and as plain functions. -/
import Derived.Test.YtcmjfplpdjflnaaGreatTCb
open List renaming set->an,take->c5,length->e8,drop->e9
noncomputable section
set_option linter.unusedVariables false
set_option linter.unusedSimpArgs false
set_option linter.unusedSectionVars false
set_option maxRecDepth 100000
namespace Lv
open Go (IntKind BinOp UnOp)
open Y (YF qn qf qt qr q1 qd qm qa qo ql qL qb qi qx qp qq qc qz qe qk qK qB qw qu qj Kp wn wf wt w1 sw sq sr wm wM wo wO wl wL wk wK wz wZ wx wX wb wB wi wI wr wR wq wQ we wE wc wY wj wh cv ca cx cn ce bl)
def AVq(a:List Int)(c:Int):AA Int:=br (decide (w64 (c-(↑a.length:Int))<0)) (some (-1)) (some (w64 (c-(↑a.length:Int))))
def AOq:=gZ ZH Cv B5 ["4YViOrYNXmYtZkbIcnstQEVgGV"] [] (Aq AVq)
def AVr(c:Aa)(e:Int):AA Int:=bd (AVq c.AW e) fun a=>br (decide (a<0)) (some (-1)) (some a)
def AXT:=gZ [.v (.st 1),.v .i] Cv B5 ["mfaJfiCn108fYJL71ssQwG1y1VS"] [AOq] (Aq AVr)
def AGh(a:List Int):AA (List Int):=some a
def pg(e:List Int)(g:List Int×Int->AA (List Int))(j:List Int×Int):AA (List Int):=let (c,a):=j;br (decide (a<e.length)) (bd (at? e a) fun h=>bd (at? c a) fun q=>bd (at? c a) fun y=>g (an c a.toNat h,w64 (a+1))) (jn AGh c)
def ANn(a:List Int):AA (List Int):=gd (0<=(↑a.length:Int)/\(↑a.length:Int)<=lim) (A3 (pg a) big (List.replicate (↑a.length:Int).toNat 0,0))
def AO2:=gZ iN RW DM ["1COJX7vKZx3Av0jF13TuthYYAlc4UCNLKmW8mZCSWOVr8RVWfSJHAcezGQreU"] [] (Bm ANn) [.O1 7 .i (.tmp 6)]
def AC4(a:Aa):AA Aa:=bd (ANn a.AW) fun c=>some (Aa.mk c a.Cb a.Room a.BA a.CG a.B1 a.Rest a.Ca a.Cx)
def AXU:=gZ Oq ASG ASR ["4yJViZ6rzT6sM6GvH6srpA0VGLsvt23qTSfZD30wCL6Tq3gLGn3TVfTX0zlZUITCAtpPrfsOjTrVi5L"] [AO2] (Bm AC4)
def AYB(a:Bp):AA Bp:=some a
def AXV:=gZ AJK (.ret [(.st 0)]) [.cell 2 (some 6)] ["5oEGoV4gdYQ1WnYkogpKhJgPGj4bF2QEG3UUEpCW1DbfBeEu9Y93HU"] [] (Bm AYB)
def Z7(a:Bool):AA Bool:=some a
def EE(a c e:Int):AA Bool:=br (decide (a>=c)) (jn Z7 (decide (a<=e))) (jn Z7 false)
def G3:=gZ AES CK N3 ["BcB63RSQuLGwXma0gJ9wnmZzx"] [] (GI EE)
def VS(a:Bool):AA Bool:=some a
def AHc(a:Aa)(_:PUnit):AA Bool:=bd (EE a.B1 1 8) fun e=>br e (bd (EE a.Rest 0 8) fun g=>br g (bd (EE a.Ca 1 4) fun h=>br h (bd (EE a.Cx 1 3) fun c=>jn VS c) (jn VS false)) (jn VS false)) (jn VS false)
def ph(a:Aa)(e:Int->AA Bool)(c:Int):AA Bool:=br (decide (c<a.AW.length)) (bd (at? a.AW c) fun g=>bd (EE g 1 60) fun h=>br (!h) (some false) (e (w64 (c+1)))) (jn (AHc a) ())
def Ph(a:Aa)(c:Bool):AA Bool:=br c (some false) (A3 (ph a) big 0)
def zN(a:Aa):AA Bool:=bd (EE (↑a.AW.length:Int) 1 4) fun j=>br (!j) (jn (Ph a) true) (bd (EE a.Cb 1 5) fun c=>br (!c) (jn (Ph a) true) (bd (EE a.Room 1 10) fun e=>br (!e) (jn (Ph a) true) (bd (EE a.BA 1 6) fun g=>br (!g) (jn (Ph a) true) (bd (EE a.CG 1 12) fun h=>jn (Ph a) (!h)))))
def nO:=gZ Oq CK DM ["3y6NSqgJTM2iDU7s48VhFk4eO4ZSV1Len7T2ihkUV1rcZyi0XezvLDczIWgi5yJRSPEB2zXZzy0r6EtC","HVuWGHijgp8vLlsKJQ8mrCcmjxDA524C3XFm5IESKzsKvfo8dsCxUowLp5mWOKCA4z5AyoAroBQTo0PT","K9JyLdgzB0PGFwOcjpxJ2T"] [G3] (Bm zN)
def SU(a:Bool):AA Bool:=some a
def Pj(c:Aa)(a:AN)(e:Int)(g:Bool):AA Bool:=br g (some false) (br (a.State==1) (bd (EE a.Cq 0 (w64 (e+c.Rest))) fun h=>br h (jn SU true) (br (a.State==2) (bd (EE a.Cq 1 (w64 (e+c.B1))) fun j=>jn SU j) (jn SU false))) (br (a.State==2) (bd (EE a.Cq 1 (w64 (e+c.B1))) fun q=>jn SU q) (jn SU false)))
def Na(c:Aa)(a:AN)(e:Int)(q:Bool):AA Bool:=br q (some false) (bd (EE a.BA 1 c.BA) fun y=>br (!y) (jn (Pj c a e) true) (bd (EE a.Co 0 (w64 (c.Cb-1))) fun B=>br (!B) (jn (Pj c a e) true) (bd (EE a.Since 0 e) fun g=>br (!g) (jn (Pj c a e) true) (bd (EE a.Az 1 1000000) fun h=>br (!h) (jn (Pj c a e) true) (bd (EE a.DH 0 (w64 (c.Ca-1))) fun j=>jn (Pj c a e) (!j))))))
def AC5(c:Aa)(a:AN)(e:Int):AA Bool:=bd (zN c) fun y=>br (!y) (jn (Na c a e) true) (bd (EE e 0 1000000) fun g=>br (!g) (jn (Na c a e) true) (bd (EE a.Id 1 999) fun h=>br (!h) (jn (Na c a e) true) (bd (EE a.AY 0 (w64 ((↑c.AW.length:Int)-1))) fun j=>br (!j) (jn (Na c a e) true) (bd (EE a.Bi (-1) (w64 ((↑c.AW.length:Int)-1))) fun q=>br (!q) (jn (Na c a e) true) (jn (Na c a e) (a.Bi==a.AY))))))
def AA8:=gZ RU CK N3 ["F7iexUnQ4kH21hAvYzNHkmXRaT1Ridcri4i4sNAnCbdFSp6l9wCuu38KGiA3hDvbvKiFlHYR9CSFYk0q","ReVrZmzC4X2r1k8hhMVyoz0HsajuTRowst0KrKiQsyGUKAijPty22qA0Fo7NWWG1qsAk8laCfWko80sl","uqrMXQeiCkrGY2y0WAvIAunPlqO4cJoHGGiGfJ2vyvqMAhaYb665Ggy8NCfy9n1kcUsMU359DPxy3yjw","68eGohC9sAP39hAA5NqoxuUn9epGdqm7u11xuIfWCE94ayQHMFg"] [nO,G3] (GI AC5)
def Nb(a:Int->AA Bool)(c:Int)(e:Bool):AA Bool:=br e (some false) (a (w64 (c+1)))
def AH9(a:Int->AA Bool)(c:Int)(_:PUnit):AA Bool:=a (w64 (c+1))
def pk(q:AE)(j:Int->AA Bool)(h:Int)(c:AN)(g:Int->AA Bool)(a:Int):AA Bool:=br (decide (a<h)) (bd (at? q.AG a) fun e=>br (e.Az==c.Az) (jn (Nb g a) true) (br (decide (e.Az<c.Az)) (br (decide (e.Since>c.Since)) (jn (Nb g a) true) (br (decide (e.Az>c.Az)) (jn (Nb g a) (decide (e.Since<c.Since))) (jn (Nb g a) false))) (br (decide (e.Az>c.Az)) (jn (Nb g a) (decide (e.Since<c.Since))) (jn (Nb g a) false)))) (jn (AH9 j h) ())
def SV(c:AE)(a:Int->AA Bool)(e:Int)(h:AN)(g:Bool):AA Bool:=br g (some false) (A3 (pk c a e h) big 0)
def AIA(_:PUnit):AA Bool:=some true
def pj(a:AE)(g:Int->AA Bool)(c:Int):AA Bool:=br (decide (c<a.AG.length)) (bd (at? a.AG c) fun e=>bd (AC5 a.AQ e a.Now) fun j=>br (!j) (jn (SV a g c e) true) (br (decide (e.Az>=a.Az)) (jn (SV a g c e) true) (br (decide (c>0)) (bd (at? a.AG (w64 (c-1))) fun h=>jn (SV a g c e) (decide (h.Id>=e.Id))) (jn (SV a g c e) false)))) (jn AIA ())
def AVs(a:AE):AA Bool:=A3 (pj a) big 0
def AXW:=gZ Py CK DM ["5aGn5N7B3SmjbRzBHl1eG4n54QkfpZFPnQThXvqgn99QDDYLthqvLwVxhWWoyGtme8YB31a5nd7C6Sxi","Q8gHj8R6IA0dXnqVTLd5MRUQfogDPGPAk3aUlftpYZjArUjlq71V02NodiQhbKnjc3fKxewRXjBd0nnQ","tMFzmCx4YXX7jKa1tE9286yFrEqji5LvI1A1ySQDRrquv8C45la5f5MvonbDGH8ajYuhafgRMkmr34kG","eBkFF73wzI9hG2MA4aXdU79DUJVy9u7hSZpz"] [AA8] (Bm AVs)
def AIL(_:PUnit):AA Bool:=some false
def AIM(c:List Int)(g:Int)(e:Int->AA Bool)(a:Int):AA Bool:=br (decide (a<c.length)) (bd (at? c a) fun h=>br (h==g) (some true) (e (w64 (a+1)))) (jn AIL ())
def AKY(a:List Int)(c:Int):AA Bool:=A3 (AIM a c) big 0
def AJF:=gZ ZH CK B5 ["6szf3LD5XWwCuOulA7uTTQbhd8sTDxT6wDkikjozl"] [] (Aq AKY)
def pn(a:Int->AA Bool)(c:Int)(e:Bool):AA Bool:=br e (some false) (a (w64 (c+1)))
def AIe(a:AE)(_:PUnit):AA Bool:=some ((↑a.BC.length:Int)==a.AQ.Cx)
def pq(a:AE)(h:Int->AA Bool)(c:Int):AA Bool:=br (decide (c<a.BC.length)) (bd (at? a.BC c) fun e=>bd (EE e (-1) (w64 ((↑a.AH.length:Int)-1))) fun g=>br (!g) (some false) (h (w64 (c+1)))) (jn (AIe a) ())
def Z8(a:AE)(_:PUnit):AA Bool:=A3 (pq a) big 0
def po(c:AE)(e:Int->AA Bool)(a:Int):AA Bool:=br (decide (a<c.BF.length)) (bd (at? c.BF a) fun g=>bd (EE g 0 (w64 ((↑c.AH.length:Int)-1))) fun h=>br (!h) (jn (pn e a) true) (gd (0<=a/\a<=c.BF.length) (bd (at? c.BF a) fun j=>bd (AKY (c5 a.toNat c.BF) j) fun q=>jn (pn e a) q))) (jn (Z8 c) ())
def AVt(a:AE):AA Bool:=A3 (po a) big 0
def AXX:=gZ Py CK DM ["tUEWvo4cqY8heXG0KgZQ6YBVXp1R8TqPfg9kvshhAhHNve003dOfoCl7jz3y7LfaQcHtDGzmZA0nvmzC","kFHE3QidRJx2HpWqCPdaStCV9qoHSJHeDLx0mYMGYbcI4touevV4O7t8gHit6BkXGQSMcWrMsuWA05jR","1I"] [G3,AJF] (Bm AVt)
def Pk(a:Bool):AA Bool:=some a
def AC6(a:BE):AA Bool:=bd (EE a.Total 1 60) fun c=>br c (bd (EE a.Db 0 a.Total) fun e=>br e (bd (EE a.Ee 0 a.Total) fun g=>br g (bd (EE a.FY 0 a.Total) fun h=>br h (br (w64 (w64 (a.Db+a.Ee)+a.FY)==a.Total) (bd (EE a.Fx 0 a.FY) fun j=>jn Pk j) (jn Pk false)) (jn Pk false)) (jn Pk false)) (jn Pk false)) (jn Pk false)
def AJG:=gZ [.v (.st 3)] CK DM ["MXRsDSJuy8PYkjivqo9PxGscGwIm7wtKimjo668CNXNLfhWcpwhNUPzAi6iffWqAysDs8soI2trUqCip","UVXAkxOl0LrjhA4mKFy0JtjD0xr00XaxVpRm"] [G3] (Bm AC6)
def Z9(a:Bool):AA Bool:=some a
def AOL(a c:Af):AA Bool:=br (decide (a.Level<c.Level)) (jn Z9 true) (br (a.Level==c.Level) (jn Z9 (decide (a.Az<c.Az))) (jn Z9 false))
def AR3:=gZ r8 CK B5 ["2qIzhLrMy5VcUWH2sEZrchfBE3f4OERnyhHD9rrQmjMBJZLco6tj"] [] (Aq AOL)
def AIq(_:PUnit):AA Int:=some (-1)
def AIr(c:List Af)(g:Int)(e:Int->AA Int)(a:Int):AA Int:=br (decide (a<c.length)) (bd (at? c a) fun h=>br (h.Id==g) (some a) (e (w64 (a+1)))) (jn AIq ())
def AKZ(a:List Af)(c:Int):AA Int:=A3 (AIr a c) big 0
def AR4:=gZ r9 Cv B5 ["1IVePIW2YWvsnuf1PUbFrDZNKyWxm2WW5dZV1NBlvlbxQe"] [] (Aq AKZ)
def Vu(a:Int->AA Bool)(c:Int)(e:Bool):AA Bool:=br e (some false) (a (w64 (c+1)))
def SW(e:List Af)(c:Int->AA Bool)(a:Int)(h:Af)(j:Bool):AA Bool:=br j (some false) (br (decide (a>0)) (bd (at? e (w64 (a-1))) fun q=>bd (AOL q h) fun y=>br (!y) (jn (Vu c a) true) (bd (AKZ e h.Id) fun B=>jn (Vu c a) (B != a))) (bd (AKZ e h.Id) fun g=>jn (Vu c a) (g != a)))
def AIs(_:PUnit):AA Bool:=some true
def pt(c:List Af)(g:Int->AA Bool)(e:Int):AA Bool:=br (decide (e<c.length)) (bd (at? c e) fun a=>bd (EE a.Level 0 4) fun y=>br (!y) (jn (SW c g e a) true) (bd (EE a.Az 1 1000000) fun h=>br (!h) (jn (SW c g e a) true) (bd (EE a.Id 1 999) fun j=>br (!j) (jn (SW c g e a) true) (bd (EE a.BA 1 6) fun q=>jn (SW c g e a) (!q))))) (jn AIs ())
def AVu(a:List Af):AA Bool:=br (decide ((↑a.length:Int)>10)) (some false) (A3 (pt a) big 0)
def AXY:=gZ sA CK DM ["3BJPoYbcrIu79t5oSFPkEh5nml5sBLaBUQuq1mZPKrl777HwQiTFV8c18IJ3mIhQhkUx90IOVlOOqxhT","LDUlfLTteruiIc8zRsiZwJ59qn06Pp0VE49Ji9vGlG416kVMxIPJXmEskLG1Y0katNXF0z9G30z1iWld","9vX8POpJzOFOH5X7xSPF1Zyw9NK0zLnX"] [G3,AR3,AR4] (Bm AVu)
def AIt(a:List BH):AA (List BH):=some a
def AIu(e:A0)(h:List BH×Int->AA (List BH))(j:List BH×Int):AA (List BH):=let (a,c):=j;br (decide (c<e.Ao.length)) (bd (at? e.Ao c) fun g=>gd (e8 a+e8 g<=lim) (h (a++g,w64 (c+1)))) (jn AIt a)
def AOM(a:A0):AA (List BH):=A3 (AIu a) big ([],0)
def AR5:=gZ Xm Xs DM ["3faK6whmgq4nTr58qyo9UP6NKVSVQaYfmkILB4GVqmrUEtfS4AbstZOw1BP5D"] [] (Bm AOM)
def aA(a:Bool):AA Bool:=some a
def AON(a c:BH):AA Bool:=br (decide (a.At<c.At)) (jn aA true) (br (a.At==c.At) (jn aA (decide (a.Id<c.Id))) (jn aA false))
def AR6:=gZ AET CK B5 ["2qIzhLrMy5VcUWH2sEZrchfBE3f4OERnyhHD9rrQmjMBJZLco6tj"] [] (Aq AON)
def AIv(a:Int->AA Bool)(c:Int)(_:PUnit):AA Bool:=a (w64 (c+1))
def px(e:List BH)(j:Int->AA Bool)(c:Int)(q:Int->AA Bool)(a:Int):AA Bool:=br (decide (a<c)) (bd (at? e a) fun y=>bd (at? e a) fun g=>bd (at? e c) fun B=>bd (at? e c) fun h=>br (g.Id==h.Id) (some false) (q (w64 (a+1)))) (jn (AIv j c) ())
def aC(g:List BH)(a:Int->AA Bool)(c:Int)(e:Bool):AA Bool:=br e (some false) (A3 (px g a c) big 0)
def aE(a:Int->AA Bool)(c:Int)(e:Bool):AA Bool:=br e (some false) (a (w64 (c+1)))
def AAq(a:Int->AA Bool)(c:Int)(_:PUnit):AA Bool:=a (w64 (c+1))
def pz(g:A0)(h:Int->AA Bool)(c:Int)(e:Int->AA Bool)(a:Int):AA Bool:=bd (at? g.Ao c) fun j=>br (decide (a<(e8 j))) (bd (at? g.Ao c) fun q=>bd (at? q a) fun y=>br (y.At.tmod 9 != c) (jn (aE e a) true) (br (decide (a>0)) (bd (at? g.Ao c) fun B=>bd (at? B (w64 (a-1))) fun E=>bd (at? g.Ao c) fun G=>bd (at? G a) fun H=>bd (AON E H) fun I=>jn (aE e a) (!I)) (jn (aE e a) false))) (jn (AAq h c) ())
def AAr(_:PUnit):AA Bool:=some true
def py(e:A0)(c:Int->AA Bool)(a:Int):AA Bool:=br (decide (a<e.Ao.length)) (A3 (pz e c a) big 0) (jn AAr ())
def aD(a:A0)(_:PUnit):AA Bool:=A3 (py a) big 0
def pw(j:A0)(c:List BH)(h:Int->AA Bool)(a:Int):AA Bool:=br (decide (a<(e8 c))) (bd (at? c a) fun E=>bd (at? c a) fun y=>bd (EE y.At 1 1000008) fun B=>br (!B) (jn (aC c h a) true) (bd (at? c a) fun q=>bd (at? c a) fun e=>bd (EE e.Id 1 999) fun g=>jn (aC c h a) (!g))) (jn (aD j) ())
def aB(a:A0)(e:List BH)(c:Bool):AA Bool:=br c (some false) (A3 (pw a e) big 0)
def AAp(a:A0):AA Bool:=bd (AOM a) fun c=>br ((↑a.Ao.length:Int) != 9) (jn (aB a c) true) (jn (aB a c) (decide ((↑(e8 c):Int)>10)))
def AA9:=gZ Xm CK DM ["50zXqC7Rot70lvGI4hjh2mIkjsnpMRfPLeJoAQ9IeYrvQ7d5QL9gzJv5hJwWBMyYvkpfcloBTspKJbcX","iIrxfr37OB1M2qdi6abHKeauZNNXNj9BHsGoUqxugUOZjrUZ9EYuzm6l3qcXDNpiNFiMVHfJDZHAjyrR","gJCjAQTskdLhV4kxsfOO82aEWo2v0TKNcjakTOQOGq4W24crNPkdMrUavj7Qm0CwbDx06mMEWCXCATIv","aro4NeIiYibkaKdttJdukNDWV70IOGtzZ8xrEAiBPCK1Jp2SK2BRAAFy5MkKB6Gatx3mFmM7UzU9bHU0","sR22mgWOYWRsNZK4MBMZQzyV9AIPoa12TJ"] [AR5,G3,AR6] (Bm AAp)
def aF(a:Bool):AA Bool:=some a
def AVv(a:Ab):AA Bool:=bd (AC6 a.AW) fun c=>br c (bd (AVu a.Row) fun e=>br e (bd (AAp a.Bq) fun g=>jn aF g) (jn aF false)) (jn aF false)
def AXZ:=gZ sC CK DM ["MfDZ432zIbjfSEjdb7OyMJfVqcZktfTqzmh"] [AJG,AXY,AA9] (Bm AVv)
def qA(a c:Int):AA Int:=br (decide (a>c)) (some a) (some c)
def ABA:=gZ sD Cv B5 ["5Pe46QDoKpokPE1AP0C9r"] [] (Aq qA)
def AVw(a:Aa)(c e:Int):AA Int:=gd (a.CG≠0) (bd (qA 0 (w64 (c-w64 (e.tdiv a.CG)))) fun g=>some g)
def AXa:=gZ [.v (.st 1),.v .i,.v .i] Cv N3 ["8BjS8kPKHirIy1ys55sfqiCB"] [ABA] (GI AVw)
def AVx(c:Aa)(a:AN)(e:Int):AA Int:=bd (AC5 c a e) fun g=>br (!g) (some (-1)) (bd (AVw c a.Co (w64 (e-a.Since))) fun h=>some h)
def AXb:=gZ RU Cv N3 ["1CtdqBl7dGQU6hJ9SR8wNMD5QcvzwY86TcZwonm4OMJZ"] [AA8,AXa] (GI AVx)
def qC(a:AN)(e:Int)(c:Bool):AA (Af×Bool):=br c (some (Af.mk 0 0 0 0,false)) (some (Af.mk e a.Az a.Id a.BA,true))
def AKa(e:Aa)(a:AN)(g:Int):AA (Af×Bool):=bd (AVx e a g) fun c=>br (decide (c<0)) (jn (qC a c) true) (jn (qC a c) (a.State != 1))
def AR7:=gZ RU (.ret [(.st 4),.b]) [.cell 6 (some 4),.tmp 7] ["5tUh3TR7fE6gs8F5OFMyZIJubMCqTwVxlzXYjUKsNxMUAk5oiUpc9tIvaMR2Y5bEa1g2exo1d5z35"] [AXb] (GI AKa)
def qD(a:List Af):AA (List Af):=gd (0+a.length<=lim) (some ([]++a))
def AJH:=gZ sA sH DM ["K9dru7iYnPxAnBWR"] [] (Bm qD)
def qE(c:List Af)(e:Af)(a:Int):AA (List Af):=gd (0<=a/\a<=c.length) (bd (qD (c5 a.toNat c)) fun g=>gd (e8 g+[e].length<=lim) (bd (qD (c5 a.toNat c)) fun h=>gd (e8 h+[e].length<=lim) (eqv (g++[e]) (h++[e]) (gd (0<=a/\a<=c.length) (gd ((g++[e]).length+(e9 a.toNat c).length<=lim) (some (g++[e]++e9 a.toNat c)))))))
def aG(e:List Af)(g:Af)(c:Int->AA (List Af))(a:Int)(h:Bool):AA (List Af):=br h (c (w64 (a+1))) (jn (qE e g) a)
def qF(a:List Af)(e:Af)(g:Int->AA (List Af))(c:Int):AA (List Af):=br (decide (c<a.length)) (bd (at? a c) fun h=>bd (AOL h e) fun j=>jn (aG a e g c) j) (jn (aG a e g c) false)
def AC7(a:List Af)(c:Af):AA (List Af):=A3 (qF a c) big 0
def AR8:=gZ ASA sH B5 ["54bMR0t42EqGhBxh3DK1QWKKp7Zr3CLFMTgFXotdm7DIwU30IPN3ldEn8LKdpsCJLWnLvj7L7JqOin8F","ZpWHx3EkjuxmOP0AlNGIsN05mnwqthF4oB6k1y58J0Wn"] [AR3,AJH] (Aq AC7)
def qH(c:List Af×Int->AA (List Af))(e:Int)(a:List Af):AA (List Af):=c (a,w64 (e-1))
def qG(a:List Af×Int->AA (List Af))(c:List Af)(e:Int)(h:Af×Bool)(g:Bool):AA (List Af):=br g (bd (AC7 c h.fst) fun j=>jn (qH a e) j) (jn (qH a e) c)
def AIw(a:List Af):AA (List Af):=some a
def AIx(h:Aa)(j:List AN)(E q:Int)(g:List Af×Int->AA (List Af))(H:List Af×Int):AA (List Af):=let (e,a):=H;br (decide (a>=0)) (bd (at? j a) fun y=>bd (AKa h y q) fun c=>bd (AKa h y q) fun B=>eqv c.snd B.snd (ui c.fst B.fst (br c.snd (bd (at? j a) fun G=>jn (qG g e a c) (G.AY==E)) (jn (qG g e a c) false)))) (jn AIw e)
def AKb(c:Aa)(a:List AN)(e g:Int):AA (List Af):=A3 (AIx c a e g) big ([],w64 ((↑a.length:Int)-1))
def AJI:=gZ [.v (.st 1),.v (.l (.st 2)),.v .i,.v .i] sH [.tmp 8] ["A9o46HYWa8vGVppQDXlnSl4UYwFUFWhW1iuphiQ0fwUh9XhIbGM1q7a3uuJeIqaBbfSOLUhcVBSnznZx","sv6BwssHrR95SoqJPtsB8ilMFHXyktxRHJyQK1wyu5IO8quBLQGBhOawr2GnYfro0cwEmXmWQVAXz80y","gvQDJGTLoY3yu6hmGDAa9IxF"] [AR7,AR8] (UQ AKb)
def AGI(_:PUnit):AA Bool:=some true
def pM(g j:List Af)(h:Int->AA Bool)(a:Int):AA Bool:=br (decide (a<g.length)) (bd (at? g a) fun c=>bd (at? j a) fun e=>br (!(c.Level==e.Level&&(c.Az==e.Az&&(c.Id==e.Id&&(c.BA==e.BA&&true))))) (some false) (h (w64 (a+1)))) (jn AGI ())
def AVn(a c:List Af):AA Bool:=br ((↑a.length:Int) != c.length) (some false) (A3 (pM a c) big 0)
def AXQ:=gZ AEU CK B5 ["2KpB9P6EHUHdtCrK2kwBHTESXSnavPtPFluOLyHE6Ag0tANwfQmVL92M5Uc8pwr"] [] (Aq AVn)
def pO(c:List BH)(e:BH)(a:Int):AA (List BH):=gd (0<=a/\a<=c.length) (gd (0+(c5 a.toNat c).length<=lim) (gd (([]++c5 a.toNat c).length+[e].length<=lim) (gd (0<=a/\a<=c.length) (gd (([]++c5 a.toNat c++[e]).length+(e9 a.toNat c).length<=lim) (some ([]++c5 a.toNat c++[e]++e9 a.toNat c))))))
def Z4(e:List BH)(g:BH)(c:Int->AA (List BH))(a:Int)(h:Bool):AA (List BH):=br h (c (w64 (a+1))) (jn (pO e g) a)
def pP(a:List BH)(e:BH)(g:Int->AA (List BH))(c:Int):AA (List BH):=br (decide (c<a.length)) (bd (at? a c) fun h=>bd (AON h e) fun j=>jn (Z4 a e g c) j) (jn (Z4 a e g c) false)
def AKT(a:List BH)(c:BH):AA (List BH):=A3 (pP a c) big 0
def AJD:=gZ ASB Xs B5 ["36UXaEyQZUgJxasqGkYjw1MtXr3AhOSlHiDM4exP4lZ61pZHOXcTMrFa21SRbSINmeCpWVATXfpIo9h8","aC3lcTammeJvhu"] [AR6] (Aq AKT)
def AGJ(a:List BH):AA (List BH):=some a
def pQ(c:List BH)(g:List BH×Int->AA (List BH))(q:List BH×Int):AA (List BH):=let (e,a):=q;br (decide (a<(e8 c))) (bd (at? c a) fun y=>bd (at? c a) fun h=>bd (AKT e h) fun j=>g (j,w64 (a+1))) (jn AGJ e)
def ANf(a:A0):AA (List BH):=bd (AAp a) fun c=>br (!c) (some []) (bd (AOM a) fun e=>A3 (pQ e) big ([],0))
def AOm:=gZ Xm Xs DM ["vetS934CQUSV0lxWAvawT50EuReS5vTSIaUFYhKjQ226BOKvOPqITIR4IkPTNfSB3tS0RjpUwPml3d"] [AA9,AR5,AJD] (Bm ANf)
def pS(c:List BH×Int->AA (List BH))(e:Int)(a:List BH):AA (List BH):=c (a,w64 (e+1))
def pR(e:List AN)(c:List BH×Int->AA (List BH))(g:List BH)(a:Int)(h:Bool):AA (List BH):=br h (bd (at? e a) fun j=>bd (at? e a) fun q=>bd (AKT g (BH.mk j.Cq q.Id)) fun y=>jn (pS c a) y) (jn (pS c a) g)
def AGK(a:List BH):AA (List BH):=some a
def pU(a:List AN)(h:Int)(g:List BH×Int->AA (List BH))(y:List BH×Int):AA (List BH):=let (e,c):=y;br (decide (c<a.length)) (bd (at? a c) fun j=>br (j.State==2) (bd (at? a c) fun q=>jn (pR a g e c) (q.AY==h)) (jn (pR a g e c) false)) (jn AGK e)
def ANg(a:List AN)(c:Int):AA (List BH):=A3 (pU a c) big ([],0)
def AOn:=gZ M8 Xs B5 ["8Zs8N6PbSqfvi3QPMB7Rx6lmxQq4nWgz49XExajrxuatmDqJQizeCbowQ1ppeQBKiLA4WyikxQ6S3iRH","b4n61syCsd3gfX1XDm9m0elRldpimVApYYva"] [AJD] (Aq ANg)
def AGL(_:PUnit):AA Bool:=some true
def pV(c j:List BH)(h:Int->AA Bool)(a:Int):AA Bool:=br (decide (a<c.length)) (bd (at? c a) fun e=>bd (at? j a) fun g=>br (!(e.At==g.At&&(e.Id==g.Id&&true))) (some false) (h (w64 (a+1)))) (jn AGL ())
def AVo(a c:List BH):AA Bool:=br ((↑a.length:Int) != c.length) (some false) (A3 (pV a c) big 0)
def AXR:=gZ AEV CK B5 ["AfJxWjTVQ5VT2U9W7XHHHrsD2AjiglDTldmZBq2KyYRlF3Zn6LSZnBNTzHmEys"] [] (Aq AVo)
def pW(c:Int×Int->AA Int)(e a:Int):AA Int:=c (a,w64 (e+1))
def Z5(g:List AN)(c:Int×Int->AA Int)(e a:Int)(h:Bool):AA Int:=br h (bd (at? g a) fun j=>jn (pW c a) (w64 (e+j.BA))) (jn (pW c a) e)
def AGM(a:Int):AA Int:=some a
def pX(a:List AN)(h:Int)(g:Int×Int->AA Int)(E:Int×Int):AA Int:=let (e,c):=E;br (decide (c<a.length)) (bd (at? a c) fun j=>br (j.State==2) (bd (at? a c) fun q=>br (q.AY==h) (bd (at? a c) fun y=>bd (EE y.BA 1 6) fun B=>jn (Z5 a g e c) B) (jn (Z5 a g e c) false)) (jn (Z5 a g e c) false)) (jn AGM e)
def ANh(a:List AN)(c:Int):AA Int:=A3 (pX a c) big (0,0)
def AOo:=gZ M8 Cv B5 ["8HZ37T8EYPYkU8wO1OcRqwIKT49KMBKeXQB6vOwvrGcK8nA4bThbIOuW5skLU4W1GxsMYlsKThUXQxYC","e06YqihOe8Yx5sl7kBN53vyKXOTqU0HWni"] [G3] (Aq ANh)
def pZ(a:Int×Int->AA Int)(c e:Int):AA Int:=a (e,w64 (c+1))
def pY(g:List AN)(c:Int×Int->AA Int)(e a:Int)(h:Bool):AA Int:=br h (bd (at? g a) fun j=>jn (pZ c a) (w64 (e+j.BA))) (jn (pZ c a) e)
def AGN(a:Int):AA Int:=some a
def pb(a:List AN)(h:Int)(g:Int×Int->AA Int)(B:Int×Int):AA Int:=let (e,c):=B;br (decide (c<a.length)) (bd (at? a c) fun j=>br (j.Bi==h) (bd (at? a c) fun q=>bd (EE q.BA 1 6) fun y=>jn (pY a g e c) y) (jn (pY a g e c) false)) (jn AGN e)
def AKU(a:List AN)(c:Int):AA Int:=A3 (pb a c) big (0,0)
def AOp:=gZ M8 Cv B5 ["1JHSFpqKA4F16nmqfotED0NCw5l6e6UyCUh4qobq4pXVnlxfCMUJj4lTYqqaa5DhOlO90W9WjnVyING4","r3pIPdf22ZZHL"] [G3] (Aq AKU)
def SP(a:Bool):AA Bool:=some a
def AVp(g:Aa)(a:Ab)(c:List AN)(e h:Int):AA Bool:=bd (AVv a) fun j=>br j (bd (AKb g c e h) fun q=>bd (AVn a.Row q) fun y=>br y (bd (ANf a.Bq) fun B=>bd (ANg c e) fun E=>bd (AVo B E) fun G=>br G (bd (ANh c e) fun H=>br (a.AW.Ee==H) (bd (AKU c e) fun I=>jn SP (a.AW.Fx==I)) (jn SP false)) (jn SP false)) (jn SP false)) (jn SP false)
def AXS:=gZ ASC CK [.tmp 10] ["t8JZAlpgG7P7VW0PmEoCVBKk9FtdJUJo3nXgqPKtxzFiyVhzABFQddr7j3m2gkPKi6yJfuUkRa8W69R4","7ZfKoeVQmJicr6IZd84q6SNMDUVRjpO5Tp12pfLuIVXQFonnwQ0VW8oy52qO1xUZeuN0R6"] [AXZ,AJI,AXQ,AOm,AOn,AXR,AOo,AOp] (AVD AVp)
def pc(a:Int×Int->AA Int)(c e:Int):AA Int:=a (e,w64 (c+1))
def AGO(a:Int):AA Int:=some a
def pd(g:List AN)(h:Int)(e:Int×Int->AA Int)(q:Int×Int):AA Int:=let (c,a):=q;br (decide (a<g.length)) (bd (at? g a) fun j=>br (j.AY==h) (jn (pc e a) (w64 (c+1))) (jn (pc e a) c)) (jn AGO c)
def AKV(a:List AN)(c:Int):AA Int:=A3 (pd a c) big (0,0)
def AJE:=gZ M8 Cv B5 ["RODAgmPzZ8gpvsGJSmHHWJXxIRpj2JPtDEgozm80Kmea8W8koJpzFsn"] [] (Aq AKV)
def Ug(a:Int->AA Bool)(c:Int)(e:Bool):AA Bool:=br e (some false) (a (w64 (c+1)))
def AGP(_:PUnit):AA Bool:=some true
def pf(a:AE)(e:Int->AA Bool)(c:Int):AA Bool:=br (decide (c<a.AH.length)) (bd (at? a.AH c) fun q=>bd (at? a.AQ.AW c) fun y=>br (q.AW.Total != y) (jn (Ug e c) true) (bd (at? a.AH c) fun g=>bd (AVp a.AQ g a.AG c a.Now) fun h=>br (!h) (jn (Ug e c) true) (bd (AKV a.AG c) fun j=>jn (Ug e c) (decide (j>a.AQ.Room))))) (jn AGP ())
def Z6(a:AE)(c:Bool):AA Bool:=br c (some false) (A3 (pf a) big 0)
def NZ(a:AE)(e:Bool):AA Bool:=br e (some false) (bd (AVs a) fun g=>br (!g) (jn (Z6 a) true) (bd (AVt a) fun c=>jn (Z6 a) (!c)))
def pe(a:AE):AA Bool:=bd (zN a.AQ) fun g=>br (!g) (jn (NZ a) true) (bd (EE a.Now 0 1000000) fun c=>br (!c) (jn (NZ a) true) (bd (EE a.Az 1 1000001) fun e=>br (!e) (jn (NZ a) true) (br (decide ((↑a.AG.length:Int)>40)) (jn (NZ a) true) (jn (NZ a) ((↑a.AH.length:Int) != a.AQ.AW.length)))))
def iC:=gZ Py CK DM ["4BGG1tbCv4rOjEFaL1bkCr6zwlxGVz5ixtWgBwpUprGMcx9E1celsy001GRF8AY6N1whYPCWC8Mp3vMz","dyvwNELwGfoQLOWDkWrxbFptYX0OXGH6c7DRIFk1CQc6aT7w27ZdvlGVHQwFoYukFJq1hL4MRjv0fGHQ","NvHYwxG84MmdHStkXgN2QuDddzojw9JJ3hau7ia4hIdX9CoID2wvUudKFvNwkiYTxF4V3Vt4KVUDbTCW","zat19fb5Zt9XjugZZvYX1Tod1E0Bu4ItbJ6yi0TR"] [nO,G3,AXW,AXX,AXS,AJE] (Bm pe)
def bJ(a:Bool):AA Bool:=some a
def Qa(a:Bl):AA Bool:=br (decide ((↑a.Data.length:Int)<=20000)) (bd (EE a.Safe 0 (↑a.Data.length:Int)) fun c=>jn bJ c) (jn bJ false)
def RS:=gZ iO CK DM ["tnSmVl6HcCEO0MoKvt2qx7G19AINdRAM1Bx2J"] [G3] (Bm Qa)
def Uj(a:Bool):AA Bool:=some a
def lV(a:Bk):AA Bool:=bd (Qa a.Log) fun c=>br c (bd (Qa a.EZ) fun e=>br e (bd (Qa a.Odd) fun g=>jn Uj g) (jn Uj false)) (jn Uj false)
def qv:=gZ Lc CK DM ["73NUXjM9NEMiLAnI6ms0Z2LwMER7qEm6Z7Z"] [RS] (Bm lV)
def Qb(a:Int):AA Bool:=bd (EE a 0 9999) fun c=>some c
def AOw:=gZ N1 CK DM ["3ex1WJ5nRCoINF"] [G3] (Bm Qb)
def Gf(a:Bool):AA Bool:=some a
def OU(a:Bp)(e:Bool):AA Bool:=br e (bd (Qb a.Id) fun g=>br g (jn Gf (a.Kind==a.Kind&&(a.Id==a.Id&&(a.AY==0&&(a.Bi==0&&(a.BA==0&&(a.Co==0&&true))))))) (jn Gf false)) (br (a.Kind==3) (bd (Qb a.AY) fun h=>br h (bd (Qb a.BA) fun c=>br c (jn Gf (a.Kind==a.Kind&&(a.Id==0&&(a.AY==a.AY&&(a.Bi==0&&(a.BA==a.BA&&(a.Co==0&&true))))))) (jn Gf false)) (jn Gf false)) (br (a.Kind==6) (some (a.Kind==a.Kind&&(a.Id==0&&(a.AY==0&&(a.Bi==0&&(a.BA==0&&(a.Co==0&&true))))))) (some false)))
def Uk(a:Bp):AA Bool:=br (a.Kind==1) (bd (Qb a.Id) fun c=>br c (bd (Qb a.AY) fun e=>br e (bd (EE a.Bi (-1) 9999) fun g=>br g (bd (Qb a.BA) fun h=>br h (bd (Qb a.Co) fun j=>jn Gf j) (jn Gf false)) (jn Gf false)) (jn Gf false)) (jn Gf false)) (br (a.Kind==2) (jn (OU a) (a.Kind==2)) (br (a.Kind==4) (jn (OU a) (a.Kind==4)) (br (a.Kind==5) (jn (OU a) (a.Kind==5)) (jn (OU a) (a.Kind==7)))))
def iD:=gZ AJK CK DM ["1HpbjVtk8UmDSHmDl8tKB1mYnlU4f50G8AX0o1qq38avddd95jOzc83xDkqhtI8vKqVv8iPn0KyI2oLS","7Nh0Axo4iWV51o46KHtFhXiwhhiNhRDsqIbmZed4bZHrixWCp9nbYKO82JhJ9ihS8CJtdSFl7FrUOBW4","aZQBQRmrLXpwpzyQH9RnjzdrdqdtusB8ifFFzHwfWCJfH8mikLrK94OqobTb6m2KGIbhf29satkBpcRh","00RjEseo6TaGqFprLYQDUwIKhj4CIth4UNjOBzI1mV2YgRcg"] [AOw,G3] (Bm Uk)
def vn(_:PUnit):AA Bool:=some true
def bK(c:A7)(e:Int->AA Bool)(a:Int):AA Bool:=br (decide (a<c.Laid.length)) (bd (at? c.Laid a) fun g=>bd (Uk g) fun h=>br (!h) (some false) (e (w64 (a+1)))) (jn vn ())
def OV(a:A7)(c:Bool):AA Bool:=br c (some false) (A3 (bK a) big 0)
def Y1(a:A7):AA Bool:=bd (pe a.A2) fun c=>br (!c) (jn (OV a) true) (bd (lV a.Bg) fun e=>br (!e) (jn (OV a) true) (br (decide ((↑a.Laid.length:Int)>8)) (jn (OV a) true) (bd (EE a.Seq (↑a.Laid.length:Int) 1000000) fun g=>jn (OV a) (!g))))
def Xe:=gZ Xn CK DM ["dWQXfKGMNh7utsm7KLboNcv9ceUkmXXvxSJjiFGFaBgmkbW2IotzmWSwPuk3qIcP7l5ZtQWdoSKM3taJ","9bVKmLsGIFM08kxysLSd7PJkxzL7qGj1"] [iC,qv,G3,iD] (Bm Y1)
def Ul(a:Bool):AA Bool:=some a
def C3(a c e:Int):AA Bool:=br (decide (a>=c)) (jn Ul (decide (a<=e))) (jn Ul false)
def Eb:=gZ AES CK N3 ["BcB63RSQuLGwXma0gJ9wnmZzx"] [] (GI C3)
def J1(a:Bool):AA Bool:=some a
def vq(a:Aa)(_:PUnit):AA Bool:=bd (C3 a.Cb 1 5) fun j=>br j (bd (C3 a.Room 1 10) fun q=>br q (bd (C3 a.BA 1 6) fun y=>br y (bd (C3 a.CG 1 12) fun B=>br B (bd (C3 a.B1 1 8) fun c=>br c (bd (C3 a.Ca 1 4) fun e=>br e (bd (C3 a.Cx 1 3) fun g=>br g (bd (C3 a.Rest 0 8) fun h=>jn J1 h) (jn J1 false)) (jn J1 false)) (jn J1 false)) (jn J1 false)) (jn J1 false)) (jn J1 false)) (jn J1 false)
def bL(a:Aa)(e:Int->AA Bool)(c:Int):AA Bool:=br (decide (c<a.AW.length)) (bd (at? a.AW c) fun g=>bd (C3 g 1 60) fun h=>br (!h) (some false) (e (w64 (c+1)))) (jn (vq a) ())
def Um(a:Aa):AA Bool:=bd (C3 (↑a.AW.length:Int) 1 4) fun c=>br (!c) (some false) (A3 (bL a) big 0)
def Tv:=gZ Oq CK DM ["Qk5Vh0QY97ZyN09srY5DnNLomdR7qAV4LiZI9ykcMTlAOMjIdbWQzHlHoJHQP6EXg4u3aj22Lk1NSdW4","Vfz2214ejZGECbBOykRft6vRJjtCZvEK64gQJ7lbFeGiZQPV6AjwlXhIBtxHftOUd1eLu8IGXbjrY0X2","H9m7lIWUCoMATnITBg9C"] [Eb] (Bm Um)
def Ly(a c:Int):AA Bool:=bd (C3 a 0 (w64 (c-1))) fun e=>some e
def Pt:=gZ sD CK B5 ["1IfaUhRdpBynSBu"] [Eb] (Aq Ly)
def OW(a:Bool):AA Bool:=some a
def Mx(c:Aa)(a:AN)(e:Int)(g:Bool):AA Bool:=br g (some false) (br (a.State==1) (bd (C3 a.Cq 0 (w64 (e+c.Rest))) fun h=>br h (jn OW true) (br (a.State==2) (bd (C3 a.Cq 1 (w64 (e+c.B1))) fun j=>jn OW j) (jn OW false))) (br (a.State==2) (bd (C3 a.Cq 1 (w64 (e+c.B1))) fun q=>jn OW q) (jn OW false)))
def LG(c:Aa)(a:AN)(e:Int)(q:Bool):AA Bool:=br q (some false) (bd (C3 a.BA 1 c.BA) fun y=>br (!y) (jn (Mx c a e) true) (bd (Ly a.Co c.Cb) fun B=>br (!B) (jn (Mx c a e) true) (bd (C3 a.Since 0 e) fun g=>br (!g) (jn (Mx c a e) true) (bd (C3 a.Az 1 1000000) fun h=>br (!h) (jn (Mx c a e) true) (bd (Ly a.DH c.Ca) fun j=>jn (Mx c a e) (!j))))))
def bM(c:Aa)(a:AN)(e:Int):AA Bool:=bd (Um c) fun y=>br (!y) (jn (LG c a e) true) (bd (C3 e 0 1000000) fun g=>br (!g) (jn (LG c a e) true) (bd (C3 a.Id 1 999) fun h=>br (!h) (jn (LG c a e) true) (bd (Ly a.AY (↑c.AW.length:Int)) fun j=>br (!j) (jn (LG c a e) true) (bd (C3 a.Bi (-1) (w64 ((↑c.AW.length:Int)-1))) fun q=>br (!q) (jn (LG c a e) true) (jn (LG c a e) (a.Bi==a.AY))))))
def iE:=gZ RU CK N3 ["ue9joeBPar3XVm4UHZZJX7nlVMVAIpU1tweAKiLU6XsMqfD1yuFB33iuC9Rsi5qX9WNBAJIUsWR0q6fN","uRdVTGMPXtyCyGDca3fF1ntyco3ssoFRnB8nKVb0wczIBlKoRR494Fp6ZS9xNfYzTQJUuVU6UcrP4hAQ","zNQJZDrzTmEcaFsud5tcqQFPku5qcnNb0lEdkjSdWfzY6K2erXZAoS4Wxh6GClZ9yPM6K5z2bfPGuqGP","tS6v4LOXp0GgquZqwqHELvALu01toPE5x3AEq"] [Tv,Eb,Pt] (GI bM)
def bN(a:Int×Int->AA Int)(c e:Int):AA Int:=a (e,w64 (c+1))
def vr(a:Int):AA Int:=some a
def bO(g:List AN)(h:Int)(e:Int×Int->AA Int)(q:Int×Int):AA Int:=let (c,a):=q;br (decide (a<g.length)) (bd (at? g a) fun j=>br (j.AY==h) (jn (bN e a) (w64 (c+1))) (jn (bN e a) c)) (jn vr c)
def lW(a:List AN)(c:Int):AA Int:=A3 (bO a c) big (0,0)
def qy:=gZ M8 Cv B5 ["49v05hzb9C8KllVYAXlcQWGKb2hIHHjgK00US7lXx34mzSLFBn5qi3LQWarsdnulr4QB"] [] (Aq lW)
def My(a:Bool):AA Bool:=some a
def LH(a:BE):AA Bool:=bd (C3 a.Total 1 60) fun c=>br c (bd (C3 a.Db 0 a.Total) fun e=>br e (bd (C3 a.Ee 0 a.Total) fun g=>br g (bd (C3 a.FY 0 a.Total) fun h=>br h (br (w64 (w64 (a.Db+a.Ee)+a.FY)==a.Total) (bd (C3 a.Fx 0 a.FY) fun j=>jn My j) (jn My false)) (jn My false)) (jn My false)) (jn My false)) (jn My false)
def Pu:=gZ [.v (.st 3)] CK DM ["MXRsDSJuy8PYkjivqo9PxGscGwIm7wtKimjo668CNXNLfhWcpwhNUPzAi6iffWqAysDs8soI2trUqCip","UVXAkxOl0LrjhA4mKFy0JtjD0xr00XaxVpRm"] [Eb] (Bm LH)
def AGU(a:Int):AA Bool:=some (a != a)
def AOx:=gZ N1 CK DM ["Hp5JoDDhFVh"] [] (Bm AGU)
def bP(a c:Int):AA Int:=bd (AGU a) fun g=>bd (AGU c) fun e=>br g (br e (some 0) (some (-1))) (br e (some 1) (br (decide (a<c)) (some (-1)) (br (decide (a>c)) (some 1) (some 0))))
def ADM:=gZ sD Cv B5 ["2ZizXfs5pDr9jftR2hZnbWxFrRfm2ewYYnZpssCaTYwsToXIM2mXC69op8c6"] [AOx] (Aq bP)
def TB(a c:Af):AA Int:=bd (bP a.Level c.Level) fun e=>br (e != 0) (some e) (bd (bP a.Az c.Az) fun g=>some g)
def I4:=gZ r8 Cv B5 ["7n7SKphEazSaE6uElTGU7tUuZtS8b1lGgTxIc"] [ADM] (Aq TB)
def vt(a c:Af):AA Bool:=bd (TB a c) fun e=>some (decide (e<0))
def ADN:=gZ r8 CK B5 ["9z7aVIs9i6FKnQiamTa"] [I4] (Aq vt)
def ANk(a:Af)(c:Int):AA Bool:=some (a.Id==c)
def rA:=gZ [.v (.st 4),.p .i] CK [.tmp 3] ["159e9uxrgKMuLbIJ"] [] (Aq ANk)
def AaH:YF:=⟨[rA],[.v (.l (.st 4)),.f rA.x [(true,.i)]],[0],.ret [.i],[.tmp 4],dY ["1tPyxcJIZH0IhyJKjkWHkZ0KJRXpjk1G2OU3wlHIeDXIOcD1eW7vj0juUwxF3nYCnK"] [] [.Dn 16 (.tmp 11) [.v,.p] [.tmp 15]]⟩
def vu(_:PUnit):AA Int:=some (-1)
def vz(e:List Af)(a:Int)(g:Int->AA Int)(c:Int):AA Int:=br (decide (c<e.length)) (bd (at? e c) fun h=>bd (ANk h a) fun j=>br j (some c) (g (w64 (c+1)))) (jn vu ())
def ANl(c:List Af)(a:Int):AA Int:=A3 (vz c a) big 0
def AOy:GF:=AaH.gf rfl rfl (fun a=>ANl a.1 a.2.1.1) (fun a=>by kernel_rfl)
def AaI:YF:=⟨[rA],[.v (.l (.st 4)),.v .i],[],.ret [.i],[.tmp 4],dY ["dGaCNoH94aotW"] [] [.MR 6 0 [.tmp 3],.call 7 AOy [0] rfl [.tmp 5,.tmp 6]]⟩
def lY(a:List Af)(c:Int):AA Int:=bd (ANl a c) fun e=>some e
def ADO:GF:=AaI.EF (Aq lY)
end Lv
set_option maxRecDepth 100000
namespace Lv
open Go (IntKind BinOp UnOp)
open Y (YF qn qf qt qr q1 qd qm qa qo ql qL qb qi qx qp qq qc qz qe qk qK qB qw qu qj Kp wn wf wt w1 sw sq sr wm wM wo wO wl wL wk wK wz wZ wx wX wb wB wi wI wr wR wq wQ we wE wc wY wj wh cv ca cx cn ce bl)
def OX(a:Int->AA Bool)(c:Int)(e:Bool):AA Bool:=br e (some false) (a (w64 (c+1)))
def Q0(a:Int->AA Bool)(c:Int)(e:Af)(j:Bool):AA Bool:=br j (some false) (bd (Ly e.Level 5) fun q=>br (!q) (jn (OX a c) true) (bd (C3 e.Az 1 1000000) fun y=>br (!y) (jn (OX a c) true) (bd (C3 e.Id 1 999) fun g=>br (!g) (jn (OX a c) true) (bd (C3 e.BA 1 6) fun h=>jn (OX a c) (!h)))))
def wA(_:PUnit):AA Bool:=some true
def bQ(c:List Af)(g:Int->AA Bool)(a:Int):AA Bool:=br (decide (a<c.length)) (bd (at? c a) fun e=>br (decide (a>0)) (bd (at? c (w64 (a-1))) fun q=>bd (vt q e) fun y=>br (!y) (jn (Q0 g a e) true) (gd (0<=a/\a<=c.length) (bd (lY (c5 a.toNat c) e.Id) fun h=>jn (Q0 g a e) (decide (h>=0))))) (gd (0<=a/\a<=c.length) (bd (lY (c5 a.toNat c) e.Id) fun j=>jn (Q0 g a e) (decide (j>=0))))) (jn wA ())
def lZ(a:List Af):AA Bool:=br (decide ((↑a.length:Int)>10)) (some false) (A3 (bQ a) big 0)
def ADP:=gZ sA CK DM ["3ZyVMpHQMjv6a8gSkBffPuC7AtSDRgMP1L6d91ZZyxWYdtxR8fgz3ezYBSPTz7cMeKDyc2y91N8OGOvO","vaDiDTcDio8BUWY39HkEZ2GEWHLy8OXkxx2r4VV9cnR0kbmHsDGpMkxk6Bq5VHnJJ1jXgBWY9AIj5Umn","kHU3btuRNLgmwRe9micriqLoWChr83HsIqCqfqpjt"] [ADN,ADO,Pt,Eb] (Bm lZ)
def bR(a:Bool):AA Bool:=some a
def lf(a:BH):AA Bool:=bd (C3 a.At 1 1000008) fun c=>br c (bd (C3 a.Id 1 999) fun e=>jn bR e) (jn bR false)
def rB:=gZ [.v (.st 5)] CK DM ["BgXTexrZ3PpXyIIR6n10j3dodTBaCX"] [Eb] (Bm lf)
def Q1(a c:BH):AA Int:=bd (bP a.At c.At) fun e=>br (e != 0) (some e) (bd (bP a.Id c.Id) fun g=>some g)
def GW:=gZ AET Cv B5 ["7n7SKphEazSaE6uElTGU7tUuZtS8b1lGgTxIc"] [ADM] (Aq Q1)
def Q2(g:((List (Int×Int))×Int×Int)->AA Bool)(e:List (Int×Int))(h j:Int)(a:BH)(c:Bool):AA Bool:=br c (some false) (g (I6 e a.Id (w64 (Lj e a.Id+1)),w64 (h+1),w64 (j+1)))
def wD(e:((List (Int×Int))×Int×Int)->AA Bool)(g:Int)(h:((List (Int×Int))×Int)):AA Bool:=let (a,c):=h;e (a,c,w64 (g+1))
def bV(G:((List (Int×Int))×Int×Int)->AA Bool)(E:Int)(B:List BH)(h:((List (Int×Int))×Int×Int)->AA Bool)(H:((List (Int×Int))×Int×Int)):AA Bool:=let (e,g,c):=H;br (decide (c<(e8 B))) (bd (at? B c) fun a=>bd (lf a) fun j=>br (!j) (jn (Q2 h e g c a) true) (br (a.At.tmod 9 != E) (jn (Q2 h e g c a) true) (br (decide (c>0)) (bd (at? B (w64 (c-1))) fun q=>bd (Q1 q a) fun y=>jn (Q2 h e g c a) (decide (y>0))) (jn (Q2 h e g c a) false)))) (jn (wD G E) (e,g))
def bS(a:Bool):AA Bool:=some a
def Un(e:((List (Int×Int))×Int)):AA Bool:=let (c,a):=e;br (decide (a<=10)) (jn bS ((↑(e8 c):Int)==a)) (jn bS false)
def bU(c:A0)(h:((List (Int×Int))×Int×Int)->AA Bool)(q:((List (Int×Int))×Int×Int)):AA Bool:=let (e,g,a):=q;br (decide (a<c.Ao.length)) (bd (at? c.Ao a) fun j=>A3 (bV h a j) big (e,g,0)) (jn Un (e,g))
def TC(a:A0):AA Bool:=br ((↑a.Ao.length:Int) != 9) (some false) (A3 (bU a) big ([],0,0))
def iF:=gZ Xm CK DM ["1iTnCKE7GOWdDQkWwFXaQfD0Q7WgDJ4yLcksFDY6nsrn8113Qm0XYle6vGwx8ZnMuzx2Hl3eFzt2fnRv","2rJpz3YKtA5gk0IvIYAZfiSbPWBCxCqfSrroGmOkIBpjawF1pFn4uI7I9xch4ZpD39AtimC1EHoXhk0w","xPaB7H8GmFrYaZNfJkc6rkPXpTeQ5ErQ8pm2Sm7zwewQ7sEXNA56gLEREEQ3BCgf2ny7zKfBt6G8yH7L","zWCIiENXxtoaWwzLTpDmOojbLgECHk7ADz3"] [rB,GW] (Bm TC) [.mmk 13,.Sy 56 (.tmp 53) (.tmp 55),.Rm (.tmp 53) (.tmp 55) (.tmp 57),.S4 66 (.tmp 65)]
def Uo(a:Bool):AA Bool:=some a
def AGV(a:Ab):AA Bool:=bd (LH a.AW) fun c=>br c (bd (lZ a.Row) fun e=>br e (bd (TC a.Bq) fun g=>jn Uo g) (jn Uo false)) (jn Uo false)
def AOz:=gZ sC CK DM ["MfDZ432zIbjfSEjdb7OyMJfVqcZktfTqzmh"] [Pu,ADP,iF] (Bm AGV)
def Up(a:Aa)(c e:Int)(g:Bool):AA Int:=br g (some (-1)) (gd (a.CG≠0) (some (if true=true then if w64 (c-w64 (e.tdiv a.CG))>0 then w64 (c-w64 (e.tdiv a.CG)) else 0 else if w64 (c-w64 (e.tdiv a.CG))<0 then w64 (c-w64 (e.tdiv a.CG)) else 0)))
def ANm(a:Aa)(c e:Int):AA Int:=bd (Um a) fun g=>br (!g) (jn (Up a c e) true) (bd (Ly c a.Cb) fun h=>br (!h) (jn (Up a c e) true) (jn (Up a c e) (decide (e<0))))
def AO0:=gZ [.v (.st 1),.v .i,.v .i] Cv N3 ["1DWWuXChzvya6hkYnHRNPrit6JmekYgjVpsgC0Ctjzc2GEy3xpS7b32bCD1l"] [Tv,Pt] (GI ANm) [.mm 27 true (.k (.int .i64 0)) (.tmp 26)]
def AGW(c:Aa)(a:AN)(e:Int):AA Int:=bd (bM c a e) fun g=>br (!g) (some (-1)) (bd (ANm c a.Co (w64 (e-a.Since))) fun h=>some h)
def AO1:=gZ RU Cv N3 ["1CtdqBl7dGQU6hJ9SR8wNMD5QcvzwY86TcZwonm4OMJZ"] [iE,AO0] (GI AGW)
def bW(c:Aa)(a:AN)(e:Int)(g:Bool):AA (Af×Bool):=br g (some (Af.mk 0 0 0 0,false)) (bd (AGW c a e) fun h=>some (Af.mk h a.Az a.Id a.BA,true))
def lg(c:Aa)(a:AN)(e:Int):AA (Af×Bool):=bd (bM c a e) fun g=>br (!g) (jn (bW c a e) true) (jn (bW c a e) (a.State != 1))
def rC:=gZ RU (.ret [(.st 4),.b]) [.cell 6 (some 4),.tmp 7] ["1NDMqEvWweQcRhmxxJlTqxH5TPr4syqbpTvSnBCptT8tjZTv5irRyKynzv1rSUJnZyrhsw06QiERHbCh","69KTzF5RjMiWcZC"] [iE,AO1] (GI lg)
def Dx{α:Type}(cmp:α->α->AA Int)(c:((List α)×Int)->AA (List α))(e:Int)(a:List α):AA (List α):=c ((a,w64 (e+1)))
def DT{α:Type}(cmp:α->α->AA Int)(j:((List α)×Int)->AA (List α))(y:Int)(q:((List α)×Int)->AA (List α))(c:List α)(a:Int)(g:Bool):AA (List α):=br g (bd (at? c (w64 (a-1))) fun B=>bd (at? c (w64 (a-1))) fun e=>bd (at? c a) fun E=>bd (at? c a) fun h=>bd (at? c a) fun G=>bd (at? c a) fun H=>bd (at? (an c a.toNat e) (w64 (a-1))) fun I=>bd (at? (an c a.toNat e) (w64 (a-1))) fun J=>q (((an c a.toNat e).set (w64 (a-1)).toNat h,w64 (a-1)))) (jn (Dx cmp j y) c)
def DV{α:Type}(cmp:α->α->AA Int)(y:Int)(h:((List α)×Int)->AA (List α))(q:Int)(j:((List α)×Int)->AA (List α))(E:((List α)×Int)):AA (List α):=match E with |(c,a)=>br (decide (a>y)) (bd (at? c a) fun G=>bd (at? c a) fun B=>bd (at? c (w64 (a-1))) fun H=>bd (at? c (w64 (a-1))) fun e=>bd (cmp B e) fun g=>jn (DT cmp h q j c a) (decide (g<0))) (jn (DT cmp h q j c a) false)
def DU{α:Type}(cmp:α->α->AA Int)(g:Int)(h:Int)(e:((List α)×Int)->AA (List α))(j:((List α)×Int)):AA (List α):=match j with |(c,a)=>br (decide (a<h)) (A3 (DV cmp g e a) big (c,a)) (some c)
def DD{α:Type}(cmp:α->α->AA Int)(c:List α)(a:Int)(e:Int):AA (List α):=A3 (DU cmp a e) big ((c,w64 (a+1)))
def J2{α:Type}(cmp:α->α->AA Int)(e:Int)(g:Int)(q:Int)(j:((List α)×Int)->AA (List α))(G:((List α)×Int)):AA (List α):=match G with |(c,a)=>br (decide (a<q)) (bd (at? c (w64 (g+a))) fun H=>bd (at? c (w64 (g+a))) fun h=>bd (at? c (w64 (e+a))) fun I=>bd (at? c (w64 (e+a))) fun E=>bd (at? c (w64 (e+a))) fun J=>bd (at? c (w64 (e+a))) fun L=>bd (at? (an c (w64 (e+a)).toNat h) (w64 (g+a))) fun y=>bd (at? (an c (w64 (e+a)).toNat h) (w64 (g+a))) fun B=>j (((an c (w64 (e+a)).toNat h).set (w64 (g+a)).toNat E,w64 (a+1)))) (some c)
def D7{α:Type}(cmp:α->α->AA Int)(a:List α)(c:Int)(e:Int)(g:Int):AA (List α):=A3 (J2 cmp c e g) big (a,0)
def L7{α:Type}(cmp:α->α->AA Int)(a:Int)(h:((List α)×Int)):AA (List α):=match h with |(e,c)=>bd (D7 cmp e (w64 (a-c)) a c) fun g=>some g
def MA{α:Type}(cmp:α->α->AA Int)(e:Int)(h:((List α)×Int×Int)->AA (List α))(y:((List α)×Int×Int)):AA (List α):=match y with |(g,a,c)=>br (a != c) (br (decide (a>c)) (bd (D7 cmp g (w64 (e-a)) e c) fun j=>h ((j,w64 (a-c),c))) (bd (D7 cmp g (w64 (e-a)) (w64 (w64 (e+c)-a)) a) fun q=>h ((q,a,w64 (c-a))))) (jn (L7 cmp e) (g,a))
def HO{α:Type}(cmp:α->α->AA Int)(c:List α)(e:Int)(a:Int)(g:Int):AA (List α):=A3 (MA cmp a) big ((c,w64 (a-e),w64 (g-a)))
def GJ{α:Type}(cmp:α->α->AA Int)(a:List α):AA (List α):=some a
def KX{α:Type}(cmp:α->α->AA Int)(j:Int)(g:((List α)×Int)->AA (List α))(I:((List α)×Int)):AA (List α):=match I with |(c,a)=>br (decide (a<w64 (j-1))) (bd (at? c (w64 (a+1))) fun q=>bd (at? c (w64 (a+1))) fun e=>bd (at? c a) fun y=>bd (at? c a) fun h=>bd (at? c a) fun B=>bd (at? c a) fun E=>bd (at? (an c a.toNat e) (w64 (a+1))) fun G=>bd (at? (an c a.toNat e) (w64 (a+1))) fun H=>g (((an c a.toNat e).set (w64 (a+1)).toNat h,w64 (a+1)))) (jn (GJ cmp) c)
def KS{α:Type}(cmp:α->α->AA Int)(a:List α)(c:Int)(e:Int):AA (List α):=A3 (KX cmp e) big (a,c)
def KW{α:Type}(cmp:α->α->AA Int)(e:List α)(g:Int)(h:(Int×Int)->AA (List α))(B:(Int×Int)):AA (List α):=match B with |(a,c)=>br (decide (a<c)) (bd (at? e (w64 (Dy (Go.IntKind.u64.wrap (w64 (a+c))) 1))) fun E=>bd (at? e (w64 (Dy (Go.IntKind.u64.wrap (w64 (a+c))) 1))) fun j=>bd (at? e g) fun G=>bd (at? e g) fun q=>bd (cmp j q) fun y=>br (decide (y<0)) (h ((w64 (w64 (Dy (Go.IntKind.u64.wrap (w64 (a+c))) 1)+1),c))) (h ((a,w64 (Dy (Go.IntKind.u64.wrap (w64 (a+c))) 1))))) (jn (KS cmp e g) a)
def KZ{α:Type}(cmp:α->α->AA Int)(h:Int)(g:((List α)×Int)->AA (List α))(I:((List α)×Int)):AA (List α):=match I with |(c,a)=>br (decide (a>h)) (bd (at? c (w64 (a-1))) fun q=>bd (at? c (w64 (a-1))) fun e=>bd (at? c a) fun y=>bd (at? c a) fun j=>bd (at? c a) fun B=>bd (at? c a) fun E=>bd (at? (an c a.toNat e) (w64 (a-1))) fun G=>bd (at? (an c a.toNat e) (w64 (a-1))) fun H=>g (((an c a.toNat e).set (w64 (a-1)).toNat j,w64 (a-1)))) (jn (GJ cmp) c)
def KU{α:Type}(cmp:α->α->AA Int)(c:List α)(e:Int)(a:Int):AA (List α):=A3 (KZ cmp a) big (c,e)
def KY{α:Type}(cmp:α->α->AA Int)(g:List α)(h:Int)(e:(Int×Int)->AA (List α))(G:(Int×Int)):AA (List α):=match G with |(a,c)=>br (decide (a<c)) (bd (at? g h) fun B=>bd (at? g h) fun j=>bd (at? g (w64 (Dy (Go.IntKind.u64.wrap (w64 (a+c))) 1))) fun E=>bd (at? g (w64 (Dy (Go.IntKind.u64.wrap (w64 (a+c))) 1))) fun q=>bd (cmp j q) fun y=>br (!decide (y<0)) (e ((w64 (w64 (Dy (Go.IntKind.u64.wrap (w64 (a+c))) 1)+1),c))) (e ((a,w64 (Dy (Go.IntKind.u64.wrap (w64 (a+c))) 1))))) (jn (KU cmp g h) a)
def Hi{α:Type}(cmp:α->α->AA Int)(rE:List α->Int->Int->Int->AA (List α))(j:Int)(q:Int)(c:Int)(e:Int)(a:List α)(g:Bool):AA (List α):=br g (bd (rE a (w64 (Dy (Go.IntKind.u64.wrap (w64 (j+c))) 1)) (w64 (w64 (w64 (Dy (Go.IntKind.u64.wrap (w64 (j+c))) 1)+q)-e)) c) fun h=>some h) (some a)
def Fo{α:Type}(cmp:α->α->AA Int)(rE:List α->Int->Int->Int->AA (List α))(e:Int)(h:Int)(c:Int)(a:Int)(g:List α):AA (List α):=br (decide (w64 (Dy (Go.IntKind.u64.wrap (w64 (e+c))) 1)<w64 (w64 (w64 (Dy (Go.IntKind.u64.wrap (w64 (e+c))) 1)+h)-a))) (jn (Hi cmp rE e h c a g) (decide (w64 (w64 (w64 (Dy (Go.IntKind.u64.wrap (w64 (e+c))) 1)+h)-a)<c))) (jn (Hi cmp rE e h c a g) false)
def Hh{α:Type}(cmp:α->α->AA Int)(rE:List α->Int->Int->Int->AA (List α))(e:Int)(q:Int)(g:Int)(a:Int)(c:List α)(h:Bool):AA (List α):=br h (bd (rE c e a (w64 (Dy (Go.IntKind.u64.wrap (w64 (e+g))) 1))) fun j=>jn (Fo cmp rE e q g a) j) (jn (Fo cmp rE e q g a) c)
def Fm{α:Type}(cmp:α->α->AA Int)(rE:List α->Int->Int->Int->AA (List α))(e:Int)(h:Int)(g:Int)(a:Int)(c:List α):AA (List α):=br (decide (e<a)) (jn (Hh cmp rE e h g a c) (decide (a<w64 (Dy (Go.IntKind.u64.wrap (w64 (e+g))) 1)))) (jn (Hh cmp rE e h g a c) false)
def Hg{α:Type}(cmp:α->α->AA Int)(rE:List α->Int->Int->Int->AA (List α))(q:List α)(e:Int)(c:Int)(g:Int)(a:Int)(h:Bool):AA (List α):=br h (bd (HO cmp q a c (w64 (w64 (w64 (Dy (Go.IntKind.u64.wrap (w64 (e+g))) 1)+c)-a))) fun j=>jn (Fm cmp rE e c g a) j) (jn (Fm cmp rE e c g a) q)
def Hf{α:Type}(cmp:α->α->AA Int)(rE:List α->Int->Int->Int->AA (List α))(h:List α)(e:Int)(c:Int)(g:Int)(a:Int):AA (List α):=br (decide (a<c)) (jn (Hg cmp rE h e c g a) (decide (c<w64 (w64 (w64 (Dy (Go.IntKind.u64.wrap (w64 (e+g))) 1)+c)-a)))) (jn (Hg cmp rE h e c g a) false)
def J3{α:Type}(cmp:α->α->AA Int)(rE:List α->Int->Int->Int->AA (List α))(g:List α)(h:Int)(j:Int)(q:Int)(e:(Int×Int)->AA (List α))(I:(Int×Int)):AA (List α):=match I with |(a,c)=>br (decide (a<c)) (bd (at? g (w64 (w64 (w64 (w64 (Dy (Go.IntKind.u64.wrap (w64 (h+q))) 1)+j)-1)-w64 (Dy (Go.IntKind.u64.wrap (w64 (a+c))) 1)))) fun G=>bd (at? g (w64 (w64 (w64 (w64 (Dy (Go.IntKind.u64.wrap (w64 (h+q))) 1)+j)-1)-w64 (Dy (Go.IntKind.u64.wrap (w64 (a+c))) 1)))) fun y=>bd (at? g (w64 (Dy (Go.IntKind.u64.wrap (w64 (a+c))) 1))) fun H=>bd (at? g (w64 (Dy (Go.IntKind.u64.wrap (w64 (a+c))) 1))) fun B=>bd (cmp y B) fun E=>br (!decide (E<0)) (e ((w64 (w64 (Dy (Go.IntKind.u64.wrap (w64 (a+c))) 1)+1),c))) (e ((a,w64 (Dy (Go.IntKind.u64.wrap (w64 (a+c))) 1))))) (jn (Hf cmp rE g h j q) a)
def Fl{α:Type}(cmp:α->α->AA Int)(rE:List α->Int->Int->Int->AA (List α))(e:List α)(g:Int)(h:Int)(j:Int)(q:(Int×Int)):AA (List α):=match q with |(a,c)=>A3 (J3 cmp rE e g h j) big (a,c)
def KV{α:Type}(cmp:α->α->AA Int)(rE:List α->Int->Int->Int->AA (List α))(g:List α)(a:Int)(e:Int)(c:Int)(_:PUnit):AA (List α):=br (decide (e>w64 (Dy (Go.IntKind.u64.wrap (w64 (a+c))) 1))) (jn (Fl cmp rE g a e c) ((w64 (w64 (w64 (Dy (Go.IntKind.u64.wrap (w64 (a+c))) 1)+e)-c),w64 (Dy (Go.IntKind.u64.wrap (w64 (a+c))) 1)))) (jn (Fl cmp rE g a e c) (a,e))
def KT{α:Type}(cmp:α->α->AA Int)(rE:List α->Int->Int->Int->AA (List α))(c:List α)(e:Int)(a:Int)(g:Int)(_:PUnit):AA (List α):=br (w64 (g-a)==1) (A3 (KY cmp c a) big (e,a)) (jn (KV cmp rE c e a g) ())
def FK{α:Type}(cmp:α->α->AA Int)(rE:List α->Int->Int->Int->AA (List α))(e:List α)(a:Int)(c:Int)(g:Int):AA (List α):=br (w64 (c-a)==1) (A3 (KW cmp e a) big (c,g)) (jn (KT cmp rE e a c g) ())
def HG{α:Type}(cmp:α->α->AA Int)(mrg:List α->Int->Int->Int->AA (List α))(e:((List α)×Int)->AA (List α))(a:Int)(c:List α):AA (List α):=e ((c,w64 (a*2)))
def MC{α:Type}(cmp:α->α->AA Int)(mrg:List α->Int->Int->Int->AA (List α))(j:Int)(h:((List α)×Int)->AA (List α))(a:Int)(q:((List α)×Int)):AA (List α):=match q with |(e,c)=>br (decide (w64 (c+a)<j)) (bd (mrg e c (w64 (c+a)) j) fun g=>jn (HG cmp mrg h a) g) (jn (HG cmp mrg h a) e)
def MD{α:Type}(cmp:α->α->AA Int)(mrg:List α->Int->Int->Int->AA (List α))(q:Int)(y:((List α)×Int)->AA (List α))(c:Int)(h:((List α)×Int×Int)->AA (List α))(B:((List α)×Int×Int)):AA (List α):=match B with |(g,e,a)=>br (decide (a<=q)) (bd (mrg g e (w64 (e+c)) a) fun j=>h ((j,a,w64 (a+w64 (2*c))))) (jn (MC cmp mrg q y c) (g,e))
def Fe{α:Type}(cmp:α->α->AA Int)(mrg:List α->Int->Int->Int->AA (List α))(e:Int)(g:((List α)×Int)->AA (List α))(h:((List α)×Int)):AA (List α):=match h with |(c,a)=>br (decide (a<e)) (A3 (MD cmp mrg e g a) big ((c,0,w64 (2*a)))) (some c)
def HF{α:Type}(cmp:α->α->AA Int)(mrg:List α->Int->Int->Int->AA (List α))(a:Int)(h:((List α)×Int)):AA (List α):=match h with |(c,e)=>bd (DD cmp c e a) fun g=>A3 (Fe cmp mrg a) big (g,20)
def Fc{α:Type}(cmp:α->α->AA Int)(mrg:List α->Int->Int->Int->AA (List α))(c:Int)(h:((List α)×Int×Int)->AA (List α))(q:((List α)×Int×Int)):AA (List α):=match q with |(e,g,a)=>br (decide (a<=c)) (bd (DD cmp e g a) fun j=>h ((j,a,w64 (a+20)))) (jn (HF cmp mrg c) (e,g))
def Fy{α:Type}(cmp:α->α->AA Int)(mrg:List α->Int->Int->Int->AA (List α))(a:List α)(c:Int):AA (List α):=A3 (Fc cmp mrg c) big (a,0,20)
def AaA:YF:=⟨[I4],[.m (.l (.st 4)),.v .i,.v .i,.f I4.x []],[0],.ret [],[],dY ["1tStk0Qo9Sf9juhyp3S2rN28umwufNZKHmzAFOCYW9MbSEyP7Ad1NoqXGbjtcd7HrIHw9DdcB4uIsRwx","akuiEJAG0d0rllXX3cY20n0olc9IsfwqM2TUCV9JPTsSOQPPBuxjAROWGgrluH3sS4VCNJi"] [] [.Dn 32 (.tmp 22) [.v,.v] [.tmp 26,.tmp 31]]⟩
def AGQ(a:List Af)(c e:Int):AA (List Af):=DD TB a c e
def ADL:GF:=AaA.EF (GI AGQ)
def AaB:YF:=⟨[I4],[.m (.l (.st 4)),.v .i,.v .i,.v .i,.f I4.x []],[0],.ret [],[],dY ["CAC9o6Uq7igpEXLhWCshwBqbp0sQrHl8jhOZ6zXVMs553frJlut96tIpCxM6tJHSk9xSB9btAW9KuI"] []⟩
def AZK(a:List Af)(c e g:Int):AA (List Af):=D7 TB a c e g
def qY:GF:=AaB.EF (UQ AZK)
def AaC:YF:=⟨[I4],[.m (.l (.st 4)),.v .i,.v .i,.v .i,.f I4.x []],[0],.ret [],[],dY ["3Du4hQ5LuhbrXQD6gmjrSjjlycRQWAoJ5O2UxLKDZC9Cc2DnCBSzepVdz62fuVeNAooodEBVHnubqqFa","w9mSLRF3kzeaJocLBqft0vTeiuoKMa"] [] [.call 31 qY [0] rfl [.tmp 24,.tmp 27,.tmp 28,.tmp 29,.tmp 30],.call 46 qY [0] rfl [.tmp 35,.tmp 38,.tmp 43,.tmp 44,.tmp 45],.call 57 qY [0] rfl [.tmp 50,.tmp 53,.tmp 54,.tmp 55,.tmp 56]]⟩
def AZL(a:List Af)(c e g:Int):AA (List Af):=HO TB a c e g
def qZ:GF:=AaC.EF (UQ AZL)
abbrev kG:=vE [.m (.l (.st 4)),.v .i,.v .i,.v .i,.f I4.x []] (.ret [])
def AKW(rE:kG)(a:List Af)(c e g:Int):AA (List Af):=rE.d (a,c,e,g,(),())
def AaD(rE:kG):YF:=⟨[I4],[.m (.l (.st 4)),.v .i,.v .i,.v .i,.f I4.x []],[0],.ret [],[],dY ["slQnTRVQMXIGlzJyu6R3tRzBhbOboTDT5YaSkTaqeNjq8Bjuc9q2p9Wi2Eo4xmUwlqV6jc9nLOu7htjS","Wrn4aQ4Fw5qoIvU40eJVHyEYXwT2zh3MJlkgWChWKA2dRS9A1Mvee4O51AxJpRJg31vX1nFMqetim8Lw","531qAsm5DJxTEaCJLQDoliyIWDzJppFYojsnV7Vxf7qF9EITDAeSbpLycCqE3z1qeSBXqaADF0r7Ec4Q","7tuC1Rr8uJ5J9MIaaH50Q7ogb3R1MfeL643TwlGBEIBhrb5NGSZY1XngGEjAv4ceL7EhAThNv05UuxTA","On5wEIbEYzWwr41nquy6FJJXkNMOm3riV2hC9Jd7LfpM8WTT6iFNFq3Sk71bml9bH7JiWjVltRKRrzLd","bO7fvPfFn05hNHjSUA229AwTpF3XELhByYEJ1UfpKgbvndXxeAnQ1a6caUYd5Ue1oqwcFcbovWEINngL","GzNlLkDZAIxKyig5JE86eMnZb4FZru0yeMG6aFb7bsTekz8OWf4FqnF2f3WG3k62fm46TzEeBvWKFa5l","T7OzwAOKHMyZxH3AdH0phmu4HRwlzazGUdP0xkAkEay3A9nchkME0iy50BEbpvYmbBLQLE3ps4HKS6qB","byj4wUjvBcdV5xqQXegKRL97ZTBebX5LVmoksC7GNhTxQKyq4"] [] [.Dn 49 (.tmp 40) [.v,.v] [.tmp 44,.tmp 48],.Dn 101 (.tmp 92) [.v,.v] [.tmp 96,.tmp 100],.Dn 169 (.tmp 158) [.v,.v] [.tmp 164,.tmp 168],.call 191 qZ [0] rfl [.tmp 186,.tmp 187,.tmp 188,.tmp 189,.tmp 190],.call 205 rE.gf [0] rfl [.tmp 200,.tmp 201,.tmp 202,.tmp 203,.tmp 204],.call 219 rE.gf [0] rfl [.tmp 214,.tmp 215,.tmp 216,.tmp 217,.tmp 218]]⟩
def AX9(rE:kG)(a:List Af)(c e g:Int):AA (List Af):=FK TB (AKW rE) a c e g
def AOh(rE:kG):GF:=(AaD rE).gf rfl rfl (fun a=>AX9 rE a.1 a.2.1 a.2.2.1 a.2.2.2.1) (fun a=>by kernel_rfl)
def Za:Nat->kG|0=>.nil _ _|k+1=>.of (AOh (Za k))
def ANi(a:List Af)(c e g:Int):AA (List Af):=(Za 7).d (a,c,e,g,(),())
def qg:GF:=(Za 7).gf
def AaE:YF:=⟨[I4],[.m (.l (.st 4)),.v .i,.f I4.x []],[0],.ret [],[],dY ["1ZNxqFjDOZsi3YzSbA8UhUHZkcG4Ximf55JReFS7jlErt9i3I3RqN3OJtRZHKJSVGZfOudYxhWwc1B0j","UOwXMdVbjjRH32EABkVi8cvygYiPB2Nr7H6gIbEIoUGI23NwnJnEhVjZ4JAjjVEEY9B3cYesoHlUvtks","QQou7sKfgtS2qramN"] [] [.call 18 ADL [0] rfl [.tmp 14,.tmp 15,.tmp 16,.tmp 17],.call 27 ADL [0] rfl [.tmp 23,.tmp 24,.tmp 25,.tmp 26],.call 43 qg [0] rfl [.tmp 36,.tmp 37,.tmp 40,.tmp 41,.tmp 42],.call 60 qg [0] rfl [.tmp 55,.tmp 56,.tmp 57,.tmp 58,.tmp 59]]⟩
def AGR(a:List Af)(c:Int):AA (List Af):=Fy TB ANi a c
def AOr:GF:=AaE.EF (Aq AGR)
def AaF:YF:=⟨[I4],[.m (.l (.st 4)),.f I4.x []],[0],.ret [],[],dY ["FP1yT56XNZd"] [] [.call 8 AOr [0] rfl [.tmp 4,.tmp 6,.tmp 7]]⟩
def lU(a:List Af):AA (List Af):=bd (AGR a (↑a.length:Int)) fun c=>some c
def AOs:GF:=AaF.EF (Bm lU)
def AaG:YF:=⟨[I4],[.v (.st 1),.v (.l (.st 2)),.v .i,.v .i],[],.ret [(.l (.st 4))],[.tmp 8],dY ["H0sB9bNjD5ocWlU02FsudqK75yeFauhDJI5NvlRwXtDeiYyivTgKVW0IHBAnOk3NGysa1ilJwNaD8qEK","BK2wNRMJTEvwIbIXvhpR0ZRBEIa8OJwKtkIO7WfQznCu29R06aLavNr9cnw6mExGM"] [rC] [.call 40 AOs [0] rfl [.tmp 39,.fn 0]]⟩
def Ui(a:List Af×Int->AA (List Af))(c:Int)(e:List Af):AA (List Af):=a (e,w64 (c+1))
def Uh(c:List Af×Int->AA (List Af))(a:List Af)(e:Int)(g:Af×Bool)(h:Bool):AA (List Af):=br h (gd (e8 a+[g.fst].length<=lim) (jn (Ui c e) (a++[g.fst]))) (jn (Ui c e) a)
def Qy(a:List Af):AA (List Af):=bd (lU a) fun c=>some c
def Qz(q:Aa)(h:List AN)(y B:Int)(g:List Af×Int->AA (List Af))(E:List Af×Int):AA (List Af):=let (c,a):=E;br (decide (a<h.length)) (bd (at? h a) fun j=>bd (lg q j B) fun e=>br e.snd (jn (Uh g c a e) (j.AY==y)) (jn (Uh g c a e) false)) (jn Qy c)
def Y0(a:Aa)(c:List AN)(e g:Int):AA (List Af):=A3 (Qz a c e g) big ([],0)
def qh:GF:=AaG.EF (UQ Y0)
def vm(_:PUnit):AA Bool:=some true
def bF(g j:List Af)(h:Int->AA Bool)(a:Int):AA Bool:=br (decide (a<g.length)) (bd (at? g a) fun c=>bd (at? j a) fun e=>br (!(c.Level==e.Level&&(c.Az==e.Az&&(c.Id==e.Id&&(c.BA==e.BA&&true))))) (some false) (h (w64 (a+1)))) (jn vm ())
def AGS(a c:List Af):AA Bool:=br ((↑a.length:Int) != c.length) (some false) (A3 (bF a c) big 0)
def AOt:=gZ AEU CK B5 ["3y13qOmqBYte4yx3kNOBj6BJCBBfB4KgykmzMCHY9z5teRVRhYajEaYfV7vVJbP4RT622oWsWIW"] [] (Aq AGS)
def bI(g:Int×Int):AA Int:=let (a,c):=g;bd (α:=UInt8) (at? [0,1,2,2,3,3,3,3,4,4,4,4,4,4,4,4,5,5,5,5,5,5,5,5,5,5,5,5,5,5,5,5,6,6,6,6,6,6,6,6,6,6,6,6,6,6,6,6,6,6,6,6,6,6,6,6,6,6,6,6,6,6,6,6,7,7,7,7,7,7,7,7,7,7,7,7,7,7,7,7,7,7,7,7,7,7,7,7,7,7,7,7,7,7,7,7,7,7,7,7,7,7,7,7,7,7,7,7,7,7,7,7,7,7,7,7,7,7,7,7,7,7,7,7,7,7,7,7,8,8,8,8,8,8,8,8,8,8,8,8,8,8,8,8,8,8,8,8,8,8,8,8,8,8,8,8,8,8,8,8,8,8,8,8,8,8,8,8,8,8,8,8,8,8,8,8,8,8,8,8,8,8,8,8,8,8,8,8,8,8,8,8,8,8,8,8,8,8,8,8,8,8,8,8,8,8,8,8,8,8,8,8,8,8,8,8,8,8,8,8,8,8,8,8,8,8,8,8,8,8,8,8,8,8,8,8,8,8,8,8,8,8,8,8,8,8,8,8,8,8,8,8,8,8,8,8] (↑(toB a).toNat:Int)) fun e=>some (w64 (c+w64 (↑e.toNat:Int)))
def bH(e:Int×Int):AA Int:=let (a,c):=e;br (decide (a>=256)) (jn bI (Dy a 8,w64 (c+8))) (jn bI (a,c))
def bG(e:Int×Int):AA Int:=let (a,c):=e;br (decide (a>=65536)) (jn bH (Dy a 16,w64 (c+16))) (jn bH (a,c))
def ANj(a:Int):AA Int:=br (decide (a>=4294967296)) (jn bG (Dy a 32,32)) (jn bG (a,0))
def AOu:=gZ [.v (.ki .u64)] Cv DM ["qTe0Fq2MAUxHRRhoWS2vwsKeM0RYiEIE3OdYzhw9ql8tgNH0BLXvnFLET3A6RhD0zSyfQO6UCl1cK3b5","CCX191AOgOjyOWeq9JDXJFuGeFo"] [] (Bm ANj) [.ix 22 (.k (.str [0,1,2,2,3,3,3,3,4,4,4,4,4,4,4,4,5,5,5,5,5,5,5,5,5,5,5,5,5,5,5,5,6,6,6,6,6,6,6,6,6,6,6,6,6,6,6,6,6,6,6,6,6,6,6,6,6,6,6,6,6,6,6,6,7,7,7,7,7,7,7,7,7,7,7,7,7,7,7,7,7,7,7,7,7,7,7,7,7,7,7,7,7,7,7,7,7,7,7,7,7,7,7,7,7,7,7,7,7,7,7,7,7,7,7,7,7,7,7,7,7,7,7,7,7,7,7,7,8,8,8,8,8,8,8,8,8,8,8,8,8,8,8,8,8,8,8,8,8,8,8,8,8,8,8,8,8,8,8,8,8,8,8,8,8,8,8,8,8,8,8,8,8,8,8,8,8,8,8,8,8,8,8,8,8,8,8,8,8,8,8,8,8,8,8,8,8,8,8,8,8,8,8,8,8,8,8,8,8,8,8,8,8,8,8,8,8,8,8,8,8,8,8,8,8,8,8,8,8,8,8,8,8,8,8,8,8,8,8,8,8,8,8,8,8,8,8,8,8,8,8,8,8,8,8,8])) (.tmp 21)]
def AGT(a:Int):AA Int:=bd (ANj a) fun c=>some c
def AOv:=gZ [.v (.ki .u64)] Cv DM ["2JcuNXMkKYLHXkAbSF"] [AOu] (Bm AGT)
def AaJ:YF:=⟨[GW],[.m (.l (.st 5)),.v .i,.v .i,.f GW.x []],[0],.ret [],[],dY ["ikbsRMVzRg45nk8WCITzDjOanoQwOD8c9n4lofwPb2QxZnYGeEv7OsAzz5VVX75wxEEJqrQ44dMOsC25","HoUkGp79iSm1F8UbEViP4x6ARFe5ckQAAR8H6vBjCwXtV62hyPMxI5jj733MHybN4A1k"] [] [.Dn 32 (.tmp 22) [.v,.v] [.tmp 26,.tmp 31]]⟩
def wT(a:List BH)(c e:Int):AA (List BH):=DD Q1 a c e
def rD:GF:=AaJ.EF (GI wT)
def AaK:YF:=⟨[GW],[.m (.l (.st 5)),.v .i,.v .i,.v .i,.f GW.x []],[0],.ret [],[],dY ["1pUgjXqHLABObXv6BEm9NVFTImHAQkCBeIdj0kCOyWnQV9KtOYvM0CdhdlD1GCZ83CbEa4N7xRzYHaaM","ofvrcR3CG1ZkH84xtjsullVJgLBXrxUkN5pf64rgWRJ1vqnj5DvAmRZ3H6RZdHXHuJelojSGsmAhaaA1","TfIMLirrGzQYzP3TwJh2W7wfAOtCijnd5ZT4Nxj59eF6T6QSO6QjvTXfUqMq0NFRzFZZYDvLgNzqhaz2","imFFBv5N3KyIUuzkjU1wuscJ3AyVzrLWqCpbZ8njunHsfjiKNQIsOtcXfJjCwTrxoovw6CQOxTE8Tuli","J3zVDeEnko5ZfkNtPOWAHPxccyyoPW0W2grj26yV9LaE7zyxFcmBEneGugTvuDeShwbTEs9thKLxnYq4","UCy0l5zrKWF2qS5X4vsDx9Ie4"] [] [.call 30 rD [0] rfl [.tmp 26,.tmp 27,.tmp 28,.tmp 29],.bad (some 37),.bad (some 44),.bad (some 52),.bad (some 61),.bad (some 80),.bad (some 94),.bad (some 103),.bad (some 111),.bad (some 134),.bad (some 146)]⟩
def wV(e:List BH)(a c g:Int)(j:PUnit->AA (List BH))(_:PUnit):AA (List BH):=br (decide (w64 (c-a)<=12)) (bd (wT e a c) fun h=>some h) (br (g==0) none none)
def ANo(a:List BH)(c e g:Int):AA (List BH):=A3 (wV a c e g) big ()
def APD:GF:=AaK.EF (UQ ANo)
def AaL:YF:=⟨[GW],[.m (.l (.st 5)),.f GW.x []],[0],.ret [],[],dY ["iHIbchLeZh2820LCMeFKn"] [AOv] [.call 13 APD [0] rfl [.tmp 7,.k (.int .i64 0),.tmp 8,.tmp 11,.tmp 12]]⟩
def AGi(a:List BH):AA (List BH):=bd (AGT (Go.IntKind.u64.wrap (↑a.length:Int))) fun c=>bd (ANo a 0 (↑a.length:Int) c) fun e=>some e
def APE:GF:=AaL.EF (Bm AGi)
def AaM:YF:=⟨[GW],[.v (.st 6)],[],.ret [(.l (.st 5))],[.tmp 2],dY ["2eAFKyv2xJkrXSUWBjj5HUYQvUNwgNFODS8ZVDHSMC9aji6Kjrxskmyrl9F0WjtnNiUIdp6KcVOJEaHF","jgqP"] [iF] [.call 21 APE [0] rfl [.tmp 20,.fn 0]]⟩
def wa(a:List BH):AA (List BH):=bd (AGi a) fun c=>some c
def wg(e:A0)(h:List BH×Int->AA (List BH))(j:List BH×Int):AA (List BH):=let (a,c):=j;br (decide (c<e.Ao.length)) (bd (at? e.Ao c) fun g=>gd (e8 a+e8 g<=lim) (h (a++g,w64 (c+1)))) (jn wa a)
def wW(a:A0):AA (List BH):=bd (TC a) fun c=>br (!c) (some []) (A3 (wg a) big ([],0))
def ADQ:GF:=AaM.EF (Bm wW)
def AaN:YF:=⟨[GW],[.m (.l (.st 5)),.v .i,.v .i,.v .i,.f GW.x []],[0],.ret [],[],dY ["1m4AqWfYIAdOv9iVZkZrVOcKZOubTAEVgYLUOKqpwImMUqAAUUUc7Cnuwu9LYKigfMI1Dpf4yX2gT"] []⟩
def AZM(a:List BH)(c e g:Int):AA (List BH):=D7 Q1 a c e g
def rF:GF:=AaN.EF (UQ AZM)
def AaO:YF:=⟨[GW],[.m (.l (.st 5)),.v .i,.v .i,.v .i,.f GW.x []],[0],.ret [],[],dY ["1qHUJMaFoGax2jL1pdqjipNI3i4JqMTwIyXxU7sLFqEhc5BAQ6hbro42O7Y1ScIzC9wjz7DupkElkerT","9kiN2fwYy2t3tvk9Wvh13U7zuyIuDq"] [] [.call 31 rF [0] rfl [.tmp 24,.tmp 27,.tmp 28,.tmp 29,.tmp 30],.call 46 rF [0] rfl [.tmp 35,.tmp 38,.tmp 43,.tmp 44,.tmp 45],.call 57 rF [0] rfl [.tmp 50,.tmp 53,.tmp 54,.tmp 55,.tmp 56]]⟩
def AZN(a:List BH)(c e g:Int):AA (List BH):=HO Q1 a c e g
def rG:GF:=AaO.EF (UQ AZN)
abbrev kH:=vE [.m (.l (.st 5)),.v .i,.v .i,.v .i,.f GW.x []] (.ret [])
def AKX(rE:kH)(a:List BH)(c e g:Int):AA (List BH):=rE.d (a,c,e,g,(),())
def AaP(rE:kH):YF:=⟨[GW],[.m (.l (.st 5)),.v .i,.v .i,.v .i,.f GW.x []],[0],.ret [],[],dY ["aIORhBhDA7Prj95xDFYJBGaKGSu6OuUl70Ha1Accsp2M26csPYtWU9VSilsTUUfbVkEuNExGrDXlVvuq","oZmWbVe4w408kfJ06z2pGziOyYaFQZhFH5preDPAaMiX2Q7rOZpQcM1bk9nceJiu67oO4SBWtxRYFsc6","q3e8x17soTM55pQx1NzrdrPMe87DfqzKlHrjzwvQPYq6JzioLSSb5C35kNaZNOsYX1fqVViaRCIZU1XG","d0vebpOOrk5KLzXcTqyRnHx9TRcTK2BAg1XRkePqD61NfdLNOakMeFgasFhqfJx17et0fTZLMCXkFhmq","G3U1C0oOIF9cOo4qTxCxfwlrZiAsX3Eewk9j0Sbv49TAoGGeo2IIS5ocpiYwnmEnxAvR1UmEMwt4v8qg","3sz6Dr6VYpsygbvhbIIdTFLbT6pKpa6exhpzqn2au9F51OHvlEh7Jd8rSEju2YeDEli5uztMBUhHctzZ","GwchoG6mcobCqydq7Xei8vjJ0ZYLjLq0QzuDBNpuv0eu7lN3E6hO59ukFaGdIjYhLIHW2vfOgnzuO4VP","T21q804G9lLNW3nYmGFM20ctWWjJyuQkrr9qVaFIZzLHlvCTw7Zb2hgLrX6iDudqstUXOnwfP178igv8","fdmB5XpIX59AVVGTgs4Al3h8wn3RHuZxobVg9uCaovtA"] [] [.Dn 49 (.tmp 40) [.v,.v] [.tmp 44,.tmp 48],.Dn 101 (.tmp 92) [.v,.v] [.tmp 96,.tmp 100],.Dn 169 (.tmp 158) [.v,.v] [.tmp 164,.tmp 168],.call 191 rG [0] rfl [.tmp 186,.tmp 187,.tmp 188,.tmp 189,.tmp 190],.call 205 rE.gf [0] rfl [.tmp 200,.tmp 201,.tmp 202,.tmp 203,.tmp 204],.call 219 rE.gf [0] rfl [.tmp 214,.tmp 215,.tmp 216,.tmp 217,.tmp 218]]⟩
def AYA(rE:kH)(a:List BH)(c e g:Int):AA (List BH):=FK Q1 (AKX rE) a c e g
def AOi(rE:kH):GF:=(AaP rE).gf rfl rfl (fun a=>AYA rE a.1 a.2.1 a.2.2.1 a.2.2.2.1) (fun a=>by kernel_rfl)
def Zb:Nat->kH|0=>.nil _ _|k+1=>.of (AOi (Zb k))
def ANp(a:List BH)(c e g:Int):AA (List BH):=(Zb 7).d (a,c,e,g,(),())
def rH:GF:=(Zb 7).gf
def AaQ:YF:=⟨[GW],[.m (.l (.st 5)),.v .i,.f GW.x []],[0],.ret [],[],dY ["IC7oXqVx8L1Y2AvXIi4laJaX4c2CyQOf8PlNH0Z1KfwnTnCFoLgho7fm5qlQbbF3jY9rZnX3jyj7ZCrt","r67DnApUfEPz1cDw7gWuOpTEMUhNK6JVFXrYRuJltgKe5DOPpqycN7E4OIdIZhzbwQXG310YROnLB7OG","vl5JdBdXSBflkcwe"] [] [.call 18 rD [0] rfl [.tmp 14,.tmp 15,.tmp 16,.tmp 17],.call 27 rD [0] rfl [.tmp 23,.tmp 24,.tmp 25,.tmp 26],.call 43 rH [0] rfl [.tmp 36,.tmp 37,.tmp 40,.tmp 41,.tmp 42],.call 60 rH [0] rfl [.tmp 55,.tmp 56,.tmp 57,.tmp 58,.tmp 59]]⟩
def AGj(a:List BH)(c:Int):AA (List BH):=Fy Q1 ANp a c
def APF:GF:=AaQ.EF (Aq AGj)
def AaR:YF:=⟨[GW],[.m (.l (.st 5)),.f GW.x []],[0],.ret [],[],dY ["FP1yT56XNZd"] [] [.call 8 APF [0] rfl [.tmp 4,.tmp 6,.tmp 7]]⟩
def lh(a:List BH):AA (List BH):=bd (AGj a (↑a.length:Int)) fun c=>some c
def APG:GF:=AaR.EF (Bm lh)
def AaS:YF:=⟨[GW],[.v (.l (.st 2)),.v .i],[],.ret [(.l (.st 5))],[.tmp 4],dY ["1NpBvhG4W8zaQWN9mhviuyGpbPK0LkYOYyUNQQ67WJUjiy8U9wHFJJ7Kg3AfKQIg22r6MnAFkl5b36tk","fWLNpvGBYShROM8j9Nl7vq6Eb6rTFg"] [] [.call 33 APG [0] rfl [.tmp 32,.fn 0]]⟩
def Ur(a:List BH×Int->AA (List BH))(c:Int)(e:List BH):AA (List BH):=a (e,w64 (c+1))
def Uq(e:List BH×Int->AA (List BH))(c:List BH)(g:Int)(a:AN)(h:Bool):AA (List BH):=br h (gd (e8 c+[BH.mk a.Cq a.Id].length<=lim) (jn (Ur e g) (c++[BH.mk a.Cq a.Id]))) (jn (Ur e g) c)
def Q3(a:List BH):AA (List BH):=bd (lh a) fun c=>some c
def Q4(h:List AN)(j:Int)(g:List BH×Int->AA (List BH))(q:List BH×Int):AA (List BH):=let (e,a):=q;br (decide (a<h.length)) (bd (at? h a) fun c=>br (c.State==2) (jn (Uq g e a c) (c.AY==j)) (jn (Uq g e a c) false)) (jn Q3 e)
def bY(a:List AN)(c:Int):AA (List BH):=A3 (Q4 a c) big ([],0)
def ADR:GF:=AaS.EF (Aq bY)
def wu(_:PUnit):AA Bool:=some true
def bZ(c j:List BH)(h:Int->AA Bool)(a:Int):AA Bool:=br (decide (a<c.length)) (bd (at? c a) fun e=>bd (at? j a) fun g=>br (!(e.At==g.At&&(e.Id==g.Id&&true))) (some false) (h (w64 (a+1)))) (jn wu ())
def AGk(a c:List BH):AA Bool:=br ((↑a.length:Int) != c.length) (some false) (A3 (bZ a c) big 0)
def APH:=gZ AEV CK B5 ["I7OcPYLSLSo27SlcwE7yCyaC2hUnTBjFuatz5ImRhFiPczzsGwO85q7dAAVNPxO4m7uuE5OmbP"] [] (Aq AGk)
def bc(a:Int×Int->AA Int)(c e:Int):AA Int:=a (e,w64 (c+1))
def Ut(a:Int×Int->AA Int)(c e:Int)(h:AN)(g:Bool):AA Int:=br g (jn (bc a e) (w64 (c+h.BA))) (jn (bc a e) c)
def wv(a:Int):AA Int:=some a
def bg(h:List AN)(j:Int)(g:Int×Int->AA Int)(y:Int×Int):AA Int:=let (e,c):=y;br (decide (c<h.length)) (bd (at? h c) fun a=>br (a.State==2) (br (a.AY==j) (bd (C3 a.BA 1 6) fun q=>jn (Ut g e c a) q) (jn (Ut g e c a) false)) (jn (Ut g e c a) false)) (jn wv e)
def ba(a:List AN)(c:Int):AA Int:=A3 (bg a c) big (0,0)
def ADS:=gZ M8 Cv B5 ["1GZ7Y5hDZ8sXGiljubo7gRZUIS9G2Ov6etCVR8elT7pjY1cDsZhFtby5UUdc6GaxQN3lgffSzEa82Fgo","h4VHht8TkcwzfAdhVFSg1N1kJi"] [Eb] (Aq ba)
def bj(a:Int×Int->AA Int)(c e:Int):AA Int:=a (e,w64 (c+1))
def bh(a:Int×Int->AA Int)(c e:Int)(h:AN)(g:Bool):AA Int:=br g (jn (bj a e) (w64 (c+h.BA))) (jn (bj a e) c)
def wy(a:Int):AA Int:=some a
def bk(h:List AN)(j:Int)(g:Int×Int->AA Int)(y:Int×Int):AA Int:=let (e,a):=y;br (decide (a<h.length)) (bd (at? h a) fun c=>br (c.Bi==j) (bd (C3 c.BA 1 6) fun q=>jn (bh g e a c) q) (jn (bh g e a c) false)) (jn wy e)
def Y2(a:List AN)(c:Int):AA Int:=A3 (bk a c) big (0,0)
def ADT:=gZ M8 Cv B5 ["Phg7nfIsCzo77Lsyg8D1twkky8Te1jyc32ZVknJ0qvcj9mlYeMH8x5GjP2vIZhfAuEWrcWnlNowc5yXc","5cuk9PNFcJ"] [Eb] (Aq Y2)
def OY(a:Bool):AA Bool:=some a
def AGl(g:Aa)(a:Ab)(c:List AN)(e h:Int):AA Bool:=bd (AGV a) fun j=>br j (bd (Y0 g c e h) fun q=>bd (AGS a.Row q) fun y=>br y (bd (wW a.Bq) fun B=>bd (bY c e) fun E=>bd (AGk B E) fun G=>br G (bd (ba c e) fun H=>br (a.AW.Ee==H) (bd (Y2 c e) fun I=>jn OY (a.AW.Fx==I)) (jn OY false)) (jn OY false)) (jn OY false)) (jn OY false)
def API:=gZ ASC CK [.tmp 10] ["t8JZAlpgG7P7VW0PmEoCVBKk9FtdJUJo3nXgqPKtxzFiyVhzABFQddr7j3m2gkPKi6yJfuUkRa8W69R4","7ZfKoeVQmJicr6IZd84q6SNMDUVRjpO5Tp12pfLuIVXQFonnwQ0VW8oy52qO1xUZeuN0R6"] [AOz,qh,AOt,ADQ,ADR,APH,ADS,ADT] (AVD AGl)
def w9(_:PUnit):AA Int:=some (-1)
def bm(c:List Int)(g:Int)(e:Int->AA Int)(a:Int):AA Int:=br (decide (a<c.length)) (bd (at? c a) fun h=>br (g==h) (some a) (e (w64 (a+1)))) (jn w9 ())
def ANq(a:List Int)(c:Int):AA Int:=A3 (bm a c) big 0
def APJ:=gZ ZH Cv B5 ["G2agIezO7qL5rVEgnG9FTfq19pSzoWOhILZcCnsHIQbKRKnILXubG1D6a"] [] (Aq ANq)
def lj(a:List Int)(c:Int):AA Bool:=bd (ANq a c) fun e=>some (decide (e>=0))
def rI:=gZ ZH CK B5 ["L50tVvVrGF1El1"] [APJ] (Aq lj)
def LJ(c:Int->AA Bool)(e:Int)(a:Bool):AA Bool:=br a (some false) (c (w64 (e+1)))
def xA(a:Int->AA Bool)(c:Int)(_:PUnit):AA Bool:=a (w64 (c+1))
def bq(j:AE)(q:Int->AA Bool)(h:Int)(e:AN)(g:Int->AA Bool)(c:Int):AA Bool:=br (decide (c<(c5 h.toNat j.AG).length)) (bd (at? (c5 h.toNat j.AG) c) fun a=>br (e.Az==a.Az) (jn (LJ g c) true) (br (decide (e.Az<a.Az)) (br (decide (e.Since>a.Since)) (jn (LJ g c) true) (br (decide (a.Az<e.Az)) (jn (LJ g c) (decide (a.Since>e.Since))) (jn (LJ g c) false))) (br (decide (a.Az<e.Az)) (jn (LJ g c) (decide (a.Since>e.Since))) (jn (LJ g c) false)))) (jn (xA q h) ())
def OZ(c:AE)(e:Int->AA Bool)(a:Int)(h:AN)(g:Bool):AA Bool:=br g (some false) (gd (0<=a/\a<=c.AG.length) (A3 (bq c e a h) big 0))
def Q5(a:Int->AA Bool)(c:Int)(e:Bool):AA Bool:=br e (some false) (a (w64 (c+1)))
def XG(a:Int->AA Bool)(c:Int)(e:Bool):AA Bool:=br e (some false) (a (w64 (c+1)))
def lk(_:PUnit):AA Bool:=some true
def XI(e:AE)(c:Int->AA Bool)(a:Int):AA Bool:=br (decide (a<e.BC.length)) (bd (at? e.BC a) fun g=>bd (C3 g (-1) (w64 ((↑e.AQ.AW.length:Int)-1))) fun h=>br (!h) (some false) (c (w64 (a+1)))) (jn lk ())
def SR(a:AE)(_:PUnit):AA Bool:=A3 (XI a) big 0
def XH(c:AE)(e:Int->AA Bool)(a:Int):AA Bool:=br (decide (a<c.BF.length)) (bd (at? c.BF a) fun g=>bd (Ly g (↑c.AQ.AW.length:Int)) fun h=>br (!h) (jn (XG e a) true) (gd (0<=a/\a<=c.BF.length) (bd (lj (c5 a.toNat c.BF) g) fun j=>jn (XG e a) j))) (jn (SR c) ())
def SQ(a:AE)(_:PUnit):AA Bool:=A3 (XH a) big 0
def bt(c:AE)(e:Int->AA Bool)(a:Int):AA Bool:=br (decide (a<c.AH.length)) (bd (at? c.AH a) fun g=>bd (at? c.AQ.AW a) fun h=>br (g.AW.Total != h) (jn (Q5 e a) true) (bd (lW c.AG a) fun j=>br (decide (j>c.AQ.Room)) (jn (Q5 e a) true) (bd (AGl c.AQ g c.AG a c.Now) fun q=>jn (Q5 e a) (!q)))) (jn (SQ c) ())
def Uu(a:AE)(_:PUnit):AA Bool:=A3 (bt a) big 0
def bn(a:AE)(g:Int->AA Bool)(c:Int):AA Bool:=br (decide (c<a.AG.length)) (bd (at? a.AG c) fun e=>bd (bM a.AQ e a.Now) fun j=>br (!j) (jn (OZ a g c e) true) (br (decide (e.Az>=a.Az)) (jn (OZ a g c e) true) (br (decide (c>0)) (bd (at? a.AG (w64 (c-1))) fun h=>jn (OZ a g c e) (decide (h.Id>=e.Id))) (jn (OZ a g c e) false)))) (jn (Uu a) ())
def LI(a:AE)(c:Bool):AA Bool:=br c (some false) (br (decide ((↑a.AG.length:Int)>40)) (some false) (A3 (bn a) big 0))
def TD(a:AE):AA Bool:=bd (Um a.AQ) fun g=>br (!g) (jn (LI a) true) (bd (C3 a.Now 0 1000000) fun c=>br (!c) (jn (LI a) true) (bd (C3 a.Az 1 1000001) fun e=>br (!e) (jn (LI a) true) (br ((↑a.AH.length:Int) != a.AQ.AW.length) (jn (LI a) true) (jn (LI a) ((↑a.BC.length:Int) != a.AQ.Cx)))))
def Tw:=gZ Py CK DM ["YCrOpxFm1XhvRcUfNzkmQUM28osDH965u2vBzQcnurLJmpSCunyo8WF9KRcR3tMooLU3LBagrpaeTupp","z0nwRK2Y1r0VWFPCQWQ18f5WIcbScnzDTn9hxiSOZ3PHxklU9YYOkeRXfnhSdqC0W0O6JdJRmTsp9zfe","ifcg1ZccXNWmMWJTy3ohAqAaTrFNAiorps6zrcKjXF9JpXfZl5iMNvNT6rF7dE87LePULCkqllwYNDkq","i7RYux3sakBnRGXwdlfbXaJyASfH3j53K2MRyS5npWFC7AUQTvh8MvPJhhSjItFAaCQ2bUnsWRtG7d1q","OpqJCvPGInBTFdFZ6xSYogP7wiOmi6G7dkU2VCAUIHiZOVIAK2ZmW3kYBEdFsDdyEZy5t5d7LOTP3L1A","cTgI1DLxluaAAqUFLb0KYsTvrlz7BOItYEUIZBOevM3GpRWNTLPi0NNzngUfmSnPgV1K9FP6FCOCkIHf","fKNZWACFJYn3x36Xdu8uuBaRPgjIDabhPUArlq1hg6NNZNIsUhYFoqnGqwCgboZNDI15dEXWBPijnG7Z","sY71WRzQ8TSan0vJBukE7pMFDIHyWeix6iZOjGVMQy6wPDvUOkzVgxIDXVnmhUGjjZ63qL291Msx2cUX","2JEpGQwerOIeMoOo2rPjBKt3T52MTNsJVFGXzWJHcSPkkX2HTV1pUBr8XJ3zCiWqCQNQgjkx9qFsOa6L","nMDVa2wvj8f0kRErLqev4CZx9aWDQ"] [Tv,Eb,iE,qy,API,Pt,rI] (Bm TD) [.as 10 (.tmp 182),.as 11 (.tmp 184),.as 13 (.tmp 204)]
def bu(a:Bool):AA Bool:=some a
def Oa(a:Bl):AA Bool:=br (decide ((↑a.Data.length:Int)<=20000)) (bd (C3 a.Safe 0 (↑a.Data.length:Int)) fun c=>jn bu c) (jn bu false)
def RT:=gZ iO CK DM ["tnSmVl6HcCEO0MoKvt2qx7G19AINdRAM1Bx2J"] [Eb] (Bm Oa)
def Uv(a:Bool):AA Bool:=some a
def xB(a:Bk):AA Bool:=bd (Oa a.Log) fun c=>br c (bd (Oa a.EZ) fun e=>br e (bd (Oa a.Odd) fun g=>jn Uv g) (jn Uv false)) (jn Uv false)
def ADU:=gZ Lc CK DM ["73NUXjM9NEMiLAnI6ms0Z2LwMER7qEm6Z7Z"] [RT] (Bm xB)
def Qc(a:Int):AA Bool:=bd (C3 a 0 9999) fun c=>some c
def APK:=gZ N1 CK DM ["3ex1WJ5nRCoINF"] [Eb] (Bm Qc)
def AaT:YF:=⟨[APK],[.v (.st 0)],[],.ret [.b],[.tmp 2],dY ["1nYFtHilhayFGfwa2RubvAfBsm9saedPaVpqhsZPx52eCkHxbYJ4AljARDY88iUXXA2mxxVqRRN7xO1N","TeVHHRUyKgM6HLqbHkadTfwbA8iOGy4pb1CQUZBAlgFpEsXf9fcRzOBxhKI3hxfLygOJKZZi7cHLN6pL","8Z9iNtSazcYoSUAHQ2oGWaN5Z2LHBfvsqCML9kg3s0ikhIMiCqPazKx86PuiqG2RxdCJ9gy5HmqVvCST","4owfWiM0EO9F4Rp8zP4e3xEjcDb6bgIZsfZhWdYQyehVHzfeVW4UxiomyB55KgcLqBI2Zuifpn2F8xsC","ZXPMr"] [Eb] [.as 3 (.fn 0),.Dn 11 (.tmp 8) [.v] [.tmp 10],.Dn 16 (.tmp 13) [.v] [.tmp 15],.Dn 27 (.tmp 24) [.v] [.tmp 26],.Dn 33 (.tmp 30) [.v] [.tmp 32],.Dn 43 (.tmp 40) [.v] [.tmp 42],.Dn 58 (.tmp 55) [.v] [.tmp 57],.Dn 63 (.tmp 60) [.v] [.tmp 62]]⟩
def Gg(a:Bool):AA Bool:=some a
def Ob(a:Bp)(e:Bool):AA Bool:=br e (bd (Qc a.Id) fun g=>br g (jn Gg (a.Kind==a.Kind&&(a.Id==a.Id&&(a.AY==0&&(a.Bi==0&&(a.BA==0&&(a.Co==0&&true))))))) (jn Gg false)) (br (a.Kind==3) (bd (Qc a.AY) fun h=>br h (bd (Qc a.BA) fun c=>br c (jn Gg (a.Kind==a.Kind&&(a.Id==0&&(a.AY==a.AY&&(a.Bi==0&&(a.BA==a.BA&&(a.Co==0&&true))))))) (jn Gg false)) (jn Gg false)) (br (a.Kind==6) (some (a.Kind==6&&(a.Id==0&&(a.AY==0&&(a.Bi==0&&(a.BA==0&&(a.Co==0&&true))))))) (some false)))
def Uw(a:Bp):AA Bool:=br (a.Kind==1) (bd (Qc a.Id) fun c=>br c (bd (Qc a.AY) fun e=>br e (bd (C3 a.Bi (-1) 9999) fun g=>br g (bd (Qc a.BA) fun h=>br h (bd (Qc a.Co) fun j=>jn Gg j) (jn Gg false)) (jn Gg false)) (jn Gg false)) (jn Gg false)) (br (a.Kind==2) (jn (Ob a) (a.Kind==2)) (br (a.Kind==4) (jn (Ob a) (a.Kind==4)) (br (a.Kind==5) (jn (Ob a) (a.Kind==5)) (jn (Ob a) (a.Kind==7)))))
def iG:GF:=AaT.EF (Bm Uw)
def xC(_:PUnit):AA Bool:=some true
def bw(c:A7)(e:Int->AA Bool)(a:Int):AA Bool:=br (decide (a<c.Laid.length)) (bd (at? c.Laid a) fun g=>bd (Uw g) fun h=>br (!h) (some false) (e (w64 (a+1)))) (jn xC ())
def Oc(a:A7)(c:Bool):AA Bool:=br c (some false) (A3 (bw a) big 0)
def Y3(a:A7):AA Bool:=bd (TD a.A2) fun c=>br (!c) (jn (Oc a) true) (bd (xB a.Bg) fun e=>br (!e) (jn (Oc a) true) (br (decide ((↑a.Laid.length:Int)>8)) (jn (Oc a) true) (bd (C3 a.Seq (↑a.Laid.length:Int) 1000000) fun g=>jn (Oc a) (!g))))
def Xf:=gZ Xn CK DM ["kj0pMGdZj1cRkhZSPvjkRVQE7Akr73SEiJbPRVNPHs0pJp7XsiC3o18bcOkcoyb1WNjnUQJsJBJOSash","JiEZaYhO8gJRKeKUmZpUgci7rIPhg4EA7N7QF0KYUJoayW9"] [Tw,ADU,Eb,iG] (Bm Y3)
def xD(_:PUnit):AA Bool:=some true
def xE(c g:List Int)(e:Int->AA Bool)(a:Int):AA Bool:=br (decide (a<c.length)) (bd (at? c a) fun h=>bd (at? g a) fun j=>br (h != j) (some false) (e (w64 (a+1)))) (jn xD ())
def Qd(a c:List Int):AA Bool:=br ((↑a.length:Int) != c.length) (some false) (A3 (xE a c) big 0)
def Xg:=gZ AEW CK B5 ["aQjQS5AaVbgrJfZnUCLtK23W4nXe9yW15KXrKXsImECYHoNohTL3hDomkp"] [] (Aq Qd)
def xF(a c:Aa):AA Bool:=bd (Qd a.AW c.AW) fun e=>br (!e) (some false) (br (a.Cb != c.Cb) (some false) (br (a.Room != c.Room) (some false) (br (a.BA != c.BA) (some false) (br (a.CG != c.CG) (some false) (br (a.B1 != c.B1) (some false) (br (a.Rest != c.Rest) (some false) (br (a.Ca != c.Ca) (some false) (br (a.Cx != c.Cx) (some false) (some true)))))))))
def ADV:=gZ [.v (.st 1),.v (.st 1)] CK B5 ["41bWHEEvqmXh17ZiNL8tOwGzwZs9M3klfPNrLC8EPEQ2NsEGLrX1tw6iwP1erPj7dayTXDSJLyrq4oHE","RtLdGgrZBL61dEj1YCPFz2HDfCwsMi1YNYJD4jiU"] [Xg] (Aq xF)
def AGm(a c:AN):AA Bool:=br (a.Id != c.Id) (some false) (br (a.AY != c.AY) (some false) (br (a.Bi != c.Bi) (some false) (br (a.BA != c.BA) (some false) (br (a.Co != c.Co) (some false) (br (a.Since != c.Since) (some false) (br (a.Az != c.Az) (some false) (br (a.State != c.State) (some false) (br (a.Cq != c.Cq) (some false) (br (a.DH != c.DH) (some false) (some true))))))))))
def APL:=gZ [.v (.st 2),.v (.st 2)] CK B5 ["3uRDqQytnlQBwcRsfKTlTbLyv2iwhVSqb3yvuaYgz6TYHGKsvTrxY7gkpgGyih34XyTzBgjOV2QTdbpC","PNz4nPwgyXcmNNMccXLCqEzNwkFcEqGBitWeqmbyoX31JxIGPNMg0"] [] (Aq AGm)
def xG(_:PUnit):AA Bool:=some true
def xH(c g:List AN)(e:Int->AA Bool)(a:Int):AA Bool:=br (decide (a<c.length)) (bd (at? c a) fun h=>bd (at? g a) fun j=>bd (AGm h j) fun q=>br (!q) (some false) (e (w64 (a+1)))) (jn xG ())
def AGn(a c:List AN):AA Bool:=br ((↑a.length:Int) != c.length) (some false) (A3 (xH a c) big 0)
def APM:=gZ [.v (.l (.st 2)),.v (.l (.st 2))] CK B5 ["ACf1rGn797V102ihnUZNlkD8UmnSir2muMUYCgL2gqHokfSmiqVmrt0prNQZc"] [APL] (Aq AGn)
def AGX(a c:BE):AA Bool:=br (a.Total != c.Total) (some false) (br (a.Db != c.Db) (some false) (br (a.Ee != c.Ee) (some false) (br (a.FY != c.FY) (some false) (br (a.Fx != c.Fx) (some false) (some true)))))
def AO3:=gZ [.v (.st 3),.v (.st 3)] CK B5 ["1fBaQrZP0aFLcWHoDbDDPfRJJFmuXuQMcU6yB9omWCKAy9BcG7WgGsYPiMlg9mM5Ul5"] [] (Aq AGX)
def AGY(a c:Af):AA Bool:=br (a.Level != c.Level) (some false) (br (a.Az != c.Az) (some false) (br (a.Id != c.Id) (some false) (br (a.BA != c.BA) (some false) (some true))))
def AO4:=gZ r8 CK B5 ["g23XqgAaIwycxpjqqarsgwFxJAJlkPjRvI9wUzRyEYHl9SHp5XxLih"] [] (Aq AGY)
def wF(_:PUnit):AA Bool:=some true
def wG(c g:List Af)(e:Int->AA Bool)(a:Int):AA Bool:=br (decide (a<c.length)) (bd (at? c a) fun h=>bd (at? g a) fun j=>bd (AGY h j) fun q=>br (!q) (some false) (e (w64 (a+1)))) (jn wF ())
def AGZ(a c:List Af):AA Bool:=br ((↑a.length:Int) != c.length) (some false) (A3 (wG a c) big 0)
def AO5:=gZ AEU CK B5 ["1VqPRMO9crr9BPIi3j2rbjtv3RKl103yG8EtZ8XQ8CgDLT4p9qQGl00ZgrCVnS"] [AO4] (Aq AGZ)
def AGa(a c:BH):AA Bool:=br (a.At != c.At) (some false) (br (a.Id != c.Id) (some false) (some true))
def AO6:=gZ AET CK B5 ["aymCwRVTSa1NhN9PKezaUjhX63g7nj"] [] (Aq AGa)
def wH(_:PUnit):AA Bool:=some true
def wJ(c g:List BH)(e:Int->AA Bool)(a:Int):AA Bool:=br (decide (a<c.length)) (bd (at? c a) fun h=>bd (at? g a) fun j=>bd (AGa h j) fun q=>br (!q) (some false) (e (w64 (a+1)))) (jn wH ())
def AGb(a c:List BH):AA Bool:=br ((↑a.length:Int) != c.length) (some false) (A3 (wJ a c) big 0)
def AO7:=gZ AEV CK B5 ["6uWowdSiX9vPk06UxOj3hnYmgLFaq5fBUhGw5AdBdHbashL2A4RKySUbkcNtc"] [AO6] (Aq AGb)
def wN(_:PUnit):AA Bool:=some true
def wP(c g:List (List BH))(e:Int->AA Bool)(a:Int):AA Bool:=br (decide (a<c.length)) (bd (at? c a) fun h=>bd (at? g a) fun j=>bd (AGb h j) fun q=>br (!q) (some false) (e (w64 (a+1)))) (jn wN ())
def AGc(a c:List (List BH)):AA Bool:=br ((↑a.length:Int) != c.length) (some false) (A3 (wP a c) big 0)
def AO8:=gZ [.v (.l (.l (.st 5))),.v (.l (.l (.st 5)))] CK B5 ["YZsIbmafksT0buNSVSlXTsXqizEYNOS7sZCYzeDRJqvPcx7h3BYc6tDGNyMF"] [AO7] (Aq AGc)
def AGd(a c:A0):AA Bool:=bd (AGc a.Ao c.Ao) fun e=>br (!e) (some false) (some true)
def AO9:=gZ [.v (.st 6),.v (.st 6)] CK B5 ["MiVS98xXv6zk0yjhwcm"] [AO8] (Aq AGd)
def AGe(a c:Ab):AA Bool:=bd (AGX a.AW c.AW) fun e=>br (!e) (some false) (bd (AGZ a.Row c.Row) fun g=>br (!g) (some false) (bd (AGd a.Bq c.Bq) fun h=>br (!h) (some false) (some true)))
def APA:=gZ [.v (.st 7),.v (.st 7)] CK B5 ["HMiDZwrIg9OM4CwelE2lngVPgTzzNMllSMSXKCeypQ13A8H"] [AO3,AO5,AO9] (Aq AGe)
def wS(_:PUnit):AA Bool:=some true
def bX(c g:List Ab)(e:Int->AA Bool)(a:Int):AA Bool:=br (decide (a<c.length)) (bd (at? c a) fun h=>bd (at? g a) fun j=>bd (AGe h j) fun q=>br (!q) (some false) (e (w64 (a+1)))) (jn wS ())
def AGf(a c:List Ab):AA Bool:=br ((↑a.length:Int) != c.length) (some false) (A3 (bX a c) big 0)
def APB:=gZ [.v (.l (.st 7)),.v (.l (.st 7))] CK B5 ["3ulmXDMJKAa7TBcYEteQNexKFH2crg8IyhEqwlX3lmXGbd9Oml0OPGQhqzPLxG"] [APA] (Aq AGf)
def AGg(a c:AE):AA Bool:=bd (xF a.AQ c.AQ) fun e=>br (!e) (some false) (br (a.Now != c.Now) (some false) (br (a.Az != c.Az) (some false) (bd (AGn a.AG c.AG) fun g=>br (!g) (some false) (bd (AGf a.AH c.AH) fun h=>br (!h) (some false) (bd (Qd a.BF c.BF) fun j=>br (!j) (some false) (bd (Qd a.BC c.BC) fun q=>br (!q) (some false) (some true)))))))
def APC:=gZ [.v (.st 8),.v (.st 8)] CK B5 ["6nqr5ygL7L5rCsx9nFOvSyVUsOh7Ajjd0mOa7voBHJLZoaGSvvyrbWkQsCt268NEVc9Q6Nju26j9rqTK","nOH2RRz4YacPTC9R28e7"] [ADV,APM,APB,Xg] (Aq AGg)
def ll(a c:Bl):AA Bool:=br (a.Data != c.Data) (some false) (br (a.Safe != c.Safe) (some false) (some true))
def APU:=gZ [.v (.st 9),.v (.st 9)] CK B5 ["aymCwRVTSa1NhN9PKezaUjhX63g7nj"] [] (Aq ll)
def AGv(a c:Bk):AA Bool:=bd (ll a.Log c.Log) fun e=>br (!e) (some false) (bd (ll a.EZ c.EZ) fun g=>br (!g) (some false) (bd (ll a.Odd c.Odd) fun h=>br (!h) (some false) (some true)))
def APV:=gZ [.v (.st 10),.v (.st 10)] CK B5 ["6ZYXEWotAGkGTCJYpZuCuPjgTLDkET21pPWRZiRRTJ81aoV"] [APU] (Aq AGv)
def b7(a c:Bp):AA Bool:=br (a.Kind != c.Kind) (some false) (br (a.Id != c.Id) (some false) (br (a.AY != c.AY) (some false) (br (a.Bi != c.Bi) (some false) (br (a.BA != c.BA) (some false) (br (a.Co != c.Co) (some false) (some true))))))
def ADY:=gZ [.v (.st 0),.v (.st 0)] CK B5 ["AFVfIBf5Ty6pkZiWRRWZ7ZmqcP345meQ4D4bnr62U6O8a4PNLdjDppoNOY4dnleLobzBTKRP5Yq6Jr0"] [] (Aq b7)
def xb(_:PUnit):AA Bool:=some true
def xc(c g:List Bp)(e:Int->AA Bool)(a:Int):AA Bool:=br (decide (a<c.length)) (bd (at? c a) fun h=>bd (at? g a) fun j=>bd (b7 h j) fun q=>br (!q) (some false) (e (w64 (a+1)))) (jn xb ())
def xa(a c:List Bp):AA Bool:=br ((↑a.length:Int) != c.length) (some false) (A3 (xc a c) big 0)
def ADZ:=gZ [.v (.l (.st 0)),.v (.l (.st 0))] CK B5 ["qV8jEMBUVB9FOw6x9b2WVN32pOiKcaoEV2eHeu5M9u54Ca8lF1P5sOrUit994"] [ADY] (Aq xa)
def AGw(a c:A7):AA Bool:=bd (AGg a.A2 c.A2) fun e=>br (!e) (some false) (bd (AGv a.Bg c.Bg) fun g=>br (!g) (some false) (br (a.Seq != c.Seq) (some false) (bd (xa a.Laid c.Laid) fun h=>br (!h) (some false) (some true))))
def APW:=gZ [.v (.st 11),.v (.st 11)] CK B5 ["IjSSxHgsOkDC1yLNjyrLlqDfbUaHRmlhL8gbKhfqAgUYQU3ePNhjj8ZQvqfW"] [APC,APV,ADZ] (Aq AGw)
def AGx(a:Aa):AA (List Int):=bd (zN a) fun c=>br (!c) (some []) (gd ([a.Cb,a.Room,a.BA,a.CG,a.B1,a.Rest,a.Ca,a.Cx].length+a.AW.length<=lim) (some ([a.Cb,a.Room,a.BA,a.CG,a.B1,a.Rest,a.Ca,a.Cx]++a.AW)))
def APX:=gZ Oq RW DM ["b6qebfWfDa4oSbcc8jARW9XNJUNNEoPLNVhbKwb8uxGFdLQ34Rpn4UIm6l7HE"] [nO] (Bm AGx)
def xe(a:List Int):AA (List Int):=some a
def cA(h:AE)(g:List Int×Int->AA (List Int))(j:List Int×Int):AA (List Int):=let (a,c):=j;br (decide (c<h.BC.length)) (bd (at? h.BC c) fun e=>gd (e8 a+[w64 (e+1)].length<=lim) (g (a++[w64 (e+1)],w64 (c+1)))) (jn xe a)
def U2(c:AE)(a:List Int):AA (List Int):=gd (a.length+[(↑c.BF.length:Int)].length<=lim) (gd ((a++[(↑c.BF.length:Int)]).length+c.BF.length<=lim) (A3 (cA c) big (a++[(↑c.BF.length:Int)]++c.BF,0)))
def b9(e:AE)(h:List Int×Int->AA (List Int))(j:List Int×Int):AA (List Int):=let (g,a):=j;br (decide (a<e.AH.length)) (bd (at? e.AH a) fun c=>gd (e8 g+[c.AW.Db].length<=lim) (h (g++[c.AW.Db],w64 (a+1)))) (jn (U2 e) g)
def U1(a:AE)(c:List Int):AA (List Int):=A3 (b9 a) big (c,0)
def b8(c:AE)(h:List Int×Int->AA (List Int))(j:List Int×Int):AA (List Int):=let (e,g):=j;br (decide (g<c.AG.length)) (bd (at? c.AG g) fun a=>gd (e8 e+[a.Id,a.AY,w64 (a.Bi+1),a.BA,a.Co,a.Since,a.Az,a.State,a.Cq,a.DH].length<=lim) (h (e++[a.Id,a.AY,w64 (a.Bi+1),a.BA,a.Co,a.Since,a.Az,a.State,a.Cq,a.DH],w64 (g+1)))) (jn (U1 c) e)
def xd(a:AE):AA (List Int):=bd (pe a) fun e=>br (!e) (some []) (bd (AGx a.AQ) fun c=>gd ([(↑(e8 c):Int)].length+e8 c<=lim) (gd (([(↑(e8 c):Int)]++c).length+[a.Now,a.Az,(↑a.AG.length:Int)].length<=lim) (A3 (b8 a) big ([(↑(e8 c):Int)]++c++[a.Now,a.Az,(↑a.AG.length:Int)],0))))
def ADa:=gZ Py RW DM ["1Si0tkZ4iOXdV9uw4KoJjzGgrdiMiMzMi4Vbt0ST95AqobvSkc888WwKecqa5AiJUxeRmU5hhPEKAneL","M87B8EfB8C2fm9lczSyckNXmuiwL5sFPHF2Yi29sDOR709E51jO1JRTTg3v5DhFHxugU8dvH50LpdlFC","iLExFKm1s3YpC95ITprn0GcLwLyGEVN3Mngum2uv7mxV7HyES0xqM8ugbJyPYec6QG8shl1PwH2vvj1x","BnxuD0mmaK6aLGMWjUh5uyWcpMbsi8FQyAMi8D0ld7FLmBOCN2eOYutP6UI8M3wDR73"] [iC,APX] (Bm xd)
def xg(e:Int×List UInt8):AA (List UInt8):=let (a,c):=e;gd (c.length+[toB a].length<=lim) (some (c++[toB a]))
def xh(e:Int×List UInt8->AA (List UInt8))(g:Int×List UInt8):AA (List UInt8):=let (a,c):=g;br (decide (a>127)) (gd (c.length+[toB (w64 (Int.tmod a 128+128))].length<=lim) (e (w64 (Int.tdiv a 128),c++[toB (w64 (Int.tmod a 128+128))]))) (jn xg (a,c))
def cB(a:Int):AA (List UInt8):=bd (EE a 0 2147483647) fun c=>br (!c) (some []) (A3 xh big (a,[]))
def ADb:=gZ N1 (.ret [(.l .u)]) DM ["Ef11fNJ1GMssDTcKDsRxgoLvmAcpVw5DGis66RM6ekow36x5whIXc1xtAiVAth4o4vpWoWIeIQMTfEh3","36JPt87"] [G3] (Bm cB)
def xi(a:List UInt8):AA (List UInt8):=some a
def cC(e:List Int)(h:List UInt8×Int->AA (List UInt8))(q:List UInt8×Int):AA (List UInt8):=let (a,c):=q;br (decide (c<e.length)) (bd (at? e c) fun j=>bd (cB j) fun g=>gd (e8 a+e8 g<=lim) (h (a++g,w64 (c+1)))) (jn xi a)
def Y4(a:List Int):AA (List UInt8):=A3 (cC a) big ([],0)
def ADc:=gZ iN N2 DM ["4LJQczpwtPUunQ6T9N6si5sOcLWG10EZX64x43FOeKmOwU9bVQXPHtNheWqSXbH"] [ADb] (Bm Y4)
def cD(a:Int×Int->AA Int)(c e:Int):AA Int:=a (e,w64 (c+1))
def xk(a:Int×Int->AA Int)(c e:Int):AA Int:=a (e,w64 (c+1))
def cF(g:Int×Int->AA Int)(h:Int)(e:Int×Int->AA Int)(j:Int×Int):AA Int:=let (a,c):=j;br (decide (c<8)) (br (Int.tmod a 2==1) (jn (cD e c) (Zu (w64 (Int.tdiv a 2)) 3988292384)) (jn (cD e c) (w64 (Int.tdiv a 2)))) (jn (xk g h) a)
def xl(a:Int):AA Int:=some (Zu a 4294967295)
def cE(c:List UInt8)(g:Int×Int->AA Int)(j:Int×Int):AA Int:=let (e,a):=j;br (decide (a<c.length)) (bd (at? c a) fun h=>A3 (cF g a) big (Zu e (w64 (↑(UInt8.toNat h):Int)),0)) (jn xl e)
def xj(a:List UInt8):AA Int:=A3 (cE a) big (4294967295,0)
def ADd:=gZ [.v (.l .u)] Cv DM ["4bMnsjSRvuAZURoizvfMPCN8ER2K4iTVrc1wBEr15HFTjlNdzor1BQQRSqqSrv8qhBduXy2Jdcoi4Spa","UrH9lVb0Udoum7lR9kv78TN88xzevcoNUhKM4EPK2M0NT"] [] (Bm xj)
def xm(a:Int):AA (List UInt8):=some ([toB (Dy a 24),toB (Dy a 16),toB (Dy a 8),toB a])
def ADe:=gZ N1 N2 DM ["1bc2TH9ctXZtxAw9Tolc1EKiIieTOqaokVRfath4WB"] [] (Bm xm)
def cG(h:AE)(c:Int)(j:Bool):AA (List UInt8):=br j (some []) (bd (xd h) fun e=>gd ([c].length+e8 e<=lim) (bd (Y4 ([c]++e)) fun a=>bd (xj a) fun q=>bd (xm q) fun g=>gd (e8 g+e8 a<=OE) (some (g++a))))
def ln(a:AE)(c:Int):AA (List UInt8):=bd (pe a) fun e=>br (!e) (jn (cG a c) true) (bd (EE c 0 1000000) fun g=>jn (cG a c) (!g))
def rJ:=gZ FM N2 B5 ["9PsCt6ZvVm3Ew2UyISWQxfmjC4cudrll49ie1uECKKFmp1D6gusRVQrfQ8M9a"] [iC,G3,ADa,ADc,ADd,ADe] (Aq ln) [.ML 21 (.tmp 20)]
end Lv
