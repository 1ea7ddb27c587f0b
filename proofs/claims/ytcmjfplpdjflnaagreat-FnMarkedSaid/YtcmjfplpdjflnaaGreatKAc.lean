/- Functions of the program as typed texts and as plain functions. -/
import Derived.Test.YtcmjfplpdjflnaaGreatTCc
open List renaming take->an,length->g0,drop->n4,set->o4
noncomputable section
set_option linter.unusedVariables false
set_option linter.unusedSimpArgs false
set_option linter.unusedSectionVars false
set_option maxRecDepth 100000
namespace Lv
open Go (IntKind BinOp UnOp)
open Y (YF qn qf qt qr q1 qd qm qa qo ql qL qb qi qx qp qq qc qz qe qk qK qB qw qu qj Kp wn wf wt w1 sw sq sr wm wM wo wO wl wL wk wK wz wZ wx wX wb wB wi wI wr wR wq wQ we wE wc wY wj wh cv ca cx cn ce bl)
def bw(a:Bool):AA Bool:=some a
def Eb(a c e:Int):AA Bool:=br (decide (a>=c)) (jn bw (decide (a<=e))) (jn bw false)
def Hz:=gZ AQ1 DM Ua ["CeDfhVKmBqH42Xbc5OQBkjTkY"] [] (GL Eb)
def V7(a:Bool):AA Bool:=some a
def AGr(a:Ab)(_:PUnit):AA Bool:=bd (Eb a.B3 1 8) fun e=>br e (bd (Eb a.Rest 0 8) fun g=>br g (bd (Eb a.Cb 1 4) fun h=>br h (bd (Eb a.C5 1 3) fun c=>jn V7 c) (jn V7 false)) (jn V7 false)) (jn V7 false)
def sZ(a:Ab)(e:Int->AA Bool)(c:Int):AA Bool:=br (decide (c<a.AY.length)) (bd (at? a.AY c) fun g=>bd (Eb g 1 60) fun h=>br (!h) (some false) (e (w64 (c+1)))) (jn (AGr a) ())
def Qj(a:Ab)(c:Bool):AA Bool:=br c (some false) (BB (sZ a) big 0)
def sY(a:Ab):AA Bool:=bd (Eb (↑a.AY.length:Int) 1 4) fun j=>br (!j) (jn (Qj a) true) (bd (Eb a.CX 1 5) fun c=>br (!c) (jn (Qj a) true) (bd (Eb a.Room 1 10) fun e=>br (!e) (jn (Qj a) true) (bd (Eb a.BC 1 6) fun g=>br (!g) (jn (Qj a) true) (bd (Eb a.CQ 1 12) fun h=>jn (Qj a) (!h)))))
def kC:=gZ ai DM DD ["4eqJCqc32xNYuA0PdehkxExQmAzwg5Qrs34nW8DEAyv1cygHnTnAf0rYg4Fb9glxNK1AakdzEKdGCNpS","1L1sOPosL8UUjc0vQoQn8kcsuLmXphUqJ6KYgBQ6dbCxtCjIJTqZrciwrNC5a96whmlaZ98Y4Uq4teUw","pIdHamRTjBPemgaJgK"] [Hz] (Bd sY)
def Tm(a:Bool):AA Bool:=some a
def Qk(c:Ab)(a:AQ)(e:Int)(g:Bool):AA Bool:=br g (some false) (br (a.State==1) (bd (Eb a.Ci 0 (w64 (e+c.Rest))) fun h=>br h (jn Tm true) (br (a.State==2) (bd (Eb a.Ci 1 (w64 (e+c.B3))) fun j=>jn Tm j) (jn Tm false))) (br (a.State==2) (bd (Eb a.Ci 1 (w64 (e+c.B3))) fun q=>jn Tm q) (jn Tm false)))
def OW(c:Ab)(a:AQ)(e:Int)(q:Bool):AA Bool:=br q (some false) (bd (Eb a.BC 1 c.BC) fun y=>br (!y) (jn (Qk c a e) true) (bd (Eb a.Cs 0 (w64 (c.CX-1))) fun B=>br (!B) (jn (Qk c a e) true) (bd (Eb a.Since 0 e) fun g=>br (!g) (jn (Qk c a e) true) (bd (Eb a.Av 1 1000000) fun h=>br (!h) (jn (Qk c a e) true) (bd (Eb a.C0 0 (w64 (c.Cb-1))) fun j=>jn (Qk c a e) (!j))))))
def ADj(c:Ab)(a:AQ)(e:Int):AA Bool:=bd (sY c) fun y=>br (!y) (jn (OW c a e) true) (bd (Eb e 0 1000000) fun g=>br (!g) (jn (OW c a e) true) (bd (Eb a.Id 1 999) fun h=>br (!h) (jn (OW c a e) true) (bd (Eb a.Aa 0 (w64 ((↑c.AY.length:Int)-1))) fun j=>br (!j) (jn (OW c a e) true) (bd (Eb a.Bl (-1) (w64 ((↑c.AY.length:Int)-1))) fun q=>br (!q) (jn (OW c a e) true) (jn (OW c a e) (a.Bl==a.Aa))))))
def ABq:=gZ aj DM Ua ["J50wXQJnrJBzWeczmOsAckaXNWr8Sysf0wmcnEXxVNCNtJT6VIAcEMFm0NAbHaCZBypyovbGfc7UKKzx","CqejQYzehnLmx1InCuLZv5EmYIuoL39HPEA8QF60P4mNscr9YI5UnAon46NqtsgrnavlR8E7fmiTH1fJ","m1BCDSC6tXU1lq0TP5Fc0o2vhbSDLTHU7UbXC035d9XADFphGYTplo20sblxcSdytri89oA9pKJWBLfG","qO9ARmXZ8Idl0IPpjDW6hERaC27qSLIOK9KLeUfNfM9FCF"] [kC,Hz] (GL ADj)
def OX(a:Int->AA Bool)(c:Int)(e:Bool):AA Bool:=br e (some false) (a (w64 (c+1)))
def AG3(a:Int->AA Bool)(c:Int)(_:PUnit):AA Bool:=a (w64 (c+1))
def sb(q:AE)(j:Int->AA Bool)(h:Int)(c:AQ)(g:Int->AA Bool)(a:Int):AA Bool:=br (decide (a<h)) (bd (at? q.AG a) fun e=>br (e.Av==c.Av) (jn (OX g a) true) (br (decide (e.Av<c.Av)) (br (decide (e.Since>c.Since)) (jn (OX g a) true) (br (decide (e.Av>c.Av)) (jn (OX g a) (decide (e.Since<c.Since))) (jn (OX g a) false))) (br (decide (e.Av>c.Av)) (jn (OX g a) (decide (e.Since<c.Since))) (jn (OX g a) false)))) (jn (AG3 j h) ())
def Tp(c:AE)(a:Int->AA Bool)(e:Int)(h:AQ)(g:Bool):AA Bool:=br g (some false) (BB (sb c a e h) big 0)
def AG4(_:PUnit):AA Bool:=some true
def sa(a:AE)(g:Int->AA Bool)(c:Int):AA Bool:=br (decide (c<a.AG.length)) (bd (at? a.AG c) fun e=>bd (ADj a.AS e a.Now) fun j=>br (!j) (jn (Tp a g c e) true) (br (decide (e.Av>=a.Av)) (jn (Tp a g c e) true) (br (decide (c>0)) (bd (at? a.AG (w64 (c-1))) fun h=>jn (Tp a g c e) (decide (h.Id>=e.Id))) (jn (Tp a g c e) false)))) (jn AG4 ())
def AUe(a:AE):AA Bool:=BB (sa a) big 0
def AWH:=gZ XP DM DD ["2Pj71xdGJZP7uw236FijG63zoWz8Ie0v7psirK0CEszWguSjAQlmgZCa9OZoHxhk8iJru7RMrZyywUZr","gDdYGSTVQckuEMDjOagjpXxaPyIyqUhPYqfs07MVCSdzeO6BWDmwvI3UYEcbz0T9Wa7vFPJg9ns38KWd","zmiZTnxs8jefkytqj28QnE6DId9d4gfziWxeE9fLnbdQ6rRllVPQG4WANJ1aUiglSmMVoL6LbTeBqRTG","OBgzSQ5Z6GvrZD5lqrjUZJlDf5pqoAq3yU"] [ABq] (Bd AUe)
def AHG(_:PUnit):AA Bool:=some false
def AHH(c:List Int)(g:Int)(e:Int->AA Bool)(a:Int):AA Bool:=br (decide (a<c.length)) (bd (at? c a) fun h=>br (h==g) (some true) (e (w64 (a+1)))) (jn AHG ())
def AKB(a:List Int)(c:Int):AA Bool:=BB (AHH a c) big 0
def AIx:=gZ qC DM Cv ["72jZfXLigrpwlkVBXQG1xFqR7svBtva62r58L5nzzLiT"] [] (BF AKB)
def se(a:Int->AA Bool)(c:Int)(e:Bool):AA Bool:=br e (some false) (a (w64 (c+1)))
def AHV(a:AE)(_:PUnit):AA Bool:=some ((↑a.A4.length:Int)==a.AS.C5)
def si(a:AE)(h:Int->AA Bool)(c:Int):AA Bool:=br (decide (c<a.A4.length)) (bd (at? a.A4 c) fun e=>bd (Eb e (-1) (w64 ((↑a.AI.length:Int)-1))) fun g=>br (!g) (some false) (h (w64 (c+1)))) (jn (AHV a) ())
def bz(a:AE)(_:PUnit):AA Bool:=BB (si a) big 0
def sg(c:AE)(e:Int->AA Bool)(a:Int):AA Bool:=br (decide (a<c.BA.length)) (bd (at? c.BA a) fun g=>bd (Eb g 0 (w64 ((↑c.AI.length:Int)-1))) fun h=>br (!h) (jn (se e a) true) (gd (0<=a/\a<=c.BA.length) (bd (at? c.BA a) fun j=>bd (AKB (an a.toNat c.BA) j) fun q=>jn (se e a) q))) (jn (bz c) ())
def AUf(a:AE):AA Bool:=BB (sg a) big 0
def AWI:=gZ XP DM DD ["pJtphyIsqr1BqnA2ybgOfZw79Pgcs0Zv2TVgw2tEmzLkLYIrc4ieHxkehIsfy14KDFB4JE2mIriyGD51","YFK7sGd80TGU6YHIwqLB2eDyIS4cntaHHL9bjfkbhduwCF9renYXZ4QegDmI5XRFcDrAjrCRperxJQuo","m"] [Hz,AIx] (Bd AUf)
def Ql(a:Bool):AA Bool:=some a
def ADk(a:BE):AA Bool:=bd (Eb a.Total 1 60) fun c=>br c (bd (Eb a.Dh 0 a.Total) fun e=>br e (bd (Eb a.Eg 0 a.Total) fun g=>br g (bd (Eb a.Ff 0 a.Total) fun h=>br h (br (w64 (w64 (a.Dh+a.Eg)+a.Ff)==a.Total) (bd (Eb a.Fw 0 a.Ff) fun j=>jn Ql j) (jn Ql false)) (jn Ql false)) (jn Ql false)) (jn Ql false)) (jn Ql false)
def AIy:=gZ [.v (.st 3)] DM DD ["v74swF615ahgDEZe5lbjuJWRlXmXP1JpeZaUQPMLviBEn71KlPcD1iR3PgwP73EbW24GnYs4FnLc6Jtb","u10L24qdWpKjlntGXo1oxUXGh0Oy5o4zoU"] [Hz] (Bd ADk)
def cA(a:Bool):AA Bool:=some a
def ANX(a c:Ai):AA Bool:=br (decide (a.Level<c.Level)) (jn cA true) (br (a.Level==c.Level) (jn cA (decide (a.Av<c.Av))) (jn cA false))
def APu:=gZ AQ9 DM Cv ["29cD4iJE9SzOt43Wauoyjr3P7gBpCuIV4F0dw1fmgo6rPO96BpO"] [] (BF ANX)
def AH8(_:PUnit):AA Int:=some (-1)
def AH9(c:List Ai)(g:Int)(e:Int->AA Int)(a:Int):AA Int:=br (decide (a<c.length)) (bd (at? c a) fun h=>br (h.Id==g) (some a) (e (w64 (a+1)))) (jn AH8 ())
def AKC(a:List Ai)(c:Int):AA Int:=BB (AH9 a c) big 0
def AP8:=gZ AEy DC Cv ["GkSYNlUHrzYeseHJTh6EvF4KaNOq29V5Y8RDMqMYKUmjc4pVJ"] [] (BF AKC)
def XB(a:Int->AA Bool)(c:Int)(e:Bool):AA Bool:=br e (some false) (a (w64 (c+1)))
def Tr(e:List Ai)(c:Int->AA Bool)(a:Int)(h:Ai)(j:Bool):AA Bool:=br j (some false) (br (decide (a>0)) (bd (at? e (w64 (a-1))) fun q=>bd (ANX q h) fun y=>br (!y) (jn (XB c a) true) (bd (AKC e h.Id) fun B=>jn (XB c a) (B != a))) (bd (AKC e h.Id) fun g=>jn (XB c a) (g != a)))
def AIT(_:PUnit):AA Bool:=some true
def sj(c:List Ai)(g:Int->AA Bool)(e:Int):AA Bool:=br (decide (e<c.length)) (bd (at? c e) fun a=>bd (Eb a.Level 0 4) fun y=>br (!y) (jn (Tr c g e a) true) (bd (Eb a.Av 1 1000000) fun h=>br (!h) (jn (Tr c g e a) true) (bd (Eb a.Id 1 999) fun j=>br (!j) (jn (Tr c g e a) true) (bd (Eb a.BC 1 6) fun q=>jn (Tr c g e a) (!q))))) (jn AIT ())
def AKD(a:List Ai):AA Bool:=br (decide ((↑a.length:Int)>10)) (some false) (BB (sj a) big 0)
def AQd:=gZ ud DM DD ["5Hgp45yxRfFx7uYFbX8XR22zb6IWn0eFcnOqkA561GGrKjGqLuS7Wph7gqhiIqONozIR1eDyvTQtQjCy","p7mBN3G5OvxSDPGSvuhrxmLJWYitDM1KBpmDEeI0Kaa3Tu5sEHpRoMkHUyLbdov2koCuklbiFUYvlqV6","dHt38wAdtv3mfuiUySuwM5cwtFXNO9I3"] [Hz,APu,AP8] (Bd AKD)
def AIa(a:List BO):AA (List BO):=some a
def AIb(e:Aq)(h:List BO×Int->AA (List BO))(j:List BO×Int):AA (List BO):=let (a,c):=j;br (decide (c<e.Am.length)) (bd (at? e.Am c) fun g=>gd (g0 a+g0 g<=lim) (h (a++g,w64 (c+1)))) (jn AIa a)
def ANq(a:Aq):AA (List BO):=BB (AIb a) big ([],0)
def AQu:=gZ ZB VJ DD ["7jJS6dSTNfEvMjgZmKNhYpmuPex73CFT6JOtNMQma085QWdHOvkBTSwzRoBLs"] [] (Bd ANq)
def cB(a:Bool):AA Bool:=some a
def ANr(a c:BO):AA Bool:=br (decide (a.At<c.At)) (jn cB true) (br (a.At==c.At) (jn cB (decide (a.Id<c.Id))) (jn cB false))
def AQv:=gZ [.v (.st 5),.v (.st 5)] DM Cv ["29cD4iJE9SzOt43Wauoyjr3P7gBpCuIV4F0dw1fmgo6rPO96BpO"] [] (BF ANr)
def AIc(a:Int->AA Bool)(c:Int)(_:PUnit):AA Bool:=a (w64 (c+1))
def sv(e:List BO)(j:Int->AA Bool)(c:Int)(q:Int->AA Bool)(a:Int):AA Bool:=br (decide (a<c)) (bd (at? e a) fun y=>bd (at? e a) fun g=>bd (at? e c) fun B=>bd (at? e c) fun h=>br (g.Id==h.Id) (some false) (q (w64 (a+1)))) (jn (AIc j c) ())
def cD(g:List BO)(a:Int->AA Bool)(c:Int)(e:Bool):AA Bool:=br e (some false) (BB (sv g a c) big 0)
def cF(a:Int->AA Bool)(c:Int)(e:Bool):AA Bool:=br e (some false) (a (w64 (c+1)))
def ABX(a:Int->AA Bool)(c:Int)(_:PUnit):AA Bool:=a (w64 (c+1))
def sy(g:Aq)(h:Int->AA Bool)(c:Int)(e:Int->AA Bool)(a:Int):AA Bool:=bd (at? g.Am c) fun j=>br (decide (a<(g0 j))) (bd (at? g.Am c) fun q=>bd (at? q a) fun y=>br (y.At.tmod 9 != c) (jn (cF e a) true) (br (decide (a>0)) (bd (at? g.Am c) fun B=>bd (at? B (w64 (a-1))) fun E=>bd (at? g.Am c) fun G=>bd (at? G a) fun H=>bd (ANr E H) fun I=>jn (cF e a) (!I)) (jn (cF e a) false))) (jn (ABX h c) ())
def ABY(_:PUnit):AA Bool:=some true
def sx(e:Aq)(c:Int->AA Bool)(a:Int):AA Bool:=br (decide (a<e.Am.length)) (BB (sy e c a) big 0) (jn ABY ())
def cE(a:Aq)(_:PUnit):AA Bool:=BB (sx a) big 0
def su(j:Aq)(c:List BO)(h:Int->AA Bool)(a:Int):AA Bool:=br (decide (a<(g0 c))) (bd (at? c a) fun E=>bd (at? c a) fun y=>bd (Eb y.At 1 1000008) fun B=>br (!B) (jn (cD c h a) true) (bd (at? c a) fun q=>bd (at? c a) fun e=>bd (Eb e.Id 1 999) fun g=>jn (cD c h a) (!g))) (jn (cE j) ())
def cC(a:Aq)(e:List BO)(c:Bool):AA Bool:=br c (some false) (BB (su a e) big 0)
def nB(a:Aq):AA Bool:=bd (ANq a) fun c=>br ((↑a.Am.length:Int) != 9) (jn (cC a c) true) (jn (cC a c) (decide ((↑(g0 c):Int)>10)))
def pz:=gZ ZB DM DD ["EQnGrI5OxMIOXO1bSmNYlAjWJgCkBJxioNGwPscSD6Kkyn7grXtgKFwmUCtVVg2bYEx7kO9Lz5pjl7eX","bo42I6XlgoPGugoUvXelOs2fV5Mbpe5spjTlr0m5cGy49uvMQAx7p9zBDmHHUq23vFMhv2M93v0uTzK0","wPHDbOkAEepbmZfjjlqJNhNyjNopYElIzQHiJRyLvbQWbrCkHtw4c6iMpoRYMyO6tAqgVcvAGrsQZsQG","t2l48NkJG66WLEEMbVUnxEq1V255bnMSXPpFtTPObpgRWCaf6Vt36myeS5Q1xiqSth8EuoxoI8AGe9Av","2VRzKqNDDcKHHYRDjVCKN3o3oSasJDHYC3Nms"] [AQu,Hz,AQv] (Bd nB)
def cG(a:Bool):AA Bool:=some a
def AKE(a:Ae):AA Bool:=bd (ADk a.AY) fun c=>br c (bd (AKD a.Row) fun e=>br e (bd (nB a.By) fun g=>jn cG g) (jn cG false)) (jn cG false)
def AQw:=gZ ue DM DD ["Tzt6Df6dyNqrgoNUPIn4WT3l2uqBpjzzD5"] [AIy,AQd,pz] (Bd AKE)
def Nw(a c:Int):AA Int:=br (decide (a>c)) (some a) (some c)
def ah:=gZ uf DC Cv ["OTHwKHgzHoJ8IWWcAdoHnX"] [] (BF Nw)
def AUg(a:Ab)(c e:Int):AA Int:=gd (a.CQ≠0) (bd (Nw 0 (w64 (c-w64 (e.tdiv a.CQ)))) fun g=>some g)
def AWJ:=gZ [.v (.st 1),.v .i,.v .i] DC Ua ["1BbR8RAvpCTsaumyirzp7ap"] [ah] (GL AUg)
def AUh(c:Ab)(a:AQ)(e:Int):AA Int:=bd (ADj c a e) fun g=>br (!g) (some (-1)) (bd (AUg c a.Cs (w64 (e-a.Since))) fun h=>some h)
def AWK:=gZ aj DC Ua ["20KbzZQopahF5XX6P8SjYLh58hjTemePrw59JtOjrfWu"] [ABq,AWJ] (GL AUh)
def s4(a:AQ)(e:Int)(c:Bool):AA (Ai×Bool):=br c (some (Ai.mk 0 0 0 0,false)) (some (Ai.mk e a.Av a.Id a.BC,true))
def AKF(e:Ab)(a:AQ)(g:Int):AA (Ai×Bool):=bd (AUh e a g) fun c=>br (decide (c<0)) (jn (s4 a c) true) (jn (s4 a c) (a.State != 1))
def AQx:=gZ aj (.ret [(.st 4),.b]) [.cell 6 (some 4),.tmp 7] ["1gYos8oEnqK19TOKprLLSjazJFoNEefp5Agm6MTdGrvLIjkFG5CuYcYtNlPx6qCHFaeuTXb9BSZRC"] [AWK] (GL AKF)
def nC(a:List Ai):AA (List Ai):=gd (0+a.length<=lim) (some ([]++a))
def ABr:=gZ ud ZI DD ["TaigWHNuPDnFKXwr"] [] (Bd nC)
def s5(c:List Ai)(e:Ai)(a:Int):AA (List Ai):=gd (0<=a/\a<=c.length) (bd (nC (an a.toNat c)) fun g=>gd (g0 g+[e].length<=lim) (bd (nC (an a.toNat c)) fun h=>gd (g0 h+[e].length<=lim) (eqv (g++[e]) (h++[e]) (gd (0<=a/\a<=c.length) (gd ((g++[e]).length+(n4 a.toNat c).length<=lim) (some (g++[e]++n4 a.toNat c)))))))
def cH(e:List Ai)(g:Ai)(c:Int->AA (List Ai))(a:Int)(h:Bool):AA (List Ai):=br h (c (w64 (a+1))) (jn (s5 e g) a)
def s6(a:List Ai)(e:Ai)(g:Int->AA (List Ai))(c:Int):AA (List Ai):=br (decide (c<a.length)) (bd (at? a c) fun h=>bd (ANX h e) fun j=>jn (cH a e g c) j) (jn (cH a e g c) false)
def ABZ(a:List Ai)(c:Ai):AA (List Ai):=BB (s6 a c) big 0
def AIz:=gZ AEz ZI Cv ["I2dwDWSxmMJYwVXcizYra1szb7UkDhu0l6fIZsiAm6JNHax2Qjl3ZbJdjeIWjfOGU5qVL8EY1iGfBWyd","8BAtMHt4264HbH835hpbmoWVkYnmqAG3Xbnobnr7tzlN"] [APu,ABr] (BF ABZ)
def s8(c:List Ai×Int->AA (List Ai))(e:Int)(a:List Ai):AA (List Ai):=c (a,w64 (e-1))
def s7(a:List Ai×Int->AA (List Ai))(c:List Ai)(e:Int)(h:Ai×Bool)(g:Bool):AA (List Ai):=br g (bd (ABZ c h.fst) fun j=>jn (s8 a e) j) (jn (s8 a e) c)
def AId(a:List Ai):AA (List Ai):=some a
def AIe(h:Ab)(j:List AQ)(E q:Int)(g:List Ai×Int->AA (List Ai))(H:List Ai×Int):AA (List Ai):=let (e,a):=H;br (decide (a>=0)) (bd (at? j a) fun y=>bd (AKF h y q) fun c=>bd (AKF h y q) fun B=>eqv c.snd B.snd (xj c.fst B.fst (br c.snd (bd (at? j a) fun G=>jn (s7 g e a c) (G.Aa==E)) (jn (s7 g e a c) false)))) (jn AId e)
def ADl(c:Ab)(a:List AQ)(e g:Int):AA (List Ai):=BB (AIe c a e g) big ([],w64 ((↑a.length:Int)-1))
def ABs:=gZ [.v (.st 1),.v (.l (.st 2)),.v .i,.v .i] ZI [.tmp 8] ["CWE8vuu4pjQTfNvUy4TvZpwCvTnCZskNntypRCHEwaDRLvRUl1Pt6nOQNRJ6GdPjYnhQHQ8uCxOsZHXH","qsKqXaHHyKeGLMZIHiKcy8imp17z7nNBLGDWgdAK4n0yUGLAhFGa0vKikFUSvF5STIvQtidwcpuQjzNW","pMvEewTok7vcFzxChLLLgzbex"] [AQx,AIz] (Vi ADl)
def AIf(_:PUnit):AA Bool:=some true
def s9(g j:List Ai)(h:Int->AA Bool)(a:Int):AA Bool:=br (decide (a<g.length)) (bd (at? g a) fun c=>bd (at? j a) fun e=>br (!(c.Level==e.Level&&(c.Av==e.Av&&(c.Id==e.Id&&(c.BC==e.BC&&true))))) (some false) (h (w64 (a+1)))) (jn AIf ())
def ANs(a c:List Ai):AA Bool:=br ((↑a.length:Int) != c.length) (some false) (BB (s9 a c) big 0)
def AQy:=gZ AQ2 DM Cv ["q349uyvTi3tbfLZ2A3xh0G7G3aiLC7LKyyWCCZuaIvwFf4yexFFO4tyjn2H4yPZaA"] [] (BF ANs)
def tC(c:List BO)(e:BO)(a:Int):AA (List BO):=gd (0<=a/\a<=c.length) (gd (0+(an a.toNat c).length<=lim) (gd (([]++an a.toNat c).length+[e].length<=lim) (gd (0<=a/\a<=c.length) (gd (([]++an a.toNat c++[e]).length+(n4 a.toNat c).length<=lim) (some ([]++an a.toNat c++[e]++n4 a.toNat c))))))
def cI(e:List BO)(g:BO)(c:Int->AA (List BO))(a:Int)(h:Bool):AA (List BO):=br h (c (w64 (a+1))) (jn (tC e g) a)
def tE(a:List BO)(e:BO)(g:Int->AA (List BO))(c:Int):AA (List BO):=br (decide (c<a.length)) (bd (at? a c) fun h=>bd (ANr h e) fun j=>jn (cI a e g c) j) (jn (cI a e g c) false)
def AKG(a:List BO)(c:BO):AA (List BO):=BB (tE a c) big 0
def AI0:=gZ AQ3 VJ Cv ["1MBYKRwF4iF8YunWEeDDAr76kpJbsqBH1ItKwG6M5CHoWkOdvNiw7yScAuecqWAT13vm1h3pnQjL3l2g","IZYAnalRCJyLMLDL"] [AQv] (BF AKG)
def AIg(a:List BO):AA (List BO):=some a
def tF(c:List BO)(g:List BO×Int->AA (List BO))(q:List BO×Int):AA (List BO):=let (e,a):=q;br (decide (a<(g0 c))) (bd (at? c a) fun y=>bd (at? c a) fun h=>bd (AKG e h) fun j=>g (j,w64 (a+1))) (jn AIg e)
def ADm(a:Aq):AA (List BO):=bd (nB a) fun c=>br (!c) (some []) (bd (ANq a) fun e=>BB (tF e) big ([],0))
def AI1:=gZ ZB VJ DD ["1c6UMbwc2BOgfxIOKxShKtbKwlzcFsb68rfenUP62W6bvZ6zc57Tn1njG3eBG2x5H0gfe8TSD39D0KdR","d"] [pz,AQu,AI0] (Bd ADm)
def tH(c:List BO×Int->AA (List BO))(e:Int)(a:List BO):AA (List BO):=c (a,w64 (e+1))
def tG(e:List AQ)(c:List BO×Int->AA (List BO))(g:List BO)(a:Int)(h:Bool):AA (List BO):=br h (bd (at? e a) fun j=>bd (at? e a) fun q=>bd (AKG g (BO.mk j.Ci q.Id)) fun y=>jn (tH c a) y) (jn (tH c a) g)
def AIh(a:List BO):AA (List BO):=some a
def tI(a:List AQ)(h:Int)(g:List BO×Int->AA (List BO))(y:List BO×Int):AA (List BO):=let (e,c):=y;br (decide (c<a.length)) (bd (at? a c) fun j=>br (j.State==2) (bd (at? a c) fun q=>jn (tG a g e c) (q.Aa==h)) (jn (tG a g e c) false)) (jn AIh e)
def ADn(a:List AQ)(c:Int):AA (List BO):=BB (tI a c) big ([],0)
def AI2:=gZ O6 VJ Cv ["3TfJ2QhLAjXjYHWVWg8GDDmF9bInksCcXHylnAW67DFYkZzSX8KAiW5thtXnC4bjMMJUe27XXTiW81O2","7lGnJHBh4qFa1hqaIom2BJigRsv1dDk9QyOVcbk"] [AI0] (BF ADn)
def AIi(_:PUnit):AA Bool:=some true
def tJ(c j:List BO)(h:Int->AA Bool)(a:Int):AA Bool:=br (decide (a<c.length)) (bd (at? c a) fun e=>bd (at? j a) fun g=>br (!(e.At==g.At&&(e.Id==g.Id&&true))) (some false) (h (w64 (a+1)))) (jn AIi ())
def ANt(a c:List BO):AA Bool:=br ((↑a.length:Int) != c.length) (some false) (BB (tJ a c) big 0)
def AQz:=gZ AQ4 DM Cv ["1OneSk7XFOZXUv44T5MlHBPKfupQaWc88N7xEaIjhju9L8BR1YGe6f3fRiY7zZ03p"] [] (BF ANt)
def sM(c:Int×Int->AA Int)(e a:Int):AA Int:=c (a,w64 (e+1))
def bq(g:List AQ)(c:Int×Int->AA Int)(e a:Int)(h:Bool):AA Int:=br h (bd (at? g a) fun j=>jn (sM c a) (w64 (e+j.BC))) (jn (sM c a) e)
def AGk(a:Int):AA Int:=some a
def sO(a:List AQ)(h:Int)(g:Int×Int->AA Int)(E:Int×Int):AA Int:=let (e,c):=E;br (decide (c<a.length)) (bd (at? a c) fun j=>br (j.State==2) (bd (at? a c) fun q=>br (q.Aa==h) (bd (at? a c) fun y=>bd (Eb y.BC 1 6) fun B=>jn (bq a g e c) B) (jn (bq a g e c) false)) (jn (bq a g e c) false)) (jn AGk e)
def ADh(a:List AQ)(c:Int):AA Int:=BB (sO a c) big (0,0)
def ABm:=gZ O6 DC Cv ["Dwrk62kJCs6KX9mEZd3MQy958tMIco4e57wNeccBLSmnd3tigkLvbdKyIEuhobrgxJ6MpWBJBpWvrjXU","fbuNQ2yoh4OLZvMElg7tCjTTID3YRMZr203RK2vv"] [Hz] (BF ADh)
def sQ(a:Int×Int->AA Int)(c e:Int):AA Int:=a (e,w64 (c+1))
def sP(g:List AQ)(c:Int×Int->AA Int)(e a:Int)(h:Bool):AA Int:=br h (bd (at? g a) fun j=>jn (sQ c a) (w64 (e+j.BC))) (jn (sQ c a) e)
def AGl(a:Int):AA Int:=some a
def sR(a:List AQ)(h:Int)(g:Int×Int->AA Int)(B:Int×Int):AA Int:=let (e,c):=B;br (decide (c<a.length)) (bd (at? a c) fun j=>br (j.Bl==h) (bd (at? a c) fun q=>bd (Eb q.BC 1 6) fun y=>jn (sP a g e c) y) (jn (sP a g e c) false)) (jn AGl e)
def yb(a:List AQ)(c:Int):AA Int:=BB (sR a c) big (0,0)
def ABn:=gZ O6 DC Cv ["JFhVs4VkLM8tSNvQ7Uid9p9FJD88u5IYiG8sDgQIz6dnF3RHO9RItUNZn9Ch8qVbOgPb9O7FOd3HacOh","0MwEh3x8ZYaTLTCAl"] [Hz] (BF yb)
def Ti(a:Bool):AA Bool:=some a
def AUd(g:Ab)(a:Ae)(c:List AQ)(e h:Int):AA Bool:=bd (AKE a) fun j=>br j (bd (ADl g c e h) fun q=>bd (ANs a.Row q) fun y=>br y (bd (ADm a.By) fun B=>bd (ADn c e) fun E=>bd (ANt B E) fun G=>br G (bd (ADh c e) fun H=>br (a.AY.Eg==H) (bd (yb c e) fun I=>jn Ti (a.AY.Fw==I)) (jn Ti false)) (jn Ti false)) (jn Ti false)) (jn Ti false)
def AWF:=gZ AQ5 DM [.tmp 10] ["15J4s0i8LOivsPUAdDSc2IJQ8qFLXZ90TsNKJxv7XL5hBYUbJkoxuXzWnaDAyKUV8CJ1Ds34IzGhQXNr","61Tnfv0eEnrDLTxxZ5Gv9Hpe8GZazHuSC76hZBgGXWdVsTrkTfGZ0YuEGSOf6nnFcxQs9"] [AQw,ABs,AQy,AI1,AI2,AQz,ABm,ABn] (AGE AUd)
def sS(a:Int×Int->AA Int)(c e:Int):AA Int:=a (e,w64 (c+1))
def AGm(a:Int):AA Int:=some a
def sT(g:List AQ)(h:Int)(e:Int×Int->AA Int)(q:Int×Int):AA Int:=let (c,a):=q;br (decide (a<g.length)) (bd (at? g a) fun j=>br (j.Aa==h) (jn (sS e a) (w64 (c+1))) (jn (sS e a) c)) (jn AGm c)
def ADi(a:List AQ)(c:Int):AA Int:=BB (sT a c) big (0,0)
def ABo:=gZ O6 DC Cv ["gDMzRD4EQOCtSse6YGSnP5A4ezrgXMXQB6MyNTtMJQlbANl4tWOGPcUdUo"] [] (BF ADi)
def V4(a:Int->AA Bool)(c:Int)(e:Bool):AA Bool:=br e (some false) (a (w64 (c+1)))
def AGn(_:PUnit):AA Bool:=some true
def sU(a:AE)(e:Int->AA Bool)(c:Int):AA Bool:=br (decide (c<a.AI.length)) (bd (at? a.AI c) fun q=>bd (at? a.AS.AY c) fun y=>br (q.AY.Total != y) (jn (V4 e c) true) (bd (at? a.AI c) fun g=>bd (AUd a.AS g a.AG c a.Now) fun h=>br (!h) (jn (V4 e c) true) (bd (ADi a.AG c) fun j=>jn (V4 e c) (decide (j>a.AS.Room))))) (jn AGn ())
def bt(a:AE)(c:Bool):AA Bool:=br c (some false) (BB (sU a) big 0)
def OV(a:AE)(e:Bool):AA Bool:=br e (some false) (bd (AUe a) fun g=>br (!g) (jn (bt a) true) (bd (AUf a) fun c=>jn (bt a) (!c)))
def dZ(a:AE):AA Bool:=bd (sY a.AS) fun g=>br (!g) (jn (OV a) true) (bd (Eb a.Now 0 1000000) fun c=>br (!c) (jn (OV a) true) (bd (Eb a.Av 1 1000001) fun e=>br (!e) (jn (OV a) true) (br (decide ((↑a.AG.length:Int)>40)) (jn (OV a) true) (jn (OV a) ((↑a.AI.length:Int) != a.AS.AY.length)))))
def ag:=gZ XP DM DD ["rMTyZBKxeMFHa1JSufWQrURPM81SqLa9RAzfaa1Fr3Lpgx6yV63EPguLCbnWzcLGtvNPQRzFdyRMYYcY","QWJ0CzPTX0dJXEfUeZpRFhQ3Ahz0KnwRv1w0yE3CESSST6Y5lE51itD9qZUVvX8Owcxv3tOJfeEHwgRw","yoNWCtk7jFxyjgYN6u6pGAloSkW42RN7wG4P48beXs0vl9P77F2PPReUOd7TyXNhxbti5DBoUu3JPunD","qBhcJObBk8NgvY5QkOKV0fvqpb1lGbsxQ6niIujx"] [kC,Hz,AWH,AWI,AWF,ABo] (Bd dZ)
def sV(a:Bool):AA Bool:=some a
def bW(a:B0):AA Bool:=br (decide ((↑a.Data.length:Int)<=20000)) (bd (Eb a.Safe 0 (↑a.Data.length:Int)) fun c=>jn sV c) (jn sV false)
def j9:=gZ ug DM DD ["2jgPpPztgqjeDZrcNpNDQDcDYe62PTC3eIAP2"] [Hz] (Bd bW)
def bu(a:Bool):AA Bool:=some a
def AJ8(a:Bo):AA Bool:=bd (bW a.Log) fun c=>br c (bd (bW a.FH) fun e=>br e (bd (bW a.Odd) fun g=>jn bu g) (jn bu false)) (jn bu false)
def AIw:=gZ O7 DM DD ["dmkuHFvHSQ4iTTlmuvcTScnjdgnPoN2YL4"] [j9] (Bd AJ8)
def bX(a:Int):AA Bool:=bd (Eb a 0 9999) fun c=>some c
def AWG:=gZ Sv DM DD ["3YjMFPIWbfE0U1"] [Hz] (Bd bX)
def Ig(a:Bool):AA Bool:=some a
def Tj(a:B1)(e:Bool):AA Bool:=br e (bd (bX a.Id) fun g=>br g (jn Ig (a.Kind==a.Kind&&(a.Id==a.Id&&(a.Aa==0&&(a.Bl==0&&(a.BC==0&&(a.Cs==0&&true))))))) (jn Ig false)) (br (a.Kind==3) (bd (bX a.Aa) fun h=>br h (bd (bX a.BC) fun c=>br c (jn Ig (a.Kind==a.Kind&&(a.Id==0&&(a.Aa==a.Aa&&(a.Bl==0&&(a.BC==a.BC&&(a.Cs==0&&true))))))) (jn Ig false)) (jn Ig false)) (br (a.Kind==6) (some (a.Kind==a.Kind&&(a.Id==0&&(a.Aa==0&&(a.Bl==0&&(a.BC==0&&(a.Cs==0&&true))))))) (some false)))
def sW(a:B1):AA Bool:=br (a.Kind==1) (bd (bX a.Id) fun c=>br c (bd (bX a.Aa) fun e=>br e (bd (Eb a.Bl (-1) 9999) fun g=>br g (bd (bX a.BC) fun h=>br h (bd (bX a.Cs) fun j=>jn Ig j) (jn Ig false)) (jn Ig false)) (jn Ig false)) (jn Ig false)) (br (a.Kind==2) (jn (Tj a) (a.Kind==2)) (br (a.Kind==4) (jn (Tj a) (a.Kind==4)) (br (a.Kind==5) (jn (Tj a) (a.Kind==5)) (jn (Tj a) (a.Kind==7)))))
def ABp:=gZ [.v (.st 0)] DM DD ["4NtP8Bo1D02L1dSkComWMB8CEQqFsfuTqUxTgQQKCji0I4ILr4t3tGD9PKmxRcqplvPulnwcDsNCa23d","9nuQ6mBjD7pPAjnVVBMpP0K2GxBvmCWZ6S4ZdUzBbltVehhKZUu1vNIbmn8nPu3hEmrH6XGVBxTRtz8I","A9BQkLT5ujm5nSR5zhWZbcK7G3oa9EkdIkLr2zxrIc3HysjAmBtGqyWhnDHfpyI9d7kfTKG0olnFa1Rn","c5ZvLIkpCPj1qJSf7YByba7gCf"] [AWG,Hz] (Bd sW)
def AGo(_:PUnit):AA Bool:=some true
def sX(c:Af)(e:Int->AA Bool)(a:Int):AA Bool:=br (decide (a<c.Laid.length)) (bd (at? c.Laid a) fun g=>bd (sW g) fun h=>br (!h) (some false) (e (w64 (a+1)))) (jn AGo ())
def Tl(a:Af)(c:Bool):AA Bool:=br c (some false) (BB (sX a) big 0)
def yc(a:Af):AA Bool:=bd (dZ a.Bb) fun c=>br (!c) (jn (Tl a) true) (bd (AJ8 a.A9) fun e=>br (!e) (jn (Tl a) true) (br (decide ((↑a.Laid.length:Int)>8)) (jn (Tl a) true) (bd (Eb a.Seq (↑a.Laid.length:Int) 1000000) fun g=>jn (Tl a) (!g))))
def py:=gZ ZC DM DD ["5DzZ8XZktT34Hpz3IdKMAfqRbIUBXQf7tIhjqb9Ppm5zOg4e75IFIt28v8pO2S5Stfx2oonZ0WCRXbtm","d3kPUAbGeWHYuuoKpW7r5HxLRPl966ziKU"] [ag,AIw,Hz,ABp] (Bd yc)
def V8(a:Bool):AA Bool:=some a
def C4(a c e:Int):AA Bool:=br (decide (a>=c)) (jn V8 (decide (a<=e))) (jn V8 false)
def E6:=gZ AQ1 DM Ua ["CeDfhVKmBqH42Xbc5OQBkjTkY"] [] (GL C4)
def Kj(a:Bool):AA Bool:=some a
def yj(a:Ab)(_:PUnit):AA Bool:=bd (C4 a.CX 1 5) fun j=>br j (bd (C4 a.Room 1 10) fun q=>br q (bd (C4 a.BC 1 6) fun y=>br y (bd (C4 a.CQ 1 12) fun B=>br B (bd (C4 a.B3 1 8) fun c=>br c (bd (C4 a.Cb 1 4) fun e=>br e (bd (C4 a.C5 1 3) fun g=>br g (bd (C4 a.Rest 0 8) fun h=>jn Kj h) (jn Kj false)) (jn Kj false)) (jn Kj false)) (jn Kj false)) (jn Kj false)) (jn Kj false)) (jn Kj false)
def di(a:Ab)(e:Int->AA Bool)(c:Int):AA Bool:=br (decide (c<a.AY.length)) (bd (at? a.AY c) fun g=>bd (C4 g 1 60) fun h=>br (!h) (some false) (e (w64 (c+1)))) (jn (yj a) ())
def aK(a:Ab):AA Bool:=bd (C4 (↑a.AY.length:Int) 1 4) fun c=>br (!c) (some false) (BB (di a) big 0)
def Y6:=gZ ai DM DD ["3ze2MQDNp2bNt0zIiZTSOPkM9fj7M342Z1FK8q7VfYyWwIqh5oMTYvFhTj847Xn5tjEcqe3FARHJHLoI","XWFkjf7rZrwkzYuBNP5pHzYyrPorPasXBxF8lA5s035D9idIQputVnjZEGiUWbUhKzcIuXJ22c477zpQ","XLoTzsEd0EVId1"] [E6] (Bd aK)
def Ms(a c:Int):AA Bool:=bd (C4 a 0 (w64 (c-1))) fun e=>some e
def Qu:=gZ uf DM Cv ["1R2FBCZlt0064EIW"] [E6] (BF Ms)
def Pf(a:Bool):AA Bool:=some a
def Np(c:Ab)(a:AQ)(e:Int)(g:Bool):AA Bool:=br g (some false) (br (a.State==1) (bd (C4 a.Ci 0 (w64 (e+c.Rest))) fun h=>br h (jn Pf true) (br (a.State==2) (bd (C4 a.Ci 1 (w64 (e+c.B3))) fun j=>jn Pf j) (jn Pf false))) (br (a.State==2) (bd (C4 a.Ci 1 (w64 (e+c.B3))) fun q=>jn Pf q) (jn Pf false)))
def L0(c:Ab)(a:AQ)(e:Int)(q:Bool):AA Bool:=br q (some false) (bd (C4 a.BC 1 c.BC) fun y=>br (!y) (jn (Np c a e) true) (bd (Ms a.Cs c.CX) fun B=>br (!B) (jn (Np c a e) true) (bd (C4 a.Since 0 e) fun g=>br (!g) (jn (Np c a e) true) (bd (C4 a.Av 1 1000000) fun h=>br (!h) (jn (Np c a e) true) (bd (Ms a.C0 c.Cb) fun j=>jn (Np c a e) (!j))))))
def dj(c:Ab)(a:AQ)(e:Int):AA Bool:=bd (aK c) fun y=>br (!y) (jn (L0 c a e) true) (bd (C4 e 0 1000000) fun g=>br (!g) (jn (L0 c a e) true) (bd (C4 a.Id 1 999) fun h=>br (!h) (jn (L0 c a e) true) (bd (Ms a.Aa (↑c.AY.length:Int)) fun j=>br (!j) (jn (L0 c a e) true) (bd (C4 a.Bl (-1) (w64 ((↑c.AY.length:Int)-1))) fun q=>br (!q) (jn (L0 c a e) true) (jn (L0 c a e) (a.Bl==a.Aa))))))
def kD:=gZ aj DM Ua ["APb09P5jOs4BgXCu4wxheVLx7koktbhqs0ZovREtlmJJK4Q8KbRBAcRlixgZyz1Tr81NQV0WDJavhRKG","Nh9jgGpW0udeO707gczEHimOb5xp9FHFTwFzN5ZR8udGUghLaeQxBjhUrpdwftiAKg5Yl2UMkxixFTmR","xSeCwnIARpzu5UK25z0UQe542k1ZAZxUJto4dZyFBoahp9wDwerItm232Dd5Ey6getsNsZXLmvRBkglX","97K21caMXDS828ewnam1SvcD1I9Ko37r"] [Y6,E6,Qu] (GL dj)
def dk(a:Int×Int->AA Int)(c e:Int):AA Int:=a (e,w64 (c+1))
def yk(a:Int):AA Int:=some a
def dm(g:List AQ)(h:Int)(e:Int×Int->AA Int)(q:Int×Int):AA Int:=let (c,a):=q;br (decide (a<g.length)) (bd (at? g a) fun j=>br (j.Aa==h) (jn (dk e a) (w64 (c+1))) (jn (dk e a) c)) (jn yk c)
def nz(a:List AQ)(c:Int):AA Int:=BB (dm a c) big (0,0)
def ta:=gZ O6 DC Cv ["kXUPKN0Y5PMrSJe5DR9BSIosIBRiLrZ1VMpckm6auAtE0FYofhWX2TzG9Aihnm1w9fPP"] [] (BF nz)
def Nq(a:Bool):AA Bool:=some a
def Mu(a:BE):AA Bool:=bd (C4 a.Total 1 60) fun c=>br c (bd (C4 a.Dh 0 a.Total) fun e=>br e (bd (C4 a.Eg 0 a.Total) fun g=>br g (bd (C4 a.Ff 0 a.Total) fun h=>br h (br (w64 (w64 (a.Dh+a.Eg)+a.Ff)==a.Total) (bd (C4 a.Fw 0 a.Ff) fun j=>jn Nq j) (jn Nq false)) (jn Nq false)) (jn Nq false)) (jn Nq false)) (jn Nq false)
def Ss:=gZ [.v (.st 3)] DM DD ["v74swF615ahgDEZe5lbjuJWRlXmXP1JpeZaUQPMLviBEn71KlPcD1iR3PgwP73EbW24GnYs4FnLc6Jtb","u10L24qdWpKjlntGXo1oxUXGh0Oy5o4zoU"] [E6] (Bd Mu)
def AGs(a:Int):AA Bool:=some (a != a)
def AOL:=gZ Sv DM DD ["3A9F4f7d9UdW"] [] (Bd AGs)
def dn(a c:Int):AA Int:=bd (AGs a) fun g=>bd (AGs c) fun e=>br g (br e (some 0) (some (-1))) (br e (some 1) (br (decide (a<c)) (some (-1)) (br (decide (a>c)) (some 1) (some 0))))
def ADw:=gZ uf DC Cv ["5Rhr8LSGRyd1bJFZdh1XvESBllJ5mHHK4JF34auW1aFpcbLFVCry1SCfHifxPWl1iJ"] [AOL] (BF dn)
def US(a c:Ai):AA Int:=bd (dn a.Level c.Level) fun e=>br (e != 0) (some e) (bd (dn a.Av c.Av) fun g=>some g)
def Jd:=gZ AQ9 DC Cv ["YUZ7nzQesPqpOkdGhSuRbMbgxvcX6973AZ5XHw"] [ADw] (BF US)
def yl(a c:Ai):AA Bool:=bd (US a c) fun e=>some (decide (e<0))
def ADx:=gZ AQ9 DM Cv ["1I0crUmooVw8VCZX2IWC"] [Jd] (BF yl)
def ANE(a:Ai)(c:Int):AA Bool:=some (a.Id==c)
def te:=gZ [.v (.st 4),.p .i] DM [.tmp 3] ["4GZpdXnXTsqqrlsk"] [] (BF ANE)
def AY2:YF:=⟨[te],[.v (.l (.st 4)),.f te.x [(true,.i)]],[0],.ret [.i],[.tmp 4],dY ["35uwdMICmMyhdoXY7FvYTUySTh5IJqGxJonviAJLR1iF1FxcwUCvCfQrpK3IkXZk5e"] [] [.D5 16 (.tmp 11) [.v,.p] [.tmp 15]]⟩
def ym(_:PUnit):AA Int:=some (-1)
def yn(e:List Ai)(a:Int)(g:Int->AA Int)(c:Int):AA Int:=br (decide (c<e.length)) (bd (at? e c) fun h=>bd (ANE h a) fun j=>br j (some c) (g (w64 (c+1)))) (jn ym ())
def ANF(c:List Ai)(a:Int):AA Int:=BB (yn c a) big 0
def AOM:GF:=AY2.gf rfl rfl (fun a=>ANF a.1 a.2.1.1) (fun a=>by kernel_rfl)
def AY3:YF:=⟨[te],[.v (.l (.st 4)),.v .i],[],.ret [.i],[.tmp 4],dY ["1cdwr9EGK7twrI"] [] [.NG 6 0 [.tmp 3],.call 7 AOM [0] rfl [.tmp 5,.tmp 6]]⟩
def n8(a:List Ai)(c:Int):AA Int:=bd (ANF a c) fun e=>some e
def ADy:GF:=AY3.EY (BF n8)
end Lv
set_option maxRecDepth 100000
namespace Lv
open Go (IntKind BinOp UnOp)
open Y (YF qn qf qt qr q1 qd qm qa qo ql qL qb qi qx qp qq qc qz qe qk qK qB qw qu qj Kp wn wf wt w1 sw sq sr wm wM wo wO wl wL wk wK wz wZ wx wX wb wB wi wI wr wR wq wQ we wE wc wY wj wh cv ca cx cn ce bl)
def Pg(a:Int->AA Bool)(c:Int)(e:Bool):AA Bool:=br e (some false) (a (w64 (c+1)))
def SI(a:Int->AA Bool)(c:Int)(e:Ai)(j:Bool):AA Bool:=br j (some false) (bd (Ms e.Level 5) fun q=>br (!q) (jn (Pg a c) true) (bd (C4 e.Av 1 1000000) fun y=>br (!y) (jn (Pg a c) true) (bd (C4 e.Id 1 999) fun g=>br (!g) (jn (Pg a c) true) (bd (C4 e.BC 1 6) fun h=>jn (Pg a c) (!h)))))
def yo(_:PUnit):AA Bool:=some true
def dp(c:List Ai)(g:Int->AA Bool)(a:Int):AA Bool:=br (decide (a<c.length)) (bd (at? c a) fun e=>br (decide (a>0)) (bd (at? c (w64 (a-1))) fun q=>bd (yl q e) fun y=>br (!y) (jn (SI g a e) true) (gd (0<=a/\a<=c.length) (bd (n8 (an a.toNat c) e.Id) fun h=>jn (SI g a e) (decide (h>=0))))) (gd (0<=a/\a<=c.length) (bd (n8 (an a.toNat c) e.Id) fun j=>jn (SI g a e) (decide (j>=0))))) (jn yo ())
def n9(a:List Ai):AA Bool:=br (decide ((↑a.length:Int)>10)) (some false) (BB (dp a) big 0)
def ADz:=gZ ud DM DD ["8vzpKmNQCIaaDKsraWpVWD2Ypha7fzGw9TYmLsFu9b8VGb6zL8V0T7r4JzKqGJNLiBwnsUAVVpvDJG10","rAC3ib2lVFw4CWc2MXiMEUnQLungHtzaQoM5QmLAJgn5LUwIoZizm1vS1kleW8LnsXighwZEPVsFYH2N","GDxvKAWT4l9o0CcrG1UpQ0p45y9r03KZOK3dA9Lt"] [ADx,ADy,Qu,E6] (Bd n9)
def dq(a:Bool):AA Bool:=some a
def oA(a:BO):AA Bool:=bd (C4 a.At 1 1000008) fun c=>br c (bd (C4 a.Id 1 999) fun e=>jn dq e) (jn dq false)
def tf:=gZ [.v (.st 5)] DM DD ["2WA9CWUK6mXzbZyxnNIo00g6E3QJu8"] [E6] (Bd oA)
def SJ(a c:BO):AA Int:=bd (dn a.At c.At) fun e=>br (e != 0) (some e) (bd (dn a.Id c.Id) fun g=>some g)
def Gv:=gZ [.v (.st 5),.v (.st 5)] DC Cv ["YUZ7nzQesPqpOkdGhSuRbMbgxvcX6973AZ5XHw"] [ADw] (BF SJ)
def SK(g:((List (Int×Int))×Int×Int)->AA Bool)(e:List (Int×Int))(h j:Int)(a:BO)(c:Bool):AA Bool:=br c (some false) (g (Jf e a.Id (w64 (Mh e a.Id+1)),w64 (h+1),w64 (j+1)))
def yp(e:((List (Int×Int))×Int×Int)->AA Bool)(g:Int)(h:((List (Int×Int))×Int)):AA Bool:=let (a,c):=h;e (a,c,w64 (g+1))
def dv(G:((List (Int×Int))×Int×Int)->AA Bool)(E:Int)(B:List BO)(h:((List (Int×Int))×Int×Int)->AA Bool)(H:((List (Int×Int))×Int×Int)):AA Bool:=let (e,g,c):=H;br (decide (c<(g0 B))) (bd (at? B c) fun a=>bd (oA a) fun j=>br (!j) (jn (SK h e g c a) true) (br (a.At.tmod 9 != E) (jn (SK h e g c a) true) (br (decide (c>0)) (bd (at? B (w64 (c-1))) fun q=>bd (SJ q a) fun y=>jn (SK h e g c a) (decide (y>0))) (jn (SK h e g c a) false)))) (jn (yp G E) (e,g))
def dt(a:Bool):AA Bool:=some a
def V9(e:((List (Int×Int))×Int)):AA Bool:=let (c,a):=e;br (decide (a<=10)) (jn dt ((↑(g0 c):Int)==a)) (jn dt false)
def du(c:Aq)(h:((List (Int×Int))×Int×Int)->AA Bool)(q:((List (Int×Int))×Int×Int)):AA Bool:=let (e,g,a):=q;br (decide (a<c.Am.length)) (bd (at? c.Am a) fun j=>BB (dv h a j) big (e,g,0)) (jn V9 (e,g))
def Ri(a:Aq):AA Bool:=br ((↑a.Am.length:Int) != 9) (some false) (BB (du a) big ([],0,0))
def kE:=gZ ZB DM DD ["4UHF4T6bZyQ48b6kgTIcBSl8j21W9VcuqzEajFaH35WLpVnDqLvDvTfysJIsHVipBgI14ONVbz3Ebjbn","rEJ0FNI1IK6QGkIqWIcGXT5kqdHfW1fQVC7Zkyd4CNgnUYU7H5DTpV09WhuIP9x76IgAHccUiOff8paS","AEqrGTI44cQRAjCkWdYepayJfLxCaVGfHP3u0k5AT4kmhzvEbHfpWpt6FIEm1gTagNiDYjhjAobFUI3R","XveJbgTv9BATsxk1rZvboUSnvj8YdH1FLS9"] [tf,Gv] (Bd Ri) [.mmk 13,.UK 56 (.tmp 53) (.tmp 55),.TF (.tmp 53) (.tmp 55) (.tmp 57),.UL 66 (.tmp 65)]
def WA(a:Bool):AA Bool:=some a
def oB(a:Ae):AA Bool:=bd (Mu a.AY) fun c=>br c (bd (n9 a.Row) fun e=>br e (bd (Ri a.By) fun g=>jn WA g) (jn WA false)) (jn WA false)
def AON:=gZ ue DM DD ["Tzt6Df6dyNqrgoNUPIn4WT3l2uqBpjzzD5"] [Ss,ADz,kE] (Bd oB)
def WB(a:Ab)(c e:Int)(g:Bool):AA Int:=br g (some (-1)) (gd (a.CQ≠0) (some (if true=true then if w64 (c-w64 (e.tdiv a.CQ))>0 then w64 (c-w64 (e.tdiv a.CQ)) else 0 else if w64 (c-w64 (e.tdiv a.CQ))<0 then w64 (c-w64 (e.tdiv a.CQ)) else 0)))
def ANG(a:Ab)(c e:Int):AA Int:=bd (aK a) fun g=>br (!g) (jn (WB a c e) true) (bd (Ms c a.CX) fun h=>br (!h) (jn (WB a c e) true) (jn (WB a c e) (decide (e<0))))
def AOO:=gZ [.v (.st 1),.v .i,.v .i] DC Ua ["2VD9k59kCkn0Ut1b8MgS4QhzApr8yRBH7jIRknhsuLaYTrK5jFjuYan3Vke"] [Y6,Qu] (GL ANG) [.mm 27 true (.k (.int .i64 0)) (.tmp 26)]
def AGt(c:Ab)(a:AQ)(e:Int):AA Int:=bd (dj c a e) fun g=>br (!g) (some (-1)) (bd (ANG c a.Cs (w64 (e-a.Since))) fun h=>some h)
def AOP:=gZ aj DC Ua ["20KbzZQopahF5XX6P8SjYLh58hjTemePrw59JtOjrfWu"] [kD,AOO] (GL AGt)
def dw(c:Ab)(a:AQ)(e:Int)(g:Bool):AA (Ai×Bool):=br g (some (Ai.mk 0 0 0 0,false)) (bd (AGt c a e) fun h=>some (Ai.mk h a.Av a.Id a.BC,true))
def oC(c:Ab)(a:AQ)(e:Int):AA (Ai×Bool):=bd (dj c a e) fun g=>br (!g) (jn (dw c a e) true) (jn (dw c a e) (a.State != 1))
def th:=gZ aj (.ret [(.st 4),.b]) [.cell 6 (some 4),.tmp 7] ["VhErccK2YUW3Jkapnx5RLM9yfP0vi60I8HtjnkfYtTY9Ry2ShGbPNXVJl9TwJO5hUi3HDHOA1oRpTy4H","0l2VPMDK6AlJL"] [kD,AOP] (GL oC)
def EG{α:Type}(cmp:α->α->AA Int)(c:((List α)×Int)->AA (List α))(e:Int)(a:List α):AA (List α):=c ((a,w64 (e+1)))
def De{α:Type}(cmp:α->α->AA Int)(j:((List α)×Int)->AA (List α))(y:Int)(q:((List α)×Int)->AA (List α))(c:List α)(a:Int)(g:Bool):AA (List α):=br g (bd (at? c (w64 (a-1))) fun B=>bd (at? c (w64 (a-1))) fun e=>bd (at? c a) fun E=>bd (at? c a) fun h=>bd (at? c a) fun G=>bd (at? c a) fun H=>bd (at? (o4 c a.toNat e) (w64 (a-1))) fun I=>bd (at? (o4 c a.toNat e) (w64 (a-1))) fun J=>q (((o4 c a.toNat e).set (w64 (a-1)).toNat h,w64 (a-1)))) (jn (EG cmp j y) c)
def Dg{α:Type}(cmp:α->α->AA Int)(y:Int)(h:((List α)×Int)->AA (List α))(q:Int)(j:((List α)×Int)->AA (List α))(E:((List α)×Int)):AA (List α):=match E with |(c,a)=>br (decide (a>y)) (bd (at? c a) fun G=>bd (at? c a) fun B=>bd (at? c (w64 (a-1))) fun H=>bd (at? c (w64 (a-1))) fun e=>bd (cmp B e) fun g=>jn (De cmp h q j c a) (decide (g<0))) (jn (De cmp h q j c a) false)
def Df{α:Type}(cmp:α->α->AA Int)(g:Int)(h:Int)(e:((List α)×Int)->AA (List α))(j:((List α)×Int)):AA (List α):=match j with |(c,a)=>br (decide (a<h)) (BB (Dg cmp g e a) big (c,a)) (some c)
def DK{α:Type}(cmp:α->α->AA Int)(c:List α)(a:Int)(e:Int):AA (List α):=BB (Df cmp a e) big ((c,w64 (a+1)))
def Kl{α:Type}(cmp:α->α->AA Int)(e:Int)(g:Int)(q:Int)(j:((List α)×Int)->AA (List α))(G:((List α)×Int)):AA (List α):=match G with |(c,a)=>br (decide (a<q)) (bd (at? c (w64 (g+a))) fun H=>bd (at? c (w64 (g+a))) fun h=>bd (at? c (w64 (e+a))) fun I=>bd (at? c (w64 (e+a))) fun E=>bd (at? c (w64 (e+a))) fun J=>bd (at? c (w64 (e+a))) fun L=>bd (at? (o4 c (w64 (e+a)).toNat h) (w64 (g+a))) fun y=>bd (at? (o4 c (w64 (e+a)).toNat h) (w64 (g+a))) fun B=>j (((o4 c (w64 (e+a)).toNat h).set (w64 (g+a)).toNat E,w64 (a+1)))) (some c)
def EP{α:Type}(cmp:α->α->AA Int)(a:List α)(c:Int)(e:Int)(g:Int):AA (List α):=BB (Kl cmp c e g) big (a,0)
def My{α:Type}(cmp:α->α->AA Int)(a:Int)(h:((List α)×Int)):AA (List α):=match h with |(e,c)=>bd (EP cmp e (w64 (a-c)) a c) fun g=>some g
def Mz{α:Type}(cmp:α->α->AA Int)(e:Int)(h:((List α)×Int×Int)->AA (List α))(y:((List α)×Int×Int)):AA (List α):=match y with |(g,a,c)=>br (a != c) (br (decide (a>c)) (bd (EP cmp g (w64 (e-a)) e c) fun j=>h ((j,w64 (a-c),c))) (bd (EP cmp g (w64 (e-a)) (w64 (w64 (e+c)-a)) a) fun q=>h ((q,a,w64 (c-a))))) (jn (My cmp e) (g,a))
def Hm{α:Type}(cmp:α->α->AA Int)(c:List α)(e:Int)(a:Int)(g:Int):AA (List α):=BB (Mz cmp a) big ((c,w64 (a-e),w64 (g-a)))
def Gl{α:Type}(cmp:α->α->AA Int)(a:List α):AA (List α):=some a
def LD{α:Type}(cmp:α->α->AA Int)(j:Int)(g:((List α)×Int)->AA (List α))(I:((List α)×Int)):AA (List α):=match I with |(c,a)=>br (decide (a<w64 (j-1))) (bd (at? c (w64 (a+1))) fun q=>bd (at? c (w64 (a+1))) fun e=>bd (at? c a) fun y=>bd (at? c a) fun h=>bd (at? c a) fun B=>bd (at? c a) fun E=>bd (at? (o4 c a.toNat e) (w64 (a+1))) fun G=>bd (at? (o4 c a.toNat e) (w64 (a+1))) fun H=>g (((o4 c a.toNat e).set (w64 (a+1)).toNat h,w64 (a+1)))) (jn (Gl cmp) c)
def K8{α:Type}(cmp:α->α->AA Int)(a:List α)(c:Int)(e:Int):AA (List α):=BB (LD cmp e) big (a,c)
def LC{α:Type}(cmp:α->α->AA Int)(e:List α)(g:Int)(h:(Int×Int)->AA (List α))(B:(Int×Int)):AA (List α):=match B with |(a,c)=>br (decide (a<c)) (bd (at? e (w64 (Du (Go.IntKind.u64.wrap (w64 (a+c))) 1))) fun E=>bd (at? e (w64 (Du (Go.IntKind.u64.wrap (w64 (a+c))) 1))) fun j=>bd (at? e g) fun G=>bd (at? e g) fun q=>bd (cmp j q) fun y=>br (decide (y<0)) (h ((w64 (w64 (Du (Go.IntKind.u64.wrap (w64 (a+c))) 1)+1),c))) (h ((a,w64 (Du (Go.IntKind.u64.wrap (w64 (a+c))) 1))))) (jn (K8 cmp e g) a)
def LG{α:Type}(cmp:α->α->AA Int)(h:Int)(g:((List α)×Int)->AA (List α))(I:((List α)×Int)):AA (List α):=match I with |(c,a)=>br (decide (a>h)) (bd (at? c (w64 (a-1))) fun q=>bd (at? c (w64 (a-1))) fun e=>bd (at? c a) fun y=>bd (at? c a) fun j=>bd (at? c a) fun B=>bd (at? c a) fun E=>bd (at? (o4 c a.toNat e) (w64 (a-1))) fun G=>bd (at? (o4 c a.toNat e) (w64 (a-1))) fun H=>g (((o4 c a.toNat e).set (w64 (a-1)).toNat j,w64 (a-1)))) (jn (Gl cmp) c)
def LA{α:Type}(cmp:α->α->AA Int)(c:List α)(e:Int)(a:Int):AA (List α):=BB (LG cmp a) big (c,e)
def LF{α:Type}(cmp:α->α->AA Int)(g:List α)(h:Int)(e:(Int×Int)->AA (List α))(G:(Int×Int)):AA (List α):=match G with |(a,c)=>br (decide (a<c)) (bd (at? g h) fun B=>bd (at? g h) fun j=>bd (at? g (w64 (Du (Go.IntKind.u64.wrap (w64 (a+c))) 1))) fun E=>bd (at? g (w64 (Du (Go.IntKind.u64.wrap (w64 (a+c))) 1))) fun q=>bd (cmp j q) fun y=>br (!decide (y<0)) (e ((w64 (w64 (Du (Go.IntKind.u64.wrap (w64 (a+c))) 1)+1),c))) (e ((a,w64 (Du (Go.IntKind.u64.wrap (w64 (a+c))) 1))))) (jn (LA cmp g h) a)
def H8{α:Type}(cmp:α->α->AA Int)(rE:List α->Int->Int->Int->AA (List α))(j:Int)(q:Int)(c:Int)(e:Int)(a:List α)(g:Bool):AA (List α):=br g (bd (rE a (w64 (Du (Go.IntKind.u64.wrap (w64 (j+c))) 1)) (w64 (w64 (w64 (Du (Go.IntKind.u64.wrap (w64 (j+c))) 1)+q)-e)) c) fun h=>some h) (some a)
def GI{α:Type}(cmp:α->α->AA Int)(rE:List α->Int->Int->Int->AA (List α))(e:Int)(h:Int)(c:Int)(a:Int)(g:List α):AA (List α):=br (decide (w64 (Du (Go.IntKind.u64.wrap (w64 (e+c))) 1)<w64 (w64 (w64 (Du (Go.IntKind.u64.wrap (w64 (e+c))) 1)+h)-a))) (jn (H8 cmp rE e h c a g) (decide (w64 (w64 (w64 (Du (Go.IntKind.u64.wrap (w64 (e+c))) 1)+h)-a)<c))) (jn (H8 cmp rE e h c a g) false)
def H7{α:Type}(cmp:α->α->AA Int)(rE:List α->Int->Int->Int->AA (List α))(e:Int)(q:Int)(g:Int)(a:Int)(c:List α)(h:Bool):AA (List α):=br h (bd (rE c e a (w64 (Du (Go.IntKind.u64.wrap (w64 (e+g))) 1))) fun j=>jn (GI cmp rE e q g a) j) (jn (GI cmp rE e q g a) c)
def GH{α:Type}(cmp:α->α->AA Int)(rE:List α->Int->Int->Int->AA (List α))(e:Int)(h:Int)(g:Int)(a:Int)(c:List α):AA (List α):=br (decide (e<a)) (jn (H7 cmp rE e h g a c) (decide (a<w64 (Du (Go.IntKind.u64.wrap (w64 (e+g))) 1)))) (jn (H7 cmp rE e h g a c) false)
def H6{α:Type}(cmp:α->α->AA Int)(rE:List α->Int->Int->Int->AA (List α))(q:List α)(e:Int)(c:Int)(g:Int)(a:Int)(h:Bool):AA (List α):=br h (bd (Hm cmp q a c (w64 (w64 (w64 (Du (Go.IntKind.u64.wrap (w64 (e+g))) 1)+c)-a))) fun j=>jn (GH cmp rE e c g a) j) (jn (GH cmp rE e c g a) q)
def H5{α:Type}(cmp:α->α->AA Int)(rE:List α->Int->Int->Int->AA (List α))(h:List α)(e:Int)(c:Int)(g:Int)(a:Int):AA (List α):=br (decide (a<c)) (jn (H6 cmp rE h e c g a) (decide (c<w64 (w64 (w64 (Du (Go.IntKind.u64.wrap (w64 (e+g))) 1)+c)-a)))) (jn (H6 cmp rE h e c g a) false)
def Km{α:Type}(cmp:α->α->AA Int)(rE:List α->Int->Int->Int->AA (List α))(g:List α)(h:Int)(j:Int)(q:Int)(e:(Int×Int)->AA (List α))(I:(Int×Int)):AA (List α):=match I with |(a,c)=>br (decide (a<c)) (bd (at? g (w64 (w64 (w64 (w64 (Du (Go.IntKind.u64.wrap (w64 (h+q))) 1)+j)-1)-w64 (Du (Go.IntKind.u64.wrap (w64 (a+c))) 1)))) fun G=>bd (at? g (w64 (w64 (w64 (w64 (Du (Go.IntKind.u64.wrap (w64 (h+q))) 1)+j)-1)-w64 (Du (Go.IntKind.u64.wrap (w64 (a+c))) 1)))) fun y=>bd (at? g (w64 (Du (Go.IntKind.u64.wrap (w64 (a+c))) 1))) fun H=>bd (at? g (w64 (Du (Go.IntKind.u64.wrap (w64 (a+c))) 1))) fun B=>bd (cmp y B) fun E=>br (!decide (E<0)) (e ((w64 (w64 (Du (Go.IntKind.u64.wrap (w64 (a+c))) 1)+1),c))) (e ((a,w64 (Du (Go.IntKind.u64.wrap (w64 (a+c))) 1))))) (jn (H5 cmp rE g h j q) a)
def GG{α:Type}(cmp:α->α->AA Int)(rE:List α->Int->Int->Int->AA (List α))(e:List α)(g:Int)(h:Int)(j:Int)(q:(Int×Int)):AA (List α):=match q with |(a,c)=>BB (Km cmp rE e g h j) big (a,c)
def LB{α:Type}(cmp:α->α->AA Int)(rE:List α->Int->Int->Int->AA (List α))(g:List α)(a:Int)(e:Int)(c:Int)(_:PUnit):AA (List α):=br (decide (e>w64 (Du (Go.IntKind.u64.wrap (w64 (a+c))) 1))) (jn (GG cmp rE g a e c) ((w64 (w64 (w64 (Du (Go.IntKind.u64.wrap (w64 (a+c))) 1)+e)-c),w64 (Du (Go.IntKind.u64.wrap (w64 (a+c))) 1)))) (jn (GG cmp rE g a e c) (a,e))
def K9{α:Type}(cmp:α->α->AA Int)(rE:List α->Int->Int->Int->AA (List α))(c:List α)(e:Int)(a:Int)(g:Int)(_:PUnit):AA (List α):=br (w64 (g-a)==1) (BB (LF cmp c a) big (e,a)) (jn (LB cmp rE c e a g) ())
def Fm{α:Type}(cmp:α->α->AA Int)(rE:List α->Int->Int->Int->AA (List α))(e:List α)(a:Int)(c:Int)(g:Int):AA (List α):=br (w64 (c-a)==1) (BB (LC cmp e a) big (c,g)) (jn (K9 cmp rE e a c g) ())
def Hf{α:Type}(cmp:α->α->AA Int)(mrg:List α->Int->Int->Int->AA (List α))(e:((List α)×Int)->AA (List α))(a:Int)(c:List α):AA (List α):=e ((c,w64 (a*2)))
def M0{α:Type}(cmp:α->α->AA Int)(mrg:List α->Int->Int->Int->AA (List α))(j:Int)(h:((List α)×Int)->AA (List α))(a:Int)(q:((List α)×Int)):AA (List α):=match q with |(e,c)=>br (decide (w64 (c+a)<j)) (bd (mrg e c (w64 (c+a)) j) fun g=>jn (Hf cmp mrg h a) g) (jn (Hf cmp mrg h a) e)
def M1{α:Type}(cmp:α->α->AA Int)(mrg:List α->Int->Int->Int->AA (List α))(q:Int)(y:((List α)×Int)->AA (List α))(c:Int)(h:((List α)×Int×Int)->AA (List α))(B:((List α)×Int×Int)):AA (List α):=match B with |(g,e,a)=>br (decide (a<=q)) (bd (mrg g e (w64 (e+c)) a) fun j=>h ((j,a,w64 (a+w64 (2*c))))) (jn (M0 cmp mrg q y c) (g,e))
def F6{α:Type}(cmp:α->α->AA Int)(mrg:List α->Int->Int->Int->AA (List α))(e:Int)(g:((List α)×Int)->AA (List α))(h:((List α)×Int)):AA (List α):=match h with |(c,a)=>br (decide (a<e)) (BB (M1 cmp mrg e g a) big ((c,0,w64 (2*a)))) (some c)
def He{α:Type}(cmp:α->α->AA Int)(mrg:List α->Int->Int->Int->AA (List α))(a:Int)(h:((List α)×Int)):AA (List α):=match h with |(c,e)=>bd (DK cmp c e a) fun g=>BB (F6 cmp mrg a) big (g,20)
def F5{α:Type}(cmp:α->α->AA Int)(mrg:List α->Int->Int->Int->AA (List α))(c:Int)(h:((List α)×Int×Int)->AA (List α))(q:((List α)×Int×Int)):AA (List α):=match q with |(e,g,a)=>br (decide (a<=c)) (bd (DK cmp e g a) fun j=>h ((j,a,w64 (a+20)))) (jn (He cmp mrg c) (e,g))
def GS{α:Type}(cmp:α->α->AA Int)(mrg:List α->Int->Int->Int->AA (List α))(a:List α)(c:Int):AA (List α):=BB (F5 cmp mrg c) big (a,0,20)
def AY4:YF:=⟨[Jd],[.m (.l (.st 4)),.v .i,.v .i,.f Jd.x []],[0],.ret [],[],dY ["1KS7OeRtTNFDhs8eTW7YfaqYnOnpfsPhzX7fxSPwkJWIYKkceUKieD41yFDArVDEMwxewmfUPVwBJWpj","tRiadwDSMD2UtXCOoC0Bl1q0bCDlCkdRQY560lp1fjAPcP2oty6QoeGkUIkADLZbNWicE"] [] [.D5 32 (.tmp 22) [.v,.v] [.tmp 26,.tmp 31]]⟩
def AGu(a:List Ai)(c e:Int):AA (List Ai):=DK US a c e
def AD0:GF:=AY4.EY (GL AGu)
def AY5:YF:=⟨[Jd],[.m (.l (.st 4)),.v .i,.v .i,.v .i,.f Jd.x []],[0],.ret [],[],dY ["2niAU9T2Ewg8lu0yFccPnaG032XV7MtjXkb088A3lKMWaNAsB4zmsFZaAEqZmmDrkAIy6T9oLZxf9"] []⟩
def AX1(a:List Ai)(c e g:Int):AA (List Ai):=EP US a c e g
def tj:GF:=AY5.EY (Vi AX1)
def AY6:YF:=⟨[Jd],[.m (.l (.st 4)),.v .i,.v .i,.v .i,.f Jd.x []],[0],.ret [],[],dY ["J4ysfqpHeDeKASYrH33uZVGdXxufH9HuC0qZKJh1G8dvJtAPavg9RqeL7yfrUb91GnnrXrOM9XDCUpZ5","J74IF47LYk0bo6b04bT7XA5DOXvAzdPa8"] [] [.call 31 tj [0] rfl [.tmp 24,.tmp 27,.tmp 28,.tmp 29,.tmp 30],.call 46 tj [0] rfl [.tmp 35,.tmp 38,.tmp 43,.tmp 44,.tmp 45],.call 57 tj [0] rfl [.tmp 50,.tmp 53,.tmp 54,.tmp 55,.tmp 56]]⟩
def AX2(a:List Ai)(c e g:Int):AA (List Ai):=Hm US a c e g
def tk:GF:=AY6.EY (Vi AX2)
abbrev mh:=xy [.m (.l (.st 4)),.v .i,.v .i,.v .i,.f Jd.x []] (.ret [])
def AJ9(rE:mh)(a:List Ai)(c e g:Int):AA (List Ai):=rE.d (a,c,e,g,(),())
def AY7(rE:mh):YF:=⟨[Jd],[.m (.l (.st 4)),.v .i,.v .i,.v .i,.f Jd.x []],[0],.ret [],[],dY ["DdqZgAszbdErG9oIVGLdzu9R1sBxzW052h6sjhRfHx1Wilm6wQTqAREX7icFdZJktGBtmaIJtSOW7jdY","bFObFtWtZ3SOMXRJiTG9p2wWQXfdf3R3MuohHmhRK1GZiu6JHjV4dJicUU5BogSxJHiAwEeuxQukjfsQ","7lU1EX0YsYFVKwcmZe90r3jPK0KoMrSIFyxKcZkVQAifQ9qQeSqVV0BsxuFuGoT6EJwegbBO9bJMAeFE","8TBRpmZuP122svB4LZzslgdsAehkzng9PENWkbYZ67EUi3zfkfS8daQKUOVCnrp0mkRtnqjMaWeldCem","jLx1q6Q0JUDOYiQON0On6l10uY20rCUNsuzlqI0f7j2vuV7CLZjwsuML6CV95Gi5tXnjQcEMWKjC9UbN","TdztyvdEfgrxxpXZmmLgnvVRprQSYzGZzBsIDMjTa9MZIrZuzQGUN2sNoiyPvxTFNxR7itwG95oivZoA","uUwoLOgQTvcUW4smehe7pbcsGP7PP2gxXDycP1Xbb5q4ESAKQzlA2EkxNM4EM0fhJqePPDFLM2r04wWe","fWdfygupwqzbNvS58c3AQ6xwPLedmp3w3YS7vxl0QdIlE2HK5t0Jx8tlkWbwcvqjVNEOUoOQqiBaTcNo","ApY1uVOpmzvnVLkNFT5x65JxnM8vPDKIwwq"] [] [.D5 49 (.tmp 40) [.v,.v] [.tmp 44,.tmp 48],.D5 101 (.tmp 92) [.v,.v] [.tmp 96,.tmp 100],.D5 169 (.tmp 158) [.v,.v] [.tmp 164,.tmp 168],.call 191 tk [0] rfl [.tmp 186,.tmp 187,.tmp 188,.tmp 189,.tmp 190],.call 205 rE.gf [0] rfl [.tmp 200,.tmp 201,.tmp 202,.tmp 203,.tmp 204],.call 219 rE.gf [0] rfl [.tmp 214,.tmp 215,.tmp 216,.tmp 217,.tmp 218]]⟩
def AWr(rE:mh)(a:List Ai)(c e g:Int):AA (List Ai):=Fm US (AJ9 rE) a c e g
def AOA(rE:mh):GF:=(AY7 rE).gf rfl rfl (fun a=>AWr rE a.1 a.2.1 a.2.2.1 a.2.2.2.1) (fun a=>by kernel_rfl)
def bK:Nat->mh|0=>.nil _ _|k+1=>.of (AOA (bK k))
def ANH(a:List Ai)(c e g:Int):AA (List Ai):=(bK 7).d (a,c,e,g,(),())
def tl:GF:=(bK 7).gf
def AY8:YF:=⟨[Jd],[.m (.l (.st 4)),.v .i,.f Jd.x []],[0],.ret [],[],dY ["3vr2P356g2dKhXO0hxrG6DTykPXeZDXxZmLdSzGWI72Rry9Zn1oeDAGth733KEyAsFxNAU09EG6fzlnR","EuRO4Is4ZQlxdn7ifSNaIPpofzI7QIRy19JHE7LIXYbFa3jlWYex6WSUPH2FbZzefALm0DgAK6DBqcQy","EQ4kaE49jeWPAEIIpkZ"] [] [.call 18 AD0 [0] rfl [.tmp 14,.tmp 15,.tmp 16,.tmp 17],.call 27 AD0 [0] rfl [.tmp 23,.tmp 24,.tmp 25,.tmp 26],.call 43 tl [0] rfl [.tmp 36,.tmp 37,.tmp 40,.tmp 41,.tmp 42],.call 60 tl [0] rfl [.tmp 55,.tmp 56,.tmp 57,.tmp 58,.tmp 59]]⟩
def AGv(a:List Ai)(c:Int):AA (List Ai):=GS US ANH a c
def AOQ:GF:=AY8.EY (BF AGv)
def AYv:YF:=⟨[Jd],[.m (.l (.st 4)),.f Jd.x []],[0],.ret [],[],dY ["1clcPGg9t1SA"] [] [.call 8 AOQ [0] rfl [.tmp 4,.tmp 6,.tmp 7]]⟩
def ny(a:List Ai):AA (List Ai):=bd (AGv a (↑a.length:Int)) fun c=>some c
def AOF:GF:=AYv.EY (Bd ny)
def AYw:YF:=⟨[Jd],[.v (.st 1),.v (.l (.st 2)),.v .i,.v .i],[],.ret [(.l (.st 4))],[.tmp 8],dY ["1ZmhQToksjXA4TYC2oFLV6ks8jbwcZmfbwowtMtocN2fYrBMdXgrgqXUFEUzeNRex07ltq4OuPSvsa60","PCne9jt3nt7oZgqIj6JZ9BLLpy14NJraEmlZnJIFLahsMHXz0eVcrORgswpodN"] [th] [.call 40 AOF [0] rfl [.tmp 39,.fn 0]]⟩
def V6(a:List Ai×Int->AA (List Ai))(c:Int)(e:List Ai):AA (List Ai):=a (e,w64 (c+1))
def V5(c:List Ai×Int->AA (List Ai))(a:List Ai)(e:Int)(g:Ai×Bool)(h:Bool):AA (List Ai):=br h (gd (g0 a+[g.fst].length<=lim) (jn (V6 c e) (a++[g.fst]))) (jn (V6 c e) a)
def SG(a:List Ai):AA (List Ai):=bd (ny a) fun c=>some c
def SH(q:Ab)(h:List AQ)(y B:Int)(g:List Ai×Int->AA (List Ai))(E:List Ai×Int):AA (List Ai):=let (c,a):=E;br (decide (a<h.length)) (bd (at? h a) fun j=>bd (oC q j B) fun e=>br e.snd (jn (V5 g c a e) (j.Aa==y)) (jn (V5 g c a e) false)) (jn SG c)
def aJ(a:Ab)(c:List AQ)(e g:Int):AA (List Ai):=BB (SH a c e g) big ([],0)
def tX:GF:=AYw.EY (Vi aJ)
def ye(_:PUnit):AA Bool:=some true
def da(g j:List Ai)(h:Int->AA Bool)(a:Int):AA Bool:=br (decide (a<g.length)) (bd (at? g a) fun c=>bd (at? j a) fun e=>br (!(c.Level==e.Level&&(c.Av==e.Av&&(c.Id==e.Id&&(c.BC==e.BC&&true))))) (some false) (h (w64 (a+1)))) (jn ye ())
def yd(a c:List Ai):AA Bool:=br ((↑a.length:Int) != c.length) (some false) (BB (da a c) big 0)
def AOG:=gZ AQ2 DM Cv ["ACfYBAIejxz6VGC2VAxafWqWm2ERGV3AeD2DXCNCzn0L5QIHLZCPCtYTA8WPAkOcGhHhzGkIZCr"] [] (BF yd)
def dg(g:Int×Int):AA Int:=let (a,c):=g;bd (α:=UInt8) (at? [0,1,2,2,3,3,3,3,4,4,4,4,4,4,4,4,5,5,5,5,5,5,5,5,5,5,5,5,5,5,5,5,6,6,6,6,6,6,6,6,6,6,6,6,6,6,6,6,6,6,6,6,6,6,6,6,6,6,6,6,6,6,6,6,7,7,7,7,7,7,7,7,7,7,7,7,7,7,7,7,7,7,7,7,7,7,7,7,7,7,7,7,7,7,7,7,7,7,7,7,7,7,7,7,7,7,7,7,7,7,7,7,7,7,7,7,7,7,7,7,7,7,7,7,7,7,7,7,8,8,8,8,8,8,8,8,8,8,8,8,8,8,8,8,8,8,8,8,8,8,8,8,8,8,8,8,8,8,8,8,8,8,8,8,8,8,8,8,8,8,8,8,8,8,8,8,8,8,8,8,8,8,8,8,8,8,8,8,8,8,8,8,8,8,8,8,8,8,8,8,8,8,8,8,8,8,8,8,8,8,8,8,8,8,8,8,8,8,8,8,8,8,8,8,8,8,8,8,8,8,8,8,8,8,8,8,8,8,8,8,8,8,8,8,8,8,8,8,8,8,8,8,8,8,8,8] (↑(toB a).toNat:Int)) fun e=>some (w64 (c+w64 (↑e.toNat:Int)))
def de(e:Int×Int):AA Int:=let (a,c):=e;br (decide (a>=256)) (jn dg (Du a 8,w64 (c+8))) (jn dg (a,c))
def db(e:Int×Int):AA Int:=let (a,c):=e;br (decide (a>=65536)) (jn de (Du a 16,w64 (c+16))) (jn de (a,c))
def ANC(a:Int):AA Int:=br (decide (a>=4294967296)) (jn db (Du a 32,32)) (jn db (a,0))
def AOH:=gZ [.v (.ki .u64)] DC DD ["eJovXJrgOucq92tWFyP0fEjh3eXvstvsGUwg0NvRdHStIkYPH3ttUtRl20T8eyCWP4O1lIxxdS7HeLIf","cbuXJBRUYZZY70OPeX5QJEmzw0h"] [] (Bd ANC) [.ix 22 (.k (.str [0,1,2,2,3,3,3,3,4,4,4,4,4,4,4,4,5,5,5,5,5,5,5,5,5,5,5,5,5,5,5,5,6,6,6,6,6,6,6,6,6,6,6,6,6,6,6,6,6,6,6,6,6,6,6,6,6,6,6,6,6,6,6,6,7,7,7,7,7,7,7,7,7,7,7,7,7,7,7,7,7,7,7,7,7,7,7,7,7,7,7,7,7,7,7,7,7,7,7,7,7,7,7,7,7,7,7,7,7,7,7,7,7,7,7,7,7,7,7,7,7,7,7,7,7,7,7,7,8,8,8,8,8,8,8,8,8,8,8,8,8,8,8,8,8,8,8,8,8,8,8,8,8,8,8,8,8,8,8,8,8,8,8,8,8,8,8,8,8,8,8,8,8,8,8,8,8,8,8,8,8,8,8,8,8,8,8,8,8,8,8,8,8,8,8,8,8,8,8,8,8,8,8,8,8,8,8,8,8,8,8,8,8,8,8,8,8,8,8,8,8,8,8,8,8,8,8,8,8,8,8,8,8,8,8,8,8,8,8,8,8,8,8,8,8,8,8,8,8,8,8,8,8,8,8,8])) (.tmp 21)]
def AGp(a:Int):AA Int:=bd (ANC a) fun c=>some c
def AOI:=gZ [.v (.ki .u64)] DC DD ["2L6BNNywO8sQ6kJyVA"] [AOH] (Bd AGp)
def AYx:YF:=⟨[Gv],[.m (.l (.st 5)),.v .i,.v .i,.f Gv.x []],[0],.ret [],[],dY ["11PCQ4gaEUJZrJykdI45ONtQLw9APStyz1M41pifKAo2cD7aaprwiLXzh0XGuk6koI6iAaCWTrjCNm8f","33HxRNHdJLrj5CFaQErDV0Og5yrIeBErcktTA8gT0mPpC8YvWOrTYyl6AnMxGqzcnzp"] [] [.D5 32 (.tmp 22) [.v,.v] [.tmp 26,.tmp 31]]⟩
def yf(a:List BO)(c e:Int):AA (List BO):=DK SJ a c e
def tY:GF:=AYx.EY (GL yf)
def AYy:YF:=⟨[Gv],[.m (.l (.st 5)),.v .i,.v .i,.v .i,.f Gv.x []],[0],.ret [],[],dY ["HE9Wrk0ndDVl22ShYJhylivU4ExyQSpTHGQsKQucMp1BUG9FgJ67oztaKRhVhmr7Khk1PvBC6dUZ2n1Y","zLwuZhbyQEn2AsySnZNSJC44nFkc0wPH3gQOY9kLUhePA5xGuY1ep8KvFYxACYNyinMuC4UyH3GHxgr9","hixJoWL7JeBqnMJPk3wSmQGsG4yNM2o09TcKspLzjPgyyo2KkHm5qhsgPYP4gwrwZXWcY9aGJyPlEC1t","MKNakLo0GovlhRcm4cdfb0SHNY7fq1U4wrl0UmUvhvhuknzmEvasWPxdzyh6aaEzwIYMscdsjrIQHKXZ","meXrMBhtFoFXhlBV29BreQ9p8yTun5vJamKyuGbIT9WPEedLEq627wby7v4hxFAI8h9nB7fRLL5lmnDt","sjlQT1daCwJR5xkZtEyOkAXtSzVL"] [] [.call 30 tY [0] rfl [.tmp 26,.tmp 27,.tmp 28,.tmp 29],.bad (some 37),.bad (some 44),.bad (some 52),.bad (some 61),.bad (some 80),.bad (some 94),.bad (some 103),.bad (some 111),.bad (some 134),.bad (some 146)]⟩
def yg(e:List BO)(a c g:Int)(j:PUnit->AA (List BO))(_:PUnit):AA (List BO):=br (decide (w64 (c-a)<=12)) (bd (yf e a c) fun h=>some h) (br (g==0) none none)
def AND(a:List BO)(c e g:Int):AA (List BO):=BB (yg a c e g) big ()
def AOJ:GF:=AYy.EY (Vi AND)
def AYz:YF:=⟨[Gv],[.m (.l (.st 5)),.f Gv.x []],[0],.ret [],[],dY ["1LXjKTRD3b3Ss26LWIhoyd"] [AOI] [.call 13 AOJ [0] rfl [.tmp 7,.k (.int .i64 0),.tmp 8,.tmp 11,.tmp 12]]⟩
def AGq(a:List BO):AA (List BO):=bd (AGp (Go.IntKind.u64.wrap (↑a.length:Int))) fun c=>bd (AND a 0 (↑a.length:Int) c) fun e=>some e
def AOK:GF:=AYz.EY (Bd AGq)
def AY0:YF:=⟨[Gv],[.v (.st 6)],[],.ret [(.l (.st 5))],[.tmp 2],dY ["AoFm5rOB6tQdKoqOT3gZlyYAbRfNYfnMaENmRk9V8GYvEx9ScMhHGGiDUtyRtSIlOpctW51SlTGClo7W","koJx"] [kE] [.call 21 AOK [0] rfl [.tmp 20,.fn 0]]⟩
def yh(a:List BO):AA (List BO):=bd (AGq a) fun c=>some c
def yi(e:Aq)(h:List BO×Int->AA (List BO))(j:List BO×Int):AA (List BO):=let (a,c):=j;br (decide (c<e.Am.length)) (bd (at? e.Am c) fun g=>gd (g0 a+g0 g<=lim) (h (a++g,w64 (c+1)))) (jn yh a)
def dh(a:Aq):AA (List BO):=bd (Ri a) fun c=>br (!c) (some []) (BB (yi a) big ([],0))
def ADv:GF:=AY0.EY (Bd dh)
def AY1:YF:=⟨[Gv],[.m (.l (.st 5)),.v .i,.v .i,.v .i,.f Gv.x []],[0],.ret [],[],dY ["mrLq8Dj40YN8sOY0ImVsOAZNLjQ4iOpcYI8zRaUVu6yVjUl3rB9LFh7dcQqvR4Gnp08aOmt83vJ"] []⟩
def AX0(a:List BO)(c e g:Int):AA (List BO):=EP SJ a c e g
def tZ:GF:=AY1.EY (Vi AX0)
def AZC:YF:=⟨[Gv],[.m (.l (.st 5)),.v .i,.v .i,.v .i,.f Gv.x []],[0],.ret [],[],dY ["93P7qprKcabXMNu0XiV5xvWClYvIGrbpPCg9bG3B4I3wYOJQGCywFOBnMx4eIPP6Eg7xKmdZaWGOl98C","PKNRF4ciSRcSmbdoc3xyT3jX6aHz7Ua3u"] [] [.call 31 tZ [0] rfl [.tmp 24,.tmp 27,.tmp 28,.tmp 29,.tmp 30],.call 46 tZ [0] rfl [.tmp 35,.tmp 38,.tmp 43,.tmp 44,.tmp 45],.call 57 tZ [0] rfl [.tmp 50,.tmp 53,.tmp 54,.tmp 55,.tmp 56]]⟩
def AX3(a:List BO)(c e g:Int):AA (List BO):=Hm SJ a c e g
def tq:GF:=AZC.EY (Vi AX3)
abbrev mi:=xy [.m (.l (.st 5)),.v .i,.v .i,.v .i,.f Gv.x []] (.ret [])
def AKA(rE:mi)(a:List BO)(c e g:Int):AA (List BO):=rE.d (a,c,e,g,(),())
def AZD(rE:mi):YF:=⟨[Gv],[.m (.l (.st 5)),.v .i,.v .i,.v .i,.f Gv.x []],[0],.ret [],[],dY ["kTdV51SHM1e4aYJTszEu60xZDz1KZJ4Q8LIXMfC7kA7eXHvLHbzO7rhW5GnEhehWoaEj0UHVtUEc0qRf","YJZiHfUNt04OYW8a9T1c4cLU7tjP4HrjKhsAV6UyLSDlzkPpL0xlLcdhykqxaQAQQseKGoMVdcxwdy3f","1U1H8HIRrPpsGUu6mzLcpPpefaE2Q9AAzd2q9X0SqDy4UGlmwSr1058e1PmQh4NMeBdBvM4pO2suKBrS","C8OderAeJb8rJiRKbL5UOpPblCvJB1cZjzyL17a0iiE40OJRN7XCft4wIyZ1Qo3l4w0ZIU88IXPphKj0","cSaWw0GwnuD8TdyV4lIOfhcaJxjcx3oYU6wHEs3TQWNRmAIdHCAv3OZUwGL9ErBiuLrhx7RAmrPGsjy7","jV51nONzK1FXhYQzvVYzHAUj1AUEWWGiEopddfg9bWBNVrcQzVfTEXSefUJtL4hcqrYNDdmJS0rrL70H","5htSoYjn1jC1nq8sF40FEG9yLjvSyOXrt2J0CQVHk2PnzQXeDKpV2nOIT2yYN0YrOw17RevOHamLAZ2S","DdTVeczRatV56RqbCRbWgwSLNtXB3bx1KRWXgtxWS7F8HSB50FIIsbL38NgVpFE8Q74y0dqAUbAT9i3h","qYdIalKCA9JFlDeUtZt6Rpe786Zd1T"] [] [.D5 49 (.tmp 40) [.v,.v] [.tmp 44,.tmp 48],.D5 101 (.tmp 92) [.v,.v] [.tmp 96,.tmp 100],.D5 169 (.tmp 158) [.v,.v] [.tmp 164,.tmp 168],.call 191 tq [0] rfl [.tmp 186,.tmp 187,.tmp 188,.tmp 189,.tmp 190],.call 205 rE.gf [0] rfl [.tmp 200,.tmp 201,.tmp 202,.tmp 203,.tmp 204],.call 219 rE.gf [0] rfl [.tmp 214,.tmp 215,.tmp 216,.tmp 217,.tmp 218]]⟩
def AWs(rE:mi)(a:List BO)(c e g:Int):AA (List BO):=Fm SJ (AKA rE) a c e g
def AOB(rE:mi):GF:=(AZD rE).gf rfl rfl (fun a=>AWs rE a.1 a.2.1 a.2.2.1 a.2.2.2.1) (fun a=>by kernel_rfl)
def bL:Nat->mi|0=>.nil _ _|k+1=>.of (AOB (bL k))
def ANP(a:List BO)(c e g:Int):AA (List BO):=(bL 7).d (a,c,e,g,(),())
def tt:GF:=(bL 7).gf
def AZE:YF:=⟨[Gv],[.m (.l (.st 5)),.v .i,.f Gv.x []],[0],.ret [],[],dY ["Q3uty8ucVUNiqqMPxRkrAJvoXBXroxOo2gR7dF1csbWe7gowjyz95LE4EJ5pWkvEetvSh4IgTFiILFK8","4ecOlMWhKtAOpzFFa9R7k17zVnjbgYRJXW9Ib4OxY4idG4sIKqBSfBnk5HewKnLyq8axMDI406LS5t7x","AvRTC6iXDMPTjRETJX"] [] [.call 18 tY [0] rfl [.tmp 14,.tmp 15,.tmp 16,.tmp 17],.call 27 tY [0] rfl [.tmp 23,.tmp 24,.tmp 25,.tmp 26],.call 43 tt [0] rfl [.tmp 36,.tmp 37,.tmp 40,.tmp 41,.tmp 42],.call 60 tt [0] rfl [.tmp 55,.tmp 56,.tmp 57,.tmp 58,.tmp 59]]⟩
def AGz(a:List BO)(c:Int):AA (List BO):=GS SJ ANP a c
def AOX:GF:=AZE.EY (BF AGz)
def AZF:YF:=⟨[Gv],[.m (.l (.st 5)),.f Gv.x []],[0],.ret [],[],dY ["1clcPGg9t1SA"] [] [.call 8 AOX [0] rfl [.tmp 4,.tmp 6,.tmp 7]]⟩
def oE(a:List BO):AA (List BO):=bd (AGz a (↑a.length:Int)) fun c=>some c
def AOY:GF:=AZF.EY (Bd oE)
def AZG:YF:=⟨[Gv],[.v (.l (.st 2)),.v .i],[],.ret [(.l (.st 5))],[.tmp 4],dY ["46qNO0ZlGqc1F4W31BxEjmVwZdSr9tJ7JZqiWYuePL9i6B8pFP1h1UcVplwQKflVTbLDmKyuGDpZXbEr","oBrb24w7XEYuO0Ltbo0c9XKEZEngWf8"] [] [.call 33 AOY [0] rfl [.tmp 32,.fn 0]]⟩
def WH(a:List BO×Int->AA (List BO))(c:Int)(e:List BO):AA (List BO):=a (e,w64 (c+1))
def WG(e:List BO×Int->AA (List BO))(c:List BO)(g:Int)(a:AQ)(h:Bool):AA (List BO):=br h (gd (g0 c+[BO.mk a.Ci a.Id].length<=lim) (jn (WH e g) (c++[BO.mk a.Ci a.Id]))) (jn (WH e g) c)
def SL(a:List BO):AA (List BO):=bd (oE a) fun c=>some c
def SM(h:List AQ)(j:Int)(g:List BO×Int->AA (List BO))(q:List BO×Int):AA (List BO):=let (e,a):=q;br (decide (a<h.length)) (bd (at? h a) fun c=>br (c.State==2) (jn (WG g e a c) (c.Aa==j)) (jn (WG g e a c) false)) (jn SL e)
def eF(a:List AQ)(c:Int):AA (List BO):=BB (SM a c) big ([],0)
def AD2:GF:=AZG.EY (BF eF)
def y5(_:PUnit):AA Bool:=some true
def eG(c j:List BO)(h:Int->AA Bool)(a:Int):AA Bool:=br (decide (a<c.length)) (bd (at? c a) fun e=>bd (at? j a) fun g=>br (!(e.At==g.At&&(e.Id==g.Id&&true))) (some false) (h (w64 (a+1)))) (jn y5 ())
def y4(a c:List BO):AA Bool:=br ((↑a.length:Int) != c.length) (some false) (BB (eG a c) big 0)
def AOZ:=gZ AQ4 DM Cv ["H14uBfhAumVWH80lAQQ5pO56myP8SLafNUaFSneTpih13DuhOa0zSO3faXs7aBNo7N9PvmqKlx"] [] (BF y4)
def eJ(a:Int×Int->AA Int)(c e:Int):AA Int:=a (e,w64 (c+1))
def WI(a:Int×Int->AA Int)(c e:Int)(h:AQ)(g:Bool):AA Int:=br g (jn (eJ a e) (w64 (c+h.BC))) (jn (eJ a e) c)
def y6(a:Int):AA Int:=some a
def eK(h:List AQ)(j:Int)(g:Int×Int->AA Int)(y:Int×Int):AA Int:=let (e,c):=y;br (decide (c<h.length)) (bd (at? h c) fun a=>br (a.State==2) (br (a.Aa==j) (bd (C4 a.BC 1 6) fun q=>jn (WI g e c a) q) (jn (WI g e c a) false)) (jn (WI g e c a) false)) (jn y6 e)
def eH(a:List AQ)(c:Int):AA Int:=BB (eK a c) big (0,0)
def AD3:=gZ O6 DC Cv ["wNWqA5QmB0JJnIBuw3ZE3foxZRCYKxBlotXsgmdMGVkNlN1pbLrlQTkufsLHEMfLPLN6IQClusOFIDFQ","7idhAin4EScf9ICvma6JUqFj8"] [E6] (BF eH)
def eM(a:Int×Int->AA Int)(c e:Int):AA Int:=a (e,w64 (c+1))
def eL(a:Int×Int->AA Int)(c e:Int)(h:AQ)(g:Bool):AA Int:=br g (jn (eM a e) (w64 (c+h.BC))) (jn (eM a e) c)
def y7(a:Int):AA Int:=some a
def eO(h:List AQ)(j:Int)(g:Int×Int->AA Int)(y:Int×Int):AA Int:=let (e,a):=y;br (decide (a<h.length)) (bd (at? h a) fun c=>br (c.Bl==j) (bd (C4 c.BC 1 6) fun q=>jn (eL g e a c) q) (jn (eL g e a c) false)) (jn y7 e)
def aM(a:List AQ)(c:Int):AA Int:=BB (eO a c) big (0,0)
def AD4:=gZ O6 DC Cv ["O08H05lLriSUDXWcY4k2IPEUbCHgGLC6Ssc5QzuiiSUUwlnTsL8v2VGzcqb1gz2AqY7ZCuIa8vJgrenc","KA3mzL9MlY"] [E6] (BF aM)
def Ph(a:Bool):AA Bool:=some a
def AG0(g:Ab)(a:Ae)(c:List AQ)(e h:Int):AA Bool:=bd (oB a) fun j=>br j (bd (aJ g c e h) fun q=>bd (yd a.Row q) fun y=>br y (bd (dh a.By) fun B=>bd (eF c e) fun E=>bd (y4 B E) fun G=>br G (bd (eH c e) fun H=>br (a.AY.Eg==H) (bd (aM c e) fun I=>jn Ph (a.AY.Fw==I)) (jn Ph false)) (jn Ph false)) (jn Ph false)) (jn Ph false)
def AOa:=gZ AQ5 DM [.tmp 10] ["15J4s0i8LOivsPUAdDSc2IJQ8qFLXZ90TsNKJxv7XL5hBYUbJkoxuXzWnaDAyKUV8CJ1Ds34IzGhQXNr","61Tnfv0eEnrDLTxxZ5Gv9Hpe8GZazHuSC76hZBgGXWdVsTrkTfGZ0YuEGSOf6nnFcxQs9"] [AON,tX,AOG,ADv,AD2,AOZ,AD3,AD4] (AGE AG0)
def y8(_:PUnit):AA Int:=some (-1)
def eP(c:List Int)(g:Int)(e:Int->AA Int)(a:Int):AA Int:=br (decide (a<c.length)) (bd (at? c a) fun h=>br (g==h) (some a) (e (w64 (a+1)))) (jn y8 ())
def ANQ(a:List Int)(c:Int):AA Int:=BB (eP a c) big 0
def AOb:=gZ qC DC Cv ["1eYTMeQzlSl6VIySdaDWLfIZQkEd0tBcmibehLyhmOlRObw05NEv5OUQ67"] [] (BF ANQ)
def oF(a:List Int)(c:Int):AA Bool:=bd (ANQ a c) fun e=>some (decide (e>=0))
def tu:=gZ qC DM Cv ["t3akGo2bhdfK18"] [AOb] (BF oF)
def MC(c:Int->AA Bool)(e:Int)(a:Bool):AA Bool:=br a (some false) (c (w64 (e+1)))
def y9(a:Int->AA Bool)(c:Int)(_:PUnit):AA Bool:=a (w64 (c+1))
def eR(j:AE)(q:Int->AA Bool)(h:Int)(e:AQ)(g:Int->AA Bool)(c:Int):AA Bool:=br (decide (c<(an h.toNat j.AG).length)) (bd (at? (an h.toNat j.AG) c) fun a=>br (e.Av==a.Av) (jn (MC g c) true) (br (decide (e.Av<a.Av)) (br (decide (e.Since>a.Since)) (jn (MC g c) true) (br (decide (a.Av<e.Av)) (jn (MC g c) (decide (a.Since>e.Since))) (jn (MC g c) false))) (br (decide (a.Av<e.Av)) (jn (MC g c) (decide (a.Since>e.Since))) (jn (MC g c) false)))) (jn (y9 q h) ())
def Pj(c:AE)(e:Int->AA Bool)(a:Int)(h:AQ)(g:Bool):AA Bool:=br g (some false) (gd (0<=a/\a<=c.AG.length) (BB (eR c e a h) big 0))
def SN(a:Int->AA Bool)(c:Int)(e:Bool):AA Bool:=br e (some false) (a (w64 (c+1)))
def Yh(a:Int->AA Bool)(c:Int)(e:Bool):AA Bool:=br e (some false) (a (w64 (c+1)))
def oG(_:PUnit):AA Bool:=some true
def Yj(e:AE)(c:Int->AA Bool)(a:Int):AA Bool:=br (decide (a<e.A4.length)) (bd (at? e.A4 a) fun g=>bd (C4 g (-1) (w64 ((↑e.AS.AY.length:Int)-1))) fun h=>br (!h) (some false) (c (w64 (a+1)))) (jn oG ())
def To(a:AE)(_:PUnit):AA Bool:=BB (Yj a) big 0
def Yi(c:AE)(e:Int->AA Bool)(a:Int):AA Bool:=br (decide (a<c.BA.length)) (bd (at? c.BA a) fun g=>bd (Ms g (↑c.AS.AY.length:Int)) fun h=>br (!h) (jn (Yh e a) true) (gd (0<=a/\a<=c.BA.length) (bd (oF (an a.toNat c.BA) g) fun j=>jn (Yh e a) j))) (jn (To c) ())
def Tn(a:AE)(_:PUnit):AA Bool:=BB (Yi a) big 0
def eS(c:AE)(e:Int->AA Bool)(a:Int):AA Bool:=br (decide (a<c.AI.length)) (bd (at? c.AI a) fun g=>bd (at? c.AS.AY a) fun h=>br (g.AY.Total != h) (jn (SN e a) true) (bd (nz c.AG a) fun j=>br (decide (j>c.AS.Room)) (jn (SN e a) true) (bd (AG0 c.AS g c.AG a c.Now) fun q=>jn (SN e a) (!q)))) (jn (Tn c) ())
def WJ(a:AE)(_:PUnit):AA Bool:=BB (eS a) big 0
def eQ(a:AE)(g:Int->AA Bool)(c:Int):AA Bool:=br (decide (c<a.AG.length)) (bd (at? a.AG c) fun e=>bd (dj a.AS e a.Now) fun j=>br (!j) (jn (Pj a g c e) true) (br (decide (e.Av>=a.Av)) (jn (Pj a g c e) true) (br (decide (c>0)) (bd (at? a.AG (w64 (c-1))) fun h=>jn (Pj a g c e) (decide (h.Id>=e.Id))) (jn (Pj a g c e) false)))) (jn (WJ a) ())
def MA(a:AE)(c:Bool):AA Bool:=br c (some false) (br (decide ((↑a.AG.length:Int)>40)) (some false) (BB (eQ a) big 0))
def Rj(a:AE):AA Bool:=bd (aK a.AS) fun g=>br (!g) (jn (MA a) true) (bd (C4 a.Now 0 1000000) fun c=>br (!c) (jn (MA a) true) (bd (C4 a.Av 1 1000001) fun e=>br (!e) (jn (MA a) true) (br ((↑a.AI.length:Int) != a.AS.AY.length) (jn (MA a) true) (jn (MA a) ((↑a.A4.length:Int) != a.AS.C5)))))
def VD:=gZ XP DM DD ["EYmOVlCgews0nzoPLvRvAJdPp8vTmYFkWh27eZN8Ut3SGLNqt9cIZpFObXGDTFwiv0BRA1hqh4l6GNIX","L4okS1Sq0gWXcNSwly4qS1TCIfZYu1dl9OSLc04P7sZDgm5tK8joSddQ94zDTLG3hRl4SYG68ZupaEgg","zxfV1gGgZPaetazLCuAQWQQCIdyGxBUV9ZkIdDF7Rc99YZZF43uFsEj0Ib98priixY3hSdAE7xll8L8i","otwlWE8OinWex8oeHTkAzGYwf2cN9ongkrPKqdsyfctnR0BbCYYXYKYPGsbwcNFLRE2MPRXryoFOqmCp","ZOwDTBVsEA3hUEjRtpWVEJcN0pzRZinMZkHXpjWFFGXuFiBt9OL26QEcJiPcb3ff4bP1XlEUhJV6du5h","Zsx1wTeNzI622S9WQ9FXrmmzbnEaoHH4y8FioHKhA6cShf2Q862UpPQd4GIrfGpN8wSlsgtXWQn5OpZI","rHd5YL4TcQrwVYZ7R1WEFINk07DPjVxYazyF7jzjZS2XDuwiGFDhfo6gjWHGpoE1ADvfcN2C6zJ2te5o","Fpgzwt9EMhs1WNjS1jpABM4IkoqCuEFWo4Dn37UEE89m4aUaawOfdaIAXx8HAL2jUOpiNi7XaHKfIgNx","G5FfmriW3GONdcITfQhrFpjsMKd5bEPpCtUGED3DKHIMMxvQNpElro5x4kt23GkUBi7AbHieQqI2EB9G","SQyl3MSBohPDpuZvjpTEn0B"] [Y6,E6,kD,ta,AOa,Qu,tu] (Bd Rj) [.as 10 (.tmp 182),.as 11 (.tmp 184),.as 13 (.tmp 204)]
def eT(a:Bool):AA Bool:=some a
def Pk(a:B0):AA Bool:=br (decide ((↑a.Data.length:Int)<=20000)) (bd (C4 a.Safe 0 (↑a.Data.length:Int)) fun c=>jn eT c) (jn eT false)
def Su:=gZ ug DM DD ["2jgPpPztgqjeDZrcNpNDQDcDYe62PTC3eIAP2"] [E6] (Bd Pk)
def WK(a:Bool):AA Bool:=some a
def zA(a:Bo):AA Bool:=bd (Pk a.Log) fun c=>br c (bd (Pk a.FH) fun e=>br e (bd (Pk a.Odd) fun g=>jn WK g) (jn WK false)) (jn WK false)
def AD5:=gZ O7 DM DD ["dmkuHFvHSQ4iTTlmuvcTScnjdgnPoN2YL4"] [Su] (Bd zA)
def Rk(a:Int):AA Bool:=bd (C4 a 0 9999) fun c=>some c
def AOc:=gZ Sv DM DD ["3YjMFPIWbfE0U1"] [E6] (Bd Rk)
def AZH:YF:=⟨[AOc],[.v (.st 0)],[],.ret [.b],[.tmp 2],dY ["36fsfihQQ9W8hj8MaXOt5UkWeniuVg3wLrSltDxxGHJrozXUbwpeTo22U57OxFCbzB0aHwmjbLAjeL9F","0hTMmczTzyPAWsMGDMGXnuTjdu653AAUfxCdoq44DMovqhZsicY404dzsjblTV2YeyVLiYvXBSKHR4GL","8gJe5CCJFMIeS5ckYvdmS2BLpSOxjEIgSftVjzsqS6M3so4MfCGxQ7ufJB8sE1YsDYim1wDn2WY28yFA","Tp8yjBeiOLX2i857EWtY3qlViMsRf9rP1lP3FxNvGb3gVopONGxh0dIk4MPTGlk9KAq"] [E6] [.as 3 (.fn 0),.D5 11 (.tmp 8) [.v] [.tmp 10],.D5 16 (.tmp 13) [.v] [.tmp 15],.D5 27 (.tmp 24) [.v] [.tmp 26],.D5 33 (.tmp 30) [.v] [.tmp 32],.D5 43 (.tmp 40) [.v] [.tmp 42],.D5 58 (.tmp 55) [.v] [.tmp 57],.D5 63 (.tmp 60) [.v] [.tmp 62]]⟩
def G2(a:Bool):AA Bool:=some a
def Pl(a:B1)(e:Bool):AA Bool:=br e (bd (Rk a.Id) fun g=>br g (jn G2 (a.Kind==a.Kind&&(a.Id==a.Id&&(a.Aa==0&&(a.Bl==0&&(a.BC==0&&(a.Cs==0&&true))))))) (jn G2 false)) (br (a.Kind==3) (bd (Rk a.Aa) fun h=>br h (bd (Rk a.BC) fun c=>br c (jn G2 (a.Kind==a.Kind&&(a.Id==0&&(a.Aa==a.Aa&&(a.Bl==0&&(a.BC==a.BC&&(a.Cs==0&&true))))))) (jn G2 false)) (jn G2 false)) (br (a.Kind==6) (some (a.Kind==6&&(a.Id==0&&(a.Aa==0&&(a.Bl==0&&(a.BC==0&&(a.Cs==0&&true))))))) (some false)))
def aN(a:B1):AA Bool:=br (a.Kind==1) (bd (Rk a.Id) fun c=>br c (bd (Rk a.Aa) fun e=>br e (bd (C4 a.Bl (-1) 9999) fun g=>br g (bd (Rk a.BC) fun h=>br h (bd (Rk a.Cs) fun j=>jn G2 j) (jn G2 false)) (jn G2 false)) (jn G2 false)) (jn G2 false)) (br (a.Kind==2) (jn (Pl a) (a.Kind==2)) (br (a.Kind==4) (jn (Pl a) (a.Kind==4)) (br (a.Kind==5) (jn (Pl a) (a.Kind==5)) (jn (Pl a) (a.Kind==7)))))
def tx:GF:=AZH.EY (Bd aN)
def zC(_:PUnit):AA Bool:=some true
def eU(c:Af)(e:Int->AA Bool)(a:Int):AA Bool:=br (decide (a<c.Laid.length)) (bd (at? c.Laid a) fun g=>bd (aN g) fun h=>br (!h) (some false) (e (w64 (a+1)))) (jn zC ())
def Pm(a:Af)(c:Bool):AA Bool:=br c (some false) (BB (eU a) big 0)
def zB(a:Af):AA Bool:=bd (Rj a.Bb) fun c=>br (!c) (jn (Pm a) true) (bd (zA a.A9) fun e=>br (!e) (jn (Pm a) true) (br (decide ((↑a.Laid.length:Int)>8)) (jn (Pm a) true) (bd (C4 a.Seq (↑a.Laid.length:Int) 1000000) fun g=>jn (Pm a) (!g))))
def AOd:=gZ ZC DM DD ["x5wljNGpQ8CTkiaBBZN2QUchAfiiye9Almu9EGsgSnuFucy3wjt3SFRcbujM7OhkVcOsoLZmxTA3Zmzv","3tOMLE1QnlFAFdVpLDohIHayDIBLU94yudgxvLWTAAFX5HWz"] [VD,AD5,E6,tx] (Bd zB)
def V3(a c:B1):AA Bool:=br (a.Kind != c.Kind) (some false) (br (a.Id != c.Id) (some false) (br (a.Aa != c.Aa) (some false) (br (a.Bl != c.Bl) (some false) (br (a.BC != c.BC) (some false) (br (a.Cs != c.Cs) (some false) (some true))))))
def AG1(a:Ab):AA (List Int):=bd (sY a) fun c=>br (!c) (some []) (gd ([a.CX,a.Room,a.BC,a.CQ,a.B3,a.Rest,a.Cb,a.C5].length+a.AY.length<=lim) (some ([a.CX,a.Room,a.BC,a.CQ,a.B3,a.Rest,a.Cb,a.C5]++a.AY)))
def AOe:=gZ ai O8 DD ["CEys638Y6JTH1IXG0H82eQb9eBVv2vNOgQac96QCs1UnZRmImGyPJ8vZjznhNm"] [kC] (Bd AG1)
def zE(a:List Int):AA (List Int):=some a
def eX(h:AE)(g:List Int×Int->AA (List Int))(j:List Int×Int):AA (List Int):=let (a,c):=j;br (decide (c<h.A4.length)) (bd (at? h.A4 c) fun e=>gd (g0 a+[w64 (e+1)].length<=lim) (g (a++[w64 (e+1)],w64 (c+1)))) (jn zE a)
def WM(c:AE)(a:List Int):AA (List Int):=gd (a.length+[(↑c.BA.length:Int)].length<=lim) (gd ((a++[(↑c.BA.length:Int)]).length+c.BA.length<=lim) (BB (eX c) big (a++[(↑c.BA.length:Int)]++c.BA,0)))
def eW(e:AE)(h:List Int×Int->AA (List Int))(j:List Int×Int):AA (List Int):=let (g,a):=j;br (decide (a<e.AI.length)) (bd (at? e.AI a) fun c=>gd (g0 g+[c.AY.Dh].length<=lim) (h (g++[c.AY.Dh],w64 (a+1)))) (jn (WM e) g)
def WL(a:AE)(c:List Int):AA (List Int):=BB (eW a) big (c,0)
def eV(c:AE)(h:List Int×Int->AA (List Int))(j:List Int×Int):AA (List Int):=let (e,g):=j;br (decide (g<c.AG.length)) (bd (at? c.AG g) fun a=>gd (g0 e+[a.Id,a.Aa,w64 (a.Bl+1),a.BC,a.Cs,a.Since,a.Av,a.State,a.Ci,a.C0].length<=lim) (h (e++[a.Id,a.Aa,w64 (a.Bl+1),a.BC,a.Cs,a.Since,a.Av,a.State,a.Ci,a.C0],w64 (g+1)))) (jn (WL c) e)
def zD(a:AE):AA (List Int):=bd (dZ a) fun e=>br (!e) (some []) (bd (AG1 a.AS) fun c=>gd ([(↑(g0 c):Int)].length+g0 c<=lim) (gd (([(↑(g0 c):Int)]++c).length+[a.Now,a.Av,(↑a.AG.length:Int)].length<=lim) (BB (eV a) big ([(↑(g0 c):Int)]++c++[a.Now,a.Av,(↑a.AG.length:Int)],0))))
def AD6:=gZ XP O8 DD ["LQqToeR4MM5sXoCM6xuVgiYSmwOASd66XizjuTRzsI5awJTW4YkucobLq5v0AocIb3oyXLvONAqCd1rI","vkBVcFPOZTBdvzPrpeUpLz0VSm60uWUwauYa9MEbMoFWBxxZ9obJNFPB2bGUCjALZ3WQ0X2QuPzXX5Ok","GbMbTHnEMIRuoXGMmBWjdQYJDeaWtqZq2EdssrQ50otp43G8mq5ySMTbXieyoeLp0wa9XTFpWolSixlZ","Y2hjVmcdvAJ0cjbciFnYQI457eoQUo6DUWwsKXRaT5vVcrxRNrrfAooKmRTnTO84kAeWRRIv4q"] [ag,AOe] (Bd zD)
def zF(e:Int×List UInt8):AA (List UInt8):=let (a,c):=e;gd (c.length+[toB a].length<=lim) (some (c++[toB a]))
def zG(e:Int×List UInt8->AA (List UInt8))(g:Int×List UInt8):AA (List UInt8):=let (a,c):=g;br (decide (a>127)) (gd (c.length+[toB (w64 (Int.tmod a 128+128))].length<=lim) (e (w64 (Int.tdiv a 128),c++[toB (w64 (Int.tmod a 128+128))]))) (jn zF (a,c))
def eY(a:Int):AA (List UInt8):=bd (Eb a 0 2147483647) fun c=>br (!c) (some []) (BB zG big (a,[]))
def AD7:=gZ Sv (.ret [(.l .u)]) DD ["2hzmAXYA0BAHoFdA2EPuRympIWpaZjhBX6BhlhaZZdtmnwoonZYxENbmWbQU7ajUXWssLEbxl4VAZzZh","K5fm76r"] [Hz] (Bd eY)
def zH(a:List UInt8):AA (List UInt8):=some a
def eZ(e:List Int)(h:List UInt8×Int->AA (List UInt8))(q:List UInt8×Int):AA (List UInt8):=let (a,c):=q;br (decide (c<e.length)) (bd (at? e c) fun j=>bd (eY j) fun g=>gd (g0 a+g0 g<=lim) (h (a++g,w64 (c+1)))) (jn zH a)
def aO(a:List Int):AA (List UInt8):=BB (eZ a) big ([],0)
def AD8:=gZ ZD O9 DD ["18YcliGLBl8sVTs5fbvhx8BFliucIi6yZVGfjcZFxazS1ASVmHGHUTKQxxV7Zqsr"] [AD7] (Bd aO)
def eu(a:Int×Int->AA Int)(c e:Int):AA Int:=a (e,w64 (c+1))
def zJ(a:Int×Int->AA Int)(c e:Int):AA Int:=a (e,w64 (c+1))
def fB(g:Int×Int->AA Int)(h:Int)(e:Int×Int->AA Int)(j:Int×Int):AA Int:=let (a,c):=j;br (decide (c<8)) (br (Int.tmod a 2==1) (jn (eu e c) (UO (w64 (Int.tdiv a 2)) 3988292384)) (jn (eu e c) (w64 (Int.tdiv a 2)))) (jn (zJ g h) a)
def zK(a:Int):AA Int:=some (UO a 4294967295)
def fA(c:List UInt8)(g:Int×Int->AA Int)(j:Int×Int):AA Int:=let (e,a):=j;br (decide (a<c.length)) (bd (at? c a) fun h=>BB (fB g a) big (UO e (w64 (↑(UInt8.toNat h):Int)),0)) (jn zK e)
def zI(a:List UInt8):AA Int:=BB (fA a) big (4294967295,0)
def AD9:=gZ ZE DC DD ["G3Gl5Hm9lUBWaTyxLyaWARl4RkPVY4uaBy3ICGt0qhXf2skaQppo25Vl7YPi5tSOQhGtgnYyyE69bOSt","jIDFkEvwdVzz9ASHgr3qzi9StEssYibaMWApws"] [] (Bd zI)
def zL(a:Int):AA (List UInt8):=some ([toB (Du a 24),toB (Du a 16),toB (Du a 8),toB a])
def AEA:=gZ Sv O9 DD ["1bJZqkiuBE3M02ldJd8M07ugZ5LM8XaI9Ske06KDSc"] [] (Bd zL)
def fC(h:AE)(c:Int)(j:Bool):AA (List UInt8):=br j (some []) (bd (zD h) fun e=>gd ([c].length+g0 e<=lim) (bd (aO ([c]++e)) fun a=>bd (zI a) fun q=>bd (zL q) fun g=>gd (g0 g+g0 a<=OI) (some (g++a))))
def oH(a:AE)(c:Int):AA (List UInt8):=bd (dZ a) fun e=>br (!e) (jn (fC a c) true) (bd (Eb c 0 1000000) fun g=>jn (fC a c) (!g))
def tz:=gZ Fz O9 Cv ["3l8swKFt1MVqXlIlZPI9X1aZj0Vj5I0X2V8YryqhV1sJDu9SOKTbWOKHcr9Ut2N"] [ag,Hz,AD6,AD8,AD9,AEA] (BF oH) [.M9 21 (.tmp 20)]
end Lv
