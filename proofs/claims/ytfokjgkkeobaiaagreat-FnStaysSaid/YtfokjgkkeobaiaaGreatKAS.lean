/- Functions of the program as typed texts and as plain functions. -/
import Derived.Test.YtfokjgkkeobaiaaGreatTCS
set_option linter.all false
open Decidable renaming decide->It
open Bool renaming true->L1,false->L2
open List renaming take->an,length->g0,drop->n6,set->r9,replicate->s4
open Int renaming tmod->s0,toNat->v8
open UInt8 renaming toNat->s3
noncomputable section
set_option maxRecDepth 100000
namespace Lv
open Go (IntKind BinOp UnOp)
open Y (YF qn qf qt qr q1 qd qm qa qo ql qL qb qi qx qp qq qc qz qe qk qK qB qw qu qj Kp wn wf wt w1 sw sq sr wm wM wo wO wl wL wk wK wz wZ wx wX wb wB wi wI wr wR wq wQ we wE wc wY wj wh cv ca cx cn ce bl)
def de(a:Bool):AA Bool:=some a
def Ew(a c e:Int):AA Bool:=br (It (a>=c)) (jn de (It (a<=e))) (jn de L2)
def Ho:=gZ ATA C6 Tc ["yWjtmn1zSgkHqYNryA3oD4lb"] [] (GS Ew)
def Wi(a:Bool):AA Bool:=some a
def AIh(a:AY)(_:PUnit):AA Bool:=bd (Ew a.B7 1 8) λe=>br e (bd (Ew a.Rest 0 8) λg=>br g (bd (Ew a.Cl 1 4) λh=>br h (bd (Ew a.C7 1 3) λc=>jn Wi c) (jn Wi L2)) (jn Wi L2)) (jn Wi L2)
def ua(a:AY)(e:Int->AA Bool)(c:Int):AA Bool:=br (It (c<a.AX.length)) (bd (at? a.AX c) λg=>bd (Ew g 1 60) λh=>br (!h) (some L2) (e (w64 (c+1)))) (jn (AIh a) ())
def RO(a:AY)(c:Bool):AA Bool:=br c (some L2) (A9 (ua a) big 0)
def AAQ(a:AY):AA Bool:=bd (Ew (↑a.AX.length:Int) 1 4) λj=>br (!j) (jn (RO a) L1) (bd (Ew a.Cd 1 5) λc=>br (!c) (jn (RO a) L1) (bd (Ew a.Room 1 10) λe=>br (!e) (jn (RO a) L1) (bd (Ew a.BL 1 6) λg=>br (!g) (jn (RO a) L1) (bd (Ew a.CK 1 12) λh=>jn (RO a) (!h)))))
def sE:=gZ SY C6 DZ ["ZhfTiA3eLF1offT3i2zOqzTE1ZMdyO4gYudDIZgYKKiL3T2gZ6A7410azTMc3hTzUUMctiv8qRFRH1j7","S6FDgJ65XJ1fHMByWE8H69BhBOTZoWJWwY1Sh7GOFI0Gutec4yGtkKrgC7rERIMuBRoazaLY3TeLnvn9","LGBC6qUFnDp60y7G"] [Ho] (Bo AAQ)
def UU(a:Bool):AA Bool:=some a
def RP(c:AY)(a:AU)(e:Int)(g:Bool):AA Bool:=br g (some L2) (br (a.State==1) (bd (Ew a.DO 0 (w64 (e+c.Rest))) λh=>br h (jn UU L1) (br (a.State==2) (bd (Ew a.DO 1 (w64 (e+c.B7))) λj=>jn UU j) (jn UU L2))) (br (a.State==2) (bd (Ew a.DO 1 (w64 (e+c.B7))) λq=>jn UU q) (jn UU L2)))
def PJ(c:AY)(a:AU)(e:Int)(q:Bool):AA Bool:=br q (some L2) (bd (Ew a.BL 1 c.BL) λy=>br (!y) (jn (RP c a e) L1) (bd (Ew a.DS 0 (w64 (c.Cd-1))) λB=>br (!B) (jn (RP c a e) L1) (bd (Ew a.Since 0 e) λg=>br (!g) (jn (RP c a e) L1) (bd (Ew a.A5 1 1000000) λh=>br (!h) (jn (RP c a e) L1) (bd (Ew a.Du 0 (w64 (c.Cl-1))) λj=>jn (RP c a e) (!j))))))
def AFT(c:AY)(a:AU)(e:Int):AA Bool:=bd (AAQ c) λy=>br (!y) (jn (PJ c a e) L1) (bd (Ew e 0 1000000) λg=>br (!g) (jn (PJ c a e) L1) (bd (Ew a.Id 1 999) λh=>br (!h) (jn (PJ c a e) L1) (bd (Ew a.AZ 0 (w64 ((↑c.AX.length:Int)-1))) λj=>br (!j) (jn (PJ c a e) L1) (bd (Ew a.B0 (-1) (w64 ((↑c.AX.length:Int)-1))) λq=>br (!q) (jn (PJ c a e) L1) (jn (PJ c a e) (a.B0==a.AZ))))))
def ADb:=gZ cB C6 Tc ["uGit7VZDzdBphbrKp6YdBknI0rE2AcBW2bQNucH5l27X7r4tWUxIpW90dlepM2JxIh5tY7W0igJx6lMt","SWOOgusThL5k2wxwaIEjDTFX0o3gdOR6L59p0GR4QB3JUNTJN32HM4mVoKLEmPZCbsj0mvUtEcOvyZTc","Z4dIYSmdfY2ZbSEyAfoS3QRxQLDJpQhDRxiykZLyjAy5B3bIHe19t90ai2YH8DouVJdLoaM3gV45L1dC","tLh9KmZFzaeyt6JQAkmphMDrzjEA3ZPSpkrEK4k8dglMEsL"] [sE,Ho] (GS AFT)
def PL(a:Int->AA Bool)(c:Int)(e:Bool):AA Bool:=br e (some L2) (a (w64 (c+1)))
def AIt(a:Int->AA Bool)(c:Int)(_:PUnit):=a (w64 (c+1))
def uc(q:AE)(j:Int->AA Bool)(h:Int)(c:AU)(g:Int->AA Bool)(a:Int):AA Bool:=br (It (a<h)) (bd (at? q.AG a) λe=>br (e.A5==c.A5) (jn (PL g a) L1) (br (It (e.A5<c.A5)) (br (It (e.Since>c.Since)) (jn (PL g a) L1) (br (It (e.A5>c.A5)) (jn (PL g a) (It (e.Since<c.Since))) (jn (PL g a) L2))) (br (It (e.A5>c.A5)) (jn (PL g a) (It (e.Since<c.Since))) (jn (PL g a) L2)))) (jn (AIt j h) ())
def UY(c:AE)(a:Int->AA Bool)(e:Int)(h:AU)(g:Bool):AA Bool:=br g (some L2) (A9 (uc c a e h) big 0)
def AIu(_:PUnit):AA Bool:=some L1
def ub(a:AE)(g:Int->AA Bool)(c:Int):AA Bool:=br (It (c<a.AG.length)) (bd (at? a.AG c) λe=>bd (AFT a.AQ e a.Now) λj=>br (!j) (jn (UY a g c e) L1) (br (It (e.A5>=a.A5)) (jn (UY a g c e) L1) (br (It (c>0)) (bd (at? a.AG (w64 (c-1))) λh=>jn (UY a g c e) (It (h.Id>=e.Id))) (jn (UY a g c e) L2)))) (jn AIu ())
def AW0(a:AE):AA Bool:=A9 (ub a) big 0
def AYW:=gZ YB C6 DZ ["1jWZGz24SGaYaS0EMtQYrhYsgRplYKo9LnliiJbeK20tXcR37FJBUcW0kbFVyVoL5AnvpdEw8SQjnj5V","9ZEMAhy7erc4pUZzXuTnVBxJUQaWNzhzr0wPEFG78IuF4LCJrqGjGAOB4peotxuxr4BXvxaZtnwkfr7d","ehewMU3bS17GixBSDryQcWMVzcFmDIzW9NE4h91mY45DB5EHnkeqFAz61qX0uBR0LuO0f6sbQpN5Unry","1dAevrAayu4J3Zf6RLITwNiL4Jp0BL14"] [ADb] (Bo AW0)
def AI6(_:PUnit):AA Bool:=some L2
def AI7(c:List Int)(g:Int)(e:Int->AA Bool)(a:Int):AA Bool:=br (It (a<c.length)) (bd (at? c a) λh=>br (h==g) (some L1) (e (w64 (a+1)))) (jn AI6 ())
def AMK(a:List Int)(c:Int):AA Bool:=A9 (AI7 a c) big 0
def AK1:=gZ sH C6 Cm ["CqtQA96oku1MDEL58xRGjP1GKjsCrkihME0WuWXhFiv"] [] (BA AMK)
def ud(a:Int->AA Bool)(c:Int)(e:Bool):AA Bool:=br e (some L2) (a (w64 (c+1)))
def AJJ(a:AE)(_:PUnit):AA Bool:=some ((↑a.BD.length:Int)==a.AQ.C7)
def uf(a:AE)(h:Int->AA Bool)(c:Int):AA Bool:=br (It (c<a.BD.length)) (bd (at? a.BD c) λe=>bd (Ew e (-1) (w64 ((↑a.AJ.length:Int)-1))) λg=>br (!g) (some L2) (h (w64 (c+1)))) (jn (AJJ a) ())
def dg(a:AE)(_:PUnit):AA Bool:=A9 (uf a) big 0
def ue(c:AE)(e:Int->AA Bool)(a:Int):AA Bool:=br (It (a<c.BF.length)) (bd (at? c.BF a) λg=>bd (Ew g 0 (w64 ((↑c.AJ.length:Int)-1))) λh=>br (!h) (jn (ud e a) L1) (gd (0<=a/\a<=c.BF.length) (bd (at? c.BF a) λj=>bd (AMK (an a.toNat c.BF) j) λq=>jn (ud e a) q))) (jn (dg c) ())
def AW1(a:AE):AA Bool:=A9 (ue a) big 0
def AYX:=gZ YB C6 DZ ["9AdFEII47e3RfakckQkQtbBYgaYCvb04yaxWRe56OocbedOtxvxKqbWoRjSJByyhpHnXCAunhKp4xFiO","WDxCnATjikyNYZapq1pw4XdoVeqDWOMWESl04glUFRibbFZQEb4GVDhl38ZvmBWS5jPQTkV5ukUMoSD"] [Ho,AK1] (Bo AW1)
def RQ(a:Bool):AA Bool:=some a
def AFU(a:BO):AA Bool:=bd (Ew a.Total 1 60) λc=>br c (bd (Ew a.D7 0 a.Total) λe=>br e (bd (Ew a.FQ 0 a.Total) λg=>br g (bd (Ew a.GB 0 a.Total) λh=>br h (br (w64 (w64 (a.D7+a.FQ)+a.GB)==a.Total) (bd (Ew a.Gb 0 a.GB) λj=>jn RQ j) (jn RQ L2)) (jn RQ L2)) (jn RQ L2)) (jn RQ L2)) (jn RQ L2)
def AK2:=gZ [.v (.st 3)] C6 DZ ["ZUXP5sIxiWArb79cqvmVWYvka4Kic2og5EpTI93To13FF5oE4ybPMTQ2vZQoJEEygKjPOoczPmBr13g8","3yIvCLMmuphqXJDTudOp41VOlhtJZzB"] [Ho] (Bo AFU)
def dh(a:Bool):AA Bool:=some a
def APb(a c:A2):AA Bool:=br (It (a.Level<c.Level)) (jn dh L1) (br (a.Level==c.Level) (jn dh (It (a.A5<c.A5))) (jn dh L2))
def ARo:=gZ ATK C6 Cm ["hYQw9SH8Kji13JuDpMrem5pW3faKnHa8WAAT8hFoR2Kqx5rJ4n"] [] (BA APb)
def AJx(_:PUnit):AA Int:=some (-1)
def AJy(c:List A2)(g:Int)(e:Int->AA Int)(a:Int):AA Int:=br (It (a<c.length)) (bd (at? c a) λh=>br (h.Id==g) (some a) (e (w64 (a+1)))) (jn AJx ())
def AML(a:List A2)(c:Int):AA Int:=A9 (AJy a c) big 0
def AR7:=gZ AGn DQ Cm ["UO4bio8cMrlkMXrioI4TkHQAd9HxM1diRJIIXJ1Hd3B62cgg"] [] (BA AML)
def Xr(a:Int->AA Bool)(c:Int)(e:Bool):AA Bool:=br e (some L2) (a (w64 (c+1)))
def Ua(e:List A2)(c:Int->AA Bool)(a:Int)(h:A2)(j:Bool):AA Bool:=br j (some L2) (br (It (a>0)) (bd (at? e (w64 (a-1))) λq=>bd (APb q h) λy=>br (!y) (jn (Xr c a) L1) (bd (AML e h.Id) λB=>jn (Xr c a) (B != a))) (bd (AML e h.Id) λg=>jn (Xr c a) (g != a)))
def AKM(_:PUnit):AA Bool:=some L1
def ug(c:List A2)(g:Int->AA Bool)(e:Int):AA Bool:=br (It (e<c.length)) (bd (at? c e) λa=>bd (Ew a.Level 0 4) λy=>br (!y) (jn (Ua c g e a) L1) (bd (Ew a.A5 1 1000000) λh=>br (!h) (jn (Ua c g e a) L1) (bd (Ew a.Id 1 999) λj=>br (!j) (jn (Ua c g e a) L1) (bd (Ew a.BL 1 6) λq=>jn (Ua c g e a) (!q))))) (jn AKM ())
def AW2(a:List A2):AA Bool:=br (It ((↑a.length:Int)>10)) (some L2) (A9 (ug a) big 0)
def AYY:=gZ xB C6 DZ ["34JeiCVdLvZy9dfDsWSs1TsZbbBJEzEbYu1fCB4ZRKWljxtu0wk5M3EkonrcWTTUHJ6KtuQEiKDJLUVi","x8PRiuSUpCmKVaACm2pgfbWUQbNQ8779qoTJU89yDAo5xudrJqYyO9w1PdQv42oaEMlBxKjhC0qAUbbs","XlzFfPo1Dwzahh5ERyrI84kDsZJgA"] [Ho,ARo,AR7] (Bo AW2)
def AKa(a:List Bf):AA (List Bf):=some a
def AKb(e:A3)(h:List Bf×Int->AA (List Bf))(j:List Bf×Int):AA (List Bf):=let (a,c):=j;br (It (c<e.Aw.length)) (bd (at? e.Aw c) λg=>gd (g0 a+g0 g<=lim) (h (a++g,w64 (c+1)))) (jn AKa a)
def APt(a:A3):AA (List Bf):=A9 (AKb a) big ([],0)
def AS2:=gZ Zq Zz DZ ["GDY5u5Uf3HVyjRg4wN8ROvWGNX1q6XPDgav39xfgeCn2R1ISi3EHTyk7W1i9"] [] (Bo APt)
def di(a:Bool):AA Bool:=some a
def APu(a c:Bf):AA Bool:=br (It (a.At<c.At)) (jn di L1) (br (a.At==c.At) (jn di (It (a.Id<c.Id))) (jn di L2))
def AS3:=gZ [.v (.st 5),.v (.st 5)] C6 Cm ["hYQw9SH8Kji13JuDpMrem5pW3faKnHa8WAAT8hFoR2Kqx5rJ4n"] [] (BA APu)
def AKc(a:Int->AA Bool)(c:Int)(_:PUnit):=a (w64 (c+1))
def ui(e:List Bf)(j:Int->AA Bool)(c:Int)(q:Int->AA Bool)(a:Int):AA Bool:=br (It (a<c)) (bd (at? e a) λy=>bd (at? e a) λg=>bd (at? e c) λB=>bd (at? e c) λh=>br (g.Id==h.Id) (some L2) (q (w64 (a+1)))) (jn (AKc j c) ())
def dk(g:List Bf)(a:Int->AA Bool)(c:Int)(e:Bool):AA Bool:=br e (some L2) (A9 (ui g a c) big 0)
def dn(a:Int->AA Bool)(c:Int)(e:Bool):AA Bool:=br e (some L2) (a (w64 (c+1)))
def ADF(a:Int->AA Bool)(c:Int)(_:PUnit):=a (w64 (c+1))
def uk(g:A3)(h:Int->AA Bool)(c:Int)(e:Int->AA Bool)(a:Int):AA Bool:=bd (at? g.Aw c) λj=>br (It (a<(g0 j))) (bd (at? g.Aw c) λq=>bd (at? q a) λy=>br (y.At.tmod 9 != c) (jn (dn e a) L1) (br (It (a>0)) (bd (at? g.Aw c) λB=>bd (at? B (w64 (a-1))) λE=>bd (at? g.Aw c) λG=>bd (at? G a) λH=>bd (APu E H) λI=>jn (dn e a) (!I)) (jn (dn e a) L2))) (jn (ADF h c) ())
def ADG(_:PUnit):AA Bool:=some L1
def uj(e:A3)(c:Int->AA Bool)(a:Int):AA Bool:=br (It (a<e.Aw.length)) (A9 (uk e c a) big 0) (jn ADG ())
def dm(a:A3)(_:PUnit):AA Bool:=A9 (uj a) big 0
def uh(j:A3)(c:List Bf)(h:Int->AA Bool)(a:Int):AA Bool:=br (It (a<(g0 c))) (bd (at? c a) λE=>bd (at? c a) λy=>bd (Ew y.At 1 1000008) λB=>br (!B) (jn (dk c h a) L1) (bd (at? c a) λq=>bd (at? c a) λe=>bd (Ew e.Id 1 999) λg=>jn (dk c h a) (!g))) (jn (dm j) ())
def dj(a:A3)(e:List Bf)(c:Bool):AA Bool:=br c (some L2) (A9 (uh a e) big 0)
def o6(a:A3):AA Bool:=bd (APt a) λc=>br ((↑a.Aw.length:Int) != 9) (jn (dj a c) L1) (jn (dj a c) (It ((↑(g0 c):Int)>10)))
def sF:=gZ Zq C6 DZ ["5s6ApOszr74jfK3exwMQucbPvewORSKK85fW8wbvYn4IllKCuGbQQ0Gdnrnf9TylA1Fzqz3mIHai7R8o","CGK7cbDKjYuob15lKyn2nIkzwEl0ZSNyz2r5Gzse38GacFgiO6BRsrCJFhoCZ5j5VVwl2EPcOaB3uztD","yf7rTm40Ch3Iu3TdnuA5X6b3ChR3BCsk8IOb0otn4MKMW6E8hhSLvWMn1Z9e2o65YaBZc6QchJlyGhvu","iHM3OL3cYuSlGiDRtf4KUVuziA8STKZj6zurYvimRD5kQiy5m8cFY2ogqgn8F3sdSTS4QQ68ro8N47gs","JlnuvQjMob0GeuzRv3U2GARWWdrfQyxEI"] [AS2,Ho,AS3] (Bo o6)
def dp(a:Bool):AA Bool:=some a
def AMM(a:Ah):AA Bool:=bd (AFU a.AX) λc=>br c (bd (AW2 a.Row) λe=>br e (bd (o6 a.B6) λg=>jn dp g) (jn dp L2)) (jn dp L2)
def AS4:=gZ xC C6 DZ ["1YEOGFk22P9vTQNmSt9sEGLDAkUsrUb8tS"] [AK2,AYY,sF] (Bo AMM)
def O6(a c:Int):AA Int:=br (It (a>c)) (some a) (some c)
def l9:=gZ xD DQ Cm ["1iEKVuZqbKHVAtqfg8BPhQ"] [] (BA O6)
def AW3(a:AY)(c e:Int):AA Int:=gd (a.CK≠0) (bd (O6 0 (w64 (c-w64 (e.tdiv a.CK)))) λg=>some g)
def AYZ:=gZ [.v (.st 1),.v .i,.v .i] DQ Tc ["61lAUxVL9g7s6v6e3VlK7W"] [l9] (GS AW3)
def AW4(c:AY)(a:AU)(e:Int):AA Int:=bd (AFT c a e) λg=>br (!g) (some (-1)) (bd (AW3 c a.DS (w64 (e-a.Since))) λh=>some h)
def AYa:=gZ cB DQ Tc ["WUQujGbmFUt3uAojQeSBapM0eOcU8zP4MjXgteOZ2iv"] [ADb,AYZ] (GS AW4)
def um(a:AU)(e:Int)(c:Bool):AA (A2×Bool):=br c (some (A2.mk 0 0 0 0,L2)) (some (A2.mk e a.A5 a.Id a.BL,L1))
def AMN(e:AY)(a:AU)(g:Int):AA (A2×Bool):=bd (AW4 e a g) λc=>br (It (c<0)) (jn (um a c) L1) (jn (um a c) (a.State != 1))
def AS5:=gZ cB (.ret [(.st 4),.b]) [.cell 6 (some 4),.tmp 7] ["tE2INJp318R6vFPq37Snfb8bW5HX0iHJKBGPC63l6Q0phaVbhilcRmp0TUTbYlAImWI9o8Xncpf"] [AYa] (GS AMN)
def uo(a:List A2):AA (List A2):=gd (0+a.length<=lim) (some ([]++a))
def AK3:=gZ xB xJ DZ ["4dQgmkc77kXa3Nzl"] [] (Bo uo)
def uq(c:List A2)(e:A2)(a:Int):AA (List A2):=gd (0<=a/\a<=c.length) (bd (uo (an a.toNat c)) λg=>gd (g0 g+[e].length<=lim) (bd (uo (an a.toNat c)) λh=>gd (g0 h+[e].length<=lim) (eqv (g++[e]) (h++[e]) (gd (0<=a/\a<=c.length) (gd ((g++[e]).length+(n6 a.toNat c).length<=lim) (some (g++[e]++n6 a.toNat c)))))))
def dq(e:List A2)(g:A2)(c:Int->AA (List A2))(a:Int)(h:Bool):AA (List A2):=br h (c (w64 (a+1))) (jn (uq e g) a)
def ur(a:List A2)(e:A2)(g:Int->AA (List A2))(c:Int):AA (List A2):=br (It (c<a.length)) (bd (at? a c) λh=>bd (APb h e) λj=>jn (dq a e g c) j) (jn (dq a e g c) L2)
def AFV(a:List A2)(c:A2):AA (List A2):=A9 (ur a c) big 0
def AS6:=gZ ATB xJ Cm ["3xxn2nE2I8a4Zq07SSf0PY3RBo89RfQ9qEdveslzQZ94mpYUyz1VDcKhztlkBBPkzUyrIuktqXNZpG8H","ALqkX5a2abQr2XFWtiCLhyWt1eqB0E9SbE21wtqMz1f"] [ARo,AK3] (BA AFV)
def uw(c:List A2×Int->AA (List A2))(e:Int)(a:List A2):=c (a,w64 (e-1))
def uu(a:List A2×Int->AA (List A2))(c:List A2)(e:Int)(h:A2×Bool)(g:Bool):AA (List A2):=br g (bd (AFV c h.1) λj=>jn (uw a e) j) (jn (uw a e) c)
def AKd(a:List A2):AA (List A2):=some a
def AKe(h:AY)(j:List AU)(E q:Int)(g:List A2×Int->AA (List A2))(H:List A2×Int):AA (List A2):=let (e,a):=H;br (It (a>=0)) (bd (at? j a) λy=>bd (AMN h y q) λc=>bd (AMN h y q) λB=>eqv c.2 B.2 (zQ c.1 B.1 (br c.2 (bd (at? j a) λG=>jn (uu g e a c) (G.AZ==E)) (jn (uu g e a c) L2)))) (jn AKd e)
def AMO(c:AY)(a:List AU)(e g:Int):AA (List A2):=A9 (AKe c a e g) big ([],w64 ((↑a.length:Int)-1))
def AK4:=gZ [.v (.st 1),.v (.l (.st 2)),.v .i,.v .i] xJ [.tmp 8] ["54SbtY3Hm6IbiQ2DBvB252NQ28CXQIpd31RD9ARuf96ppvA4t6POT1iUNgIHHMpUauKXXsvGjrmBHDid","3UYJVS9nh6ElsuZsbRC1L8Sm8YNr14H8unzTTPmyvmqz33Gr7jf6s5pc72wceODFtXVMnUsenXcqJuIi","DyOjJTxOCWo7s33vJNrF"] [AS5,AS6] (WN AMO)
def AKf(_:PUnit):AA Bool:=some L1
def ux(g j:List A2)(h:Int->AA Bool)(a:Int):AA Bool:=br (It (a<g.length)) (bd (at? g a) λc=>bd (at? j a) λe=>br (!(c.Level==e.Level&&(c.A5==e.A5&&(c.Id==e.Id&&(c.BL==e.BL&&L1))))) (some L2) (h (w64 (a+1)))) (jn AKf ())
def APv(a c:List A2):AA Bool:=br ((↑a.length:Int) != c.length) (some L2) (A9 (ux a c) big 0)
def AS7:=gZ ATC C6 Cm ["6WJrHVvNUgFTQKWINmvsuzfurV1iBU27YNzttO375MtfN6lp6y4W74u3mniTrUTSbR"] [] (BA APv)
def uy(c:List Bf)(e:Bf)(a:Int):AA (List Bf):=gd (0<=a/\a<=c.length) (gd (0+(an a.toNat c).length<=lim) (gd (([]++an a.toNat c).length+[e].length<=lim) (gd (0<=a/\a<=c.length) (gd (([]++an a.toNat c++[e]).length+(n6 a.toNat c).length<=lim) (some ([]++an a.toNat c++[e]++n6 a.toNat c))))))
def dt(e:List Bf)(g:Bf)(c:Int->AA (List Bf))(a:Int)(h:Bool):AA (List Bf):=br h (c (w64 (a+1))) (jn (uy e g) a)
def uz(a:List Bf)(e:Bf)(g:Int->AA (List Bf))(c:Int):AA (List Bf):=br (It (c<a.length)) (bd (at? a c) λh=>bd (APu h e) λj=>jn (dt a e g c) j) (jn (dt a e g c) L2)
def AMP(a:List Bf)(c:Bf):AA (List Bf):=A9 (uz a c) big 0
def AK5:=gZ ATD Zz Cm ["2kf8x6pTRO8B1XkLh5eZvhJuDjs7kIi4rS8Lr5uoGtuEW7iEOHSwunCTGz2IVIBv1jTs8lum6SqNq6HS","i68jQMRnt6oXH"] [AS3] (BA AMP)
def AKg(a:List Bf):AA (List Bf):=some a
def vA(c:List Bf)(g:List Bf×Int->AA (List Bf))(q:List Bf×Int):AA (List Bf):=let (e,a):=q;br (It (a<(g0 c))) (bd (at? c a) λy=>bd (at? c a) λh=>bd (AMP e h) λj=>g (j,w64 (a+1))) (jn AKg e)
def AFW(a:A3):AA (List Bf):=bd (o6 a) λc=>br (!c) (some []) (bd (APt a) λe=>A9 (vA e) big ([],0))
def AK6:=gZ Zq Zz DZ ["Ax2Yamw7jH07i0THyXMZ4dUntRwf4QFDKgo0mAQz8u2r1XsgIIM7a31O76de0Mo9MQgrA0lcpvA2Xq8"] [sF,AS2,AK5] (Bo AFW)
def vC(c:List Bf×Int->AA (List Bf))(e:Int)(a:List Bf):=c (a,w64 (e+1))
def vB(e:List AU)(c:List Bf×Int->AA (List Bf))(g:List Bf)(a:Int)(h:Bool):AA (List Bf):=br h (bd (at? e a) λj=>bd (at? e a) λq=>bd (AMP g (Bf.mk j.DO q.Id)) λy=>jn (vC c a) y) (jn (vC c a) g)
def AKh(a:List Bf):AA (List Bf):=some a
def vD(a:List AU)(h:Int)(g:List Bf×Int->AA (List Bf))(y:List Bf×Int):AA (List Bf):=let (e,c):=y;br (It (c<a.length)) (bd (at? a c) λj=>br (j.State==2) (bd (at? a c) λq=>jn (vB a g e c) (q.AZ==h)) (jn (vB a g e c) L2)) (jn AKh e)
def APw(a:List AU)(c:Int):AA (List Bf):=A9 (vD a c) big ([],0)
def AS8:=gZ Po Zz Cm ["1PaCqHYxK2fdSTUgEvTdL9pvXPpZyxTSqu69MKqJ15VEZornNhC0BBHd3DDTVLPRdIDxdTCn3BUA76wu","57imIJyPUDMr4uopibqGHW0UHYDALIQgCx8KMb"] [AK5] (BA APw)
def AKi(_:PUnit):AA Bool:=some L1
def vE(c j:List Bf)(h:Int->AA Bool)(a:Int):AA Bool:=br (It (a<c.length)) (bd (at? c a) λe=>bd (at? j a) λg=>br (!(e.At==g.At&&(e.Id==g.Id&&L1))) (some L2) (h (w64 (a+1)))) (jn AKi ())
def APx(a c:List Bf):AA Bool:=br ((↑a.length:Int) != c.length) (some L2) (A9 (vE a c) big 0)
def AS9:=gZ ATE C6 Cm ["MP4EzFuU1DKgQOf9OlqTXqgVa7nMF1AvwKE0Q3z6XTUVosWx2UKNGmrSEP0sypKHo"] [] (BA APx)
def uN(c:Int×Int->AA Int)(e a:Int):=c (a,w64 (e+1))
def dZ(g:List AU)(c:Int×Int->AA Int)(e a:Int)(h:Bool):AA Int:=br h (bd (at? g a) λj=>jn (uN c a) (w64 (e+j.BL))) (jn (uN c a) e)
def AIa(a:Int):AA Int:=some a
def uO(a:List AU)(h:Int)(g:Int×Int->AA Int)(E:Int×Int):AA Int:=let (e,c):=E;br (It (c<a.length)) (bd (at? a c) λj=>br (j.State==2) (bd (at? a c) λq=>br (q.AZ==h) (bd (at? a c) λy=>bd (Ew y.BL 1 6) λB=>jn (dZ a g e c) B) (jn (dZ a g e c) L2)) (jn (dZ a g e c) L2)) (jn AIa e)
def APF(a:List AU)(c:Int):AA Int:=A9 (uO a c) big (0,0)
def AQH:=gZ Po DQ Cm ["3IY9U0XaJI7mCQ2srMUIZqWoMHNUhGA7ayphAY4e8tUu0dGZc8uyo9Ots6AiPMoxzKCF6Pr3kUtHK6zp","hFhYlzT13yPcac18oZ613FVNBujkrM8CT878iw"] [Ho] (BA APF)
def uQ(a:Int×Int->AA Int)(c e:Int):=a (e,w64 (c+1))
def uP(g:List AU)(c:Int×Int->AA Int)(e a:Int)(h:Bool):AA Int:=br h (bd (at? g a) λj=>jn (uQ c a) (w64 (e+j.BL))) (jn (uQ c a) e)
def AIb(a:Int):AA Int:=some a
def uR(a:List AU)(h:Int)(g:Int×Int->AA Int)(B:Int×Int):AA Int:=let (e,c):=B;br (It (c<a.length)) (bd (at? a c) λj=>br (j.B0==h) (bd (at? a c) λq=>bd (Ew q.BL 1 6) λy=>jn (uP a g e c) y) (jn (uP a g e c) L2)) (jn AIb e)
def AMF(a:List AU)(c:Int):AA Int:=A9 (uR a c) big (0,0)
def AQI:=gZ Po DQ Cm ["3DhvFxMfU07eicKoiFPv0QdXjdTgSr1DEsSJZohv7k48AcxAZ0s9WVF6QeMkvlMTB95qXlA1tKi2fC59","bc6Suv9XANmlrr6"] [Ho] (BA AMF)
def UQ(a:Bool):AA Bool:=some a
def AWz(g:AY)(a:Ah)(c:List AU)(e h:Int):AA Bool:=bd (AMM a) λj=>br j (bd (AMO g c e h) λq=>bd (APv a.Row q) λy=>br y (bd (AFW a.B6) λB=>bd (APw c e) λE=>bd (APx B E) λG=>br G (bd (APF c e) λH=>br (a.AX.FQ==H) (bd (AMF c e) λI=>jn UQ (a.AX.Gb==I)) (jn UQ L2)) (jn UQ L2)) (jn UQ L2)) (jn UQ L2)
def AYU:=gZ ATF C6 [.tmp 10] ["EtCrFgNWTYCGvjt9Iy7xQVPJrQY6DvyqoOLDAwacxAOoHmjd3oMxXSf1GVCql7uMXDaRCqvCFvHQOtnu","XwAoYBfVqICh641fc8c8MMeTRfUfBy7VavvMyqAp5VV0wmK6Pmcz1T4yFNuq0l6"] [AS4,AK4,AS7,AK6,AS8,AS9,AQH,AQI] (AWM AWz)
def uS(a:Int×Int->AA Int)(c e:Int):=a (e,w64 (c+1))
def AIc(a:Int):AA Int:=some a
def uU(g:List AU)(h:Int)(e:Int×Int->AA Int)(q:Int×Int):AA Int:=let (c,a):=q;br (It (a<g.length)) (bd (at? g a) λj=>br (j.AZ==h) (jn (uS e a) (w64 (c+1))) (jn (uS e a) c)) (jn AIc c)
def AMG(a:List AU)(c:Int):AA Int:=A9 (uU a c) big (0,0)
def AKz:=gZ Po DQ Cm ["3OhenmfxrkrghvUoHmv9wN9g7sbaMviE2jpC5IcT1utGDmkesuCF7x1lDY"] [] (BA AMG)
def Wf(a:Int->AA Bool)(c:Int)(e:Bool):AA Bool:=br e (some L2) (a (w64 (c+1)))
def AId(_:PUnit):AA Bool:=some L1
def uV(a:AE)(e:Int->AA Bool)(c:Int):AA Bool:=br (It (c<a.AJ.length)) (bd (at? a.AJ c) λq=>bd (at? a.AQ.AX c) λy=>br (q.AX.Total != y) (jn (Wf e c) L1) (bd (at? a.AJ c) λg=>bd (AWz a.AQ g a.AG c a.Now) λh=>br (!h) (jn (Wf e c) L1) (bd (AMG a.AG c) λj=>jn (Wf e c) (It (j>a.AQ.Room))))) (jn AId ())
def da(a:AE)(c:Bool):AA Bool:=br c (some L2) (A9 (uV a) big 0)
def PI(a:AE)(e:Bool):AA Bool:=br e (some L2) (bd (AW0 a) λg=>br (!g) (jn (da a) L1) (bd (AW1 a) λc=>jn (da a) (!c)))
def fL(a:AE):AA Bool:=bd (AAQ a.AQ) λg=>br (!g) (jn (PI a) L1) (bd (Ew a.Now 0 1000000) λc=>br (!c) (jn (PI a) L1) (bd (Ew a.A5 1 1000001) λe=>br (!e) (jn (PI a) L1) (br (It ((↑a.AG.length:Int)>40)) (jn (PI a) L1) (jn (PI a) ((↑a.AJ.length:Int) != a.AQ.AX.length)))))
def bz:=gZ YB C6 DZ ["W01Gsj0OWQyN93iSfGN3XqxuScyCVaHMzv2gju8wxL1HTukuyu7sN02FRdJB6Dn1kTmF7OKt9BgijvSu","eihHf3KoSRcOGcPi1LffLBRSfHbwC6QQcCfqHcmAq65VOExqo1hTixurrvDwQmukcuCzktSzwqgcROqm","ypFb00UCT4N61YkvTsNQYvmyPrdhRRZEa7tm4tOwx4VwoiRjFIYWtfBnSkqh7fVOcT7D8H3iQEwJWTsJ","WkizKi4pi5HPRAh6n1FPfrdGebHgpOQT2JBV"] [sE,Ho,AYW,AYX,AYU,AKz] (Bo fL)
def uW(a:Bool):AA Bool:=some a
def dK(a:Bp):AA Bool:=br (It ((↑a.Data.length:Int)<=20000)) (bd (Ew a.Safe 0 (↑a.Data.length:Int)) λc=>jn uW c) (jn uW L2)
def cA:=gZ mA C6 DZ ["RODQb8ALngqDpcl0fpTxjGs732zWOw3dRUQf"] [Ho] (Bo dK)
def db(a:Bool):AA Bool:=some a
def AMH(a:Bj):AA Bool:=bd (dK a.Log) λc=>br c (bd (dK a.Ec) λe=>br e (bd (dK a.Odd) λg=>jn db g) (jn db L2)) (jn db L2)
def AK0:=gZ NC C6 DZ ["MNXx5VPc0hG2iHP6SGLnPfI6DTU9PNwlr"] [cA] (Bo AMH)
def dL(a:Int):AA Bool:=bd (Ew a 0 9999) λc=>some c
def AYV:=gZ Pp C6 DZ ["5vyhvRQgGFHweZ"] [Ho] (Bo dL)
def I8(a:Bool):AA Bool:=some a
def UR(a:Bq)(e:Bool):AA Bool:=br e (bd (dL a.Id) λg=>br g (jn I8 (a.Kind==a.Kind&&(a.Id==a.Id&&(a.AZ==0&&(a.B0==0&&(a.BL==0&&(a.DS==0&&L1))))))) (jn I8 L2)) (br (a.Kind==3) (bd (dL a.AZ) λh=>br h (bd (dL a.BL) λc=>br c (jn I8 (a.Kind==a.Kind&&(a.Id==0&&(a.AZ==a.AZ&&(a.B0==0&&(a.BL==a.BL&&(a.DS==0&&L1))))))) (jn I8 L2)) (jn I8 L2)) (br (a.Kind==6) (some (a.Kind==a.Kind&&(a.Id==0&&(a.AZ==0&&(a.B0==0&&(a.BL==0&&(a.DS==0&&L1))))))) (some L2)))
def uX(a:Bq):AA Bool:=br (a.Kind==1) (bd (dL a.Id) λc=>br c (bd (dL a.AZ) λe=>br e (bd (Ew a.B0 (-1) 9999) λg=>br g (bd (dL a.BL) λh=>br h (bd (dL a.DS) λj=>jn I8 j) (jn I8 L2)) (jn I8 L2)) (jn I8 L2)) (jn I8 L2)) (br (a.Kind==2) (jn (UR a) (a.Kind==2)) (br (a.Kind==4) (jn (UR a) (a.Kind==4)) (br (a.Kind==5) (jn (UR a) (a.Kind==5)) (jn (UR a) (a.Kind==7)))))
def ADa:=gZ [.v (.st 0)] C6 DZ ["LRhBSnCf1mAp2Uh3ZidmyeHbL3LvoHZfN8f71Miei06mdrc4ETq34j6AAm3mLRI6wZZSDucqVA0jmSsP","dc7uWH9blb6s4C2CFSQ1yPxlzVOefrdTIz8BhVTXH4a3WrDyzJRe6tywXEPIDIx1NFR2LQTDlew1n8Vm","wSFCyhyU9DAorJIJtyWAjDAcB7DqOCyfVOLHdsz8YN4uz5CmLxgylsBoanrMdkiEccyOk2KtHp6wDNGB","CJDVLorie59eA44DMWYezwznVX"] [AYV,Ho] (Bo uX)
def AIe(_:PUnit):AA Bool:=some L1
def uZ(c:Az)(e:Int->AA Bool)(a:Int):AA Bool:=br (It (a<c.Laid.length)) (bd (at? c.Laid a) λg=>bd (uX g) λh=>br (!h) (some L2) (e (w64 (a+1)))) (jn AIe ())
def US(a:Az)(c:Bool):AA Bool:=br c (some L2) (A9 (uZ a) big 0)
def uY(a:Az):AA Bool:=bd (fL a.Ax) λc=>br (!c) (jn (US a) L1) (bd (AMH a.Aq) λe=>br (!e) (jn (US a) L1) (br (It ((↑a.Laid.length:Int)>8)) (jn (US a) L1) (bd (Ew a.Seq (↑a.Laid.length:Int) 1000000) λg=>jn (US a) (!g))))
def lU:=gZ Zr C6 DZ ["GwtsLZUO0gUQCsT2vx1h2mpHxvtNKaiqkXTPV35Rhen9leDpAwdk0jtyqHH3K75vz4FM1PNeWNgnTYnO","tL4xN92HxQh6V4FLT1Vhy2xZos4Njnk"] [bz,AK0,Ho,ADa] (Bo uY)
def Wj(a:Bool):AA Bool:=some a
def DN(a c e:Int):AA Bool:=br (It (a>=c)) (jn Wj (It (a<=e))) (jn Wj L2)
def FN:=gZ ATA C6 Tc ["yWjtmn1zSgkHqYNryA3oD4lb"] [] (GS DN)
def LA(a:Bool):AA Bool:=some a
def AAX(a:AY)(_:PUnit):AA Bool:=bd (DN a.Cd 1 5) λj=>br j (bd (DN a.Room 1 10) λq=>br q (bd (DN a.BL 1 6) λy=>br y (bd (DN a.CK 1 12) λB=>br B (bd (DN a.B7 1 8) λc=>br c (bd (DN a.Cl 1 4) λe=>br e (bd (DN a.C7 1 3) λg=>br g (bd (DN a.Rest 0 8) λh=>jn LA h) (jn LA L2)) (jn LA L2)) (jn LA L2)) (jn LA L2)) (jn LA L2)) (jn LA L2)) (jn LA L2)
def fR(a:AY)(e:Int->AA Bool)(c:Int):AA Bool:=br (It (c<a.AX.length)) (bd (at? a.AX c) λg=>bd (DN g 1 60) λh=>br (!h) (some L2) (e (w64 (c+1)))) (jn (AAX a) ())
def Wk(a:AY):AA Bool:=bd (DN (↑a.AX.length:Int) 1 4) λc=>br (!c) (some L2) (A9 (fR a) big 0)
def Vq:=gZ SY C6 DZ ["4uB8XblgXsOaVKEp11haXKUBD2oKkQIkrNenk0wE1HHqmz6bGVXWVexkZflYnLpcRNgwExMWaG4tYdG9","oXDg1OaeGgl9Bu8zeTA89L3TaJ8SM1djRIwumLLaAvoJi9Xr6ZcIeKgWA8CP0DZgVIIosdZlt5z8FxUW","A71LEG2KpTqO"] [FN] (Bo Wk)
def NS(a c:Int):AA Bool:=bd (DN a 0 (w64 (c-1))) λe=>some e
def Rb:=gZ xD C6 Cm ["OkY9qOnV4CdlJGD"] [FN] (BA NS)
def QI(a:Bool):AA Bool:=some a
def OP(c:AY)(a:AU)(e:Int)(g:Bool):AA Bool:=br g (some L2) (br (a.State==1) (bd (DN a.DO 0 (w64 (e+c.Rest))) λh=>br h (jn QI L1) (br (a.State==2) (bd (DN a.DO 1 (w64 (e+c.B7))) λj=>jn QI j) (jn QI L2))) (br (a.State==2) (bd (DN a.DO 1 (w64 (e+c.B7))) λq=>jn QI q) (jn QI L2)))
def Mh(c:AY)(a:AU)(e:Int)(q:Bool):AA Bool:=br q (some L2) (bd (DN a.BL 1 c.BL) λy=>br (!y) (jn (OP c a e) L1) (bd (NS a.DS c.Cd) λB=>br (!B) (jn (OP c a e) L1) (bd (DN a.Since 0 e) λg=>br (!g) (jn (OP c a e) L1) (bd (DN a.A5 1 1000000) λh=>br (!h) (jn (OP c a e) L1) (bd (NS a.Du c.Cl) λj=>jn (OP c a e) (!j))))))
def fS(c:AY)(a:AU)(e:Int):AA Bool:=bd (Wk c) λy=>br (!y) (jn (Mh c a e) L1) (bd (DN e 0 1000000) λg=>br (!g) (jn (Mh c a e) L1) (bd (DN a.Id 1 999) λh=>br (!h) (jn (Mh c a e) L1) (bd (NS a.AZ (↑c.AX.length:Int)) λj=>br (!j) (jn (Mh c a e) L1) (bd (DN a.B0 (-1) (w64 ((↑c.AX.length:Int)-1))) λq=>br (!q) (jn (Mh c a e) L1) (jn (Mh c a e) (a.B0==a.AZ))))))
def lV:=gZ cB C6 Tc ["Mfx82CgOR26sVAGgReMhcDpcDHgDBwBCIsouYOit0Us2v7fJZVkbkt1YFTR4mwp2ygLFxOO4eCvtRLHo","KNveEWVorGl0j0SjmFVe30wm3Inyr4bGxcjcrh4mN8gFkwAWHFFrpGfTSbelOgocYiFpJFr9mS644SQJ","d1J1e10mlMJ3mkPeOGPNqx8lfytXMymsQrwjHAWx3X5jVmS6g1fAB80aGlgjaZACQ67LwFFUTH6boDVP","EERP2DIG1kdYQvnYYuLXaA3S9WRwHkwQJ"] [Vq,FN,Rb] (GS fS)
def fT(a:Int×Int->AA Int)(c e:Int):=a (e,w64 (c+1))
def AAY(a:Int):AA Int:=some a
def fU(g:List AU)(h:Int)(e:Int×Int->AA Int)(q:Int×Int):AA Int:=let (c,a):=q;br (It (a<g.length)) (bd (at? g a) λj=>br (j.AZ==h) (jn (fT e a) (w64 (c+1))) (jn (fT e a) c)) (jn AAY c)
def pk(a:List AU)(c:Int):AA Int:=A9 (fU a c) big (0,0)
def vV:=gZ Po DQ Cm ["AH5vuUGS8LNCtGo6EArR1Xcou9Vn133njfKNyjykTaW5gCv0sNtXhz2LBb1cBQq5ZSQh"] [] (BA pk)
def OQ(a:Bool):AA Bool:=some a
def Mi(a:BO):AA Bool:=bd (DN a.Total 1 60) λc=>br c (bd (DN a.D7 0 a.Total) λe=>br e (bd (DN a.FQ 0 a.Total) λg=>br g (bd (DN a.GB 0 a.Total) λh=>br h (br (w64 (w64 (a.D7+a.FQ)+a.GB)==a.Total) (bd (DN a.Gb 0 a.GB) λj=>jn OQ j) (jn OQ L2)) (jn OQ L2)) (jn OQ L2)) (jn OQ L2)) (jn OQ L2)
def Rc:=gZ [.v (.st 3)] C6 DZ ["ZUXP5sIxiWArb79cqvmVWYvka4Kic2og5EpTI93To13FF5oE4ybPMTQ2vZQoJEEygKjPOoczPmBr13g8","3yIvCLMmuphqXJDTudOp41VOlhtJZzB"] [FN] (Bo Mi)
def AIi(a:Int):AA Bool:=some (a != a)
def AQO:=gZ Pp C6 DZ ["27q1B345eyaJ"] [] (Bo AIi)
def fV(a c:Int):AA Int:=bd (AIi a) λg=>bd (AIi c) λe=>br g (br e (some 0) (some (-1))) (br e (some 1) (br (It (a<c)) (some (-1)) (br (It (a>c)) (some 1) (some 0))))
def AFd:=gZ xD DQ Cm ["1yi8Lz5W7X4W2y7Nxc4MvkPG3B3LBbNMXVYfy0SQ64MUGdTonDdmj5hr1Vt0R5q10"] [AQO] (BA fV)
def U8(a c:A2):AA Int:=bd (fV a.Level c.Level) λe=>br (e != 0) (some e) (bd (fV a.A5 c.A5) λg=>some g)
def KB:=gZ ATK DQ Cm ["4QrJ0qMdVk7eoCmwRVNEzmo8GJzyENEj4plkII"] [AFd] (BA U8)
def AAZ(a c:A2):AA Bool:=bd (U8 a c) λe=>some (It (e<0))
def AFe:=gZ ATK C6 Cm ["bVuP8iUw49QCGCi60W5"] [KB] (BA AAZ)
def API(a:A2)(c:Int):AA Bool:=some (a.Id==c)
def vW:=gZ [.v (.st 4),.p .i] C6 [.tmp 3] ["Qlb8VOaVtghLxvC"] [] (BA API)
def AbP:YF:=⟨[vW],[.v (.l (.st 4)),.f vW.x [(true,.i)]],[0],.ret [.i],[.tmp 4],dY ["2aN6VwhGuyXrE7NdvJI4QJtaBYliRpPsizRyPwQ8i20bPkZ76VRi8JY1EDGPMBn132"] [] [.ED 16 (.tmp 11) [.v,.p] [.tmp 15]]⟩
def AAa(_:PUnit):AA Int:=some (-1)
def AAb(e:List A2)(a:Int)(g:Int->AA Int)(c:Int):AA Int:=br (It (c<e.length)) (bd (at? e c) λh=>bd (API h a) λj=>br j (some c) (g (w64 (c+1)))) (jn AAa ())
def APJ(c:List A2)(a:Int):AA Int:=A9 (AAb c a) big 0
def AQP:GF:=AbP.gf rfl rfl (λa=>APJ a.1 a.2.1.1) (λa=>by kernel_rfl)
def AbQ:YF:=⟨[vW],[.v (.l (.st 4)),.v .i],[],.ret [.i],[.tmp 4],dY ["2WV1aKqf2TTYNl"] [] [.No 6 0 [.tmp 3],.call 7 AQP [0] rfl [.tmp 5,.tmp 6]]⟩
def pn(a:List A2)(c:Int):AA Int:=bd (APJ a c) λe=>some e
def AFf:GF:=AbQ.ET (BA pn)
def QJ(a:Int->AA Bool)(c:Int)(e:Bool):AA Bool:=br e (some L2) (a (w64 (c+1)))
def Sw(a:Int->AA Bool)(c:Int)(e:A2)(j:Bool):AA Bool:=br j (some L2) (bd (NS e.Level 5) λq=>br (!q) (jn (QJ a c) L1) (bd (DN e.A5 1 1000000) λy=>br (!y) (jn (QJ a c) L1) (bd (DN e.Id 1 999) λg=>br (!g) (jn (QJ a c) L1) (bd (DN e.BL 1 6) λh=>jn (QJ a c) (!h)))))
def AAc(_:PUnit):AA Bool:=some L1
def fW(c:List A2)(g:Int->AA Bool)(a:Int):AA Bool:=br (It (a<c.length)) (bd (at? c a) λe=>br (It (a>0)) (bd (at? c (w64 (a-1))) λq=>bd (AAZ q e) λy=>br (!y) (jn (Sw g a e) L1) (gd (0<=a/\a<=c.length) (bd (pn (an a.toNat c) e.Id) λh=>jn (Sw g a e) (It (h>=0))))) (gd (0<=a/\a<=c.length) (bd (pn (an a.toNat c) e.Id) λj=>jn (Sw g a e) (It (j>=0))))) (jn AAc ())
def pq(a:List A2):AA Bool:=br (It ((↑a.length:Int)>10)) (some L2) (A9 (fW a) big 0)
def AFg:=gZ xB C6 DZ ["eH4lyXr2uCDhGKpNeRPKLfAhjWKPK1dNu30ijAjfhOFGNPlMLxnmt9uLryFX2Td6nJzNybUWd3puDmDc","PIkwFr0C6looI7XK48wUIwUyaGWZTMh8kfKHMKkem54ANOB9VvOwdARbIJ1FANFTfFVgUU2r7iQqf4ja","bQbrmPgr7sIOBbuT3gzY4WZBeR1jVGZzKZon"] [AFe,AFf,Rb,FN] (Bo pq)
def fY(a:Bool):AA Bool:=some a
def pt(a:Bf):AA Bool:=bd (DN a.At 1 1000008) λc=>br c (bd (DN a.Id 1 999) λe=>jn fY e) (jn fY L2)
def vX:=gZ [.v (.st 5)] C6 DZ ["EQlCicyZWsQxntpOuJPxV78sxkMGP"] [FN] (Bo pt)
def Sx(a c:Bf):AA Int:=bd (fV a.At c.At) λe=>br (e != 0) (some e) (bd (fV a.Id c.Id) λg=>some g)
def HN:=gZ [.v (.st 5),.v (.st 5)] DQ Cm ["4QrJ0qMdVk7eoCmwRVNEzmo8GJzyENEj4plkII"] [AFd] (BA Sx)
def Sy(g:((List (Int×Int))×Int×Int)->AA Bool)(e:List (Int×Int))(h j:Int)(a:Bf)(c:Bool):AA Bool:=br c (some L2) (g (KE e a.Id (w64 (NI e a.Id+1)),w64 (h+1),w64 (j+1)))
def AAd(e:((List (Int×Int))×Int×Int)->AA Bool)(g:Int)(h:((List (Int×Int))×Int)):=let (a,c):=h;e (a,c,w64 (g+1))
def fc(G:((List (Int×Int))×Int×Int)->AA Bool)(E:Int)(B:List Bf)(h:((List (Int×Int))×Int×Int)->AA Bool)(H:((List (Int×Int))×Int×Int)):AA Bool:=let (e,g,c):=H;br (It (c<(g0 B))) (bd (at? B c) λa=>bd (pt a) λj=>br (!j) (jn (Sy h e g c a) L1) (br (a.At.tmod 9 != E) (jn (Sy h e g c a) L1) (br (It (c>0)) (bd (at? B (w64 (c-1))) λq=>bd (Sx q a) λy=>jn (Sy h e g c a) (It (y>0))) (jn (Sy h e g c a) L2)))) (jn (AAd G E) (e,g))
def fZ(a:Bool):AA Bool:=some a
def Wl(e:((List (Int×Int))×Int)):AA Bool:=let (c,a):=e;br (It (a<=10)) (jn fZ ((↑(g0 c):Int)==a)) (jn fZ L2)
def fb(c:A3)(h:((List (Int×Int))×Int×Int)->AA Bool)(q:((List (Int×Int))×Int×Int)):AA Bool:=let (e,g,a):=q;br (It (a<c.Aw.length)) (bd (at? c.Aw a) λj=>A9 (fc h a j) big (e,g,0)) (jn Wl (e,g))
def SV(a:A3):AA Bool:=br ((↑a.Aw.length:Int) != 9) (some L2) (A9 (fb a) big ([],0,0))
def Zk:=gZ Zq C6 DZ ["4JvuRx5jdYC9uVwvJuw4vunnMNMizxOGAJ4PVVf7ejpgGjwIw64fWT1usaYlzuprZ8JdASFXtzMrhWZC","hoh2oEXxV7OW3VVqHSunG0a6S5BVjWBJIo7mbWjBYj0U2lWVQbPnNM60Aens0oXaj4jgsWyf9GNo7pAY","70qoGFnGT68hLjDojHsUSIhoey6dymF0hlmPbVYG6SFcPAyjqnHBX2mpXjcB1ErjciLv2tyrPQW1onYr","RHfsjLTRMpluziR0jaYyLCgPS1HvEO"] [vX,HN] (Bo SV) [.mmk 13,.U1 56 (.tmp 53) (.tmp 55),.To (.tmp 53) (.tmp 55) (.tmp 57),.U2 66 (.tmp 65)]
def Wm(a:Bool):AA Bool:=some a
def pw(a:Ah):AA Bool:=bd (Mi a.AX) λc=>br c (bd (pq a.Row) λe=>br e (bd (SV a.B6) λg=>jn Wm g) (jn Wm L2)) (jn Wm L2)
def AFh:=gZ xC C6 DZ ["1YEOGFk22P9vTQNmSt9sEGLDAkUsrUb8tS"] [Rc,AFg,Zk] (Bo pw)
def Wn(a:AY)(c e:Int)(g:Bool):AA Int:=br g (some (-1)) (gd (a.CK≠0) (some (if L1=L1 then if w64 (c-w64 (e.tdiv a.CK))>0 then w64 (c-w64 (e.tdiv a.CK)) else 0 else if w64 (c-w64 (e.tdiv a.CK))<0 then w64 (c-w64 (e.tdiv a.CK)) else 0)))
def APK(a:AY)(c e:Int):AA Int:=bd (Wk a) λg=>br (!g) (jn (Wn a c e) L1) (bd (NS c a.Cd) λh=>br (!h) (jn (Wn a c e) L1) (jn (Wn a c e) (It (e<0))))
def AQQ:=gZ [.v (.st 1),.v .i,.v .i] DQ Tc ["a5ybfaRYKHdZOpRHc4zvpklzAoICK8SwsLx8NZfRGVF7xZP55BzaCFxFv"] [Vq,Rb] (GS APK) [.mm 27 true (.k (.int .i64 0)) (.tmp 26)]
def AIj(c:AY)(a:AU)(e:Int):AA Int:=bd (fS c a e) λg=>br (!g) (some (-1)) (bd (APK c a.DS (w64 (e-a.Since))) λh=>some h)
def AQR:=gZ cB DQ Tc ["WUQujGbmFUt3uAojQeSBapM0eOcU8zP4MjXgteOZ2iv"] [lV,AQQ] (GS AIj)
def fh(c:AY)(a:AU)(e:Int)(g:Bool):AA (A2×Bool):=br g (some (A2.mk 0 0 0 0,L2)) (bd (AIj c a e) λh=>some (A2.mk h a.A5 a.Id a.BL,L1))
def px(c:AY)(a:AU)(e:Int):AA (A2×Bool):=bd (fS c a e) λg=>br (!g) (jn (fh c a e) L1) (jn (fh c a e) (a.State != 1))
def vY:=gZ cB (.ret [(.st 4),.b]) [.cell 6 (some 4),.tmp 7] ["R94MzAMW7SsQQXaS4gZZ6EPza1JqJ0S70i3R2kfxJIv2WfL3GeGcE3sH6nnSuUj3BDO3oDqQ7fnuRfqr","vDEtjr4oV3r"] [lV,AQR] (GS px)
def Ea{α:Type}(cmp:α->α->AA Int)(c:((List α)×Int)->AA (List α))(e:Int)(a:List α):AA (List α):=c ((a,w64 (e+1)))
def Dw{α:Type}(cmp:α->α->AA Int)(j:((List α)×Int)->AA (List α))(y:Int)(q:((List α)×Int)->AA (List α))(c:List α)(a:Int)(g:Bool):AA (List α):=br g (bd (at? c (w64 (a-1))) λB=>bd (at? c (w64 (a-1))) λe=>bd (at? c a) λE=>bd (at? c a) λh=>bd (at? c a) λG=>bd (at? c a) λH=>bd (at? (r9 c a.toNat e) (w64 (a-1))) λI=>bd (at? (r9 c a.toNat e) (w64 (a-1))) λJ=>q (((r9 c a.toNat e).set (w64 (a-1)).toNat h,w64 (a-1)))) (jn (Ea cmp j y) c)
def Dy{α:Type}(cmp:α->α->AA Int)(y:Int)(h:((List α)×Int)->AA (List α))(q:Int)(j:((List α)×Int)->AA (List α))(E:((List α)×Int)):AA (List α):=match E with |(c,a)=>br (decide (a>y)) (bd (at? c a) λG=>bd (at? c a) λB=>bd (at? c (w64 (a-1))) λH=>bd (at? c (w64 (a-1))) λe=>bd (cmp B e) λg=>jn (Dw cmp h q j c a) (decide (g<0))) (jn (Dw cmp h q j c a) false)
def Dx{α:Type}(cmp:α->α->AA Int)(g:Int)(h:Int)(e:((List α)×Int)->AA (List α))(j:((List α)×Int)):AA (List α):=match j with |(c,a)=>br (decide (a<h)) (A9 (Dy cmp g e a) big (c,a)) (some c)
def DX{α:Type}(cmp:α->α->AA Int)(c:List α)(a:Int)(e:Int):AA (List α):=A9 (Dx cmp a e) big ((c,w64 (a+1)))
def LC{α:Type}(cmp:α->α->AA Int)(e:Int)(g:Int)(q:Int)(j:((List α)×Int)->AA (List α))(G:((List α)×Int)):AA (List α):=match G with |(c,a)=>br (decide (a<q)) (bd (at? c (w64 (g+a))) λH=>bd (at? c (w64 (g+a))) λh=>bd (at? c (w64 (e+a))) λI=>bd (at? c (w64 (e+a))) λE=>bd (at? c (w64 (e+a))) λJ=>bd (at? c (w64 (e+a))) λL=>bd (at? (r9 c (w64 (e+a)).toNat h) (w64 (g+a))) λy=>bd (at? (r9 c (w64 (e+a)).toNat h) (w64 (g+a))) λB=>j (((r9 c (w64 (e+a)).toNat h).set (w64 (g+a)).toNat E,w64 (a+1)))) (some c)
def El{α:Type}(cmp:α->α->AA Int)(a:List α)(c:Int)(e:Int)(g:Int):AA (List α):=A9 (LC cmp c e g) big (a,0)
def NU{α:Type}(cmp:α->α->AA Int)(a:Int)(h:((List α)×Int)):AA (List α):=match h with |(e,c)=>bd (El cmp e (w64 (a-c)) a c) λg=>some g
def NV{α:Type}(cmp:α->α->AA Int)(e:Int)(h:((List α)×Int×Int)->AA (List α))(y:((List α)×Int×Int)):AA (List α):=match y with |(g,a,c)=>br (a != c) (br (decide (a>c)) (bd (El cmp g (w64 (e-a)) e c) λj=>h ((j,w64 (a-c),c))) (bd (El cmp g (w64 (e-a)) (w64 (w64 (e+c)-a)) a) λq=>h ((q,a,w64 (c-a))))) (jn (NU cmp e) (g,a))
def IE{α:Type}(cmp:α->α->AA Int)(c:List α)(e:Int)(a:Int)(g:Int):AA (List α):=A9 (NV cmp a) big ((c,w64 (a-e),w64 (g-a)))
def HE{α:Type}(cmp:α->α->AA Int)(a:List α):AA (List α):=some a
def Ll{α:Type}(cmp:α->α->AA Int)(j:Int)(g:((List α)×Int)->AA (List α))(I:((List α)×Int)):AA (List α):=match I with |(c,a)=>br (decide (a<w64 (j-1))) (bd (at? c (w64 (a+1))) λq=>bd (at? c (w64 (a+1))) λe=>bd (at? c a) λy=>bd (at? c a) λh=>bd (at? c a) λB=>bd (at? c a) λE=>bd (at? (r9 c a.toNat e) (w64 (a+1))) λG=>bd (at? (r9 c a.toNat e) (w64 (a+1))) λH=>g (((r9 c a.toNat e).set (w64 (a+1)).toNat h,w64 (a+1)))) (jn (HE cmp) c)
def Lg{α:Type}(cmp:α->α->AA Int)(a:List α)(c:Int)(e:Int):AA (List α):=A9 (Ll cmp e) big (a,c)
def Lk{α:Type}(cmp:α->α->AA Int)(e:List α)(g:Int)(h:(Int×Int)->AA (List α))(B:(Int×Int)):AA (List α):=match B with |(a,c)=>br (decide (a<c)) (bd (at? e (w64 (EF (Go.IntKind.u64.wrap (w64 (a+c))) 1))) λE=>bd (at? e (w64 (EF (Go.IntKind.u64.wrap (w64 (a+c))) 1))) λj=>bd (at? e g) λG=>bd (at? e g) λq=>bd (cmp j q) λy=>br (decide (y<0)) (h ((w64 (w64 (EF (Go.IntKind.u64.wrap (w64 (a+c))) 1)+1),c))) (h ((a,w64 (EF (Go.IntKind.u64.wrap (w64 (a+c))) 1))))) (jn (Lg cmp e g) a)
def Lo{α:Type}(cmp:α->α->AA Int)(h:Int)(g:((List α)×Int)->AA (List α))(I:((List α)×Int)):AA (List α):=match I with |(c,a)=>br (decide (a>h)) (bd (at? c (w64 (a-1))) λq=>bd (at? c (w64 (a-1))) λe=>bd (at? c a) λy=>bd (at? c a) λj=>bd (at? c a) λB=>bd (at? c a) λE=>bd (at? (r9 c a.toNat e) (w64 (a-1))) λG=>bd (at? (r9 c a.toNat e) (w64 (a-1))) λH=>g (((r9 c a.toNat e).set (w64 (a-1)).toNat j,w64 (a-1)))) (jn (HE cmp) c)
def Li{α:Type}(cmp:α->α->AA Int)(c:List α)(e:Int)(a:Int):AA (List α):=A9 (Lo cmp a) big (c,e)
def Lm{α:Type}(cmp:α->α->AA Int)(g:List α)(h:Int)(e:(Int×Int)->AA (List α))(G:(Int×Int)):AA (List α):=match G with |(a,c)=>br (decide (a<c)) (bd (at? g h) λB=>bd (at? g h) λj=>bd (at? g (w64 (EF (Go.IntKind.u64.wrap (w64 (a+c))) 1))) λE=>bd (at? g (w64 (EF (Go.IntKind.u64.wrap (w64 (a+c))) 1))) λq=>bd (cmp j q) λy=>br (!decide (y<0)) (e ((w64 (w64 (EF (Go.IntKind.u64.wrap (w64 (a+c))) 1)+1),c))) (e ((a,w64 (EF (Go.IntKind.u64.wrap (w64 (a+c))) 1))))) (jn (Li cmp g h) a)
def IZ{α:Type}(cmp:α->α->AA Int)(rE:List α->Int->Int->Int->AA (List α))(j:Int)(q:Int)(c:Int)(e:Int)(a:List α)(g:Bool):AA (List α):=br g (bd (rE a (w64 (EF (Go.IntKind.u64.wrap (w64 (j+c))) 1)) (w64 (w64 (w64 (EF (Go.IntKind.u64.wrap (w64 (j+c))) 1)+q)-e)) c) λh=>some h) (some a)
def Gl{α:Type}(cmp:α->α->AA Int)(rE:List α->Int->Int->Int->AA (List α))(e:Int)(h:Int)(c:Int)(a:Int)(g:List α):AA (List α):=br (It (w64 (EF (Go.IntKind.u64.wrap (w64 (e+c))) 1)<w64 (w64 (w64 (EF (Go.IntKind.u64.wrap (w64 (e+c))) 1)+h)-a))) (jn (IZ cmp rE e h c a g) (It (w64 (w64 (w64 (EF (Go.IntKind.u64.wrap (w64 (e+c))) 1)+h)-a)<c))) (jn (IZ cmp rE e h c a g) L2)
def IY{α:Type}(cmp:α->α->AA Int)(rE:List α->Int->Int->Int->AA (List α))(e:Int)(q:Int)(g:Int)(a:Int)(c:List α)(h:Bool):AA (List α):=br h (bd (rE c e a (w64 (EF (Go.IntKind.u64.wrap (w64 (e+g))) 1))) λj=>jn (Gl cmp rE e q g a) j) (jn (Gl cmp rE e q g a) c)
def Gk{α:Type}(cmp:α->α->AA Int)(rE:List α->Int->Int->Int->AA (List α))(e:Int)(h:Int)(g:Int)(a:Int)(c:List α):AA (List α):=br (It (e<a)) (jn (IY cmp rE e h g a c) (It (a<w64 (EF (Go.IntKind.u64.wrap (w64 (e+g))) 1)))) (jn (IY cmp rE e h g a c) L2)
def IX{α:Type}(cmp:α->α->AA Int)(rE:List α->Int->Int->Int->AA (List α))(q:List α)(e:Int)(c:Int)(g:Int)(a:Int)(h:Bool):AA (List α):=br h (bd (IE cmp q a c (w64 (w64 (w64 (EF (Go.IntKind.u64.wrap (w64 (e+g))) 1)+c)-a))) λj=>jn (Gk cmp rE e c g a) j) (jn (Gk cmp rE e c g a) q)
def IW{α:Type}(cmp:α->α->AA Int)(rE:List α->Int->Int->Int->AA (List α))(h:List α)(e:Int)(c:Int)(g:Int)(a:Int):AA (List α):=br (It (a<c)) (jn (IX cmp rE h e c g a) (It (c<w64 (w64 (w64 (EF (Go.IntKind.u64.wrap (w64 (e+g))) 1)+c)-a)))) (jn (IX cmp rE h e c g a) L2)
def LD{α:Type}(cmp:α->α->AA Int)(rE:List α->Int->Int->Int->AA (List α))(g:List α)(h:Int)(j:Int)(q:Int)(e:(Int×Int)->AA (List α))(I:(Int×Int)):AA (List α):=match I with |(a,c)=>br (decide (a<c)) (bd (at? g (w64 (w64 (w64 (w64 (EF (Go.IntKind.u64.wrap (w64 (h+q))) 1)+j)-1)-w64 (EF (Go.IntKind.u64.wrap (w64 (a+c))) 1)))) λG=>bd (at? g (w64 (w64 (w64 (w64 (EF (Go.IntKind.u64.wrap (w64 (h+q))) 1)+j)-1)-w64 (EF (Go.IntKind.u64.wrap (w64 (a+c))) 1)))) λy=>bd (at? g (w64 (EF (Go.IntKind.u64.wrap (w64 (a+c))) 1))) λH=>bd (at? g (w64 (EF (Go.IntKind.u64.wrap (w64 (a+c))) 1))) λB=>bd (cmp y B) λE=>br (!decide (E<0)) (e ((w64 (w64 (EF (Go.IntKind.u64.wrap (w64 (a+c))) 1)+1),c))) (e ((a,w64 (EF (Go.IntKind.u64.wrap (w64 (a+c))) 1))))) (jn (IW cmp rE g h j q) a)
def Gj{α:Type}(cmp:α->α->AA Int)(rE:List α->Int->Int->Int->AA (List α))(e:List α)(g:Int)(h:Int)(j:Int)(q:(Int×Int)):AA (List α):=match q with |(a,c)=>A9 (LD cmp rE e g h j) big (a,c)
def Lj{α:Type}(cmp:α->α->AA Int)(rE:List α->Int->Int->Int->AA (List α))(g:List α)(a:Int)(e:Int)(c:Int)(_:PUnit):AA (List α):=br (It (e>w64 (EF (Go.IntKind.u64.wrap (w64 (a+c))) 1))) (jn (Gj cmp rE g a e c) ((w64 (w64 (w64 (EF (Go.IntKind.u64.wrap (w64 (a+c))) 1)+e)-c),w64 (EF (Go.IntKind.u64.wrap (w64 (a+c))) 1)))) (jn (Gj cmp rE g a e c) (a,e))
def Lh{α:Type}(cmp:α->α->AA Int)(rE:List α->Int->Int->Int->AA (List α))(c:List α)(e:Int)(a:Int)(g:Int)(_:PUnit):AA (List α):=br (w64 (g-a)==1) (A9 (Lm cmp c a) big (e,a)) (jn (Lj cmp rE c e a g) ())
def F7{α:Type}(cmp:α->α->AA Int)(rE:List α->Int->Int->Int->AA (List α))(e:List α)(a:Int)(c:Int)(g:Int):AA (List α):=br (w64 (c-a)==1) (A9 (Lk cmp e a) big (c,g)) (jn (Lh cmp rE e a c g) ())
def H2{α:Type}(cmp:α->α->AA Int)(mrg:List α->Int->Int->Int->AA (List α))(e:((List α)×Int)->AA (List α))(a:Int)(c:List α):AA (List α):=e ((c,w64 (a*2)))
def NW{α:Type}(cmp:α->α->AA Int)(mrg:List α->Int->Int->Int->AA (List α))(j:Int)(h:((List α)×Int)->AA (List α))(a:Int)(q:((List α)×Int)):AA (List α):=match q with |(e,c)=>br (decide (w64 (c+a)<j)) (bd (mrg e c (w64 (c+a)) j) λg=>jn (H2 cmp mrg h a) g) (jn (H2 cmp mrg h a) e)
def NX{α:Type}(cmp:α->α->AA Int)(mrg:List α->Int->Int->Int->AA (List α))(q:Int)(y:((List α)×Int)->AA (List α))(c:Int)(h:((List α)×Int×Int)->AA (List α))(B:((List α)×Int×Int)):AA (List α):=match B with |(g,e,a)=>br (decide (a<=q)) (bd (mrg g e (w64 (e+c)) a) λj=>h ((j,a,w64 (a+w64 (2*c))))) (jn (NW cmp mrg q y c) (g,e))
def GX{α:Type}(cmp:α->α->AA Int)(mrg:List α->Int->Int->Int->AA (List α))(e:Int)(g:((List α)×Int)->AA (List α))(h:((List α)×Int)):AA (List α):=match h with |(c,a)=>br (decide (a<e)) (A9 (NX cmp mrg e g a) big ((c,0,w64 (2*a)))) (some c)
def Hz{α:Type}(cmp:α->α->AA Int)(mrg:List α->Int->Int->Int->AA (List α))(a:Int)(h:((List α)×Int)):AA (List α):=match h with |(c,e)=>bd (DX cmp c e a) λg=>A9 (GX cmp mrg a) big (g,20)
def GW{α:Type}(cmp:α->α->AA Int)(mrg:List α->Int->Int->Int->AA (List α))(c:Int)(h:((List α)×Int×Int)->AA (List α))(q:((List α)×Int×Int)):AA (List α):=match q with |(e,g,a)=>br (decide (a<=c)) (bd (DX cmp e g a) λj=>h ((j,a,w64 (a+20)))) (jn (Hz cmp mrg c) (e,g))
def Gy{α:Type}(cmp:α->α->AA Int)(mrg:List α->Int->Int->Int->AA (List α))(a:List α)(c:Int):AA (List α):=A9 (GW cmp mrg c) big (a,0,20)
def AbR:YF:=⟨[KB],[.m (.l (.st 4)),.v .i,.v .i,.f KB.x []],[0],.ret [],[],dY ["ywRGEk0F2TxtKYbVbLTIcljj0qsKfZ5BPjRIpequDzSvpbwPShEccVOE4LWeOSb6Rw5YGBAUq4VaAwmf","LpQlYikFxcCGV9O34tRi3VZbW3RKD0KfQrYn4HBjQzvpayiw8r5gU2zX7Lsg7PRkose"] [] [.ED 32 (.tmp 22) [.v,.v] [.tmp 26,.tmp 31]]⟩
def AIk(a:List A2)(c e:Int):=DX U8 a c e
def AFi:GF:=AbR.ET (GS AIk)
def AbS:YF:=⟨[KB],[.m (.l (.st 4)),.v .i,.v .i,.v .i,.f KB.x []],[0],.ret [],[],dY ["73Eayd3SelfK5HOLNOAIMYSSuZ8PICUFBgIh6GIdjXClCZ0AG79MEsRY0ILewS5ETqyWNwh7s974vD"] []⟩
def AaL(a:List A2)(c e g:Int):=El U8 a c e g
def vZ:GF:=AbS.ET (WN AaL)
def AbT:YF:=⟨[KB],[.m (.l (.st 4)),.v .i,.v .i,.v .i,.f KB.x []],[0],.ret [],[],dY ["IdntHu0rF5ke6p93CY1d9PVYu4uGMfArrv6TTns0XLS3WHPXoOljBt14Aq2qJS5vpiEGCa3OvrZEd6Rl","2OpQGKaUzg68I2fI0nVfWiI0ukICPstQ"] [] [.call 31 vZ [0] rfl [.tmp 24,.tmp 27,.tmp 28,.tmp 29,.tmp 30],.call 46 vZ [0] rfl [.tmp 35,.tmp 38,.tmp 43,.tmp 44,.tmp 45],.call 57 vZ [0] rfl [.tmp 50,.tmp 53,.tmp 54,.tmp 55,.tmp 56]]⟩
def AaM(a:List A2)(c e g:Int):=IE U8 a c e g
def va:GF:=AbT.ET (WN AaM)
abbrev oI:=zg [.m (.l (.st 4)),.v .i,.v .i,.v .i,.f KB.x []] (.ret [])
def AMI(rE:oI)(a:List A2)(c e g:Int):AA (List A2):=rE.d (a,c,e,g,(),())
def AbU(rE:oI):YF:=⟨[KB],[.m (.l (.st 4)),.v .i,.v .i,.v .i,.f KB.x []],[0],.ret [],[],dY ["4yladdZEGSsvy01cKeqWYrEuK2K5QsRnFqAFePP9L1tZhcLe9CIpn9RDpG3838nPLo0hBM999gjX8pFs","lxcRCHgoy0RSUSeUxOVUMpqNJOGiC6n57fc9K1zaXnqvKRJuTn7d6vWr04aDRjej65g5Rqe64s66z5Zc","6TknoKmLNvHlCxfltv0uI7EFbLXd5tEzZJbgxdgKcQUVZkm01UF1ck0pCrKo0e71g25hYbgHegD3Vvst","g4A9PozJkcjruHiKtDLsRAjvuz74tBjOFQqEDbCvq91mtfn5wJv2VSQWaLbqanCCxMET4KzZ4jMPpKMu","DtIftGJsQgnF7fR6O1FsvSfe9TrGVrIBouodaVuI89ddsgFhCkyvMLk0tTPyo9kvgRlRv0uH1ocLJW8B","deGOP0s3u6ZDBI3o3OcwoImsTWvVihp3l58kXYBy3hX3CBhi6kliIf5FIbBuo41lyqE65hMeqngcF0HF","fK2D0KtDFynAxWYzO1YQbQcVTCMcdzITVZTGdraKhVwqrDbDKUNbyLqDmy90PjhnQOR98AUmurURXY2F","Nt9Py2qPUtVQAMwvRIwTNh9CkD4IP3ZxKlFVOjgj2iEmh65DUELSD7s2zooNfBY6krkwf0NTk83LUaWc","5bIE2pflk8IRllLMKDB1FFkmGRGASw3mQ"] [] [.ED 49 (.tmp 40) [.v,.v] [.tmp 44,.tmp 48],.ED 101 (.tmp 92) [.v,.v] [.tmp 96,.tmp 100],.ED 169 (.tmp 158) [.v,.v] [.tmp 164,.tmp 168],.call 191 va [0] rfl [.tmp 186,.tmp 187,.tmp 188,.tmp 189,.tmp 190],.call 205 rE.gf [0] rfl [.tmp 200,.tmp 201,.tmp 202,.tmp 203,.tmp 204],.call 219 rE.gf [0] rfl [.tmp 214,.tmp 215,.tmp 216,.tmp 217,.tmp 218]]⟩
def AZC(rE:oI)(a:List A2)(c e g:Int):=F7 U8 (AMI rE) a c e g
def AQC(rE:oI):GF:=(AbU rE).gf rfl rfl (λa=>AZC rE a.1 a.2.1 a.2.2.1 a.2.2.2.1) (λa=>by kernel_rfl)
def cY:Nat->oI|0=>.nil _ _|k+1=>.of (AQC (cY k))
def APL(a:List A2)(c e g:Int):AA (List A2):=(cY 7).d (a,c,e,g,(),())
def vd:=(cY 7).gf
def AbV:YF:=⟨[KB],[.m (.l (.st 4)),.v .i,.f KB.x []],[0],.ret [],[],dY ["QqNEKKEdFpaCmIzzAJWpUNjkeAdr43T79PhCGjchQoAcJpBsG0AzzMkGV074QKKkN7C9do48BrivkiPU","fqfsWywWFQzxIhGG0Bqb4Yg2qzbvM4ppO17Aw2BVB7vx91NMAvjhfASCparnqKdRGocOuWwvNsakUdqv","1QCnYNQk0Q8FMJBqtPWhO"] [] [.call 18 AFi [0] rfl [.tmp 14,.tmp 15,.tmp 16,.tmp 17],.call 27 AFi [0] rfl [.tmp 23,.tmp 24,.tmp 25,.tmp 26],.call 43 vd [0] rfl [.tmp 36,.tmp 37,.tmp 40,.tmp 41,.tmp 42],.call 60 vd [0] rfl [.tmp 55,.tmp 56,.tmp 57,.tmp 58,.tmp 59]]⟩
def AIl(a:List A2)(c:Int):=Gy U8 APL a c
def AQS:GF:=AbV.ET (BA AIl)
def AbI:YF:=⟨[KB],[.m (.l (.st 4)),.f KB.x []],[0],.ret [],[],dY ["67PLXmqQgZo7"] [] [.call 8 AQS [0] rfl [.tmp 4,.tmp 6,.tmp 7]]⟩
def pj(a:List A2):AA (List A2):=bd (AIl a (↑a.length:Int)) λc=>some c
def AQJ:GF:=AbI.ET (Bo pj)
def AbJ:YF:=⟨[KB],[.v (.st 1),.v (.l (.st 2)),.v .i,.v .i],[],.ret [(.l (.st 4))],[.tmp 8],dY ["9ldKVGk2lEnmaXiBmre2wAqmeHXWJa4RRb5QgZ1JtTOPGLGYyZzTu5QvnAaZicQaHgJ8769slaPQYcVT","cf4vaEXiAeR8tFNytzVWa20hy5RHOiGb8QJj9DtR4KNHdBa69QOSz4peVCVK"] [vY] [.call 40 AQJ [0] rfl [.tmp 39,.fn 0]]⟩
def Wh(a:List A2×Int->AA (List A2))(c:Int)(e:List A2):=a (e,w64 (c+1))
def Wg(c:List A2×Int->AA (List A2))(a:List A2)(e:Int)(g:A2×Bool)(h:Bool):AA (List A2):=br h (gd (g0 a+[g.1].length<=lim) (jn (Wh c e) (a++[g.1]))) (jn (Wh c e) a)
def Su(a:List A2):AA (List A2):=bd (pj a) λc=>some c
def Sv(q:AY)(h:List AU)(y B:Int)(g:List A2×Int->AA (List A2))(E:List A2×Int):AA (List A2):=let (c,a):=E;br (It (a<h.length)) (bd (at? h a) λj=>bd (px q j B) λe=>br e.2 (jn (Wg g c a e) (j.AZ==y)) (jn (Wg g c a e) L2)) (jn Su c)
def bQ(a:AY)(c:List AU)(e g:Int):AA (List A2):=A9 (Sv a c e g) big ([],0)
def vR:GF:=AbJ.ET (WN bQ)
def AAS(_:PUnit):AA Bool:=some L1
def fM(g j:List A2)(h:Int->AA Bool)(a:Int):AA Bool:=br (It (a<g.length)) (bd (at? g a) λc=>bd (at? j a) λe=>br (!(c.Level==e.Level&&(c.A5==e.A5&&(c.Id==e.Id&&(c.BL==e.BL&&L1))))) (some L2) (h (w64 (a+1)))) (jn AAS ())
def AAR(a c:List A2):AA Bool:=br ((↑a.length:Int) != c.length) (some L2) (A9 (fM a c) big 0)
def AFc:=gZ ATC C6 Cm ["5ZUlke33bpd4JuQawiRxbDzdk35s8VoIsBZkgjURDar1SW5HO4toeg9SwVBS7W0XPpG3n5gFZxwR"] [] (BA AAR)
def fP(g:Int×Int):AA Int:=let (a,c):=g;bd (α:=UInt8) (at? [0,1,2,2,3,3,3,3,4,4,4,4,4,4,4,4,5,5,5,5,5,5,5,5,5,5,5,5,5,5,5,5,6,6,6,6,6,6,6,6,6,6,6,6,6,6,6,6,6,6,6,6,6,6,6,6,6,6,6,6,6,6,6,6,7,7,7,7,7,7,7,7,7,7,7,7,7,7,7,7,7,7,7,7,7,7,7,7,7,7,7,7,7,7,7,7,7,7,7,7,7,7,7,7,7,7,7,7,7,7,7,7,7,7,7,7,7,7,7,7,7,7,7,7,7,7,7,7,8,8,8,8,8,8,8,8,8,8,8,8,8,8,8,8,8,8,8,8,8,8,8,8,8,8,8,8,8,8,8,8,8,8,8,8,8,8,8,8,8,8,8,8,8,8,8,8,8,8,8,8,8,8,8,8,8,8,8,8,8,8,8,8,8,8,8,8,8,8,8,8,8,8,8,8,8,8,8,8,8,8,8,8,8,8,8,8,8,8,8,8,8,8,8,8,8,8,8,8,8,8,8,8,8,8,8,8,8,8,8,8,8,8,8,8,8,8,8,8,8,8,8,8,8,8,8,8] (↑(toB a).toNat:Int)) λe=>some (w64 (c+w64 (↑e.toNat:Int)))
def fO(e:Int×Int):AA Int:=let (a,c):=e;br (It (a>=256)) (jn fP (EF a 8,w64 (c+8))) (jn fP (a,c))
def fN(e:Int×Int):AA Int:=let (a,c):=e;br (It (a>=65536)) (jn fO (EF a 16,w64 (c+16))) (jn fO (a,c))
def APG(a:Int):AA Int:=br (It (a>=4294967296)) (jn fN (EF a 32,32)) (jn fN (a,0))
def AQK:=gZ [.v (.ki .u64)] DQ DZ ["FVAHa6RpszrOLRJonQ3gbQ4ejIirKkbtszOOJo4CDzmuCZ7BMuLlGTimugFwDmgWiwJs6ZzFYnRIWqU4","ZvUeyip9tctU0mnGSyi3V08cFXVu4p"] [] (Bo APG) [.ix 22 (.k (.str [0,1,2,2,3,3,3,3,4,4,4,4,4,4,4,4,5,5,5,5,5,5,5,5,5,5,5,5,5,5,5,5,6,6,6,6,6,6,6,6,6,6,6,6,6,6,6,6,6,6,6,6,6,6,6,6,6,6,6,6,6,6,6,6,7,7,7,7,7,7,7,7,7,7,7,7,7,7,7,7,7,7,7,7,7,7,7,7,7,7,7,7,7,7,7,7,7,7,7,7,7,7,7,7,7,7,7,7,7,7,7,7,7,7,7,7,7,7,7,7,7,7,7,7,7,7,7,7,8,8,8,8,8,8,8,8,8,8,8,8,8,8,8,8,8,8,8,8,8,8,8,8,8,8,8,8,8,8,8,8,8,8,8,8,8,8,8,8,8,8,8,8,8,8,8,8,8,8,8,8,8,8,8,8,8,8,8,8,8,8,8,8,8,8,8,8,8,8,8,8,8,8,8,8,8,8,8,8,8,8,8,8,8,8,8,8,8,8,8,8,8,8,8,8,8,8,8,8,8,8,8,8,8,8,8,8,8,8,8,8,8,8,8,8,8,8,8,8,8,8,8,8,8,8,8,8])) (.tmp 21)]
def AIf(a:Int):AA Int:=bd (APG a) λc=>some c
def AQL:=gZ [.v (.ki .u64)] DQ DZ ["42CJ0cB7cR8Ddf5Yil"] [AQK] (Bo AIf)
def AbK:YF:=⟨[HN],[.m (.l (.st 5)),.v .i,.v .i,.f HN.x []],[0],.ret [],[],dY ["6zYqhE1f8f4arXwi4WGlFXXODnJmqm8LvDT53uaoJEJiPFo8g6dGAHICJta3axpZjypq8N0XnPjqddZ0","Us4h01LKp9zIKQQ3mGWAzO1vxhZRJkf9jSfg5dUqBMac92pkwRA4jdU7TePh4p7OL"] [] [.ED 32 (.tmp 22) [.v,.v] [.tmp 26,.tmp 31]]⟩
def AAT(a:List Bf)(c e:Int):=DX Sx a c e
def vS:GF:=AbK.ET (GS AAT)
def AbL:YF:=⟨[HN],[.m (.l (.st 5)),.v .i,.v .i,.v .i,.f HN.x []],[0],.ret [],[],dY ["1Hqz5qlUI3sxyMgLBFSlt9ni9ZZ7OVf5qfpirkz6u4rLsVRQBKwCOfWpRqAiab6Jistj2Z5GWjXqG241","FAYZ5RHByDEjogylYJrTWLGYIn4Rust030KGYRjA5qp4jSgUGzs78MHpoW61BtzW29CzvUGdUsUscyL7","6NyernDa6Dejbw3rZpBJsGpHW5NSX0P8141J3iLAZ1mwfpqT6oK7UqFa9YMtZLt9ow3w3NjTWL3TGWcV","QF6VcYViAISfFtIXnS4w2rVp3Op56skBRBB7xuQxOpXW1tLsp68n7F5iAmP6dXiFY8ngndpjmzKYUITz","sqy6pthxeN4MYWebREFLEe4ZALja4bZ8P6JSupniSnkjQThdv6WM55q5th0lVfOdVL4y8d25h5A0kuEH","Hzs37m2R4hrZ4wrD0HsEfFv"] [] [.call 30 vS [0] rfl [.tmp 26,.tmp 27,.tmp 28,.tmp 29],.bad (some 37),.bad (some 44),.bad (some 52),.bad (some 61),.bad (some 80),.bad (some 94),.bad (some 103),.bad (some 111),.bad (some 134),.bad (some 146)]⟩
def AAU(e:List Bf)(a c g:Int)(j:PUnit->AA (List Bf))(_:PUnit):AA (List Bf):=br (It (w64 (c-a)<=12)) (bd (AAT e a c) λh=>some h) (br (g==0) none none)
def APH(a:List Bf)(c e g:Int):AA (List Bf):=A9 (AAU a c e g) big ()
def AQM:GF:=AbL.ET (WN APH)
def AbM:YF:=⟨[HN],[.m (.l (.st 5)),.f HN.x []],[0],.ret [],[],dY ["2mrNMrQJeMKePyQVjqCtQe4"] [AQL] [.call 13 AQM [0] rfl [.tmp 7,.k (.int .i64 0),.tmp 8,.tmp 11,.tmp 12]]⟩
def AIg(a:List Bf):AA (List Bf):=bd (AIf (Go.IntKind.u64.wrap (↑a.length:Int))) λc=>bd (APH a 0 (↑a.length:Int) c) λe=>some e
def AQN:GF:=AbM.ET (Bo AIg)
def AbN:YF:=⟨[HN],[.v (.st 6)],[],.ret [(.l (.st 5))],[.tmp 2],dY ["zNcxMsSDrkzOXesvkULryAcUB3fubyHPjazWQYD0vR1YXn4yO1uvzfAchEZvBes6A7JjuB9PXQsQRNtr","2o"] [Zk] [.call 21 AQN [0] rfl [.tmp 20,.fn 0]]⟩
def AAV(a:List Bf):AA (List Bf):=bd (AIg a) λc=>some c
def AAW(e:A3)(h:List Bf×Int->AA (List Bf))(j:List Bf×Int):AA (List Bf):=let (a,c):=j;br (It (c<e.Aw.length)) (bd (at? e.Aw c) λg=>gd (g0 a+g0 g<=lim) (h (a++g,w64 (c+1)))) (jn AAV a)
def fQ(a:A3):AA (List Bf):=bd (SV a) λc=>br (!c) (some []) (A9 (AAW a) big ([],0))
def vT:GF:=AbN.ET (Bo fQ)
def AbO:YF:=⟨[HN],[.m (.l (.st 5)),.v .i,.v .i,.v .i,.f HN.x []],[0],.ret [],[],dY ["YRLYogx6eJpocgMz7frT1jBSbiWhB8UV8UMPXeY5nK2DtoFwrywvcTsHkeH19XYs12waE13rBeCV"] []⟩
def AaK(a:List Bf)(c e g:Int):=El Sx a c e g
def vU:GF:=AbO.ET (WN AaK)
def AbZ:YF:=⟨[HN],[.m (.l (.st 5)),.v .i,.v .i,.v .i,.f HN.x []],[0],.ret [],[],dY ["7u4iu0gD7RDZgQVw7rtRphmDnEBW3N7nEJNptn8z3NHMRu6TI7HaUrIvZ8tBt1YCaHHHMfZkDOxXKVEc","SB40328x1wysS0x6VMZdmz7MLusP2b0G"] [] [.call 31 vU [0] rfl [.tmp 24,.tmp 27,.tmp 28,.tmp 29,.tmp 30],.call 46 vU [0] rfl [.tmp 35,.tmp 38,.tmp 43,.tmp 44,.tmp 45],.call 57 vU [0] rfl [.tmp 50,.tmp 53,.tmp 54,.tmp 55,.tmp 56]]⟩
def AaN(a:List Bf)(c e g:Int):=IE Sx a c e g
def vg:GF:=AbZ.ET (WN AaN)
abbrev oJ:=zg [.m (.l (.st 5)),.v .i,.v .i,.v .i,.f HN.x []] (.ret [])
def AMJ(rE:oJ)(a:List Bf)(c e g:Int):AA (List Bf):=rE.d (a,c,e,g,(),())
def Aba(rE:oJ):YF:=⟨[HN],[.m (.l (.st 5)),.v .i,.v .i,.v .i,.f HN.x []],[0],.ret [],[],dY ["DxxfyzboWSaHthoYQmeRLKRy9IT8q1Kr7R5453l4sjXYRYEcOgWG1KsvrH8btCoymAJCCbhhsr0ZeMZE","RmqRmcSjVyLNFfVqPvSqFDeO70Cae4akmNolC5UAHeb0fbLtFKsLorfDJTYBoxcf1SCEMztZ71WtgKVB","4HEwxEco9O76execuXUFQn6j4uK77FoqZoACCvqsuuEpKUHGgrfqkFYacZx5hOBWSk4rkSq0Eel9LsxW","QY5REbSse9mb3OIU0QpoJugQICrhVNWdHqhzcsf0gY1HVamvDqaDpRKpQBstsIPvZbsq0IACaM1S2vB1","0B55oAgqcx0AjsN9cFPkmgqjIYU0mJU1ScSSgfwjeYFJJAKQZxJYCE8DGKSmfIdlglCVqNj8GQL4Ni64","8rtxSoHHsDcvPHiQZFJp9lCb0FgSNScWGPunDpphCAzBuDLyyYDcOKZUR1VwSrJWhXX3vNka8uCpZlQb","5U1OJoAcexvkykK4m9ycSTPmuU7Yp1gsZ8qRsXSfBchvT5Q0ULRKztCQNDzsklmIo29pRZq1QBwOkkaj","l5xQoXQeRnI4aPqZbyxcbOVXInMqMftyPKuVWcIgrZlXJaG4SZawCBQoMBGnS1Yx1ch4teYG8uTONikC","tRxH2KOAeewpm3NGrFnV6HXXIys"] [] [.ED 49 (.tmp 40) [.v,.v] [.tmp 44,.tmp 48],.ED 101 (.tmp 92) [.v,.v] [.tmp 96,.tmp 100],.ED 169 (.tmp 158) [.v,.v] [.tmp 164,.tmp 168],.call 191 vg [0] rfl [.tmp 186,.tmp 187,.tmp 188,.tmp 189,.tmp 190],.call 205 rE.gf [0] rfl [.tmp 200,.tmp 201,.tmp 202,.tmp 203,.tmp 204],.call 219 rE.gf [0] rfl [.tmp 214,.tmp 215,.tmp 216,.tmp 217,.tmp 218]]⟩
def AZD(rE:oJ)(a:List Bf)(c e g:Int):=F7 Sx (AMJ rE) a c e g
def AQD(rE:oJ):GF:=(Aba rE).gf rfl rfl (λa=>AZD rE a.1 a.2.1 a.2.2.1 a.2.2.2.1) (λa=>by kernel_rfl)
def cZ:Nat->oJ|0=>.nil _ _|k+1=>.of (AQD (cZ k))
def APT(a:List Bf)(c e g:Int):AA (List Bf):=(cZ 7).d (a,c,e,g,(),())
def vi:=(cZ 7).gf
def Abb:YF:=⟨[HN],[.m (.l (.st 5)),.v .i,.f HN.x []],[0],.ret [],[],dY ["22sTXZbfQgEHWRW7WAb8UF2uF4buiaiuDLS3hedRfOZTXbSWgKCKEt7ZLcqUEGlhiQ4FRAnCCUMCnkJ0","Z864vkXUOXMjlDKmQSC6p5D1z2bl1Ka9yeKTvjkRYCv7eJKkyxHnQ7G3V1KTQRrzD7qm61bdRRnzEo62","UXMSxnQuh4trwsxNZ7VaT"] [] [.call 18 vS [0] rfl [.tmp 14,.tmp 15,.tmp 16,.tmp 17],.call 27 vS [0] rfl [.tmp 23,.tmp 24,.tmp 25,.tmp 26],.call 43 vi [0] rfl [.tmp 36,.tmp 37,.tmp 40,.tmp 41,.tmp 42],.call 60 vi [0] rfl [.tmp 55,.tmp 56,.tmp 57,.tmp 58,.tmp 59]]⟩
def AIp(a:List Bf)(c:Int):=Gy Sx APT a c
def AQY:GF:=Abb.ET (BA AIp)
def Abc:YF:=⟨[HN],[.m (.l (.st 5)),.f HN.x []],[0],.ret [],[],dY ["67PLXmqQgZo7"] [] [.call 8 AQY [0] rfl [.tmp 4,.tmp 6,.tmp 7]]⟩
def qA(a:List Bf):AA (List Bf):=bd (AIp a (↑a.length:Int)) λc=>some c
def AQZ:GF:=Abc.ET (Bo qA)
def Abd:YF:=⟨[HN],[.v (.l (.st 2)),.v .i],[],.ret [(.l (.st 5))],[.tmp 4],dY ["LK0Y4Dj86n0XwAV9l1RqsywVJ3k9yjfS6oGPI4vnn5nI86UDX4CSVMqeFs6mtaAqxOF4RWH42GtKLBtA","6auySFA82BKNZL92Z2scWdZeInp3"] [] [.call 33 AQZ [0] rfl [.tmp 32,.fn 0]]⟩
def Ws(a:List Bf×Int->AA (List Bf))(c:Int)(e:List Bf):=a (e,w64 (c+1))
def Wr(e:List Bf×Int->AA (List Bf))(c:List Bf)(g:Int)(a:AU)(h:Bool):AA (List Bf):=br h (gd (g0 c+[Bf.mk a.DO a.Id].length<=lim) (jn (Ws e g) (c++[Bf.mk a.DO a.Id]))) (jn (Ws e g) c)
def Sz(a:List Bf):AA (List Bf):=bd (qA a) λc=>some c
def S6(h:List AU)(j:Int)(g:List Bf×Int->AA (List Bf))(q:List Bf×Int):AA (List Bf):=let (e,a):=q;br (It (a<h.length)) (bd (at? h a) λc=>br (c.State==2) (jn (Wr g e a c) (c.AZ==j)) (jn (Wr g e a c) L2)) (jn Sz e)
def fw(a:List AU)(c:Int):AA (List Bf):=A9 (S6 a c) big ([],0)
def AFl:GF:=Abd.ET (BA fw)
def AAn(_:PUnit):AA Bool:=some L1
def fx(c j:List Bf)(h:Int->AA Bool)(a:Int):AA Bool:=br (It (a<c.length)) (bd (at? c a) λe=>bd (at? j a) λg=>br (!(e.At==g.At&&(e.Id==g.Id&&L1))) (some L2) (h (w64 (a+1)))) (jn AAn ())
def AAm(a c:List Bf):AA Bool:=br ((↑a.length:Int) != c.length) (some L2) (A9 (fx a c) big 0)
def AFm:=gZ ATE C6 Cm ["J8yQoMq849H3hVUjdwEiqVv6hPy0kyffR4IcRMaz6RamF0D8Ub2beKmWk5aqOQUpiKqqmBZwFaA"] [] (BA AAm)
def fz(a:Int×Int->AA Int)(c e:Int):=a (e,w64 (c+1))
def Wt(a:Int×Int->AA Int)(c e:Int)(h:AU)(g:Bool):AA Int:=br g (jn (fz a e) (w64 (c+h.BL))) (jn (fz a e) c)
def AAo(a:Int):AA Int:=some a
def gC(h:List AU)(j:Int)(g:Int×Int->AA Int)(y:Int×Int):AA Int:=let (e,c):=y;br (It (c<h.length)) (bd (at? h c) λa=>br (a.State==2) (br (a.AZ==j) (bd (DN a.BL 1 6) λq=>jn (Wt g e c a) q) (jn (Wt g e c a) L2)) (jn (Wt g e c a) L2)) (jn AAo e)
def fy(a:List AU)(c:Int):AA Int:=A9 (gC a c) big (0,0)
def AFn:=gZ Po DQ Cm ["4nakkw0XvEerz809wocpK5146JcMy6zvjuwwKW6FBeqZ2K4MtVvYXiUyvLPnSGx0AX071oAHbtOgPpEf","ECYXMtOgPJ7iZeCh3d1t6JwQq"] [FN] (BA fy)
def gF(a:Int×Int->AA Int)(c e:Int):=a (e,w64 (c+1))
def gD(a:Int×Int->AA Int)(c e:Int)(h:AU)(g:Bool):AA Int:=br g (jn (gF a e) (w64 (c+h.BL))) (jn (gF a e) c)
def AAp(a:Int):AA Int:=some a
def gG(h:List AU)(j:Int)(g:Int×Int->AA Int)(y:Int×Int):AA Int:=let (e,a):=y;br (It (a<h.length)) (bd (at? h a) λc=>br (c.B0==j) (bd (DN c.BL 1 6) λq=>jn (gD g e a c) q) (jn (gD g e a c) L2)) (jn AAp e)
def bR(a:List AU)(c:Int):AA Int:=A9 (gG a c) big (0,0)
def AFo:=gZ Po DQ Cm ["1ZNVhKV7Rf7c8VzuvvfFUHlFIf8iv5KfwaH5o0gZtc71PMJonjRrEuzFae3QsqZiWLarceitdOczvkmT","UmG7TyuAr"] [FN] (BA bR)
def QK(a:Bool):AA Bool:=some a
def AIq(g:AY)(a:Ah)(c:List AU)(e h:Int):AA Bool:=bd (pw a) λj=>br j (bd (bQ g c e h) λq=>bd (AAR a.Row q) λy=>br y (bd (fQ a.B6) λB=>bd (fw c e) λE=>bd (AAm B E) λG=>br G (bd (fy c e) λH=>br (a.AX.FQ==H) (bd (bR c e) λI=>jn QK (a.AX.Gb==I)) (jn QK L2)) (jn QK L2)) (jn QK L2)) (jn QK L2)
def AQa:=gZ ATF C6 [.tmp 10] ["EtCrFgNWTYCGvjt9Iy7xQVPJrQY6DvyqoOLDAwacxAOoHmjd3oMxXSf1GVCql7uMXDaRCqvCFvHQOtnu","XwAoYBfVqICh641fc8c8MMeTRfUfBy7VavvMyqAp5VV0wmK6Pmcz1T4yFNuq0l6"] [AFh,vR,AFc,vT,AFl,AFm,AFn,AFo] (AWM AIq)
def AAq(_:PUnit):AA Int:=some (-1)
def gH(c:List Int)(g:Int)(e:Int->AA Int)(a:Int):AA Int:=br (It (a<c.length)) (bd (at? c a) λh=>br (g==h) (some a) (e (w64 (a+1)))) (jn AAq ())
def APU(a:List Int)(c:Int):AA Int:=A9 (gH a c) big 0
def AQb:=gZ sH DQ Cm ["C9Zmysll7uOmCVY5BSW4YN0osIJZ4qaaW2scNzZF29VoRWOteWolp6BqC"] [] (BA APU)
def qC(a:List Int)(c:Int):AA Bool:=bd (APU a c) λe=>some (It (e>=0))
def vj:=gZ sH C6 Cm ["2SfHNIcVevnRwsE"] [AQb] (BA qC)
def Mk(c:Int->AA Bool)(e:Int)(a:Bool):AA Bool:=br a (some L2) (c (w64 (e+1)))
def AAr(a:Int->AA Bool)(c:Int)(_:PUnit):=a (w64 (c+1))
def gK(j:AE)(q:Int->AA Bool)(h:Int)(e:AU)(g:Int->AA Bool)(c:Int):AA Bool:=br (It (c<(an h.toNat j.AG).length)) (bd (at? (an h.toNat j.AG) c) λa=>br (e.A5==a.A5) (jn (Mk g c) L1) (br (It (e.A5<a.A5)) (br (It (e.Since>a.Since)) (jn (Mk g c) L1) (br (It (a.A5<e.A5)) (jn (Mk g c) (It (a.Since>e.Since))) (jn (Mk g c) L2))) (br (It (a.A5<e.A5)) (jn (Mk g c) (It (a.Since>e.Since))) (jn (Mk g c) L2)))) (jn (AAr q h) ())
def QL(c:AE)(e:Int->AA Bool)(a:Int)(h:AU)(g:Bool):AA Bool:=br g (some L2) (gd (0<=a/\a<=c.AG.length) (A9 (gK c e a h) big 0))
def S7(a:Int->AA Bool)(c:Int)(e:Bool):AA Bool:=br e (some L2) (a (w64 (c+1)))
def ZM(a:Int->AA Bool)(c:Int)(e:Bool):AA Bool:=br e (some L2) (a (w64 (c+1)))
def qD(_:PUnit):AA Bool:=some L1
def ZO(e:AE)(c:Int->AA Bool)(a:Int):AA Bool:=br (It (a<e.BD.length)) (bd (at? e.BD a) λg=>bd (DN g (-1) (w64 ((↑e.AQ.AX.length:Int)-1))) λh=>br (!h) (some L2) (c (w64 (a+1)))) (jn qD ())
def UX(a:AE)(_:PUnit):AA Bool:=A9 (ZO a) big 0
def ZN(c:AE)(e:Int->AA Bool)(a:Int):AA Bool:=br (It (a<c.BF.length)) (bd (at? c.BF a) λg=>bd (NS g (↑c.AQ.AX.length:Int)) λh=>br (!h) (jn (ZM e a) L1) (gd (0<=a/\a<=c.BF.length) (bd (qC (an a.toNat c.BF) g) λj=>jn (ZM e a) j))) (jn (UX c) ())
def UW(a:AE)(_:PUnit):AA Bool:=A9 (ZN a) big 0
def gM(c:AE)(e:Int->AA Bool)(a:Int):AA Bool:=br (It (a<c.AJ.length)) (bd (at? c.AJ a) λg=>bd (at? c.AQ.AX a) λh=>br (g.AX.Total != h) (jn (S7 e a) L1) (bd (pk c.AG a) λj=>br (It (j>c.AQ.Room)) (jn (S7 e a) L1) (bd (AIq c.AQ g c.AG a c.Now) λq=>jn (S7 e a) (!q)))) (jn (UW c) ())
def Wu(a:AE)(_:PUnit):AA Bool:=A9 (gM a) big 0
def gJ(a:AE)(g:Int->AA Bool)(c:Int):AA Bool:=br (It (c<a.AG.length)) (bd (at? a.AG c) λe=>bd (fS a.AQ e a.Now) λj=>br (!j) (jn (QL a g c e) L1) (br (It (e.A5>=a.A5)) (jn (QL a g c e) L1) (br (It (c>0)) (bd (at? a.AG (w64 (c-1))) λh=>jn (QL a g c e) (It (h.Id>=e.Id))) (jn (QL a g c e) L2)))) (jn (Wu a) ())
def Mj(a:AE)(c:Bool):AA Bool:=br c (some L2) (br (It ((↑a.AG.length:Int)>40)) (some L2) (A9 (gJ a) big 0))
def SW(a:AE):AA Bool:=bd (Wk a.AQ) λg=>br (!g) (jn (Mj a) L1) (bd (DN a.Now 0 1000000) λc=>br (!c) (jn (Mj a) L1) (bd (DN a.A5 1 1000001) λe=>br (!e) (jn (Mj a) L1) (br ((↑a.AJ.length:Int) != a.AQ.AX.length) (jn (Mj a) L1) (jn (Mj a) ((↑a.BD.length:Int) != a.AQ.C7)))))
def TY:=gZ YB C6 DZ ["2Hw9AKXkAGKO5bTutfV2Dqy8XlBJRD3Z3V8Z6mnYcbehhi6kq1fQ3DQ4tcXPaU9OAaWF82drZw0I8tyA","Wy12wAM4kg4LxYZ9M2v7b3IMbCwv1oX743K559Bh9aEhEZ17kQotb0hmJNqBeP6nZcrU2Yta5DxvTO0b","TEE2TxS4004DMIRNo9bIOUKI7nl2KGwzvwYaM2EVQnw2F7dPvIzKfqeKNrQbeezWXwSbp3UHfjjVJwoL","CqcWy33EwgEOaZLhhijqyWu2nv8U3HI28M6qFEL5Dk2PLyq8jv0reGnFhvulnfaCMUYdvsuzYbReIEv8","PUE9AkC4drfmmBr8KL5JwkIW5dGXj2AAyqlnrIhKAjMapQWclwWSam9MOcIUlnl4TzHT2w99nGq1nnmn","SevAbPT4VWDITrvMPMmCULsqJyHEGggGTcXTX228pkLj40WYQfdV4MCntPzs7mlSvJH66bocs3wAfTAB","puAvGrnGvcXt8l7CQ5aejLxpdQwaN0Wll2Pf2OGgKmoMZ215b2SL2KOWecJBPOAzXG3T0Rg7GPGrofZg","gP6IHIi0bMDlR67s3OEICe09tlGOm8yuUZo1oLcUBikYCJpNodiExc8VB7bmM1F5Flj4kjqQkB3dU7e7","hAcDOdUEZztQGdx8EnxlO7kqDN6XBrYjh6i3sdd4YSDNqzjZGAnFiolWIxuyQtPwpRfHlHKBnM9zDRNk","vzvuio9ufQdIeln"] [Vq,FN,lV,vV,AQa,Rb,vj] (Bo SW) [.as 10 (.tmp 182),.as 11 (.tmp 184),.as 13 (.tmp 204)]
def gO(a:Bool):AA Bool:=some a
def QM(a:Bp):AA Bool:=br (It ((↑a.Data.length:Int)<=20000)) (bd (DN a.Safe 0 (↑a.Data.length:Int)) λc=>jn gO c) (jn gO L2)
def TZ:=gZ mA C6 DZ ["RODQb8ALngqDpcl0fpTxjGs732zWOw3dRUQf"] [FN] (Bo QM)
def Wv(a:Bool):AA Bool:=some a
def AAs(a:Bj):AA Bool:=bd (QM a.Log) λc=>br c (bd (QM a.Ec) λe=>br e (bd (QM a.Odd) λg=>jn Wv g) (jn Wv L2)) (jn Wv L2)
def AFp:=gZ NC C6 DZ ["MNXx5VPc0hG2iHP6SGLnPfI6DTU9PNwlr"] [TZ] (Bo AAs)
def SX(a:Int):AA Bool:=bd (DN a 0 9999) λc=>some c
def AQc:=gZ Pp C6 DZ ["5vyhvRQgGFHweZ"] [FN] (Bo SX)
def Abe:YF:=⟨[AQc],[.v (.st 0)],[],.ret [.b],[.tmp 2],dY ["1GpnnuR1xjTkWBY0h6071g7pV4YaoRaSBlaEwCSzvFooY8V7xMGJHHJ1yzL987xkaFcWfkX1zLkilBlF","T4UHDplyLHe1Bmy6HwRXUACXa77L051UmqNFcOg2gRuSNVBJJgkhw6wG1daYlYJT2pusjz7mMYkKjOyt","1vCdttCVcOlmJjtsQzRBgTYsfMcTJdJ4CVY8RiiNml9gcR8J5jwgroYd6tXDhM2DNsObjfIEKIMCzEFh","MHLVobf6P8NHcB4mwttW8fw863vzEwteJXo3mUlVdAu3JGI9VOnNyWZTrLnfFbh"] [FN] [.as 3 (.fn 0),.ED 11 (.tmp 8) [.v] [.tmp 10],.ED 16 (.tmp 13) [.v] [.tmp 15],.ED 27 (.tmp 24) [.v] [.tmp 26],.ED 33 (.tmp 30) [.v] [.tmp 32],.ED 43 (.tmp 40) [.v] [.tmp 42],.ED 58 (.tmp 55) [.v] [.tmp 57],.ED 63 (.tmp 60) [.v] [.tmp 62]]⟩
def HU(a:Bool):AA Bool:=some a
def QN(a:Bq)(e:Bool):AA Bool:=br e (bd (SX a.Id) λg=>br g (jn HU (a.Kind==a.Kind&&(a.Id==a.Id&&(a.AZ==0&&(a.B0==0&&(a.BL==0&&(a.DS==0&&L1))))))) (jn HU L2)) (br (a.Kind==3) (bd (SX a.AZ) λh=>br h (bd (SX a.BL) λc=>br c (jn HU (a.Kind==a.Kind&&(a.Id==0&&(a.AZ==a.AZ&&(a.B0==0&&(a.BL==a.BL&&(a.DS==0&&L1))))))) (jn HU L2)) (jn HU L2)) (br (a.Kind==6) (some (a.Kind==6&&(a.Id==0&&(a.AZ==0&&(a.B0==0&&(a.BL==0&&(a.DS==0&&L1))))))) (some L2)))
def Ww(a:Bq):AA Bool:=br (a.Kind==1) (bd (SX a.Id) λc=>br c (bd (SX a.AZ) λe=>br e (bd (DN a.B0 (-1) 9999) λg=>br g (bd (SX a.BL) λh=>br h (bd (SX a.DS) λj=>jn HU j) (jn HU L2)) (jn HU L2)) (jn HU L2)) (jn HU L2)) (br (a.Kind==2) (jn (QN a) (a.Kind==2)) (br (a.Kind==4) (jn (QN a) (a.Kind==4)) (br (a.Kind==5) (jn (QN a) (a.Kind==5)) (jn (QN a) (a.Kind==7)))))
def lW:GF:=Abe.ET (Bo Ww)
def AAt(_:PUnit):AA Bool:=some L1
def gP(c:Az)(e:Int->AA Bool)(a:Int):AA Bool:=br (It (a<c.Laid.length)) (bd (at? c.Laid a) λg=>bd (Ww g) λh=>br (!h) (some L2) (e (w64 (a+1)))) (jn AAt ())
def QO(a:Az)(c:Bool):AA Bool:=br c (some L2) (A9 (gP a) big 0)
def Wx(a:Az):AA Bool:=bd (SW a.Ax) λc=>br (!c) (jn (QO a) L1) (bd (AAs a.Aq) λe=>br (!e) (jn (QO a) L1) (br (It ((↑a.Laid.length:Int)>8)) (jn (QO a) L1) (bd (DN a.Seq (↑a.Laid.length:Int) 1000000) λg=>jn (QO a) (!g))))
def Vr:=gZ Zr C6 DZ ["6ekQQTpXfgH4GelkC7vMs8Vgggm2DMCggCL3xE9GvPPrBWyNzAXq8Ew6YFV4Nr48k5edOX0DdQTR5ytx","hGPLigKiUJ60nG7jfW52xK9UjMykMHzIDyeBOwnh4U41mia"] [TY,AFp,FN,lW] (Bo Wx)
def We(a c:Bq):AA Bool:=br (a.Kind != c.Kind) (some L2) (br (a.Id != c.Id) (some L2) (br (a.AZ != c.AZ) (some L2) (br (a.B0 != c.B0) (some L2) (br (a.BL != c.BL) (some L2) (br (a.DS != c.DS) (some L2) (some L1))))))
def AIr(a:AY):AA (List Int):=bd (AAQ a) λc=>br (!c) (some []) (gd ([a.Cd,a.Room,a.BL,a.CK,a.B7,a.Rest,a.Cl,a.C7].length+a.AX.length<=lim) (some ([a.Cd,a.Room,a.BL,a.CK,a.B7,a.Rest,a.Cl,a.C7]++a.AX)))
def AQd:=gZ SY Oc DZ ["BKjqhgFxMpQj74YQBK1vpeMV6QnApRvMiiuxhcY4DdMEBXWeNYecg609MMd5"] [sE] (Bo AIr)
def AAv(a:List Int):AA (List Int):=some a
def gU(h:AE)(g:List Int×Int->AA (List Int))(j:List Int×Int):AA (List Int):=let (a,c):=j;br (It (c<h.BD.length)) (bd (at? h.BD c) λe=>gd (g0 a+[w64 (e+1)].length<=lim) (g (a++[w64 (e+1)],w64 (c+1)))) (jn AAv a)
def Wz(c:AE)(a:List Int):AA (List Int):=gd (a.length+[(↑c.BF.length:Int)].length<=lim) (gd ((a++[(↑c.BF.length:Int)]).length+c.BF.length<=lim) (A9 (gU c) big (a++[(↑c.BF.length:Int)]++c.BF,0)))
def gT(e:AE)(h:List Int×Int->AA (List Int))(j:List Int×Int):AA (List Int):=let (g,a):=j;br (It (a<e.AJ.length)) (bd (at? e.AJ a) λc=>gd (g0 g+[c.AX.D7].length<=lim) (h (g++[c.AX.D7],w64 (a+1)))) (jn (Wz e) g)
def Wy(a:AE)(c:List Int):AA (List Int):=A9 (gT a) big (c,0)
def gQ(c:AE)(h:List Int×Int->AA (List Int))(j:List Int×Int):AA (List Int):=let (e,g):=j;br (It (g<c.AG.length)) (bd (at? c.AG g) λa=>gd (g0 e+[a.Id,a.AZ,w64 (a.B0+1),a.BL,a.DS,a.Since,a.A5,a.State,a.DO,a.Du].length<=lim) (h (e++[a.Id,a.AZ,w64 (a.B0+1),a.BL,a.DS,a.Since,a.A5,a.State,a.DO,a.Du],w64 (g+1)))) (jn (Wy c) e)
def AAu(a:AE):AA (List Int):=bd (fL a) λe=>br (!e) (some []) (bd (AIr a.AQ) λc=>gd ([(↑(g0 c):Int)].length+g0 c<=lim) (gd (([(↑(g0 c):Int)]++c).length+[a.Now,a.A5,(↑a.AG.length:Int)].length<=lim) (A9 (gQ a) big ([(↑(g0 c):Int)]++c++[a.Now,a.A5,(↑a.AG.length:Int)],0))))
def AFq:=gZ YB Oc DZ ["4uwTGJA9XLla7N1D4jtfWpvLvr2lMIoqFlQKj3MjfTrE0N3dApxg0w1J60B96qAxGPGLlTJq6tc2uNMQ","QeO51YgYEFSLROpuWTaGVDT5gZNiAyUZluHS8Dr3Ihs7AcVx99YshWZ9IK1bHtJ7XCV3g4FaUlYKeC9B","Bn2Me6KP1ma1V6wUmWp4kFGhgVfMKldMMIJuLXDdQaaO6EHbghGhUUDBdREH7GrzZ22esrLF2vCFKtgI","Tv1hXhIaw0m5wjbejWP5Z9vJzIHkdq6wo2L8Qjea6GpAL7tGtAGwiMUoZlMBXxjyhjT"] [bz,AQd] (Bo AAu)
def AAw(e:Int×List UInt8):AA (List UInt8):=let (a,c):=e;gd (c.length+[toB a].length<=lim) (some (c++[toB a]))
def AAx(e:Int×List UInt8->AA (List UInt8))(g:Int×List UInt8):AA (List UInt8):=let (a,c):=g;br (It (a>127)) (gd (c.length+[toB (w64 (s0 a 128+128))].length<=lim) (e (w64 (Int.tdiv a 128),c++[toB (w64 (s0 a 128+128))]))) (jn AAw (a,c))
def gV(a:Int):AA (List UInt8):=bd (Ew a 0 2147483647) λc=>br (!c) (some []) (A9 AAx big (a,[]))
def AFr:=gZ Pp (.ret [(.l .u)]) DZ ["XnAlzfEyP55RR08Pmr2f7Pjfdg2nEGZo1FqNy13Sj2NnzL1VqwbhNU0MYbgHMpKsKDg62CLgPhIElLKF","dR8xbp"] [Ho] (Bo gV)
def AAy(a:List UInt8):AA (List UInt8):=some a
def gW(e:List Int)(h:List UInt8×Int->AA (List UInt8))(q:List UInt8×Int):AA (List UInt8):=let (a,c):=q;br (It (c<e.length)) (bd (at? e c) λj=>bd (gV j) λg=>gd (g0 a+g0 g<=lim) (h (a++g,w64 (c+1)))) (jn AAy a)
def bS(a:List Int):AA (List UInt8):=A9 (gW a) big ([],0)
def AFs:=gZ Zs Pq DZ ["1D6iaVq05o9f9Jt60LO32CMP889DomKHLlGFhxMfHZK4OdFYMPY6aVbrbvyr9r3"] [AFr] (Bo bS)
def gX(a:Int×Int->AA Int)(c e:Int):=a (e,w64 (c+1))
def AA0(a:Int×Int->AA Int)(c e:Int):=a (e,w64 (c+1))
def ga(g:Int×Int->AA Int)(h:Int)(e:Int×Int->AA Int)(j:Int×Int):AA Int:=let (a,c):=j;br (It (c<8)) (br (s0 a 2==1) (jn (gX e c) (U5 (w64 (Int.tdiv a 2)) 3988292384)) (jn (gX e c) (w64 (Int.tdiv a 2)))) (jn (AA0 g h) a)
def AA1(a:Int):AA Int:=some (U5 a 4294967295)
def gY(c:List UInt8)(g:Int×Int->AA Int)(j:Int×Int):AA Int:=let (e,a):=j;br (It (a<c.length)) (bd (at? c a) λh=>A9 (ga g a) big (U5 e (w64 (↑(s3 h):Int)),0)) (jn AA1 e)
def AAz(a:List UInt8):AA Int:=A9 (gY a) big (4294967295,0)
def AFt:=gZ Zt DQ DZ ["3FgsOM0BBPqoqufgXRaCuNPJFcekTi6F9Zyhe8vVoQD6kT18EaWNdF2DQ3DTqMnOiEJa9n63CakW9vqQ","m5Iml2Yn2TbqLg6z4VX8mShzGeaoNpeFX5Hzqt0X"] [] (Bo AAz)
def AA2(a:Int):AA (List UInt8):=some ([toB (EF a 24),toB (EF a 16),toB (EF a 8),toB a])
def AFu:=gZ Pp Pq DZ ["7X6SpmuC5SDEKEbHnSKoN10DrWD59OHFgGt0UxRG48P"] [] (Bo AA2)
def gb(h:AE)(c:Int)(j:Bool):AA (List UInt8):=br j (some []) (bd (AAu h) λe=>gd ([c].length+g0 e<=lim) (bd (bS ([c]++e)) λa=>bd (AAz a) λq=>bd (AA2 q) λg=>gd (g0 g+g0 a<=P0) (some (g++a))))
def qE(a:AE)(c:Int):AA (List UInt8):=bd (fL a) λe=>br (!e) (jn (gb a c) L1) (bd (Ew c 0 1000000) λg=>jn (gb a c) (!g))
def vk:=gZ GM Pq Cm ["nF5WqIMv8mKjoIUBC6dumfik5AZGDd8sKZIB4fQDSPK0lmUfJG2YiefNmdtt1"] [bz,Ho,AFq,AFs,AFt,AFu] (BA qE) [.Nf 21 (.tmp 20)]
def qF(a:AY):AA (List Int):=bd (Wk a) λc=>br (!c) (some []) (gd ([a.Cd,a.Room,a.BL,a.CK,a.B7,a.Rest,a.Cl,a.C7].length+a.AX.length<=lim) (some ([a.Cd,a.Room,a.BL,a.CK,a.B7,a.Rest,a.Cl,a.C7]++a.AX)))
def AFv:=gZ SY Oc DZ ["2joB66Mr72ovc5nu3QJkgLT8AQ8YdDJOX6u8lhvMywBzYfqbltxXkOOHxwS"] [Vq] (Bo qF)
def AbH(c:C):YF:=⟨[],[.v (.st 8)],[],.ret [c],[.tmp 2],sq [qu 1 0,.as 2 (.k .nil)] [1] (.seq (sw 11 [wk 15 1,wY TY rfl,wX] [1,13] (cn 13 [1] (sq [.as 2 (.k .nil)] [2] .ret))) (sr [wn 14 [wo 0 1,wK 9,wY AFv rfl],qn [qa 3 16]] [1,3] (sr [wn 17 [wm 3,wZ,wh (.CC · 1 .i [(0,(.tmp 18))]),wm 3,wh (.app · .i true (.tmp 19) (.tmp 20))],qn [qa 4 21]] [1,4] (sr [wn 22 [wm 4,wo 9 1,wL,wo 10 1,wL,wo 11 1,wL,wZ,wh (.CC · 3 .i [(0,(.tmp 24)),(1,(.tmp 26)),(2,(.tmp 29))]),wh (.app · .i true (.tmp 22) (.tmp 30))],qn [qa 4 31]] [1,4] (.join [cv 4 (.l .i)] (sw 32 [wo 11 1,wL,wZ,wj 0] (Kp 60129542162) (bl 0 [cv 4 (.l .i),cv 35 .i] (sq [qb 36 .lss 35 34] (Kp 128849018898) (.seq (ce 36 (Kp 60129542162) [1,4] 0) (.seq (.block 1 (sr [wn 37 [we (.st 2) 33 35,wK 10],qn [.alloc 6 AYF,qw 10 6 38]] (Kp 60129542226) (qr [wn 39 [wm 4,wo 0 6,wL,wo 1 6,wL,wo 2 6,wL,wI .add 1,wo 3 6,wL,wo 4 6,wL,wo 5 6,wL,wo 6 6,wL,wo 7 6,wL,wo 8 6,wL,wo 9 6,wL,wh (.CC · 10 .i [(0,(.tmp 41)),(1,(.tmp 43)),(2,(.tmp 46)),(3,(.tmp 48)),(4,(.tmp 50)),(5,(.tmp 52)),(6,(.tmp 54)),(7,(.tmp 56)),(8,(.tmp 58)),(9,(.tmp 60))]),wh (.app · .i true (.tmp 39) (.tmp 61))],qn [qa 4 62]] (Kp 60129542162)))) (q1 [qi 63 .add 35 1,qm 35 63] (Kp 60129542162))))))) (.join [cv 4 (.l .i)] (sw 64 [wo 12 1,wL,wZ,wj 0] [1,4,65,66,67] (bl 2 [cv 4 (.l .i),cv 67 .i] (sq [qb 68 .lss 67 66] [1,4,65,66,67,68] (.seq (ce 68 [1,4,65,66,67] [1,4] 2) (.seq (.block 3 (sr [wn 69 [we (.st 7) 65 67,wK 7],qn [.alloc 8 AYE,.Qn [(.cell 8 5,(.st 4)),(.cell 8 6,(.l (.st 5)))],qw 7 8 70]] [1,4,8,65,66,67] (qr [wn 71 [wm 4,wo 0 8,wO 1,wL,wh (.CC · 1 .i [(0,(.tmp 74))]),wh (.app · .i true (.tmp 71) (.tmp 75))],qn [qa 4 76]] [1,4,65,66,67]))) (q1 [qi 77 .add 67 1,qm 67 77] [1,4,65,66,67])))))) (sr [wn 78 [wm 4,wo 13 1,wL,wZ,wh (.CC · 1 .i [(0,(.tmp 81))]),wh (.app · .i true (.tmp 78) (.tmp 82))],qn [qa 4 83]] [1,4] (sr [wn 84 [wm 4,wo 13 1,wL,wh (.app · .i true (.tmp 84) (.tmp 86))],qn [qa 4 87]] [1,4] (.join [cv 4 (.l .i)] (sw 88 [wo 14 1,wL,wZ,wj 0] [4,89,90,91] (bl 4 [cv 4 (.l .i),cv 91 .i] (sq [qb 92 .lss 91 90] [4,89,90,91,92] (.seq (ce 92 [4,89,90,91] [4] 4) (.seq (.block 5 (sr [wn 93 [we .i 89 91,wL],qn [qa 10 94]] [4,10,89,90,91] (qr [wn 95 [wm 4,wm 10,wI .add 1,wh (.CC · 1 .i [(0,(.tmp 97))]),wh (.app · .i true (.tmp 95) (.tmp 98))],qn [qa 4 99]] [4,89,90,91]))) (q1 [qi 100 .add 91 1,qm 91 100] [4,89,90,91])))))) (sq [qm 101 4,qa 2 101] [2] .ret))))))))))⟩
def Abf:=AbH (.l .i)
def AA4(a:List Int):AA (List Int):=some a
def gj(h:AE)(g:List Int×Int->AA (List Int))(j:List Int×Int):AA (List Int):=let (a,c):=j;br (It (c<h.BD.length)) (bd (at? h.BD c) λe=>gd (g0 a+[w64 (e+1)].length<=lim) (g (a++[w64 (e+1)],w64 (c+1)))) (jn AA4 a)
def W4(c:AE)(a:List Int):AA (List Int):=gd (a.length+[(↑c.BF.length:Int)].length<=lim) (gd ((a++[(↑c.BF.length:Int)]).length+c.BF.length<=lim) (A9 (gj c) big (a++[(↑c.BF.length:Int)]++c.BF,0)))
def gi(e:AE)(h:List Int×Int->AA (List Int))(j:List Int×Int):AA (List Int):=let (g,a):=j;br (It (a<e.AJ.length)) (bd (at? e.AJ a) λc=>gd (g0 g+[c.AX.D7].length<=lim) (h (g++[c.AX.D7],w64 (a+1)))) (jn (W4 e) g)
def W0(a:AE)(c:List Int):AA (List Int):=A9 (gi a) big (c,0)
def gh(c:AE)(h:List Int×Int->AA (List Int))(j:List Int×Int):AA (List Int):=let (e,g):=j;br (It (g<c.AG.length)) (bd (at? c.AG g) λa=>gd (g0 e+[a.Id,a.AZ,w64 (a.B0+1),a.BL,a.DS,a.Since,a.A5,a.State,a.DO,a.Du].length<=lim) (h (e++[a.Id,a.AZ,w64 (a.B0+1),a.BL,a.DS,a.Since,a.A5,a.State,a.DO,a.Du],w64 (g+1)))) (jn (W0 c) e)
def AA3(a:AE):AA (List Int):=bd (SW a) λe=>br (!e) none (bd (qF a.AQ) λc=>gd ([(↑(g0 c):Int)].length+g0 c<=lim) (gd (([(↑(g0 c):Int)]++c).length+[a.Now,a.A5,(↑a.AG.length:Int)].length<=lim) (A9 (gh a) big ([(↑(g0 c):Int)]++c++[a.Now,a.A5,(↑a.AG.length:Int)],0))))
def AQe:GF:=Abf.ET (Bo AA3)
def AAe(e:Int×List UInt8):AA (List UInt8):=let (a,c):=e;gd (c.length+[toB a].length<=lim) (some (c++[toB a]))
def AAf(e:Int×List UInt8->AA (List UInt8))(g:Int×List UInt8):AA (List UInt8):=let (a,c):=g;br (It (a>=128)) (gd (c.length+[toB (w64 (s0 a 128+128))].length<=lim) (e (w64 (Int.tdiv a 128),c++[toB (w64 (s0 a 128+128))]))) (jn AAe (a,c))
def Wo(a:Int):AA (List UInt8):=bd (DN a 0 2147483647) λc=>br (!c) (some []) (A9 AAf big (a,[]))
def Zl:=gZ Pp (.ret [(.l .u)]) DZ ["LEMA17vmLtew86BOFc4dd7LtR955dJg8wMg7pW53pIfWieNkdA0YWBf4REyXpuW7OzSmbOuO88CLCCe6","1"] [FN] (Bo Wo)
def AAh(a:List UInt8):AA (List UInt8):=some a
def fj(e:List Int)(h:List UInt8×Int->AA (List UInt8))(q:List UInt8×Int):AA (List UInt8):=let (a,c):=q;br (It (c<e.length)) (bd (at? e c) λj=>bd (Wo j) λg=>gd (g0 a+g0 g<=lim) (h (a++g,w64 (c+1)))) (jn AAh a)
def AAg(a:List Int):AA (List UInt8):=A9 (fj a) big ([],0)
def ve:=gZ Zs Pq DZ ["3imVCR22hudfQd3uEIFzR39NiU0Z6ssA5Mf0KK8PNMslH7bO3uAMMC0UJqkgxMRPByGZH"] [Zl] (Bo AAg)
def fk(a:Int×Int->AA Int)(c e:Int):=a (e,w64 (c+1))
def AAj(a:Int×Int->AA Int)(c e:Int):=a (e,w64 (c+1))
def fq(g:Int×Int->AA Int)(h:Int)(e:Int×Int->AA Int)(j:Int×Int):AA Int:=let (a,c):=j;br (It (c<8)) (br (eW a 1==1) (jn (fk e c) (U5 (EF a 1) 3988292384)) (jn (fk e c) (EF a 1))) (jn (AAj g h) a)
def AAk(a:Int):AA Int:=some (U5 a 4294967295)
def fm(c:List UInt8)(g:Int×Int->AA Int)(j:Int×Int):AA Int:=let (e,a):=j;br (It (a<c.length)) (bd (at? c a) λh=>A9 (fq g a) big (U5 e (w64 (↑(s3 h):Int)),0)) (jn AAk e)
def AAi(a:List UInt8):AA Int:=A9 (fm a) big (4294967295,0)
def vf:=gZ Zt DQ DZ ["86fIJX9Zr3kcmE5lpcWrB31IbrJE42ZGRz7WIqDQk4OH2jNokUwunBJrArOb8QtouVO8f3N2MrdxFnrM","YZskiVNKROE3Lt1dcDie0H9auWgJPLsYMwnk1h1aLXbttNGz7N"] [] (Bo AAi)
def AbW:YF:=⟨[],[.v (.st 8),.v .i],[],.ret [.s],[.tmp 4],sq [qu 2 0,.as 4 (.k (.str []))] [1,2] (sr [wn 8 [wk 15 2,wY AQe rfl],qn [qa 5 9]] [1,5] (.seq (sr [wn 10 [wm 5,wh (.bin · .sl .eql (.tmp 10) (.k .nil)),wM],wf 12 13 [wm 1,wc FN rfl [13,qj 0,qj 1000000],wX],qn [qp 16 12 15]] [1,5,16] (cn 16 [1,5] (sq [.as 4 (.k (.str []))] [4] .ret))) (.seq (.Vi (.op 0 none [] (.mv 17 (.tmp 1)) (.op 3 none [] (.mv 20 (.tmp 5)) (qd 1 [wn 18 [wY Zl rfl,wh (.Pk · (.tmp 18))]] (.op 4 none [18] (.call 21 ve [] rfl [(.tmp 20)]) (qd 5 [qn [qb 22 .add 19 21,qa 6 22]] .nil))))) [6]) (sr [wn 23 [wm 6,wh (.Nf · (.tmp 23)),wY vf rfl],qn [qa 7 25]] [6,7] (sr [wn 26 [wm 7,wh (.bin · .num .shr (.tmp 26) (.k (.int .u64 24))),wh (.cvI · .u8 (.tmp 27)),wm 7,wh (.bin · .num .shr (.tmp 29) (.k (.int .u64 16))),wh (.cvI · .u8 (.tmp 30)),wm 7,wh (.bin · .num .shr (.tmp 32) (.k (.int .u64 8))),wh (.cvI · .u8 (.tmp 33)),wm 7,wh (.cvI · .u8 (.tmp 35)),wh (.CC · 4 .u [(0,(.tmp 28)),(1,(.tmp 31)),(2,(.tmp 34)),(3,(.tmp 36))]),wh (.Pk · (.tmp 37)),wm 6,wB .add 38],qn [qa 4 40]] [4] .ret)))))⟩
def py(j:AE)(g:Int):AA (List UInt8):=bd (AA3 j) λh=>gd (List.isEmpty h=L2) (bd (DN g 0 1000000) λq=>br (!q) (some []) (bd (Wo g) λc=>bd (AAg h) λe=>gd (g0 c+g0 e<=P0) (bd (AAi (c++e)) λa=>gd ([toB (EF a 24),toB (EF a 16),toB (EF a 8),toB a].length+(c++e).length<=P0) (some ([toB (EF a 24),toB (EF a 16),toB (EF a 8),toB a]++(c++e))))))
def AQT:GF:=AbW.ET (BA py)
def AbX:=AbH .z
def APP(a:List Int):AA PUnit:=none
def APS(h:AE)(g:List Int×Int->AA PUnit)(j:List Int×Int):AA PUnit:=let (a,c):=j;br (It (c<h.BD.length)) (bd (at? h.BD c) λe=>gd (g0 a+[w64 (e+1)].length<=lim) (g (a++[w64 (e+1)],w64 (c+1)))) (jn APP a)
def APO(c:AE)(a:List Int):AA PUnit:=gd (a.length+[(↑c.BF.length:Int)].length<=lim) (gd ((a++[(↑c.BF.length:Int)]).length+c.BF.length<=lim) (A9 (APS c) big (a++[(↑c.BF.length:Int)]++c.BF,0)))
def APR(e:AE)(h:List Int×Int->AA PUnit)(j:List Int×Int):AA PUnit:=let (g,a):=j;br (It (a<e.AJ.length)) (bd (at? e.AJ a) λc=>gd (g0 g+[c.AX.D7].length<=lim) (h (g++[c.AX.D7],w64 (a+1)))) (jn (APO e) g)
def APN(a:AE)(c:List Int):AA PUnit:=A9 (APR a) big (c,0)
def APQ(c:AE)(h:List Int×Int->AA PUnit)(j:List Int×Int):AA PUnit:=let (e,g):=j;br (It (g<c.AG.length)) (bd (at? c.AG g) λa=>gd (g0 e+[a.Id,a.AZ,w64 (a.B0+1),a.BL,a.DS,a.Since,a.A5,a.State,a.DO,a.Du].length<=lim) (h (e++[a.Id,a.AZ,w64 (a.B0+1),a.BL,a.DS,a.Since,a.A5,a.State,a.DO,a.Du],w64 (g+1)))) (jn (APN c) e)
def APM(a:AE):AA PUnit:=bd (SW a) λe=>br (!e) (some ()) (bd (qF a.AQ) λc=>gd ([(↑(g0 c):Int)].length+g0 c<=lim) (gd (([(↑(g0 c):Int)]++c).length+[a.Now,a.A5,(↑a.AG.length:Int)].length<=lim) (A9 (APQ a) big ([(↑(g0 c):Int)]++c++[a.Now,a.A5,(↑a.AG.length:Int)],0))))
def AQU:GF:=AbX.ET (Bo APM)
def AbY:YF:=⟨[],[.v (.st 8),.v .i],[],.ret [.s],[.tmp 4],sq [qu 2 0,.as 4 (.k (.str []))] [1,2] (sr [wn 8 [wk 15 2,wY AQU rfl],qn [qa 5 9]] [1,5] (.seq (sr [wn 10 [wm 5,wh (.bin · .sl .eql (.tmp 10) (.k .nil)),wM],wf 12 13 [wm 1,wc FN rfl [13,qj 0,qj 1000000],wX],qn [qp 16 12 15]] [1,5,16] (cn 16 [1,5] (sq [.as 4 (.k (.str []))] [4] .ret))) (.seq (.Vi (.op 0 none [] (.mv 17 (.tmp 1)) (.op 3 none [] (.mv 20 (.tmp 5)) (qd 1 [wn 18 [wY Zl rfl,wh (.Pk · (.tmp 18))]] (.op 4 none [18] (.call 21 ve [] rfl [(.tmp 20)]) (qd 5 [qn [qb 22 .add 19 21,qa 6 22]] .nil))))) [6]) (sr [wn 23 [wm 6,wh (.Nf · (.tmp 23)),wY vf rfl],qn [qa 7 25]] [6,7] (sr [wn 26 [wm 7,wh (.bin · .num .shr (.tmp 26) (.k (.int .u64 24))),wh (.cvI · .u8 (.tmp 27)),wm 7,wh (.bin · .num .shr (.tmp 29) (.k (.int .u64 16))),wh (.cvI · .u8 (.tmp 30)),wm 7,wh (.bin · .num .shr (.tmp 32) (.k (.int .u64 8))),wh (.cvI · .u8 (.tmp 33)),wm 7,wh (.cvI · .u8 (.tmp 35)),wh (.CC · 4 .u [(0,(.tmp 28)),(1,(.tmp 31)),(2,(.tmp 34)),(3,(.tmp 36))]),wh (.Pk · (.tmp 37)),wm 6,wB .add 38],qn [qa 4 40]] [4] .ret)))))⟩
def AIm(a:AE)(c:Int):AA (List UInt8):=bd (APM a) λe=>some []
def AQV:GF:=AbY.ET (BA AIm)
def pz(a:AE)(c:Int):AA (List UInt8):=orE (py a c) (AIm a c)
def AFj:GF:=AQT.orE (λa=>pz a.1 a.2.1) (λa=>AIm a.1 a.2.1) (λa=>by kernel_rfl) (λa r h=>Eq.mp (by kernel_rfl) (AQV.ok a r h))
def AAl(a:List Int):AA (List Int):=some a
def fv(h:AE)(g:List Int×Int->AA (List Int))(j:List Int×Int):AA (List Int):=let (a,c):=j;br (It (c<h.BD.length)) (bd (at? h.BD c) λe=>gd (g0 a+[w64 (e+1)].length<=lim) (g (a++[w64 (e+1)],w64 (c+1)))) (jn AAl a)
def Wq(c:AE)(a:List Int):AA (List Int):=gd (a.length+[(↑c.BF.length:Int)].length<=lim) (gd ((a++[(↑c.BF.length:Int)]).length+c.BF.length<=lim) (A9 (fv c) big (a++[(↑c.BF.length:Int)]++c.BF,0)))
def fu(e:AE)(h:List Int×Int->AA (List Int))(j:List Int×Int):AA (List Int):=let (g,a):=j;br (It (a<e.AJ.length)) (bd (at? e.AJ a) λc=>gd (g0 g+[c.AX.D7].length<=lim) (h (g++[c.AX.D7],w64 (a+1)))) (jn (Wq e) g)
def Wp(a:AE)(c:List Int):AA (List Int):=A9 (fu a) big (c,0)
def ft(c:AE)(h:List Int×Int->AA (List Int))(j:List Int×Int):AA (List Int):=let (e,g):=j;br (It (g<c.AG.length)) (bd (at? c.AG g) λa=>gd (g0 e+[a.Id,a.AZ,w64 (a.B0+1),a.BL,a.DS,a.Since,a.A5,a.State,a.DO,a.Du].length<=lim) (h (e++[a.Id,a.AZ,w64 (a.B0+1),a.BL,a.DS,a.Since,a.A5,a.State,a.DO,a.Du],w64 (g+1)))) (jn (Wp c) e)
def AIn(a:AE):AA (List Int):=bd (SW a) λe=>br (!e) (some []) (bd (qF a.AQ) λc=>gd ([(↑(g0 c):Int)].length+g0 c<=lim) (gd (([(↑(g0 c):Int)]++c).length+[a.Now,a.A5,(↑a.AG.length:Int)].length<=lim) (A9 (ft a) big ([(↑(g0 c):Int)]++c++[a.Now,a.A5,(↑a.AG.length:Int)],0))))
def AQW:=gZ YB Oc DZ ["9VzJGnvT5wM79SPMBPVQxDlebRNAzcV8IsUKkAkUUcbHLkVyEaOgqGyY4PwO5tPB3MRY6gvCSLGilssu","LArNNCvZFQNXXY2js6ACk6z8o4gSalVx71se9Qu0CtPIvuMDB3IxeigDEXQztM0VB1wdFFB3424uKFx2","DV1OwlwJyy7ohRa3a7vvWKE8Eo5E86anwljlyt2GKurvz7d98eon8Jx3HJLxf2Od7CCHrgGQBYRXwRXC","hpcvvELGf9ynEJ8wH0gR9agneFENAChyGZBZhJ4WiL2BFaMrkAFrANQAdEGUoUaVYCZL7IaaPFvmHEV4","aWjZNnQXF"] [TY,AFv] (Bo AIn)
def HK(a:AY):AA AY:=gd (0+a.AX.length<=lim) (some (AY.mk ([]++a.AX) a.Cd a.Room a.BL a.CK a.B7 a.Rest a.Cl a.C7))
def AFk:=gZ SY xK xN ["o2sPkLuP5vpdAKx4Ey5I56JJ"] [] (Bo HK)
def AIo(a:Int):AA (BO×Bool):=bd (AFU (BO.mk a 0 0 a 0)) λc=>br (!c) (some (BO.mk 0 0 0 0 0,L2)) (some (BO.mk a 0 0 a 0,L1))
def AQX:=gZ Pp Rh [.cell 2 (some 5),.tmp 3] ["4P2scbWWwIlB9JP3lWXiQ5SWKjvMD77nAiNrBZ5ueKp2"] [AK2] (Bo AIo)
def Abg:YF:=⟨[],[],[],.ret [(.st 6)],[.cell 0 (some 1)],dY ["nfMMtJ2svmqqmGJ8KfGe1Mxv5w4OIyzFQNAklUqqPJWKRAHL4tp120h3AZj7UYMxGPRoD"] []⟩
def ABD(a:A3):AA A3:=some a
def ABE(e:Int×A3->AA A3)(g:Int×A3):AA A3:=let (c,a):=g;br (It (c<9)) (gd (a.Aw.length+1<=lim) (e (w64 (c+1),A3.mk (a.Aw++[[]])))) (jn ABD a)
def ABC:AA A3:=A9 ABE big (0,A3.mk [])
def AF2:=Abg.gf rfl rfl (λa=>ABC) (λa=>by kernel_rfl)
def AIv(c:Int):AA (Ah×Bool):=bd (AIo c) λa=>br (!a.2) (some (Ah.mk (BO.mk 0 0 0 0 0) [] (A3.mk []),L2)) (bd ABC λe=>some (Ah.mk a.1 [] e,L1))
def AQh:=gZ Pp (.ret [(.st 7),.b]) [.cell 2 (some 7),.tmp 3] ["FqxmJUr5gCt1lrvOpwz5vLJ02965FNoWX0cvL8htD2wyYDgeyK7y5UCJM9Cpsqhv"] [AQX,AF2] (Bo AIv)
def ABH(a:AE):AA (AE×Bool):=some (a,L1)
def ABJ(g:AY)(e:Int×AE->AA (AE×Bool))(h:Int×AE):AA (AE×Bool):=let (c,a):=h;br (It (c<g.C7)) (gd (a.BD.length+[-1].length<=lim) (e (w64 (c+1),AE.mk a.AQ a.Now a.A5 a.AG a.AJ a.BF (a.BD++[-1])))) (jn ABH a)
def ABG(a:AY)(c:AE):AA (AE×Bool):=A9 (ABJ a) big (0,c)
def ABI(c:AY)(h:Int×AE->AA (AE×Bool))(q:Int×AE):AA (AE×Bool):=let (e,a):=q;br (It (e<c.AX.length)) (bd (at? c.AX e) λj=>bd (AIv j) λg=>gd (a.AJ.length+[g.1].length<=lim) (h (w64 (e+1),AE.mk a.AQ a.Now a.A5 a.AG (a.AJ++[g.1]) a.BF a.BD))) (jn (ABG c) a)
def ABF(a:AY):AA (AE×Bool):=bd (AAQ a) λc=>br (!c) (some (AE.mk (AY.mk [] 0 0 0 0 0 0 0 0) 0 0 [] [] [] [],L2)) (bd (HK a) λe=>A9 (ABI a) big (0,AE.mk e 0 1 [] [] [] []))
def AF3:=gZ SY AGq mC ["CSGiyleCO4krCVMp2xsGsVioiVxAQX4SeoCJ37IHuMNVv0YeFK5WXfRa9kYqRwsK1kB5GWCtKKHmHrgL","Va6gDS3laa3RdoWmPMe0tb9Zgx3jMcoIYQT9YLZZqggIs1ROb9q0VKsZfF6snHAS9CoNu4qNZrK6KOkS","tsNkEYCVDdcVjwjJa"] [sE,AFk,AQh] (Bo ABF)
def AIw(e:AY):AA (Az×Bool):=bd (ABF e) λa=>br (!a.2) (some (Az.mk (AE.mk (AY.mk [] 0 0 0 0 0 0 0 0) 0 0 [] [] [] []) (Bj.mk (Bp.mk [] 0) (Bp.mk [] 0) (Bp.mk [] 0)) 0 [],L2)) (bd (qE a.1 0) λc=>some (Az.mk a.1 (Bj.mk (Bp.mk [] 0) (Bp.mk c (↑(g0 c):Int)) (Bp.mk [] 0)) 0 [],L1))
def AQi:=gZ SY Tb Z8 ["1o8hTmbntiPbbGkd0YTFu2Y9Fe4VZhVvwRfXMf688Bwre6i0R09VuK148UYSX1bQOLBKc7RU3SIIut9o","rv3yAT"] [AF3,vk] (Bo AIw)
def Kv(a:List Int):AA (List Int):=gd (0+a.length<=lim) (some a)
def Vt:=gZ Zs Oc DZ ["51aaqFPYTtwQv"] [] (Bo Kv)
def qH(a:AY):AA AY:=bd (Kv a.AX) λc=>some (AY.mk c a.Cd a.Room a.BL a.CK a.B7 a.Rest a.Cl a.C7)
def AF4:=gZ SY xK xN ["GuPoSUNeOCvWbYmCtwdizv"] [Vt] (Bo qH)
def AIx(a:Int):AA (BO×Bool):=bd (Mi (BO.mk a 0 0 a 0)) λc=>br (!c) (some (BO.mk 0 0 0 0 0,L2)) (some (BO.mk a 0 0 a 0,L1))
def AQj:=gZ Pp Rh [.cell 2 (some 5),.tmp 3] ["4P2scbWWwIlB9JP3lWXiQ5SWKjvMD77nAiNrBZ5ueKp2"] [Rc] (Bo AIx)
def Abh:YF:=⟨[],[],[],.ret [(.st 6)],[.cell 0 (some 1)],dY ["2VpKL37sJMlZWK5c6EgUk"] [] [.Sg 1 (.l (.st 5)) (.k (.int .i64 9))]⟩
def AIy:AA A3:=some (A3.mk (s4 (v8 9) []))
def AF5:=Abh.gf rfl rfl (λa=>AIy) (λa=>by kernel_rfl)
def AIz(c:Int):AA (Ah×Bool):=bd (AIx c) λa=>br (!a.2) (some (Ah.mk (BO.mk 0 0 0 0 0) [] (A3.mk []),L2)) (bd AIy λe=>some (Ah.mk a.1 [] e,L1))
def AQk:=gZ Pp (.ret [(.st 7),.b]) [.cell 2 (some 7),.tmp 3] ["FqxmJUr5gCt1lrvOpwz5vLJ02965FNoWX0cvL8htD2wyYDgeyK7y5UCJM9Cpsqhv"] [AQj,AF5] (Bo AIz)
def ABM(a:AE):AA (AE×Bool):=some (a,L1)
def ABO(g:AY)(e:Int×AE->AA (AE×Bool))(h:Int×AE):AA (AE×Bool):=let (c,a):=h;br (It (c<g.C7)) (gd (a.BD.length+[-1].length<=lim) (e (w64 (c+1),AE.mk a.AQ a.Now a.A5 a.AG a.AJ a.BF (a.BD++[-1])))) (jn ABM a)
def ABL(a:AY)(c:AE):AA (AE×Bool):=A9 (ABO a) big (0,c)
def ABN(c:AY)(h:Int×AE->AA (AE×Bool))(q:Int×AE):AA (AE×Bool):=let (e,a):=q;br (It (e<c.AX.length)) (bd (at? c.AX e) λj=>bd (AIz j) λg=>gd (a.AJ.length+[g.1].length<=lim) (h (w64 (e+1),AE.mk a.AQ a.Now a.A5 a.AG (a.AJ++[g.1]) a.BF a.BD))) (jn (ABL c) a)
def ABK(a:AY):AA (AE×Bool):=bd (Wk a) λc=>br (!c) (some (AE.mk (AY.mk [] 0 0 0 0 0 0 0 0) 0 0 [] [] [] [],L2)) (bd (qH a) λe=>A9 (ABN a) big (0,AE.mk e 0 1 [] [] [] []))
def AF6:=gZ SY AGq mC ["6jeuP9HJXWMxljZvQg980ipuq5U01lFgEtAeFdqUNQFsx1pUNroEl3wtZrAyO1sz73WiwrExmhbK3fPt","aP5QpNTUTCRZQBwAnR1mQ54bfZh7bCKJ3MU34U82jXrHFivSZu7MBJmbEOkFHl2dfpSv6NmAwfE3WEle","vYFYMrCcu0MJFfHvTPhUYgoL"] [Vq,AF4,AQk] (Bo ABK)
def bV(a:Bp):AA Bp:=bd (QM a) λc=>br (!c) (some a) (some (Bp.mk a.Data (↑a.Data.length:Int)))
def lY:=gZ mA Z3 [.cell 2 (some 2)] ["1VYuHPrq95idB4MLZiIUBI5szGLXZBIcvWR"] [TZ] (Bo bV)
def AI0(c:AY):AA (Az×Bool):=bd (ABK c) λa=>br (!a.2) (some (Az.mk (AE.mk (AY.mk [] 0 0 0 0 0 0 0 0) 0 0 [] [] [] []) (Bj.mk (Bp.mk [] 0) (Bp.mk [] 0) (Bp.mk [] 0)) 0 [],L2)) (bd (pz a.1 0) λe=>bd (bV (Bp.mk e 0)) λg=>some (Az.mk a.1 (Bj.mk (Bp.mk [] 0) g (Bp.mk [] 0)) 0 [],L1))
def AQl:=gZ SY Tb Z8 ["16Cc1aLyA9dwVn9nwHcNicvA60IqllieeAcmlwyuN8btycgGt5gAYQCyI7W1TQjyq0ZhGEeoKMWFNZ"] [AF6,AFj,lY] (Bo AI0)
def ABP(c:AY):AA (BV×Bool):=bd (AIw c) λa=>br (!a.2) (some (BV.mk (Az.mk (AE.mk (AY.mk [] 0 0 0 0 0 0 0 0) 0 0 [] [] [] []) (Bj.mk (Bp.mk [] 0) (Bp.mk [] 0) (Bp.mk [] 0)) 0 []) [] [] 0,L2)) (some (BV.mk a.1 [] [] 0,L1))
def AF7:=gZ SY (.ret [(.st 13),.b]) ATQ ["F2bZTr1APmDpHqbPJBUsXlx5ninQbvZ3LselJ6m6BJNqnUYfsFDOaKkxf6R"] [AQi] (Bo ABP)
def ABQ(c:AY):AA (BV×Bool):=bd (AI0 c) λa=>br (!a.2) (some (BV.mk (Az.mk (AE.mk (AY.mk [] 0 0 0 0 0 0 0 0) 0 0 [] [] [] []) (Bj.mk (Bp.mk [] 0) (Bp.mk [] 0) (Bp.mk [] 0)) 0 []) [] [] 0,L2)) (some (BV.mk a.1 [] [] 0,L1))
def AF8:=gZ SY (.ret [(.st 13),.b]) ATQ ["F2bZTr1APmDpHqbPJBUsXlx5ninQbvZ3LselJ6m6BJNqnUYfsFDOaKkxf6R"] [AQl] (Bo ABQ)
def ABR(a:A3):AA A3:=some a
def ABS(g:A3)(h:Int×A3->AA A3)(j:Int×A3):AA A3:=let (a,c):=j;br (It (a<g.Aw.length)) (bd (at? g.Aw a) λe=>gd (0+g0 e<=lim) (gd (c.Aw.length+[[]++e].length<=lim) (h (w64 (a+1),A3.mk (c.Aw++[[]++e]))))) (jn ABR c)
def gw(a:A3):AA A3:=A9 (ABS a) big (0,A3.mk [])
def vm:=gZ Zq (.ret [(.st 6)]) [.cell 2 (some 1)] ["2KjrFg8LwBmT2tcZCwqt0m3OvaN6jkJVz95wrJ8vvF9Go4BH4Xf3a4qDE0pggFYQPcgQYG6gfrYfxV9s","nvj5ScqfOa4SNG0"] [] (Bo gw)
def AI1(a:Ah):AA Ah:=bd (uo a.Row) λc=>bd (gw a.B6) λe=>some (Ah.mk a.AX c e)
def AQm:=gZ xC (.ret [(.st 7)]) [.cell 2 (some 7)] ["dpwDgtgWrXmzyNlZHlT6UzehyklozVbKmuzsSM8sa0"] [AK3,vm] (Bo AI1)
def eL:Y.YOp []:=.app 19 .i L1 (.tmp 16) (.tmp 18)
def PX:Y.YOp []:=.app 15 (.st 2) L1 (.tmp 12) (.tmp 14)
def H3:Y.YOp []:=.call 7 AFk [] rfl [(.tmp 6)]
def ALY:Y.B4 []:=(.op 21 none [] (.st 15 (.tmp 3) (.tmp 24)) (.dr [5,6,7,8,9,10,11,12,13,14,15,16,17,18,19,20,21,22,23,24] .nil))
def Acx:=λa=>((.op 20 none [5,8,10,13,17,21] (.alloc 3 Er) (.nl [(.cell 3 0,.i),(.cell 3 11,(.st 2)),(.cell 3 12,(.st 7)),(.cell 3 13,.i),(.cell 3 14,.i)] a)):Y.B4 [])
def AXp:=Acx ALY
def Acy:=λa=>((.op 19 none [] (.build 24 Er [(0,9,(.tmp 7)),(9,1,(.tmp 9)),(10,1,(.tmp 11)),(11,1,(.tmp 15)),(13,1,(.tmp 19)),(14,1,(.tmp 23))]) (.nl [(.tmp 24 12,(.st 7))] a)):Y.B4 [])
def AXq:=Acy AXp
def AXr:Y.B4 []:=(.op 18 none [8,10] (.app 23 .i L1 (.tmp 20) (.tmp 22)) AXq)
def AXs:=Acy ALY
def yg:Y.B4 []:=(.op 18 none [8,10] (.app 23 .i L1 (.tmp 20) (.tmp 22)) AXs)
def AXt:=Acx yg
def Ac0:=λa b=>((.both 1 a b):Y.B4 [])
def ALZ:=Ac0 AXr AXt
def Ac1:=λa b c=>((.op a none [5,8,10,13,17,21] (.CC b 0 .i []) c):Y.B4 [])
def AXu:=Ac1 15 20 ALZ
def ALa:=Ac1 15 20 yg
def AUV:=Acx ALa
def AUW:=Ac0 AXu AUV
def AUX:Y.B4 []:=(.op 14 none [8,10,21] eL AUW)
def AUY:Y.B4 []:=(.op 14 none [8,10,21] eL ALZ)
def Ye:Y.B4 []:=(.op 14 none [8,10,21] eL yg)
def AUZ:=Acx Ye
def nI:=Ac0 AUY AUZ
def AUa:=Ac1 15 20 nI
def AUb:Y.B4 []:=(.op 14 none [8,10,21] eL ALa)
def AUc:=Ac1 15 20 Ye
def nJ:=Ac0 AUb AUc
def AUd:=Acx nJ
def AUe:=Ac0 AUa AUd
def AEP:=Ac0 AUX AUe
def AUf:=Ac1 11 16 AEP
def AUg:=Ac1 11 16 nI
def nK:=Ac1 11 16 Ye
def AUh:=Acx nK
def AEQ:=Ac0 AUg AUh
def AUi:=Ac1 15 20 AEQ
def AUj:=Ac1 11 16 nJ
def AUk:=Ac1 15 20 nK
def AER:=Ac0 AUj AUk
def AUl:=Acx AER
def AUm:=Ac0 AUi AUl
def AUn:=Ac0 AUf AUm
def Ac3:=λa=>((.op 10 none [8,10,17,21] PX a):Y.B4 [])
def AUo:=Ac3 AUn
def AUp:=Ac3 AEP
def AUq:=Ac3 nI
def T1:=Ac3 Ye
def AUr:=Acx T1
def Yf:=Ac0 AUq AUr
def AUs:=Ac1 15 20 Yf
def AUt:=Ac3 nJ
def AUu:=Ac1 15 20 T1
def Yg:=Ac0 AUt AUu
def AUv:=Acx Yg
def AUw:=Ac0 AUs AUv
def nL:=Ac0 AUp AUw
def AUx:=Ac1 11 16 nL
def AUy:=Ac3 AEQ
def AUz:=Ac1 11 16 Yf
def AU0:=Ac3 nK
def AU1:=Ac1 11 16 T1
def Yh:=Ac0 AU0 AU1
def AU2:=Acx Yh
def AU3:=Ac0 AUz AU2
def nM:=Ac0 AUy AU3
def AU4:=Ac1 15 20 nM
def AU5:=Ac3 AER
def AU6:=Ac1 11 16 Yg
def AU7:=Ac1 15 20 Yh
def AU8:=Ac0 AU6 AU7
def nN:=Ac0 AU5 AU8
def AU9:=Acx nN
def AVA:=Ac0 AU4 AU9
def AVB:=Ac0 AUx AVA
def AES:=Ac0 AUo AVB
def Ac4:=λa=>((.op 7 none [5,8,10,13,17,21] (.CC 12 0 (.st 2) []) a):Y.B4 [])
def AVC:=Ac4 AES
def AVD:=Ac4 nL
def AVE:=Ac4 Yf
def Yi:=Ac4 T1
def AVF:=Acx Yi
def nO:=Ac0 AVE AVF
def AVG:=Ac1 15 20 nO
def AVH:=Ac4 Yg
def AVI:=Ac1 15 20 Yi
def nP:=Ac0 AVH AVI
def AVJ:=Acx nP
def AVK:=Ac0 AVG AVJ
def AET:=Ac0 AVD AVK
def AVL:=Ac1 11 16 AET
def AVM:=Ac4 nM
def AVN:=Ac1 11 16 nO
def AVO:=Ac4 Yh
def AVP:=Ac1 11 16 Yi
def nQ:=Ac0 AVO AVP
def AVQ:=Acx nQ
def AVR:=Ac0 AVN AVQ
def AEU:=Ac0 AVM AVR
def AVS:=Ac1 15 20 AEU
def AVT:=Ac4 nN
def AVU:=Ac1 11 16 nP
def AVV:=Ac1 15 20 nQ
def AVW:=Ac0 AVU AVV
def AEV:=Ac0 AVT AVW
def AVX:=Acx AEV
def AVY:=Ac0 AVS AVX
def AVZ:=Ac0 AVL AVY
def AVa:=Ac0 AVC AVZ
def Ac5:=λa=>((.op 2 none [8,10,13,17,21] H3 a):Y.B4 [])
def AM2:=Ac5 AVa
def AM3:=Ac5 AES
def AM4:=Ac5 nL
def AM5:=Ac5 Yf
def Ur:=Ac5 T1
def AM6:=Acx Ur
def aj:=Ac0 AM5 AM6
def AM7:=Ac1 15 20 aj
def AM8:=Ac5 Yg
def AM9:=Ac1 15 20 Ur
def ak:=Ac0 AM8 AM9
def ANA:=Acx ak
def ANB:=Ac0 AM7 ANA
def sk:=Ac0 AM4 ANB
def ANC:=Ac1 11 16 sk
def AND:=Ac5 nM
def ANE:=Ac1 11 16 aj
def ANF:=Ac5 Yh
def ANG:=Ac1 11 16 Ur
def aq:=Ac0 ANF ANG
def ANH:=Acx aq
def ANI:=Ac0 ANE ANH
def su:=Ac0 AND ANI
def ANJ:=Ac1 15 20 su
def ANK:=Ac5 nN
def ANL:=Ac1 11 16 ak
def ANM:=Ac1 15 20 aq
def ANN:=Ac0 ANL ANM
def sv:=Ac0 ANK ANN
def ANO:=Acx sv
def ANP:=Ac0 ANJ ANO
def ANQ:=Ac0 ANC ANP
def ANR:=Ac0 AM3 ANQ
def ANS:=Ac4 ANR
def ANT:=Ac5 AET
def ANU:=Ac4 sk
def ANV:=Ac5 nO
def ANW:=Ac4 aj
def ANX:=Ac5 Yi
def ANY:=Ac4 Ur
def ar:=Ac0 ANX ANY
def ANZ:=Acx ar
def ANa:=Ac0 ANW ANZ
def sx:=Ac0 ANV ANa
def ANb:=Ac1 15 20 sx
def ANc:=Ac5 nP
def ANd:=Ac4 ak
def ANe:=Ac1 15 20 ar
def ANf:=Ac0 ANd ANe
def sy:=Ac0 ANc ANf
def ANg:=Acx sy
def ANh:=Ac0 ANb ANg
def ANi:=Ac0 ANU ANh
def ANj:=Ac0 ANT ANi
def ANk:=Ac1 11 16 ANj
def ANl:=Ac5 AEU
def ANm:=Ac4 su
def ANn:=Ac1 11 16 sx
def ANo:=Ac5 nQ
def ANp:=Ac4 aq
def ANq:=Ac1 11 16 ar
def ANr:=Ac0 ANp ANq
def s5:=Ac0 ANo ANr
def ANs:=Acx s5
def ANt:=Ac0 ANn ANs
def ANu:=Ac0 ANm ANt
def ANv:=Ac0 ANl ANu
def ANw:=Ac1 15 20 ANv
def ANx:=Ac5 AEV
def ANy:=Ac4 sv
def ANz:=Ac1 11 16 sy
def AN0:=Ac1 15 20 s5
def AN1:=Ac0 ANz AN0
def AN2:=Ac0 ANy AN1
def AN3:=Ac0 ANx AN2
def AN4:=Acx AN3
def AN5:=Ac0 ANw AN4
def AN6:=Ac0 ANk AN5
def AN7:=Ac0 ANS AN6
def AN8:=Ac0 AM2 AN7
def AN9:Y.B4 []:=(.op 17 none [] (.ld 22 none (.tmp 21)) AN8)
def AOA:Y.B4 []:=(.op 16 none [] (.fa 21 14 (.tmp 1)) AN9)
def AOB:Y.B4 []:=(.op 13 none [] (.ld 18 none (.tmp 17)) AOA)
def AOC:Y.B4 []:=(.op 12 none [] (.fa 17 13 (.tmp 1)) AOB)
def AOD:Y.B4 []:=(.op 9 none [] (.ld 14 none (.tmp 13)) AOC)
def AOE:Y.B4 []:=(.op 8 none [] (.fa 13 11 (.tmp 1)) AOD)
def AOF:Y.B4 []:=(.op 6 none [] (.ld 11 none (.tmp 10)) AOE)
def AOG:Y.B4 []:=(.op 5 none [] (.fa 10 10 (.tmp 1)) AOF)
def AOH:Y.B4 []:=(.op 4 none [] (.ld 9 none (.tmp 8)) AOG)
def AOI:Y.B4 []:=(.op 3 none [] (.fa 8 9 (.tmp 1)) AOH)
def AOJ:Y.B4 []:=(.op 1 none [] (.ld 6 (some 9) (.tmp 5)) AOI)
def AOK:Y.B4 []:=(.op 0 none [] (.fa 5 0 (.tmp 1)) AOJ)
def Abi:YF:=⟨[],[.v (.st 8)],[],.ret [(.st 8)],[.cell 2 (some 15)],sq [qu 1 0,.alloc 2 Er,.Qn [(.cell 2 0,.i),(.cell 2 11,(.st 2)),(.cell 2 12,(.st 7)),(.cell 2 13,.i),(.cell 2 14,.i)]] [1,2] (.seq (.Vi AOK [1,2,3]) (.join [cx 3 (.st 8)] (sq [qK 4 0] (Kp 30) (bl 0 [cv 4 .i,cx 3 (.st 8)] (.seq (sw 25 [wm 4,wo 12 1,wL,wZ,wB .lss 25] (Kp 536870942) (ce 29 (Kp 30) [2,3] 0)) (.seq (.block 1 (.Vi (qd 0 [wn 32 [wo 12 3,wL,wo 12 1,wL,wm 4,wE (.st 7) 35,wK 7]] (.op 7 none [32] (.call 39 AQm [] rfl [(.tmp 38)]) (.op 8 none [32] (.CC 40 1 (.st 7) [(0,(.tmp 39))]) (qd 9 [wn 41 [wh (.app · (.st 7) false (.tmp 33) (.tmp 40)),wo 12 3],qn [qw 1 42 41]] .nil)))) [1,2,3,4])) (qr [wn 30 [wm 4,wI .add 1],qn [qa 4 31]] (Kp 30)))))) (sq [qL 43 15 3,qw 15 2 43] [2] .ret)))⟩
def DU(a:AE)(c:AY)(X2:AA AE):AA AE:=gd (0+a.BD.length<=lim) (Cg c c (ev6 a.Now a.A5 ([]++a.AG) ([]:List Ah) ([]++a.BF) ([]++a.BD) X2))
def Cf(a:AE)(c:AY)(X4:AA AE):AA AE:=gd (0+a.BF.length<=lim) (gd (0+a.BD.length<=lim) (Cg c c (ev6 a.Now a.A5 ([]++a.AG) ([]:List Ah) ([]++a.BF) ([]++a.BD) X4)))
def ABT(a:AE)(c:AY)(X5:AA AE):AA AE:=gd (0+a.BF.length<=lim) (gd (0+a.BD.length<=lim) (alt (Cf a c) (Cg c c (ev6 a.Now a.A5 ([]++a.AG) ([]:List Ah) ([]++a.BF) ([]++a.BD) X5))))
def Ml(a:AE)(c:AY)(X3:AA AE):AA AE:=gd (0+a.BF.length<=lim) (gd (0+a.BD.length<=lim) (alt (DU a c) (alt (Cf a c) (alt (ABT a c) (Cg c c (ev6 a.Now a.A5 ([]++a.AG) ([]:List Ah) ([]++a.BF) ([]++a.BD) X3))))))
def ABU(a:AE)(c:AY)(X7:AA AE):AA AE:=gd (0+a.BF.length<=lim) (gd (0+a.BD.length<=lim) (alt (Cf a c) (alt (Cf a c) (Cg c c (ev6 a.Now a.A5 ([]++a.AG) ([]:List Ah) ([]++a.BF) ([]++a.BD) X7)))))
def gx(a:AE)(c:AY)(X6:AA AE):AA AE:=gd (0+a.BF.length<=lim) (gd (0+a.BD.length<=lim) (alt (DU a c) (alt (Cf a c) (alt (Cf a c) (alt (ABU a c) (Cg c c (ev6 a.Now a.A5 ([]++a.AG) ([]:List Ah) ([]++a.BF) ([]++a.BD) X6)))))))
def DI(a:AE)(c:AY)(X10:AA AE):AA AE:=gd (0+a.AG.length<=lim) (gd (0+a.BF.length<=lim) (gd (0+a.BD.length<=lim) (Cg c c (ev6 a.Now a.A5 ([]++a.AG) ([]:List Ah) ([]++a.BF) ([]++a.BD) X10))))
def qI(a:AE)(c:AY)(X11:AA AE):AA AE:=gd (0+a.AG.length<=lim) (gd (0+a.BF.length<=lim) (gd (0+a.BD.length<=lim) (alt (Cf a c) (alt (DI a c) (Cg c c (ev6 a.Now a.A5 ([]++a.AG) ([]:List Ah) ([]++a.BF) ([]++a.BD) X11))))))
def QR(a:AE)(c:AY)(X9:AA AE):AA AE:=gd (0+a.AG.length<=lim) (gd (0+a.BF.length<=lim) (gd (0+a.BD.length<=lim) (alt (DU a c) (alt (Cf a c) (alt (DI a c) (alt (qI a c) (Cg c c (ev6 a.Now a.A5 ([]++a.AG) ([]:List Ah) ([]++a.BF) ([]++a.BD) X9))))))))
def ZP(a:AE)(c:AY)(X14:AA AE):AA AE:=gd (0+a.AG.length<=lim) (gd (0+a.BF.length<=lim) (gd (0+a.BD.length<=lim) (alt (DI a c) (Cg c c (ev6 a.Now a.A5 ([]++a.AG) ([]:List Ah) ([]++a.BF) ([]++a.BD) X14)))))
def N3(a:AE)(c:AY)(X13:AA AE):AA AE:=gd (0+a.AG.length<=lim) (gd (0+a.BF.length<=lim) (gd (0+a.BD.length<=lim) (alt (DU a c) (alt (Cf a c) (alt (DI a c) (alt (ZP a c) (Cg c c (ev6 a.Now a.A5 ([]++a.AG) ([]:List Ah) ([]++a.BF) ([]++a.BD) X13))))))))
def N4(a:AE)(c:AY)(X16:AA AE):AA AE:=gd (0+a.AG.length<=lim) (gd (0+a.BF.length<=lim) (gd (0+a.BD.length<=lim) (alt (Cf a c) (alt (DI a c) (alt (ZP a c) (Cg c c (ev6 a.Now a.A5 ([]++a.AG) ([]:List Ah) ([]++a.BF) ([]++a.BD) X16)))))))
def qM(a:AE)(c:AY)(X15:AA AE):AA AE:=gd (0+a.AG.length<=lim) (gd (0+a.BF.length<=lim) (gd (0+a.BD.length<=lim) (alt (Cf a c) (alt (Cf a c) (alt (N4 a c) (Cg c c (ev6 a.Now a.A5 ([]++a.AG) ([]:List Ah) ([]++a.BF) ([]++a.BD) X15)))))))
def qJ(a:AE)(c:AY)(X12:AA AE):AA AE:=gd (0+a.AG.length<=lim) (gd (0+a.BF.length<=lim) (gd (0+a.BD.length<=lim) (alt (DU a c) (alt (Cf a c) (alt (Cf a c) (alt (N3 a c) (alt (qM a c) (Cg c c (ev6 a.Now a.A5 ([]++a.AG) ([]:List Ah) ([]++a.BF) ([]++a.BD) X12)))))))))
def gy(a:AE)(c:AY)(X8:AA AE):AA AE:=gd (0+a.AG.length<=lim) (gd (0+a.BF.length<=lim) (gd (0+a.BD.length<=lim) (alt (DU a c) (alt (DU a c) (alt (Ml a c) (alt (QR a c) (alt (qJ a c) (Cg c c (ev6 a.Now a.A5 ([]++a.AG) ([]:List Ah) ([]++a.BF) ([]++a.BD) X8)))))))))
def qO(a:AE)(c:AY)(X19:AA AE):AA AE:=gd (0+a.AG.length<=lim) (gd (0+a.BF.length<=lim) (gd (0+a.BD.length<=lim) (alt (Cf a c) (alt (DI a c) (alt (DI a c) (Cg c c (ev6 a.Now a.A5 ([]++a.AG) ([]:List Ah) ([]++a.BF) ([]++a.BD) X19)))))))
def ZQ(a:AE)(c:AY)(X18:AA AE):AA AE:=gd (0+a.AG.length<=lim) (gd (0+a.BF.length<=lim) (gd (0+a.BD.length<=lim) (alt (DU a c) (alt (Cf a c) (alt (DI a c) (alt (DI a c) (alt (qO a c) (Cg c c (ev6 a.Now a.A5 ([]++a.AG) ([]:List Ah) ([]++a.BF) ([]++a.BD) X18)))))))))
def ZS(a:AE)(c:AY)(X22:AA AE):AA AE:=gd (0+a.AG.length<=lim) (gd (0+a.BF.length<=lim) (gd (0+a.BD.length<=lim) (alt (DI a c) (alt (DI a c) (Cg c c (ev6 a.Now a.A5 ([]++a.AG) ([]:List Ah) ([]++a.BF) ([]++a.BD) X22))))))
def ZR(a:AE)(c:AY)(X21:AA AE):AA AE:=gd (0+a.AG.length<=lim) (gd (0+a.BF.length<=lim) (gd (0+a.BD.length<=lim) (alt (DU a c) (alt (Cf a c) (alt (DI a c) (alt (DI a c) (alt (ZS a c) (Cg c c (ev6 a.Now a.A5 ([]++a.AG) ([]:List Ah) ([]++a.BF) ([]++a.BD) X21)))))))))
def ZT(a:AE)(c:AY)(X24:AA AE):AA AE:=gd (0+a.AG.length<=lim) (gd (0+a.BF.length<=lim) (gd (0+a.BD.length<=lim) (alt (Cf a c) (alt (DI a c) (alt (DI a c) (alt (ZS a c) (Cg c c (ev6 a.Now a.A5 ([]++a.AG) ([]:List Ah) ([]++a.BF) ([]++a.BD) X24))))))))
def qQ(a:AE)(c:AY)(X23:AA AE):AA AE:=gd (0+a.AG.length<=lim) (gd (0+a.BF.length<=lim) (gd (0+a.BD.length<=lim) (alt (Cf a c) (alt (Cf a c) (alt (N4 a c) (alt (ZT a c) (Cg c c (ev6 a.Now a.A5 ([]++a.AG) ([]:List Ah) ([]++a.BF) ([]++a.BD) X23))))))))
def qP(a:AE)(c:AY)(X20:AA AE):AA AE:=gd (0+a.AG.length<=lim) (gd (0+a.BF.length<=lim) (gd (0+a.BD.length<=lim) (alt (DU a c) (alt (Cf a c) (alt (Cf a c) (alt (N3 a c) (alt (ZR a c) (alt (qQ a c) (Cg c c (ev6 a.Now a.A5 ([]++a.AG) ([]:List Ah) ([]++a.BF) ([]++a.BD) X20))))))))))
def qN(a:AE)(c:AY)(X17:AA AE):AA AE:=gd (0+a.AG.length<=lim) (gd (0+a.BF.length<=lim) (gd (0+a.BD.length<=lim) (alt (DU a c) (alt (DU a c) (alt (Ml a c) (alt (QR a c) (alt (ZQ a c) (alt (qP a c) (Cg c c (ev6 a.Now a.A5 ([]++a.AG) ([]:List Ah) ([]++a.BF) ([]++a.BD) X17))))))))))
def Iv(a:AE)(c:AY)(X31:AA AE):AA AE:=bd (HK a.AQ) λe=>gd (0+a.AG.length<=lim) (gd (0+a.BF.length<=lim) (gd (0+a.BD.length<=lim) (Cg c e (ev6 a.Now a.A5 ([]++a.AG) ([]:List Ah) ([]++a.BF) ([]++a.BD) X31))))
def qT(a:AE)(e:AY)(X33:AA AE):AA AE:=bd (HK a.AQ) λc=>gd (0+a.AG.length<=lim) (gd (0+a.BF.length<=lim) (gd (0+a.BD.length<=lim) (alt (Cf a c) (alt (DI a c) (alt (Iv a c) (Cg e c (ev6 a.Now a.A5 ([]++a.AG) ([]:List Ah) ([]++a.BF) ([]++a.BD) X33)))))))
def ZU(a:AE)(e:AY)(X29:AA AE):AA AE:=bd (HK a.AQ) λc=>gd (0+a.AG.length<=lim) (gd (0+a.BF.length<=lim) (gd (0+a.BD.length<=lim) (alt (DU a c) (alt (Cf a c) (alt (DI a c) (alt (Iv a c) (alt (qT a c) (Cg e c (ev6 a.Now a.A5 ([]++a.AG) ([]:List Ah) ([]++a.BF) ([]++a.BD) X29)))))))))
def ZW(a:AE)(e:AY)(X39:AA AE):AA AE:=bd (HK a.AQ) λc=>gd (0+a.AG.length<=lim) (gd (0+a.BF.length<=lim) (gd (0+a.BD.length<=lim) (alt (DI a c) (alt (Iv a c) (Cg e c (ev6 a.Now a.A5 ([]++a.AG) ([]:List Ah) ([]++a.BF) ([]++a.BD) X39))))))
def ZV(a:AE)(e:AY)(X37:AA AE):AA AE:=bd (HK a.AQ) λc=>gd (0+a.AG.length<=lim) (gd (0+a.BF.length<=lim) (gd (0+a.BD.length<=lim) (alt (DU a c) (alt (Cf a c) (alt (DI a c) (alt (Iv a c) (alt (ZW a c) (Cg e c (ev6 a.Now a.A5 ([]++a.AG) ([]:List Ah) ([]++a.BF) ([]++a.BD) X37)))))))))
def ZX(a:AE)(e:AY)(X43:AA AE):AA AE:=bd (HK a.AQ) λc=>gd (0+a.AG.length<=lim) (gd (0+a.BF.length<=lim) (gd (0+a.BD.length<=lim) (alt (Cf a c) (alt (DI a c) (alt (Iv a c) (alt (ZW a c) (Cg e c (ev6 a.Now a.A5 ([]++a.AG) ([]:List Ah) ([]++a.BF) ([]++a.BD) X43))))))))
def qV(a:AE)(e:AY)(X41:AA AE):AA AE:=bd (HK a.AQ) λc=>gd (0+a.AG.length<=lim) (gd (0+a.BF.length<=lim) (gd (0+a.BD.length<=lim) (alt (Cf a c) (alt (Cf a c) (alt (N4 a c) (alt (ZX a c) (Cg e c (ev6 a.Now a.A5 ([]++a.AG) ([]:List Ah) ([]++a.BF) ([]++a.BD) X41))))))))
def qU(a:AE)(e:AY)(X35:AA AE):AA AE:=bd (HK a.AQ) λc=>gd (0+a.AG.length<=lim) (gd (0+a.BF.length<=lim) (gd (0+a.BD.length<=lim) (alt (DU a c) (alt (Cf a c) (alt (Cf a c) (alt (N3 a c) (alt (ZV a c) (alt (qV a c) (Cg e c (ev6 a.Now a.A5 ([]++a.AG) ([]:List Ah) ([]++a.BF) ([]++a.BD) X35))))))))))
def qS(a:AE)(e:AY)(X27:AA AE):AA AE:=bd (HK a.AQ) λc=>gd (0+a.AG.length<=lim) (gd (0+a.BF.length<=lim) (gd (0+a.BD.length<=lim) (alt (DU a c) (alt (DU a c) (alt (Ml a c) (alt (QR a c) (alt (ZU a c) (alt (qU a c) (Cg e c (ev6 a.Now a.A5 ([]++a.AG) ([]:List Ah) ([]++a.BF) ([]++a.BD) X27))))))))))
def UZ(a:AE)(e:AY)(X53:AA AE):AA AE:=bd (HK a.AQ) λc=>gd (0+a.AG.length<=lim) (gd (0+a.BF.length<=lim) (gd (0+a.BD.length<=lim) (alt (Iv a c) (Cg e c (ev6 a.Now a.A5 ([]++a.AG) ([]:List Ah) ([]++a.BF) ([]++a.BD) X53)))))
def ZY(a:AE)(e:AY)(X51:AA AE):AA AE:=bd (HK a.AQ) λc=>gd (0+a.AG.length<=lim) (gd (0+a.BF.length<=lim) (gd (0+a.BD.length<=lim) (alt (DU a c) (alt (Cf a c) (alt (DI a c) (alt (Iv a c) (alt (UZ a c) (Cg e c (ev6 a.Now a.A5 ([]++a.AG) ([]:List Ah) ([]++a.BF) ([]++a.BD) X51)))))))))
def ZZ(a:AE)(e:AY)(X57:AA AE):AA AE:=bd (HK a.AQ) λc=>gd (0+a.AG.length<=lim) (gd (0+a.BF.length<=lim) (gd (0+a.BD.length<=lim) (alt (Cf a c) (alt (DI a c) (alt (Iv a c) (alt (UZ a c) (Cg e c (ev6 a.Now a.A5 ([]++a.AG) ([]:List Ah) ([]++a.BF) ([]++a.BD) X57))))))))
def qZ(a:AE)(e:AY)(X55:AA AE):AA AE:=bd (HK a.AQ) λc=>gd (0+a.AG.length<=lim) (gd (0+a.BF.length<=lim) (gd (0+a.BD.length<=lim) (alt (Cf a c) (alt (DI a c) (alt (DI a c) (alt (ZZ a c) (Cg e c (ev6 a.Now a.A5 ([]++a.AG) ([]:List Ah) ([]++a.BF) ([]++a.BD) X55))))))))
def qY(a:AE)(e:AY)(X49:AA AE):AA AE:=bd (HK a.AQ) λc=>gd (0+a.AG.length<=lim) (gd (0+a.BF.length<=lim) (gd (0+a.BD.length<=lim) (alt (DU a c) (alt (Cf a c) (alt (DI a c) (alt (DI a c) (alt (ZY a c) (alt (qZ a c) (Cg e c (ev6 a.Now a.A5 ([]++a.AG) ([]:List Ah) ([]++a.BF) ([]++a.BD) X49))))))))))
def qX(a:AE)(e:AY)(X47:AA AE):AA AE:=bd (HK a.AQ) λc=>gd (0+a.AG.length<=lim) (gd (0+a.BF.length<=lim) (gd (0+a.BD.length<=lim) (alt (DU a c) (alt (DU a c) (alt (Ml a c) (alt (QR a c) (alt (ZU a c) (alt (qY a c) (Cg e c (ev6 a.Now a.A5 ([]++a.AG) ([]:List Ah) ([]++a.BF) ([]++a.BD) X47))))))))))
def qy(a:AE)(e:AY)(X67:AA AE):AA AE:=bd (HK a.AQ) λc=>gd (0+a.AG.length<=lim) (gd (0+a.BF.length<=lim) (gd (0+a.BD.length<=lim) (alt (DI a c) (alt (Iv a c) (alt (UZ a c) (Cg e c (ev6 a.Now a.A5 ([]++a.AG) ([]:List Ah) ([]++a.BF) ([]++a.BD) X67)))))))
def Za(a:AE)(e:AY)(X65:AA AE):AA AE:=bd (HK a.AQ) λc=>gd (0+a.AG.length<=lim) (gd (0+a.BF.length<=lim) (gd (0+a.BD.length<=lim) (alt (DI a c) (alt (DI a c) (alt (qy a c) (Cg e c (ev6 a.Now a.A5 ([]++a.AG) ([]:List Ah) ([]++a.BF) ([]++a.BD) X65)))))))
def qv(a:AE)(e:AY)(X63:AA AE):AA AE:=bd (HK a.AQ) λc=>gd (0+a.AG.length<=lim) (gd (0+a.BF.length<=lim) (gd (0+a.BD.length<=lim) (alt (DU a c) (alt (Cf a c) (alt (DI a c) (alt (DI a c) (alt (ZY a c) (alt (Za a c) (Cg e c (ev6 a.Now a.A5 ([]++a.AG) ([]:List Ah) ([]++a.BF) ([]++a.BD) X63))))))))))
def qh(a:AE)(e:AY)(X61:AA AE):AA AE:=bd (HK a.AQ) λc=>gd (0+a.AG.length<=lim) (gd (0+a.BF.length<=lim) (gd (0+a.BD.length<=lim) (alt (DU a c) (alt (Cf a c) (alt (Cf a c) (alt (N3 a c) (alt (ZV a c) (alt (qv a c) (Cg e c (ev6 a.Now a.A5 ([]++a.AG) ([]:List Ah) ([]++a.BF) ([]++a.BD) X61))))))))))
def rC(a:AE)(e:AY)(X73:AA AE):AA AE:=bd (HK a.AQ) λc=>gd (0+a.AG.length<=lim) (gd (0+a.BF.length<=lim) (gd (0+a.BD.length<=lim) (alt (Cf a c) (alt (DI a c) (alt (DI a c) (alt (ZZ a c) (alt (Za a c) (Cg e c (ev6 a.Now a.A5 ([]++a.AG) ([]:List Ah) ([]++a.BF) ([]++a.BD) X73)))))))))
def rB(a:AE)(e:AY)(X71:AA AE):AA AE:=bd (HK a.AQ) λc=>gd (0+a.AG.length<=lim) (gd (0+a.BF.length<=lim) (gd (0+a.BD.length<=lim) (alt (Cf a c) (alt (Cf a c) (alt (N4 a c) (alt (ZX a c) (alt (rC a c) (Cg e c (ev6 a.Now a.A5 ([]++a.AG) ([]:List Ah) ([]++a.BF) ([]++a.BD) X71)))))))))
def rA(a:AE)(e:AY)(X69:AA AE):AA AE:=bd (HK a.AQ) λc=>gd (0+a.AG.length<=lim) (gd (0+a.BF.length<=lim) (gd (0+a.BD.length<=lim) (alt (Cf a c) (alt (Cf a c) (alt (N4 a c) (alt (ZT a c) (alt (rB a c) (Cg e c (ev6 a.Now a.A5 ([]++a.AG) ([]:List Ah) ([]++a.BF) ([]++a.BD) X69)))))))))
def qg(c:AE)(e:AY)(X59:AA AE):AA AE:=bd (HK c.AQ) λa=>gd (0+c.AG.length<=lim) (gd (0+c.BF.length<=lim) (gd (0+c.BD.length<=lim) (alt (DU c a) (alt (Cf c a) (alt (Cf c a) (alt (N3 c a) (alt (ZR c a) (alt (qh c a) (alt (rA c a) (Cg e a (ev6 c.Now c.A5 ([]++c.AG) ([]:List Ah) ([]++c.BF) ([]++c.BD) X59)))))))))))
def qW(c:AE)(e:AY)(X45:AA AE):AA AE:=bd (HK c.AQ) λa=>gd (0+c.AG.length<=lim) (gd (0+c.BF.length<=lim) (gd (0+c.BD.length<=lim) (alt (DU c a) (alt (DU c a) (alt (Ml c a) (alt (QR c a) (alt (ZQ c a) (alt (qX c a) (alt (qg c a) (Cg e a (ev6 c.Now c.A5 ([]++c.AG) ([]:List Ah) ([]++c.BF) ([]++c.BD) X45)))))))))))
def qR(c:AE)(e:AY)(X25:AA AE):AA AE:=bd (HK c.AQ) λa=>gd (0+c.AG.length<=lim) (gd (0+c.BF.length<=lim) (gd (0+c.BD.length<=lim) (alt (DU c a) (alt (DU c a) (alt (Ml c a) (alt (gx c a) (alt (gy c a) (alt (qS c a) (alt (qW c a) (Cg e a (ev6 c.Now c.A5 ([]++c.AG) ([]:List Ah) ([]++c.BF) ([]++c.BD) X25)))))))))))
def rD(a:AE):AA AE:=some a
def Zb(j:AE)(g:Int×AE->AA AE)(q:Int×AE):AA AE:=let (c,a):=q;br (It (c<j.AJ.length)) (bd (at? j.AJ c) λh=>bd (AI1 h) λe=>gd (a.AJ.length+[e].length<=lim) (g (w64 (c+1),AE.mk a.AQ a.Now a.A5 a.AG (a.AJ++[e]) a.BF a.BD))) (jn rD a)
def OS(a:AE):AA AE:=bd (HK a.AQ) λc=>gd (0+a.AG.length<=lim) (gd (0+a.BF.length<=lim) (gd (0+a.BD.length<=lim) (alt (DU a c) (alt (DU a c) (alt (Ml a c) (alt (gx a c) (alt (gy a c) (alt (qN a c) (alt (qR a c) (A9 (Zb a) big (0,AE.mk c a.Now a.A5 ([]++a.AG) [] ([]++a.BF) ([]++a.BD))))))))))))
def M9:GF:=Abi.ET (Bo OS)
def U9(a:Az):AA Az:=bd (OS a.Ax) λc=>gd (0+a.Laid.length<=lim) (bd (OS a.Ax) λe=>gd (0+a.Laid.length<=lim) (Kc c e (zU a.Aq a.Aq (ev2 a.Seq ([]++a.Laid) (some (Az.mk c a.Aq a.Seq ([]++a.Laid)))))))
def Zn:=gZ Zr (.ret [(.st 11)]) [.cell 2 (some 23)] ["HZJ6wP5AXPPlaJwKiEGPZ1HdqVNnyIxkQSiOHp0fv2K3Fqq1NJhFuDsJr7PEd9X5p080UxYJSg59Rh6H","eRZ019EdZ5k4DIlq5r86pueq3iEasD0Xg6R"] [M9] (Bo U9)
def ABV(a:Bq):AA (List UInt8):=bd (uX a) λc=>br (!c) (some []) (br (a.Kind==1) (bd (bS ([a.Kind,a.Id,a.AZ,w64 (a.B0+1),a.BL,a.DS])) λe=>some e) (br (a.Kind==3) (bd (bS ([a.Kind,a.AZ,a.BL])) λg=>some g) (br (a.Kind==6) (bd (bS [a.Kind]) λh=>some h) (bd (bS ([a.Kind,a.Id])) λj=>some j))))
def AF9:=gZ [.v (.st 0)] Pq DZ ["1ThVQTHCOtU9F9eLnLtjDJeuaJsmESbkTh4SL9sdzjTtJszwv5jKswhna6vh4vNB6sNLGJBQy1vThnMt","LPJ8Y7AkWfryOjQMlgPcuqzI1fP6PznnFRt0NCbWGtSmPfJqK4"] [ADa,AFs] (Bo ABV)
def gz(h:Int)(a:List UInt8)(j:Bool):AA (List UInt8):=br j (some []) (bd (gV h) λc=>gd (g0 c+a.length<=P0) (bd (AAz (c++a)) λq=>bd (AA2 q) λe=>gd (g0 e+(c++a).length<=P0) (bd (gV (↑(e++(c++a)).length:Int)) λg=>gd (g0 g+(e++(c++a)).length<=P0) (some (g++(e++(c++a)))))))
def ABW(a:Int)(c:List UInt8):AA (List UInt8):=bd (Ew a 1 1000000) λe=>br (!e) (jn (gz a c) L1) (bd (Ew (↑c.length:Int) 1 60) λg=>jn (gz a c) (!g))
def AGA:=gZ [.v .i,.v .s] Pq Cm ["8DsqEf3NHXHaEPPQfnUhqfky1VSk3MKtXaztE1GBPcybobCTGyQP3CqIGTuy6obC4MZ0MtX9y"] [Ho,AFr,AFt,AFu] (BA ABW) [.Nf 22 (.tmp 21)]
def ABX(c:Int)(e:Bq):AA (List UInt8):=bd (ABV e) λa=>br (a==[]) (some []) (bd (ABW c a) λg=>some g)
def AQn:=gZ [.v .i,.v (.st 0)] Pq Cm ["72IpLqxhQc55QzaUHq4By4jV8QwuzksyKrY"] [AF9,AGA] (BA ABX)
def iA(a:Bp)(c:List UInt8)(e:Bool):AA (Bp×Bool):=br e (some (a,L2)) (gd (a.Data.length+c.length<=P0) (some (Bp.mk (a.Data++c) a.Safe,L1)))
def g9(a:Bp)(c:List UInt8):AA (Bp×Bool):=bd (dK a) λe=>br (!e) (jn (iA a c) L1) (jn (iA a c) (It ((↑c.length:Int)>w64 (20000-(↑a.Data.length:Int)))))
def AGB:=gZ [.v (.st 9),.v .s] Z4 Z9 ["1Kh2RYrQLfejbWqxtEdifVft3ennVmjrtWQl1ASvcpbZ27TWApYb2zoSumPdIkhIQV"] [cA] (BA g9)
def iB(e:Az)(c:Bq)(a:Az)(h:Bp×Bool)(g:Bool):AA (Az×Int):=br g (some (a,24)) (gd (a.Laid.length+[c].length<=lim) (some (Az.mk a.Ax (Bj.mk h.1 a.Aq.Ec a.Aq.Odd) (w64 (e.Seq+1)) (a.Laid++[c]),0)))
def AI2(a:Az)(e:Bq):AA (Az×Int):=bd (U9 a) λg=>bd (uY a) λy=>br (!y) (some (g,21)) (bd (uX e) λB=>br (!B) (some (g,22)) (br (a.Seq==1000000) (some (g,23)) (bd (ABX (w64 (a.Seq+1)) e) λh=>bd (g9 a.Aq.Log h) λc=>bd (g9 a.Aq.Log h) λj=>eqv c.2 j.2 (P6 c.1 j.1 (bd (ABX (w64 (a.Seq+1)) e) λE=>bd (g9 a.Aq.Log E) λq=>eqv c.2 q.2 (P6 c.1 q.1 (br ((↑a.Laid.length:Int)==8) (jn (iB a e g c) L1) (jn (iB a e g c) (!c.2)))))))))
def AQo:=gZ [.v (.st 11),.v (.st 0)] (.ret [(.st 11),.i]) aA ["1NoaNKsAkRUoWF4Rxo1IrUMabMhfh0Ae9bxxKt35IdPF1spjf255Ah5iz2YORlhnvKp9BoKzgxjk1yrm","ptaogW13uvhpBEZZ7gbTVL5Plq0xRDBehsoU9TQlIEWXlVVusYeulANyo5AbLL68tVicE9ky87WCM77i","jV05rYAUz1mEHpQc5bIlyG7GVbrGd0DU5GXBXpFUpE6K8syxglCMcLqXiQDGAebyS73WwjPk1q51OC4U","RGCRGLQCwIDSflDo60KNRuHuSDkSLVEGgnPqb3fop5LanMIlFOvxD260"] [Zn,lU,ADa,AQn,AGB] (BA AI2)
def W8(a:List A2):AA (List A2):=gd (0+a.length<=lim) (some a)
def vn:=gZ xB xJ DZ ["myPjrgQejDRGE"] [] (Bo W8)
def ABY(a:A3):AA A3:=some a
def ABZ(g:A3)(h:Int×A3->AA A3)(j:Int×A3):AA A3:=let (a,c):=j;br (It (a<g.Aw.length)) (bd (at? g.Aw a) λe=>gd (0+g0 e<=lim) (gd (c.Aw.length+[e].length<=lim) (h (w64 (a+1),A3.mk (c.Aw++[e]))))) (jn ABY c)
def iC(a:A3):AA A3:=A9 (ABZ a) big (0,A3.mk [])
def vq:=gZ Zq (.ret [(.st 6)]) [.cell 2 (some 1)] ["qscEdqBqPIdil0nbGXnsp0lpfyi5mkCACWKU6TOWzbTQ2ZK4drGBAulj10CSWO5C1E8rStJ0jzBUGqfH","VsH"] [] (Bo iC)
def AI3(a:Ah):AA Ah:=bd (W8 a.Row) λc=>bd (iC a.B6) λe=>some (Ah.mk a.AX c e)
def AQp:=gZ xC (.ret [(.st 7)]) [.cell 2 (some 7)] ["dpwDgtgWrXmzyNlZHlT6UzehyklozVbKmuzsSM8sa0"] [vn,vq] (Bo AI3)
def AA5(a:AE):AA AE:=some a
def gk(j:AE)(g:Int×AE->AA AE)(q:Int×AE):AA AE:=let (c,a):=q;br (It (c<j.AJ.length)) (bd (at? j.AJ c) λh=>bd (AI3 h) λe=>gd (a.AJ.length+[e].length<=lim) (g (w64 (c+1),AE.mk a.AQ a.Now a.A5 a.AG (a.AJ++[e]) a.BF a.BD))) (jn AA5 a)
def OR(a:AE):AA AE:=bd (qH a.AQ) λc=>gd (0+a.AG.length<=lim) (bd (Kv a.BF) λe=>bd (Kv a.BD) λg=>bd (Kv a.BD) λq=>Cg c c (ev5 a.Now a.A5 a.AG ([]:List Ah) e (eqv g q (bd (Kv a.BF) λy=>bd (Kv a.BD) λB=>Cg c c (ev4 a.Now a.A5 a.AG ([]:List Ah) (eqv e y (eqv g B (gd (0+a.AG.length<=lim) (bd (Kv a.BF) λE=>bd (Kv a.BD) λG=>Cg c c (ev4 a.Now a.A5 a.AG ([]:List Ah) (eqv e E (eqv g G (bd (qH a.AQ) λH=>gd (0+a.AG.length<=lim) (bd (Kv a.BF) λh=>bd (Kv a.BD) λj=>Cg c H (ev4 a.Now a.A5 a.AG ([]:List Ah) (eqv e h (eqv g j (A9 (gk a) big (0,AE.mk c a.Now a.A5 a.AG [] e g)))))))))))))))))))
def MF:=gZ YB Ri [.cell 2 (some 15)] ["nQMo7TLuLywZp6a1QfvJmLmas5yEQkqoPyQs4xDM1v93PAX05PpJC9Ljgs66Mcd6mohdkYfPZeBpRuxi","GVxVMQu9lMKTphzxwD1ewtJVOxDMqhiZjTI9dzMMempVfbKWdw64Rt2jZ5dmH8MKpzQAmxd0nvCgFKM8","yDHUNIJYfFDAsttlJ8roGIk9ZPBDfjKHy2UJDHjAgW7ERs4OmCsl6I1wmqO7K8hawxgR9gsXbv3FYnCj","MGgJCVOBgss87IScTrN5TgTCLiJcgfGKOH0Qxjbj5lFYD6fjrQ7wjwUSIdZ1WSUL6F5qzmJqO3OB6lEe","iAoWBvZX7bFwEXbEbja8TkNjj9hloulas08wbL0LsBAhICJfAwW8S43eKj8dP4yvgbIlFL4vukiWEHU9","S85ZJOEbKwlJ"] [AF4,Vt,AQp] (Bo OR)
def bU(a:Az):AA Az:=bd (OR a.Ax) λc=>gd (0+a.Laid.length<=lim) (some (Az.mk c a.Aq a.Seq a.Laid))
def Zm:=gZ Zr (.ret [(.st 11)]) [.cell 2 (some 23)] ["E13IUS7WVWfdlUrJDBaq1sCrPWfySg5tEB4eHHwMjuQ87PDGMW3qCp"] [MF] (Bo bU)
def S8(a:List Int):AA (List UInt8):=bd (AAg a) λc=>some c
def AA6(a:Bq):AA (List UInt8):=bd (Ww a) λc=>br (!c) (some []) (br (a.Kind==1) (gd ([a.Kind].length+[a.Id,a.AZ,w64 (a.B0+1),a.BL,a.DS].length<=lim) (jn S8 ([a.Kind]++[a.Id,a.AZ,w64 (a.B0+1),a.BL,a.DS]))) (br (a.Kind==3) (gd ([a.Kind].length+[a.AZ,a.BL].length<=lim) (jn S8 ([a.Kind]++[a.AZ,a.BL]))) (br (a.Kind==6) (jn S8 [a.Kind]) (gd ([a.Kind].length+[a.Id].length<=lim) (jn S8 ([a.Kind]++[a.Id]))))))
def AFw:=gZ [.v (.st 0)] Pq DZ ["aCwgvaq1o1V7VusNWyVjVtfNMxhuQJE4fwitnkLhrCNdbYlWkW2NiQ215ITJMKJaZfISJkrJoFkRKYRH","heUXTqQhC6oE8ybOhMEU63DIFxTa49jk5MTPDqzft5wQorRPQN8mpg"] [lW,ve] (Bo AA6)
def gl(h:Int)(c:List UInt8)(j:Bool):AA (List UInt8):=br j (some []) (bd (Wo h) λe=>gd (g0 e+c.length<=lim) (bd (AAi (e++c)) λa=>gd ([toB (EF a 24),toB (EF a 16),toB (EF a 8),toB a].length+(e++c).length<=lim) (bd (Wo (↑([toB (EF a 24),toB (EF a 16),toB (EF a 8),toB a]++(e++c)).length:Int)) λg=>gd (g0 g+([toB (EF a 24),toB (EF a 16),toB (EF a 8),toB a]++(e++c)).length<=P0) (some (g++([toB (EF a 24),toB (EF a 16),toB (EF a 8),toB a]++(e++c)))))))
def AA7(a:Int)(c:List UInt8):AA (List UInt8):=bd (DN a 1 1000000) λe=>br (!e) (jn (gl a c) L1) (bd (DN (↑c.length:Int) 1 60) λg=>jn (gl a c) (!g))
def AFx:=gZ [.v .i,.v .s] Pq Cm ["VQehirmVgzgjxtnQeFFKYu4b5vVXFY4jQWczh3y6LE3xI0fiNgkFX8mh33HKkoBcD1K1R9gJy9gPdWpi","RyaP1bhS50urxr7ZPC3ZUGDbwNbNWEo922dWoXUVR4o"] [FN,Zl,vf] (BA AA7)
def AA8(a:Int)(c:Bq):AA (List UInt8):=bd (AA6 c) λe=>bd (AA7 a e) λg=>some g
def AQf:=gZ [.v .i,.v (.st 0)] Pq Cm ["JA4irKl7tMflvx9i3d"] [AFw,AFx] (BA AA8)
def gn(a:Bp)(c:List UInt8)(e:Bool):AA (Bp×Bool):=br e (some (a,L2)) (some (Bp.mk (a.Data++c) a.Safe,L1))
def gm(a:Bp)(c:List UInt8):AA (Bp×Bool):=gd (a.Data.length+c.length<=P0) (bd (QM a) λe=>br (!e) (jn (gn a c) L1) (bd (QM (Bp.mk (a.Data++c) a.Safe)) λg=>jn (gn a c) (!g)))
def AFy:=gZ [.v (.st 9),.v .s] Z4 Z9 ["11vc9YhkXhO5xEXL68rof8tU2rXhn6pq17UI33bNkVRAvPtvnReiPjK6h7WNafBB"] [TZ] (BA gm)
def AIs(c:Az)(g:Bq):AA (Az×Int):=bd (bU c) λa=>bd (Wx c) λy=>br (!y) (some (a,21)) (bd (Ww g) λB=>br (!B) (some (a,22)) (br (c.Seq==1000000) (some (a,23)) (br ((↑c.Laid.length:Int)==8) (some (a,24)) (bd (AA8 (w64 (c.Seq+1)) g) λh=>bd (gm c.Aq.Log h) λe=>bd (gm c.Aq.Log h) λj=>eqv e.2 j.2 (P6 e.1 j.1 (bd (AA8 (w64 (c.Seq+1)) g) λE=>bd (gm c.Aq.Log E) λq=>eqv e.2 q.2 (P6 e.1 q.1 (br (!e.2) (some (a,24)) (gd (a.Laid.length+[g].length<=lim) (some (Az.mk a.Ax (Bj.mk e.1 a.Aq.Ec a.Aq.Odd) (w64 (a.Seq+1)) (a.Laid++[g]),0)))))))))))
def AQg:=gZ [.v (.st 11),.v (.st 0)] (.ret [(.st 11),.i]) aA ["TFMZBrOlAaBk8aIBlKjoX5OdPkHjNaabE0xWV7mCkK2GHTk6tGGwKS5QmAxpjyAvhUS6y8qbVuzHG3bS","LgR79UC7dL8mOrxU3MJyseMkwiXhtSQjXOYrBT7F9t7yXbOxyHxdoEqbjspRvU3qJrxkP3oMnplM4tTg","8QU52W7JuSGaCf7gEFx54PHQIYhDEstHMkKj6IxCtNW9wiSGvkiAZmgSkUigNhgOOAoxAJpaQ8cuUhIX","sEFI4nQ4RiTbDuDMSwYnORrg619kE2474AXTxOUPsBY4lxgQg3r4fHurb6fJdIU0k9BM40VHfIZhU99R","8w"] [Zm,Vr,lW,AQf,AFy] (BA AIs)
def W6(c e a:Int)(h:UInt8)(g:Bool):AA (Int×Int×Bool):=br g (some (0,0,L2)) (some (orI e (pI ((w64 (↑(s3 h):Int)).tmod 128) (w64 (7*a))),w64 (w64 (c+a)+1),L1))
def W5(j:List UInt8)(g:Int)(h:Int×Int->AA (Int×Int×Bool))(e a:Int)(q:Bool):AA (Int×Int×Bool):=br q (some (0,0,L2)) (bd (at? j (w64 (g+a))) λc=>gd (¬w64 (7*a)<0) (br (It (w64 (↑(s3 c):Int)<128)) (br (It (a>0)) (br (w64 (↑(s3 c):Int)==0) (jn (W6 g e a c) L1) (jn (W6 g e a c) (It (orI e (pI ((w64 (↑(s3 c):Int)).tmod 128) (w64 (7*a)))>2147483647)))) (jn (W6 g e a c) (It (orI e (pI ((w64 (↑(s3 c):Int)).tmod 128) (w64 (7*a)))>2147483647)))) (h (orI e (pI ((w64 (↑(s3 c):Int)).tmod 128) (w64 (7*a))),w64 (a+1)))))
def AA9(_:PUnit):AA (Int×Int×Bool):=some (0,0,L2)
def QP(e:List UInt8)(a:Int)(g:Int×Int->AA (Int×Int×Bool))(j:Int×Int):AA (Int×Int×Bool):=let (h,c):=j;br (It (c<5)) (br (It (a<0)) (jn (W5 e a g h c) L1) (jn (W5 e a g h c) (It (a>=w64 ((↑e.length:Int)-c))))) (jn AA9 ())
def gq(a:List UInt8)(c:Int):AA (Int×Int×Bool):=A9 (QP a c) big (0,0)
def AFz:=gZ [.v (.l .u),.v .i] (.ret [.i,.i,.b]) [.tmp 4,.tmp 5,.tmp 6] ["AS7hxY7zWIsGuDY4J3sHgb6gfIUcMIaw2kRC13aosgDPyDOl5sBvzkUzX0etVYBVPTuNGj3xyQuCPC1a","TqJ7wkr0f0ahQOY56xX56du8ljVMtltI3vQApg0ZQufPKcvoYktnqXJ9V3nKP1ZeR9ussinAWlBshT5K","XHOAopfzNrzFRbaKmewLXP"] [] (BA gq)
def ABB(a:List Int):AA ((List Int)×Bool):=some (a,L1)
def gv(e:List UInt8)(h:List Int×Int->AA (List Int×Bool))(j:List Int×Int):AA ((List Int)×Bool):=let (c,g):=j;br (It (g<e.length)) (bd (gq e g) λa=>br (!a.2.2) (some ([],L2)) (gd (g0 c+[a.1].length<=lim) (h (c++[a.1],a.2.1)))) (jn ABB c)
def ABA(a:List UInt8):AA ((List Int)×Bool):=A9 (gv a) big ([],0)
def AF0:=gZ Ta (.ret [(.l .i),.b]) [.tmp 2,.tmp 3] ["yVVOJvx9wPHRAHqSCwSfKlMhjJ47sEijoa4pOjxdwjgDo8UzFq7IjO0I7p27fgtjhUdWGGyehpyuQJca","uUBWsZ2vYuqutAAv9aiPuYn"] [AFz] (Bo ABA) [.Nf 11 (.tmp 10)]
def QQ(c:List UInt8)(a:Bq):AA (Bq×Bool):=bd (ABV a) λe=>br (e != c) (some (Bq.mk 0 0 0 0 0 0,L2)) (some (a,L1))
def W7(c:List UInt8)(a:List Int×Bool)(H:Bool):AA (Bq×Bool):=br H (some (Bq.mk 0 0 0 0 0 0,L2)) (bd (at? a.1 0) λZ=>bd (at? a.1 0) λG=>br ((↑(g0 a.1):Int)==2) (bd (at? a.1 1) λx5=>bd (at? a.1 1) λY=>jn (QQ c) (Bq.mk G Y 0 0 0 0)) (br ((↑(g0 a.1):Int)==3) (bd (at? a.1 1) λx9=>bd (at? a.1 1) λe=>bd (at? a.1 2) λI=>bd (at? a.1 2) λg=>jn (QQ c) (Bq.mk G 0 e 0 g 0)) (br ((↑(g0 a.1):Int)==6) (bd (at? a.1 0) λJ=>bd (at? a.1 0) λh=>bd (at? a.1 1) λL=>bd (at? a.1 1) λj=>bd (at? a.1 2) λO=>bd (at? a.1 2) λq=>bd (at? a.1 3) λQ=>bd (at? a.1 3) λy=>bd (at? a.1 4) λS=>bd (at? a.1 4) λB=>bd (at? a.1 5) λX=>bd (at? a.1 5) λE=>jn (QQ c) (Bq.mk h j q (w64 (y-1)) B E)) (jn (QQ c) (Bq.mk G 0 0 0 0 0)))))
def qG(a:List UInt8):AA (Bq×Bool):=br (It ((↑a.length:Int)>60)) (some (Bq.mk 0 0 0 0 0 0,L2)) (bd (ABA a) λc=>br (!c.2) (jn (W7 a c) L1) (jn (W7 a c) ((↑(g0 c.1):Int)==0)))
def AF1:=gZ Ta (.ret [(.st 0),.b]) [.cell 2 (some 6),.tmp 3] ["4XHlVEBVE1IxD4OXHDqqa7HiH6i8hXPcKWNB29y36LBTyxFtB1srCtuFjiy1GtkxgcebRkO8GgDmKYQR","J14IzaEux1Rcp8MSv81qgnK8FO5ySVM7khD7DvjR8o9aJmm6wz2jMnSITqVxkfh0bkSOCD2yYKAArnhv","hytrbQywk9NzO0NbPVbQaYvxnvxTtBDKMFHJu2bLzEyMaDKqU1aqBZdBitlSpE2u81wL61n8BDJ"] [AF0,AF9] (Bo qG)
def iN(_:PUnit):AA (Int×Int×Bool):=some (0,0,L2)
def XB(j:List UInt8)(g:Int)(h:Int×Int->AA (Int×Int×Bool))(e a:Int)(q:Bool):AA (Int×Int×Bool):=br q (bd (at? j (w64 (g+a))) λc=>gd (¬w64 (7*a)<0) (br (It (w64 (↑(s3 c):Int)<128)) (bd (Wo (w64 (e+pI ((w64 (↑(s3 c):Int)).tmod 128) (w64 (7*a))))) λy=>br ((↑(g0 y):Int) != w64 (a+1)) (some (0,0,L2)) (some (w64 (e+pI ((w64 (↑(s3 c):Int)).tmod 128) (w64 (7*a))),w64 (w64 (g+a)+1),L1))) (h (w64 (e+pI ((w64 (↑(s3 c):Int)).tmod 128) (w64 (7*a))),w64 (a+1))))) (jn iN ())
def TC(c:List UInt8)(e:Int)(g:Int×Int->AA (Int×Int×Bool))(j:Int×Int):AA (Int×Int×Bool):=let (h,a):=j;br (It (a<5)) (jn (XB c e g h a) (It (w64 (e+a)<c.length))) (jn (XB c e g h a) L2)
def iM(a:List UInt8)(c:Int):AA (Int×Int×Bool):=bd (DN c 0 (w64 ((↑a.length:Int)-1))) λe=>br (!e) (some (0,0,L2)) (A9 (TC a c) big (0,0))
def AGF:=gZ [.v (.l .u),.v .i] (.ret [.i,.i,.b]) [.tmp 4,.tmp 5,.tmp 6] ["2dvlAJUaWj1bPVmOZSSconOK1NDyRWcK3H7nDeQJU7qb9Tck5ffyb4qidOLhfcoIbxObCaEvJkCV8UxY","jAT6gd5KA70GpyVRJyoMDTUKvk9AshD3F8T2Gj0u51AhUczCN66SgN5Zq7SLUyMaN2xmepkBMoce1vcP","OnQVqdUn"] [FN,Zl] (BA iM)
def ABj(a:List Int):AA ((List Int)×Bool):=some (a,L1)
def iO(e:List UInt8)(h:List Int×Int->AA (List Int×Bool))(j:List Int×Int):AA ((List Int)×Bool):=let (c,g):=j;br (It (g<e.length)) (bd (iM e g) λa=>br (!a.2.2) (some ([],L2)) (gd (g0 c+[a.1].length<=lim) (h (c++[a.1],a.2.1)))) (jn ABj c)
def ABi(a:List UInt8):AA ((List Int)×Bool):=A9 (iO a) big ([],0)
def AGG:=gZ Ta (.ret [(.l .i),.b]) [.tmp 2,.tmp 3] ["f8w3GMYtEwqmzwtYk13z0qIZpXeM5KdB2FRLnyMAut6FctUtwnj8WiVGShMv2GJdS0ZB3gabxUsl3hxE","udra9R9X69DDX5XPh"] [AGF] (Bo ABi) [.Nf 11 (.tmp 10)]
def iP(a:Bq)(c:Bool):AA (Bq×Bool):=br c (some (Bq.mk 0 0 0 0 0 0,L2)) (some (a,L1))
def QS(e:List UInt8)(a:Bq):AA (Bq×Bool):=bd (AA6 a) λc=>br (c==[]) (jn (iP a) L1) (jn (iP a) (c != e))
def XC(e:List UInt8)(a:List Int×Bool)(E:Bool):AA (Bq×Bool):=br E (some (Bq.mk 0 0 0 0 0 0,L2)) (bd (at? a.1 0) λS=>bd (at? a.1 0) λc=>gd ((0:Int)<=1/\1<=(↑(g0 a.1):Int)) (gd (v8 1+(g0 a.1-v8 1)=g0 a.1) (gd ((an (g0 a.1-v8 1) (n6 (v8 1) a.1)).length+v8 5<=lim) (br (c==1) (bd (at? (an (g0 a.1-v8 1) (n6 (v8 1) a.1)++s4 (v8 5) 0) 0) λX=>bd (at? (an (g0 a.1-v8 1) (n6 (v8 1) a.1)++s4 (v8 5) 0) 0) λO=>bd (at? (an (g0 a.1-v8 1) (n6 (v8 1) a.1)++s4 (v8 5) 0) 1) λY=>bd (at? (an (g0 a.1-v8 1) (n6 (v8 1) a.1)++s4 (v8 5) 0) 1) λQ=>bd (at? (an (g0 a.1-v8 1) (n6 (v8 1) a.1)++s4 (v8 5) 0) 2) λZ=>bd (at? (an (g0 a.1-v8 1) (n6 (v8 1) a.1)++s4 (v8 5) 0) 2) λg=>bd (at? (an (g0 a.1-v8 1) (n6 (v8 1) a.1)++s4 (v8 5) 0) 3) λG=>bd (at? (an (g0 a.1-v8 1) (n6 (v8 1) a.1)++s4 (v8 5) 0) 3) λh=>bd (at? (an (g0 a.1-v8 1) (n6 (v8 1) a.1)++s4 (v8 5) 0) 4) λH=>bd (at? (an (g0 a.1-v8 1) (n6 (v8 1) a.1)++s4 (v8 5) 0) 4) λj=>jn (QS e) (Bq.mk c O Q (w64 (g-1)) h j)) (br (c==3) (bd (at? (an (g0 a.1-v8 1) (n6 (v8 1) a.1)++s4 (v8 5) 0) 0) λI=>bd (at? (an (g0 a.1-v8 1) (n6 (v8 1) a.1)++s4 (v8 5) 0) 0) λq=>bd (at? (an (g0 a.1-v8 1) (n6 (v8 1) a.1)++s4 (v8 5) 0) 1) λJ=>bd (at? (an (g0 a.1-v8 1) (n6 (v8 1) a.1)++s4 (v8 5) 0) 1) λy=>jn (QS e) (Bq.mk c 0 q 0 y 0)) (br (c==6) (jn (QS e) (Bq.mk c 0 0 0 0 0)) (bd (at? (an (g0 a.1-v8 1) (n6 (v8 1) a.1)++s4 (v8 5) 0) 0) λL=>bd (at? (an (g0 a.1-v8 1) (n6 (v8 1) a.1)++s4 (v8 5) 0) 0) λB=>jn (QS e) (Bq.mk c B 0 0 0 0))))))))
def ABk(c:List UInt8):AA (Bq×Bool):=bd (ABi c) λa=>br (!a.2) (jn (XC c a) L1) (jn (XC c a) ((↑(g0 a.1):Int)==0))
def AQv:=gZ Ta (.ret [(.st 0),.b]) [.cell 2 (some 6),.tmp 3] ["2hxI12obvQE7663HgbPjo3Gyt9D34gSFf9h4wtrm8lBdCNM2eJnMULSI4boqX9bZ1vwSdYpb17hmD0L1","hE62jppWc7SS3Can9W3YEdGaIaQKr5lHp0TNqP1jXoGTQf2bmqAFqjFNHuFNIsySJRo97Dq3CANZfgb7","UKHlvX8fpHGJbbxIs19g3xqiswKW00pJfCBTZfQPK3uAedqhxA5XI4BAiBJUjb1oMeIk6xUIXRctfFUe","A77egdpY6WfjeEUv9ybZ6dscMSaQWkyvDv2ajNynK"] [AGG,AFw] (Bo ABk) [.Sl 28 .i (.tmp 27) (.k (.int .i64 5))]
def iQ(a c:Int):AA Int:=br (It (a<c)) (some a) (some c)
def lg:=gZ xD DQ Cm ["14fyMfRmBYUlvcVqZKljzg"] [] (BA iQ)
def iS(g:List UInt8)(c j:Int)(a e:Int×Int×Bool)(h:Bool):AA (B5×Bool):=br h (some (B5.mk 0 [] 0,L2)) (some (B5.mk e.1 (an ((w64 (a.2.1+a.1)).toNat-v8 e.2.1) (n6 (v8 e.2.1) (an (v8 j-c.toNat) (n6 c.toNat g)))) (w64 (w64 (c+a.2.1)+a.1)),L1))
def iR(g:List UInt8)(c h:Int)(a e:Int×Int×Bool)(j:Bool):AA (B5×Bool):=br j (some (B5.mk 0 [] 0,L2)) (gd (0<=e.2.1/\e.2.1<=w64 (a.2.1+a.1)/\w64 (a.2.1+a.1)<=(↑(an (v8 h-c.toNat) (n6 c.toNat g)).length:Int)) (gd (0<=w64 (a.2.1+a.1)/\w64 (a.2.1+a.1)<=(↑(an (v8 h-c.toNat) (n6 c.toNat g)).length:Int)) (bd (ABW e.1 (an ((w64 (a.2.1+a.1)).toNat-v8 e.2.1) (n6 (v8 e.2.1) (an (v8 h-c.toNat) (n6 c.toNat g))))) λq=>br (q != an ((w64 (a.2.1+a.1)).toNat-0) (n6 0 (an (v8 h-c.toNat) (n6 c.toNat g)))) (jn (iS g c h a e) L1) (jn (iS g c h a e) (an ((w64 (a.2.1+a.1)).toNat-v8 e.2.1) (n6 (v8 e.2.1) (an (v8 h-c.toNat) (n6 c.toNat g)))==[])))))
def XD(g:List UInt8)(c h:Int)(a:Int×Int×Bool)(j:Bool):AA (B5×Bool):=br j (some (B5.mk 0 [] 0,L2)) (bd (gq (an (v8 h-c.toNat) (n6 c.toNat g)) (w64 (a.2.1+4))) λe=>br (!e.2.2) (jn (iR g c h a e) L1) (jn (iR g c h a e) (It (e.2.1>w64 (a.2.1+a.1)))))
def ABl(c:List UInt8)(a:Int):AA (B5×Bool):=bd (Ew a 0 (↑c.length:Int)) λh=>br (!h) (some (B5.mk 0 [] 0,L2)) (bd (iQ (↑c.length:Int) (w64 (a+80))) λe=>gd (0<=a/\a<=e/\e<=c.length) (bd (gq (an (v8 e-a.toNat) (n6 a.toNat c)) 0) λg=>br (!g.2.2) (jn (XD c a e g) L1) (br (It (g.1>w64 ((↑(an (v8 e-a.toNat) (n6 a.toNat c)).length:Int)-g.2.1))) (jn (XD c a e g) L1) (jn (XD c a e g) (It (g.1<5))))))
def AQw:=gZ [.v .s,.v .i] (.ret [(.st 15),.b]) [.cell 4 (some 3),.tmp 5] ["2YlOECViPxPmtXIRFKlWwHOIDhjK1H3Y3fHUaTjyyRnise5W8UXSamyfwqZEm620krS7JJ5pBEOivZ11","0avrEMXZPAcBp8fKfSGNiT7ZsaApbwYUO2XedoDin0lzV7hpMbvIsB4uOoJfmXnsvFad63Msm3PSlg01","GoGAHnD5xqMNm0Bd5bgb30LMhIS1GnUTaFhizYjYcpOXOdUz1YKXVmX0LKw9P0oIpm1iwL8MPg3tJ2HH","hY5Pir3u2KaBMt7CEJFauC0CR4IHnf3PpGyVQ1ZWo16jPZx7ihyx7zjcLdXuCdGtZ"] [Ho,lg,AFz,AGA] (BA ABl) [.Nf 28 (.tmp 27)]
def iT(g:List UInt8)(e:List B5×Int->AA (List B5))(j:List B5×Int):AA (List B5):=let (c,h):=j;bd (ABl g h) λa=>br (!a.2) (some c) (gd (g0 c+[a.1].length<=lim) (e (c++[a.1],a.1.Next)))
def rF(a:List UInt8):AA (List B5):=A9 (iT a) big ([],0)
def vt:=gZ Ta xL DZ ["IUlJSR9ALxBL65odRtk8Je7AaCoRX613NDTi0vjcXOb3LK6ru7nHhoABgfBMX6SV3fWagbbR06EX0K"] [AQw] (Bo rF)
def ABm(a:Int):AA Int:=some a
def iU(c:List B5)(e:Int×Int->AA Int)(g a:Int)(h:Bool):AA Int:=br h (bd (at? c a) λq=>bd (at? c a) λj=>e (j.Next,w64 (a+1))) (jn ABm g)
def ABn(h:Int)(c:List B5)(e:Int×Int->AA Int)(q:Int×Int):AA Int:=let (g,a):=q;br (It (a<(g0 c))) (bd (at? c a) λy=>bd (at? c a) λj=>jn (iU c e g a) (It (j.Seq<=h))) (jn (iU c e g a) L2)
def AI8(a:Bj)(c:Int):AA Int:=bd (rF a.Log.Data) λe=>A9 (ABn c e) big (0,0)
def AQx:=gZ Zu DQ Cm ["8jlkcpdZVVTFIm91DfokRAjGH8FIdDznppE3QDI9NoUk3MFGEQ1Xy9lDV2GOOq5FRoRvvgVLb0M9ZFXY","raSTTNuHZe"] [vt] (BA AI8)
def iV(g:List UInt8)(c:Int)(a e:Int×Int×Bool)(h:Bool):AA (B5×Bool):=br h (some (B5.mk 0 [] 0,L2)) (some (B5.mk e.1 (an ((an ((w64 (w64 (c+a.2.1)+a.1)).toNat-(w64 (c+a.2.1)).toNat) (n6 (w64 (c+a.2.1)).toNat g)).length-v8 e.2.1) (n6 (v8 e.2.1) (an ((w64 (w64 (c+a.2.1)+a.1)).toNat-(w64 (c+a.2.1)).toNat) (n6 (w64 (c+a.2.1)).toNat g)))) (w64 (w64 (c+a.2.1)+a.1)),L1))
def XE(e:List UInt8)(c:Int)(a:Int×Int×Bool)(j:Bool):AA (B5×Bool):=br j (some (B5.mk 0 [] 0,L2)) (gd (0<=w64 (c+a.2.1)/\w64 (c+a.2.1)<=w64 (w64 (c+a.2.1)+a.1)/\w64 (w64 (c+a.2.1)+a.1)<=e.length) (bd (iM (an ((w64 (w64 (c+a.2.1)+a.1)).toNat-(w64 (c+a.2.1)).toNat) (n6 (w64 (c+a.2.1)).toNat e)) 4) λg=>br (!g.2.2) (some (B5.mk 0 [] 0,L2)) (gd (0<=g.2.1/\g.2.1<=(↑(an ((w64 (w64 (c+a.2.1)+a.1)).toNat-(w64 (c+a.2.1)).toNat) (n6 (w64 (c+a.2.1)).toNat e)).length:Int)) (bd (AA7 g.1 (an ((an ((w64 (w64 (c+a.2.1)+a.1)).toNat-(w64 (c+a.2.1)).toNat) (n6 (w64 (c+a.2.1)).toNat e)).length-v8 g.2.1) (n6 (v8 g.2.1) (an ((w64 (w64 (c+a.2.1)+a.1)).toNat-(w64 (c+a.2.1)).toNat) (n6 (w64 (c+a.2.1)).toNat e))))) λh=>br (h==[]) (jn (iV e c a g) L1) (gd (0<=c/\c<=w64 (w64 (c+a.2.1)+a.1)/\w64 (w64 (c+a.2.1)+a.1)<=e.length) (jn (iV e c a g) (h != an ((w64 (w64 (c+a.2.1)+a.1)).toNat-c.toNat) (n6 c.toNat e))))))))
def ABo(c:List UInt8)(a:Int):AA (B5×Bool):=bd (NS a (↑c.length:Int)) λg=>br (!g) (some (B5.mk 0 [] 0,L2)) (gd (0<=a/\(a<=if L2=L1 then if w64 (a+5)>c.length then w64 (a+5) else (↑c.length:Int) else if w64 (a+5)<c.length then w64 (a+5) else (↑c.length:Int))/\(if L2=L1 then if w64 (a+5)>c.length then w64 (a+5) else (↑c.length:Int) else if w64 (a+5)<c.length then w64 (a+5) else (↑c.length:Int))<=c.length) (bd (iM (an ((if L2=L1 then if w64 (a+5)>c.length then w64 (a+5) else (↑c.length:Int) else if w64 (a+5)<c.length then w64 (a+5) else (↑c.length:Int)).toNat-a.toNat) (n6 a.toNat c)) 0) λe=>br (!e.2.2) (jn (XE c a e) L1) (br (It (e.1<6)) (jn (XE c a e) L1) (jn (XE c a e) (It (e.1>w64 (w64 ((↑c.length:Int)-a)-e.2.1)))))))
def AQy:=gZ [.v .s,.v .i] (.ret [(.st 15),.b]) [.cell 4 (some 3),.tmp 5] ["6oJc6ym9bqfC4FvCB6VtN25NYWvSVgGpKxKrlWjKqvDxImyGux0NR9c1r5h3IcE1Mf8wgVeedEOqKImQ","5BS0eicyKRz0gMeGyolJVk1g8mRYAuEQFrWqbiLLZme8PsZbOOcVp3tqGjPPoMx57kMlcTCO318V7rst","Ghlxb2y67eNP61J4RU16Ba47kIhaBCmwFWk6wDQhi2S8ajHXAiLhHnuiFHUTTeuejCaJf5RkgWTSDc5T","MfvTTllnAvuGtFKveOQJnveny2tRKJgmyiIrH0hZ5YHdm0J9Cf3PnccQN8zCtWbedgJMPs4NrGnlC8"] [Rb,AGF,AFx] (BA ABo) [.mm 27 false (.tmp 24) (.tmp 26),.Nf 29 (.tmp 28),.Nf 63 (.tmp 62)]
def iW(g:List UInt8)(e:List B5×Int->AA (List B5))(j:List B5×Int):AA (List B5):=let (c,h):=j;bd (ABo g h) λa=>br (!a.2) (some c) (gd (g0 c+[a.1].length<=lim) (e (c++[a.1],a.1.Next)))
def rG(a:List UInt8):AA (List B5):=A9 (iW a) big ([],0)
def vu:=gZ Ta xL DZ ["6pKBD3SopBp0kpt09Z5HvVjx5a6qGWycYRVaDk7eL3NUmYaR09JCO892UZbzwFxqFjRD8rBiB6C"] [AQy] (Bo rG)
def iX(a:Int):AA Int:=some a
def ABp(j:Int)(c:List B5)(h:Int×Int->AA Int)(q:Int×Int):AA Int:=let (e,a):=q;br (It (a<(g0 c))) (bd (at? c a) λy=>bd (at? c a) λg=>br (It (g.Seq>j)) (jn iX e) (h (g.Next,w64 (a+1)))) (jn iX e)
def AI9(a:Bj)(c:Int):AA Int:=bd (rG a.Log.Data) λe=>A9 (ABp c e) big (0,0)
def AQz:=gZ Zu DQ Cm ["Io2t2tdH5BcNKwbJEt02s92OPkDNfocSAAgWBDDYw3LQLAVZgQk1tmwa05hUGNfP2w12NW8h5gmTU5MY","i4o"] [vu] (BA AI9)
def iY(a:List Bq):AA (List Bq):=some a
def ABq(g:List B5)(h:List Bq×Int->AA (List Bq))(q:List Bq×Int):AA (List Bq):=let (a,c):=q;br (It (c<g.length)) (bd (at? g c) λj=>bd (qG j.Body) λe=>br (!e.2) (jn iY a) (gd (g0 a+[e.1].length<=lim) (h (a++[e.1],w64 (c+1))))) (jn iY a)
def AJA(a:List B5):AA (List Bq):=A9 (ABq a) big ([],0)
def AQ0:=gZ [.v (.l (.st 15))] (.ret [(.l (.st 0))]) DZ ["1IktpAErn7yxmsor7XXVX5jCDreg7LAPXg5o7WFOYPTS4qoFyLNukN7mAlE6a92DTDeU23MtPi2cTM4T","J2UpcbSyXpuODQpR"] [AF1] (Bo AJA)
def iZ(a:List Bq):AA (List Bq):=some a
def ABr(g:List B5)(h:List Bq×Int->AA (List Bq))(q:List Bq×Int):AA (List Bq):=let (a,c):=q;br (It (c<g.length)) (bd (at? g c) λj=>bd (ABk j.Body) λe=>br (!e.2) (jn iZ a) (gd (g0 a+[e.1].length<=lim) (h (a++[e.1],w64 (c+1))))) (jn iZ a)
def AJB(a:List B5):AA (List Bq):=A9 (ABr a) big ([],0)
def AQ1:=gZ [.v (.l (.st 15))] (.ret [(.l (.st 0))]) DZ ["Gdr6AOHOLr5O1fKAQXKSNnSq5raEFoIX6UqiudZZyCZj6V09x2Yhkrq4fAHn69dMPAxfxyrFtl4JIQuV","JXfVfB669hkPzyBAjCQwbXt3HDkt"] [AQv] (Bo AJB)
def APV(a:List UInt8):AA Bool:=some (It ((↑a.length:Int)>1048576))
def AQ2:=gZ Zt C6 DZ ["iOcJWd95MItYy"] [] (Bo APV)
def ABs(a:List UInt8)(c:Int):AA BT:=some (BT.mk a 0 c)
def ib(a:List UInt8)(g:Int×Int->AA BT)(c e:Int)(h:Bool):AA BT:=br h (bd (at? a e) λj=>g (eW (w64 (w64 (w64 (c*131)+w64 (↑(s3 j):Int))+7)) 1073741823,w64 (e+1))) (jn (ABs a) c)
def ABt(c:List UInt8)(e:Int×Int->AA BT)(h:Int×Int):AA BT:=let (g,a):=h;br (It (a<c.length)) (jn (ib c e g a) (It (a<4000))) (jn (ib c e g a) L2)
def AJC(a:List UInt8):AA BT:=A9 (ABt a) big (w64 (28285+(↑a.length:Int)),0)
def AQ3:=gZ Zt (.ptr 0 (.st 17)) [.bx 2] ["IFfwfAoQxmqyq1MMXOVq27BZ0QpJy25SJdbMFltTV4EBZmGJ9XJL77Mv65w2PV4cvEFQYYxP5u4PdXEk","PSciTEkuF2qxhmUIw"] [] (Bo AJC)
def ic(e:Int×BT):AA (Int×BT):=let (a,c):=e;some (a,c)
def ba(a:BT):AA (Int×BT):=br (It (a.i_<a.b_.length)) (bd (at? a.b_ a.i_) λc=>jn ic (eW (w64 (eW (U5 (EF (w64 (w64 (a.h_*6364136223846793005)+1442695040888963407)) 33) (EF (w64 (w64 (a.h_*6364136223846793005)+1442695040888963407)) 45)) 255+w64 (↑(s3 c):Int))) 255,BT.mk a.b_ (w64 (a.i_+1)) (w64 (w64 (a.h_*6364136223846793005)+1442695040888963407)))) (jn ic (eW (U5 (EF (w64 (w64 (a.h_*6364136223846793005)+1442695040888963407)) 33) (EF (w64 (w64 (a.h_*6364136223846793005)+1442695040888963407)) 45)) 255,BT.mk a.b_ a.i_ (w64 (w64 (a.h_*6364136223846793005)+1442695040888963407))))
def AQ4:=gZ xE DQ DZ ["AO4rEmqtQzUi8pTyxfrrHXjgCZbOknTk2tFtCZzRxslLtYNHJsnzReJLbfn886xVuSmjpLoPuhfYZ6mh","tVjR8RTPXoNdwZJ00JUvDFuAiscozgSVGFaIK21OYDlrbYmJKwb2PehWcTfsutfNCO20nSfb2"] [] (Bo ba)
def EH(c:BT)(a:Int):AA (Int×BT):=br (It (a<=0)) (some (0,c)) (br (It (a<=256)) (bd (ba c) λe=>gd (a≠0) (some (s0 e.1 a,e.2))) (bd (ba c) λg=>bd (ba g.2) λh=>bd (ba h.2) λj=>bd (ba j.2) λq=>gd (a≠0) (some ((w64 (w64 (w64 (w64 (g.1*16777216)+w64 (h.1*65536))+w64 (j.1*256))+q.1)).tmod a,q.2))))
def NA:=gZ [.b (.st 17),.v .i] DQ Cm ["2KAT1uNZnn29cJkI1suiYxmlCfB6FTYR10o64I5btB63siXasVudC17hU1T06Ffl26bhgODq4gg2jC0B","hTPBdGQLGlA"] [AQ4] (BA EH)
def ABv(e:BT×AY):AA (AY×BT):=let (a,c):=e;some (c,a)
def ABw(j:Int×BT)(h:Int×BT×AY->AA (AY×BT))(q:Int×BT×AY):AA (AY×BT):=let (e,g,a):=q;br (It (e<w64 (1+j.1))) (bd (EH g 12) λc=>gd (a.AX.length+[w64 (2+c.1)].length<=lim) (h (w64 (e+1),c.2,AY.mk (a.AX++[w64 (2+c.1)]) a.Cd a.Room a.BL a.CK a.B7 a.Rest a.Cl a.C7))) (jn ABv (g,a))
def ABu(E:BT):AA (AY×BT):=bd (EH E 5) λa=>bd (EH a.2 9) λc=>bd (EH c.2 6) λe=>bd (EH e.2 5) λg=>bd (EH g.2 4) λh=>bd (EH h.2 4) λj=>bd (EH j.2 4) λq=>bd (EH q.2 3) λy=>bd (EH y.2 3) λB=>A9 (ABw B) big (0,B.2,AY.mk [] (w64 (1+a.1)) (w64 (2+c.1)) (w64 (1+e.1)) (w64 (1+g.1)) (w64 (1+h.1)) j.1 (w64 (1+q.1)) (w64 (1+y.1)))
def AGH:=gZ xE xK xN ["6onl18367pNhdg5yCC7tSBAUZuhezXbh9iZ1eV7Jass6jyYhRZYLwqomDXzyGJyQAIUElFlsL9PjvRqx","evjFB4eWABE88SVSShNrm25Mp8BKCQ4n1lpomRWGel0BHrwgtPcsVMXwKan1vAArAn81FR5j5xTJbzng","GwvCsIqwPuWbf4IdT"] [NA] (Bo ABu)
def TD(c:BT)(e:Int):AA (Bool×BT):=bd (EH c e) λa=>some (a.1==0,a.2)
def lh:=gZ [.b (.st 17),.v .i] C6 Cm ["Tvi2VEWMPeKou2"] [NA] (BA TD)
def ABx(_:PUnit):AA Int:=some (-1)
def ABy(c:List AU)(g:Int)(e:Int->AA Int)(a:Int):AA Int:=br (It (a<c.length)) (bd (at? c a) λh=>br (h.Id==g) (some a) (e (w64 (a+1)))) (jn ABx ())
def rH(a:List AU)(c:Int):AA Int:=A9 (ABy a c) big 0
def vz:=gZ Po DQ Cm ["4vIsffzF70atEa6by8DhaNPI4n37yNM2VnFVMPRXJ5aUiRrr"] [] (BA rH)
def Abk:YF:=⟨[],[.v (.l (.st 2)),.v (.st 2)],[],.ret [(.l (.st 2))],[.tmp 4],dY ["5f2OfwfG1V5b9ciuFROrUivmJMIMDgIbw6diPsrHm7icJ2Wey8aZNqRqkOInRC0JBxhiL7ivOdyZPwnb","IjtpnGZOTzxDrRC54h4FthWgDaeK77tH200P6ORr3e1r3VYDKQ8DHL6mQeuuXfcwJLwnYvcEICSV7zQ8","knIzVhRyRkDOqv2nu698aJ9UppzLzTDBs43sgOpk5SRFFuhb52RdBxeHEqQ"] [vz]⟩
def ig(c:List AU)(e:AU)(a:Int):AA (List AU):=gd (0<=a/\a<=c.length) (gd (0+(an a.toNat c).length<=lim) (gd (([]++an a.toNat c).length+[e].length<=lim) (gd (0+(an a.toNat c).length<=lim) (gd (([]++an a.toNat c).length+[e].length<=lim) (eqv ([]++an a.toNat c++[e]) ([]++an a.toNat c++[e]) (gd (0+(an a.toNat c).length<=lim) (gd (([]++an a.toNat c).length+[e].length<=lim) (eqv ([]++an a.toNat c++[e]) ([]++an a.toNat c++[e]) (gd (0<=a/\a<=c.length) (gd (([]++an a.toNat c++[e]).length+(n6 a.toNat c).length<=lim) (some ([]++an a.toNat c++[e]++n6 a.toNat c))))))))))))
def XF(e:List AU)(g:AU)(c:Int->AA (List AU))(a:Int)(h:Bool):AA (List AU):=br h (c (w64 (a+1))) (jn (ig e g) a)
def ij(a:List AU)(e:AU)(g:Int->AA (List AU))(c:Int):AA (List AU):=br (It (c<a.length)) (bd (at? a c) λh=>jn (XF a e g c) (It (h.Id<e.Id))) (jn (XF a e g c) L2)
def ie(a:List AU)(e:AU):AA (List AU):=bd (rH a e.Id) λc=>gd (0+a.length<=lim) (br (It (c>=0)) (bd (at? ([]++a) c) λg=>bd (at? ([]++a) c) λh=>some (([]++a).set (v8 c) e)) (A9 (ij a e) big 0))
def lj:GF:=Abk.gf rfl rfl (λa=>ie a.1 a.2.1) (λa=>by kernel_rfl)
def il(h:A3)(a:Bf)(c:A3)(j:Bool):AA (A3×Bool):=br j (some (c,L2)) (bd (at? c.Aw (a.At.tmod 9)) λB=>bd (at? c.Aw (a.At.tmod 9)) λq=>bd (AMP q a) λg=>bd (at? c.Aw (a.At.tmod 9)) λE=>bd (at? c.Aw (a.At.tmod 9)) λG=>bd (o6 (A3.mk (c.Aw.set (a.At.tmod 9).toNat g))) λy=>br (!y) (bd (gw h) λe=>some (e,L2)) (some (A3.mk (c.Aw.set (a.At.tmod 9).toNat g),L1)))
def ik(a:A3)(c:Bf):AA (A3×Bool):=bd (gw a) λe=>bd (o6 a) λg=>br (!g) (jn (il a c e) L1) (jn (il a c e) (It (c.At<1)))
def wA:=gZ xF Z5 xO ["3XFyP7KtaMkpTYzPFhSNKya9WMd48RT666a8t3DRVYbs5Yz2WGtLpDWQ4uIKtc2NV39QquXpoGPulP9O","eLD61DGsDCEu8NaX75ajfVv9eNioNdvGtQwjq"] [vm,sF,AK5] (BA ik)
def XG(a:List Int)(c:Int):AA (List Int):=gd (0+a.length<=lim) (bd (AMK a c) λe=>br e (some ([]++a)) (gd (([]++a).length+[c].length<=lim) (some ([]++a++[c]))))
def Zo:=gZ sH Oc Cm ["2iJc0fTvfTowhKHveusgz5hkVa6tOTxW26mfzUV"] [AK1] (BA XG)
def Abl:YF:=⟨[],[.b (.st 17),.v (.st 8)],[],.ret [(.st 0)],[.cell 4 (some 6)],dY ["pdFUiBVT7uWojqgkasT8TNh8dmCXFmBOvm2ZXvWm5K6tMRRM0dvpivtQ7y8Z4MwftoDcnuURJP4eGcZN","KlBnyoMEaxSQmyPeqgdkBcRWkLHfXro26sIbTMhZn54OQ8pMvGNZ1DksRc33t334wTyAfO6vkBVgRTxk","G1p9VF5SzONR4SGcyOU9aWyU6uhdrTjoqvM5lQ3wPM5ZiTqcZjtZ0wEl3sud5qyONpzMTUExtkA4TjQF","CnCJnsp4UGXPHImFZFweXa0oXxfE9LOgGffDn6Einivr55bvk2E6ap4Ouq6VlYA5GA97BaoBTLGDN05W","leVcp2C3vu6yRRephQ7B0FPEYOFP6F8hJst0l6fsT8pLrPpn1fxOmqk9Q6fwjdNKm3eAckO2JxvNfE7K","xFP7jHu4f77sPl5HfbTbi8Tle5mJuh7EhxAwWAxKUkVpwdfAOCQZAsxUOOxTdx1bOKgxUIDSTNF8zAET","XcbsUBNTd6XciUU6XPL0IFxCUo2Mq20DAgfJyj1I3wef4PoAkFHgY0R3yq5Rm58rG57RiOpSmcqbgS8f","cVTl60iLH7NU8HsE7sZMuVumz7OmjPJSk6b8w5bjMEZBglPkaTm4mZ1UddyR5Jf8iCJHknw20k1kKWdT","H97O8cJxiw55b4BkZ1KpA94gzEk5I7vs476yL0Lxp5P5mwi1b0GFRqCLyVQoO2oeRe2u39M8XnSpDxtW","2j3PcPgDDUTdP4uyPw18uxkIzhLvCwGSJZWeH8wahA"] [NA,lh,l9]⟩
def iq(e:BT×Bq):AA (Bq×BT):=let (a,c):=e;some (c,a)
def XJ(y:AE)(q B:Int)(a:Int×BT)(h:Bool):AA (Bq×BT):=br h (bd (EH a.2 B) λc=>bd (EH c.2 4) λe=>some (Bq.mk 3 0 c.1 0 (w64 (1+e.1)) 0,e.2)) (br (a.1==7) (some (Bq.mk 4 q 0 0 0 0,a.2)) (br (a.1==8) (some (Bq.mk 5 q 0 0 0 0,a.2)) (br (a.1==9) (some (Bq.mk 6 0 0 0 0 0,a.2)) (bd (O6 1 y.AQ.C7) λj=>bd (EH a.2 j) λg=>some (Bq.mk 7 g.1 0 0 0 0,g.2)))))
def QT(j:AE)(v7 y:Int)(h:Int×BT)(v11:Bool):AA (Bq×BT):=br v11 (bd (EH h.2 14) λg=>bd (EH g.2 y) λc=>bd (O6 1 j.AQ.BL) λB=>bd (EH c.2 B) λe=>bd (O6 1 j.AQ.Cd) λE=>bd (EH e.2 E) λa=>bd (EH e.2 E) λG=>Pe a.2 G.2 (ev5 (1:Int) (w64 (1+g.1)) c.1 ((-1):Int) (w64 (1+e.1)) (eqv a.1 G.1 (bd (O6 1 j.AQ.Cd) λx19=>bd (EH e.2 x19) λH=>Pe a.2 H.2 (ev5 (1:Int) (w64 (1+g.1)) c.1 ((-1):Int) (w64 (1+e.1)) (eqv a.1 H.1 (bd (EH c.2 B) λI=>bd (O6 1 j.AQ.Cd) λx22=>bd (EH I.2 x22) λJ=>Pe a.2 J.2 (ev4 (1:Int) (w64 (1+g.1)) c.1 ((-1):Int) (eqv (w64 (1+e.1)) (w64 (1+I.1)) (eqv a.1 J.1 (bd (O6 1 j.AQ.BL) λx24=>bd (EH c.2 x24) λL=>bd (O6 1 j.AQ.Cd) λx26=>bd (EH L.2 x26) λO=>Pe a.2 O.2 (ev4 (1:Int) (w64 (1+g.1)) c.1 ((-1):Int) (eqv (w64 (1+e.1)) (w64 (1+L.1)) (eqv a.1 O.1 (bd (EH g.2 y) λQ=>bd (O6 1 j.AQ.BL) λx29=>bd (EH Q.2 x29) λS=>bd (O6 1 j.AQ.Cd) λx31=>bd (EH S.2 x31) λX=>Pe a.2 X.2 (ev2 (1:Int) (w64 (1+g.1)) (eqv c.1 Q.1 (eqv (α:=Int) (-1) (-1) (eqv (w64 (1+e.1)) (w64 (1+S.1)) (eqv a.1 X.1 (bd (EH h.2 14) λY=>bd (EH Y.2 y) λZ=>bd (O6 1 j.AQ.BL) λx35=>bd (EH Z.2 x35) λx36=>bd (O6 1 j.AQ.Cd) λx37=>bd (EH x36.2 x37) λx38=>Pe a.2 x38.2 (eqv (α:=Int) 1 1 (eqv (w64 (1+g.1)) (w64 (1+Y.1)) (eqv c.1 Z.1 (eqv (α:=Int) (-1) (-1) (eqv (w64 (1+e.1)) (w64 (1+x36.1)) (eqv a.1 x38.1 (bd (TD a.2 3) λq=>br q.1 (bd (EH q.2 y) λx40=>jn iq (x40.2,Bq.mk 1 (w64 (1+g.1)) c.1 x40.1 (w64 (1+e.1)) a.1)) (jn iq (q.2,Bq.mk 1 (w64 (1+g.1)) c.1 (-1) (w64 (1+e.1)) a.1)))))))))))))))))))))))))))))) (br (h.1==4) (some (Bq.mk 2 v7 0 0 0 0,h.2)) (br (h.1==5) (jn (XJ j v7 y h) (h.1==5)) (jn (XJ j v7 y h) (h.1==6))))
def XI(c:AE)(j:Int×BT):AA (Bq×BT):=let (e,h):=j;bd (O6 1 (↑c.AQ.AX.length:Int)) λg=>bd (EH h 12) λa=>br (a.1==0) (jn (QT c e g a) (a.1==0)) (br (a.1==1) (jn (QT c e g a) (a.1==1)) (br (a.1==2) (jn (QT c e g a) (a.1==2)) (jn (QT c e g a) (a.1==3))))
def XH(a:AE)(h:Int×BT)(q:Bool×BT):AA (Bq×BT):=let (g,c):=q;br g (bd (EH c (↑a.AG.length:Int)) λe=>bd (at? a.AG e.1) λj=>jn (XI a) (j.Id,e.2)) (jn (XI a) (w64 (1+h.1),c))
def ABz(g:BT)(c:AE):AA (Bq×BT):=bd (EH g 12) λa=>br (It ((↑c.AG.length:Int)>0)) (bd (TD a.2 3) λe=>jn (XH c a) (!e.1,e.2)) (jn (XH c a) (L2,a.2))
def AQ5:GF:=Abl.gf rfl rfl (λa=>ABz a.1 a.2.1) (λa=>by kernel_rfl)
def rI(e:BT)(a:List Int):AA (Int×BT):=bd (EH e (↑a.length:Int)) λc=>bd (at? a c.1) λg=>some (g,c.2)
def wD:=gZ [.b (.st 17),.v (.l .i)] DQ Cm ["249ao7SGXZozJ8U5oEPi"] [NA] (BA rI)
def iu(a:List B5×Int×Int->AA (List B5))(c:Int)(h:List B5×Int):=let (e,g):=h;a (e,g,w64 (c+1))
def iv(a:List B5):AA (List B5):=some a
def AB0(j:List B5)(h:List B5×Int×Int->AA (List B5))(q:List B5×Int×Int):AA (List B5):=let (a,c,e):=q;br (It (e<j.length)) (bd (at? j e) λg=>br (It (g.Seq<=c)) (jn (iu h e) (a,c)) (br (g.Seq != w64 (c+1)) (jn iv a) (gd (g0 a+[g].length<=lim) (jn (iu h e) (a++[g],w64 (c+1)))))) (jn iv a)
def AJD(a:List B5)(c:Int):AA (List B5):=A9 (AB0 a) big ([],c,0)
def AQ6:=gZ [.v (.l (.st 15)),.v .i] xL Cm ["F5NJmfQF0AYz2wdYPEbeTDBiiMHcAi18Nj7WkPZlyVxHbsgmTFnpjdaUL2ZWNzcUdZnx2N3sn4igJHNx","HUU1W6AI5fJzqRWC28ZAm8GohtGnKQRaRqy1LRR"] [] (BA AJD)
def AB2(_:PUnit):AA Bool:=some L1
def iw(g j:List Bq)(h:Int->AA Bool)(e:Int):AA Bool:=br (It (e<g.length)) (bd (at? g e) λa=>bd (at? j e) λc=>br (!(a.Kind==c.Kind&&(a.Id==c.Id&&(a.AZ==c.AZ&&(a.B0==c.B0&&(a.BL==c.BL&&(a.DS==c.DS&&L1))))))) (some L2) (h (w64 (e+1)))) (jn AB2 ())
def AB1(a c:List Bq):AA Bool:=br ((↑a.length:Int) != c.length) (some L2) (A9 (iw a c) big 0)
def AQ7:=gZ [.v (.l (.st 0)),.v (.l (.st 0))] C6 Cm ["3zTRAYQUM7wwj24aQe9tKdrmP36TBT1tLU1uv1qMycXIgBgSwwzLVkcTkT0Q0Pfr8j"] [] (BA AB1)
end Lv
