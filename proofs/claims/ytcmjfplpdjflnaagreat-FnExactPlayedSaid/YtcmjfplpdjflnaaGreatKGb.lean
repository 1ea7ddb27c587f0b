/- Functions of the program as typed texts and as plain functions. -/
import Derived.Test.YtcmjfplpdjflnaaGreatKEb
open Int renaming toNat->n6
open List renaming length->e8,take->c5,drop->e9,replicate->so
noncomputable section
set_option linter.unusedVariables false
set_option linter.unusedSimpArgs false
set_option linter.unusedSectionVars false
set_option maxRecDepth 100000
namespace Lv
open Go (IntKind BinOp UnOp)
open Y (YF qn qf qt qr q1 qd qm qa qo ql qL qb qi qx qp qq qc qz qe qk qK qB qw qu qj Kp wn wf wt w1 sw sq sr wm wM wo wO wl wL wk wK wz wZ wx wX wb wB wi wI wr wR wq wQ we wE wc wY wj wh cv ca cx cn ce bl)
def AXN(a:(C.l (.st 2)).D)(c:Int)(e:(C.l (.st 2)).D):AA (C.l (.st 2)).D:=kq (.st 2) a c e
def AED:GF:=AYN (.st 2) rfl
def AN3(a:(C.l (.st 4)).D)(c:Int)(e:(C.l (.st 4)).D):AA (C.l (.st 4)).D:=kq (.st 4) a c e
def AEE:GF:=AYN (.st 4) rfl
def AXK(a:(C.l (.st 4)).D)(c e:Int):AA (C.l (.st 4)).D:=AAs (.st 4) a c e
def AD6:GF:=AYC (.st 4) rfl rfl
def AXL(a:(C.l (.st 5)).D)(c e:Int):AA (C.l (.st 5)).D:=AAs (.st 5) a c e
def AD7:GF:=AYC (.st 5) rfl rfl
def AXM(a:(C.l (.st 2)).D)(c e:Int):AA (C.l (.st 2)).D:=AAs (.st 2) a c e
def AD8:GF:=AYC (.st 2) rfl rfl
def eS(a:Bl):AA Bl:=some a
def mi(a:Bl):AA Bl:=bd (Qa a) fun c=>br c (jn eS (Bl.mk a.Data (↑a.Data.length:Int))) (jn eS a)
def rY:=gZ iO Xt [.cell 2 (some 2)] ["6bMbFbDmsN6j7UksJcGVuJuQTcJ6I"] [RS] (Bm mi)
def AHn(a:A7):AA (A7×(List Bz)):=bd (TE a) fun c=>bd (Y1 a) fun g=>br (!g) (some (c,[])) (bd (fE a.A2 a.Laid) fun e=>bd (mi a.Bg.Log) fun h=>some (A7.mk e.fst (Bk.mk h c.Bg.EZ c.Bg.Odd) c.Seq [],e.snd))
def AQb:=gZ Xn ASL Xy ["KJUvC4kKxndPufFhMATX2U4bc6vfUC1Yw6ToZNQ1OsdD3k7DsCExSwyf98b0F419QJsFjoV4raliDVEx","d5PZJ3koxkjotCMDjVNJ7sFLga"] [Xj,Xe,rb,rY] (Bm AHn)
def ANz(a:AN)(c:Int):AA Bool:=some (a.Id==c)
def rZ:=gZ [.v (.st 2),.p .i] CK [.tmp 3] ["Jh8i5yH9KEHr9go"] [] (Aq ANz)
def Aad:YF:=⟨[rZ],[.v (.l (.st 2)),.f rZ.x [(true,.i)]],[0],.ret [.i],[.tmp 4],dY ["ciZDDIaLPNsOHDhwrYrquQm1xyGcC3yBwQ0YtVWoH4Uud2p7IYrcZjioUbwBn2NJA"] [] [.Dn 16 (.tmp 11) [.v,.p] [.tmp 15]]⟩
def zg(_:PUnit):AA Int:=some (-1)
def zh(e:List AN)(a:Int)(g:Int->AA Int)(c:Int):AA Int:=br (decide (c<e.length)) (bd (at? e c) fun h=>bd (ANz h a) fun j=>br j (some c) (g (w64 (c+1)))) (jn zg ())
def AN0(c:List AN)(a:Int):AA Int:=A3 (zh c a) big 0
def AQc:GF:=Aad.gf rfl rfl (fun a=>AN0 a.1 a.2.1.1) (fun a=>by kernel_rfl)
def Aae:YF:=⟨[rZ],[.v (.l (.st 2)),.v .i],[],.ret [.i],[.tmp 4],dY ["dGaCNoH94aotW"] [] [.MR 6 0 [.tmp 3],.call 7 AQc [0] rfl [.tmp 5,.tmp 6]]⟩
def mj(a:List AN)(c:Int):AA Int:=bd (AN0 a c) fun e=>some e
def ra:GF:=Aae.EF (Aq mj)
def L0(a:AE)(c:Int):AA Int:=bd (mj a.AG c) fun e=>some e
def Tz:=gZ FM Cv B5 ["TwX4trzVXYEXcg"] [ra] (Aq L0)
def ml(a:AE)(c:Int):AA Int:=bd (at? a.AH c) fun e=>bd (at? a.AH c) fun g=>some (w64 (e.AW.FY-g.AW.Fx))
def AQd:=gZ FM Cv B5 ["5nOExB3sl4vxm3dbNdhoDKx779QTuJMKLEAX"] [] (Aq ml)
def fN(a:Bool):AA Bool:=some a
def zx(a:AN)(c:Int):AA Bool:=br (a.State==2) (jn fN (decide (a.Cq<=c))) (jn fN false)
def AQ4:=gZ sF CK B5 ["1xKil5iBFpjSezQb6WNapboGwZr0B"] [] (Aq zx)
def IV(_:PUnit):AA Int:=some 0
def fO(c:AE)(a:Bool):AA Int:=br a (some 10) (br (decide (c.Az>1000000)) (some 11) (jn IV ()))
def LN(a:AE)(c:Bp)(g:Bool):AA Int:=br g (some 4) (bd (C3 c.BA 1 a.AQ.BA) fun h=>br (!h) (some 5) (br (decide (c.Co>=a.AQ.Cb)) (some 6) (bd (C3 c.Id 1 999) fun j=>br (!j) (some 7) (bd (L0 a c.Id) fun q=>br (decide (q>=0)) (some 8) (bd (lW a.AG c.AY) fun y=>br (decide (y>=a.AQ.Room)) (some 9) (br (c.Bi != -1) (bd (ml a c.Bi) fun e=>jn (fO a) (decide (e<c.BA))) (jn (fO a) false)))))))
def fQ(a:Bool):AA Int:=br a (some 17) (jn IV ())
def fP(a:AE)(e:Bp)(g:Bool):AA Int:=br g (bd (L0 a e.Id) fun c=>br (decide (c<0)) (some 7) (bd (at? a.AG c) fun h=>br (h.State != 2) (some 13) (bd (at? a.AG c) fun j=>bd (zx j a.Now) fun q=>br q (some 14) (jn IV ())))) (br (e.Kind==6) (br (a.Now==1000000) (some 15) (jn IV ())) (br (e.Kind==7) (br (decide (e.Id>=a.AQ.Cx)) (some 16) (bd (at? a.BC e.Id) fun y=>br (y == -1) (jn fQ ((↑a.BF.length:Int)==0)) (jn fQ false))) (jn IV ())))
def RF(c:AE)(a:Bp):AA Int:=bd (TD c) fun y=>br (!y) (some 1) (bd (C3 a.Kind 1 7) fun B=>br (!B) (some 2) (bd (Uw a) fun E=>br (!E) (some 3) (br (a.Kind==1) (bd (Ly a.AY (↑c.AH.length:Int)) fun G=>br (!G) (jn (LN c a) true) (bd (C3 a.Bi (-1) (w64 ((↑c.AH.length:Int)-1))) fun e=>br (!e) (jn (LN c a) true) (jn (LN c a) (a.Bi==a.AY)))) (br (a.Kind==2) (bd (L0 c a.Id) fun g=>br (decide (g<0)) (some 7) (jn IV ())) (br (a.Kind==3) (bd (Ly a.AY (↑c.AH.length:Int)) fun h=>br (!h) (some 4) (bd (C3 a.BA 1 60) fun j=>br (!j) (some 5) (bd (ml c a.AY) fun q=>br (decide (q<a.BA)) (some 12) (jn IV ())))) (br (a.Kind==4) (jn (fP c a) (a.Kind==4)) (jn (fP c a) (a.Kind==5))))))))
def Pw:=gZ iQ Cv B5 ["7sdctVYK4aQYxMt3m9LYYB3w9widXckasxXwQZhqmfMwTgIqoCQzXYJM2PbTiaAq1E2D4BxYpHhgG9sh","rWhtISsFmu77l0ZSEwgscMeXY2QEswvsyWHUBBZIwBVDL3PxqnNK6rsd0VlzRHZqPgpruFrciurNSzxl","o2WoODdj2XCIYxIRdvaZ47cEEN3EN49kqO7iwkMYhLE0MiDSFUfUIvO9Itx95U63kJM3wCXdnb1fJXQ1","uzanWgbakFhUk8bVek2PWlWXy7tkQafDKFT5RX6vssMAozpzUSZG5OHlnv59j6I2vss3YX63Qi0eHQY4","9dsmKcUcTipyZVJpsasnb6u3T8RN8WNMEQ24VHKoyP807CUpVHra7VsLUxpbJfXL6E9ZHUrH1JZcYipE","zOqYhRGMqzitPoxg54vAwgQLOFdIgi89wgOfMNXG7YRGcxhOg2dKpgMbdY1arPZvJLCjZjASLoXttC5B","QPeQupYsGAQ0Ku7F8ChmFb4JsRlo9qFO3rkzqPHJtmvv7INKsu0ND2I0jBWfml0MOeBZhL4jBhpb1An8","jmcgEJgM2zg1Nb1ZF9AO8AkvkSFFmZEgHIo7PAMrby0bh9lq3Xts3qZnxNWvSaZQvhT7qNLjUVv5A87v","bgLAz9F1JTPGhzPHpvklAcZxNBx4PtKdwa3v"] [Tw,Eb,iG,Pt,Tz,qy,AQd,AQ4] (Aq RF)
def AN7(a c:AN):AA Bool:=some (decide (a.Id>c.Id))
def rf:=gZ [.v (.st 2),.p (.st 2)] CK [.tmp 3] ["JfMShjip13pSTVj"] [] (Aq AN7)
def Aah:YF:=⟨[rf],[.v (.l (.st 2)),.f rf.x [(true,(.st 2))]],[0],.ret [.i],[.tmp 4],dY ["ciZDDIaLPNsOHDhwrYrquQm1xyGcC3yBwQ0YtVWoH4Uud2p7IYrcZjioUbwBn2NJA"] [] [.Dn 16 (.tmp 11) [.v,.p] [.tmp 15]]⟩
def zy(_:PUnit):AA Int:=some (-1)
def z5(e:List AN)(a:AN)(g:Int->AA Int)(c:Int):AA Int:=br (decide (c<e.length)) (bd (at? e c) fun h=>bd (AN7 h a) fun j=>br j (some c) (g (w64 (c+1)))) (jn zy ())
def AIB(c:List AN)(a:AN):AA Int:=A3 (z5 c a) big 0
def AQ5:GF:=Aah.gf rfl rfl (fun a=>AIB a.1 a.2.1.1) (fun a=>by kernel_rfl)
def Aai:YF:=⟨[rf],[.v (.l (.st 2)),.v (.st 2)],[],.ret [(.l (.st 2))],[.tmp 4],dY ["91uITpDguV17gteB51e8tvf1Rb54jviKGUQa7iApMUEwjRoajFqheDEzEfCiGOswau717iqqauNic5IQ","y2WjzR"] [ra,AED] [.MR 22 0 [.tmp 3],.call 23 AQ5 [0] rfl [.tmp 21,.tmp 22]]⟩
def fR(a:List AN)(c:AN)(e:Int):AA (List AN):=bd (AXN a e [c]) fun g=>some g
def mq(a:List AN)(c:AN):AA (List AN):=gd (0+a.length<=lim) (bd (mj a c.Id) fun e=>br (decide (e>=0)) (bd (at? a e) fun h=>bd (at? a e) fun j=>some (a.set (n6 e) c)) (bd (AIB a c) fun g=>br (decide (g<0)) (jn (fR a c) (↑a.length:Int)) (jn (fR a c) g)))
def rh:GF:=Aai.EF (Aq mq)
def fT(c e:List Af)(a:Bool):AA ((List Af)×Bool):=br a (some (c,false)) (some (e,true))
def fS(c:List Af)(q:Af)(B:List Af)(y:Int):AA ((List Af)×Bool):=bd (VI c) fun E=>bd (AN3 E y [q]) fun a=>bd (VI c) fun e=>bd (AN3 e y [q]) fun g=>eqv a g (bd (lZ c) fun h=>br (!h) (jn (fT B a) true) (bd (lZ a) fun j=>jn (fT B a) (!j)))
def Vd(e:List Af)(g:Af)(j:List Af)(c:Int->AA (List Af×Bool))(a:Int)(h:Bool):AA ((List Af)×Bool):=br h (c (w64 (a+1))) (jn (fS e g j) a)
def fU(a:List Af)(e:Af)(h:List Af)(g:Int->AA (List Af×Bool))(c:Int):AA ((List Af)×Bool):=br (decide (c<a.length)) (bd (at? a c) fun j=>bd (vt j e) fun q=>jn (Vd a e h g c) q) (jn (Vd a e h g c) false)
def mr(a:List Af)(c:Af):AA ((List Af)×Bool):=bd (VI a) fun e=>A3 (fU a c e) big 0
def AEH:=gZ ASA AEZ AEa ["2ilCrBDMwNcDKBAMnBo0p6f0lNGy1AhqRVWxLZPviUW5flMij113P34o4x4EDTbHn2aQP8rxC2A98OMS","pMCnRibZHVm2ky7qxtLU1jjh9I5lDzWGPiOW0t68w4RQzYDd1iwz6hKDK70Q1wJaxEmpZh6p8FXs6O"] [rP,ADN,AEE,ADP] (Aq mr)
def AN8(a:BE)(c:Int):AA BE:=some (BE.mk a.Total a.Db a.Ee a.FY (w64 (a.Fx+c)))
def ri:=gZ Xq Xx [] ["T5xXRa1M3ZIcVmhC6A72E"] [] (Aq AN8)
def Abw:=fun (a:GF)=>(⟨[a],[.v (.st 3),.v .i,.f a.x [(true,.i)]],[0],.ret [(.st 3),.b],[.cell 6 (some 5),.tmp 7],dY ["VwK7NZXPmmpHr71zoEE2A6ZejyUjqk5nqiF0sJi3qXT0CepPWhdv44qMUUgDNeVLC00WlHGa5lQ4PV"] [Pu,Eb] [.Dn 20 (.tmp 19) [.b,.p] [.tmp 8]]⟩:YF)
def Aaj:YF:=Abw ri
def fV(c:BE)(a:Int)(g:Bool):AA (BE×Bool):=br g (some (c,false)) (bd (AN8 c a) fun e=>bd (LH e) fun h=>br (!h) (some (c,false)) (some (e,true)))
def AN9(c:BE)(e a:Int):AA (BE×Bool):=bd (LH c) fun g=>br (!g) (jn (fV c a) true) (bd (C3 e 0 60) fun h=>jn (fV c a) (!h))
def AQ6:GF:=Aaj.gf rfl rfl (fun a=>AN9 a.1 a.2.1 a.2.2.1.1) (fun a=>by kernel_rfl)
def Aak:YF:=⟨[ri],[.v (.st 3),.v .i],[],.ret [(.st 3),.b],[.cell 4 (some 5),.tmp 5],dY ["HIM600iMJWudcEgdLMiMkGEN0G"] [] [.MR 8 0 [.tmp 3],.call 9 AQ6 [0] rfl [.tmp 6,.tmp 7,.tmp 8]]⟩
def AIC(e:BE)(a:Int):AA (BE×Bool):=bd (AN9 e a a) fun c=>some (c.fst,c.snd)
def AQ7:GF:=Aak.EF (Aq AIC)
def fW(a:List Int):AA (List Int):=some a
def Ve(e:List Int)(a:Int):AA (List Int):=bd (Jh e) fun c=>bd (lj e a) fun g=>br (!g) (gd (e8 c+[a].length<=lim) (jn fW (c++[a]))) (jn fW c)
def T0:=gZ ZH RW B5 ["2oyUgJKrInU2jBIAL7clyXIwf3x58eVPpewaZ"] [Tx,rI] (Aq Ve)
def fY(e:Int)(a:AE):AA (AE×Int):=bd (Ve a.BF e) fun c=>some (AE.mk a.AQ a.Now a.Az a.AG a.AH c a.BC,0)
def AID(h:AE)(B c g y E:Int):AA (AE×Int):=bd (M0 h) fun a=>bd (RF h (Bp.mk 1 B c g y E)) fun I=>br (I != 0) (some (a,I)) (bd (mq a.AG (AN.mk B c g y E h.Now h.Az 1 0 0)) fun J=>bd (lg a.AQ (AN.mk B c g y E h.Now h.Az 1 0 0) a.Now) fun Q=>bd (at? a.AH c) fun X=>bd (at? a.AH c) fun S=>bd (mr S.Row Q.fst) fun j=>bd (at? a.AH c) fun Y=>bd (at? a.AH c) fun e=>br (g != -1) (bd (at? (a.AH.set c.toNat (Ab.mk e.AW j.fst e.Bq)) g) fun L=>bd (at? (a.AH.set c.toNat (Ab.mk e.AW j.fst e.Bq)) g) fun G=>bd (AIC G.AW y) fun H=>bd (at? (a.AH.set c.toNat (Ab.mk e.AW j.fst e.Bq)) g) fun O=>bd (at? (a.AH.set c.toNat (Ab.mk e.AW j.fst e.Bq)) g) fun q=>jn (fY c) (AE.mk a.AQ a.Now (w64 (a.Az+1)) J ((a.AH.set c.toNat (Ab.mk e.AW j.fst e.Bq)).set g.toNat (Ab.mk H.fst q.Row q.Bq)) a.BF a.BC)) (jn (fY c) (AE.mk a.AQ a.Now (w64 (a.Az+1)) J (a.AH.set c.toNat (Ab.mk e.AW j.fst e.Bq)) a.BF a.BC)))
def AQ8:=gZ ASD J5 ASN ["5UhFCXNWCjq3UDQrmFiKXGPG0x6MijfGHQ8fgeR1VZugV7cXNHqe1EQxNuyfsiaDLlzwaWnWnKP5XHrF","O8OSGk7jZuo2yuVJ00oMYc0qKHzhVlHwfJOoWFBjpSuFWdtkQI15nl2xF8DjoVys09Dy3gSN8hFltUGy","o1U95t3sRfUxcb7PoX4Xe0j3jM7buALHRQLRbVmx6NwgLONjSpSJbR0hgycEbNXYwpijeDJ4YdjF2Df5","Yxxls86FpD7gi60NPMuFn44BS51sIMHtyPegxdeq0EC46i0G6Cy0SR3jU5cJM"] [Kq,Pw,rh,rC,AEH,AQ7,T0] (AFp AID)
def z6(c:List Af)(g:Int):AA ((List Af)×Bool):=bd (VI c) fun e=>bd (lY c g) fun a=>br (decide (a<0)) (some (e,false)) (bd (AXK e a (w64 (a+1))) fun h=>some (h,true))
def AEI:=gZ r9 AEZ AEa ["1RIpMIoNPwu96HmAg9Otr15puCdOwZ7DCufA65Ph96Yyg4cZ6"] [rP,ADO,AD6] (Aq z6)
def z7(_:PUnit):AA Int:=some (-1)
def z8(c:List BH)(e:BH)(h:Int->AA Int)(a:Int):AA Int:=br (decide (a<c.length)) (bd (at? c a) fun g=>br (e.At==g.At&&(e.Id==g.Id&&true)) (some a) (h (w64 (a+1)))) (jn z7 ())
def AIE(a:List BH)(c:BH):AA Int:=A3 (z8 a c) big 0
def AQ9:=gZ ASB Cv B5 ["jkoMv86WOTXkdTwVfVNCVH3ZsyCLUfBc1PwU7IgTl3jkKNuLk6Bx4GVD9uOk2Txv"] [] (Aq AIE)
def fZ(a:BH)(c:A0)(h:Bool):AA (A0×Bool):=br h (some (c,false)) (bd (at? c.Ao (a.At.tmod 9)) fun q=>bd (at? c.Ao (a.At.tmod 9)) fun g=>bd (AIE g a) fun e=>br (decide (e<0)) (some (c,false)) (bd (AXL g e (w64 (e+1))) fun j=>bd (at? c.Ao (a.At.tmod 9)) fun y=>bd (at? c.Ao (a.At.tmod 9)) fun B=>gd (Y.N4 (a.At.tmod 9).toNat 0 1 [((a.At.tmod 9).toNat,0)]) (some (A0.mk (c.Ao.set (a.At.tmod 9).toNat j),true))))
def mu(e:A0)(a:BH):AA (A0×Bool):=bd (dN e) fun g=>bd (TC e) fun h=>br (!h) (jn (fZ a g) true) (bd (lf a) fun c=>jn (fZ a g) (!c))
def rj:=gZ sE Xv sK ["8vBzEVrow7Pno02FkvI8hswY4mJ7mvWrw64hARjW7RjdJnaqAy2FsuVW8THUNna24602k49RzHJHrQvL","19yZJux4oPLtB0IkbV5iW5hjTVQ7Z0nlJ7u4X0lWA2ffM0GDOjTflmyC"] [rQ,iF,rB,AQ9,AD7] (Aq mu)
def AOA(a:BE)(c:Int):AA BE:=some (BE.mk a.Total (w64 (a.Db+c)) (w64 (a.Ee-c)) a.FY a.Fx)
def rl:=gZ Xq Xx [] ["LIKYn3V8yUVkGP1g0uk8LkfQvowEFULO5bLqZKO2"] [] (Aq AOA)
def Aal:YF:=Abw rl
def fb(c:BE)(a:Int)(g:Bool):AA (BE×Bool):=br g (some (c,false)) (bd (AOA c a) fun e=>bd (LH e) fun h=>br (!h) (some (c,false)) (some (e,true)))
def AOB(c:BE)(e a:Int):AA (BE×Bool):=bd (LH c) fun g=>br (!g) (jn (fb c a) true) (bd (C3 e 0 60) fun h=>jn (fb c a) (!h))
def ARA:GF:=Aal.gf rfl rfl (fun a=>AOB a.1 a.2.1 a.2.2.1.1) (fun a=>by kernel_rfl)
def Aam:YF:=⟨[rl],[.v (.st 3),.v .i],[],.ret [(.st 3),.b],[.cell 4 (some 5),.tmp 5],dY ["HIM600iMJWudcEgdLMiMkGEN0G"] [] [.MR 8 0 [.tmp 3],.call 9 ARA [0] rfl [.tmp 6,.tmp 7,.tmp 8]]⟩
def AAA(e:BE)(a:Int):AA (BE×Bool):=bd (AOB e a a) fun c=>some (c.fst,c.snd)
def AEJ:GF:=Aam.EF (Aq AAA)
def AOC(a:BE)(c:Int):AA BE:=some (BE.mk a.Total a.Db a.Ee a.FY (w64 (a.Fx-c)))
def rm:=gZ Xq Xx [] ["1Zq3zMZHW310VVxTj2GGSo"] [] (Aq AOC)
def Aan:YF:=Abw rm
def fc(c:BE)(a:Int)(g:Bool):AA (BE×Bool):=br g (some (c,false)) (bd (AOC c a) fun e=>bd (LH e) fun h=>br (!h) (some (c,false)) (some (e,true)))
def AOD(c:BE)(e a:Int):AA (BE×Bool):=bd (LH c) fun g=>br (!g) (jn (fc c a) true) (bd (C3 e 0 60) fun h=>jn (fc c a) (!h))
def ARB:GF:=Aan.gf rfl rfl (fun a=>AOD a.1 a.2.1 a.2.2.1.1) (fun a=>by kernel_rfl)
def Aao:YF:=⟨[rm],[.v (.st 3),.v .i],[],.ret [(.st 3),.b],[.cell 4 (some 5),.tmp 5],dY ["HIM600iMJWudcEgdLMiMkGEN0G"] [] [.MR 8 0 [.tmp 3],.call 9 ARB [0] rfl [.tmp 6,.tmp 7,.tmp 8]]⟩
def mw(e:BE)(a:Int):AA (BE×Bool):=bd (AOD e a a) fun c=>some (c.fst,c.snd)
def rq:GF:=Aao.EF (Aq mw)
def fe(a:List AN):AA (List AN):=some a
def Vf(a:List AN)(e:Int):AA (List AN):=gd (0+a.length<=lim) (bd (mj a e) fun c=>br (decide (c>=0)) (bd (AXM a c (w64 (c+1))) fun g=>jn fe g) (jn fe a))
def rr:=gZ M8 (.ret [(.l (.st 2))]) B5 ["60zEAGIZGJJt0zyhtlmvHYL6KZFDCvdlqSZOXTbqrNNO2Uof"] [ra,AD8] (Aq Vf)
def fh(e:Int)(a:AE):AA (AE×Int):=bd (Vf a.AG e) fun c=>some (AE.mk a.AQ a.Now a.Az c a.AH a.BF a.BC,0)
def Vg(j:Int)(c:AN)(a:AE):AA (AE×Int):=br (c.Bi != -1) (bd (at? a.AH c.Bi) fun q=>bd (at? a.AH c.Bi) fun g=>bd (mw g.AW c.BA) fun h=>bd (at? a.AH c.Bi) fun y=>bd (at? a.AH c.Bi) fun e=>jn (fh j) (AE.mk a.AQ a.Now a.Az a.AG (a.AH.set c.Bi.toNat (Ab.mk h.fst e.Row e.Bq)) a.BF a.BC)) (jn (fh j) a)
def AIF(j:AE)(g:Int):AA (AE×Int):=bd (M0 j) fun a=>bd (RF j (Bp.mk 2 g 0 0 0 0)) fun I=>br (I != 0) (some (a,I)) (bd (L0 j g) fun J=>bd (at? j.AG J) fun c=>bd (L0 j g) fun L=>bd (at? j.AG L) fun O=>KK c O (bd (at? a.AH c.AY) fun X=>br (c.State==1) (bd (at? a.AH c.AY) fun Q=>bd (z6 Q.Row g) fun S=>bd (at? a.AH c.AY) fun q=>jn (Vg g c) (AE.mk a.AQ a.Now a.Az a.AG (a.AH.set c.AY.toNat (Ab.mk q.AW S.fst q.Bq)) a.BF a.BC)) (bd (at? a.AH c.AY) fun B=>bd (mu B.Bq (BH.mk c.Cq g)) fun h=>bd (at? a.AH c.AY) fun e=>bd (at? (a.AH.set c.AY.toNat (Ab.mk e.AW e.Row h.fst)) c.AY) fun E=>bd (AAA E.AW c.BA) fun G=>bd (at? (a.AH.set c.AY.toNat (Ab.mk e.AW e.Row h.fst)) c.AY) fun y=>bd (Ve a.BF c.AY) fun H=>jn (Vg g c) (AE.mk a.AQ a.Now a.Az a.AG ((a.AH.set c.AY.toNat (Ab.mk e.AW e.Row h.fst)).set c.AY.toNat (Ab.mk G.fst y.Row y.Bq)) H a.BC))))
def ARC:=gZ FM J5 Ld ["2yWGt985s3lBk2glpnT1kHUsFVEgP3dg5XelvPvvkedZpF7H7CE2hX2D6vou4gDm81BV7nF4ucOBbgDm","OZC9KpiqjqhOuv4YrwBOP9TYQ2CP1YWwOFfG2KybJW6Q155WZydWIgK26I3qxgY6Xjah6l1OmYD9Ozgm","UHFnJTLsed9BiHlKOAA2yYaWu41lDbjXN4ZnFTbAT56LmpmcKUZodIb4VbgxdikYAlarwVUJIOrKvJnf","EqY0DKKXPABFQQB5SM59lm86pyzBBFHcSTEMc35xhHRCdEiHpAZSeIG4RQcNcp0cEMaCE1uSC2BSqDWK","bl4tvN77ceuBD1Nrtz8qP"] [Kq,Pw,Tz,AEI,rj,AEJ,T0,rq,rr] (Aq AIF)
def AOE(a:BE)(c:Int):AA BE:=some (BE.mk a.Total (w64 (a.Db+c)) a.Ee (w64 (a.FY-c)) a.Fx)
def rz:=gZ Xq Xx [] ["hbqwUbmgVOW5tBxPLdADEJsKWjxU8E0xAHazA1DS"] [] (Aq AOE)
def Aap:YF:=Abw rz
def fj(c:BE)(a:Int)(g:Bool):AA (BE×Bool):=br g (some (c,false)) (bd (AOE c a) fun e=>bd (LH e) fun h=>br (!h) (some (c,false)) (some (e,true)))
def AOF(c:BE)(e a:Int):AA (BE×Bool):=bd (LH c) fun g=>br (!g) (jn (fj c a) true) (bd (C3 e 0 60) fun h=>jn (fj c a) (!h))
def ARD:GF:=Aap.gf rfl rfl (fun a=>AOF a.1 a.2.1 a.2.2.1.1) (fun a=>by kernel_rfl)
def Aaq:YF:=⟨[rz],[.v (.st 3),.v .i],[],.ret [(.st 3),.b],[.cell 4 (some 5),.tmp 5],dY ["HIM600iMJWudcEgdLMiMkGEN0G"] [] [.MR 8 0 [.tmp 3],.call 9 ARD [0] rfl [.tmp 6,.tmp 7,.tmp 8]]⟩
def AAB(e:BE)(a:Int):AA (BE×Bool):=bd (AOF e a a) fun c=>some (c.fst,c.snd)
def AEK:GF:=Aaq.EF (Aq AAB)
def AIH(e:AE)(c g:Int):AA (AE×Int):=bd (M0 e) fun a=>bd (RF e (Bp.mk 3 0 c 0 g 0)) fun h=>br (h != 0) (some (a,h)) (bd (at? a.AH c) fun E=>bd (at? a.AH c) fun q=>bd (AAB q.AW g) fun y=>bd (at? a.AH c) fun G=>bd (at? a.AH c) fun j=>bd (Ve a.BF c) fun B=>some (AE.mk a.AQ a.Now a.Az a.AG (a.AH.set c.toNat (Ab.mk y.fst j.Row j.Bq)) B a.BC,0))
def ARE:=gZ [.v (.st 8),.v .i,.v .i] J5 ASO ["4F6qgFzjuLmEe3p3AngQewgS9LOKO1WM5ki2xWj7YYMnXClO0vVA36gVA4fQQzVtpZHBN0DIC0LmnhtQ","uE87XpZpba0k0eVm47vmkkvu1RWhgc8LkdefBaBysZZ"] [Kq,Pw,AEK,T0] (GI AIH)
def AN4(a:BE)(c:Int):AA BE:=some (BE.mk a.Total a.Db (w64 (a.Ee-c)) (w64 (a.FY+c)) a.Fx)
def re:=gZ Xq Xx [] ["1ZKu5Rk1AUcDFcqO6JyVbd12ihE48mMzOh4oh2KMk"] [] (Aq AN4)
def Aaf:YF:=Abw re
def fG(c:BE)(a:Int)(g:Bool):AA (BE×Bool):=br g (some (c,false)) (bd (AN4 c a) fun e=>bd (LH e) fun h=>br (!h) (some (c,false)) (some (e,true)))
def AN5(c:BE)(e a:Int):AA (BE×Bool):=bd (LH c) fun g=>br (!g) (jn (fG c a) true) (bd (C3 e 0 60) fun h=>jn (fG c a) (!h))
def AQx:GF:=Aaf.gf rfl rfl (fun a=>AN5 a.1 a.2.1 a.2.2.1.1) (fun a=>by kernel_rfl)
def Aag:YF:=⟨[re],[.v (.st 3),.v .i],[],.ret [(.st 3),.b],[.cell 4 (some 5),.tmp 5],dY ["HIM600iMJWudcEgdLMiMkGEN0G"] [] [.MR 8 0 [.tmp 3],.call 9 AQx [0] rfl [.tmp 6,.tmp 7,.tmp 8]]⟩
def AH3(e:BE)(a:Int):AA (BE×Bool):=bd (AN5 e a a) fun c=>some (c.fst,c.snd)
def AQy:GF:=Aag.EF (Aq AH3)
def fH(a:AE):AA (AE×Int):=some (a,0)
def AH4(B:AE)(E:Int):AA (AE×Int):=bd (M0 B) fun g=>bd (RF B (Bp.mk 4 E 0 0 0 0)) fun S=>br (S != 0) (some (g,S)) (bd (L0 B E) fun Y=>bd (at? B.AG Y) fun c=>bd (L0 B E) fun Z=>bd (at? B.AG Z) fun x6=>KK c x6 (bd (at? g.AH c.AY) fun x7=>bd (at? g.AH c.AY) fun x8=>bd (AH3 x8.AW c.BA) fun q=>bd (at? g.AH c.AY) fun a=>bd (at? (g.AH.set c.AY.toNat (Ab.mk q.fst a.Row a.Bq)) c.AY) fun I=>bd (mu I.Bq (BH.mk c.Cq E)) fun h=>bd (at? (g.AH.set c.AY.toNat (Ab.mk q.fst a.Row a.Bq)) c.AY) fun e=>bd (Vf g.AG E) fun G=>br (c.Bi != -1) (bd (at? ((g.AH.set c.AY.toNat (Ab.mk q.fst a.Row a.Bq)).set c.AY.toNat (Ab.mk e.AW e.Row h.fst)) c.Bi) fun X=>bd (at? ((g.AH.set c.AY.toNat (Ab.mk q.fst a.Row a.Bq)).set c.AY.toNat (Ab.mk e.AW e.Row h.fst)) c.Bi) fun J=>bd (mw J.AW c.BA) fun y=>bd (at? ((g.AH.set c.AY.toNat (Ab.mk q.fst a.Row a.Bq)).set c.AY.toNat (Ab.mk e.AW e.Row h.fst)) c.Bi) fun j=>bd (at? (((g.AH.set c.AY.toNat (Ab.mk q.fst a.Row a.Bq)).set c.AY.toNat (Ab.mk e.AW e.Row h.fst)).set c.Bi.toNat (Ab.mk y.fst j.Row j.Bq)) c.Bi) fun L=>bd (AAB L.AW c.BA) fun O=>bd (at? (((g.AH.set c.AY.toNat (Ab.mk q.fst a.Row a.Bq)).set c.AY.toNat (Ab.mk e.AW e.Row h.fst)).set c.Bi.toNat (Ab.mk y.fst j.Row j.Bq)) c.Bi) fun H=>bd (Ve g.BF c.Bi) fun Q=>jn fH (AE.mk g.AQ g.Now g.Az G ((((g.AH.set c.AY.toNat (Ab.mk q.fst a.Row a.Bq)).set c.AY.toNat (Ab.mk e.AW e.Row h.fst)).set c.Bi.toNat (Ab.mk y.fst j.Row j.Bq)).set c.Bi.toNat (Ab.mk O.fst H.Row H.Bq)) Q g.BC)) (jn fH (AE.mk g.AQ g.Now g.Az G ((g.AH.set c.AY.toNat (Ab.mk q.fst a.Row a.Bq)).set c.AY.toNat (Ab.mk e.AW e.Row h.fst)) g.BF g.BC))))
def AQz:=gZ FM J5 Ld ["2dasjrr5b4DXYXH7oH9m9rZKYUz2oKmYQBryPovYwtapGlZQtGbuFflMbGj72yley5Yo6MNbD4t2jM0X","pOtvZLFRU5BRO1D4fqbCkXoNshC4xVLz7lgExkSgL57elpJW1GwsrRyoCh9E5JLg6dAa9GWXz6dLSzO8","ndms4TMVWOgjnB9TjQ6Cll9gbo2LOEMjfVjbLZDuE6ysOZBWd6lMR6I28BSUbZQVrctY9fpxJO9BNCFj","QvsYgh4RbHIJKobGp1wHdeRXFD9ZQj2cEoUE2fxTBKKnriz2q46u9vB3YkEHLSz1LYYM41fZ7FdXbBkY","Lc31oUKimk"] [Kq,Pw,Tz,AQy,rj,rr,rq,AEK,T0] (Aq AH4)
def Vb(c:Aa)(a:AN)(e:Int)(g:Bool):AA (AN×Bool):=br g (some (AN.mk 0 0 0 0 0 0 0 0 0 0,false)) (some (AN.mk a.Id a.AY a.Bi a.BA a.Co a.Since a.Az 1 (w64 (e+c.Rest)) (w64 (a.DH+1)),true))
def AH5(c:Aa)(a:AN)(e:Int):AA (AN×Bool):=bd (bM c a e) fun g=>br (!g) (jn (Vb c a e) true) (br (a.State != 2) (jn (Vb c a e) true) (jn (Vb c a e) (w64 (a.DH+1)==c.Ca)))
def AQ0:=gZ RU (.ret [(.st 2),.b]) ASP ["17IoCkHnRhV0HLUYDL6AEdJD3OrY1f6aaECf41c42CeTVFD7BQg2G8HytnMXYERG3XadeaMRb2ymhtUw","YIlAdEnGcgxB62YFlymkcr"] [iE] (GI AH5)
def fI(a:AE):AA AE:=some a
def zt(c:AE)(G:Int):AA AE:=bd (L0 c G) fun X=>bd (at? c.AG X) fun x2=>bd (at? c.AG X) fun e=>bd (L0 c G) fun Y=>bd (at? c.AG Y) fun x5=>bd (at? c.AG Y) fun x6=>KK e x6 (bd (at? c.AH e.AY) fun x7=>bd (at? c.AH e.AY) fun x8=>bd (AAA x8.AW e.BA) fun j=>bd (at? c.AH e.AY) fun a=>bd (at? (c.AH.set e.AY.toNat (Ab.mk j.fst a.Row a.Bq)) e.AY) fun H=>bd (mu H.Bq (BH.mk e.Cq G)) fun h=>bd (at? (c.AH.set e.AY.toNat (Ab.mk j.fst a.Row a.Bq)) e.AY) fun g=>bd (AH5 c.AQ e c.Now) fun q=>br q.snd (bd (mq c.AG q.fst) fun I=>bd (lg c.AQ q.fst c.Now) fun J=>bd (at? ((c.AH.set e.AY.toNat (Ab.mk j.fst a.Row a.Bq)).set e.AY.toNat (Ab.mk g.AW g.Row h.fst)) e.AY) fun L=>bd (mr L.Row J.fst) fun O=>bd (at? ((c.AH.set e.AY.toNat (Ab.mk j.fst a.Row a.Bq)).set e.AY.toNat (Ab.mk g.AW g.Row h.fst)) e.AY) fun y=>some (AE.mk c.AQ c.Now c.Az I (((c.AH.set e.AY.toNat (Ab.mk j.fst a.Row a.Bq)).set e.AY.toNat (Ab.mk g.AW g.Row h.fst)).set e.AY.toNat (Ab.mk y.AW O.fst y.Bq)) c.BF c.BC)) (bd (Vf c.AG G) fun B=>br (e.Bi != -1) (bd (at? ((c.AH.set e.AY.toNat (Ab.mk j.fst a.Row a.Bq)).set e.AY.toNat (Ab.mk g.AW g.Row h.fst)) e.Bi) fun Z=>bd (at? ((c.AH.set e.AY.toNat (Ab.mk j.fst a.Row a.Bq)).set e.AY.toNat (Ab.mk g.AW g.Row h.fst)) e.Bi) fun Q=>bd (mw Q.AW e.BA) fun S=>bd (at? ((c.AH.set e.AY.toNat (Ab.mk j.fst a.Row a.Bq)).set e.AY.toNat (Ab.mk g.AW g.Row h.fst)) e.Bi) fun x24=>bd (at? ((c.AH.set e.AY.toNat (Ab.mk j.fst a.Row a.Bq)).set e.AY.toNat (Ab.mk g.AW g.Row h.fst)) e.Bi) fun E=>jn fI (AE.mk c.AQ c.Now c.Az B (((c.AH.set e.AY.toNat (Ab.mk j.fst a.Row a.Bq)).set e.AY.toNat (Ab.mk g.AW g.Row h.fst)).set e.Bi.toNat (Ab.mk S.fst E.Row E.Bq)) c.BF c.BC)) (jn fI (AE.mk c.AQ c.Now c.Az B ((c.AH.set e.AY.toNat (Ab.mk j.fst a.Row a.Bq)).set e.AY.toNat (Ab.mk g.AW g.Row h.fst)) c.BF c.BC))))
def AEF:=gZ AEX P0 T2 ["29IwjSmO7EBN4jUHcp2XSOTE0VN6ktCoUb78R3DrlQFaB9ewCPGoZopJZ9Jo5aJLERfd1dzmlEdTuyvi","c9tSfb6T9JKp5h6VsAfSD77fJTuY3M3EpymVSECfToJTdQf27Dx1CN9psxjeOAsXSEBTQkkA9Xfgshko","cFISAnNOnpDRRi3lQ9ckbn1NRgOk1gKqJlqX6KOdyeiDhXwh0hVwLJvRVCc7Pp8StbfwMKuMc3HXfrUz","S6dqq6kgKe0IW14oOPdIZOvsTMWnWseZcZHedvrJt35Ql5WF5etfBbsUlTSS0Bpv70V4JPXNaJt6qG9o","xX51Hs6WTEC9V7EsX3cTbfxnWzfGbrtLgtP4uGt0u0WlqKOUi"] [Tz,AEJ,rj,AQ0,rh,rC,AEH,rr,rq] (Aq zt)
def AH6(c:AE)(e:Int):AA (AE×Int):=bd (M0 c) fun g=>bd (RF c (Bp.mk 5 e 0 0 0 0)) fun h=>br (h != 0) (some (g,h)) (bd (L0 c e) fun j=>bd (at? c.AG j) fun q=>bd (zt g e) fun a=>bd (Ve a.BF q.AY) fun y=>some (AE.mk a.AQ a.Now a.Az a.AG a.AH y a.BC,0))
def AQ1:=gZ FM J5 Ld ["Jx9VEk0F4K4AdBJnvg2G12bFRi8LJK1BVu16M4CpVQ9r8DF22v7qMMTJoWevuaR9bfPJjsqXeuxsP8SI","8WkBVGwZ2jiltHkWYEGzLAbc"] [Kq,Pw,Tz,AEF,T0] (Aq AH6)
def fJ(c:Int×AE->AA (AE×Int))(e:Int)(a:AE):AA (AE×Int):=c (w64 (e+1),a)
def AN6(a:AE):AA (AE×Int):=some (a,0)
def Vc(q:AE)(h:Int×AE->AA (AE×Int))(B:Int×AE):AA (AE×Int):=let (c,a):=B;br (decide (c<q.AH.length)) (bd (Y0 a.AQ a.AG c a.Now) fun j=>bd (at? a.AH c) fun E=>bd (at? a.AH c) fun e=>bd (lW a.AG c) fun y=>br (decide (y>0)) (bd (Ve a.BF c) fun g=>jn (fJ h c) (AE.mk a.AQ a.Now a.Az a.AG (a.AH.set (n6 c) (Ab.mk e.AW j e.Bq)) g a.BC)) (jn (fJ h c) (AE.mk a.AQ a.Now a.Az a.AG (a.AH.set (n6 c) (Ab.mk e.AW j e.Bq)) a.BF a.BC))) (jn AN6 a)
def AH7(c:AE):AA (AE×Int):=bd (M0 c) fun a=>bd (RF c (Bp.mk 6 0 0 0 0 0)) fun e=>br (e != 0) (some (a,e)) (A3 (Vc a) big (0,AE.mk a.AQ (w64 (a.Now+1)) a.Az a.AG a.AH a.BF a.BC))
def AQ2:=gZ Py J5 iR ["1mH2qn7mpcvbHi66OnqEaUEccuPiUHSPUHLI2BdTLV33dQ2LlzAIvgSQBYHYc71GpFOLaG8eMepYSpe4","LQDwRDoOouLk7LrhUifxQgM9mZMbm6IyFazCymKF2IrWdG04g73YE2lyoknQqKFeOIJ2JO1sZjCZPTPl","GhGpllGalcT"] [Kq,Pw,qh,qy,T0] (Bm AH7)
def fK(a:Bool):AA Bool:=some a
def zu(a:AE)(c:Int):AA Bool:=bd (TD a) fun e=>br e (bd (Ly c (↑a.AH.length:Int)) fun g=>jn fK g) (jn fK false)
def AEG:=gZ FM CK B5 ["4HutGcXfg8dtfUpbJ01id1RaBAS6Fy"] [Tw,Pt] (Aq zu)
def fL(a:List BH×Int->AA (List BH))(c:Int)(e:List BH):AA (List BH):=a (e,w64 (c+1))
def zw(a:List BH):AA (List BH):=some a
def fM(j:Int)(e:List BH)(h:List BH×Int->AA (List BH))(q:List BH×Int):AA (List BH):=let (c,a):=q;br (decide (a<(e8 e))) (bd (at? e a) fun y=>bd (at? e a) fun g=>br (decide (g.At<=j)) (gd (e8 c+[g].length<=lim) (jn (fL h a) (c++[g]))) (jn (fL h a) c)) (jn zw c)
def AH8(a:A0)(c:Int):AA (List BH):=bd (wW a) fun e=>A3 (fM c e) big ([],0)
def AQ3:=gZ [.v (.st 6),.v .i] Xs B5 ["weunT2MmjksT6Dp5kn2A4KJOQxfRdRCpCmFxZM9pQuUiIEoyQFfVHT1IdL2GPmefgT4OJCyHcJLVAxZt","kksx0NoI7"] [ADQ] (Aq AH8)
def AAJ(a:List Int):AA (List Int):=some a
def gB(e:List BH)(h:List Int×Int->AA (List Int))(j:List Int×Int):AA (List Int):=let (c,a):=j;br (decide (a<(e8 e))) (bd (at? e a) fun q=>bd (at? e a) fun g=>gd (e8 c+[g.Id].length<=lim) (h (c++[g.Id],w64 (a+1)))) (jn AAJ c)
def AIN(a:AE)(c:Int):AA (List Int):=bd (zu a c) fun e=>br (!e) (some []) (bd (at? a.AH c) fun g=>bd (AH8 g.Bq a.Now) fun h=>A3 (gB h) big ([],0))
def ARN:=gZ FM RW B5 ["XMYQ1bYN7mpBSbEhK0FPEHUQw6Q729nk5oasITCtCbOjmem6IfgUglD81XB2gjcv0YwooVQq1kCRHlUS","g2gBWs4TIjcfjyojj0mvqmUFGRrR"] [AEG,AQ3] (Aq AIN)
def AAK(a:AE):AA AE:=some a
def gC(c:List Int)(g:Int×AE->AA AE)(q:Int×AE):AA AE:=let (a,e):=q;br (decide (a<(e8 c))) (bd (at? c a) fun y=>bd (at? c a) fun h=>bd (zt e h) fun j=>g (w64 (a+1),j)) (jn AAK e)
def AIO(a:AE)(c:Int):AA AE:=bd (M0 a) fun e=>bd (AIN a c) fun g=>A3 (gC g) big (0,e)
def ARO:=gZ FM P0 T2 ["1YOEr8IsuUFqChrByM6bArWIMBl66fY3rusQhlyxw2CpV7p6jdIX7XL1KHPAuobo9ttVA4qevKrXI3j6","4"] [Kq,ARN,AEF] (Aq AIO)
def gD(a:Bool):AA Bool:=some a
def AIP(a:AN)(c:Int):AA Bool:=br (a.State==1) (jn gD (decide (a.Cq>c))) (jn gD false)
def ARP:=gZ sF CK B5 ["3nzMsrc6VTtLmaUCyqFqpD22ac7w"] [] (Aq AIP)
def gF(a:Bool):AA Bool:=some a
def AOG(a:Af)(c:Int)(e:List Int):AA Bool:=br (decide (a.BA<=c)) (bd (lj e a.Id) fun g=>jn gF (!g)) (jn gF false)
def r5:=gZ [.v (.st 4),.p .i,.p (.l .i)] CK B5 ["148wXsalyRGV3FOh2TBhG13YXw1q5WRqUa"] [rI] (GI AOG)
def Aar:YF:=⟨[r5],[.v (.l (.st 4)),.f r5.x [(true,.i),(true,(.l .i))]],[0],.ret [.i],[.tmp 4],dY ["1tPyxcJIZH0IhyJKjkWHkZ0KJRXpjk1G2OU3wlHIeDXIOcD1eW7vj0juUwxF3nYCnK"] [] [.Dn 16 (.tmp 11) [.v,.p,.p] [.tmp 15]]⟩
def AAL(_:PUnit):AA Int:=some (-1)
def gG(g:List Af)(a:Int)(c:List Int)(h:Int->AA Int)(e:Int):AA Int:=br (decide (e<g.length)) (bd (at? g e) fun j=>bd (AOG j a c) fun q=>br q (some e) (h (w64 (e+1)))) (jn AAL ())
def AOH(e:List Af)(a:Int)(c:List Int):AA Int:=A3 (gG e a c) big 0
def ARQ:GF:=Aar.gf rfl rfl (fun a=>AOH a.1 a.2.1.1 a.2.1.2.1) (fun a=>by kernel_rfl)
def Aas:YF:=⟨[r5],[.v (.l (.st 4)),.v .i,.v (.l .i)],[],.ret [.i],[.tmp 6],dY ["sNV9zHCxp640h0B0"] [] [.MR 8 0 [.tmp 4,.tmp 5],.call 9 ARQ [0] rfl [.tmp 7,.tmp 8]]⟩
def AIQ(a:List Af)(c:Int)(e:List Int):AA Int:=bd (AOH a c e) fun g=>some g
def ARR:GF:=Aas.EF (GI AIQ)
def gH(a:List Int×Int->AA Int)(c:Int)(e:List Int):AA Int:=a (e,w64 (c+1))
def gJ(g:AE)(h:Int)(j:List Int):AA Int:=bd (at? g.AH h) fun e=>bd (AIQ e.Row e.AW.Db j) fun a=>br (decide (a<0)) (some 0) (bd (at? e.Row a) fun c=>some c.Id)
def gK(a:AE)(j:Int)(h:List Int×Int->AA Int)(y:List Int×Int):AA Int:=let (c,e):=y;br (decide (e<a.AG.length)) (bd (at? a.AG e) fun g=>bd (AIP g a.Now) fun q=>br q (gd (e8 c+[g.Id].length<=lim) (jn (gH h e) (c++[g.Id]))) (jn (gH h e) c)) (jn (gJ a j) c)
def AIR(a:AE)(c:Int):AA Int:=bd (zu a c) fun e=>br (!e) (some 0) (A3 (gK a c) big ([],0))
def ARS:=gZ FM Cv B5 ["AL7HzZ3plV7OL4EzJhyrxrmQ2calJQsiBzoAbvTDuE0rrdwUUOoGtgOBjVAWbuSI5Y3nDbW9kX8xKUBB","1yleAstqiYX2GsI0aL4I5DXr6XwLLznu5vraDPnOGjbNynZEnlMIEQ24KqrqMdmjmRWnc5zVvK"] [AEG,ARP,ARR] (Aq AIR)
def AOI(a:BE)(c:Int):AA BE:=some (BE.mk a.Total (w64 (a.Db-c)) (w64 (a.Ee+c)) a.FY a.Fx)
def r6:=gZ Xq Xx [] ["LIKYnkOavrVQZTo2LbUsajOD2OAmUadyvcTdx67H"] [] (Aq AOI)
def Aat:YF:=Abw r6
def gM(c:BE)(a:Int)(g:Bool):AA (BE×Bool):=br g (some (c,false)) (bd (AOI c a) fun e=>bd (LH e) fun h=>br (!h) (some (c,false)) (some (e,true)))
def AOJ(c:BE)(e a:Int):AA (BE×Bool):=bd (LH c) fun g=>br (!g) (jn (gM c a) true) (bd (C3 e 0 60) fun h=>jn (gM c a) (!h))
def ART:GF:=Aat.gf rfl rfl (fun a=>AOJ a.1 a.2.1 a.2.2.1.1) (fun a=>by kernel_rfl)
def Aau:YF:=⟨[r6],[.v (.st 3),.v .i],[],.ret [(.st 3),.b],[.cell 4 (some 5),.tmp 5],dY ["HIM600iMJWudcEgdLMiMkGEN0G"] [] [.MR 8 0 [.tmp 3],.call 9 ART [0] rfl [.tmp 6,.tmp 7,.tmp 8]]⟩
def AIS(e:BE)(a:Int):AA (BE×Bool):=bd (AOJ e a a) fun c=>some (c.fst,c.snd)
def ARU:GF:=Aau.EF (Aq AIS)
def AIT(h:AE)(c:Int):AA (AE×Int):=bd (M0 h) fun e=>bd (AIR h c) fun y=>br (y==0) (some (e,0)) (bd (L0 h y) fun L=>bd (at? h.AG L) fun j=>bd (L0 h y) fun O=>bd (at? h.AG O) fun Q=>KK j Q (bd (at? e.AH c) fun X=>bd (at? e.AH c) fun S=>bd (AIS S.AW j.BA) fun E=>bd (at? e.AH c) fun a=>bd (at? (e.AH.set c.toNat (Ab.mk E.fst a.Row a.Bq)) c) fun G=>bd (z6 G.Row y) fun q=>bd (at? (e.AH.set c.toNat (Ab.mk E.fst a.Row a.Bq)) c) fun g=>bd (mq e.AG (AN.mk j.Id j.AY j.Bi j.BA j.Co j.Since j.Az 2 (w64 (h.Now+h.AQ.B1)) j.DH)) fun H=>bd (at? ((e.AH.set c.toNat (Ab.mk E.fst a.Row a.Bq)).set c.toNat (Ab.mk g.AW q.fst g.Bq)) c) fun I=>bd (y4 I.Bq (BH.mk (w64 (h.Now+h.AQ.B1)) y)) fun J=>bd (at? ((e.AH.set c.toNat (Ab.mk E.fst a.Row a.Bq)).set c.toNat (Ab.mk g.AW q.fst g.Bq)) c) fun B=>some (AE.mk e.AQ e.Now e.Az H (((e.AH.set c.toNat (Ab.mk E.fst a.Row a.Bq)).set c.toNat (Ab.mk g.AW q.fst g.Bq)).set c.toNat (Ab.mk B.AW B.Row J.fst)) e.BF e.BC,y)))
def ARV:=gZ FM J5 Ld ["1fNblnedzZwcLQcnZ2tnt0A6L8DTwRkV8N3tqUvuEtAErehMgfLezblacBLLxL8TOJTQQmUbano3fh9y","BDN70xi35IPRLtoJLgypg2QZWlClEXj7hXHsK196sJNwmxxYTsuAxDKrM6dMBeOiCTU7Z5wIz6pUsaVS","P2gHXpAVen6O4ESh1SvOLX61grAcWfipyCbT14Xbb3b4ur8CkzMD9iAVZuzHRRyXxoxCS2jpsTfGYuH8","9fQz5JzcaNkXoBFj5W4hTXXJ4Mh7R2qo"] [Kq,ARS,Tz,ARU,AEI,rh,ADp] (Aq AIT)
def Vj(h:Int)(g:List Int×AE->AA (AE×List Int))(j:List Int×AE):AA (AE×(List Int)):=let (c,e):=j;bd (AIT e h) fun a=>br (a.snd==0) (some (e,c)) (gd (e8 c+[a.snd].length<=lim) (g (c++[a.snd],a.fst)))
def AIU(c:AE)(a:Int):AA (AE×(List Int)):=bd (AIO c a) fun e=>A3 (Vj a) big ([],e)
def ARW:=gZ FM ASH Ld ["2SyOzlPTgMXSyOt6MNTd0ORVgl56JT9m47AGTEkyRij5r9LJroLKT8dDogPptDb0rHZXR05eFkBcq3kE","8SK6DyiRjrd5"] [ARO,ARV] (Aq AIU)
def AIV(h:AE)(e:Int):AA (AE×Int×(List Int)):=bd (M0 h) fun c=>bd (RF h (Bp.mk 7 e 0 0 0 0)) fun j=>br (j != 0) (some (c,j,[])) (bd (at? c.BC e) fun G=>bd (at? c.BC e) fun B=>br (B == -1) (bd (at? c.BF 0) fun H=>bd (at? c.BF 0) fun E=>bd (at? c.BC e) fun I=>bd (at? c.BC e) fun J=>gd ((0:Int)<=1/\1<=(↑c.BF.length:Int)) (some (AE.mk c.AQ c.Now c.Az c.AG c.AH (c5 (c.BF.length-n6 1) (e9 (n6 1) c.BF)) (c.BC.set e.toNat E),0,[]))) (bd (at? c.BC e) fun L=>bd (at? c.BC e) fun g=>bd (AIU c g) fun a=>bd (at? a.fst.BC e) fun q=>bd (at? a.fst.BC e) fun y=>some (AE.mk a.fst.AQ a.fst.Now a.fst.Az a.fst.AG a.fst.AH a.fst.BF (a.fst.BC.set e.toNat (-1)),0,a.snd)))
def ARX:=gZ FM ASI sO ["19J1pLYzesDYBJdltQnGtMBUgNiEpJhwR46E5yw0KcNyR9QsTEdKWSjskdzm03GdOgSaRgoLeEnrlmwb","yPhqsFcoXpWWQotz8iB7Mo8RRfdmyiXLrZgobdirvaWc8vVJ9v5Vc288rH2VXxkcWRcxik5glqeXc9cG","yVqvuqgtPip7uagC6YQRxh"] [Kq,Pw,ARW] (Aq AIV)
def LO(e:AE×Bz):AA (AE×Bz):=let (a,c):=e;some (a,c)
def AIW(c:AE)(a:Bp):AA (AE×Bz):=bd (RF c a) fun h=>br (h != 0) (bd (M0 c) fun G=>some (G,Bz.mk h [])) (br (a.Kind==1) (bd (AID c a.Id a.AY a.Bi a.BA a.Co) fun j=>jn LO (j.fst,Bz.mk j.snd [])) (br (a.Kind==2) (bd (AIF c a.Id) fun q=>jn LO (q.fst,Bz.mk q.snd [])) (br (a.Kind==3) (bd (AIH c a.AY a.BA) fun y=>jn LO (y.fst,Bz.mk y.snd [])) (br (a.Kind==4) (bd (AH4 c a.Id) fun B=>jn LO (B.fst,Bz.mk B.snd [])) (br (a.Kind==5) (bd (AH6 c a.Id) fun E=>jn LO (E.fst,Bz.mk E.snd [])) (br (a.Kind==6) (bd (AH7 c) fun g=>jn LO (g.fst,Bz.mk g.snd [])) (bd (AIV c a.Id) fun e=>jn LO (e.fst,Bz.mk e.snd.fst e.snd.snd))))))))
def ARY:=gZ iQ ASJ ASQ ["2tdbbbWTEHrFK2vVX2WkSUkqaN0mTNMlW6iXecZuBdbTdoAivUrGs0AAnyGbdlRTrhJMzV2nq4z5yRsc","ka55fCmp4KGRsgMuVg8qEBjcsQAWFxoFGDvH5KhMTsUiEa1GHamYux3xWnigWAGTrfzo3KAgXdIYKAJo","4LDbKKnGBbvxuHa9qtY252OeQ0Q09SfsIqgW0h8FQiyRDlxepY6MznoJ89htxxAZ1VXHr2INY8Y7J79H","SUjBas4ootm9fUEoNqGPIV40EkIrMT6goHywUReDNf2Dmex8tEOwVwAvpYuMY12Te1TDL1L4lIqNt1pO","NTQtyZeJTK10GnVVNI7lTiLhBFmoZSMu0acE9fd1cahLYU8H4ZgHos5lG6F"] [Pw,Kq,AQ8,ARC,ARE,AQz,AQ1,AQ2,ARX] (Aq AIW)
def AAM(e:List Bz×AE):AA (AE×(List Bz)):=let (a,c):=e;some (c,a)
def gP(g:List Bp)(j:List Bz×Int×AE->AA (AE×List Bz))(y:List Bz×Int×AE):AA (AE×(List Bz)):=let (a,c,h):=y;br (decide (c<g.length)) (bd (at? g c) fun q=>bd (AIW h q) fun e=>gd (e8 a+[e.snd].length<=lim) (j (a++[e.snd],w64 (c+1),e.fst))) (jn AAM (a,h))
def gO(a:AE)(c:List Bp):AA (AE×(List Bz)):=bd (M0 a) fun e=>A3 (gP c) big ([],0,e)
def r7:=gZ ASE ASK Ld ["Gjf1v4EqesArfKwTTyPmHWXO85LGYULsA9aLFD1YMEQe8u1HyYehtrDr1NRmZcoYEHByq1j1mnC13Kzn","JdYE85pqzpkdkVbMFvx1oevf1rQIa88LMymaozo0QWagHUuMowIbjrnPBBq2xg3WJ"] [Kq,ARY] (Aq gO)
end Lv
set_option maxRecDepth 100000
namespace Lv
open Go (IntKind BinOp UnOp)
open Y (YF qn qf qt qr q1 qd qm qa qo ql qL qb qi qx qp qq qc qz qe qk qK qB qw qu qj Kp wn wf wt w1 sw sq sr wm wM wo wO wl wL wk wK wz wZ wx wX wb wB wi wI wr wR wq wQ we wE wc wY wj wh cv ca cx cn ce bl)
def AIX(a:A7):AA (A7×(List Bz)):=bd (Y6 a) fun c=>bd (Y3 a) fun g=>br (!g) (some (c,[])) (bd (Y5 a.Bg.Log) fun h=>bd (gO a.A2 a.Laid) fun e=>some (A7.mk e.fst (Bk.mk h c.Bg.EZ c.Bg.Odd) c.Seq [],e.snd))
def ARZ:=gZ Xn ASL Xy ["DnXdkqmegxOu0kM6TtC2P03sm8sEn12EyXIAYteHSzWzTamZR0BgSTpCewHoFhJ5gMUgNUW691rbq83U","S0Qv6YulDkVpeqkZltmmMNsmChNA8iv"] [Xl,Xf,iI,r7] (Bm AIX)
def Vk(a:Bl)(c:Int)(e:Bool):AA (Bl×Bool):=br e (some (a,false)) (gd (0<=c/\c<=a.Data.length) (some (Bl.mk (e9 c.toNat a.Data) (w64 ((↑a.Data.length:Int)-c)),true)))
def AIY(a:Bl)(c:Int):AA (Bl×Bool):=bd (Qa a) fun e=>br (!e) (jn (Vk a c) true) (bd (EE c 0 (↑a.Data.length:Int)) fun g=>br (!g) (jn (Vk a c) true) (jn (Vk a c) (decide (a.Safe<a.Data.length))))
def ARa:=gZ Xr Xu Xz ["7jXT3xDwGBZalXMuF9eNa4sPsidlW1Z3dUbVB7nKedgg24TKed0EZXLobuvCs9ygO9zvCjm0m7tnL9ct","4FTUng2XR"] [RS,G3] (Aq AIY)
def AAN(a:Bk):AA Bk:=some a
def AIZ(a:Bk)(e:Int)(c:Bl):AA Bk:=br (e.tmod 2==0) (jn AAN (Bk.mk a.Log c a.Odd)) (jn AAN (Bk.mk a.Log a.EZ c))
def ARb:=gZ ASF sJ [.cell 6 (some 6)] ["6ajoVNa8AdYn7mDfWC1VkzyL1Qx8Zv1fbdWAT8KblsFvM5o"] [] (GI AIZ)
def Oi(e:A7)(j:Int)(y:Bool×A7×Bl):AA (A7×Bool):=let (g,a,h):=y;br (!g) (bd (TE e) fun q=>some (q,false)) (bd (AIZ a.Bg (w64 (1-j)) h) fun c=>some (A7.mk a.A2 c a.Seq a.Laid,true))
def RG(a:A7)(j:Int)(c:A7)(H:Bool):AA (A7×Bool):=br H (some (c,false)) (bd (eK a.Bg) fun e=>br (decide (e<0)) (some (c,false)) (bd (zc a.Bg (w64 (1-e))) fun G=>br (j==0) (jn (Oi a e) (true,c,Bl.mk [] 0)) (br (j==1) (bd (ln a.A2 a.Seq) fun q=>bd (dK G q) fun g=>jn (Oi a e) (g.snd,c,g.fst)) (br (j==2) (bd (mi G) fun y=>jn (Oi a e) (true,c,y)) (bd (RB a.Bg e) fun B=>bd (AHU a.Bg B.snd.fst) fun E=>bd (AIY a.Bg.Log E) fun h=>jn (Oi a e) (h.snd,A7.mk c.A2 (Bk.mk h.fst c.Bg.EZ c.Bg.Odd) c.Seq c.Laid,G))))))
def m0(a:A7)(c:Int):AA (A7×Bool):=bd (TE a) fun e=>bd (Y1 a) fun h=>br (!h) (jn (RG a c e) true) (br (decide ((↑a.Laid.length:Int)>0)) (jn (RG a c e) true) (bd (EE c 0 3) fun g=>jn (RG a c e) (!g)))
def ARc:=gZ iP RX YA ["urawZfpIAyDWShU6wTZBfPVrhNVmtvDCoXKC2JuJEYMhf6F2ilDGWBWCJsCSxBjITETM6jQR1UMLSoWw","LbfM8u34B87z2cw29klTDWG5nt3i65KORLgaPp1SylCr4ISirHohredSkJ00MrNWs7e6NvpNlAzSubPU","9jeaRA0JITlH36bXbvclBSHSkPEGuClnk9PeAOhiEwBjPuBckgzDAFU5ArpopQ3YXopyhtABmwlxkTb5","UYoAJFr997JakPEGv0XfJfPzQuwLPpZscfvJnoLVuR7026doifHjSXm0i0Q1vNY0fxrMIgFYslwXQ6z3","HqaydkvLXhuxpoJSZOhzOVTVYS71UNpG3GKgh6zdZLaln3"] [Xj,Xe,G3,rW,AD2,rJ,ADq,rY,iL,AQE,ARa,ARb] (Aq m0)
def AAO(a:Bk):AA Bk:=some a
def m7(a:Bk)(e:Int)(c:Bl):AA Bk:=br (e.tmod 2==0) (jn AAO (Bk.mk a.Log c a.Odd)) (jn AAO (Bk.mk a.Log a.EZ c))
def ARd:=gZ ASF sJ [.cell 6 (some 6)] ["6ajoVNa8AdYn7mDfWC1VkzyL1Qx8Zv1fbdWAT8KblsFvM5o"] [] (GI m7)
def Vl(a:Bl)(c:Int)(e:Bool):AA (Bl×Bool):=br e (some (a,false)) (gd (0<=c/\c<=a.Data.length) (some (Bl.mk (e9 c.toNat a.Data) (w64 ((↑a.Data.length:Int)-c)),true)))
def AIa(a:Bl)(c:Int):AA (Bl×Bool):=bd (Oa a) fun e=>br (!e) (jn (Vl a c) true) (bd (C3 c 0 (↑a.Data.length:Int)) fun g=>br (!g) (jn (Vl a c) true) (jn (Vl a c) (a.Safe != a.Data.length)))
def ARe:=gZ Xr Xu Xz ["EAU3E1AQUh5HrDiZIuEZuC3p3r7iqPn7BOHdvN8aVWIaWXcos87wcfDW8gDwm5CcVn5zTwCBjmOmzQ8P","cWiii3Ul3"] [RT,Eb] (Aq AIa)
def RJ(e:Bool×A7):AA (A7×Bool):=let (a,c):=e;some (c,a)
def RI(c:A7)(j:Int)(a:A7)(h:Int)(I:Bool):AA (A7×Bool):=br I (some (a,false)) (bd (ze c.Bg (w64 (1-h))) fun H=>br (j==0) (bd (m7 c.Bg (w64 (1-h)) (Bl.mk [] 0)) fun J=>jn RJ (true,A7.mk a.A2 J a.Seq a.Laid)) (br (j==1) (bd (lu c.A2 c.Seq) fun L=>bd (dQ H L) fun e=>bd (m7 c.Bg (w64 (1-h)) e.fst) fun q=>jn RJ (e.snd,A7.mk a.A2 q a.Seq a.Laid)) (br (j==2) (bd (Y5 H) fun y=>bd (m7 c.Bg (w64 (1-h)) y) fun B=>jn RJ (true,A7.mk a.A2 B a.Seq a.Laid)) (bd (RC c.Bg h) fun E=>bd (AHV c.Bg E.snd.fst) fun G=>bd (AIa c.Bg.Log G) fun g=>jn RJ (g.snd,A7.mk a.A2 (Bk.mk g.fst a.Bg.EZ a.Bg.Odd) a.Seq a.Laid)))))
def AIb(a:A7)(c:Int):AA (A7×Bool):=bd (Y6 a) fun g=>bd (ZA a.Bg) fun e=>bd (Y3 a) fun j=>br (!j) (jn (RI a c g e) true) (br (decide ((↑a.Laid.length:Int)>0)) (jn (RI a c g e) true) (bd (Ly c 4) fun h=>br (!h) (jn (RI a c g e) true) (jn (RI a c g e) (decide (e<0)))))
def ARf:=gZ iP RX YA ["AKeJ900VOiTJHaoACndrcd9egvYBOdBfcCR9zNz9QQwaoKqGcT3kYnvndH9SdafHy3L1ceCE21AAwleV","BcupdZx18Q0Z9I3oy4wYALiCrjG84w7FMRjeWYyfqYReh7QHc4irMIRR2cEBErALX6A8h6yafuV4Nmtt","7z0yU6rbneutNm3PcqITifUCUU02wzosgMfA3EtFHLa1CpOEXQbP4TmqspNf4JSEfCVLKZS5p3v0go3K","8oRxAoUYySACHBGRk5dYvSan6IzVe4U57Eh29ZEdWPpIIZHlGn35PwtvYePP3YqBLE4EuZjMapI25eZK","WHUgnpVKhWkEbDsPw6xBXWOz2nlnThJfOPXD1N6KISMh5abxWG"] [Xl,rX,Xf,Pt,AD3,ARd,ADg,ADt,iI,iM,AQG,ARe] (Aq AIb)
def gR(a:A7):AA (A7×Bool):=some (a,true)
def RL(h:Int)(g:Int×A7->AA (A7×Bool))(q:Int×A7):AA (A7×Bool):=let (a,c):=q;bd (dZ h 4) fun j=>br (decide (a<j)) (bd (m0 c a) fun e=>br (!e.snd) (some (c,false)) (g (w64 (a+1),e.fst))) (jn gR c)
def gQ(a:A7)(c:Int):AA (A7×Bool):=bd (TE a) fun e=>A3 (RL c) big (0,e)
def ARg:=gZ iP RX YA ["2t5CKH2TjmmHI7oI8SOkFtPBGnI2u4xUNpTjxs6u9SUsNbLWjB1Q2fqWQ3UlUCPlw2NqcUqfRaSHAhwy","dLHBKQRr869x1kPKEZeMtCx0si5yS1K3p"] [Xj,iK,ARc] (Aq gQ)
def gT(a c e:Int):AA Int:=some (if false=true then if e>if true=true then if c>a then c else a else if c<a then c else a then e else if true=true then if c>a then c else a else if c<a then c else a else if e<if true=true then if c>a then c else a else if c<a then c else a then e else if true=true then if c>a then c else a else if c<a then c else a)
def AEN:=gZ AES Cv N3 ["4J3Toc3JuxPZFSow"] [] (GI gT) [.mm 9 true (.tmp 7) (.tmp 8),.mm 11 false (.tmp 9) (.tmp 10)]
def AAP(a:A7):AA (A7×Bool):=some (a,true)
def Vm(h:Int)(g:Int×A7->AA (A7×Bool))(q:Int×A7):AA (A7×Bool):=let (a,c):=q;bd (gT h 0 4) fun j=>br (decide (a<j)) (bd (AIb c a) fun e=>br (!e.snd) (some (c,false)) (g (w64 (a+1),e.fst))) (jn AAP c)
def AIc(a:A7)(c:Int):AA (A7×Bool):=bd (Y6 a) fun e=>A3 (Vm c) big (0,e)
def ARh:=gZ iP RX YA ["2fgNhmFl6AVkQuUxpAihgvQcFNz0oINji2GfM43E8QhIOw0obLLeJ6WEZXfqtX1nB1rxfsJgcTC5BrXz","KkHs5FjLstwXHLHSwDcI6T63StfTxqHemB"] [Xl,AEN,ARf] (Aq AIc)
def gU(a:Int×List Bv×Int->AA (List Bv))(c:Int)(h:Int×List Bv):AA (List Bv):=let (e,g):=h;a (e,g,w64 (c+1))
def gV(a:List Bv):AA (List Bv):=some a
def AAQ(c:List Bv)(q:Int×List Bv×Int->AA (List Bv))(E:Int×List Bv×Int):AA (List Bv):=let (h,e,a):=E;br (decide (a<c.length)) (bd (at? c a) fun y=>br (decide (y.Seq<=h)) (jn (gU q a) (h,e)) (bd (at? c a) fun B=>br (w64 (B.Seq-1) != h) (jn gV e) (bd (at? c a) fun j=>bd (at? c a) fun g=>gd (e8 e+[g].length<=lim) (jn (gU q a) (j.Seq,e++[g]))))) (jn gV e)
def AId(a:List Bv)(c:Int):AA (List Bv):=A3 (AAQ a) big (c,[],0)
def ARi:=gZ [.v (.l (.st 15)),.v .i] sI B5 ["97eDvKx6ECMpLBdZOIf3n2Vgci2eF3jSimslTy41NsECKXGQGVTaTuiL6TWJ56oy6BMEB6e9MIVl2kny","n08NTns05qxhA3qs8TbMLXUR6R5gW73dBQ8"] [] (Aq AId)
def fk(c:Bk)(h:Int)(g:Bool):AA (AE×Int×Bool):=br g (some (AE.mk (Aa.mk [] 0 0 0 0 0 0 0 0) 0 0 [] [] [] [],0,false)) (bd (RB c h) fun a=>bd (mc c.Log.Data) fun j=>bd (AId j a.snd.fst) fun q=>bd (AHW q) fun e=>bd (fE a.fst e) fun y=>some (y.fst,w64 (a.snd.fst+(↑(e8 e):Int)),true))
def AII(a:Bk):AA (AE×Int×Bool):=bd (eK a) fun c=>bd (lV a) fun e=>br (!e) (jn (fk a c) true) (jn (fk a c) (decide (c<0)))
def ARF:=gZ Lc Xw sM ["CDRAmkb7YENoWtJHWU9vcky1ri4pArGXljHaS57BVeZDvY4iY5p3RRE7IUUfYKqzyb6qMD2HlTAldAJ7","FkHEimO0Q5FibmC6TmqVqAx1LmBBwzvcC0JIlxRn3eqhDXnyMcVjGN"] [rW,qv,iL,rR,ARi,AQH,rb] (Bm AII)
def AAC(a:Bl):AA Bool:=some (a.Safe==a.Data.length)
def ARG:=gZ iO CK DM ["4SFQQK5ukywZBgjA"] [] (Bm AAC)
def Vh(a:Bool):AA Bool:=some a
def AIJ(a:Bk):AA Bool:=bd (AAC a.Log) fun c=>br c (bd (AAC a.EZ) fun e=>br e (bd (AAC a.Odd) fun g=>jn Vh g) (jn Vh false)) (jn Vh false)
def ARH:=gZ Lc CK DM ["73NUXjM9NEMiLAnI6ms0Z2LwMER7qEm6Z7Z"] [ARG] (Bm AIJ)
def fq(g:List Bv)(h:Int×Int×Int->AA Int)(c a:Int):AA Int:=bd (at? g c) fun j=>bd (at? g c) fun e=>h (a,e.Next,w64 (c+1))
def AAE(a:Int):AA Int:=some a
def ft(c:List Bv)(B:Int×Int×Int->AA Int)(I:Int×Int×Int):AA Int:=let (e,g,a):=I;br (decide (a<(e8 c))) (bd (at? c a) fun E=>bd (at? c a) fun h=>br (decide (h.Seq>w64 (e+1))) (some g) (bd (at? c a) fun G=>bd (at? c a) fun j=>br (j.Seq==w64 (e+1)) (bd (at? c a) fun H=>bd (at? c a) fun q=>bd (mb q.Body) fun y=>br (!y.snd) (some g) (jn (fq c B a) (w64 (e+1)))) (jn (fq c B a) e))) (jn AAE g)
def fm(a:Bk)(e:Int)(c:Bool):AA Int:=br c (some 0) (bd (RB a e) fun g=>bd (mc a.Log.Data) fun h=>A3 (ft h) big (g.snd.fst,0,0))
def AAD(a:Bk):AA Int:=bd (eK a) fun c=>bd (lV a) fun e=>br (!e) (jn (fm a c) true) (jn (fm a c) (decide (c<0)))
def ARI:=gZ Lc Cv DM ["IGzO8QTvBMVkYVv8tSvC6sMJ3XJhMtdva28mnWTtjnjqyZbwXdLYngLLpGoioOSOAs70AC9mJmjtSbj8","AHrbKYEEOvbyyNilCluE9eI3vOsH3mFuehiZfilpFAikLvdGSdRjljewN0w03rZH5oUFzmrhonRaKK8l","3euRpmDEZc3ZSh45CMfITFRyk5D1j6vftba73ZSUOadjppv7JA5qjPA9AAeM9akO8o"] [rW,qv,iL,rR,ADw] (Bm AAD)
def fu(a:Bl)(c:Int)(e:Bool):AA (Bl×Bool):=br e (some (a,false)) (gd (0<=c/\c<=a.Data.length) (bd (dZ a.Safe c) fun g=>some (Bl.mk (c5 c.toNat a.Data) g,true)))
def my(a:Bl)(c:Int):AA (Bl×Bool):=bd (Qa a) fun e=>br (!e) (jn (fu a c) true) (bd (EE c 0 (↑a.Data.length:Int)) fun g=>jn (fu a c) (!g))
def ARJ:=gZ Xr Xu Xz ["7SuHw0yGAWFNa4bmEe3a4g5CNxKmg9M0Zso9pl8lCRErE8hyO6cpiGUgVBXWuhhwbyoge"] [RS,G3,iK] (Aq my)
def fv(a:Bk)(e:AE×Int×Bool)(h:Bool):AA (A7×Bool):=br h (some (A7.mk (AE.mk (Aa.mk [] 0 0 0 0 0 0 0 0) 0 0 [] [] [] []) (Bk.mk (Bl.mk [] 0) (Bl.mk [] 0) (Bl.mk [] 0)) 0 [],false)) (bd (AAD a) fun g=>bd (my a.Log g) fun c=>bd (my a.Log g) fun j=>OI c.fst j.fst (bd (AAD a) fun q=>bd (my a.Log q) fun y=>OI c.fst y.fst (bd (mi c.fst) fun B=>some (A7.mk e.fst (Bk.mk B a.EZ a.Odd) e.snd.fst [],true))))
def AAF(a:Bk):AA (A7×Bool):=bd (AII a) fun c=>br (!c.snd.snd) (jn (fv a c) true) (bd (AIJ a) fun e=>jn (fv a c) (!e))
def AEL:=gZ Lc RX Xy ["4uZjJRe8tpWV0J2LoEIMxxgPwmzLYoGYrGfMmmhHnTsWjPBY0zYVvs9mu0xdWS6FZ7djtGn1yytG7U0U","HK9AzBH8HOWa0HaEcjPYN9pRErlyZhEoVrUOEtoAJoDdiczhGuBjb42p9J2taRWdRG7OZlfOVJgbi1QK","Qc58ri6IyHy4YSBQTtck8ICTixtPSQmJdbINz7GyYe1vEdCKpF3YGNSbVQsvM0Adq6xflm"] [ARF,ARH,ARI,ARJ,rY] (Bm AAF)
def fw(c:Bk)(h:Int)(g:Bool):AA (AE×Int×Bool):=br g (some (AE.mk (Aa.mk [] 0 0 0 0 0 0 0 0) 0 0 [] [] [] [],0,false)) (bd (RC c h) fun a=>bd (me c.Log.Data) fun j=>bd (AHP j a.snd.fst) fun q=>bd (AHO q) fun e=>bd (gO a.fst e) fun y=>some (y.fst,w64 (a.snd.fst+(↑(e8 e):Int)),true))
def AAG(a:Bk):AA (AE×Int×Bool):=bd (ZA a) fun c=>bd (xB a) fun e=>br (!e) (jn (fw a c) true) (jn (fw a c) (decide (c<0)))
def AEM:=gZ Lc Xw sM ["1ZM65UhgT8NF4aLTkRIye7IMwxuYpqTiJw3E2K3ohb02wUmP4BY1DG2D94IJEmE3Dzj563t4xjYbneyH","6aOHYrtn8ts7iDL5YD0LX3JWdeT2QQJALto6yP8419N08XgTdnWwKQ94cVPsx01"] [rX,ADU,iM,rS,AP5,AP4,r7] (Bm AAG)
def Vi(a:Bool):AA Bool:=some a
def AIK(a:Bk):AA Bool:=br (a.Log.Safe==a.Log.Data.length) (br (a.EZ.Safe==a.EZ.Data.length) (jn Vi (a.Odd.Safe==a.Odd.Data.length)) (jn Vi false)) (jn Vi false)
def ARK:=gZ Lc CK DM ["4WfA586YaLkSq5ugPGg8GQMTM4uQsBubOAoFmuffRy9fc99ttCXzyV03yHYgXCsdjR0oKgJXx04jiw"] [] (Bm AIK)
def fy(a:Int):AA Int:=some a
def fz(g:Int×Int×Int->AA Int)(a:Int)(e:Bv)(c:Int):AA Int:=g (c,e.Next,w64 (a+1))
def fx(h:Int×Int×Int->AA Int)(j a c:Int)(g:Bv)(e:Bool):AA Int:=br e (jn fy a) (jn (fz h c g) (w64 (j+1)))
def AAI(q:AE×Int×Bool)(j:List Bv)(h:Int×Int×Int->AA Int)(B:Int×Int×Int):AA Int:=let (g,e,a):=B;br (decide (a<(e8 j))) (bd (at? j a) fun y=>bd (at? j a) fun c=>br (decide (c.Seq>g)) (br (c.Seq != w64 (g+1)) (jn (fx h g e a c) true) (jn (fx h g e a c) (decide (c.Seq>q.snd.fst)))) (jn (fz h a c) g)) (jn fy e)
def AAH(a:Bk):AA Int:=bd (AAG a) fun e=>br (!e.snd.snd) (some 0) (bd (ZA a) fun g=>bd (RC a g) fun c=>bd (RC a g) fun h=>eqv c.snd.fst h.snd.fst (JR c.fst h.fst (bd (ZA a) fun q=>bd (RC a q) fun j=>eqv c.snd.fst j.snd.fst (JR c.fst j.fst (bd (me a.Log.Data) fun y=>A3 (AAI e y) big (c.snd.fst,0,0))))))
def ARL:=gZ Lc Cv DM ["FWGwIW9UwpAPGadMbNolsfM03HiUKpkC4xiPS7HTEjA3KKw3oIVD2g8oExuovzy0LQUI72NsgogocdUg","Kxt5Pts6kr1uxcqWJfGIXccDtlWa54EBFsn3HaqXsILuPxF85uuFhuKAqGciEmxTetj8wVK68GFBYLbM","V0F5LbB53s1qCVZ1v5pkj3YVVGpBYwYibCOCHAHOCd9rjbo0au3A9ksSFdSTXkHopGjM8TN4csN9QDG0","D8j5cuc9dmMVpRXt1lwStzw3ABXOFGPbIIPVF52Ej2p5hQ7V2GJyfKI0OJabO5Fj"] [AEM,rX,iM,rS] (Bm AAH)
def gA(a:Bl)(c:Int)(e:Bool):AA (Bl×Bool):=br e (some (a,false)) (gd (0<=c/\c<=a.Data.length) (some (Bl.mk (c5 c.toNat a.Data) (if false=true then if c>a.Safe then c else a.Safe else if c<a.Safe then c else a.Safe),true)))
def mz(a:Bl)(c:Int):AA (Bl×Bool):=bd (Oa a) fun e=>br (!e) (jn (gA a c) true) (bd (C3 c 0 (↑a.Data.length:Int)) fun g=>jn (gA a c) (!g))
def ARM:=gZ Xr Xu Xz ["nM4RYEDDmZadFL0wJhaJQddGCIG2LdyLahL8fKhTJc3XKySfrA2aRDutbMH8dMXDzQs"] [RT,Eb] (Aq mz) [.mm 25 false (.tmp 23) (.tmp 24)]
def gW(a:Bk)(e:AE×Int×Bool)(h:Bool):AA (A7×Bool):=br h (some (A7.mk (AE.mk (Aa.mk [] 0 0 0 0 0 0 0 0) 0 0 [] [] [] []) (Bk.mk (Bl.mk [] 0) (Bl.mk [] 0) (Bl.mk [] 0)) 0 [],false)) (bd (AAH a) fun g=>bd (mz a.Log g) fun c=>bd (mz a.Log g) fun j=>OI c.fst j.fst (bd (AAH a) fun q=>bd (mz a.Log q) fun y=>OI c.fst y.fst (bd (Y5 c.fst) fun B=>some (A7.mk e.fst (Bk.mk B a.EZ a.Odd) e.snd.fst [],true))))
def AAR(a:Bk):AA (A7×Bool):=bd (AAG a) fun c=>br (!c.snd.snd) (jn (gW a c) true) (bd (AIK a) fun e=>jn (gW a c) (!e))
def AEO:=gZ Lc RX Xy ["Cr5KsMYhggl4SsnBhsifFf2Mb9mQNmUb9Y0XBo6IOShIfflgQAqdaXdRy8KIWM0ZwVD2h5NZNSjiAFlt","QjJLZK4jr6GJWZCTdCE7A629ijLg0GKMMbdkvP5cFeZkNnqkspbA04U40fC0qtKJ7c6ZPlzMeseKzR42","0IRbMnsAPHwxPWf0XkJSoWNDJCjhSxx360ZSp1isIChu"] [AEM,ARK,ARL,ARM,iI] (Bm AAR)
end Lv
set_option maxRecDepth 100000
namespace Lv
open Go (IntKind BinOp UnOp)
open Y (YF qn qf qt qr q1 qd qm qa qo ql qL qb qi qx qp qq qc qz qe qk qK qB qw qu qj Kp wn wf wt w1 sw sq sr wm wM wo wO wl wL wk wK wz wZ wx wX wb wB wi wI wr wR wq wQ we wE wc wY wj wh cv ca cx cn ce bl)
def Vn(a:List Int)(c:Int):AA Int:=br (decide (c<a.length)) (bd (at? a c) fun e=>some e) (some 0)
def ARj:=gZ ZH Cv B5 ["7l5G3R3PRcHjZLKzNSCDnW"] [] (Aq Vn)
def m8(a:Bl)(e:Int):AA Bl:=bd (Qa a) fun g=>br (!g) (some a) (bd (dZ e (w64 ((↑a.Data.length:Int)-a.Safe))) fun h=>bd (qA 0 h) fun c=>gd (0<=w64 (a.Safe+c)/\w64 (a.Safe+c)<=a.Data.length) (some (Bl.mk (c5 (w64 (a.Safe+c)).toNat a.Data) (w64 (a.Safe+c)))))
def ARk:=gZ Xr Xt sL ["nhA25kDIvciuilFZtkSVWLE1EKbBCTogtpd60Bdf6GSIQMUHtZ4ScP3AXJwBR33Eyg5Tr"] [RS,iK,ABA] (Aq m8)
def AAS(a:Bk)(c:List Int):AA Bk:=bd (Vn c 0) fun e=>bd (m8 a.Log e) fun g=>bd (Vn c 1) fun h=>bd (m8 a.EZ h) fun j=>bd (Vn c 2) fun q=>bd (m8 a.Odd q) fun y=>some (Bk.mk g j y)
def AEP:=gZ [.v (.st 10),.v (.l .i)] sJ [.cell 4 (some 6)] ["BrmMAhxcGHzUuOwWQ16Rzh4TYwhLVuYStJuV6QcT4BObbWNx79Ue8MxmFSkA4rBhdyJmC7PgXQR"] [ARj,ARk] (Aq AAS)
def AIf(a:Bu)(e:List Int):AA Int:=bd (Y1 a.Ac) fun g=>br (!g) (some (-1)) (bd (AAS a.Ac.Bg e) fun h=>bd (AAF h) fun c=>br (!c.snd) (some (-1)) (some (w64 (w64 (c.fst.Seq-a.Ac.Seq)+(↑a.Ac.Laid.length:Int)))))
def ARl:=gZ [.v (.st 13),.v (.l .i)] Cv B5 ["5v6c4YAit28Z2So6ROFZgSRoBIJ8hcQObnP60lLQwx0gXTxxEqoVtTmk3eEPPSs3NSgUW7D2cE4Om"] [Xe,AEP,AEL] (Aq AIf)
def m9(a:Bl)(e:Int):AA Bl:=bd (Oa a) fun g=>br (!g) (some a) (bd (gT e 0 (w64 ((↑a.Data.length:Int)-a.Safe))) fun c=>gd (0<=w64 (a.Safe+c)/\w64 (a.Safe+c)<=a.Data.length) (some (Bl.mk (c5 (w64 (a.Safe+c)).toNat a.Data) (w64 (a.Safe+c)))))
def ARm:=gZ Xr Xt sL ["roAOKy4NZqWYh50fBc70o4RS11m8AYxj6SY44tVgE1VFM7W7A3lPPRfPsD3xt3vZSo9"] [RT,AEN] (Aq m9)
def AAT(c:Bk)(a:List Int):AA Bk:=bd (at? (c5 (so (n6 3) 0).length a++e9 a.length (so (n6 3) 0)) 0) fun B=>bd (at? (c5 (so (n6 3) 0).length a++e9 a.length (so (n6 3) 0)) 0) fun e=>bd (at? (c5 (so (n6 3) 0).length a++e9 a.length (so (n6 3) 0)) 1) fun E=>bd (at? (c5 (so (n6 3) 0).length a++e9 a.length (so (n6 3) 0)) 1) fun g=>bd (at? (c5 (so (n6 3) 0).length a++e9 a.length (so (n6 3) 0)) 2) fun G=>bd (at? (c5 (so (n6 3) 0).length a++e9 a.length (so (n6 3) 0)) 2) fun h=>bd (m9 c.Log e) fun j=>bd (m9 c.EZ g) fun q=>bd (m9 c.Odd h) fun y=>some (Bk.mk j q y)
def AEQ:=gZ [.v (.st 10),.v (.l .i)] sJ [.cell 4 (some 6)] ["FwfbiEEvlPzdLYqOt0jvVAb6CoAhkCAmE9pE4YB84QHtqIESzB9B03bc9fYJZqYcwzE8dDRi7hK2T3gu","QOmGE"] [ARm] (Aq AAT) [.O1 6 .i (.k (.int .i64 3)),.cpy 9 .i (.tmp 7) (.tmp 8)]
def AAU(a:Bu)(e:List Int):AA Int:=bd (Y3 a.Ac) fun g=>br (!g) (some (-1)) (bd (AAT a.Ac.Bg e) fun h=>bd (AAR h) fun c=>br (!c.snd) (some (-1)) (some (w64 (w64 (c.fst.Seq-a.Ac.Seq)+(↑a.Ac.Laid.length:Int)))))
def ARn:=gZ [.v (.st 13),.v (.l .i)] Cv B5 ["5v6c4YAit28Z2So6ROFZgSRoBIJ8hcQObnP60lLQwx0gXTxxEqoVtTmk3eEPPSs3NSgUW7D2cE4Om"] [Xf,AEQ,AEO] (Aq AAU)
end Lv
set_option maxRecDepth 100000
namespace Lv
open Go (IntKind BinOp UnOp)
open Y (YF qn qf qt qr q1 qd qm qa qo ql qL qb qi qx qp qq qc qz qe qk qK qB qw qu qj Kp wn wf wt w1 sw sq sr wm wM wo wO wl wL wk wK wz wZ wx wX wb wB wi wI wr wR wq wQ we wE wc wY wj wh cv ca cx cn ce bl)
end Lv
