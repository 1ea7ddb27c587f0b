/- Functions of the program as typed texts and as plain functions. -/
import Derived.Test.YtnjoipcemhflkaaGreatKEb
open Int renaming toNat->aY
open List renaming length->aO,take->an,drop->aP,replicate->dj
noncomputable section
set_option linter.unusedVariables false
set_option linter.unusedSimpArgs false
set_option linter.unusedSectionVars false
set_option maxRecDepth 100000
namespace Lv
open Go (IntKind BinOp UnOp)
open Y (YF qn qf qt qr q1 qd qm qa qo ql qL qb qi qx qp qq qc qz qe qk qK qB qw qu qj Kp wn wf wt w1 sw sq sr wm wM wo wO wl wL wk wK wz wZ wx wX wb wB wi wI wr wR wq wQ we wE wc wY wj wh cv ca cx cn ce bl)
def AKX(a:(C.l (.st 2)).D)(c:Int)(e:(C.l (.st 2)).D):AA (C.l (.st 2)).D:=pI (.st 2) a c e
def AGn:GF:=AYP (.st 2) rfl
def AKY(a:(C.l (.st 4)).D)(c:Int)(e:(C.l (.st 4)).D):AA (C.l (.st 4)).D:=pI (.st 4) a c e
def AGo:GF:=AYP (.st 4) rfl
def AKZ(a:(C.l (.st 4)).D)(c e:Int):AA (C.l (.st 4)).D:=ADE (.st 4) a c e
def AGp:GF:=AYF (.st 4) rfl rfl
def ACU(a:(C.l (.st 5)).D)(c e:Int):AA (C.l (.st 5)).D:=ADE (.st 5) a c e
def xD:GF:=AYF (.st 5) rfl rfl
def ACV(a:(C.l (.st 2)).D)(c e:Int):AA (C.l (.st 2)).D:=ADE (.st 2) a c e
def xE:GF:=AYF (.st 2) rfl rfl
def AeA(a:Bp):AA Bp:=some a
def AKa(a:Bp):AA Bp:=bd (cP a) fun c=>br c (jn AeA (Bp.mk a.Data (↑a.Data.length:Int))) (jn AeA a)
def AGq:=gZ mI Sv Zp ["7BzIYugepOzvBJWZI7vutdZNZV542X"] [Xg] (Bc AKa)
def AKb(a:Ap):AA (Ap×(List B6)):=bd (bC a) fun c=>bd (uc a) fun g=>br (!g) (some (c,[])) (bd (AKW a.BO a.Laid) fun e=>bd (AKa a.BH.Log) fun h=>some (Ap.mk e.fst (BZ.mk h c.BH.DW c.BH.Odd) c.Seq [],e.snd))
def AGr:=gZ [.v (.st 11)] (.ret [(.st 11),(.l (.st 12))]) mK ["4BYn6MmiHCtEx6xQ7uouEoJOda5b2vUNdXW79vEuncdn0Y0UpEVydOJDdmzNkPj6IHsktcksEmhzBEaG","ObC0RYG7fbuEHVbPixZGO0sWgvRPWyUis9"] [ZT,sH,AGm,AGq] (Bc AKb)
def AKc(a:AU)(c:Int):AA Bool:=some (a.Id==c)
def AGs:=gZ [.v (.st 2),.p .i] C1 [.tmp 3] ["HPgTG0VmtoF4hA3"] [] (A4 AKc)
def Ajq:YF:=⟨[AGs],[.v (.l (.st 2)),.f AGs.x [(true,.i)]],[0],.ret [.i],[.tmp 4],dY ["7yIuXR7F4BoOKZ2x3TwVnauzn0AbT7HCKtCjuFq67RTC2htVMflGsNhHb2VXkJZNr"] [] [.D2 16 (.tmp 11) [.v,.p] [.tmp 15]]⟩
def AgJ(_:PUnit):AA Int:=some (-1)
def AgK(e:List AU)(a:Int)(g:Int->AA Int)(c:Int):AA Int:=br (decide (c<e.length)) (bd (at? e c) fun h=>bd (AKc h a) fun j=>br j (some c) (g (w64 (c+1)))) (jn AgJ ())
def AKd(c:List AU)(a:Int):AA Int:=BD (AgK c a) big 0
def AGt:GF:=Ajq.gf rfl rfl (fun a=>AKd a.1 a.2.1.1) (fun a=>by kernel_rfl)
def Ajr:YF:=⟨[AGs],[.v (.l (.st 2)),.v .i],[],.ret [.i],[.tmp 4],dY ["PLNwHHCBlm5Ej"] [] [.NC 6 0 [.tmp 3],.call 7 AGt [0] rfl [.tmp 5,.tmp 6]]⟩
def bK(a:List AU)(c:Int):AA Int:=bd (AKd a c) fun e=>some e
def AGu:GF:=Ajr.EI (A4 bK)
def bL(a:AE)(c:Int):AA Int:=bd (bK a.AG c) fun e=>some e
def lh:=gZ Zf C9 Ca ["u2g09Kh0hzxuf6"] [AGu] (A4 bL)
def AXc(a:AE)(c:Int):AA Int:=bd (at? a.AH c) fun e=>bd (at? a.AH c) fun g=>some (w64 (e.AY.Fm-g.AY.F8))
def lT:=gZ Zf C9 Ca ["2XnmI7m2AgclTgDxUAK8kNOCtdSvhdEvlVazx"] [] (A4 AXc)
def Adr(a:Bool):AA Bool:=some a
def AQY(a:AU)(c:Int):AA Bool:=br (a.State==2) (jn Adr (decide (a.C7<=c))) (jn Adr false)
def lU:=gZ AfM C1 Ca ["oB58dpo6rg5pr797aYPLF9D72ef"] [] (A4 AQY)
def lr(_:PUnit):AA Int:=some 0
def Ads(c:AE)(a:Bool):AA Int:=br a (some 10) (br (decide (c.A0>1000000)) (some 11) (jn lr ()))
def AbP(a:AE)(c:B3)(g:Bool):AA Int:=br g (some 4) (bd (C5 c.BE 1 a.AQ.BE) fun h=>br (!h) (some 5) (br (decide (c.DJ>=a.AQ.CS)) (some 6) (bd (C5 c.Id 1 999) fun j=>br (!j) (some 7) (bd (bL a c.Id) fun q=>br (decide (q>=0)) (some 8) (bd (po a.AG c.Ab) fun y=>br (decide (y>=a.AQ.Room)) (some 9) (br (c.Bu != -1) (bd (AXc a c.Bu) fun e=>jn (Ads a) (decide (e<c.BE))) (jn (Ads a) false)))))))
def Adu(a:Bool):AA Int:=br a (some 17) (jn lr ())
def Adt(a:AE)(e:B3)(g:Bool):AA Int:=br g (bd (bL a e.Id) fun c=>br (decide (c<0)) (some 7) (bd (at? a.AG c) fun h=>br (h.State != 2) (some 13) (bd (at? a.AG c) fun j=>bd (AQY j a.Now) fun q=>br q (some 14) (jn lr ())))) (br (e.Kind==6) (br (a.Now==1000000) (some 15) (jn lr ())) (br (e.Kind==7) (br (decide (e.Id>=a.AQ.Cu)) (some 16) (bd (at? a.A9 e.Id) fun y=>br (y == -1) (jn Adu ((↑a.BB.length:Int)==0)) (jn Adu false))) (jn lr ())))
def AXd(c:AE)(a:B3):AA Int:=bd (Rh c) fun y=>br (!y) (some 1) (bd (C5 a.Kind 1 7) fun B=>br (!B) (some 2) (bd (WZ a) fun E=>br (!E) (some 3) (br (a.Kind==1) (bd (Mv a.Ab (↑c.AH.length:Int)) fun G=>br (!G) (jn (AbP c a) true) (bd (C5 a.Bu (-1) (w64 ((↑c.AH.length:Int)-1))) fun e=>br (!e) (jn (AbP c a) true) (jn (AbP c a) (a.Bu==a.Ab)))) (br (a.Kind==2) (bd (bL c a.Id) fun g=>br (decide (g<0)) (some 7) (jn lr ())) (br (a.Kind==3) (bd (Mv a.Ab (↑c.AH.length:Int)) fun h=>br (!h) (some 4) (bd (C5 a.BE 1 60) fun j=>br (!j) (some 5) (bd (AXc c a.Ab) fun q=>br (decide (q<a.BE)) (some 12) (jn lr ())))) (br (a.Kind==4) (jn (Adt c a) (a.Kind==4)) (jn (Adt c a) (a.Kind==5))))))))
def lV:=gZ Aeg C9 Ca ["SWHF0VwJUlCWiuuyQ8G3RkIQlqLZxAq6ywirCGfcOYsaQhNExajrFQO0xHE5yguZqwwzBDyXBfkgAd99","OT2nGQ5ETF1wWyJRB0iLYsEAtOsiQ3smVvg6v2iliiJbiEu8wzwhU8LJQXkcU2aZjHmgQxWRjtyepSdW","TyvDJ5lhNdWagyuhylhphNI4T65T9xJ4KA4rNZXENbfQcWQsAzDagso8Z44u7VMvQI3GNxkiGmpTpJZR","gStDIl51Lte5MScp8wps5ujYz5oJ9HWRElraDehJ2PUYJWjAB8n31POsloo5zOn0iqx39Wi8L7tQ9Y8S","eb4w0B1G9EZzo0Hy1prahOzV00kYYyrQ4yy56hXbGdDIoSU24xtJEVT7uupapGeGDQzAKel41RXH6tTy","PSxHffFLAz6TbSBXtTtkhXwRCdqs6ASyxSBt2RY8XtbqJMVRV0EagYoiqcmvJ921tNnH0uwKdygDTDJH","llq7lEkqRNS8ENl8bcGImrz0Bu2EZXYcdWHxYiQwrm4sazv7R6iW1KaFOjoW9QGLaAKMNu5NZl4MNTsJ","HS2TB5jHlu35sKi0LQQaSftkAD9MHWIjRoDhx4PUsDSz7KU59p1YsyipOs1qtn8GeFADjGDoorDB1pO9","JFmx9ZMssbToGoLuaacY3pCR5tOX4d"] [Qs,Et,ZR,Oy,lh,kz,lT,lU] (A4 AXd)
def AXe(a c:AU):AA Bool:=some (decide (a.Id>c.Id))
def lW:=gZ [.v (.st 2),.p (.st 2)] C1 [.tmp 3] ["BkWlmvXDiLk5orc"] [] (A4 AXe)
def Ajo:YF:=⟨[lW],[.v (.l (.st 2)),.f lW.x [(true,(.st 2))]],[0],.ret [.i],[.tmp 4],dY ["7yIuXR7F4BoOKZ2x3TwVnauzn0AbT7HCKtCjuFq67RTC2htVMflGsNhHb2VXkJZNr"] [] [.D2 16 (.tmp 11) [.v,.p] [.tmp 15]]⟩
def AgD(_:PUnit):AA Int:=some (-1)
def AgE(e:List AU)(a:AU)(g:Int->AA Int)(c:Int):AA Int:=br (decide (c<e.length)) (bd (at? e c) fun h=>bd (AXe h a) fun j=>br j (some c) (g (w64 (c+1)))) (jn AgD ())
def AXf(c:List AU)(a:AU):AA Int:=BD (AgE c a) big 0
def lY:GF:=Ajo.gf rfl rfl (fun a=>AXf a.1 a.2.1.1) (fun a=>by kernel_rfl)
def Ajp:YF:=⟨[lW],[.v (.l (.st 2)),.v (.st 2)],[],.ret [(.l (.st 2))],[.tmp 4],dY ["IFDqXCgA6QgL67YVLo9VoWBRbQq9fhkH4VChn04co6Kn4H9XE7cEMQ8pq7XzeguBV4700TEsnl9KCWKR","RioYxurK"] [AGu,AGn] [.NC 22 0 [.tmp 3],.call 23 lY [0] rfl [.tmp 21,.tmp 22]]⟩
def iw(a:List AU)(c:AU)(e:Int):AA (List AU):=bd (AKX a e [c]) fun g=>some g
def rO(a:List AU)(c:AU):AA (List AU):=gd (0+a.length<=lim) (bd (bK a c.Id) fun e=>br (decide (e>=0)) (bd (at? a e) fun h=>bd (at? a e) fun j=>some (a.set (aY e) c)) (bd (AXf a c) fun g=>br (decide (g<0)) (jn (iw a c) (↑a.length:Int)) (jn (iw a c) g)))
def xA:GF:=Ajp.EI (A4 rO)
def Adw(c e:List Au)(a:Bool):AA ((List Au)×Bool):=br a (some (c,false)) (some (e,true))
def Adv(c:List Au)(q:Au)(B:List Au)(y:Int):AA ((List Au)×Bool):=bd (Uc c) fun E=>bd (AKY E y [q]) fun a=>bd (Uc c) fun e=>bd (AKY e y [q]) fun g=>eqv a g (bd (pt c) fun h=>br (!h) (jn (Adw B a) true) (bd (pt a) fun j=>jn (Adw B a) (!j)))
def AcO(e:List Au)(g:Au)(j:List Au)(c:Int->AA (List Au×Bool))(a:Int)(h:Bool):AA ((List Au)×Bool):=br h (c (w64 (a+1))) (jn (Adv e g j) a)
def Adx(a:List Au)(e:Au)(h:List Au)(g:Int->AA (List Au×Bool))(c:Int):AA ((List Au)×Bool):=br (decide (c<a.length)) (bd (at? a c) fun j=>bd (AAh j e) fun q=>jn (AcO a e h g c) q) (jn (AcO a e h g c) false)
def rP(a:List Au)(c:Au):AA ((List Au)×Bool):=bd (Uc a) fun e=>BD (Adx a c e) big 0
def AGZ:=gZ ASX Agp Zs ["yy2plaXTLjzJ8E7IJQc6QmyC9eqQEeS6bwc8xGla24G39pU7N9uP6NhI6EJipk84mxmKCMFfP0ghLlCB","wcA8Sjb8IYDuTdjA1BGhqWdJWkfNQ9vNhzPAo5R7FBAxzXEtnC5mqAlrKnBQScGBhXLp25x5XhIp"] [lI,vZ,AGo,vd] (A4 rP)
def AQZ(a:BI)(c:Int):AA BI:=some (BI.mk a.Total a.Dv a.FA a.Fm (w64 (a.F8+c)))
def lZ:=gZ Acv ASi [] ["OOID0nbDFrk5hRA1kMRZ4"] [] (A4 AQZ)
def As7:=fun (a:GF)=>(⟨[a],[.v (.st 3),.v .i,.f a.x [(true,.i)]],[0],.ret [(.st 3),.b],[.cell 6 (some 5),.tmp 7],dY ["RLPyv5M1yKvS8gbaDYEekPXMgSN3QPxP4rxeoNQGnrfPHyvZE0iPbO8qyQu8AHreN8VQMS4BHCHRlg1x"] [Oz,Et] [.D2 20 (.tmp 19) [.b,.p] [.tmp 8]]⟩:YF)
def Aae:YF:=As7 lZ
def Ady(c:BI)(a:Int)(g:Bool):AA (BI×Bool):=br g (some (c,false)) (bd (AQZ c a) fun e=>bd (MC e) fun h=>br (!h) (some (c,false)) (some (e,true)))
def AQa(c:BI)(e a:Int):AA (BI×Bool):=bd (MC c) fun g=>br (!g) (jn (Ady c a) true) (bd (C5 e 0 60) fun h=>jn (Ady c a) (!h))
def AGa:GF:=Aae.gf rfl rfl (fun a=>AQa a.1 a.2.1 a.2.2.1.1) (fun a=>by kernel_rfl)
def Aaf:YF:=⟨[lZ],[.v (.st 3),.v .i],[],.ret [(.st 3),.b],[.cell 4 (some 5),.tmp 5],dY ["ULd4nUDGl0NjEnWIMCSfuDjjnJ"] [] [.NC 8 0 [.tmp 3],.call 9 AGa [0] rfl [.tmp 6,.tmp 7,.tmp 8]]⟩
def rQ(e:BI)(a:Int):AA (BI×Bool):=bd (AQa e a a) fun c=>some (c.fst,c.snd)
def lf:GF:=Aaf.EI (A4 rQ)
def AeL(a:List Int):AA (List Int):=some a
def Mw(e:List Int)(a:Int):AA (List Int):=bd (AJs e) fun c=>bd (qD e a) fun g=>br (!g) (gd (aO c+[a].length<=lim) (jn AeL (c++[a]))) (jn AeL c)
def Sr:=gZ sK AbZ Ca ["VufkForu1zQZPG5AFplU8cAcPGHmjg18wEXGo"] [ARO,lG] (A4 Mw)
def AeM(e:Int)(a:AE):AA (AE×Int):=bd (Mw a.BB e) fun c=>some (AE.mk a.AQ a.Now a.A0 a.AG a.AH c a.A9,0)
def rT(h:AE)(B c g y E:Int):AA (AE×Int):=bd (ABb h) fun a=>bd (AXd h (B3.mk 1 B c g y E)) fun I=>br (I != 0) (some (a,I)) (bd (rO a.AG (AU.mk B c g y E h.Now h.A0 1 0 0)) fun J=>bd (py a.AQ (AU.mk B c g y E h.Now h.A0 1 0 0) a.Now) fun Q=>bd (at? a.AH c) fun X=>bd (at? a.AH c) fun S=>bd (rP S.Row Q.fst) fun j=>bd (at? a.AH c) fun Y=>bd (at? a.AH c) fun e=>br (g != -1) (bd (at? (a.AH.set c.toNat (Ae.mk e.AY j.fst e.By)) g) fun L=>bd (at? (a.AH.set c.toNat (Ae.mk e.AY j.fst e.By)) g) fun G=>bd (rQ G.AY y) fun H=>bd (at? (a.AH.set c.toNat (Ae.mk e.AY j.fst e.By)) g) fun O=>bd (at? (a.AH.set c.toNat (Ae.mk e.AY j.fst e.By)) g) fun q=>jn (AeM c) (AE.mk a.AQ a.Now (w64 (a.A0+1)) J ((a.AH.set c.toNat (Ae.mk e.AY j.fst e.By)).set g.toNat (Ae.mk H.fst q.Row q.By)) a.BB a.A9)) (jn (AeM c) (AE.mk a.AQ a.Now (w64 (a.A0+1)) J (a.AH.set c.toNat (Ae.mk e.AY j.fst e.By)) a.BB a.A9)))
def AG2:=gZ xU AbL VU ["2ciNQ6vSHN9eIEq3A9mB4sl9nxLPnYvNizDVGO2lsKwOV0OOX5nShcaMUZxGXqozVSqPGm3FtiViL0LA","tsdAfiNpSDA7wNxBDd9yn27HmlzkGiqIiIm6UVeU4iLn2sNIvkzRfu1fOAmTmszwnuFIW8mafwbnHqFq","bRRuMRH4usHCFsj2yKlPaxSlZZHXEG3OBhS3WMfJjTCGRRPSwThPwUhpILAHywrsrrUraDKqYGGEjIYV","ynafeIQJIwslqNK1r2fziPpwsb6RYXhJ51jfvRAkGlyg8ejkC2gugX64Sxfvuli"] [ART,lV,xA,lC,AGZ,lf,Sr] (AI2 rT)
def ACZ(c:List Au)(g:Int):AA ((List Au)×Bool):=bd (Uc c) fun e=>bd (pq c g) fun a=>br (decide (a<0)) (some (e,false)) (bd (AKZ e a (w64 (a+1))) fun h=>some (h,true))
def AG3:=gZ AHU Agp Zs ["LCIOOawgNkiQxQFJKYlBLdYpLGXHi63Dy8MqzuXyOC8GC4iKf"] [lI,va,AGp] (A4 ACZ)
def jP(_:PUnit):AA Int:=some (-1)
def AgP(c:List BY)(e:BY)(h:Int->AA Int)(a:Int):AA Int:=br (decide (a<c.length)) (bd (at? c a) fun g=>br (e.At==g.At&&(e.Id==g.Id&&true)) (some a) (h (w64 (a+1)))) (jn jP ())
def SZ(a:List BY)(c:BY):AA Int:=BD (AgP a c) big 0
def O1:=gZ ASZ C9 Ca ["B3kesmPNguJGTAKG1ITyo4sb0Q1OfsTnkIywdPtbv01yzn5p2S2qlGSF0XwGYDAq"] [] (A4 SZ)
def AeN(a:BY)(c:Aw)(h:Bool):AA (Aw×Bool):=br h (some (c,false)) (bd (at? c.Ar (a.At.tmod 9)) fun q=>bd (at? c.Ar (a.At.tmod 9)) fun g=>bd (SZ g a) fun e=>br (decide (e<0)) (some (c,false)) (bd (ACU g e (w64 (e+1))) fun j=>bd (at? c.Ar (a.At.tmod 9)) fun y=>bd (at? c.Ar (a.At.tmod 9)) fun B=>gd (Y.O5 (a.At.tmod 9).toNat 0 1 [((a.At.tmod 9).toNat,0)]) (some (Aw.mk (c.Ar.set (a.At.tmod 9).toNat j),true))))
def AQh(e:Aw)(a:BY):AA (Aw×Bool):=bd (ABa e) fun g=>bd (Rg e) fun h=>br (!h) (jn (AeN a g) true) (bd (pw a) fun c=>jn (AeN a g) (!c))
def lk:=gZ AfL Acw AfQ ["8XxGg6ABlJcsZftVy4g6JjiJvU6Asp30ckmjyFntqceAkrRfgVKLvXbMTVr86ySfNCv3V2kqlG5ih7EY","VeqIWHlj186e7ORhDAFH1Hd3TieItNGGwCO4HKfeXCJMS39IlrXaYtOUbU"] [AGA,VM,lB,O1,xD] (A4 AQh)
def AKk(a:BI)(c:Int):AA BI:=some (BI.mk a.Total (w64 (a.Dv+c)) (w64 (a.FA-c)) a.Fm a.F8)
def AG4:=gZ Acv ASi [] ["gueIt46oyjRzm6HHaj5TqVcog86bbcAw0zuqED778"] [] (A4 AKk)
def Aak:YF:=As7 AG4
def jS(c:BI)(a:Int)(g:Bool):AA (BI×Bool):=br g (some (c,false)) (bd (AKk c a) fun e=>bd (MC e) fun h=>br (!h) (some (c,false)) (some (e,true)))
def rU(c:BI)(e a:Int):AA (BI×Bool):=bd (MC c) fun g=>br (!g) (jn (jS c a) true) (bd (C5 e 0 60) fun h=>jn (jS c a) (!h))
def ll:GF:=Aak.gf rfl rfl (fun a=>rU a.1 a.2.1 a.2.2.1.1) (fun a=>by kernel_rfl)
def Ajv:YF:=⟨[AG4],[.v (.st 3),.v .i],[],.ret [(.st 3),.b],[.cell 4 (some 5),.tmp 5],dY ["ULd4nUDGl0NjEnWIMCSfuDjjnJ"] [] [.NC 8 0 [.tmp 3],.call 9 ll [0] rfl [.tmp 6,.tmp 7,.tmp 8]]⟩
def rV(e:BI)(a:Int):AA (BI×Bool):=bd (rU e a a) fun c=>some (c.fst,c.snd)
def xH:GF:=Ajv.EI (A4 rV)
def AQi(a:BI)(c:Int):AA BI:=some (BI.mk a.Total a.Dv a.FA a.Fm (w64 (a.F8-c)))
def ln:=gZ Acv ASi [] ["19DteTcBx3nuKdmDRGErAw"] [] (A4 AQi)
def Aal:YF:=As7 ln
def jW(c:BI)(a:Int)(g:Bool):AA (BI×Bool):=br g (some (c,false)) (bd (AQi c a) fun e=>bd (MC e) fun h=>br (!h) (some (c,false)) (some (e,true)))
def AQj(c:BI)(e a:Int):AA (BI×Bool):=bd (MC c) fun g=>br (!g) (jn (jW c a) true) (bd (C5 e 0 60) fun h=>jn (jW c a) (!h))
def AG5:GF:=Aal.gf rfl rfl (fun a=>AQj a.1 a.2.1 a.2.2.1.1) (fun a=>by kernel_rfl)
def Aam:YF:=⟨[ln],[.v (.st 3),.v .i],[],.ret [(.st 3),.b],[.cell 4 (some 5),.tmp 5],dY ["ULd4nUDGl0NjEnWIMCSfuDjjnJ"] [] [.NC 8 0 [.tmp 3],.call 9 AG5 [0] rfl [.tmp 6,.tmp 7,.tmp 8]]⟩
def AKl(e:BI)(a:Int):AA (BI×Bool):=bd (AQj e a a) fun c=>some (c.fst,c.snd)
def AG6:GF:=Aam.EI (A4 AKl)
def jX(a:List AU):AA (List AU):=some a
def XC(a:List AU)(e:Int):AA (List AU):=gd (0+a.length<=lim) (bd (bK a e) fun c=>br (decide (c>=0)) (bd (ACV a c (w64 (c+1))) fun g=>jn jX g) (jn jX a))
def Ss:=gZ O2 Ago Ca ["6nthNRyO3EtXvycnD0SQg3IMd8ckQ4ZDIfKJ0gY2sRUhkzGpE"] [AGu,xE] (A4 XC)
def AeO(e:Int)(a:AE):AA (AE×Int):=bd (XC a.AG e) fun c=>some (AE.mk a.AQ a.Now a.A0 c a.AH a.BB a.A9,0)
def jY(j:Int)(c:AU)(a:AE):AA (AE×Int):=br (c.Bu != -1) (bd (at? a.AH c.Bu) fun q=>bd (at? a.AH c.Bu) fun g=>bd (AKl g.AY c.BE) fun h=>bd (at? a.AH c.Bu) fun y=>bd (at? a.AH c.Bu) fun e=>jn (AeO j) (AE.mk a.AQ a.Now a.A0 a.AG (a.AH.set c.Bu.toNat (Ae.mk h.fst e.Row e.By)) a.BB a.A9)) (jn (AeO j) a)
def AKm(j:AE)(g:Int):AA (AE×Int):=bd (ABb j) fun a=>bd (AXd j (B3.mk 2 g 0 0 0 0)) fun I=>br (I != 0) (some (a,I)) (bd (bL j g) fun J=>bd (at? j.AG J) fun c=>bd (bL j g) fun L=>bd (at? j.AG L) fun O=>K3 c O (bd (at? a.AH c.Ab) fun X=>br (c.State==1) (bd (at? a.AH c.Ab) fun Q=>bd (ACZ Q.Row g) fun S=>bd (at? a.AH c.Ab) fun q=>jn (jY g c) (AE.mk a.AQ a.Now a.A0 a.AG (a.AH.set c.Ab.toNat (Ae.mk q.AY S.fst q.By)) a.BB a.A9)) (bd (at? a.AH c.Ab) fun B=>bd (AQh B.By (BY.mk c.C7 g)) fun h=>bd (at? a.AH c.Ab) fun e=>bd (at? (a.AH.set c.Ab.toNat (Ae.mk e.AY e.Row h.fst)) c.Ab) fun E=>bd (rV E.AY c.BE) fun G=>bd (at? (a.AH.set c.Ab.toNat (Ae.mk e.AY e.Row h.fst)) c.Ab) fun y=>bd (Mw a.BB c.Ab) fun H=>jn (jY g c) (AE.mk a.AQ a.Now a.A0 a.AG ((a.AH.set c.Ab.toNat (Ae.mk e.AY e.Row h.fst)).set c.Ab.toNat (Ae.mk G.fst y.Row y.By)) H a.A9))))
def AG7:=gZ Zf AbL AbS ["1FKjxb1ajRsC2HLQB1OZ8YQY4WzgEqYPhsFJDvHGCET3RPlglhf6NA0a0B7FQ0jEIBl2xKIBmV1Ize4r","VURQXTM5OvQCZlInOrMWgiH64fOvTaVOeIGXerjzOGn9aDvnE27Ey77TH2wVvJ261laGKhMiDShFzeGx","kbdsCmo9zHzZITqvfmKc5AX66kWYgtIKKp2H6JUzIxOwmllXGbf3Qq48Kn1JJZ0VOFfd8USGfpXSZ8iG","euVK50B7BZ7cMOu3paduo8QIQXRqkPrXPdZFuceyfByHzLNVSQ4sbk3fCk4e773pIuBEbll4k2YCiRr2","DBT3N1oxI9NEvDVJvMzfVp"] [ART,lV,lh,AG3,lk,xH,Sr,AG6,Ss] (A4 AKm)
def ACc(a:BI)(c:Int):AA BI:=some (BI.mk a.Total (w64 (a.Dv+c)) a.FA (w64 (a.Fm-c)) a.F8)
def xI:=gZ Acv ASi [] ["1Glr8vatkPnogAUEZ07nLolzFfecGjfOz1aS9fPoNg"] [] (A4 ACc)
def Ajw:YF:=As7 xI
def AeP(c:BI)(a:Int)(g:Bool):AA (BI×Bool):=br g (some (c,false)) (bd (ACc c a) fun e=>bd (MC e) fun h=>br (!h) (some (c,false)) (some (e,true)))
def AKn(c:BI)(e a:Int):AA (BI×Bool):=bd (MC c) fun g=>br (!g) (jn (AeP c a) true) (bd (C5 e 0 60) fun h=>jn (AeP c a) (!h))
def AG8:GF:=Ajw.gf rfl rfl (fun a=>AKn a.1 a.2.1 a.2.2.1.1) (fun a=>by kernel_rfl)
def Ajx:YF:=⟨[xI],[.v (.st 3),.v .i],[],.ret [(.st 3),.b],[.cell 4 (some 5),.tmp 5],dY ["ULd4nUDGl0NjEnWIMCSfuDjjnJ"] [] [.NC 8 0 [.tmp 3],.call 9 AG8 [0] rfl [.tmp 6,.tmp 7,.tmp 8]]⟩
def rW(e:BI)(a:Int):AA (BI×Bool):=bd (AKn e a a) fun c=>some (c.fst,c.snd)
def lq:GF:=Ajx.EI (A4 rW)
def AQk(e:AE)(c g:Int):AA (AE×Int):=bd (ABb e) fun a=>bd (AXd e (B3.mk 3 0 c 0 g 0)) fun h=>br (h != 0) (some (a,h)) (bd (at? a.AH c) fun E=>bd (at? a.AH c) fun q=>bd (rW q.AY g) fun y=>bd (at? a.AH c) fun G=>bd (at? a.AH c) fun j=>bd (Mw a.BB c) fun B=>some (AE.mk a.AQ a.Now a.A0 a.AG (a.AH.set c.toNat (Ae.mk y.fst j.Row j.By)) B a.A9,0))
def lu:=gZ [.v (.st 8),.v .i,.v .i] AbL AiP ["J6kfSxmlPaIzP4aERgLn3pCtkODOG6wlpJDYDSCGJWieGVPCqASjLyJnZgq6KRuBSLBoflTmYkiAwTx0","Go1ANqqJx4v1KWkTK8wteoORtZmxy6au5YnpBUXTdEQ"] [ART,lV,lq,Sr] (Gq AQk)
def AQl(a:BI)(c:Int):AA BI:=some (BI.mk a.Total a.Dv (w64 (a.FA-c)) (w64 (a.Fm+c)) a.F8)
def AG9:=gZ Acv ASi [] ["1z51f4lsz3C0ZpBffIkTLDpziStzfBwmA8OpKmgl4v"] [] (A4 AQl)
def Aao:YF:=As7 AG9
def AeQ(c:BI)(a:Int)(g:Bool):AA (BI×Bool):=br g (some (c,false)) (bd (AQl c a) fun e=>bd (MC e) fun h=>br (!h) (some (c,false)) (some (e,true)))
def ACf(c:BI)(e a:Int):AA (BI×Bool):=bd (MC c) fun g=>br (!g) (jn (AeQ c a) true) (bd (C5 e 0 60) fun h=>jn (AeQ c a) (!h))
def xJ:GF:=Aao.gf rfl rfl (fun a=>ACf a.1 a.2.1 a.2.2.1.1) (fun a=>by kernel_rfl)
def Ajy:YF:=⟨[AG9],[.v (.st 3),.v .i],[],.ret [(.st 3),.b],[.cell 4 (some 5),.tmp 5],dY ["ULd4nUDGl0NjEnWIMCSfuDjjnJ"] [] [.NC 8 0 [.tmp 3],.call 9 xJ [0] rfl [.tmp 6,.tmp 7,.tmp 8]]⟩
def AQm(e:BI)(a:Int):AA (BI×Bool):=bd (ACf e a a) fun c=>some (c.fst,c.snd)
def l9:GF:=Ajy.EI (A4 AQm)
def jc(a:AE):AA (AE×Int):=some (a,0)
def AQn(B:AE)(E:Int):AA (AE×Int):=bd (ABb B) fun g=>bd (AXd B (B3.mk 4 E 0 0 0 0)) fun S=>br (S != 0) (some (g,S)) (bd (bL B E) fun Y=>bd (at? B.AG Y) fun c=>bd (bL B E) fun Z=>bd (at? B.AG Z) fun x6=>K3 c x6 (bd (at? g.AH c.Ab) fun x7=>bd (at? g.AH c.Ab) fun x8=>bd (AQm x8.AY c.BE) fun q=>bd (at? g.AH c.Ab) fun a=>bd (at? (g.AH.set c.Ab.toNat (Ae.mk q.fst a.Row a.By)) c.Ab) fun I=>bd (AQh I.By (BY.mk c.C7 E)) fun h=>bd (at? (g.AH.set c.Ab.toNat (Ae.mk q.fst a.Row a.By)) c.Ab) fun e=>bd (XC g.AG E) fun G=>br (c.Bu != -1) (bd (at? ((g.AH.set c.Ab.toNat (Ae.mk q.fst a.Row a.By)).set c.Ab.toNat (Ae.mk e.AY e.Row h.fst)) c.Bu) fun X=>bd (at? ((g.AH.set c.Ab.toNat (Ae.mk q.fst a.Row a.By)).set c.Ab.toNat (Ae.mk e.AY e.Row h.fst)) c.Bu) fun J=>bd (AKl J.AY c.BE) fun y=>bd (at? ((g.AH.set c.Ab.toNat (Ae.mk q.fst a.Row a.By)).set c.Ab.toNat (Ae.mk e.AY e.Row h.fst)) c.Bu) fun j=>bd (at? (((g.AH.set c.Ab.toNat (Ae.mk q.fst a.Row a.By)).set c.Ab.toNat (Ae.mk e.AY e.Row h.fst)).set c.Bu.toNat (Ae.mk y.fst j.Row j.By)) c.Bu) fun L=>bd (rW L.AY c.BE) fun O=>bd (at? (((g.AH.set c.Ab.toNat (Ae.mk q.fst a.Row a.By)).set c.Ab.toNat (Ae.mk e.AY e.Row h.fst)).set c.Bu.toNat (Ae.mk y.fst j.Row j.By)) c.Bu) fun H=>bd (Mw g.BB c.Bu) fun Q=>jn jc (AE.mk g.AQ g.Now g.A0 G ((((g.AH.set c.Ab.toNat (Ae.mk q.fst a.Row a.By)).set c.Ab.toNat (Ae.mk e.AY e.Row h.fst)).set c.Bu.toNat (Ae.mk y.fst j.Row j.By)).set c.Bu.toNat (Ae.mk O.fst H.Row H.By)) Q g.A9)) (jn jc (AE.mk g.AQ g.Now g.A0 G ((g.AH.set c.Ab.toNat (Ae.mk q.fst a.Row a.By)).set c.Ab.toNat (Ae.mk e.AY e.Row h.fst)) g.BB g.A9))))
def AHA:=gZ Zf AbL AbS ["TG8CY8EhuD3NqCRMFx4kAt46EU4tI41lC8heNvUGsvLQETLKAVhDek94kvbHokMcPN0jNzMNdNSMHYP7","T4EvgNSokHefq4z3lTPP74HJX7oLTlPbmjFUuMKwMSbEEHz0QwdXKqRmdVoYk3L1efJ9PWiUs8fCX1MG","n4sZxktJwfr3IrEqNXQQ1pZGlvj8IRBJiUIWZGExrI2MgjGW9nHW7dJu1cDDZ1TFsB59BhURMtpUoJQr","fAEM2umHZDF4zWAH14L434csuRKe2nycgvGF4InScebdSK2H3wSaNCXZjPh1X0UtfvpCprMVWLEE9NoC","eUtrTew7Z8"] [ART,lV,lh,l9,lk,Ss,AG6,lq,Sr] (A4 AQn)
def AcQ(c:Aa)(a:AU)(e:Int)(g:Bool):AA (AU×Bool):=br g (some (AU.mk 0 0 0 0 0 0 0 0 0 0,false)) (some (AU.mk a.Id a.Ab a.Bu a.BE a.DJ a.Since a.A0 1 (w64 (e+c.Rest)) (w64 (a.Dh+1)),true))
def rX(c:Aa)(a:AU)(e:Int):AA (AU×Bool):=bd (eW c a e) fun g=>br (!g) (jn (AcQ c a e) true) (br (a.State != 2) (jn (AcQ c a e) true) (jn (AcQ c a e) (w64 (a.Dh+1)==c.CY)))
def mA:=gZ bW (.ret [(.st 2),.b]) ASl ["MkLOeDzTQp9VTbiJvCkfLlZ3HScWFaHMGjdz48njApCFsNmWSFtRCi2qVAHyldDlKKAi4r1Xe0CcV5AG","SRLUy5QVVSU8zhRjD9D3"] [ZO] (Gq rX)
def jd(a:AE):AA AE:=some a
def XD(c:AE)(G:Int):AA AE:=bd (bL c G) fun X=>bd (at? c.AG X) fun x2=>bd (at? c.AG X) fun e=>bd (bL c G) fun Y=>bd (at? c.AG Y) fun x5=>bd (at? c.AG Y) fun x6=>K3 e x6 (bd (at? c.AH e.Ab) fun x7=>bd (at? c.AH e.Ab) fun x8=>bd (rV x8.AY e.BE) fun j=>bd (at? c.AH e.Ab) fun a=>bd (at? (c.AH.set e.Ab.toNat (Ae.mk j.fst a.Row a.By)) e.Ab) fun H=>bd (AQh H.By (BY.mk e.C7 G)) fun h=>bd (at? (c.AH.set e.Ab.toNat (Ae.mk j.fst a.Row a.By)) e.Ab) fun g=>bd (rX c.AQ e c.Now) fun q=>br q.snd (bd (rO c.AG q.fst) fun I=>bd (py c.AQ q.fst c.Now) fun J=>bd (at? ((c.AH.set e.Ab.toNat (Ae.mk j.fst a.Row a.By)).set e.Ab.toNat (Ae.mk g.AY g.Row h.fst)) e.Ab) fun L=>bd (rP L.Row J.fst) fun O=>bd (at? ((c.AH.set e.Ab.toNat (Ae.mk j.fst a.Row a.By)).set e.Ab.toNat (Ae.mk g.AY g.Row h.fst)) e.Ab) fun y=>some (AE.mk c.AQ c.Now c.A0 I (((c.AH.set e.Ab.toNat (Ae.mk j.fst a.Row a.By)).set e.Ab.toNat (Ae.mk g.AY g.Row h.fst)).set e.Ab.toNat (Ae.mk y.AY O.fst y.By)) c.BB c.A9)) (bd (XC c.AG G) fun B=>br (e.Bu != -1) (bd (at? ((c.AH.set e.Ab.toNat (Ae.mk j.fst a.Row a.By)).set e.Ab.toNat (Ae.mk g.AY g.Row h.fst)) e.Bu) fun Z=>bd (at? ((c.AH.set e.Ab.toNat (Ae.mk j.fst a.Row a.By)).set e.Ab.toNat (Ae.mk g.AY g.Row h.fst)) e.Bu) fun Q=>bd (AKl Q.AY e.BE) fun S=>bd (at? ((c.AH.set e.Ab.toNat (Ae.mk j.fst a.Row a.By)).set e.Ab.toNat (Ae.mk g.AY g.Row h.fst)) e.Bu) fun x24=>bd (at? ((c.AH.set e.Ab.toNat (Ae.mk j.fst a.Row a.By)).set e.Ab.toNat (Ae.mk g.AY g.Row h.fst)) e.Bu) fun E=>jn jd (AE.mk c.AQ c.Now c.A0 B (((c.AH.set e.Ab.toNat (Ae.mk j.fst a.Row a.By)).set e.Ab.toNat (Ae.mk g.AY g.Row h.fst)).set e.Bu.toNat (Ae.mk S.fst E.Row E.By)) c.BB c.A9)) (jn jd (AE.mk c.AQ c.Now c.A0 B ((c.AH.set e.Ab.toNat (Ae.mk j.fst a.Row a.By)).set e.Ab.toNat (Ae.mk g.AY g.Row h.fst)) c.BB c.A9))))
def mB:=gZ Agm Abm xg ["nDMCqMpX8izpANZBMJhRtSndl1Mp5sCfqkdOxlgVVZLqUSRNhS29JfUOCEdnLJCivmf62kCAVEOBEV9J","ZDTI6LouBuFVYCEO8MkDkyg7w3K7qz4xxi7o3B8WbFJFLrOmUEeIlKzLecRdQYN7GLXfRWSYrie0GCR6","TqVlWgHw7mplVOQGLBEkXNzbG7oOSSXwoSq1daXyDkAjp9rbrAuBNsFyQVgOIszcwFHH2ym7XsCpu8LK","LU5db454zqNzcfQAzjElRKTxHz5HcNi2iDMQs0Po2r07PDSja3hV9Sn9jgNG9857BcGEbCMMhsswmn31","WY2f7vAkEfpYp55jXoZaLV9847uF0TZh9MSFUK2SlJcZUDB"] [lh,xH,lk,mA,xA,lC,AGZ,Ss,AG6] (A4 XD)
def AKo(c:AE)(e:Int):AA (AE×Int):=bd (ABb c) fun g=>bd (AXd c (B3.mk 5 e 0 0 0 0)) fun h=>br (h != 0) (some (g,h)) (bd (bL c e) fun j=>bd (at? c.AG j) fun q=>bd (XD g e) fun a=>bd (Mw a.BB q.Ab) fun y=>some (AE.mk a.AQ a.Now a.A0 a.AG a.AH y a.A9,0))
def AHB:=gZ Zf AbL AbS ["4yxZGCclYZLnDjBEH0vdI89FcgjDZhpQUmymHzl1QGro3giz8OC7Reu22a89o0C8NBHYTNLJLVohlmwY","nAJ9NubLD6rDJKBZyH9XTI8ydU6"] [ART,lV,lh,mB,Sr] (A4 AKo)
def AeR(c:Int×AE->AA (AE×Int))(e:Int)(a:AE):AA (AE×Int):=c (w64 (e+1),a)
def AiL(a:AE):AA (AE×Int):=some (a,0)
def AcR(q:AE)(h:Int×AE->AA (AE×Int))(B:Int×AE):AA (AE×Int):=let (c,a):=B;br (decide (c<q.AH.length)) (bd (aw a.AQ a.AG c a.Now) fun j=>bd (at? a.AH c) fun E=>bd (at? a.AH c) fun e=>bd (po a.AG c) fun y=>br (decide (y>0)) (bd (Mw a.BB c) fun g=>jn (AeR h c) (AE.mk a.AQ a.Now a.A0 a.AG (a.AH.set (aY c) (Ae.mk e.AY j e.By)) g a.A9)) (jn (AeR h c) (AE.mk a.AQ a.Now a.A0 a.AG (a.AH.set (aY c) (Ae.mk e.AY j e.By)) a.BB a.A9))) (jn AiL a)
def AQo(c:AE):AA (AE×Int):=bd (ABb c) fun a=>bd (AXd c (B3.mk 6 0 0 0 0 0)) fun e=>br (e != 0) (some (a,e)) (BD (AcR a) big (0,AE.mk a.AQ (w64 (a.Now+1)) a.A0 a.AG a.AH a.BB a.A9))
def mC:=gZ Xi AbL AfP ["xC6kVu1NnqIPlk7ogVFuwesGoeskiyzK6daLUnlayJfYYhf3Jz332CGay8mztqe7YSBteH170rkPlMG3","FXJdJnVvJb0LtYcSY9I6OQsVw7IwGYlrbmmV1zpoq3O3SNSqhYKzsEjkJgrPPDPE1RBHf5D1xYo2acjD","MsrPNm"] [ART,lV,ku,kz,Sr] (Bc AQo)
def jf(a:Bool):AA Bool:=some a
def AQp(a:AE)(c:Int):AA Bool:=bd (Rh a) fun e=>br e (bd (Mv c (↑a.AH.length:Int)) fun g=>jn jf g) (jn jf false)
def AHC:=gZ Zf C1 Ca ["M1M6yQPbd7GAjkULCNmHIxusqHd7g"] [Qs,Oy] (A4 AQp)
def AeB(a:List BY×Int->AA (List BY))(c:Int)(e:List BY):AA (List BY):=a (e,w64 (c+1))
def AgL(a:List BY):AA (List BY):=some a
def AeC(j:Int)(e:List BY)(h:List BY×Int->AA (List BY))(q:List BY×Int):AA (List BY):=let (c,a):=q;br (decide (a<(aO e))) (bd (at? e a) fun y=>bd (at? e a) fun g=>br (decide (g.At<=j)) (gd (aO c+[g].length<=lim) (jn (AeB h a) (c++[g]))) (jn (AeB h a) c)) (jn AgL c)
def ACX(a:Aw)(c:Int):AA (List BY):=bd (eU a) fun e=>BD (AeC c e) big ([],0)
def xF:=gZ [.v (.st 6),.v .i] Zk Ca ["POaLFVTkE7m7fDUmdDPo2HzT6QNsGjNYMjQ1mnP7En6MiqT1MaN0uMOOb8sglUxXo7Se3l2TQeftfTVc","Y2VtdxdAh"] [kx] (A4 ACX)
def AgM(a:List Int):AA (List Int):=some a
def AeD(e:List BY)(h:List Int×Int->AA (List Int))(j:List Int×Int):AA (List Int):=let (c,a):=j;br (decide (a<(aO e))) (bd (at? e a) fun q=>bd (at? e a) fun g=>gd (aO c+[g.Id].length<=lim) (h (c++[g.Id],w64 (a+1)))) (jn AgM c)
def AKe(a:AE)(c:Int):AA (List Int):=bd (AQp a c) fun e=>br (!e) (some []) (bd (at? a.AH c) fun g=>bd (ACX g.By a.Now) fun h=>BD (AeD h) big ([],0))
def AGv:=gZ Zf AbZ Ca ["76CAFhKi7pQsseLCfbgNI1m59ALcIhz4sHdI7wQ8nd97YHcsz1e0KVp2MeLWy0b97GWPi2LW3kqoS0TT","CaBR0vR2cXon4yIlddqlOLV4UH"] [AHC,xF] (A4 AKe)
def AgN(a:AE):AA AE:=some a
def AeE(c:List Int)(g:Int×AE->AA AE)(q:Int×AE):AA AE:=let (a,e):=q;br (decide (a<(aO c))) (bd (at? c a) fun y=>bd (at? c a) fun h=>bd (XD e h) fun j=>g (w64 (a+1),j)) (jn AgN e)
def AQe(a:AE)(c:Int):AA AE:=bd (ABb a) fun e=>bd (AKe a c) fun g=>BD (AeE g) big (0,e)
def lj:=gZ Zf Abm xg ["3KU7CEdinNMFMIQg4kh73NVs3aOvMn4HKZ07W7U3mBf6EwhPepIW3zHsTZUgoDgoFBvKZWKHEAc2jBqB","Ud"] [ART,AGv,mB] (A4 AQe)
def jK(a:Bool):AA Bool:=some a
def AQf(a:AU)(c:Int):AA Bool:=br (a.State==1) (jn jK (decide (a.C7>c))) (jn jK false)
def AGw:=gZ AfM C1 Ca ["2W4bxjBdffKlbL6SGOJW0UU67q7"] [] (A4 AQf)
def AeF(a:Bool):AA Bool:=some a
def AKf(a:Au)(c:Int)(e:List Int):AA Bool:=br (decide (a.BE<=c)) (bd (qD e a.Id) fun g=>jn AeF (!g)) (jn AeF false)
def AGx:=gZ [.v (.st 4),.p .i,.p (.l .i)] C1 Ca ["16ZmHlKD5KZkUgritdWuCqC8d7UbXRvEeg"] [lG] (Gq AKf)
def Ajs:YF:=⟨[AGx],[.v (.l (.st 4)),.f AGx.x [(true,.i),(true,(.l .i))]],[0],.ret [.i],[.tmp 4],dY ["PTcrz1k3fh8jPHeQyzzdcX4E9gKPOJE3RkB3mLdl2i8diJAOHArirqvCJ1MQiDSUA"] [] [.D2 16 (.tmp 11) [.v,.p,.p] [.tmp 15]]⟩
def AgO(_:PUnit):AA Int:=some (-1)
def AeG(g:List Au)(a:Int)(c:List Int)(h:Int->AA Int)(e:Int):AA Int:=br (decide (e<g.length)) (bd (at? g e) fun j=>bd (AKf j a c) fun q=>br q (some e) (h (w64 (e+1)))) (jn AgO ())
def AKg(e:List Au)(a:Int)(c:List Int):AA Int:=BD (AeG e a c) big 0
def AGy:GF:=Ajs.gf rfl rfl (fun a=>AKg a.1 a.2.1.1 a.2.1.2.1) (fun a=>by kernel_rfl)
def Ajt:YF:=⟨[AGx],[.v (.l (.st 4)),.v .i,.v (.l .i)],[],.ret [.i],[.tmp 6],dY ["BSMvKb0fZZbM4E2B"] [] [.NC 8 0 [.tmp 4,.tmp 5],.call 9 AGy [0] rfl [.tmp 7,.tmp 8]]⟩
def AKh(a:List Au)(c:Int)(e:List Int):AA Int:=bd (AKg a c e) fun g=>some g
def AGz:GF:=Ajt.EI (Gq AKh)
def AeH(a:List Int×Int->AA Int)(c:Int)(e:List Int):AA Int:=a (e,w64 (c+1))
def AeI(g:AE)(h:Int)(j:List Int):AA Int:=bd (at? g.AH h) fun e=>bd (AKh e.Row e.AY.Dv j) fun a=>br (decide (a<0)) (some 0) (bd (at? e.Row a) fun c=>some c.Id)
def AeJ(a:AE)(j:Int)(h:List Int×Int->AA Int)(y:List Int×Int):AA Int:=let (c,e):=y;br (decide (e<a.AG.length)) (bd (at? a.AG e) fun g=>bd (AQf g a.Now) fun q=>br q (gd (aO c+[g.Id].length<=lim) (jn (AeH h e) (c++[g.Id]))) (jn (AeH h e) c)) (jn (AeI a j) c)
def ACY(a:AE)(c:Int):AA Int:=bd (AQp a c) fun e=>br (!e) (some 0) (BD (AeJ a c) big ([],0))
def xG:=gZ Zf C9 Ca ["Gm5S81xB0NcuSQryEQTaAAbHCgUzAVjt7079ri7CWmB21XSOZK9Az886jzFSSIACLZVQdCxLEFM0wxUu","6JyxF9Ba79pjqeDEEsAUDveiCu36XpMLAEBewrCDb8bfM4bTtyPguxXSBKq4wPK9VCKTQWyFmL"] [AHC,AGw,AGz] (A4 ACY)
def AKi(a:BI)(c:Int):AA BI:=some (BI.mk a.Total (w64 (a.Dv-c)) (w64 (a.FA+c)) a.Fm a.F8)
def AG0:=gZ Acv ASi [] ["gueIt4J1NPFy5t2iutgnJe007WFbvNxmgNM9fGJxw"] [] (A4 AKi)
def Aju:YF:=As7 AG0
def AeK(c:BI)(a:Int)(g:Bool):AA (BI×Bool):=br g (some (c,false)) (bd (AKi c a) fun e=>bd (MC e) fun h=>br (!h) (some (c,false)) (some (e,true)))
def AKj(c:BI)(e a:Int):AA (BI×Bool):=bd (MC c) fun g=>br (!g) (jn (AeK c a) true) (bd (C5 e 0 60) fun h=>jn (AeK c a) (!h))
def AG1:GF:=Aju.gf rfl rfl (fun a=>AKj a.1 a.2.1 a.2.2.1.1) (fun a=>by kernel_rfl)
def Ajz:YF:=⟨[AG0],[.v (.st 3),.v .i],[],.ret [(.st 3),.b],[.cell 4 (some 5),.tmp 5],dY ["ULd4nUDGl0NjEnWIMCSfuDjjnJ"] [] [.NC 8 0 [.tmp 3],.call 9 AG1 [0] rfl [.tmp 6,.tmp 7,.tmp 8]]⟩
def ACm(e:BI)(a:Int):AA (BI×Bool):=bd (AKj e a a) fun c=>some (c.fst,c.snd)
def xM:GF:=Ajz.EI (A4 ACm)
def AKv(h:AE)(c:Int):AA (AE×Int):=bd (ABb h) fun e=>bd (ACY h c) fun y=>br (y==0) (some (e,0)) (bd (bL h y) fun L=>bd (at? h.AG L) fun j=>bd (bL h y) fun O=>bd (at? h.AG O) fun Q=>K3 j Q (bd (at? e.AH c) fun X=>bd (at? e.AH c) fun S=>bd (ACm S.AY j.BE) fun E=>bd (at? e.AH c) fun a=>bd (at? (e.AH.set c.toNat (Ae.mk E.fst a.Row a.By)) c) fun G=>bd (ACZ G.Row y) fun q=>bd (at? (e.AH.set c.toNat (Ae.mk E.fst a.Row a.By)) c) fun g=>bd (rO e.AG (AU.mk j.Id j.Ab j.Bu j.BE j.DJ j.Since j.A0 2 (w64 (h.Now+h.AQ.Bz)) j.Dh)) fun H=>bd (at? ((e.AH.set c.toNat (Ae.mk E.fst a.Row a.By)).set c.toNat (Ae.mk g.AY q.fst g.By)) c) fun I=>bd (AB7 I.By (BY.mk (w64 (h.Now+h.AQ.Bz)) y)) fun J=>bd (at? ((e.AH.set c.toNat (Ae.mk E.fst a.Row a.By)).set c.toNat (Ae.mk g.AY q.fst g.By)) c) fun B=>some (AE.mk e.AQ e.Now e.A0 H (((e.AH.set c.toNat (Ae.mk E.fst a.Row a.By)).set c.toNat (Ae.mk g.AY q.fst g.By)).set c.toNat (Ae.mk B.AY B.Row J.fst)) e.BB e.A9,y)))
def AHD:=gZ Zf AbL AbS ["4bEwb0qPLFi4rOMRmpTWYGZAY3xHAG4n52oh0gcjcBCpJHPAUHFfDF7SXCuB8F7mTXoSFMv6G5XXWPJb","mhPQkokizxtvt6SqsN1u8GNxFyLnV4JDqOvCqHkJfKn7UuSMRlBef2d7jLMbcldpLnN2cCw7LhvuSIKx","2TXIFcv09Zog8MB1QcFYZE9zdmw37re5zTvxIiWykPLzOZj3WfSD9Zp6D5t1MriX2wCyDNbVYHFBqSl0","c0OCCtH0iKH4HiJzLMVwxzcgUOvTp3NwQflY"] [ART,xG,lh,xM,AG3,xA,ARY] (A4 AKv)
def jw(h:Int)(g:List Int×AE->AA (AE×List Int))(j:List Int×AE):AA (AE×(List Int)):=let (c,e):=j;bd (AKv e h) fun a=>br (a.snd==0) (some (e,c)) (gd (aO c+[a.snd].length<=lim) (g (c++[a.snd],a.fst)))
def AKw(c:AE)(a:Int):AA (AE×(List Int)):=bd (AQe c a) fun e=>BD (jw a) big ([],e)
def AHE:=gZ Zf AiM AbS ["HaS8yRsmM0JmfEARYzElrq9m2NHVTrXIA6OuuWbUgVQ0361lqIJm0HAMBKcN06LW1PrrcAcgJySxTYjP","ykd4fP7lWBUrNl"] [lj,AHD] (A4 AKw)
def AKx(h:AE)(e:Int):AA (AE×Int×(List Int)):=bd (ABb h) fun c=>bd (AXd h (B3.mk 7 e 0 0 0 0)) fun j=>br (j != 0) (some (c,j,[])) (bd (at? c.A9 e) fun G=>bd (at? c.A9 e) fun B=>br (B == -1) (bd (at? c.BB 0) fun H=>bd (at? c.BB 0) fun E=>bd (at? c.A9 e) fun I=>bd (at? c.A9 e) fun J=>gd ((0:Int)<=1/\1<=(↑c.BB.length:Int)) (some (AE.mk c.AQ c.Now c.A0 c.AG c.AH (an (c.BB.length-aY 1) (aP (aY 1) c.BB)) (c.A9.set e.toNat E),0,[]))) (bd (at? c.A9 e) fun L=>bd (at? c.A9 e) fun g=>bd (AKw c g) fun a=>bd (at? a.fst.A9 e) fun q=>bd (at? a.fst.A9 e) fun y=>some (AE.mk a.fst.AQ a.fst.Now a.fst.A0 a.fst.AG a.fst.AH a.fst.BB (a.fst.A9.set e.toNat (-1)),0,a.snd)))
def AHF:=gZ Zf AiN xc ["1WuTLriBsxT7x5fIDONQTChuk7swLnr4WcOfsdmz3Ybor4zZnDJAqZ5VfT2c5CKXn1gPr5F9o2KOEOn4","mZvtftBdXOh1FggNDW2Yil0hJ4lqZmU7QaIsEPJfL7Edrk5LXH2nzx33TbSyFgxl4VaaqTyqKbyVnDUD","89cUE9oQaotl2qTaUf8yd"] [ART,lV,AHE] (A4 AKx)
def jy(e:AE×B6):AA (AE×B6):=let (a,c):=e;some (a,c)
def AKy(c:AE)(a:B3):AA (AE×B6):=bd (AXd c a) fun h=>br (h != 0) (bd (ABb c) fun G=>some (G,B6.mk h [])) (br (a.Kind==1) (bd (rT c a.Id a.Ab a.Bu a.BE a.DJ) fun j=>jn jy (j.fst,B6.mk j.snd [])) (br (a.Kind==2) (bd (AKm c a.Id) fun q=>jn jy (q.fst,B6.mk q.snd [])) (br (a.Kind==3) (bd (AQk c a.Ab a.BE) fun y=>jn jy (y.fst,B6.mk y.snd [])) (br (a.Kind==4) (bd (AQn c a.Id) fun B=>jn jy (B.fst,B6.mk B.snd [])) (br (a.Kind==5) (bd (AKo c a.Id) fun E=>jn jy (E.fst,B6.mk E.snd [])) (br (a.Kind==6) (bd (AQo c) fun g=>jn jy (g.fst,B6.mk g.snd [])) (bd (AKx c a.Id) fun e=>jn jy (e.fst,B6.mk e.snd.fst e.snd.snd))))))))
def AHG:=gZ Aeg AiO ASn ["FC8eVl21vEH48fET8XQwlHLkTAgKXS1Xvvb1s6o27dxklaYLF6jtP4NY6U59ZtIgANr52PAPlwcEmHhk","PxIDIPwkt3ZUYjokVHdsgRM3lKNMKjuQrH52opPOdi8XAd6znoHHBO5HhBOaOwt2E31OFQzdaOvrx0fq","yz510ha97iaegMa8dGAjI3kuJviDmJbzV2dxzbzW76JczKV2WexbrYrXGrg86umQNJeiUh88qPaiCB6Y","CVPbhZowcdMj17y4nsDL1wPlpDhzBgEHj1kDZdnKHAcu04VLm3TqsSFA2smTkcnjuThJ2Xu5y4XsJhQn","KlyFc5hA1C7FFgZbEDWj0d8mPD3PpC3LA8exLVfHkLgVkKCFYbzQ4h0vxx0pZVf"] [lV,ART,AG2,AG7,lu,AHA,AHB,mC,AHF] (A4 AKy)
def AgS(e:List B6×AE):AA (AE×(List B6)):=let (a,c):=e;some (c,a)
def AeT(g:List B3)(j:List B6×Int×AE->AA (AE×List B6))(y:List B6×Int×AE):AA (AE×(List B6)):=let (a,c,h):=y;br (decide (c<g.length)) (bd (at? g c) fun q=>bd (AKy h q) fun e=>gd (aO a+[e.snd].length<=lim) (j (a++[e.snd],w64 (c+1),e.fst))) (jn AgS (a,h))
def AQq(a:AE)(c:List B3):AA (AE×(List B6)):=bd (ABb a) fun e=>BD (AeT c) big ([],0,e)
def mD:=gZ AHY ASg AbS ["XkUYuhB11B2iIsTdjVmPn6pBI3J0Q6a0f9GX5tVAEt5ja4sSGWWiQfrq4ThHA6GDawQovuz730jwYqnl","VrJBGoh7ufmdOod1NPe92XFJOpzJS9ITOBVYNgv5zY3QDFOPyvfVeRKMD4AKdNnLGXv6"] [ART,AHG] (A4 AQq)
end Lv
set_option maxRecDepth 100000
namespace Lv
open Go (IntKind BinOp UnOp)
open Y (YF qn qf qt qr q1 qd qm qa qo ql qL qb qi qx qp qq qc qz qe qk qK qB qw qu qj Kp wn wf wt w1 sw sq sr wm wM wo wO wl wL wk wK wz wZ wx wX wb wB wi wI wr wR wq wQ we wE wc wY wj wh cv ca cx cn ce bl)
def AQr(e:Ap)(g:B3):AA (Ap×B6):=bd (Np e g) fun c=>br (c.snd != 0) (some (c.fst,B6.mk c.snd [])) (bd (AKb c.fst) fun a=>bd (at? a.snd (w64 ((↑(aO a.snd):Int)-1))) fun j=>bd (at? a.snd (w64 ((↑(aO a.snd):Int)-1))) fun h=>some (a.fst,h))
def AHH:=gZ [.v (.st 11),.v (.st 0)] (.ret [(.st 11),(.st 12)]) [.cell 4 (some 23),.cell 5 (some 2)] ["2SGakYmoPtmfSZsSInJtukhfAf5MWLLiFxfzh4xim9jvmkC6yztbqPPVvsxQUitgAnxF8weJfLJ1AcTE","Ozf1VjPwhCyYTpzuTvzGWxUJ3yYklBqTp"] [LV,AGr] (A4 AQr)
def AcU(a:Bp)(c:Int)(e:Bool):AA (Bp×Bool):=br e (some (a,false)) (gd (0<=c/\c<=a.Data.length) (some (Bp.mk (aP c.toNat a.Data) (w64 ((↑a.Data.length:Int)-c)),true)))
def AKz(a:Bp)(c:Int):AA (Bp×Bool):=bd (cP a) fun e=>br (!e) (jn (AcU a c) true) (bd (Eh c 0 (↑a.Data.length:Int)) fun g=>br (!g) (jn (AcU a c) true) (jn (AcU a c) (decide (a.Safe<a.Data.length))))
def AHI:=gZ Aeh Sw xb ["nJG8iqEEDV12OETujzPAK6aevmxtT76kDAj028SZhd6hLRpu0VjBZTHSkqZ7I1Mp00iaDcJZSWjqtwn4","okBdp0Gg47M"] [Xg,Ho] (A4 AKz)
def AgT(a:BZ):AA BZ:=some a
def AK0(a:BZ)(e:Int)(c:Bp):AA BZ:=br (e.tmod 2==0) (jn AgT (BZ.mk a.Log c a.Odd)) (jn AgT (BZ.mk a.Log a.DW c))
def AHJ:=gZ [.v (.st 10),.v .i,.v (.st 9)] Abz [.cell 6 (some 6)] ["2aYTXsJhSEATDJlocnTP4Lw2hK1Co3XB7ba6jQBDkruV0Dp2"] [] (Gq AK0)
def Abl(e:Ap)(j:Int)(y:Bool×Ap×Bp):AA (Ap×Bool):=let (g,a,h):=y;br (!g) (bd (bC e) fun q=>some (q,false)) (bd (AK0 a.BH (w64 (1-j)) h) fun c=>some (Ap.mk a.BO c a.Seq a.Laid,true))
def Abu(a:Ap)(j:Int)(c:Ap)(H:Bool):AA (Ap×Bool):=br H (some (c,false)) (bd (bG a.BH) fun e=>br (decide (e<0)) (some (c,false)) (bd (AJ2 a.BH (w64 (1-e))) fun G=>br (j==0) (jn (Abl a e) (true,c,Bp.mk [] 0)) (br (j==1) (bd (ABA a.BO a.Seq) fun q=>bd (AJy G q) fun g=>jn (Abl a e) (g.snd,c,g.fst)) (br (j==2) (bd (AKa G) fun y=>jn (Abl a e) (true,c,y)) (bd (ABn a.BH e) fun B=>bd (AJo a.BH B.snd.fst) fun E=>bd (AKz a.BH.Log E) fun h=>jn (Abl a e) (h.snd,Ap.mk c.BO (BZ.mk h.fst c.BH.DW c.BH.Odd) c.Seq c.Laid,G))))))
def AQs(a:Ap)(c:Int):AA (Ap×Bool):=bd (bC a) fun e=>bd (uc a) fun h=>br (!h) (jn (Abu a c e) true) (br (decide ((↑a.Laid.length:Int)>0)) (jn (Abu a c e) true) (bd (Eh c 0 3) fun g=>jn (Abu a c e) (!g)))
def mE:=gZ [.v (.st 11),.v .i] AHa Agr ["UlUisAdLjedpfxOgrxtYh0Is7I5efHvXHcXuP7VC1nUUd4Kb9q3zjBqGU1pOfp3k0xB0RKf0n46hapXj","MfPRh4Fdv3GtaNW9mRMpM58HbqAj2okHKe2XW7slSYPNekQDkY2rJRcBJ8Nx5Gef4VzojoiPjzMPPeZz","Jnf2pEN3VsYhsKRLt8G616wwNBAC8G3yxusZJH8o749Nt3KeUZ6s6YAkHZqfv2Ct5xqom3MtmH3T6WZM","RCo7riPjCe29DLBthDWoQvSpoLpsX4qMIRHGt781ABeAzIKBRJKOlbMKJ9PEPkF6lXY4Ujad8mEnKbRz","YBJSQ2lIs59mWTn0M4xdVDWgREbWaIGCrY6pNjhhLOY0EHDF7J"] [ZT,sH,Ho,w5,AGH,AF1,AF9,AGq,AGI,ARN,AHI,AHJ] (A4 AQs)
def Abb(a:BZ):AA BZ:=some a
def gp(a:BZ)(e:Int)(c:Bp):AA BZ:=br (e.tmod 2==0) (jn Abb (BZ.mk a.Log c a.Odd)) (jn Abb (BZ.mk a.Log a.DW c))
def yl(a:Bp)(c:Int)(e:Bool):AA (Bp×Bool):=br e (some (a,false)) (gd (0<=c/\c<=a.Data.length) (some (Bp.mk (aP c.toNat a.Data) (w64 ((↑a.Data.length:Int)-c)),true)))
def Abo(a:Bp)(c:Int):AA (Bp×Bool):=bd (Pg a) fun e=>br (!e) (jn (yl a c) true) (bd (C5 c 0 (↑a.Data.length:Int)) fun g=>br (!g) (jn (yl a c) true) (jn (yl a c) (a.Safe != a.Data.length)))
def gA(e:Bool×Ap):AA (Ap×Bool):=let (a,c):=e;some (c,a)
def fw(c:Ap)(j:Int)(a:Ap)(h:Int)(I:Bool):AA (Ap×Bool):=br I (some (a,false)) (bd (bH c.BH (w64 (1-h))) fun H=>br (j==0) (bd (gp c.BH (w64 (1-h)) (Bp.mk [] 0)) fun J=>jn gA (true,Ap.mk a.BO J a.Seq a.Laid)) (br (j==1) (bd (AJi c.BO c.Seq) fun L=>bd (Abd H L) fun e=>bd (gp c.BH (w64 (1-h)) e.fst) fun q=>jn gA (e.snd,Ap.mk a.BO q a.Seq a.Laid)) (br (j==2) (bd (AJt H) fun y=>bd (gp c.BH (w64 (1-h)) y) fun B=>jn gA (true,Ap.mk a.BO B a.Seq a.Laid)) (bd (AKH c.BH h) fun E=>bd (AbW c.BH E.snd.fst) fun G=>bd (Abo c.BH.Log G) fun g=>jn gA (g.snd,Ap.mk a.BO (BZ.mk g.fst a.BH.DW a.BH.Odd) a.Seq a.Laid)))))
def Abn(a:Ap)(c:Int):AA (Ap×Bool):=bd (y2 a) fun g=>bd (AKI a.BH) fun e=>bd (AbR a) fun j=>br (!j) (jn (fw a c g e) true) (br (decide ((↑a.Laid.length:Int)>0)) (jn (fw a c g e) true) (bd (Mv c 4) fun h=>br (!h) (jn (fw a c g e) true) (jn (fw a c g e) (decide (e<0)))))
def AgU(a:Ap):AA (Ap×Bool):=some (a,true)
def AgV(h:Int)(g:Int×Ap->AA (Ap×Bool))(q:Int×Ap):AA (Ap×Bool):=let (a,c):=q;bd (ABE h 4) fun j=>br (decide (a<j)) (bd (AQs c a) fun e=>br (!e.snd) (some (c,false)) (g (w64 (a+1),e.fst))) (jn AgU c)
def AQt(a:Ap)(c:Int):AA (Ap×Bool):=bd (bC a) fun e=>BD (AgV c) big (0,e)
def AHK:=gZ [.v (.st 11),.v .i] AHa Agr ["Bqd0PbCYgaSE5MFjkTq8ASVCTmxH5v3Eu9LijXP6hbK97Hio8AUThwnsAy4G4RFYcAGoa4EcUonsvVku","yOVtg9GXPkDEW2Z7gvTKcKkxuvHhMHU49"] [ZT,vu,mE] (A4 AQt)
def AK1(a c e:Int):AA Int:=some (if false=true then if e>if true=true then if c>a then c else a else if c<a then c else a then e else if true=true then if c>a then c else a else if c<a then c else a else if e<if true=true then if c>a then c else a else if c<a then c else a then e else if true=true then if c>a then c else a else if c<a then c else a)
def AHL:=gZ ASW C9 Ui ["tTZpbBNTiNJWE6B"] [] (Gq AK1) [.mm 9 true (.tmp 7) (.tmp 8),.mm 11 false (.tmp 9) (.tmp 10)]
def AeU(a:Int×List Br×Int->AA (List Br))(c:Int)(h:Int×List Br):AA (List Br):=let (e,g):=h;a (e,g,w64 (c+1))
def AeV(a:List Br):AA (List Br):=some a
def AgW(c:List Br)(q:Int×List Br×Int->AA (List Br))(E:Int×List Br×Int):AA (List Br):=let (h,e,a):=E;br (decide (a<c.length)) (bd (at? c a) fun y=>br (decide (y.Seq<=h)) (jn (AeU q a) (h,e)) (bd (at? c a) fun B=>br (w64 (B.Seq-1) != h) (jn AeV e) (bd (at? c a) fun j=>bd (at? c a) fun g=>gd (aO e+[g].length<=lim) (jn (AeU q a) (j.Seq,e++[g]))))) (jn AeV e)
def AK2(a:List Br)(c:Int):AA (List Br):=BD (AgW a) big (c,[],0)
def AHM:=gZ [.v (.l (.st 15)),.v .i] AfO Ca ["3dlxi5O6tTqOlorkX1zcl95SWXWKAyN5qlL24hTIb2Ca24T5fXodnCSaNDXkwBSuq89jfmHPZ6xSSS8F","FufwsgY6xCpj7UCSOdSIp2vOLLau6IPD8s8Z86gr0r"] [] (A4 AK2)
def AeW(c:BZ)(h:Int)(g:Bool):AA (AE×Int×Bool):=br g (some (AE.mk (Aa.mk [] 0 0 0 0 0 0 0 0) 0 0 [] [] [] [],0,false)) (bd (ABn c h) fun a=>bd (gF c.Log.Data) fun j=>bd (AK2 j a.snd.fst) fun q=>bd (qH q) fun e=>bd (AKW a.fst e) fun y=>some (y.fst,w64 (a.snd.fst+(↑(aO e):Int)),true))
def AK3(a:BZ):AA (AE×Int×Bool):=bd (bG a) fun c=>bd (ANJ a) fun e=>br (!e) (jn (AeW a c) true) (jn (AeW a c) (decide (c<0)))
def AHN:=gZ Ma Acx AfT ["5hVKygyIdCmT4TuItnZfqwKcvEdxlKBKBaWRcsnoAdQjxr6ELSdU6mQvfzCsHS0tZMoCjtSwN6rTjGvP","WcdwkvvANcTpOFmc1CyFg01mQIHF7QQRmUgzPBsJYQE8kdvLkIP8mmkVy"] [w5,ADU,AGI,AF3,AHM,AF6,AGm] (Bc AK3)
def AK4(a:Bp):AA Bool:=some (a.Safe==a.Data.length)
def AHO:=gZ mI C1 DA ["3MpgJQ6pz6Hxpr76"] [] (Bc AK4)
def MJ(a:Bool):AA Bool:=some a
def AK5(a:BZ):AA Bool:=bd (AK4 a.Log) fun c=>br c (bd (AK4 a.DW) fun e=>br e (bd (AK4 a.Odd) fun g=>jn MJ g) (jn MJ false)) (jn MJ false)
def AHP:=gZ Ma C1 DA ["3L2uYbhIzv2VHbsvwnqDAcZVBFHauizFyn"] [AHO] (Bc AK5)
def AeY(g:List Br)(h:Int×Int×Int->AA Int)(c a:Int):AA Int:=bd (at? g c) fun j=>bd (at? g c) fun e=>h (a,e.Next,w64 (c+1))
def AgX(a:Int):AA Int:=some a
def AeZ(c:List Br)(B:Int×Int×Int->AA Int)(I:Int×Int×Int):AA Int:=let (e,g,a):=I;br (decide (a<(aO c))) (bd (at? c a) fun E=>bd (at? c a) fun h=>br (decide (h.Seq>w64 (e+1))) (some g) (bd (at? c a) fun G=>bd (at? c a) fun j=>br (j.Seq==w64 (e+1)) (bd (at? c a) fun H=>bd (at? c a) fun q=>bd (AJz q.Body) fun y=>br (!y.snd) (some g) (jn (AeY c B a) (w64 (e+1)))) (jn (AeY c B a) e))) (jn AgX g)
def AeX(a:BZ)(e:Int)(c:Bool):AA Int:=br c (some 0) (bd (ABn a e) fun g=>bd (gF a.Log.Data) fun h=>BD (AeZ h) big (g.snd.fst,0,0))
def bM(a:BZ):AA Int:=bd (bG a) fun c=>bd (ANJ a) fun e=>br (!e) (jn (AeX a c) true) (jn (AeX a c) (decide (c<0)))
def Za:=gZ Ma C9 DA ["y9YS9WXHw5mfV96LgR1qPHUpazHABKKX0O3XJZAnKDy1tixvfAlaToRRLt2n9NZ6OR0ZizKNIbox23Op","ZEnYgydHwctTy9KEQhaoQLCB0ETLOnzG4A3Fo1yyVIll4V5lVyfFUJujrkwpOnSv2TVrnn8VDytNAQkd","kYsbTnhEIMRTPCXGGUD66dBth0k1TgnWjHC8fdm5XvLqorkJU5RLg3CO6Ta01EfgsSleXsS"] [w5,ADU,AGI,AF3,AGD] (Bc bM)
def Aea(a:Bp)(c:Int)(e:Bool):AA (Bp×Bool):=br e (some (a,false)) (gd (0<=c/\c<=a.Data.length) (bd (ABE a.Safe c) fun g=>some (Bp.mk (an c.toNat a.Data) g,true)))
def AK6(a:Bp)(c:Int):AA (Bp×Bool):=bd (cP a) fun e=>br (!e) (jn (Aea a c) true) (bd (Eh c 0 (↑a.Data.length:Int)) fun g=>jn (Aea a c) (!g))
def ARr:=gZ Aeh Sw xb ["B4qzPrvcvUsZa6ZaaXGKq2SCv6GJSrBpnyzrEsSj7FIOMPoP9nUttYNmwsySkpPVoP3zlMr"] [Xg,Ho,vu] (A4 AK6)
def Aeb(a:BZ)(e:AE×Int×Bool)(h:Bool):AA (Ap×Bool):=br h (some (Ap.mk (AE.mk (Aa.mk [] 0 0 0 0 0 0 0 0) 0 0 [] [] [] []) (BZ.mk (Bp.mk [] 0) (Bp.mk [] 0) (Bp.mk [] 0)) 0 [],false)) (bd (bM a) fun g=>bd (AK6 a.Log g) fun c=>bd (AK6 a.Log g) fun j=>PQ c.fst j.fst (bd (bM a) fun q=>bd (AK6 a.Log q) fun y=>PQ c.fst y.fst (bd (AKa c.fst) fun B=>some (Ap.mk e.fst (BZ.mk B a.DW a.Odd) e.snd.fst [],true))))
def AK7(a:BZ):AA (Ap×Bool):=bd (AK3 a) fun c=>br (!c.snd.snd) (jn (Aeb a c) true) (bd (AK5 a) fun e=>jn (Aeb a c) (!e))
def ARs:=gZ Ma AHa mK ["ISlFfvA1EcqG4iW191NA6DfOwfMCno7YrDRt5kVHF6OkiHOemgM7IywSG3c4Ahu9bimweYJ1GnLOTPP8","FZuHqWGK0WqksBn6ELmPoPs0eYjkaLX8HY2bZiWuYmM8FLB3fAfuVi6Lkbnm1YcXBWTnXArWbJeY69q2","4FKvj1bWeOrwIL0sFCKWfoJzoxDTornr89fJTNZJuBF5d417l5yPZ3xJdBxAdGyaPQp2NYFcKayWb"] [AHN,AHP,Za,ARr,AGq] (Bc AK7)
def XI(c:BZ)(h:Int)(g:Bool):AA (AE×Int×Bool):=br g (some (AE.mk (Aa.mk [] 0 0 0 0 0 0 0 0) 0 0 [] [] [] [],0,false)) (bd (AKH c h) fun a=>bd (ABH c.Log.Data) fun j=>bd (rI j a.snd.fst) fun q=>bd (gK q) fun e=>bd (AQq a.fst e) fun y=>some (y.fst,w64 (a.snd.fst+(↑(aO e):Int)),true))
def AK8(a:BZ):AA (AE×Int×Bool):=bd (AKI a) fun c=>bd (AA0 a) fun e=>br (!e) (jn (XI a c) true) (jn (XI a c) (decide (c<0)))
def ARt:=gZ Ma Acx AfT ["EjrF0zq5eO7JZiLuOAMSOqfzbb6j5qpc2vh7jsgHW94gz5AUSVBt6lggThTcnCAKU0WscW1bm62k2ZhL","yhdFEGuGFRCKgTz5jg7iR5PCEaVGEurm5dQSSqsQ6FRfyVLAAodFSeTNWcbCRC3AjP"] [ARe,vn,ARd,AF5,lO,vz,mD] (Bc AK8)
def ACs(a:Bool):AA Bool:=some a
def AK9(a:BZ):AA Bool:=br (a.Log.Safe==a.Log.Data.length) (br (a.DW.Safe==a.DW.Data.length) (jn ACs (a.Odd.Safe==a.Odd.Data.length)) (jn ACs false)) (jn ACs false)
def ARu:=gZ Ma C1 DA ["70ZgM5bYj0mJMx6taWXe0y7SlLPBb5f3VuEWNdGoTd4iZGHBP7hbBZhJhlKJhVDuT9KwCTwAuwuej"] [] (Bc AK9)
def Aec(a:Int):AA Int:=some a
def Aed(g:Int×Int×Int->AA Int)(a:Int)(e:Br)(c:Int):AA Int:=g (c,e.Next,w64 (a+1))
def Ps(h:Int×Int×Int->AA Int)(j a c:Int)(g:Br)(e:Bool):AA Int:=br e (jn Aec a) (jn (Aed h c g) (w64 (j+1)))
def AgY(q:AE×Int×Bool)(j:List Br)(h:Int×Int×Int->AA Int)(B:Int×Int×Int):AA Int:=let (g,e,a):=B;br (decide (a<(aO j))) (bd (at? j a) fun y=>bd (at? j a) fun c=>br (decide (c.Seq>g)) (br (c.Seq != w64 (g+1)) (jn (Ps h g e a c) true) (jn (Ps h g e a c) (decide (c.Seq>q.snd.fst)))) (jn (Aed h a c) g)) (jn Aec e)
def ra(a:BZ):AA Int:=bd (AK8 a) fun e=>br (!e.snd.snd) (some 0) (bd (AKI a) fun g=>bd (AKH a g) fun c=>bd (AKH a g) fun h=>eqv c.snd.fst h.snd.fst (Jz c.fst h.fst (bd (AKI a) fun q=>bd (AKH a q) fun j=>eqv c.snd.fst j.snd.fst (Jz c.fst j.fst (bd (ABH a.Log.Data) fun y=>BD (AgY e y) big (c.snd.fst,0,0))))))
def ARv:=gZ Ma C9 DA ["5U1a86VBxBXH5bVyB7h88DLt1HARd9eBSMN5rNoWJXmbaY1AbUH3LTbGRLuApmMTySDqlrAnGNM1wwGm","C5LasJAOYQ67xWxImzDE10GbO4su4H4r76kVpYsNOvJKrBGUw0IBd5BfQDCf3RqA3rbbLTMTmzI55bj6","VbaWMC49qqoUkvsIfOWbP10ugIcJ55zJjvo4yRkBFiFx5ABxBCUMgJeD8YynU7r4YnGAQtfDb3KMKcVu","ydMVOyU0fCcxpj7fAFdVQvfMyhayFWTu9x56RDWq9bWoXZOW69bQvzHuUU5wz"] [ARt,ARe,ARd,AF5] (Bc ra)
def ACt(a:Bp)(c:Int)(e:Bool):AA (Bp×Bool):=br e (some (a,false)) (gd (0<=c/\c<=a.Data.length) (some (Bp.mk (an c.toNat a.Data) (if false=true then if c>a.Safe then c else a.Safe else if c<a.Safe then c else a.Safe),true)))
def rb(a:Bp)(c:Int):AA (Bp×Bool):=bd (Pg a) fun e=>br (!e) (jn (ACt a c) true) (bd (C5 c 0 (↑a.Data.length:Int)) fun g=>jn (ACt a c) (!g))
def ARw:=gZ Aeh Sw xb ["4PHX0ZXZKFpMo6aDBapSYVZuhuqamCwDhA0m9kVj5D9yrQ1JB1uBsBAJDirW8nn4dBVbcZ"] [Qt,Et] (A4 rb) [.mm 25 false (.tmp 23) (.tmp 24)]
def XJ(a:BZ)(e:AE×Int×Bool)(h:Bool):AA (Ap×Bool):=br h (some (Ap.mk (AE.mk (Aa.mk [] 0 0 0 0 0 0 0 0) 0 0 [] [] [] []) (BZ.mk (Bp.mk [] 0) (Bp.mk [] 0) (Bp.mk [] 0)) 0 [],false)) (bd (ra a) fun g=>bd (rb a.Log g) fun c=>bd (rb a.Log g) fun j=>PQ c.fst j.fst (bd (ra a) fun q=>bd (rb a.Log q) fun y=>PQ c.fst y.fst (bd (AJt c.fst) fun B=>some (Ap.mk e.fst (BZ.mk B a.DW a.Odd) e.snd.fst [],true))))
def ALA(a:BZ):AA (Ap×Bool):=bd (AK8 a) fun c=>br (!c.snd.snd) (jn (XJ a c) true) (bd (AK9 a) fun e=>jn (XJ a c) (!e))
def ARx:=gZ Ma AHa mK ["KsWxach1OYzttAU5ekDNfL2rRoEqchObnOH21LFaZpmR3ABgTWTNcDKI5VCtOUJdOwEyj82yCrcKhxeW","4yQ3Up9Qe8mdGsCFN8P1O5gcTKKgL2T0sarhBYQSRbwAL4JB7SrCVs36kY8LwrJdurNBtOYdu2FvS0rF","oQ8HpRG3nopgsE9mrF0ACsZKYXvonUb3e7sxR73palta1zegi9L"] [ARt,ARu,ARv,ARw,ARP] (Bc ALA)
end Lv
set_option maxRecDepth 100000
namespace Lv
open Go (IntKind BinOp UnOp)
open Y (YF qn qf qt qr q1 qd qm qa qo ql qL qb qi qx qp qq qc qz qe qk qK qB qw qu qj Kp wn wf wt w1 sw sq sr wm wM wo wO wl wL wk wK wz wZ wx wX wb wB wi wI wr wR wq wQ we wE wc wY wj wh cv ca cx cn ce bl)
def AcW(e:Int×Ax×Ap->AA (Ap×Ax))(g:Int)(h:Ax×Ap):AA (Ap×Ax):=let (a,c):=h;e (w64 (g+1),a,c)
def AcV(q:Int×Ax×Ap->AA (Ap×Ax))(y:Int)(B:Ax×Ap):AA (Ap×Ax):=let (g,c):=B;bd (AJ5 g 8) fun a=>br a.fst (bd (AKb c) fun h=>bd (ABs a.snd 5) fun e=>bd (AQt h.fst e.fst) fun j=>jn (AcW q y) (e.snd,j.fst)) (jn (AcW q y) (a.snd,c))
def Sd(j:Int×Ax×Ap->AA (Ap×Ax))(q:Int)(y:Ap)(B:Ax×B3):AA (Ap×Ax):=let (e,c):=B;bd (AJ5 e 5) fun a=>br a.fst (bd (Np y c) fun g=>jn (AcV j q) (a.snd,g.fst)) (bd (AQr y c) fun h=>jn (AcV j q) (a.snd,h.fst))
def Aga(e:Ax×Ap):AA (Ap×Ax):=let (a,c):=e;some (c,a)
def Aee(j:Int×Ax)(h:Int×Ax×Ap->AA (Ap×Ax))(y:Int×Ax×Ap):AA (Ap×Ax):=let (c,e,a):=y;br (decide (c<j.fst)) (bd (AJ8 e a.BO) fun g=>bd (Np a g.fst) fun q=>h (w64 (c+1),g.snd,q.fst)) (jn Aga (e,a))
def AgZ(g:Ax×Ap):AA (Ap×Ax):=let (c,e):=g;bd (ABs c 4) fun a=>BD (Aee a) big (0,a.snd,e)
def Agb(y:Int×Ax)(h:Int×Ax×Ap->AA (Ap×Ax))(B:Int×Ax×Ap):AA (Ap×Ax):=let (e,j,a):=B;br (decide (e<y.fst)) (bd (AJ8 j a.BO) fun q=>bd (AJ5 q.snd 2) fun g=>br g.fst (bd (ACG g.snd a.BO) fun c=>jn (Sd h e a) (c.snd,c.fst)) (jn (Sd h e a) (g.snd,q.fst))) (jn AgZ (j,a))
def ALB(e:Ax):AA (Ap×Ax):=bd (rH e) fun a=>bd (ABM a.fst) fun g=>bd (ABs a.snd 14) fun c=>BD (Agb c) big (0,c.snd,g.fst)
def ARy:=gZ AbY (.ret [(.st 11)]) [.cell 2 (some 23)] ["3DhKSsCHRRZ9XHq0FAhNXRfCIcOrdLqTaWWtpENs2yKl2epSIcd6RhWFn2pmVePW0nS1UIbmKhrlgMoI","dImLNJEJghmfWsPXtilBL2ICBh1wbyXrX60PjzwPZOBcmj1PQ1dnOZntk165zNp13hQOWvsSN8geaqEz","eAAFPyQqToZTMDfyZPsSP15XhcVgi5eCZvlgKjoT18YaRtqaOAJPWXukPovdYikDk00tD2nfeWeHirw6","G6P0dg3lfHvTP8dZXkBfBW51i2brStUIdpEzmrTPvTXuxMymebQXcCnUim0Qx8lfRDZg9YT8gTfkp"] [wS,wD,ARU,AGL,ARV,ARh,LV,AHH,AGr,AHK] (Bc ALB)
def bN(e:Ax)(a:List (List UInt8)):AA ((List UInt8)×Ax):=bd (ABs e (↑a.length:Int)) fun c=>bd (at? a c.fst) fun g=>some (g,c.snd)
def ARz:=gZ [.b (.st 17),.v (.l .s)] AbN Ca ["3DVJHWauNmkufeIqNcgRcRm"] [ARU] (A4 bN)
def AeS(g:List UInt8×Int×Int×Ax->AA (List UInt8×Ax))(h:Int)(j:List UInt8×Int×Ax):AA ((List UInt8)×Ax):=let (a,c,e):=j;g (a,c,w64 (h+1),e)
def AgQ(j:List UInt8×Ax):AA ((List UInt8)×Ax):=let (a,h):=j;bd (ABs h 4) fun c=>br (c.fst==0) (bd (ABs c.snd (w64 ((↑(aO a):Int)+1))) fun e=>gd (0<=e.fst/\e.fst<=(aO a)) (some (an (aY e.fst) a,e.snd))) (br (c.fst==1) (bd (Po c.snd a) fun g=>some (g.fst,g.snd)) (some (a,c.snd)))
def AgR(G:Int×Ax)(j:List UInt8×Int×Int×Ax->AA (List UInt8×Ax))(H:List UInt8×Int×Int×Ax):AA ((List UInt8)×Ax):=let (g,q,h,y):=H;br (decide (h<G.fst)) (bd (ABs y 6) fun B=>bd (AB2 B.snd (w64 (1+B.fst))) fun E=>bd (AJx q E.fst) fun a=>gd (aO g+aO a<=Mn) (bd (AJ5 E.snd 8) fun c=>br c.fst (bd (ABs c.snd 6) fun e=>jn (AeS j h) (g++a,w64 (1+e.fst),e.snd)) (jn (AeS j h) (g++a,w64 (q+1),c.snd)))) (jn AgQ (g,y))
def jg(e:Ax):AA ((List UInt8)×Ax):=bd (ABs e 5) fun a=>bd (ABs a.snd 4) fun c=>BD (AgR a) big ([],w64 (1+c.fst),0,c.snd)
def xK:=gZ AbY AbN DA ["6pERHHO04p3RTNglXw7A4OVhYCL0fU3xGLELCuMHGXPuYDoLnsdhCyiUXKnR9yELK6UIPrd1Pn4A8zMd","nzSYwnfsA2FAczibDjiFb30JDV0Apzl54jJzOGRtUx4Qx3WqER7Wm4VwOnRRT08NnuRGD4cu8ZqbMbZa","dZ5rgbAGb0ysJEKHDYug"] [ARU,wa,ARS,ARV,VR] (Bc jg)
def AcS(g:List UInt8×Ax):AA (Bp×Ax):=let (a,e):=g;bd (ABs e (w64 ((↑(aO a):Int)+1))) fun c=>some (Bp.mk a c.fst,c.snd)
def AKp(g:Ax):AA (Bp×Ax):=bd (bN g ([[],[97],[115,111,109,101,32,98,121,116,101,115],[0,1,2,3]])) fun c=>bd (AJ5 c.snd 3) fun a=>br a.fst (bd (jg a.snd) fun e=>jn AcS (e.fst,e.snd)) (jn AcS (c.fst,a.snd))
def ARj:=gZ AbY Sv Zp ["8OfPFfrpMfbLlkLkch5L9g0gDFfrl9GwpFVDoICxL0kLjvQS9jHZygZ3pFoVfOcpIBxn3"] [ARz,ARV,xK,ARU] (Bc AKp)
def AcT(e:Ax×Bp):AA (Bp×Ax):=let (a,c):=e;some (c,a)
def jh(a:Bp×Ax)(c:Int×Ax)(e:Bool):AA (Bp×Ax):=br e (jn AcT (c.snd,Bp.mk a.fst.Data (↑a.fst.Data.length:Int))) (jn AcT (c.snd,a.fst))
def AKq(g:Ax):AA (Bp×Ax):=bd (AKp g) fun c=>bd (ABs c.snd 12) fun a=>br (a.fst==0) (bd (AJ9 a.snd ([-1,w64 ((↑c.fst.Data.length:Int)+1),9223372036854775807,-9223372036854775808])) fun e=>jn AcT (e.snd,Bp.mk c.fst.Data e.fst)) (br (a.fst==1) (jn (jh c a) (a.fst==1)) (br (a.fst==2) (jn (jh c a) (a.fst==2)) (jn (jh c a) (a.fst==3))))
def ARk:=gZ AbY Sv Zp ["7MyOxfhrC6jHvKpP0bHdzELvEAVTr3nK6TYT1kjG0pO5rSiuBL4wGhONc6pcOU7sysK4LU3xAE7d0RNG","WKtfwwGkZafiaxhjDJGlsksifrRK53Pf1wH6f"] [ARj,ARU,wT] (Bc AKq)
def AKr(g:Ax):AA (BZ×Ax):=bd (AKq g) fun a=>bd (AKq a.snd) fun c=>bd (AKq c.snd) fun e=>some (BZ.mk a.fst c.fst e.fst,e.snd)
def ARl:=gZ AbY Abz AfU ["ov14Q6fLaBV4PhBIIQc87YKcFVMC"] [ARk] (Bc AKr)
def AbX(e:Ax×BZ):AA (BZ×Ax):=let (a,c):=e;some (c,a)
def ACi(j:Ax):AA (BZ×Ax):=bd (ALB j) fun a=>bd (ABs a.snd 8) fun c=>br (c.fst==0) (bd (Po c.snd a.fst.BH.DW.Data) fun e=>jn AbX (e.snd,BZ.mk a.fst.BH.Log (Bp.mk e.fst a.fst.BH.DW.Safe) a.fst.BH.Odd)) (br (c.fst==1) (jn AbX (c.snd,BZ.mk a.fst.BH.Log a.fst.BH.DW a.fst.BH.DW)) (br (c.fst==2) (bd (ABs c.snd (w64 ((↑a.fst.BH.DW.Data.length:Int)+1))) fun g=>jn AbX (g.snd,BZ.mk a.fst.BH.Log (Bp.mk a.fst.BH.DW.Data g.fst) a.fst.BH.Odd)) (br (c.fst==3) (bd (AKr c.snd) fun h=>jn AbX (h.snd,h.fst)) (br (c.fst==4) (jn AbX (c.snd,BZ.mk a.fst.BH.Log a.fst.BH.DW (Bp.mk a.fst.BH.Odd.Data (-1)))) (jn AbX (c.snd,a.fst.BH))))))
def ARm:=gZ AbY Abz AfU ["jZmtgi30CaWW7wQBgAZHmJMceBJgOFus4XxNJw2k1hadTZ4RzneoURKYGpgwCFa0QIEbgPnHfUC4jOuX","l1b0kVT6nrWNrICmi3IgeGclUGz4loRsWQ2LtqS3mFx90LYFgQ6jQkRYI7gufOAKBNq1zwLvFK62NI4x","QXjRLo9"] [ARy,ARU,VR,ARl] (Bc ACi)
def AKs(a:List Int)(c:Int):AA Int:=br (decide (c<a.length)) (bd (at? a c) fun e=>some e) (some 0)
def ARn:=gZ sK C9 Ca ["43JCkYhS1EhGaE2kgEj0SzO"] [] (A4 AKs)
def ACj(a:Bp)(e:Int):AA Bp:=bd (cP a) fun g=>br (!g) (some a) (bd (ABE e (w64 ((↑a.Data.length:Int)-a.Safe))) fun h=>bd (OL 0 h) fun c=>gd (0<=w64 (a.Safe+c)/\w64 (a.Safe+c)<=a.Data.length) (some (Bp.mk (an (w64 (a.Safe+c)).toNat a.Data) (w64 (a.Safe+c)))))
def ARo:=gZ Aeh Sv AfS ["JhhzbqsczfN3fo2AVxgWD7EHnJXGfEYittcHOSmOXMzsdk5w759mpv5fw8QyjFr0RUcXVh"] [Xg,vu,bV] (A4 ACj)
def rY(a:BZ)(c:List Int):AA BZ:=bd (AKs c 0) fun e=>bd (ACj a.Log e) fun g=>bd (AKs c 1) fun h=>bd (ACj a.DW h) fun j=>bd (AKs c 2) fun q=>bd (ACj a.Odd q) fun y=>some (BZ.mk g j y)
def ARp:=gZ [.v (.st 10),.v (.l .i)] Abz AfR ["EzPXgP0obzM2mTjeqcMPKuat7lzMiwGadEFoAex8IfMOoP4H9IkqQf0r2chJZ2dXBUb151lnhm"] [ARn,ARo] (A4 rY)
def rZ(a:Bp)(e:Int):AA Bp:=bd (Pg a) fun g=>br (!g) (some a) (bd (AK1 e 0 (w64 ((↑a.Data.length:Int)-a.Safe))) fun c=>gd (0<=w64 (a.Safe+c)/\w64 (a.Safe+c)<=a.Data.length) (some (Bp.mk (an (w64 (a.Safe+c)).toNat a.Data) (w64 (a.Safe+c)))))
def ARq:=gZ Aeh Sv AfS ["Snik2xoYO0jB7tGiS3Gf5DGKXHazZoHo6rlQ85iP2K98p6wfz06qHblSr5jXHyRsUpL"] [Qt,AHL] (A4 rZ)
def ACl(c:BZ)(a:List Int):AA BZ:=bd (at? (an (dj (aY 3) 0).length a++aP a.length (dj (aY 3) 0)) 0) fun B=>bd (at? (an (dj (aY 3) 0).length a++aP a.length (dj (aY 3) 0)) 0) fun e=>bd (at? (an (dj (aY 3) 0).length a++aP a.length (dj (aY 3) 0)) 1) fun E=>bd (at? (an (dj (aY 3) 0).length a++aP a.length (dj (aY 3) 0)) 1) fun g=>bd (at? (an (dj (aY 3) 0).length a++aP a.length (dj (aY 3) 0)) 2) fun G=>bd (at? (an (dj (aY 3) 0).length a++aP a.length (dj (aY 3) 0)) 2) fun h=>bd (rZ c.Log e) fun j=>bd (rZ c.DW g) fun q=>bd (rZ c.Odd h) fun y=>some (BZ.mk j q y)
def xL:=gZ [.v (.st 10),.v (.l .i)] Abz AfR ["1f4zt3OwC60AOTJjiSNpmE8AyF7NluZdgGboylgdSAp4IV6IFqSRM39zWOVfEGr4U0G8todeJw2O9Nft","RaIEpYIL"] [ARq] (A4 ACl) [.Ry 6 .i (.k (.int .i64 3)),.cpy 9 .i (.tmp 7) (.tmp 8)]
end Lv
set_option maxRecDepth 100000
namespace Lv
open Go (IntKind BinOp UnOp)
open Y (YF qn qf qt qr q1 qd qm qa qo ql qL qb qi qx qp qq qc qz qe qk qK qB qw qu qj Kp wn wf wt w1 sw sq sr wm wM wo wO wl wL wk wK wz wZ wx wX wb wB wi wI wr wR wq wQ we wE wc wY wj wh cv ca cx cn ce bl)
end Lv
