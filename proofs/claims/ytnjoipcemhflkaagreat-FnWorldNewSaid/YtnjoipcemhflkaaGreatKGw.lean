/- Functions of the program as typed texts and as plain functions. -/
import Derived.Test.YtnjoipcemhflkaaGreatKEw
open Int renaming toNat->aQ
open List renaming length->an,take->ae,drop->aq,replicate->aR
noncomputable section
set_option linter.unusedVariables false
set_option linter.unusedSimpArgs false
set_option linter.unusedSectionVars false
set_option maxRecDepth 100000
namespace Lv
open Go (IntKind BinOp UnOp)
open Y (YF qn qf qt qr q1 qd qm qa qo ql qL qb qi qx qp qq qc qz qe qk qK qB qw qu qj Kp wn wf wt w1 sw sq sr wm wM wo wO wl wL wk wK wz wZ wx wX wb wB wi wI wr wR wq wQ we wE wc wY wj wh cv ca cx cn ce bl)
def ACK(a:(C.l (.st 2)).D)(c:Int)(e:(C.l (.st 2)).D):AA (C.l (.st 2)).D:=pI (.st 2) a c e
def w9:GF:=AYP (.st 2) rfl
def AKL(a:(C.l (.st 4)).D)(c:Int)(e:(C.l (.st 4)).D):AA (C.l (.st 4)).D:=pI (.st 4) a c e
def AGW:GF:=AYP (.st 4) rfl
def AKM(a:(C.l (.st 4)).D)(c e:Int):AA (C.l (.st 4)).D:=ADE (.st 4) a c e
def AGX:GF:=AYF (.st 4) rfl rfl
def AKN(a:(C.l (.st 5)).D)(c e:Int):AA (C.l (.st 5)).D:=ADE (.st 5) a c e
def AGY:GF:=AYF (.st 5) rfl rfl
def SR(a:(C.l (.st 2)).D)(c e:Int):AA (C.l (.st 2)).D:=ADE (.st 2) a c e
def O0:GF:=AYF (.st 2) rfl rfl
def AlE(a:Bp):AA Bp:=some a
def Aky(a:Bp):AA Bp:=bd (cP a) fun c=>br c (jn AlE (Bp.mk a.Data (↑a.Data.length:Int))) (jn AlE a)
def Alp(a:Ap):AA (Ap×(List B6)):=bd (ch a) fun c=>bd (uc a) fun g=>br (!g) (some (c,[])) (bd (MG a.BO a.Laid) fun e=>bd (Aky a.BH.Log) fun h=>some (Ap.mk e.fst (BZ.mk h c.BH.DW c.BH.Odd) c.Seq [],e.snd))
def bF(a:AU)(c:Int):AA Bool:=some (a.Id==c)
def wu:=gZ [.v (.st 2),.p .i] C1 [.tmp 3] ["YWeGC7BUH5M4zIf"] [] (A4 bF)
def AsH:YF:=⟨[wu],[.v (.l (.st 2)),.f wu.x [(true,.i)]],[0],.ret [.i],[.tmp 4],dY ["1B9XkG1gwKws8OEEkxvTaCXMveeLZW1c0NHK6ksyl6TKxUzTenBtv8xJZGQtLO8Ey"] [] [.D2 16 (.tmp 11) [.v,.p] [.tmp 15]]⟩
def Aop(_:PUnit):AA Int:=some (-1)
def Aoq(e:List AU)(a:Int)(g:Int->AA Int)(c:Int):AA Int:=br (decide (c<e.length)) (bd (at? e c) fun h=>bd (bF h a) fun j=>br j (some c) (g (w64 (c+1)))) (jn Aop ())
def Wv(c:List AU)(a:Int):AA Int:=BD (Aoq c a) big 0
def Sq:GF:=AsH.gf rfl rfl (fun a=>Wv a.1 a.2.1.1) (fun a=>by kernel_rfl)
def AsI:YF:=⟨[wu],[.v (.l (.st 2)),.v .i],[],.ret [.i],[.tmp 4],dY ["K4Xqea9ZXQqlp"] [] [.NC 6 0 [.tmp 3],.call 7 Sq [0] rfl [.tmp 5,.tmp 6]]⟩
def AKC(a:List AU)(c:Int):AA Int:=bd (Wv a c) fun e=>some e
def AGM:GF:=AsI.EI (A4 AKC)
def AKD(a:AE)(c:Int):AA Int:=bd (AKC a.AG c) fun e=>some e
def AGN:=gZ AHV C9 Ca ["1tuGEsHq2Wa0tcL"] [AGM] (A4 AKD)
def AKE(a:AE)(c:Int):AA Int:=bd (at? a.AH c) fun e=>bd (at? a.AH c) fun g=>some (w64 (e.AY.Fm-g.AY.F8))
def AGO:=gZ AHV C9 Ca ["qK4zhGmVcMp52EdBgxQqaRhGBQ75yfogO1z1"] [] (A4 AKE)
def iV(a:Bool):AA Bool:=some a
def rJ(a:AU)(c:Int):AA Bool:=br (a.State==2) (jn iV (decide (a.C7<=c))) (jn iV false)
def wv:=gZ AbY C1 Ca ["xt00o4nzXRXi8x73FCCmrcjxM51"] [] (A4 rJ)
def AkB(_:PUnit):AA Int:=some 0
def Am9(c:AE)(a:Bool):AA Int:=br a (some 10) (br (decide (c.A0>1000000)) (some 11) (jn AkB ()))
def AcI(a:AE)(c:B3)(g:Bool):AA Int:=br g (some 4) (bd (C5 c.BE 1 a.AQ.BE) fun h=>br (!h) (some 5) (br (decide (c.DJ>=a.AQ.CS)) (some 6) (bd (C5 c.Id 1 999) fun j=>br (!j) (some 7) (bd (AKD a c.Id) fun q=>br (decide (q>=0)) (some 8) (bd (po a.AG c.Ab) fun y=>br (decide (y>=a.AQ.Room)) (some 9) (br (c.Bu != -1) (bd (AKE a c.Bu) fun e=>jn (Am9 a) (decide (e<c.BE))) (jn (Am9 a) false)))))))
def AnB(a:Bool):AA Int:=br a (some 17) (jn AkB ())
def AnA(a:AE)(e:B3)(g:Bool):AA Int:=br g (bd (AKD a e.Id) fun c=>br (decide (c<0)) (some 7) (bd (at? a.AG c) fun h=>br (h.State != 2) (some 13) (bd (at? a.AG c) fun j=>bd (rJ j a.Now) fun q=>br q (some 14) (jn AkB ())))) (br (e.Kind==6) (br (a.Now==1000000) (some 15) (jn AkB ())) (br (e.Kind==7) (br (decide (e.Id>=a.AQ.Cu)) (some 16) (bd (at? a.A9 e.Id) fun y=>br (y == -1) (jn AnB ((↑a.BB.length:Int)==0)) (jn AnB false))) (jn AkB ())))
def iW(c:AE)(a:B3):AA Int:=bd (Rh c) fun y=>br (!y) (some 1) (bd (C5 a.Kind 1 7) fun B=>br (!B) (some 2) (bd (WZ a) fun E=>br (!E) (some 3) (br (a.Kind==1) (bd (Mv a.Ab (↑c.AH.length:Int)) fun G=>br (!G) (jn (AcI c a) true) (bd (C5 a.Bu (-1) (w64 ((↑c.AH.length:Int)-1))) fun e=>br (!e) (jn (AcI c a) true) (jn (AcI c a) (a.Bu==a.Ab)))) (br (a.Kind==2) (bd (AKD c a.Id) fun g=>br (decide (g<0)) (some 7) (jn AkB ())) (br (a.Kind==3) (bd (Mv a.Ab (↑c.AH.length:Int)) fun h=>br (!h) (some 4) (bd (C5 a.BE 1 60) fun j=>br (!j) (some 5) (bd (AKE c a.Ab) fun q=>br (decide (q<a.BE)) (some 12) (jn AkB ())))) (br (a.Kind==4) (jn (AnA c a) (a.Kind==4)) (jn (AnA c a) (a.Kind==5))))))))
def wy:=gZ Aef C9 Ca ["BcItRSJJAkiSMBkTAG9O64reX8qVn7a1wakurDCmxmB1g5HSehJBn8YUvPYvUCBaTiEQYIN1vqJrCNvH","ClUcObSfSXv30Im2ferguTvEGAo9MoEXuwG2QL57sl6jRD6lq4fUsXEgsjJJ8G3tyCeZCjJ29dGBPTr6","vJ8DbQRIHF983HbRGwVy5FdFc5cSZNHp57BHImHiXXrKzWk8XaOuor1lDIiCCj0kLHAPmerQMUf30A6T","lvRiVw5p4YX8ryTQUZ5SXVEOORAy3NoPYkRl6USzObYnK7yDSrFtXTR7IwDRaLbjlCbuK5mFjK5UC4ES","NdZAavmONt3shei37jJGick7XdeHr3GnxTROydXVvgOf11ymW7ZrEO9JWhc48fOJGmCQxCmblE4NvtJs","LHNJdKjbQgW5r3Q8BmXeTYltQ0XPTGIl5RVS9sWFXjJ0ZKeg9ptmxKahkSjKrg6AP2LsCEVZrbVYpf24","tntZfzs2TLFrz2ddS1zaHr2UbOmt0spOvlK6zts0vKKhha0yzt5KXqE2wUVrl7Rj4psVnkyuskeGeolm","kYsfEXNsJcrIQmgbDhKXGHRK969pnZCTVrZYIefoL1HvkZy4D4zFvc2CrO7HgDNcRzEZAobIinFReDuf","zdxhYlxSPDXKZKxgXDIO4lrpu3mdbd5W"] [Qs,Et,ZR,Oy,AGN,kz,AGO,wv] (A4 iW)
def iX(a c:AU):AA Bool:=some (decide (a.Id>c.Id))
def lQ:=gZ [.v (.st 2),.p (.st 2)] C1 [.tmp 3] ["4MeK2C9QL8MUDrZ"] [] (A4 iX)
def AsJ:YF:=⟨[lQ],[.v (.l (.st 2)),.f lQ.x [(true,(.st 2))]],[0],.ret [.i],[.tmp 4],dY ["1B9XkG1gwKws8OEEkxvTaCXMveeLZW1c0NHK6ksyl6TKxUzTenBtv8xJZGQtLO8Ey"] [] [.D2 16 (.tmp 11) [.v,.p] [.tmp 15]]⟩
def Aor(_:PUnit):AA Int:=some (-1)
def Aos(e:List AU)(a:AU)(g:Int->AA Int)(c:Int):AA Int:=br (decide (c<e.length)) (bd (at? e c) fun h=>bd (iX h a) fun j=>br j (some c) (g (w64 (c+1)))) (jn Aor ())
def AKF(c:List AU)(a:AU):AA Int:=BD (Aos c a) big 0
def AGP:GF:=AsJ.gf rfl rfl (fun a=>AKF a.1 a.2.1.1) (fun a=>by kernel_rfl)
def AsK:YF:=⟨[lQ],[.v (.l (.st 2)),.v (.st 2)],[],.ret [(.l (.st 2))],[.tmp 4],dY ["17qrBFiZQmCH2EWqVQuaMTlDsTQ1A61agIbQEqZTjxdrQcfo4O4764mTxd4oLSPVfRiFFggmqSEDHRht","qbi7YAvy"] [AGM,w9] [.NC 22 0 [.tmp 3],.call 23 AGP [0] rfl [.tmp 21,.tmp 22]]⟩
def AnR(a:List AU)(c:AU)(e:Int):AA (List AU):=bd (ACK a e [c]) fun g=>some g
def AKO(a:List AU)(c:AU):AA (List AU):=gd (0+a.length<=lim) (bd (AKC a c.Id) fun e=>br (decide (e>=0)) (bd (at? a e) fun h=>bd (at? a e) fun j=>some (a.set (aQ e) c)) (bd (AKF a c) fun g=>br (decide (g<0)) (jn (AnR a c) (↑a.length:Int)) (jn (AnR a c) g)))
def AGb:GF:=AsK.EI (A4 AKO)
def AnT(c e:List Au)(a:Bool):AA ((List Au)×Bool):=br a (some (c,false)) (some (e,true))
def AnS(c:List Au)(q:Au)(B:List Au)(y:Int):AA ((List Au)×Bool):=bd (AJv c) fun E=>bd (AKL E y [q]) fun a=>bd (AJv c) fun e=>bd (AKL e y [q]) fun g=>eqv a g (bd (pt c) fun h=>br (!h) (jn (AnT B a) true) (bd (pt a) fun j=>jn (AnT B a) (!j)))
def AmH(e:List Au)(g:Au)(j:List Au)(c:Int->AA (List Au×Bool))(a:Int)(h:Bool):AA ((List Au)×Bool):=br h (c (w64 (a+1))) (jn (AnS e g j) a)
def AnU(a:List Au)(e:Au)(h:List Au)(g:Int->AA (List Au×Bool))(c:Int):AA ((List Au)×Bool):=br (decide (c<a.length)) (bd (at? a c) fun j=>bd (AAh j e) fun q=>jn (AmH a e h g c) q) (jn (AmH a e h g c) false)
def Uf(a:List Au)(c:Au):AA ((List Au)×Bool):=bd (AJv a) fun e=>BD (AnU a c e) big 0
def lg:=gZ Aqn Acx AfT ["HiKMk2gYeSkDomy1ThM1Qvc8P2pgymGj1dm22uWMNcjA1L6K4piniJIvdc1HFMspXWtGN7fupRBNM6rH","UMmTyYZXg3Rn8cSbQv6aZBY4251ATonUAjoQn28r9ojg8h0F3BUb7NEUwYvSwVm6pfiJfqsCenWzOB"] [ARQ,vZ,AGW,vd] (A4 Uf)
def AKP(a:BI)(c:Int):AA BI:=some (BI.mk a.Total a.Dv a.FA a.Fm (w64 (a.F8+c)))
def AGc:=gZ Zh Amf [] ["19xX1cq5K7m3CUY17EZ9m6"] [] (A4 AKP)
def As7:=fun (a:GF)=>(⟨[a],[.v (.st 3),.v .i,.f a.x [(true,.i)]],[0],.ret [(.st 3),.b],[.cell 6 (some 5),.tmp 7],dY ["23XZAMyTyHxi2YV3p23QAmDw6SU2b9YKNMgUDBfKea0xhDcLcB29WiSL1o2pu78ncrb77o4wkECvr40"] [Oz,Et] [.D2 20 (.tmp 19) [.b,.p] [.tmp 8]]⟩:YF)
def AsL:YF:=As7 AGc
def AnV(c:BI)(a:Int)(g:Bool):AA (BI×Bool):=br g (some (c,false)) (bd (AKP c a) fun e=>bd (MC e) fun h=>br (!h) (some (c,false)) (some (e,true)))
def AKQ(c:BI)(e a:Int):AA (BI×Bool):=bd (MC c) fun g=>br (!g) (jn (AnV c a) true) (bd (C5 e 0 60) fun h=>jn (AnV c a) (!h))
def AGd:GF:=AsL.gf rfl rfl (fun a=>AKQ a.1 a.2.1 a.2.2.1.1) (fun a=>by kernel_rfl)
def AsM:YF:=⟨[AGc],[.v (.st 3),.v .i],[],.ret [(.st 3),.b],[.cell 4 (some 5),.tmp 5],dY ["3SWqHnL9MUw2ejwrvmuHHlFddO"] [] [.NC 8 0 [.tmp 3],.call 9 AGd [0] rfl [.tmp 6,.tmp 7,.tmp 8]]⟩
def rR(e:BI)(a:Int):AA (BI×Bool):=bd (AKQ e a a) fun c=>some (c.fst,c.snd)
def xB:GF:=AsM.EI (A4 rR)
def Ad4(a:List Int):AA (List Int):=some a
def AKR(e:List Int)(a:Int):AA (List Int):=bd (qA e) fun c=>bd (qD e a) fun g=>br (!g) (gd (an c+[a].length<=lim) (jn Ad4 (c++[a]))) (jn Ad4 c)
def AGe:=gZ sK Al5 Ca ["bkPQE9c48RuQTGkTjSfk5PAb5jhmuN2n8A0xRK"] [AFp,lG] (A4 AKR)
def AnW(e:Int)(a:AE):AA (AE×Int):=bd (AKR a.BB e) fun c=>some (AE.mk a.AQ a.Now a.A0 a.AG a.AH c a.A9,0)
def AKS(h:AE)(B c g y E:Int):AA (AE×Int):=bd (AJw h) fun a=>bd (iW h (B3.mk 1 B c g y E)) fun I=>br (I != 0) (some (a,I)) (bd (AKO a.AG (AU.mk B c g y E h.Now h.A0 1 0 0)) fun J=>bd (py a.AQ (AU.mk B c g y E h.Now h.A0 1 0 0) a.Now) fun Q=>bd (at? a.AH c) fun X=>bd (at? a.AH c) fun S=>bd (Uf S.Row Q.fst) fun j=>bd (at? a.AH c) fun Y=>bd (at? a.AH c) fun e=>br (g != -1) (bd (at? (a.AH.set c.toNat (Ae.mk e.AY j.fst e.By)) g) fun L=>bd (at? (a.AH.set c.toNat (Ae.mk e.AY j.fst e.By)) g) fun G=>bd (rR G.AY y) fun H=>bd (at? (a.AH.set c.toNat (Ae.mk e.AY j.fst e.By)) g) fun O=>bd (at? (a.AH.set c.toNat (Ae.mk e.AY j.fst e.By)) g) fun q=>jn (AnW c) (AE.mk a.AQ a.Now (w64 (a.A0+1)) J ((a.AH.set c.toNat (Ae.mk e.AY j.fst e.By)).set g.toNat (Ae.mk H.fst q.Row q.By)) a.BB a.A9)) (jn (AnW c) (AE.mk a.AQ a.Now (w64 (a.A0+1)) J (a.AH.set c.toNat (Ae.mk e.AY j.fst e.By)) a.BB a.A9)))
def AGf:=gZ Mb Akn AfS ["hvzBrkvQ9imQNEFCp2L5g3d4E4ScXkW25xubmYzRt5nIlnbEWYAloW3bkM9jYuY0meOqjSirvAKxazWJ","MLBWnMrUxzBxoDY66WrHn1VIUxkacMnfedAHyjLBWmPYKE1IduyHrPWnWjI59QMyHItgkSPHXC11XiOG","3DcxgcxrcuyBJvL1CqG1CF3IoNMkSNZ65c4h14A5VU31lmFtiFaLX2F6k3qTJVKMHCcxMOOtTjVcHKKg","ykNtdj6pGFeNWlSuE81eEdXRTPTRwfG225mzfkDcUIe2UXkXCFrjJpIWFxu0N"] [ARR,wy,AGb,lC,lg,xB,AGe] (AI2 AKS)
def AKT(c:List Au)(g:Int):AA ((List Au)×Bool):=bd (AJv c) fun e=>bd (pq c g) fun a=>br (decide (a<0)) (some (e,false)) (bd (AKM e a (w64 (a+1))) fun h=>some (h,true))
def AGg:=gZ AHU Acx AfT ["18Oj73N0L6ZqjuE9HoWnXHrgbKix6DErnlRh7ClwnalO4QgKlh"] [ARQ,va,AGX] (A4 AKT)
def Aoz(_:PUnit):AA Int:=some (-1)
def Ao0(c:List BY)(e:BY)(h:Int->AA Int)(a:Int):AA Int:=br (decide (a<c.length)) (bd (at? c a) fun g=>br (e.At==g.At&&(e.Id==g.Id&&true)) (some a) (h (w64 (a+1)))) (jn Aoz ())
def ACO(a:List BY)(c:BY):AA Int:=BD (Ao0 a c) big 0
def AGh:=gZ ASY C9 Ca ["8xJFN8RzCg8viMwIiduhqFqYH65QoM4LRxGaCmRYyyUgvUHnLjOmSR1RyXJIVo"] [] (A4 ACO)
def AnX(a:BY)(c:Aw)(h:Bool):AA (Aw×Bool):=br h (some (c,false)) (bd (at? c.Ar (a.At.tmod 9)) fun q=>bd (at? c.Ar (a.At.tmod 9)) fun g=>bd (ACO g a) fun e=>br (decide (e<0)) (some (c,false)) (bd (AKN g e (w64 (e+1))) fun j=>bd (at? c.Ar (a.At.tmod 9)) fun y=>bd (at? c.Ar (a.At.tmod 9)) fun B=>gd (Y.O5 (a.At.tmod 9).toNat 0 1 [((a.At.tmod 9).toNat,0)]) (some (Aw.mk (c.Ar.set (a.At.tmod 9).toNat j),true))))
def rS(e:Aw)(a:BY):AA (Aw×Bool):=bd (ABR e) fun g=>bd (Rg e) fun h=>br (!h) (jn (AnX a g) true) (bd (pw a) fun c=>jn (AnX a g) (!c))
def xC:=gZ AoV Anq Agr ["GT2ebEuQ6KKgkqHKkWQq3IyqIeb4vtf7uzpgiv9AfJZQHYJMcghpmL7FLvOE4tSPfiH0OCwF9yLprWmd","MO2IrhOXcdqjMpL39wd34WmSUwqt0Ic3UQ3Psayam3jZe0NyVqWN9BRiq"] [AF8,VM,lB,AGh,AGY] (A4 rS)
def AKU(a:BI)(c:Int):AA BI:=some (BI.mk a.Total (w64 (a.Dv+c)) (w64 (a.FA-c)) a.Fm a.F8)
def AGi:=gZ Zh Amf [] ["1kax6cDBWunij5RQElU03qYQx2pq56yzkTN41qXzEX"] [] (A4 AKU)
def AsN:YF:=As7 AGi
def AnY(c:BI)(a:Int)(g:Bool):AA (BI×Bool):=br g (some (c,false)) (bd (AKU c a) fun e=>bd (MC e) fun h=>br (!h) (some (c,false)) (some (e,true)))
def AKV(c:BI)(e a:Int):AA (BI×Bool):=bd (MC c) fun g=>br (!g) (jn (AnY c a) true) (bd (C5 e 0 60) fun h=>jn (AnY c a) (!h))
def AGj:GF:=AsN.gf rfl rfl (fun a=>AKV a.1 a.2.1 a.2.2.1.1) (fun a=>by kernel_rfl)
def AsO:YF:=⟨[AGi],[.v (.st 3),.v .i],[],.ret [(.st 3),.b],[.cell 4 (some 5),.tmp 5],dY ["3SWqHnL9MUw2ejwrvmuHHlFddO"] [] [.NC 8 0 [.tmp 3],.call 9 AGj [0] rfl [.tmp 6,.tmp 7,.tmp 8]]⟩
def AQc(e:BI)(a:Int):AA (BI×Bool):=bd (AKV e a a) fun c=>some (c.fst,c.snd)
def AGk:GF:=AsO.EI (A4 AQc)
def ACP(a:BI)(c:Int):AA BI:=some (BI.mk a.Total a.Dv a.FA a.Fm (w64 (a.F8-c)))
def AGl:=gZ Zh Amf [] ["2zdSaXhc0IsL7SkIAzzQQE"] [] (A4 ACP)
def AsP:YF:=As7 AGl
def AnZ(c:BI)(a:Int)(g:Bool):AA (BI×Bool):=br g (some (c,false)) (bd (ACP c a) fun e=>bd (MC e) fun h=>br (!h) (some (c,false)) (some (e,true)))
def AKW(c:BI)(e a:Int):AA (BI×Bool):=bd (MC c) fun g=>br (!g) (jn (AnZ c a) true) (bd (C5 e 0 60) fun h=>jn (AnZ c a) (!h))
def AGm:GF:=AsP.gf rfl rfl (fun a=>AKW a.1 a.2.1 a.2.2.1.1) (fun a=>by kernel_rfl)
def AsQ:YF:=⟨[AGl],[.v (.st 3),.v .i],[],.ret [(.st 3),.b],[.cell 4 (some 5),.tmp 5],dY ["3SWqHnL9MUw2ejwrvmuHHlFddO"] [] [.NC 8 0 [.tmp 3],.call 9 AGm [0] rfl [.tmp 6,.tmp 7,.tmp 8]]⟩
def AKX(e:BI)(a:Int):AA (BI×Bool):=bd (AKW e a a) fun c=>some (c.fst,c.snd)
def AGn:GF:=AsQ.EI (A4 AKX)
def jD(a:List AU):AA (List AU):=some a
def AKY(a:List AU)(e:Int):AA (List AU):=gd (0+a.length<=lim) (bd (AKC a e) fun c=>br (decide (c>=0)) (bd (SR a c (w64 (c+1))) fun g=>jn jD g) (jn jD a))
def AGo:=gZ ASZ ApG Ca ["fx7w15DxidW8YzjkvOLhPqUgdrnZDmSjom4kBUUWUrMhZfiF"] [AGM,O0] (A4 AKY)
def jE(e:Int)(a:AE):AA (AE×Int):=bd (AKY a.AG e) fun c=>some (AE.mk a.AQ a.Now a.A0 c a.AH a.BB a.A9,0)
def AmI(j:Int)(c:AU)(a:AE):AA (AE×Int):=br (c.Bu != -1) (bd (at? a.AH c.Bu) fun q=>bd (at? a.AH c.Bu) fun g=>bd (AKX g.AY c.BE) fun h=>bd (at? a.AH c.Bu) fun y=>bd (at? a.AH c.Bu) fun e=>jn (jE j) (AE.mk a.AQ a.Now a.A0 a.AG (a.AH.set c.Bu.toNat (Ae.mk h.fst e.Row e.By)) a.BB a.A9)) (jn (jE j) a)
def AKZ(j:AE)(g:Int):AA (AE×Int):=bd (AJw j) fun a=>bd (iW j (B3.mk 2 g 0 0 0 0)) fun I=>br (I != 0) (some (a,I)) (bd (AKD j g) fun J=>bd (at? j.AG J) fun c=>bd (AKD j g) fun L=>bd (at? j.AG L) fun O=>K3 c O (bd (at? a.AH c.Ab) fun X=>br (c.State==1) (bd (at? a.AH c.Ab) fun Q=>bd (AKT Q.Row g) fun S=>bd (at? a.AH c.Ab) fun q=>jn (AmI g c) (AE.mk a.AQ a.Now a.A0 a.AG (a.AH.set c.Ab.toNat (Ae.mk q.AY S.fst q.By)) a.BB a.A9)) (bd (at? a.AH c.Ab) fun B=>bd (rS B.By (BY.mk c.C7 g)) fun h=>bd (at? a.AH c.Ab) fun e=>bd (at? (a.AH.set c.Ab.toNat (Ae.mk e.AY e.Row h.fst)) c.Ab) fun E=>bd (AQc E.AY c.BE) fun G=>bd (at? (a.AH.set c.Ab.toNat (Ae.mk e.AY e.Row h.fst)) c.Ab) fun y=>bd (AKR a.BB c.Ab) fun H=>jn (AmI g c) (AE.mk a.AQ a.Now a.A0 a.AG ((a.AH.set c.Ab.toNat (Ae.mk e.AY e.Row h.fst)).set c.Ab.toNat (Ae.mk G.fst y.Row y.By)) H a.A9))))
def AGp:=gZ AHV Akn xc ["3wxYFJjDluZZx5PFcLUUiHooZZ2ToniTSnEMW84QfxyRdRQtYJ43JWVTDkwNVy4746xkD5VpGzOt3KCS","LJcppKFJuxJnMilwoI77axImah5m5ZgEf4G6T8QVZd3FXJaig5GBKlxkbhv6r8tDQunbhcXoQ90AqYaP","6265GFfSYHVwvNYTY9YeWuInDsewnefdYQjEhCymnP5r520Tj6gkhAomxCPYuWpfV0XK55kfvl3VcPI5","6rurfgkLOv5FggLesnGnlBm9mVJdBVumIUaLG4rsL78UvXkErMKPLprXdORegPYu8SPFPcOgAcAzYZfk","LKXOnOmm6PhKvcEuDwOsR"] [ARR,wy,AGN,AGg,xC,AGk,AGe,AGn,AGo] (A4 AKZ)
def ACU(a:BI)(c:Int):AA BI:=some (BI.mk a.Total (w64 (a.Dv+c)) a.FA (w64 (a.Fm-c)) a.F8)
def xD:=gZ Zh Amf [] ["3sZBShoAO1lL7V4FP66N0NGtc9VMdPS9rLCdhqhISd"] [] (A4 ACU)
def AsR:YF:=As7 xD
def Ana(c:BI)(a:Int)(g:Bool):AA (BI×Bool):=br g (some (c,false)) (bd (ACU c a) fun e=>bd (MC e) fun h=>br (!h) (some (c,false)) (some (e,true)))
def ACV(c:BI)(e a:Int):AA (BI×Bool):=bd (MC c) fun g=>br (!g) (jn (Ana c a) true) (bd (C5 e 0 60) fun h=>jn (Ana c a) (!h))
def xE:GF:=AsR.gf rfl rfl (fun a=>ACV a.1 a.2.1 a.2.2.1.1) (fun a=>by kernel_rfl)
def AsS:YF:=⟨[xD],[.v (.st 3),.v .i],[],.ret [(.st 3),.b],[.cell 4 (some 5),.tmp 5],dY ["3SWqHnL9MUw2ejwrvmuHHlFddO"] [] [.NC 8 0 [.tmp 3],.call 9 xE [0] rfl [.tmp 6,.tmp 7,.tmp 8]]⟩
def AKa(e:BI)(a:Int):AA (BI×Bool):=bd (ACV e a a) fun c=>some (c.fst,c.snd)
def AGq:GF:=AsS.EI (A4 AKa)
def AKb(e:AE)(c g:Int):AA (AE×Int):=bd (AJw e) fun a=>bd (iW e (B3.mk 3 0 c 0 g 0)) fun h=>br (h != 0) (some (a,h)) (bd (at? a.AH c) fun E=>bd (at? a.AH c) fun q=>bd (AKa q.AY g) fun y=>bd (at? a.AH c) fun G=>bd (at? a.AH c) fun j=>bd (AKR a.BB c) fun B=>some (AE.mk a.AQ a.Now a.A0 a.AG (a.AH.set c.toNat (Ae.mk y.fst j.Row j.By)) B a.A9,0))
def AGr:=gZ [.v (.st 8),.v .i,.v .i] Akn xd ["6izny5OB6XMgBgyV4WV5YBDb6aeM0YhIqZErYqVn7wYk01iNNBDAmjchqnhAypUa73iOTokcB578eolG","FtO4OfFMujaiZt0oDpXe3Vix7H19vXls1xMJZyVTTyC5"] [ARR,wy,AGq,AGe] (Gq AKb)
def AKc(a:BI)(c:Int):AA BI:=some (BI.mk a.Total a.Dv (w64 (a.FA-c)) (w64 (a.Fm+c)) a.F8)
def AGs:=gZ Zh Amf [] ["U0sCJtwpl4jbolfNWtH5BKXZGvBtvzCVnygrMrd6JE"] [] (A4 AKc)
def Ajq:YF:=As7 AGs
def Anb(c:BI)(a:Int)(g:Bool):AA (BI×Bool):=br g (some (c,false)) (bd (AKc c a) fun e=>bd (MC e) fun h=>br (!h) (some (c,false)) (some (e,true)))
def AKd(c:BI)(e a:Int):AA (BI×Bool):=bd (MC c) fun g=>br (!g) (jn (Anb c a) true) (bd (C5 e 0 60) fun h=>jn (Anb c a) (!h))
def AGt:GF:=Ajq.gf rfl rfl (fun a=>AKd a.1 a.2.1 a.2.2.1.1) (fun a=>by kernel_rfl)
def Ajr:YF:=⟨[AGs],[.v (.st 3),.v .i],[],.ret [(.st 3),.b],[.cell 4 (some 5),.tmp 5],dY ["3SWqHnL9MUw2ejwrvmuHHlFddO"] [] [.NC 8 0 [.tmp 3],.call 9 AGt [0] rfl [.tmp 6,.tmp 7,.tmp 8]]⟩
def bK(e:BI)(a:Int):AA (BI×Bool):=bd (AKd e a a) fun c=>some (c.fst,c.snd)
def AGu:GF:=Ajr.EI (A4 bK)
def Anc(a:AE):AA (AE×Int):=some (a,0)
def bL(B:AE)(E:Int):AA (AE×Int):=bd (AJw B) fun g=>bd (iW B (B3.mk 4 E 0 0 0 0)) fun S=>br (S != 0) (some (g,S)) (bd (AKD B E) fun Y=>bd (at? B.AG Y) fun c=>bd (AKD B E) fun Z=>bd (at? B.AG Z) fun x6=>K3 c x6 (bd (at? g.AH c.Ab) fun x7=>bd (at? g.AH c.Ab) fun x8=>bd (bK x8.AY c.BE) fun q=>bd (at? g.AH c.Ab) fun a=>bd (at? (g.AH.set c.Ab.toNat (Ae.mk q.fst a.Row a.By)) c.Ab) fun I=>bd (rS I.By (BY.mk c.C7 E)) fun h=>bd (at? (g.AH.set c.Ab.toNat (Ae.mk q.fst a.Row a.By)) c.Ab) fun e=>bd (AKY g.AG E) fun G=>br (c.Bu != -1) (bd (at? ((g.AH.set c.Ab.toNat (Ae.mk q.fst a.Row a.By)).set c.Ab.toNat (Ae.mk e.AY e.Row h.fst)) c.Bu) fun X=>bd (at? ((g.AH.set c.Ab.toNat (Ae.mk q.fst a.Row a.By)).set c.Ab.toNat (Ae.mk e.AY e.Row h.fst)) c.Bu) fun J=>bd (AKX J.AY c.BE) fun y=>bd (at? ((g.AH.set c.Ab.toNat (Ae.mk q.fst a.Row a.By)).set c.Ab.toNat (Ae.mk e.AY e.Row h.fst)) c.Bu) fun j=>bd (at? (((g.AH.set c.Ab.toNat (Ae.mk q.fst a.Row a.By)).set c.Ab.toNat (Ae.mk e.AY e.Row h.fst)).set c.Bu.toNat (Ae.mk y.fst j.Row j.By)) c.Bu) fun L=>bd (AKa L.AY c.BE) fun O=>bd (at? (((g.AH.set c.Ab.toNat (Ae.mk q.fst a.Row a.By)).set c.Ab.toNat (Ae.mk e.AY e.Row h.fst)).set c.Bu.toNat (Ae.mk y.fst j.Row j.By)) c.Bu) fun H=>bd (AKR g.BB c.Bu) fun Q=>jn Anc (AE.mk g.AQ g.Now g.A0 G ((((g.AH.set c.Ab.toNat (Ae.mk q.fst a.Row a.By)).set c.Ab.toNat (Ae.mk e.AY e.Row h.fst)).set c.Bu.toNat (Ae.mk y.fst j.Row j.By)).set c.Bu.toNat (Ae.mk O.fst H.Row H.By)) Q g.A9)) (jn Anc (AE.mk g.AQ g.Now g.A0 G ((g.AH.set c.Ab.toNat (Ae.mk q.fst a.Row a.By)).set c.Ab.toNat (Ae.mk e.AY e.Row h.fst)) g.BB g.A9))))
def lh:=gZ AHV Akn xc ["4F0PAF9kjs25JZq859uxpIBHJpqei0uNnjqVGld4QxWD3sCxmfZKOKCLZQoKIexo4OinvQHRXYfupYnH","V6X80uzUyXyy1k8BBVpc0zchkmCwuUcHSfSwdJEyiGgR35HzKwASqgmLGrfUK6jeGB8vH2K7u6pwFUYL","Qc5LEJDFCEhPLMmRmWcAFByHBWpfEAgn6sYGt0hPk1fr88LocPSDy0wvYzf9su5WwzWIA6daIbdnXIUf","drAw9uD7bGiGwaZmFFzqwQGmYaamo4gWW5PfdZAWYqmM8hzTCK6ZguwX8ARXR0DEorrP9m77E1O517kw","kLXT41Jp"] [ARR,wy,AGN,AGu,xC,AGo,AGn,AGq,AGe] (A4 bL)
def AmF(c:Aa)(a:AU)(e:Int)(g:Bool):AA (AU×Bool):=br g (some (AU.mk 0 0 0 0 0 0 0 0 0 0,false)) (some (AU.mk a.Id a.Ab a.Bu a.BE a.DJ a.Since a.A0 1 (w64 (e+c.Rest)) (w64 (a.Dh+1)),true))
def AXc(c:Aa)(a:AU)(e:Int):AA (AU×Bool):=bd (eW c a e) fun g=>br (!g) (jn (AmF c a e) true) (br (a.State != 2) (jn (AmF c a e) true) (jn (AmF c a e) (w64 (a.Dh+1)==c.CY)))
def lT:=gZ bW (.ret [(.st 2),.b]) xe ["pJ3faTrvbwN3YmC1xBVJ9WgqnfLdACp06blBkTJSIt2yuh4AC6A3VN1RoWBDlS9mN02ig0PBXmbhfTQz","JVs1WmfuyekxZklPmuGMebT"] [ZO] (Gq AXc)
def Adr(a:AE):AA AE:=some a
def AQY(c:AE)(G:Int):AA AE:=bd (AKD c G) fun X=>bd (at? c.AG X) fun x2=>bd (at? c.AG X) fun e=>bd (AKD c G) fun Y=>bd (at? c.AG Y) fun x5=>bd (at? c.AG Y) fun x6=>K3 e x6 (bd (at? c.AH e.Ab) fun x7=>bd (at? c.AH e.Ab) fun x8=>bd (AQc x8.AY e.BE) fun j=>bd (at? c.AH e.Ab) fun a=>bd (at? (c.AH.set e.Ab.toNat (Ae.mk j.fst a.Row a.By)) e.Ab) fun H=>bd (rS H.By (BY.mk e.C7 G)) fun h=>bd (at? (c.AH.set e.Ab.toNat (Ae.mk j.fst a.Row a.By)) e.Ab) fun g=>bd (AXc c.AQ e c.Now) fun q=>br q.snd (bd (AKO c.AG q.fst) fun I=>bd (py c.AQ q.fst c.Now) fun J=>bd (at? ((c.AH.set e.Ab.toNat (Ae.mk j.fst a.Row a.By)).set e.Ab.toNat (Ae.mk g.AY g.Row h.fst)) e.Ab) fun L=>bd (Uf L.Row J.fst) fun O=>bd (at? ((c.AH.set e.Ab.toNat (Ae.mk j.fst a.Row a.By)).set e.Ab.toNat (Ae.mk g.AY g.Row h.fst)) e.Ab) fun y=>some (AE.mk c.AQ c.Now c.A0 I (((c.AH.set e.Ab.toNat (Ae.mk j.fst a.Row a.By)).set e.Ab.toNat (Ae.mk g.AY g.Row h.fst)).set e.Ab.toNat (Ae.mk y.AY O.fst y.By)) c.BB c.A9)) (bd (AKY c.AG G) fun B=>br (e.Bu != -1) (bd (at? ((c.AH.set e.Ab.toNat (Ae.mk j.fst a.Row a.By)).set e.Ab.toNat (Ae.mk g.AY g.Row h.fst)) e.Bu) fun Z=>bd (at? ((c.AH.set e.Ab.toNat (Ae.mk j.fst a.Row a.By)).set e.Ab.toNat (Ae.mk g.AY g.Row h.fst)) e.Bu) fun Q=>bd (AKX Q.AY e.BE) fun S=>bd (at? ((c.AH.set e.Ab.toNat (Ae.mk j.fst a.Row a.By)).set e.Ab.toNat (Ae.mk g.AY g.Row h.fst)) e.Bu) fun x24=>bd (at? ((c.AH.set e.Ab.toNat (Ae.mk j.fst a.Row a.By)).set e.Ab.toNat (Ae.mk g.AY g.Row h.fst)) e.Bu) fun E=>jn Adr (AE.mk c.AQ c.Now c.A0 B (((c.AH.set e.Ab.toNat (Ae.mk j.fst a.Row a.By)).set e.Ab.toNat (Ae.mk g.AY g.Row h.fst)).set e.Bu.toNat (Ae.mk S.fst E.Row E.By)) c.BB c.A9)) (jn Adr (AE.mk c.AQ c.Now c.A0 B ((c.AH.set e.Ab.toNat (Ae.mk j.fst a.Row a.By)).set e.Ab.toNat (Ae.mk g.AY g.Row h.fst)) c.BB c.A9))))
def lU:=gZ AfN Abv Al6 ["5xF7TWfDxS0Db1NIbQJQWc44P8WEYvsCKbzcaHyb1MeRjPjMkr8EjeFsR2TNZTGzQJabe5b2Gdl65vVM","jckD3uw0T7h2qvBeXZv0tuwaoLOGt4e2ytCOoBNNFSU0DeZATwsVdXWYMaLHDbeRm8mclMjoqeHtaoIM","JKLwbbEOHtlbli1RthvfiGqPDXtClpusDn0FyardK6RpzHxvF1BcAkyhie5VR8wlRuWeMt2TEAxUcpNQ","7FDiqs9HrtAli2cYGavYeR8O79X8G5IzGrnuVZe25Xpkr7z3nauIqJgZ97P7ysNIDb2SavO3NV05wS0S","ZKOVXpcJ3ml2PaYyhDT4vXVqRiDJPbq7OJA0HICUJr"] [AGN,AGk,xC,lT,AGb,lC,lg,AGo,AGn] (A4 AQY)
def AXd(c:AE)(e:Int):AA (AE×Int):=bd (AJw c) fun g=>bd (iW c (B3.mk 5 e 0 0 0 0)) fun h=>br (h != 0) (some (g,h)) (bd (AKD c e) fun j=>bd (at? c.AG j) fun q=>bd (AQY g e) fun a=>bd (AKR a.BB q.Ab) fun y=>some (AE.mk a.AQ a.Now a.A0 a.AG a.AH y a.A9,0))
def lV:=gZ AHV Akn xc ["9GPbTEBVxtWJbVMXDnZPYikOTnyer93dLbgYfd7weDa6tbTTTnL5TkrP6uU45zWxDr0ryFAl1WlAOrsK","gHBkCaBgLNAJuTkt0db0FyHBBabSO"] [ARR,wy,AGN,lU,AGe] (A4 AXd)
def AnL(c:Int×AE->AA (AE×Int))(e:Int)(a:AE):AA (AE×Int):=c (w64 (e+1),a)
def Aqm(a:AE):AA (AE×Int):=some (a,0)
def AmG(q:AE)(h:Int×AE->AA (AE×Int))(B:Int×AE):AA (AE×Int):=let (c,a):=B;br (decide (c<q.AH.length)) (bd (aw a.AQ a.AG c a.Now) fun j=>bd (at? a.AH c) fun E=>bd (at? a.AH c) fun e=>bd (po a.AG c) fun y=>br (decide (y>0)) (bd (AKR a.BB c) fun g=>jn (AnL h c) (AE.mk a.AQ a.Now a.A0 a.AG (a.AH.set (aQ c) (Ae.mk e.AY j e.By)) g a.A9)) (jn (AnL h c) (AE.mk a.AQ a.Now a.A0 a.AG (a.AH.set (aQ c) (Ae.mk e.AY j e.By)) a.BB a.A9))) (jn Aqm a)
def AXe(c:AE):AA (AE×Int):=bd (AJw c) fun a=>bd (iW c (B3.mk 6 0 0 0 0 0)) fun e=>br (e != 0) (some (a,e)) (BD (AmG a) big (0,AE.mk a.AQ (w64 (a.Now+1)) a.A0 a.AG a.AH a.BB a.A9))
def lW:=gZ Xi Akn AoY ["CLEBL9MxXNdfMLZBhvVaT0Ao8x28Shn4NKLPrDBhckA9CYAXCud4uXtoPe9JnFoViVEMa6eMfpxWmLKy","9ghnsJWRii6vbCQoIRt1bIxQi47CPnzit8g486kAUTk5hlpmzJBz6BCLrEJYQqo9z8zAvcUUiZ0iGHvt","rjTLgo"] [ARR,wy,ku,kz,AGe] (Bc AXe)
def AnM(a:Bool):AA Bool:=some a
def AXf(a:AE)(c:Int):AA Bool:=bd (Rh a) fun e=>br e (bd (Mv c (↑a.AH.length:Int)) fun g=>jn AnM g) (jn AnM false)
def lY:=gZ AHV C1 Ca ["b7ymqWEcfSDCbjWg0tD4rqPVe51t"] [Qs,Oy] (A4 AXf)
def AnN(a:List BY×Int->AA (List BY))(c:Int)(e:List BY):AA (List BY):=a (e,w64 (c+1))
def Aox(a:List BY):AA (List BY):=some a
def AnO(j:Int)(e:List BY)(h:List BY×Int->AA (List BY))(q:List BY×Int):AA (List BY):=let (c,a):=q;br (decide (a<(an e))) (bd (at? e a) fun y=>bd (at? e a) fun g=>br (decide (g.At<=j)) (gd (an c+[g].length<=lim) (jn (AnN h a) (c++[g]))) (jn (AnN h a) c)) (jn Aox c)
def rO(a:Aw)(c:Int):AA (List BY):=bd (eU a) fun e=>BD (AnO c e) big ([],0)
def xA:=gZ [.v (.st 6),.v .i] Zk Ca ["169oNxyLZHvb1hPabhuBuJZYczahrWs0prWDaYsCq78VrPlUvXMRaItMp6AkpWSHxL7P3s4A9nGn009k","Fyqe37cN"] [kx] (A4 rO)
def AcO(a:List Int):AA (List Int):=some a
def Adx(e:List BY)(h:List Int×Int->AA (List Int))(j:List Int×Int):AA (List Int):=let (c,a):=j;br (decide (a<(an e))) (bd (at? e a) fun q=>bd (at? e a) fun g=>gd (an c+[g.Id].length<=lim) (h (c++[g.Id],w64 (a+1)))) (jn AcO c)
def rP(a:AE)(c:Int):AA (List Int):=bd (AXf a c) fun e=>br (!e) (some []) (bd (at? a.AH c) fun g=>bd (rO g.By a.Now) fun h=>BD (Adx h) big ([],0))
def AGZ:=gZ AHV Al5 Ca ["9za3SgT2cosWbx680zR5SW30BJ8xacuvUGQ3kJz0ZahLNI864UcDFCbheQzzP4U15vFeNgQBeOIhm7Re","Dj41qVqOurFhcG26aHQRxeIPc"] [lY,xA] (A4 rP)
def Aoy(a:AE):AA AE:=some a
def AnP(c:List Int)(g:Int×AE->AA AE)(q:Int×AE):AA AE:=let (a,e):=q;br (decide (a<(an c))) (bd (at? c a) fun y=>bd (at? c a) fun h=>bd (AQY e h) fun j=>g (w64 (a+1),j)) (jn Aoy e)
def AQZ(a:AE)(c:Int):AA AE:=bd (AJw a) fun e=>bd (rP a c) fun g=>BD (AnP g) big (0,e)
def lZ:=gZ AHV Abv Al6 ["4D4R4ZGZwPAeqeOiTrMuEWFurevDh29OTUOw9AUIL8odMbWC9F5Ij09kOtBOnHQm9s3SPzMk4y3SaFWW","9"] [ARR,AGZ,lU] (A4 AQZ)
def Ady(a:Bool):AA Bool:=some a
def AQa(a:AU)(c:Int):AA Bool:=br (a.State==1) (jn Ady (decide (a.C7>c))) (jn Ady false)
def AGa:=gZ AbY C1 Ca ["65y214ZE42VpgyLEpybTFyLSGa1"] [] (A4 AQa)
def AnQ(a:Bool):AA Bool:=some a
def rQ(a:Au)(c:Int)(e:List Int):AA Bool:=br (decide (a.BE<=c)) (bd (qD e a.Id) fun g=>jn AnQ (!g)) (jn AnQ false)
def lf:=gZ [.v (.st 4),.p .i,.p (.l .i)] C1 Ca ["3XB1IcSjgO5GRrCNH3q8XLVpIphqR9SXO"] [lG] (Gq rQ)
def AsT:YF:=⟨[lf],[.v (.l (.st 4)),.f lf.x [(true,.i),(true,(.l .i))]],[0],.ret [.i],[.tmp 4],dY ["3dBaUFuQVrAJzwwvHsXWIhzCtdPXWETZTCZdo1K1qJIfzNhleQqBJTnSQhSN0hBpL"] [] [.D2 16 (.tmp 11) [.v,.p,.p] [.tmp 15]]⟩
def Ao3(_:PUnit):AA Int:=some (-1)
def Anh(g:List Au)(a:Int)(c:List Int)(h:Int->AA Int)(e:Int):AA Int:=br (decide (e<g.length)) (bd (at? g e) fun j=>bd (rQ j a c) fun q=>br q (some e) (h (w64 (e+1)))) (jn Ao3 ())
def Mw(e:List Au)(a:Int)(c:List Int):AA Int:=BD (Anh e a c) big 0
def Sr:GF:=AsT.gf rfl rfl (fun a=>Mw a.1 a.2.1.1 a.2.1.2.1) (fun a=>by kernel_rfl)
def AsU:YF:=⟨[lf],[.v (.l (.st 4)),.v .i,.v (.l .i)],[],.ret [.i],[.tmp 6],dY ["CZT84mUk0r2ic3uoR9"] [] [.NC 8 0 [.tmp 4,.tmp 5],.call 9 Sr [0] rfl [.tmp 7,.tmp 8]]⟩
def rT(a:List Au)(c:Int)(e:List Int):AA Int:=bd (Mw a c e) fun g=>some g
def AG2:GF:=AsU.EI (Gq rT)
def Ani(a:List Int×Int->AA Int)(c:Int)(e:List Int):AA Int:=a (e,w64 (c+1))
def Anj(g:AE)(h:Int)(j:List Int):AA Int:=bd (at? g.AH h) fun e=>bd (rT e.Row e.AY.Dv j) fun a=>br (decide (a<0)) (some 0) (bd (at? e.Row a) fun c=>some c.Id)
def Ank(a:AE)(j:Int)(h:List Int×Int->AA Int)(y:List Int×Int):AA Int:=let (c,e):=y;br (decide (e<a.AG.length)) (bd (at? a.AG e) fun g=>bd (AQa g a.Now) fun q=>br q (gd (an c+[g.Id].length<=lim) (jn (Ani h e) (c++[g.Id]))) (jn (Ani h e) c)) (jn (Anj a j) c)
def ACZ(a:AE)(c:Int):AA Int:=bd (AXf a c) fun e=>br (!e) (some 0) (BD (Ank a c) big ([],0))
def AG3:=gZ AHV C9 Ca ["3iQvxmw9V0cTm0Gsy7pLZP5iyOogAFrGoQjRT1asEjt7oF9TKCSUTmVkPS1NkvYn3oLw4roVJ3Rms3Xw","j5Qk1vCK08Igrv52nqFQ8pnGLP7dFsO4k9xNUjcRhdtXCz3Fw1Y2i4DhtGQ3cgQO2kHtfGYnm"] [lY,AGa,AG2] (A4 ACZ)
def SZ(a:BI)(c:Int):AA BI:=some (BI.mk a.Total (w64 (a.Dv-c)) (w64 (a.FA+c)) a.Fm a.F8)
def O1:=gZ Zh Amf [] ["1kax6cFHwW3YhcDRehzVWZMt92qg57VMjb4uu5AqVN"] [] (A4 SZ)
def AsV:YF:=As7 O1
def AeN(c:BI)(a:Int)(g:Bool):AA (BI×Bool):=br g (some (c,false)) (bd (SZ c a) fun e=>bd (MC e) fun h=>br (!h) (some (c,false)) (some (e,true)))
def AQh(c:BI)(e a:Int):AA (BI×Bool):=bd (MC c) fun g=>br (!g) (jn (AeN c a) true) (bd (C5 e 0 60) fun h=>jn (AeN c a) (!h))
def lk:GF:=AsV.gf rfl rfl (fun a=>AQh a.1 a.2.1 a.2.2.1.1) (fun a=>by kernel_rfl)
def Aaj:YF:=⟨[O1],[.v (.st 3),.v .i],[],.ret [(.st 3),.b],[.cell 4 (some 5),.tmp 5],dY ["3SWqHnL9MUw2ejwrvmuHHlFddO"] [] [.NC 8 0 [.tmp 3],.call 9 lk [0] rfl [.tmp 6,.tmp 7,.tmp 8]]⟩
def AKk(e:BI)(a:Int):AA (BI×Bool):=bd (AQh e a a) fun c=>some (c.fst,c.snd)
def AG4:GF:=Aaj.EI (A4 AKk)
def rU(h:AE)(c:Int):AA (AE×Int):=bd (AJw h) fun e=>bd (ACZ h c) fun y=>br (y==0) (some (e,0)) (bd (AKD h y) fun L=>bd (at? h.AG L) fun j=>bd (AKD h y) fun O=>bd (at? h.AG O) fun Q=>K3 j Q (bd (at? e.AH c) fun X=>bd (at? e.AH c) fun S=>bd (AKk S.AY j.BE) fun E=>bd (at? e.AH c) fun a=>bd (at? (e.AH.set c.toNat (Ae.mk E.fst a.Row a.By)) c) fun G=>bd (AKT G.Row y) fun q=>bd (at? (e.AH.set c.toNat (Ae.mk E.fst a.Row a.By)) c) fun g=>bd (AKO e.AG (AU.mk j.Id j.Ab j.Bu j.BE j.DJ j.Since j.A0 2 (w64 (h.Now+h.AQ.Bz)) j.Dh)) fun H=>bd (at? ((e.AH.set c.toNat (Ae.mk E.fst a.Row a.By)).set c.toNat (Ae.mk g.AY q.fst g.By)) c) fun I=>bd (rH I.By (BY.mk (w64 (h.Now+h.AQ.Bz)) y)) fun J=>bd (at? ((e.AH.set c.toNat (Ae.mk E.fst a.Row a.By)).set c.toNat (Ae.mk g.AY q.fst g.By)) c) fun B=>some (AE.mk e.AQ e.Now e.A0 H (((e.AH.set c.toNat (Ae.mk E.fst a.Row a.By)).set c.toNat (Ae.mk g.AY q.fst g.By)).set c.toNat (Ae.mk B.AY B.Row J.fst)) e.BB e.A9,y)))
def ll:=gZ AHV Akn xc ["wLPWldzhcRzmtBiS840B8ORC1uqAyaWfeZq6fgTEfTSMrKsfy5SqmnR2CwNAlONC9cnzkBHRHwKU9Bv1","BH47DyvvW0fEmA9VOiAcwajFH5ISzxybgokFUV9OX3SsqcUCqw50Q6Bl1tzLfDc1wp5tzcMPdUUDH2li","gLUW2pObuZ8KkW5VEveRjwiBmqzcESrf0e2MsUx9ue0rI9fLH9dJMbGOGviFRfBVIlAsTeofib1gsvPc","antSaiN9yBYMADQpwRrRdQmWM5z6eSQSY"] [ARR,AG3,AGN,AG4,AGg,AGb,wS] (A4 rU)
def jV(h:Int)(g:List Int×AE->AA (AE×List Int))(j:List Int×AE):AA (AE×(List Int)):=let (c,e):=j;bd (rU e h) fun a=>br (a.snd==0) (some (e,c)) (gd (an c+[a.snd].length<=lim) (g (c++[a.snd],a.fst)))
def rV(c:AE)(a:Int):AA (AE×(List Int)):=bd (AQZ c a) fun e=>BD (jV a) big ([],e)
def xH:=gZ AHV Aqo xc ["yIHaMixPTM2w7OfQgOhd8o9r1BIPPq01S8PeyakxzRgMKBeGWnn1wP4RC3mNi8PGHx6cKdD0RgUugZfT","IPiIGGLT6fkroa"] [lZ,ll] (A4 rV)
def AQi(h:AE)(e:Int):AA (AE×Int×(List Int)):=bd (AJw h) fun c=>bd (iW h (B3.mk 7 e 0 0 0 0)) fun j=>br (j != 0) (some (c,j,[])) (bd (at? c.A9 e) fun G=>bd (at? c.A9 e) fun B=>br (B == -1) (bd (at? c.BB 0) fun H=>bd (at? c.BB 0) fun E=>bd (at? c.A9 e) fun I=>bd (at? c.A9 e) fun J=>gd ((0:Int)<=1/\1<=(↑c.BB.length:Int)) (some (AE.mk c.AQ c.Now c.A0 c.AG c.AH (ae (c.BB.length-aQ 1) (aq (aQ 1) c.BB)) (c.A9.set e.toNat E),0,[]))) (bd (at? c.A9 e) fun L=>bd (at? c.A9 e) fun g=>bd (rV c g) fun a=>bd (at? a.fst.A9 e) fun q=>bd (at? a.fst.A9 e) fun y=>some (AE.mk a.fst.AQ a.fst.Now a.fst.A0 a.fst.AG a.fst.AH a.fst.BB (a.fst.A9.set e.toNat (-1)),0,a.snd)))
def ln:=gZ AHV Aqp Zq ["TuFAPT87v62aLQAU0sp14uPvngRG3jKkK6G0tYjqFUyG90GxC5ujNJcPoZQP1an4L9FPD9IvZh0aBwxC","hYoXE8Lp6lHgoEs4EFtadRu7Cd91YKbW34EF1TKMGcEPyJv4CaqZq4LDxXwwpqfXRc1cvOr1YWiQgd2B","gTXm96qNkuEudf26CcALl5qn"] [ARR,wy,xH] (A4 AQi)
def jW(e:AE×B6):AA (AE×B6):=let (a,c):=e;some (a,c)
def AQj(c:AE)(a:B3):AA (AE×B6):=bd (iW c a) fun h=>br (h != 0) (bd (AJw c) fun G=>some (G,B6.mk h [])) (br (a.Kind==1) (bd (AKS c a.Id a.Ab a.Bu a.BE a.DJ) fun j=>jn jW (j.fst,B6.mk j.snd [])) (br (a.Kind==2) (bd (AKZ c a.Id) fun q=>jn jW (q.fst,B6.mk q.snd [])) (br (a.Kind==3) (bd (AKb c a.Ab a.BE) fun y=>jn jW (y.fst,B6.mk y.snd [])) (br (a.Kind==4) (bd (bL c a.Id) fun B=>jn jW (B.fst,B6.mk B.snd [])) (br (a.Kind==5) (bd (AXd c a.Id) fun E=>jn jW (E.fst,B6.mk E.snd [])) (br (a.Kind==6) (bd (AXe c) fun g=>jn jW (g.fst,B6.mk g.snd [])) (bd (AQi c a.Id) fun e=>jn jW (e.fst,B6.mk e.snd.fst e.snd.snd))))))))
def AG5:=gZ Aef Aqq Aqt ["2jo8AYp0RbavxNWBC3rfnIt7vQcgns7l6LAkN7ouFogzUnGRwqZuGxQiyb0e3Ph3hojrPzsLlLrGRj90","y62TGNnTuGudpH7kiQhGwF11TP6tTM6sDgOp7ix007Bl8A42B3NMor0uPyPpzTg8vBcoIFKe66oHfHbk","Dlb1lsyDPpKrxleDnt6hfj5ErD6G1EXcZ0YXSQCLWOf8SyTAP6IMqG6TqF7CGr9f6YQNFeaar6xI6AZO","OJmJAifEs83dCDqXwHF8HilW9mJESpkfIZVIAU3uDHXK0vs0U0FuAkVEc8AZmKBLyxWcHwgfC1wbo3La","PHdQpS71vzh69JRJTsUpiG4eVfqrCsMpBGTib9feqxj05H1kwkVr0G6KREMp8e"] [wy,ARR,AGf,AGp,AGr,lh,lV,lW,ln] (A4 AQj)
def Ao4(e:List B6×AE):AA (AE×(List B6)):=let (a,c):=e;some (c,a)
def Anl(g:List B3)(j:List B6×Int×AE->AA (AE×List B6))(y:List B6×Int×AE):AA (AE×(List B6)):=let (a,c,h):=y;br (decide (c<g.length)) (bd (at? g c) fun q=>bd (AQj h q) fun e=>gd (an a+[e.snd].length<=lim) (j (a++[e.snd],w64 (c+1),e.fst))) (jn Ao4 (a,h))
def AKl(a:AE)(c:List B3):AA (AE×(List B6)):=bd (AJw a) fun e=>BD (Anl c) big ([],0,e)
def AG6:=gZ xV Aqr xc ["9XrLXHMwCmlK5uIdgWVpyhDKdimoStq01u9ONlNk0GK7aiJsZO4VnPI5Q6QLPO6igoVeUUbGRfhgbNHG","OqQJ9JzDsP8Rm5JxYPS6LtDC6stQqTHVHxODeZsZLGZ51sfH1GmKnH8YGitkzZNkOsw"] [ARR,AG5] (A4 AKl)
end Lv
set_option maxRecDepth 100000
namespace Lv
open Go (IntKind BinOp UnOp)
open Y (YF qn qf qt qr q1 qd qm qa qo ql qL qb qi qx qp qq qc qz qe qk qK qB qw qu qj Kp wn wf wt w1 sw sq sr wm wM wo wO wl wL wk wK wz wZ wx wX wb wB wi wI wr wR wq wQ we wE wc wY wj wh cv ca cx cn ce bl)
def XC(a:Ap):AA (Ap×(List B6)):=bd (AJx a) fun c=>bd (Wa a) fun g=>br (!g) (some (c,[])) (bd (ABM a.BH.Log) fun h=>bd (AKl a.BO a.Laid) fun e=>some (Ap.mk e.fst (BZ.mk h c.BH.DW c.BH.Odd) c.Seq [],e.snd))
def Ss:=gZ Ma (.ret [(.st 11),(.l (.st 12))]) Agq ["34bwXQCyYiDd7w0LFoAq1tAEOW1dHTu9ySwN4k6k2xOh5Hg5jLR03WCx1LnMTUsdK7HJPBB173QbMfds","LeTMLuwTQttpmGJeiz7rGWFkyS2dLIWercfDl"] [ARS,VQ,wD,AG6] (Bc XC)
def Akh(a:Bp)(c:Int)(e:Bool):AA (Bp×Bool):=br e (some (a,false)) (gd (0<=c/\c<=a.Data.length) (some (Bp.mk (aq c.toNat a.Data) (w64 ((↑a.Data.length:Int)-c)),true)))
def Alq(a:Bp)(c:Int):AA (Bp×Bool):=bd (cP a) fun e=>br (!e) (jn (Akh a c) true) (bd (Eh c 0 (↑a.Data.length:Int)) fun g=>br (!g) (jn (Akh a c) true) (jn (Akh a c) (decide (a.Safe<a.Data.length))))
def AlR(a:BZ):AA BZ:=some a
def AlC(a:BZ)(e:Int)(c:Bp):AA BZ:=br (e.tmod 2==0) (jn AlR (BZ.mk a.Log c a.Odd)) (jn AlR (BZ.mk a.Log a.DW c))
def eo(e:Ap)(j:Int)(y:Bool×Ap×Bp):AA (Ap×Bool):=let (g,a,h):=y;br (!g) (bd (ch e) fun q=>some (q,false)) (bd (AlC a.BH (w64 (1-j)) h) fun c=>some (Ap.mk a.BO c a.Seq a.Laid,true))
def z6(a:Ap)(j:Int)(c:Ap)(H:Bool):AA (Ap×Bool):=br H (some (c,false)) (bd (AkF a.BH) fun e=>br (decide (e<0)) (some (c,false)) (bd (Aku a.BH (w64 (1-e))) fun G=>br (j==0) (jn (eo a e) (true,c,Bp.mk [] 0)) (br (j==1) (bd (AkQ a.BO a.Seq) fun q=>bd (Aj3 G q) fun g=>jn (eo a e) (g.snd,c,g.fst)) (br (j==2) (bd (Aky G) fun y=>jn (eo a e) (true,c,y)) (bd (ay a.BH e) fun B=>bd (AlA a.BH B.snd.fst) fun E=>bd (Alq a.BH.Log E) fun h=>jn (eo a e) (h.snd,Ap.mk c.BO (BZ.mk h.fst c.BH.DW c.BH.Odd) c.Seq c.Laid,G))))))
def Ak4(a:Ap)(c:Int):AA (Ap×Bool):=bd (ch a) fun e=>bd (uc a) fun h=>br (!h) (jn (z6 a c e) true) (br (decide ((↑a.Laid.length:Int)>0)) (jn (z6 a c e) true) (bd (Eh c 0 3) fun g=>jn (z6 a c e) (!g)))
def jY(a:BZ):AA BZ:=some a
def AKm(a:BZ)(e:Int)(c:Bp):AA BZ:=br (e.tmod 2==0) (jn jY (BZ.mk a.Log c a.Odd)) (jn jY (BZ.mk a.Log a.DW c))
def AG7:=gZ [.v (.st 10),.v .i,.v (.st 9)] (.ret [(.st 10)]) [.cell 6 (some 6)] ["39xzbM4mo4rpUDWnmnXVudJz8loiBCIRrB7cG2zMjXIoejKL"] [] (Gq AKm)
def AmK(a:Bp)(c:Int)(e:Bool):AA (Bp×Bool):=br e (some (a,false)) (gd (0<=c/\c<=a.Data.length) (some (Bp.mk (aq c.toNat a.Data) (w64 ((↑a.Data.length:Int)-c)),true)))
def ACc(a:Bp)(c:Int):AA (Bp×Bool):=bd (Pg a) fun e=>br (!e) (jn (AmK a c) true) (bd (C5 c 0 (↑a.Data.length:Int)) fun g=>br (!g) (jn (AmK a c) true) (jn (AmK a c) (a.Safe != a.Data.length)))
def xI:=gZ ASc Qv ApH ["6yXYrFpRXTBnPLNLfXAONi8QVCnwd12CGDjklLK4t9YNmNDGYcFa3uqJ3xX5QNkLIlXaCamWDZ3WdL9W","497AO2xf61VSy"] [Qt,Et] (A4 ACc)
def ACd(e:Bool×Ap):AA (Ap×Bool):=let (a,c):=e;some (c,a)
def AeP(c:Ap)(j:Int)(a:Ap)(h:Int)(I:Bool):AA (Ap×Bool):=br I (some (a,false)) (bd (AJ7 c.BH (w64 (1-h))) fun H=>br (j==0) (bd (AKm c.BH (w64 (1-h)) (Bp.mk [] 0)) fun J=>jn ACd (true,Ap.mk a.BO J a.Seq a.Laid)) (br (j==1) (bd (ABB c.BO c.Seq) fun L=>bd (Uc H L) fun e=>bd (AKm c.BH (w64 (1-h)) e.fst) fun q=>jn ACd (e.snd,Ap.mk a.BO q a.Seq a.Laid)) (br (j==2) (bd (ABM H) fun y=>bd (AKm c.BH (w64 (1-h)) y) fun B=>jn ACd (true,Ap.mk a.BO B a.Seq a.Laid)) (bd (AJ9 c.BH h) fun E=>bd (ga c.BH E.snd.fst) fun G=>bd (ACc c.BH.Log G) fun g=>jn ACd (g.snd,Ap.mk a.BO (BZ.mk g.fst a.BH.DW a.BH.Odd) a.Seq a.Laid)))))
def AKn(a:Ap)(c:Int):AA (Ap×Bool):=bd (AJx a) fun g=>bd (ABz a.BH) fun e=>bd (Wa a) fun j=>br (!j) (jn (AeP a c g e) true) (br (decide ((↑a.Laid.length:Int)>0)) (jn (AeP a c g e) true) (bd (Mv c 4) fun h=>br (!h) (jn (AeP a c g e) true) (jn (AeP a c g e) (decide (e<0)))))
def AG8:=gZ [.v (.st 11),.v .i] Agn mK ["1K7NdvLsfNByXNVwtwT99Ksej7II0EOvcSDKzVFgM4SoAeWdZ61ZFJ28hA73v0c0hCpoUnNzOLp23JP9","YR798KJ7YSKINsH5ZIcV1y0IaOXhW2eEFEObH89MolCvCPvbuH8ueNI3pkJ4QYEsQ4xrWkSkPEzzqryb","YtafiMZ5MaV56vncAjSaXlaaqMKkTV5yiFDRm4dwrreNtVo7GgipZEOpzItnHgA8t9RAN9oLTOllEIcO","ff0w2eXsYTczPguyGYvd9rDHwlqf4DpHR5ZzELiMODqgtshCFoJlUemEqYgPAogBW7BcTO4tkpQcJjmy","Q0BfUgFOs1sucas1QFVdwFj31TXV8fDkaPugXQ5GPO550MhDHzJnmDDB"] [ARS,wV,VQ,Oy,ARX,AG7,AF2,lI,wD,wT,lL,xI] (A4 AKn)
def Alo(a:Ap):AA (Ap×Bool):=some (a,true)
def Akf(h:Int)(g:Int×Ap->AA (Ap×Bool))(q:Int×Ap):AA (Ap×Bool):=let (a,c):=q;bd (AkG h 4) fun j=>br (decide (a<j)) (bd (Ak4 c a) fun e=>br (!e.snd) (some (c,false)) (g (w64 (a+1),e.fst))) (jn Alo c)
def AlP(a:Ap)(c:Int):AA (Ap×Bool):=bd (ch a) fun e=>BD (Akf c) big (0,e)
def rW(a c e:Int):AA Int:=some (if false=true then if e>if true=true then if c>a then c else a else if c<a then c else a then e else if true=true then if c>a then c else a else if c<a then c else a else if e<if true=true then if c>a then c else a else if c<a then c else a then e else if true=true then if c>a then c else a else if c<a then c else a)
def lq:=gZ ASW C9 Ui ["O5HgZWAf3VM5vqQ"] [] (Gq rW) [.mm 9 true (.tmp 7) (.tmp 8),.mm 11 false (.tmp 9) (.tmp 10)]
def Ao5(a:Ap):AA (Ap×Bool):=some (a,true)
def AmL(h:Int)(g:Int×Ap->AA (Ap×Bool))(q:Int×Ap):AA (Ap×Bool):=let (a,c):=q;bd (rW h 0 4) fun j=>br (decide (a<j)) (bd (AKn c a) fun e=>br (!e.snd) (some (c,false)) (g (w64 (a+1),e.fst))) (jn Ao5 c)
def AQk(a:Ap)(c:Int):AA (Ap×Bool):=bd (AJx a) fun e=>BD (AmL c) big (0,e)
def lu:=gZ [.v (.st 11),.v .i] Agn mK ["l2fw5IQc38KCoVILuJN0GM0dnD1HjCE5IwOPar3EXgmHWhTa7YQbHZX9yNJaurzp7K5Ifw6EGJ1SnIuH","RgA0dqO70dZySlzl0kcEko0daenqiVXiJOT1j"] [ARS,lq,AG8] (A4 AQk)
def Ak2(a:Int×List Br×Int->AA (List Br))(c:Int)(h:Int×List Br):AA (List Br):=let (e,g):=h;a (e,g,w64 (c+1))
def Ak3(a:List Br):AA (List Br):=some a
def Alm(c:List Br)(q:Int×List Br×Int->AA (List Br))(E:Int×List Br×Int):AA (List Br):=let (h,e,a):=E;br (decide (a<c.length)) (bd (at? c a) fun y=>br (decide (y.Seq<=h)) (jn (Ak2 q a) (h,e)) (bd (at? c a) fun B=>br (w64 (B.Seq-1) != h) (jn Ak3 e) (bd (at? c a) fun j=>bd (at? c a) fun g=>gd (an e+[g].length<=lim) (jn (Ak2 q a) (j.Seq,e++[g]))))) (jn Ak3 e)
def Alj(a:List Br)(c:Int):AA (List Br):=BD (Alm a) big (c,[],0)
def AkK(c:BZ)(h:Int)(g:Bool):AA (AE×Int×Bool):=br g (some (AE.mk (Aa.mk [] 0 0 0 0 0 0 0 0) 0 0 [] [] [] [],0,false)) (bd (ay c h) fun a=>bd (AkL c.Log.Data) fun j=>bd (Alj j a.snd.fst) fun q=>bd (AlB q) fun e=>bd (MG a.fst e) fun y=>some (y.fst,w64 (a.snd.fst+(↑(an e):Int)),true))
def Akq(a:BZ):AA (AE×Int×Bool):=bd (AkF a) fun c=>bd (ANJ a) fun e=>br (!e) (jn (AkK a c) true) (jn (AkK a c) (decide (c<0)))
def Akw(a:Bp):AA Bool:=some (a.Safe==a.Data.length)
def AkT(a:Bool):AA Bool:=some a
def Aln(a:BZ):AA Bool:=bd (Akw a.Log) fun c=>br c (bd (Akw a.DW) fun e=>br e (bd (Akw a.Odd) fun g=>jn AkT g) (jn AkT false)) (jn AkT false)
def AlH(g:List Br)(h:Int×Int×Int->AA Int)(c a:Int):AA Int:=bd (at? g c) fun j=>bd (at? g c) fun e=>h (a,e.Next,w64 (c+1))
def Alr(a:Int):AA Int:=some a
def AlI(c:List Br)(B:Int×Int×Int->AA Int)(I:Int×Int×Int):AA Int:=let (e,g,a):=I;br (decide (a<(an c))) (bd (at? c a) fun E=>bd (at? c a) fun h=>br (decide (h.Seq>w64 (e+1))) (some g) (bd (at? c a) fun G=>bd (at? c a) fun j=>br (j.Seq==w64 (e+1)) (bd (at? c a) fun H=>bd (at? c a) fun q=>bd (AkA q.Body) fun y=>br (!y.snd) (some g) (jn (AlH c B a) (w64 (e+1)))) (jn (AlH c B a) e))) (jn Alr g)
def AlG(a:BZ)(e:Int)(c:Bool):AA Int:=br c (some 0) (bd (ay a e) fun g=>bd (AkL a.Log.Data) fun h=>BD (AlI h) big (g.snd.fst,0,0))
def AlS(a:BZ):AA Int:=bd (AkF a) fun c=>bd (ANJ a) fun e=>br (!e) (jn (AlG a c) true) (jn (AlG a c) (decide (c<0)))
def AlF(a:Bp)(c:Int)(e:Bool):AA (Bp×Bool):=br e (some (a,false)) (gd (0<=c/\c<=a.Data.length) (bd (AkG a.Safe c) fun g=>some (Bp.mk (ae c.toNat a.Data) g,true)))
def Akz(a:Bp)(c:Int):AA (Bp×Bool):=bd (cP a) fun e=>br (!e) (jn (AlF a c) true) (bd (Eh c 0 (↑a.Data.length:Int)) fun g=>jn (AlF a c) (!g))
def Ak9(a:BZ)(e:AE×Int×Bool)(h:Bool):AA (Ap×Bool):=br h (some (Ap.mk (AE.mk (Aa.mk [] 0 0 0 0 0 0 0 0) 0 0 [] [] [] []) (BZ.mk (Bp.mk [] 0) (Bp.mk [] 0) (Bp.mk [] 0)) 0 [],false)) (bd (AlS a) fun g=>bd (Akz a.Log g) fun c=>bd (Akz a.Log g) fun j=>PQ c.fst j.fst (bd (AlS a) fun q=>bd (Akz a.Log q) fun y=>PQ c.fst y.fst (bd (Aky c.fst) fun B=>some (Ap.mk e.fst (BZ.mk B a.DW a.Odd) e.snd.fst [],true))))
def AlL(a:BZ):AA (Ap×Bool):=bd (Akq a) fun c=>br (!c.snd.snd) (jn (Ak9 a c) true) (bd (Aln a) fun e=>jn (Ak9 a c) (!e))
def ja(c:BZ)(h:Int)(g:Bool):AA (AE×Int×Bool):=br g (some (AE.mk (Aa.mk [] 0 0 0 0 0 0 0 0) 0 0 [] [] [] [],0,false)) (bd (AJ9 c h) fun a=>bd (Wj c.Log.Data) fun j=>bd (ABp j a.snd.fst) fun q=>bd (AJz q) fun e=>bd (AKl a.fst e) fun y=>some (y.fst,w64 (a.snd.fst+(↑(an e):Int)),true))
def AQl(a:BZ):AA (AE×Int×Bool):=bd (ABz a) fun c=>bd (AA0 a) fun e=>br (!e) (jn (ja a c) true) (jn (ja a c) (decide (c<0)))
def AG9:=gZ ASb Abm Aqs ["7rUVZl9XFBrjaEx1fIad0ECXvaN9yp0rkVqbBBdkoBAmCq83PFZIIS1UuomAhYKSvQ3fb3V9eLRbyjhN","kwErOglqnQChzbkncP5jiUNCVJAOfMsSe70rM19lYmjJuabQHcex36tFs04Hvj3nuBVNC"] [wV,vn,wT,lK,wP,AGD,AG6] (Bc AQl)
def AeQ(a:Bool):AA Bool:=some a
def ACf(a:BZ):AA Bool:=br (a.Log.Safe==a.Log.Data.length) (br (a.DW.Safe==a.DW.Data.length) (jn AeQ (a.Odd.Safe==a.Odd.Data.length)) (jn AeQ false)) (jn AeQ false)
def xJ:=gZ ASb C1 DA ["oGltGfsxvy4FbHvkLbq4mxeoBzh1d8LvxuTOHypOF0m8Du0tboDd1TpCm7FwRQdjC3QQG7zfcYc"] [] (Bc ACf)
def Ann(a:Int):AA Int:=some a
def Ano(g:Int×Int×Int->AA Int)(a:Int)(e:Br)(c:Int):AA Int:=g (c,e.Next,w64 (a+1))
def Anm(h:Int×Int×Int->AA Int)(j a c:Int)(g:Br)(e:Bool):AA Int:=br e (jn Ann a) (jn (Ano h c g) (w64 (j+1)))
def Ao6(q:AE×Int×Bool)(j:List Br)(h:Int×Int×Int->AA Int)(B:Int×Int×Int):AA Int:=let (g,e,a):=B;br (decide (a<(an j))) (bd (at? j a) fun y=>bd (at? j a) fun c=>br (decide (c.Seq>g)) (br (c.Seq != w64 (g+1)) (jn (Anm h g e a c) true) (jn (Anm h g e a c) (decide (c.Seq>q.snd.fst)))) (jn (Ano h a c) g)) (jn Ann e)
def AQm(a:BZ):AA Int:=bd (AQl a) fun e=>br (!e.snd.snd) (some 0) (bd (ABz a) fun g=>bd (AJ9 a g) fun c=>bd (AJ9 a g) fun h=>eqv c.snd.fst h.snd.fst (Jz c.fst h.fst (bd (ABz a) fun q=>bd (AJ9 a q) fun j=>eqv c.snd.fst j.snd.fst (Jz c.fst j.fst (bd (Wj a.Log.Data) fun y=>BD (Ao6 e y) big (c.snd.fst,0,0))))))
def l9:=gZ ASb C9 DA ["6M4BXS7W1EqfmaZdGeQGchcijro1NAX91YJ84KLXVd5VwSZIRYaR3tp1lCQKQLrVhlFnPRU0jA7kchrV","809uYrKorrXvk2AsqONZckSf66jmHrrpLIunoe6e71qWQM9sq817QTB9gZXU6aiRf3KFZtyolGQUmvCL","ZdlnsTO6oE2HZoo4gw6gwO8DA1TG93nyDvjUfUbgwWXzMsUl5tUGchwqetFNNxK7KwGsuDcKcExcUKpW","5GZd0yrcwA8f1Lv8Z2vBK8P9m6qXIo73a7inkC60hnWgdfrGODmyyv7J8e9yz1pDvhOG8X"] [AG9,wV,wT,lK] (Bc AQm)
def jc(a:Bp)(c:Int)(e:Bool):AA (Bp×Bool):=br e (some (a,false)) (gd (0<=c/\c<=a.Data.length) (some (Bp.mk (ae c.toNat a.Data) (if false=true then if c>a.Safe then c else a.Safe else if c<a.Safe then c else a.Safe),true)))
def AQn(a:Bp)(c:Int):AA (Bp×Bool):=bd (Pg a) fun e=>br (!e) (jn (jc a c) true) (bd (C5 c 0 (↑a.Data.length:Int)) fun g=>jn (jc a c) (!g))
def AHA:=gZ ASc Qv ApH ["1F4NHCbVORbchDO1MmNLfe2AFwpDAIGZMI2Q43Z9A2DGsP2CtRcMt5NdwbD4RM3eZLNR39"] [Qt,Et] (A4 AQn) [.mm 25 false (.tmp 23) (.tmp 24)]
def AcQ(a:BZ)(e:AE×Int×Bool)(h:Bool):AA (Ap×Bool):=br h (some (Ap.mk (AE.mk (Aa.mk [] 0 0 0 0 0 0 0 0) 0 0 [] [] [] []) (BZ.mk (Bp.mk [] 0) (Bp.mk [] 0) (Bp.mk [] 0)) 0 [],false)) (bd (AQm a) fun g=>bd (AQn a.Log g) fun c=>bd (AQn a.Log g) fun j=>PQ c.fst j.fst (bd (AQm a) fun q=>bd (AQn a.Log q) fun y=>PQ c.fst y.fst (bd (ABM c.fst) fun B=>some (Ap.mk e.fst (BZ.mk B a.DW a.Odd) e.snd.fst [],true))))
def rX(a:BZ):AA (Ap×Bool):=bd (AQl a) fun c=>br (!c.snd.snd) (jn (AcQ a c) true) (bd (ACf a) fun e=>jn (AcQ a c) (!e))
def mA:=gZ ASb Agn Agq ["6jfjzi78MNsRWcqXibvOqPWiAX0rx2GB0w868FLcbnUroD6FiLCqWFeeCghFCYX9Nk8x18aZN4Eicg1Z","m5YAIZTFacEciWTFqxkurKq0OI16ptW58PCH0QxB4U6y0jKbx4FbZhUwAnRULytGrOfXorB5qHENzEXE","iNtQpyRr37N8rpqHLFf7Ov3F7gg77NtI8eCSrzMEFM6T1l62rCCrs6MgU2Ixk"] [AG9,xJ,l9,AHA,wD] (Bc rX)
end Lv
set_option maxRecDepth 100000
namespace Lv
open Go (IntKind BinOp UnOp)
open Y (YF qn qf qt qr q1 qd qm qa qo ql qL qb qi qx qp qq qc qz qe qk qK qB qw qu qj Kp wn wf wt w1 sw sq sr wm wM wo wO wl wL wk wK wz wZ wx wX wb wB wi wI wr wR wq wQ we wE wc wY wj wh cv ca cx cn ce bl)
def jd(a:Bool):AA Bool:=some a
def XD(a c:B6):AA Bool:=br (a.Code==c.Code) (bd (AJ6 a.Ids c.Ids) fun e=>jn jd e) (jn jd false)
def mB:=gZ [.v (.st 12),.v (.st 12)] C1 Ca ["QF0hDZ4AG0eYOzry17ngxRZoUxrKyU"] [ARW] (A4 XD)
def cz(a:List Int)(c:Int):AA Int:=br (decide (c<a.length)) (bd (at? a c) fun e=>some e) (some 0)
def Akx(a:Bp)(e:Int):AA Bp:=bd (cP a) fun g=>br (!g) (some a) (bd (AkG e (w64 ((↑a.Data.length:Int)-a.Safe))) fun h=>bd (OL 0 h) fun c=>gd (0<=w64 (a.Safe+c)/\w64 (a.Safe+c)<=a.Data.length) (some (Bp.mk (ae (w64 (a.Safe+c)).toNat a.Data) (w64 (a.Safe+c)))))
def Aks(a:BZ)(c:List Int):AA BZ:=bd (cz c 0) fun e=>bd (Akx a.Log e) fun g=>bd (cz c 1) fun h=>bd (Akx a.DW h) fun j=>bd (cz c 2) fun q=>bd (Akx a.Odd q) fun y=>some (BZ.mk g j y)
def Nm(a:Cf)(e:List Int):AA Int:=bd (uc a.Ao) fun g=>br (!g) (some (-1)) (bd (Aks a.Ao.BH e) fun h=>bd (AlL h) fun c=>br (!c.snd) (some (-1)) (some (w64 (w64 (c.fst.Seq-a.Ao.Seq)+(↑a.Ao.Laid.length:Int)))))
def AKo(a:Bp)(e:Int):AA Bp:=bd (Pg a) fun g=>br (!g) (some a) (bd (rW e 0 (w64 ((↑a.Data.length:Int)-a.Safe))) fun c=>gd (0<=w64 (a.Safe+c)/\w64 (a.Safe+c)<=a.Data.length) (some (Bp.mk (ae (w64 (a.Safe+c)).toNat a.Data) (w64 (a.Safe+c)))))
def AHB:=gZ ASc ApF [.cell 4 (some 2)] ["C3yM5HDWnALCEgzujyZAaVPEjryHASvuaRjhnpOfMDaZfnh1LEVpeBvXIIbjl2zolRy"] [Qt,lq] (A4 AKo)
def AQo(c:BZ)(a:List Int):AA BZ:=bd (at? (ae (aR (aQ 3) 0).length a++aq a.length (aR (aQ 3) 0)) 0) fun B=>bd (at? (ae (aR (aQ 3) 0).length a++aq a.length (aR (aQ 3) 0)) 0) fun e=>bd (at? (ae (aR (aQ 3) 0).length a++aq a.length (aR (aQ 3) 0)) 1) fun E=>bd (at? (ae (aR (aQ 3) 0).length a++aq a.length (aR (aQ 3) 0)) 1) fun g=>bd (at? (ae (aR (aQ 3) 0).length a++aq a.length (aR (aQ 3) 0)) 2) fun G=>bd (at? (ae (aR (aQ 3) 0).length a++aq a.length (aR (aQ 3) 0)) 2) fun h=>bd (AKo c.Log e) fun j=>bd (AKo c.DW g) fun q=>bd (AKo c.Odd h) fun y=>some (BZ.mk j q y)
def mC:=gZ [.v (.st 10),.v (.l .i)] (.ret [(.st 10)]) [.cell 4 (some 6)] ["q5MFtFJeAPfflQK993W1vdXjK0K2vGjti1RamCg5CaFiy67kHkqTZcyaga7oSK3LEtiRf6UkvwMLBqFe","6bE5S9btG8N0Vu"] [AHB] (A4 AQo) [.Ry 6 .i (.k (.int .i64 3)),.cpy 9 .i (.tmp 7) (.tmp 8)]
def AQp(a:Cf)(e:List Int):AA Int:=bd (Wa a.Ao) fun g=>br (!g) (some (-1)) (bd (AQo a.Ao.BH e) fun h=>bd (rX h) fun c=>br (!c.snd) (some (-1)) (some (w64 (w64 (c.fst.Seq-a.Ao.Seq)+(↑a.Ao.Laid.length:Int)))))
def AHC:=gZ [.v (.st 13),.v (.l .i)] C9 Ca ["10ZBLhqCinnnb0BRN7SWA1n84n4tFUyuN2s1mEDmA9mI71X0PtARG6IarTqeLyZ0P1x8uiQQFpjs9Euq","8kRL"] [VQ,mC,mA] (A4 AQp)
def AkM(a:Bool):AA Bool:=some a
def ACX(a c:Aa):AA Bool:=bd (ABv a.AY c.AY) fun e=>br e (br (a.CS==c.CS) (br (a.Room==c.Room) (br (a.BE==c.BE) (br (a.CE==c.CE) (br (a.Bz==c.Bz) (br (a.Rest==c.Rest) (br (a.CY==c.CY) (jn AkM (a.Cu==c.Cu)) (jn AkM false)) (jn AkM false)) (jn AkM false)) (jn AkM false)) (jn AkM false)) (jn AkM false)) (jn AkM false)) (jn AkM false)
def xF:=gZ [.v (.st 1),.v (.st 1)] C1 Ca ["99EkCqm2irq4cz3t8mHfULQoBWI4sFTPYjQtXdgqUSiqpwyqttPtpFI8ckamWQQjgpr6DTQ3Sc4MJn2L","IDQOJyK0D9IfEFe2KPFoCkOE0XueTjqnWioKFZWWV2uPK1ncE1nmBp0C"] [AGK] (A4 ACX)
def AgM(_:PUnit):AA Bool:=some true
def AeD(g j:List AU)(h:Int->AA Bool)(e:Int):AA Bool:=br (decide (e<g.length)) (bd (at? g e) fun a=>bd (at? j e) fun c=>br (!(a.Id==c.Id&&(a.Ab==c.Ab&&(a.Bu==c.Bu&&(a.BE==c.BE&&(a.DJ==c.DJ&&(a.Since==c.Since&&(a.A0==c.A0&&(a.State==c.State&&(a.C7==c.C7&&(a.Dh==c.Dh&&true))))))))))) (some false) (h (w64 (e+1)))) (jn AgM ())
def AKe(a c:List AU):AA Bool:=br ((↑a.length:Int) != c.length) (some false) (BD (AeD a c) big 0)
def AGv:=gZ [.v (.l (.st 2)),.v (.l (.st 2))] C1 Ca ["4FezIpVXgk6kJdF6vcZtPGZUYnimQXX90X4p22mMueNkQTWqwOclbKw6XC6OZ3AILxGOtPB12j"] [] (A4 AKe)
def AmJ(a:Bool):AA Bool:=some a
def AQe(a c:Aw):AA Bool:=bd (Rg a) fun e=>br e (bd (Rg c) fun g=>br g (bd (eU a) fun h=>bd (eU c) fun j=>bd (AAu h j) fun q=>jn AmJ q) (jn AmJ false)) (jn AmJ false)
def lj:=gZ [.v (.st 6),.v (.st 6)] C1 Ca ["1qyWvZXrIZkLBsg0X7eYE8Gi6Q2wHzN1iESDnkavfD8IzYYu3oM2N0"] [VM,kx,vj] (A4 AQe)
def jK(a:Bool):AA Bool:=some a
def AQf(a c:Ae):AA Bool:=bd (px a) fun e=>br e (bd (px c) fun g=>br g (br (a.AY.Total==c.AY.Total&&(a.AY.Dv==c.AY.Dv&&(a.AY.FA==c.AY.FA&&(a.AY.Fm==c.AY.Fm&&(a.AY.F8==c.AY.F8&&true))))) (bd (AAZ a.Row c.Row) fun h=>br h (bd (AQe a.By c.By) fun j=>jn jK j) (jn jK false)) (jn jK false)) (jn jK false)) (jn jK false)
def AGw:=gZ [.v (.st 7),.v (.st 7)] C1 Ca ["1mknV5y8iyAZePmas67H7lenbK88EFAOBsHKuRwPfi4beducmKdLDHH0tXk2NRaYXW51mKvT"] [ve,vX,lj] (A4 AQf)
def Aai:YF:=⟨[AGw],[.v (.l (.st 7)),.v (.l (.st 7)),.f AGw.x []],[0],.ret [.b],[.tmp 6],dY ["2yaZmjTboDwRJK0VWENjr68x31fmmHUJv0uL74m2LlXAkJrS5bdpeiWyGQHlGRqpQmTFl8jwVmbyZHGP","7KIUz8HrYP3cBXlrto1rG2"] [] [.D2 29 (.tmp 26) [.v,.v] [.tmp 27,.tmp 28]]⟩
def Ao1(_:PUnit):AA Bool:=some true
def Ane(c g:List Ae)(e:Int->AA Bool)(a:Int):AA Bool:=br (decide (a<c.length)) (bd (at? c a) fun h=>bd (at? g a) fun j=>bd (AQf h j) fun q=>br (!q) (some false) (e (w64 (a+1)))) (jn Ao1 ())
def AKf(a c:List Ae):AA Bool:=br ((↑a.length:Int) != c.length) (some false) (BD (Ane a c) big 0)
def AGx:GF:=Aai.EI (A4 AKf)
def Ajs:YF:=⟨[AGw],[.v (.st 8),.v (.st 8)],[],.ret [.b],[.tmp 4],dY ["QCcD4Pv2vN1KKykZi2Zm6cyO41crYngLk4cKdCuv7fjmHptGTUmPNggxFkIhz8PsmQOBifnuWiC0TTnu","q7yy9IA3Puwxrnvl97zjgScONOMXLGwFpb7hqQThwtYQSDkVkg6V"] [Qs,xF,AGv,AGK] [.call 58 AGx [0] rfl [.tmp 55,.tmp 57,.fn 0]]⟩
def jL(a:Bool):AA Bool:=some a
def AKg(a c:AE):AA Bool:=bd (Rh a) fun e=>br e (bd (Rh c) fun g=>br g (bd (ACX a.AQ c.AQ) fun h=>br h (br (a.Now==c.Now) (br (a.A0==c.A0) (bd (AKe a.AG c.AG) fun j=>br j (bd (ABv a.BB c.BB) fun q=>br q (bd (ABv a.A9 c.A9) fun y=>br y (bd (AKf a.AH c.AH) fun B=>jn jL B) (jn jL false)) (jn jL false)) (jn jL false)) (jn jL false)) (jn jL false)) (jn jL false)) (jn jL false)) (jn jL false)
def AGy:GF:=Ajs.EI (A4 AKg)
def Ao2(_:PUnit):AA Bool:=some true
def Anf(c g:List B6)(e:Int->AA Bool)(a:Int):AA Bool:=br (decide (a<c.length)) (bd (at? c a) fun h=>bd (at? g a) fun j=>bd (XD h j) fun q=>br (!q) (some false) (e (w64 (a+1)))) (jn Ao2 ())
def AKh(a c:List B6):AA Bool:=br ((↑a.length:Int) != c.length) (some false) (BD (Anf a c) big 0)
def AGz:=gZ [.v (.l (.st 12)),.v (.l (.st 12))] C1 Ca ["1O53pF37zxGRtVkRPe0zRWo0elOsbJMrgGaIovFltORdxWcDRQd85JVUmUfuS4SlLY"] [mB] (A4 AKh)
def AeH(a:Bool):AA Bool:=some a
def jM(a:Cf)(e:Bool):AA Bool:=br e (some false) (bd (AJi a.Ao.BO.AQ) fun g=>bd (MG g.fst a.GS) fun c=>bd (Po c.fst a.Ao.BO) fun h=>br h (bd (AKh c.snd a.Dn) fun j=>jn AeH j) (jn AeH false))
def ACY(a:Cf):AA Bool:=bd (uc a.Ao) fun c=>br (!c) (jn (jM a) true) (jn (jM a) (a.Ao.Seq != w64 ((↑a.GS.length:Int)+(↑a.Ao.Laid.length:Int))))
def xG:=gZ [.v (.st 13)] C1 DA ["5UcA7l6EGzCcKPPbzbZwOAdVEF3HQikbqPNN73JPzF5z411y3vQwtLix0SXxGDYaSD4hvzMRvpfqmM1U","56GQjTkxGwlF8tQnsWjjsNG7MMvF0SYWxewnUFObP6s5oz7BbYUhrs3XxJXq71GR8vte8wsBUS"] [sH,AFo,Nz,VR,AGz] (Bc ACY)
def Ang(a:Bool):AA Bool:=some a
def AKi(a c:B6):AA Bool:=br (a.Code==c.Code) (bd (ABv a.Ids c.Ids) fun e=>jn Ang e) (jn Ang false)
def AG0:=gZ [.v (.st 12),.v (.st 12)] C1 Ca ["QF0hDZ4AG0eYOzry17ngxRZoUxrKyU"] [AGK] (A4 AKi)
def Aju:YF:=⟨[AG0],[.v (.l (.st 12)),.v (.l (.st 12)),.f AG0.x []],[0],.ret [.b],[.tmp 6],dY ["67H62QQENtzQtAKQAFpRmkmBDcn9VDiUe45ip6JinGwWEJSw7ylLpuualXzvqj7kwfnJFrrmCaIUJC8P","djC85kzcZibx48SmfqZ9qP"] [] [.D2 29 (.tmp 26) [.v,.v] [.tmp 27,.tmp 28]]⟩
def jN(_:PUnit):AA Bool:=some true
def XA(c g:List B6)(e:Int->AA Bool)(a:Int):AA Bool:=br (decide (a<c.length)) (bd (at? c a) fun h=>bd (at? g a) fun j=>bd (AKi h j) fun q=>br (!q) (some false) (e (w64 (a+1)))) (jn jN ())
def AKj(a c:List B6):AA Bool:=br ((↑a.length:Int) != c.length) (some false) (BD (XA a c) big 0)
def AG1:GF:=Aju.EI (A4 AKj)
end Lv
set_option maxRecDepth 100000
namespace Lv
open Go (IntKind BinOp UnOp)
open Y (YF qn qf qt qr q1 qd qm qa qo ql qL qb qi qx qp qq qc qz qe qk qK qB qw qu qj Kp wn wf wt w1 sw sq sr wm wM wo wO wl wL wk wK wz wZ wx wX wb wB wi wI wr wR wq wQ we wE wc wY wj wh cv ca cx cn ce bl)
def Ajz:YF:=⟨[AG0],[.v (.st 13)],[],.ret [.b],[.tmp 2],dY ["B1dccu3dsUgW0uWmh7JiOhnJcXZhoFFr37uvH5ehldMqpiH9FilobM6Sf6LNY7wI2g9fiGEC0i0HYnLH","84DJEz9LfFObzkMbCtLdVwhe2eeNONECeM120uNBP4FiSy5Vb6Ph67YWBr4gFoyx2h7bDCzYpbLebb"] [VQ,AF7,AG6,AGy] [.call 49 AG1 [0] rfl [.tmp 46,.tmp 48,.fn 0]]⟩
def Anp(a:Bool):AA Bool:=some a
def jt(a:Cf)(e:Bool):AA Bool:=br e (some false) (bd (AJr a.Ao.BO.AQ) fun g=>bd (AKl g.fst a.GS) fun c=>bd (AKg c.fst a.Ao.BO) fun h=>br h (bd (AKj c.snd a.Dn) fun j=>jn Anp j) (jn Anp false))
def ACm(a:Cf):AA Bool:=bd (Wa a.Ao) fun c=>br (!c) (jn (jt a) true) (jn (jt a) (a.Ao.Seq != w64 ((↑a.GS.length:Int)+(↑a.Ao.Laid.length:Int))))
def xM:GF:=Ajz.EI (Bc ACm)
end Lv
