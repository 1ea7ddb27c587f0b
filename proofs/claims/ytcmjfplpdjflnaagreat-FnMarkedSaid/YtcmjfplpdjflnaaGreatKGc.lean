/- Functions of the program as typed texts and as plain functions. -/
import Derived.Test.YtcmjfplpdjflnaaGreatKEc
open Int renaming toNat->s0
open List renaming length->g0,take->an,drop->n4,replicate->s3
noncomputable section
set_option linter.unusedVariables false
set_option linter.unusedSimpArgs false
set_option linter.unusedSectionVars false
set_option maxRecDepth 100000
namespace Lv
open Go (IntKind BinOp UnOp)
open Y (YF qn qf qt qr q1 qd qm qa qo ql qL qb qi qx qp qq qc qz qe qk qK qB qw qu qj Kp wn wf wt w1 sw sq sr wm wM wo wO wl wL wk wK wz wZ wx wX wb wB wi wI wr wR wq wQ we wE wc wY wj wh cv ca cx cn ce bl)
def AV9(a:(C.l (.st 2)).D)(c:Int)(e:(C.l (.st 2)).D):AA (C.l (.st 2)).D:=nL (.st 2) a c e
def AEf:GF:=AW4 (.st 2) rfl
def ANU(a:(C.l (.st 4)).D)(c:Int)(e:(C.l (.st 4)).D):AA (C.l (.st 4)).D:=nL (.st 4) a c e
def AEg:GF:=AW4 (.st 4) rfl
def AWA(a:(C.l (.st 4)).D)(c e:Int):AA (C.l (.st 4)).D:=ABa (.st 4) a c e
def AEh:GF:=AWt (.st 4) rfl rfl
def AWB(a:(C.l (.st 5)).D)(c e:Int):AA (C.l (.st 5)).D:=ABa (.st 5) a c e
def AEo:GF:=AWt (.st 5) rfl rfl
def AWC(a:(C.l (.st 2)).D)(c e:Int):AA (C.l (.st 2)).D:=ABa (.st 2) a c e
def AEp:GF:=AWt (.st 2) rfl rfl
def ig(a:B0):AA B0:=some a
def pQ(a:B0):AA B0:=bd (bW a) fun c=>br c (jn ig (B0.mk a.Data (↑a.Data.length:Int))) (jn ig a)
def AEq:=gZ ug ZK AE3 ["1nmIjQxchArfl8t11l0LPMPweOrWX"] [j9] (Bd pQ)
def ij(a:Af):AA (Af×(List C6)):=bd (aQ a) fun c=>bd (yc a) fun g=>br (!g) (some (c,[])) (bd (pJ a.Bb a.Laid) fun e=>bd (pQ a.A9.Log) fun h=>some (Af.mk e.fst (Bo.mk h c.A9.FH c.A9.Odd) c.Seq [],e.snd))
def kL:=gZ ZC (.ret [(.st 11),(.l (.st 12))]) uw ["yMWqLlY7m60F70LrssvT648HVMVaDxA4Y6XMTpJnxUeVndd3QGi6qJ9VEyq9X2brBdlnDTr08Rd09ARJ","FVIrBqlpdVdZtuKybGPRenkBi9fi1mv"] [kH,py,uK,AEq] (Bd ij)
def ANd(a:AQ)(c:Int):AA Bool:=some (a.Id==c)
def uS:=gZ [.v (.st 2),.p .i] DM [.tmp 3] ["1DkX35Yl6ZKjl2QJ"] [] (BF ANd)
def AZV:YF:=⟨[uS],[.v (.l (.st 2)),.f uS.x [(true,.i)]],[0],.ret [.i],[.tmp 4],dY ["y95PRSvsOPuFqalTqBV6bzhdpDRQhrv45JoS27apGkUZNwDcA0BeOkDHkEJs6yq5w"] [] [.D5 16 (.tmp 11) [.v,.p] [.tmp 15]]⟩
def AA2(_:PUnit):AA Int:=some (-1)
def AA3(e:List AQ)(a:Int)(g:Int->AA Int)(c:Int):AA Int:=br (decide (c<e.length)) (bd (at? e c) fun h=>bd (ANd h a) fun j=>br j (some c) (g (w64 (c+1)))) (jn AA2 ())
def ANe(c:List AQ)(a:Int):AA Int:=BB (AA3 c a) big 0
def APz:GF:=AZV.gf rfl rfl (fun a=>ANe a.1 a.2.1.1) (fun a=>by kernel_rfl)
def AZW:YF:=⟨[uS],[.v (.l (.st 2)),.v .i],[],.ret [.i],[.tmp 4],dY ["1cdwr9EGK7twrI"] [] [.NG 6 0 [.tmp 3],.call 7 APz [0] rfl [.tmp 5,.tmp 6]]⟩
def pR(a:List AQ)(c:Int):AA Int:=bd (ANe a c) fun e=>some e
def uU:GF:=AZW.EY (BF pR)
def Mw(a:AE)(c:Int):AA Int:=bd (pR a.AG c) fun e=>some e
def VG:=gZ Fz DC Cv ["3YTTeOH5iyDsEE6"] [uU] (BF Mw)
def pS(a:AE)(c:Int):AA Int:=bd (at? a.AI c) fun e=>bd (at? a.AI c) fun g=>some (w64 (e.AY.Ff-g.AY.Fw))
def AP0:=gZ Fz DC Cv ["YbfwYP0NpKbuYTsbtUKzqr5tMLvMxbJIa4Soc"] [] (BF pS)
def ik(a:Bool):AA Bool:=some a
def AA4(a:AQ)(c:Int):AA Bool:=br (a.State==2) (jn ik (decide (a.Ci<=c))) (jn ik false)
def AP1:=gZ ui DM Cv ["iZRHMjGltyNYAQfHVz6sOMYp5rbr"] [] (BF AA4)
def I2(_:PUnit):AA Int:=some 0
def il(c:AE)(a:Bool):AA Int:=br a (some 10) (br (decide (c.Av>1000000)) (some 11) (jn I2 ()))
def MH(a:AE)(c:B1)(g:Bool):AA Int:=br g (some 4) (bd (C4 c.BC 1 a.AS.BC) fun h=>br (!h) (some 5) (br (decide (c.Cs>=a.AS.CX)) (some 6) (bd (C4 c.Id 1 999) fun j=>br (!j) (some 7) (bd (Mw a c.Id) fun q=>br (decide (q>=0)) (some 8) (bd (nz a.AG c.Aa) fun y=>br (decide (y>=a.AS.Room)) (some 9) (br (c.Bl != -1) (bd (pS a c.Bl) fun e=>jn (il a) (decide (e<c.BC))) (jn (il a) false)))))))
def iu(a:Bool):AA Int:=br a (some 17) (jn I2 ())
def iq(a:AE)(e:B1)(g:Bool):AA Int:=br g (bd (Mw a e.Id) fun c=>br (decide (c<0)) (some 7) (bd (at? a.AG c) fun h=>br (h.State != 2) (some 13) (bd (at? a.AG c) fun j=>bd (AA4 j a.Now) fun q=>br q (some 14) (jn I2 ())))) (br (e.Kind==6) (br (a.Now==1000000) (some 15) (jn I2 ())) (br (e.Kind==7) (br (decide (e.Id>=a.AS.C5)) (some 16) (bd (at? a.A4 e.Id) fun y=>br (y == -1) (jn iu ((↑a.BA.length:Int)==0)) (jn iu false))) (jn I2 ())))
def Sg(c:AE)(a:B1):AA Int:=bd (Rj c) fun y=>br (!y) (some 1) (bd (C4 a.Kind 1 7) fun B=>br (!B) (some 2) (bd (aN a) fun E=>br (!E) (some 3) (br (a.Kind==1) (bd (Ms a.Aa (↑c.AI.length:Int)) fun G=>br (!G) (jn (MH c a) true) (bd (C4 a.Bl (-1) (w64 ((↑c.AI.length:Int)-1))) fun e=>br (!e) (jn (MH c a) true) (jn (MH c a) (a.Bl==a.Aa)))) (br (a.Kind==2) (bd (Mw c a.Id) fun g=>br (decide (g<0)) (some 7) (jn I2 ())) (br (a.Kind==3) (bd (Ms a.Aa (↑c.AI.length:Int)) fun h=>br (!h) (some 4) (bd (C4 a.BC 1 60) fun j=>br (!j) (some 5) (bd (pS c a.Aa) fun q=>br (decide (q<a.BC)) (some 12) (jn I2 ())))) (br (a.Kind==4) (jn (iq c a) (a.Kind==4)) (jn (iq c a) (a.Kind==5))))))))
def Qw:=gZ kM DC Cv ["181OLNpmH88WuoylTg0fbEqjjUgM7y7hV03Q8cXXdwzGAOounmCLXmy6sTfjtXJ5Ji1MSimbLC5yIq9P","lhaGqZXg1xFQpijsC42rkQd27lRBKZPUAptbYEtcx62edSo4lZBEyBt6WUkVeMNyMZH8t7HEDBdQ8faW","chkMXS7Md9nVkM7Thko9bCrHt0t0aX8HzrUscDiuQQvuv3USraZnlmEL7PeWbyBLKXwr3RJ5zDsuIvQe","YTPcpVFczjFcVI3145GtBN07tJRzp2cBTldBFrWKWWFCgKaNMvXfWytZiJhTmfpC4jDNTCcHzfpZePjM","miiQlGttHX78CUEOozQJCnCe0KPInVcAm4Na4d3G3TqmdVQJq81WHjbCUJo3DJJEhdLTnd9Se5wsMmYH","p7uyYxg7BQqWdYusVaph52iEGfL1wOEVDyF9ZwxduYp8uRtW435BG27hEDbgU098Nij4Tr74cNkBbQAD","BzYnzMKYpqkXqTHqo268dgBa9qf4qiFxZoB9bl7jitBEg5RAc81L69oh8cWTOG0QmUn0xGX5jfAu2BLH","LPQ7HUdG5WsbqQsANVY4d1kdwpouIjjYB2qvynEzpnoTGSb3UEjgtUZoIDp0hWpFr6ksIavfQdtmz2C5","TvwVwiZDJWCbafKQ76Zd7TY2"] [VD,E6,tx,Qu,VG,ta,AP0,AP1] (BF Sg)
def ANf(a c:AQ):AA Bool:=some (decide (a.Id>c.Id))
def uV:=gZ [.v (.st 2),.p (.st 2)] DM [.tmp 3] ["V9qZvijVbE1q0rB"] [] (BF ANf)
def AZX:YF:=⟨[uV],[.v (.l (.st 2)),.f uV.x [(true,(.st 2))]],[0],.ret [.i],[.tmp 4],dY ["y95PRSvsOPuFqalTqBV6bzhdpDRQhrv45JoS27apGkUZNwDcA0BeOkDHkEJs6yq5w"] [] [.D5 16 (.tmp 11) [.v,.p] [.tmp 15]]⟩
def AA5(_:PUnit):AA Int:=some (-1)
def AA6(e:List AQ)(a:AQ)(g:Int->AA Int)(c:Int):AA Int:=br (decide (c<e.length)) (bd (at? e c) fun h=>bd (ANf h a) fun j=>br j (some c) (g (w64 (c+1)))) (jn AA5 ())
def AHz(c:List AQ)(a:AQ):AA Int:=BB (AA6 c a) big 0
def AP2:GF:=AZX.gf rfl rfl (fun a=>AHz a.1 a.2.1.1) (fun a=>by kernel_rfl)
def AZY:YF:=⟨[uV],[.v (.l (.st 2)),.v (.st 2)],[],.ret [(.l (.st 2))],[.tmp 4],dY ["82AGgTLMz9H8Xvbt0qtOLubOtst0EnaGwWnS1oaygNKodVDI2MkZSCqpbm1opxnCdHRGYeKodkthEUFs","ilavhlfG"] [uU,AEf] [.NG 22 0 [.tmp 3],.call 23 AP2 [0] rfl [.tmp 21,.tmp 22]]⟩
def iv(a:List AQ)(c:AQ)(e:Int):AA (List AQ):=bd (AV9 a e [c]) fun g=>some g
def pU(a:List AQ)(c:AQ):AA (List AQ):=gd (0+a.length<=lim) (bd (pR a c.Id) fun e=>br (decide (e>=0)) (bd (at? a e) fun h=>bd (at? a e) fun j=>some (a.set (s0 e) c)) (bd (AHz a c) fun g=>br (decide (g<0)) (jn (iv a c) (↑a.length:Int)) (jn (iv a c) g)))
def uW:GF:=AZY.EY (BF pU)
def iy(c e:List Ai)(a:Bool):AA ((List Ai)×Bool):=br a (some (c,false)) (some (e,true))
def iw(c:List Ai)(q:Ai)(B:List Ai)(y:Int):AA ((List Ai)×Bool):=bd (WV c) fun E=>bd (ANU E y [q]) fun a=>bd (WV c) fun e=>bd (ANU e y [q]) fun g=>eqv a g (bd (n9 c) fun h=>br (!h) (jn (iy B a) true) (bd (n9 a) fun j=>jn (iy B a) (!j)))
def Wz(e:List Ai)(g:Ai)(j:List Ai)(c:Int->AA (List Ai×Bool))(a:Int)(h:Bool):AA ((List Ai)×Bool):=br h (c (w64 (a+1))) (jn (iw e g j) a)
def iz(a:List Ai)(e:Ai)(h:List Ai)(g:Int->AA (List Ai×Bool))(c:Int):AA ((List Ai)×Bool):=br (decide (c<a.length)) (bd (at? a c) fun j=>bd (yl j e) fun q=>jn (Wz a e h g c) q) (jn (Wz a e h g c) false)
def pV(a:List Ai)(c:Ai):AA ((List Ai)×Bool):=bd (WV a) fun e=>BB (iz a c e) big 0
def AEr:=gZ AEz uq vE ["SEnRMoqrYLvYhb5zG91isFYyJpBPhx0GBebILGmBAos2jMiqREn0d0wOdrxvP5iFIKEN181DKP7zUWlj","CMOSvK1KSlXnR9gjcs5YjtPas2swyVlC7namCRFg1FvvaCUH7NdDQNtnIVZy9lM8jZtqfRJpxBgQ2"] [uD,ADx,AEg,ADz] (BF pV)
def ANg(a:BE)(c:Int):AA BE:=some (BE.mk a.Total a.Dh a.Eg a.Ff (w64 (a.Fw+c)))
def uX:=gZ ZH ZN [] ["irwjEGkcTfFR0WAIw1ay4"] [] (BF ANg)
def AaW:=fun (a:GF)=>(⟨[a],[.v (.st 3),.v .i,.f a.x [(true,.i)]],[0],.ret [(.st 3),.b],[.cell 6 (some 5),.tmp 7],dY ["7Enqyu0Qc80tgpfDZQKbBvYrqlRZgRe0mMCaFDU6fPDsZi5TngHe7Tcw0o1MjXYplj5gAqdiMSjdGEiD","r"] [Ss,E6] [.D5 20 (.tmp 19) [.b,.p] [.tmp 8]]⟩:YF)
def AZZ:YF:=AaW uX
def i5(c:BE)(a:Int)(g:Bool):AA (BE×Bool):=br g (some (c,false)) (bd (ANg c a) fun e=>bd (Mu e) fun h=>br (!h) (some (c,false)) (some (e,true)))
def ANh(c:BE)(e a:Int):AA (BE×Bool):=bd (Mu c) fun g=>br (!g) (jn (i5 c a) true) (bd (C4 e 0 60) fun h=>jn (i5 c a) (!h))
def AP3:GF:=AZZ.gf rfl rfl (fun a=>ANh a.1 a.2.1 a.2.2.1.1) (fun a=>by kernel_rfl)
def AZa:YF:=⟨[uX],[.v (.st 3),.v .i],[],.ret [(.st 3),.b],[.cell 4 (some 5),.tmp 5],dY ["1K6Lq9TqvV3aXqq7rL1QSxlcPgS"] [] [.NG 8 0 [.tmp 3],.call 9 AP3 [0] rfl [.tmp 6,.tmp 7,.tmp 8]]⟩
def AH0(e:BE)(a:Int):AA (BE×Bool):=bd (ANh e a a) fun c=>some (c.fst,c.snd)
def AP4:GF:=AZa.EY (BF AH0)
def i6(a:List Int):AA (List Int):=some a
def W0(e:List Int)(a:Int):AA (List Int):=bd (Kk e) fun c=>bd (oF e a) fun g=>br (!g) (gd (g0 c+[a].length<=lim) (jn i6 (c++[a]))) (jn i6 c)
def VH:=gZ qC O8 Cv ["3HapaKacowGPEUkcuXpGakCfvCZ2v3jHS2PMnt"] [Y8,tu] (BF W0)
def i7(e:Int)(a:AE):AA (AE×Int):=bd (W0 a.BA e) fun c=>some (AE.mk a.AS a.Now a.Av a.AG a.AI c a.A4,0)
def AH1(h:AE)(B c g y E:Int):AA (AE×Int):=bd (Ns h) fun a=>bd (Sg h (B1.mk 1 B c g y E)) fun I=>br (I != 0) (some (a,I)) (bd (pU a.AG (AQ.mk B c g y E h.Now h.Av 1 0 0)) fun J=>bd (oC a.AS (AQ.mk B c g y E h.Now h.Av 1 0 0) a.Now) fun Q=>bd (at? a.AI c) fun X=>bd (at? a.AI c) fun S=>bd (pV S.Row Q.fst) fun j=>bd (at? a.AI c) fun Y=>bd (at? a.AI c) fun e=>br (g != -1) (bd (at? (a.AI.set c.toNat (Ae.mk e.AY j.fst e.By)) g) fun L=>bd (at? (a.AI.set c.toNat (Ae.mk e.AY j.fst e.By)) g) fun G=>bd (AH0 G.AY y) fun H=>bd (at? (a.AI.set c.toNat (Ae.mk e.AY j.fst e.By)) g) fun O=>bd (at? (a.AI.set c.toNat (Ae.mk e.AY j.fst e.By)) g) fun q=>jn (i7 c) (AE.mk a.AS a.Now (w64 (a.Av+1)) J ((a.AI.set c.toNat (Ae.mk e.AY j.fst e.By)).set g.toNat (Ae.mk H.fst q.Row q.By)) a.BA a.A4)) (jn (i7 c) (AE.mk a.AS a.Now (w64 (a.Av+1)) J (a.AI.set c.toNat (Ae.mk e.AY j.fst e.By)) a.BA a.A4)))
def AP5:=gZ AQ6 Kn ARE ["9Yw6rXXpbRr6SjqCktd6yj2pn6e1a2KA01DUjPHEedRESQqe9WlfPTIqj96leay1N5Y0S9igwgCHlXIV","keOXjdO3cnCMJK4hVMyayi6Gs3gOsW2nQXJmsOz0GJ2dkwNGxWV6shzwzVK2v033wokKsMKmXltEabWp","CXemLhsS4ZTHMXOtoqMSaVuSVvR778ddTghNAkDZrS7XJdQS8Z1wZUsJkKAdJF9zmq7ZaG1RWvVcNC68","E11t5Lyu94aQlVcVziL7ZGc8GdrSmOFLcbUPFyxWjAvDLY1HOc0k1RANTNFt"] [LV,Qw,uW,th,AEr,AP4,VH] (AGF AH1)
def AA7(c:List Ai)(g:Int):AA ((List Ai)×Bool):=bd (WV c) fun e=>bd (n8 c g) fun a=>br (decide (a<0)) (some (e,false)) (bd (AWA e a (w64 (a+1))) fun h=>some (h,true))
def AEs:=gZ AEy uq vE ["2anI39Nh9NED1OlQ5RVf3PHTeyeTCoeg4234hMW5Jfbf56aFZR"] [uD,ADy,AEh] (BF AA7)
def AA8(_:PUnit):AA Int:=some (-1)
def AA9(c:List BO)(e:BO)(h:Int->AA Int)(a:Int):AA Int:=br (decide (a<c.length)) (bd (at? c a) fun g=>br (e.At==g.At&&(e.Id==g.Id&&true)) (some a) (h (w64 (a+1)))) (jn AA8 ())
def AH2(a:List BO)(c:BO):AA Int:=BB (AA9 a c) big 0
def AP6:=gZ AQ3 DC Cv ["9oYgfbAaK98ESmYvwosUuj9wIwrxfd7eh1tS9YjHWd0n0zXn4GEij3QkgFR6kTqUL"] [] (BF AH2)
def jA(a:BO)(c:Aq)(h:Bool):AA (Aq×Bool):=br h (some (c,false)) (bd (at? c.Am (a.At.tmod 9)) fun q=>bd (at? c.Am (a.At.tmod 9)) fun g=>bd (AH2 g a) fun e=>br (decide (e<0)) (some (c,false)) (bd (AWB g e (w64 (e+1))) fun j=>bd (at? c.Am (a.At.tmod 9)) fun y=>bd (at? c.Am (a.At.tmod 9)) fun B=>gd (Y.Mc (a.At.tmod 9).toNat 0 1 [((a.At.tmod 9).toNat,0)]) (some (Aq.mk (c.Am.set (a.At.tmod 9).toNat j),true))))
def pW(e:Aq)(a:BO):AA (Aq×Bool):=bd (fb e) fun g=>bd (Ri e) fun h=>br (!h) (jn (jA a g) true) (bd (oA a) fun c=>jn (jA a g) (!c))
def uY:=gZ uh ZL uz ["HApqjBAgiMXDBNk4Y7fT35iURLXqcp4U2s8HqeN2m7fhdBj2cJFS8NeKmQq54zlTe8WwL2PlCzsbuo6r","gifFEqKRtsjuXVuq9li1IuSPE6oKwOu8gfAIsWgKLKXGavdnwyeipXxJGd"] [uE,kE,tf,AP6,AEo] (BF pW)
def ANi(a:BE)(c:Int):AA BE:=some (BE.mk a.Total (w64 (a.Dh+c)) (w64 (a.Eg-c)) a.Ff a.Fw)
def uZ:=gZ ZH ZN [] ["3RG6Y51ycYjqOHMfZKBrska7AjPvcUIh08B5zMw3"] [] (BF ANi)
def AZb:YF:=AaW uZ
def jB(c:BE)(a:Int)(g:Bool):AA (BE×Bool):=br g (some (c,false)) (bd (ANi c a) fun e=>bd (Mu e) fun h=>br (!h) (some (c,false)) (some (e,true)))
def ANj(c:BE)(e a:Int):AA (BE×Bool):=bd (Mu c) fun g=>br (!g) (jn (jB c a) true) (bd (C4 e 0 60) fun h=>jn (jB c a) (!h))
def AP7:GF:=AZb.gf rfl rfl (fun a=>ANj a.1 a.2.1 a.2.2.1.1) (fun a=>by kernel_rfl)
def AZc:YF:=⟨[uZ],[.v (.st 3),.v .i],[],.ret [(.st 3),.b],[.cell 4 (some 5),.tmp 5],dY ["1K6Lq9TqvV3aXqq7rL1QSxlcPgS"] [] [.NG 8 0 [.tmp 3],.call 9 AP7 [0] rfl [.tmp 6,.tmp 7,.tmp 8]]⟩
def ABA(e:BE)(a:Int):AA (BE×Bool):=bd (ANj e a a) fun c=>some (c.fst,c.snd)
def AEt:GF:=AZc.EY (BF ABA)
def ANY(a:BE)(c:Int):AA BE:=some (BE.mk a.Total a.Dh a.Eg a.Ff (w64 (a.Fw-c)))
def uN:=gZ ZH ZN [] ["1smgRh5NfLc0BTroARw3cH"] [] (BF ANY)
def AZR:YF:=AaW uN
def iZ(c:BE)(a:Int)(g:Bool):AA (BE×Bool):=br g (some (c,false)) (bd (ANY c a) fun e=>bd (Mu e) fun h=>br (!h) (some (c,false)) (some (e,true)))
def ANZ(c:BE)(e a:Int):AA (BE×Bool):=bd (Mu c) fun g=>br (!g) (jn (iZ c a) true) (bd (C4 e 0 60) fun h=>jn (iZ c a) (!h))
def APv:GF:=AZR.gf rfl rfl (fun a=>ANZ a.1 a.2.1 a.2.2.1.1) (fun a=>by kernel_rfl)
def AZS:YF:=⟨[uN],[.v (.st 3),.v .i],[],.ret [(.st 3),.b],[.cell 4 (some 5),.tmp 5],dY ["1K6Lq9TqvV3aXqq7rL1QSxlcPgS"] [] [.NG 8 0 [.tmp 3],.call 9 APv [0] rfl [.tmp 6,.tmp 7,.tmp 8]]⟩
def pP(e:BE)(a:Int):AA (BE×Bool):=bd (ANZ e a a) fun c=>some (c.fst,c.snd)
def uO:GF:=AZS.EY (BF pP)
def ib(a:List AQ):AA (List AQ):=some a
def Wx(a:List AQ)(e:Int):AA (List AQ):=gd (0+a.length<=lim) (bd (pR a e) fun c=>br (decide (c>=0)) (bd (AWC a c (w64 (c+1))) fun g=>jn ib g) (jn ib a))
def uP:=gZ O6 (.ret [(.l (.st 2))]) Cv ["DcMhRM1UwLE28U6AMbK52WzMAcwNwYSR61Ez70RenAiiAsDYX"] [uU,AEp] (BF Wx)
def ic(e:Int)(a:AE):AA (AE×Int):=bd (Wx a.AG e) fun c=>some (AE.mk a.AS a.Now a.Av c a.AI a.BA a.A4,0)
def Wy(j:Int)(c:AQ)(a:AE):AA (AE×Int):=br (c.Bl != -1) (bd (at? a.AI c.Bl) fun q=>bd (at? a.AI c.Bl) fun g=>bd (pP g.AY c.BC) fun h=>bd (at? a.AI c.Bl) fun y=>bd (at? a.AI c.Bl) fun e=>jn (ic j) (AE.mk a.AS a.Now a.Av a.AG (a.AI.set c.Bl.toNat (Ae.mk h.fst e.Row e.By)) a.BA a.A4)) (jn (ic j) a)
def AHx(j:AE)(g:Int):AA (AE×Int):=bd (Ns j) fun a=>bd (Sg j (B1.mk 2 g 0 0 0 0)) fun I=>br (I != 0) (some (a,I)) (bd (Mw j g) fun J=>bd (at? j.AG J) fun c=>bd (Mw j g) fun L=>bd (at? j.AG L) fun O=>K0 c O (bd (at? a.AI c.Aa) fun X=>br (c.State==1) (bd (at? a.AI c.Aa) fun Q=>bd (AA7 Q.Row g) fun S=>bd (at? a.AI c.Aa) fun q=>jn (Wy g c) (AE.mk a.AS a.Now a.Av a.AG (a.AI.set c.Aa.toNat (Ae.mk q.AY S.fst q.By)) a.BA a.A4)) (bd (at? a.AI c.Aa) fun B=>bd (pW B.By (BO.mk c.Ci g)) fun h=>bd (at? a.AI c.Aa) fun e=>bd (at? (a.AI.set c.Aa.toNat (Ae.mk e.AY e.Row h.fst)) c.Aa) fun E=>bd (ABA E.AY c.BC) fun G=>bd (at? (a.AI.set c.Aa.toNat (Ae.mk e.AY e.Row h.fst)) c.Aa) fun y=>bd (W0 a.BA c.Aa) fun H=>jn (Wy g c) (AE.mk a.AS a.Now a.Av a.AG ((a.AI.set c.Aa.toNat (Ae.mk e.AY e.Row h.fst)).set c.Aa.toNat (Ae.mk G.fst y.Row y.By)) H a.A4))))
def APw:=gZ Fz Kn Mb ["SnlLQMeMsd9J70UuPoX8Mq3VkmeedEDbEcrejIaACEwddP7coYti5RqGvb2guABMrZPmw5FqZf7rV54c","EahNXzWyiqxu1MevAIWgBRNtktAaCghmqkK1WUzsirSQrq81YeQxjHAUUEoBUba5XNvIuagwLLF0qd0f","1uWJdKbosKqTBSzEG4tIVmm4A7EvyICAA1SQrDTjI72bIrmVxsvUgON4RLf8PB2txPweKW77bWJ8bWMD","wlox8D0mRw4nRCqw7Bf7bETajGMuVEqmVELhvb11uJuL6Om2d3ZClMU6J18CHHHcdoVUoGGIRRdO88DC","oQanru3cg6pQCm0yQL"] [LV,Qw,VG,AEs,uY,AEt,VH,uO,uP] (BF AHx)
def ANa(a:BE)(c:Int):AA BE:=some (BE.mk a.Total (w64 (a.Dh+c)) a.Eg (w64 (a.Ff-c)) a.Fw)
def uQ:=gZ ZH ZN [] ["7jpjjgJwtlA9Nd4VWyvhjgoG8unmRyJqHQB9qpTq"] [] (BF ANa)
def AZT:YF:=AaW uQ
def ie(c:BE)(a:Int)(g:Bool):AA (BE×Bool):=br g (some (c,false)) (bd (ANa c a) fun e=>bd (Mu e) fun h=>br (!h) (some (c,false)) (some (e,true)))
def ANb(c:BE)(e a:Int):AA (BE×Bool):=bd (Mu c) fun g=>br (!g) (jn (ie c a) true) (bd (C4 e 0 60) fun h=>jn (ie c a) (!h))
def APx:GF:=AZT.gf rfl rfl (fun a=>ANb a.1 a.2.1 a.2.2.1.1) (fun a=>by kernel_rfl)
def AZU:YF:=⟨[uQ],[.v (.st 3),.v .i],[],.ret [(.st 3),.b],[.cell 4 (some 5),.tmp 5],dY ["1K6Lq9TqvV3aXqq7rL1QSxlcPgS"] [] [.NG 8 0 [.tmp 3],.call 9 APx [0] rfl [.tmp 6,.tmp 7,.tmp 8]]⟩
def AA1(e:BE)(a:Int):AA (BE×Bool):=bd (ANb e a a) fun c=>some (c.fst,c.snd)
def AEn:GF:=AZU.EY (BF AA1)
def AHy(e:AE)(c g:Int):AA (AE×Int):=bd (Ns e) fun a=>bd (Sg e (B1.mk 3 0 c 0 g 0)) fun h=>br (h != 0) (some (a,h)) (bd (at? a.AI c) fun E=>bd (at? a.AI c) fun q=>bd (AA1 q.AY g) fun y=>bd (at? a.AI c) fun G=>bd (at? a.AI c) fun j=>bd (W0 a.BA c) fun B=>some (AE.mk a.AS a.Now a.Av a.AG (a.AI.set c.toNat (Ae.mk y.fst j.Row j.By)) B a.A4,0))
def APy:=gZ [.v (.st 8),.v .i,.v .i] Kn ARF ["16rRLW6N7gqx0UNZw6ATLFM1k0oHRp7wDAKwIBxC8CjhJYcxBbKk73Kq5Wt2LZSHoeSJJFljfyPF4zkx","vaBBCIHcziav3iPqPw44Lte5FaqlJ6GoQ9ZBZx9jpep"] [LV,Qw,AEn,VH] (GL AHy)
def ANc(a:BE)(c:Int):AA BE:=some (BE.mk a.Total a.Dh (w64 (a.Eg-c)) (w64 (a.Ff+c)) a.Fw)
def uR:=gZ ZH ZN [] ["wgJcULpOT2xViXhp0ougb2hswDOumBJclIuAlm7T"] [] (BF ANc)
def AZd:YF:=AaW uR
def jG(c:BE)(a:Int)(g:Bool):AA (BE×Bool):=br g (some (c,false)) (bd (ANc c a) fun e=>bd (Mu e) fun h=>br (!h) (some (c,false)) (some (e,true)))
def ANk(c:BE)(e a:Int):AA (BE×Bool):=bd (Mu c) fun g=>br (!g) (jn (jG c a) true) (bd (C4 e 0 60) fun h=>jn (jG c a) (!h))
def AQH:GF:=AZd.gf rfl rfl (fun a=>ANk a.1 a.2.1 a.2.2.1.1) (fun a=>by kernel_rfl)
def AZe:YF:=⟨[uR],[.v (.st 3),.v .i],[],.ret [(.st 3),.b],[.cell 4 (some 5),.tmp 5],dY ["1K6Lq9TqvV3aXqq7rL1QSxlcPgS"] [] [.NG 8 0 [.tmp 3],.call 9 AQH [0] rfl [.tmp 6,.tmp 7,.tmp 8]]⟩
def AIA(e:BE)(a:Int):AA (BE×Bool):=bd (ANk e a a) fun c=>some (c.fst,c.snd)
def AQI:GF:=AZe.EY (BF AIA)
def jH(a:AE):AA (AE×Int):=some (a,0)
def AIB(B:AE)(E:Int):AA (AE×Int):=bd (Ns B) fun g=>bd (Sg B (B1.mk 4 E 0 0 0 0)) fun S=>br (S != 0) (some (g,S)) (bd (Mw B E) fun Y=>bd (at? B.AG Y) fun c=>bd (Mw B E) fun Z=>bd (at? B.AG Z) fun x6=>K0 c x6 (bd (at? g.AI c.Aa) fun x7=>bd (at? g.AI c.Aa) fun x8=>bd (AIA x8.AY c.BC) fun q=>bd (at? g.AI c.Aa) fun a=>bd (at? (g.AI.set c.Aa.toNat (Ae.mk q.fst a.Row a.By)) c.Aa) fun I=>bd (pW I.By (BO.mk c.Ci E)) fun h=>bd (at? (g.AI.set c.Aa.toNat (Ae.mk q.fst a.Row a.By)) c.Aa) fun e=>bd (Wx g.AG E) fun G=>br (c.Bl != -1) (bd (at? ((g.AI.set c.Aa.toNat (Ae.mk q.fst a.Row a.By)).set c.Aa.toNat (Ae.mk e.AY e.Row h.fst)) c.Bl) fun X=>bd (at? ((g.AI.set c.Aa.toNat (Ae.mk q.fst a.Row a.By)).set c.Aa.toNat (Ae.mk e.AY e.Row h.fst)) c.Bl) fun J=>bd (pP J.AY c.BC) fun y=>bd (at? ((g.AI.set c.Aa.toNat (Ae.mk q.fst a.Row a.By)).set c.Aa.toNat (Ae.mk e.AY e.Row h.fst)) c.Bl) fun j=>bd (at? (((g.AI.set c.Aa.toNat (Ae.mk q.fst a.Row a.By)).set c.Aa.toNat (Ae.mk e.AY e.Row h.fst)).set c.Bl.toNat (Ae.mk y.fst j.Row j.By)) c.Bl) fun L=>bd (AA1 L.AY c.BC) fun O=>bd (at? (((g.AI.set c.Aa.toNat (Ae.mk q.fst a.Row a.By)).set c.Aa.toNat (Ae.mk e.AY e.Row h.fst)).set c.Bl.toNat (Ae.mk y.fst j.Row j.By)) c.Bl) fun H=>bd (W0 g.BA c.Bl) fun Q=>jn jH (AE.mk g.AS g.Now g.Av G ((((g.AI.set c.Aa.toNat (Ae.mk q.fst a.Row a.By)).set c.Aa.toNat (Ae.mk e.AY e.Row h.fst)).set c.Bl.toNat (Ae.mk y.fst j.Row j.By)).set c.Bl.toNat (Ae.mk O.fst H.Row H.By)) Q g.A4)) (jn jH (AE.mk g.AS g.Now g.Av G ((g.AI.set c.Aa.toNat (Ae.mk q.fst a.Row a.By)).set c.Aa.toNat (Ae.mk e.AY e.Row h.fst)) g.BA g.A4))))
def AQJ:=gZ Fz Kn Mb ["QoArVT4so50i2n3BLPt00Y6PxPABLJpgvUwVBbdRa0knIYunnmS3GLGcIB2wUPxw2NBh4X6PtJ5VquSU","baGPaX4JrYRYnrkl6upnYP5pk9OwOu7YfzP0RJcUMoVPQuVEeVQhyyO1ulpBfK5XjxaPCDapRoVLzZb4","GG1rNx4qxvEdqTnq1to4TaDmfCBgH7EDC9xbAoskywCnGYD5oLepYPQpBANiPYEeGissNWSN0Xue6r5o","Sy1hAoVXuU6iLiZpzbsIgqUeZRQepjKGZB1u8x8UFJknIXgbhRnmRTPan0cG2kJfSMyliPffvTE4AatX","Ddhhyfa3"] [LV,Qw,VG,AQI,uY,uP,uO,AEn,VH] (BF AIB)
def W7(c:Ab)(a:AQ)(e:Int)(g:Bool):AA (AQ×Bool):=br g (some (AQ.mk 0 0 0 0 0 0 0 0 0 0,false)) (some (AQ.mk a.Id a.Aa a.Bl a.BC a.Cs a.Since a.Av 1 (w64 (e+c.Rest)) (w64 (a.C0+1)),true))
def AIC(c:Ab)(a:AQ)(e:Int):AA (AQ×Bool):=bd (dj c a e) fun g=>br (!g) (jn (W7 c a e) true) (br (a.State != 2) (jn (W7 c a e) true) (jn (W7 c a e) (w64 (a.C0+1)==c.Cb)))
def AQK:=gZ aj (.ret [(.st 2),.b]) ARG ["99IjqChfj9RSFf0JruVKSHfLq9uy0NL4IJzonKvhA8KJHCcbjpheAbURNPY1Nkg3i4JPIzl1eVS0DdQa","pwAi4eOBGjKv3CR82GfOAE"] [kD] (GL AIC)
def jI(a:AE):AA AE:=some a
def ABF(c:AE)(G:Int):AA AE:=bd (Mw c G) fun X=>bd (at? c.AG X) fun x2=>bd (at? c.AG X) fun e=>bd (Mw c G) fun Y=>bd (at? c.AG Y) fun x5=>bd (at? c.AG Y) fun x6=>K0 e x6 (bd (at? c.AI e.Aa) fun x7=>bd (at? c.AI e.Aa) fun x8=>bd (ABA x8.AY e.BC) fun j=>bd (at? c.AI e.Aa) fun a=>bd (at? (c.AI.set e.Aa.toNat (Ae.mk j.fst a.Row a.By)) e.Aa) fun H=>bd (pW H.By (BO.mk e.Ci G)) fun h=>bd (at? (c.AI.set e.Aa.toNat (Ae.mk j.fst a.Row a.By)) e.Aa) fun g=>bd (AIC c.AS e c.Now) fun q=>br q.snd (bd (pU c.AG q.fst) fun I=>bd (oC c.AS q.fst c.Now) fun J=>bd (at? ((c.AI.set e.Aa.toNat (Ae.mk j.fst a.Row a.By)).set e.Aa.toNat (Ae.mk g.AY g.Row h.fst)) e.Aa) fun L=>bd (pV L.Row J.fst) fun O=>bd (at? ((c.AI.set e.Aa.toNat (Ae.mk j.fst a.Row a.By)).set e.Aa.toNat (Ae.mk g.AY g.Row h.fst)) e.Aa) fun y=>some (AE.mk c.AS c.Now c.Av I (((c.AI.set e.Aa.toNat (Ae.mk j.fst a.Row a.By)).set e.Aa.toNat (Ae.mk g.AY g.Row h.fst)).set e.Aa.toNat (Ae.mk y.AY O.fst y.By)) c.BA c.A4)) (bd (Wx c.AG G) fun B=>br (e.Bl != -1) (bd (at? ((c.AI.set e.Aa.toNat (Ae.mk j.fst a.Row a.By)).set e.Aa.toNat (Ae.mk g.AY g.Row h.fst)) e.Bl) fun Z=>bd (at? ((c.AI.set e.Aa.toNat (Ae.mk j.fst a.Row a.By)).set e.Aa.toNat (Ae.mk g.AY g.Row h.fst)) e.Bl) fun Q=>bd (pP Q.AY e.BC) fun S=>bd (at? ((c.AI.set e.Aa.toNat (Ae.mk j.fst a.Row a.By)).set e.Aa.toNat (Ae.mk g.AY g.Row h.fst)) e.Bl) fun x24=>bd (at? ((c.AI.set e.Aa.toNat (Ae.mk j.fst a.Row a.By)).set e.Aa.toNat (Ae.mk g.AY g.Row h.fst)) e.Bl) fun E=>jn jI (AE.mk c.AS c.Now c.Av B (((c.AI.set e.Aa.toNat (Ae.mk j.fst a.Row a.By)).set e.Aa.toNat (Ae.mk g.AY g.Row h.fst)).set e.Bl.toNat (Ae.mk S.fst E.Row E.By)) c.BA c.A4)) (jn jI (AE.mk c.AS c.Now c.Av B ((c.AI.set e.Aa.toNat (Ae.mk j.fst a.Row a.By)).set e.Aa.toNat (Ae.mk g.AY g.Row h.fst)) c.BA c.A4))))
def AEv:=gZ AE0 N3 VK ["KvlvPMRW9S9JCWpPuc9AJT05kafgGo2ZseYvsb2HpDy89IyPZPnhtMMEm9lPudAKUBuAOESXrasSkljw","FKa5GwSxKbwl2DMvxXvy1WVuZBbe7IEASmYHjmWip1JycTSyJOeqzfvCDzJxJg5ETj3LY8wUeBOwDD7O","EuJJQtGbzLpM0cbMflKwxPUTnLyS4l8MoIvk0Q8CiYOSCzva4BLZ1c7RjT1KbPVOFiRxRumyksq4JA2u","kSMuG11lgKexXEdZhNrzncf4KLdOkCtAX9iqXUjnK6p8WU4diSMCMqwlpIphxUHNXWo813vpbC3kl2dq","wYhtLluB1FIvhPwnxWWFzV9H3FIzrsyMDKINXebp8M0bUl"] [VG,AEt,uY,AQK,uW,th,AEr,uP,uO] (BF ABF)
def AID(c:AE)(e:Int):AA (AE×Int):=bd (Ns c) fun g=>bd (Sg c (B1.mk 5 e 0 0 0 0)) fun h=>br (h != 0) (some (g,h)) (bd (Mw c e) fun j=>bd (at? c.AG j) fun q=>bd (ABF g e) fun a=>bd (W0 a.BA q.Aa) fun y=>some (AE.mk a.AS a.Now a.Av a.AG a.AI y a.A4,0))
def AQL:=gZ Fz Kn Mb ["1sRT7Mi7cUf4poFEOR9phE4S0FBpTn5RVOA5XqgG672JkyBRl1VbSivhydNs94gEWH011sCUlefYVihT","SGyVv7e0Sxg34gYwlOnPCHDaQ5"] [LV,Qw,VG,AEv,VH] (BF AID)
def jJ(c:Int×AE->AA (AE×Int))(e:Int)(a:AE):AA (AE×Int):=c (w64 (e+1),a)
def ANl(a:AE):AA (AE×Int):=some (a,0)
def W8(q:AE)(h:Int×AE->AA (AE×Int))(B:Int×AE):AA (AE×Int):=let (c,a):=B;br (decide (c<q.AI.length)) (bd (aJ a.AS a.AG c a.Now) fun j=>bd (at? a.AI c) fun E=>bd (at? a.AI c) fun e=>bd (nz a.AG c) fun y=>br (decide (y>0)) (bd (W0 a.BA c) fun g=>jn (jJ h c) (AE.mk a.AS a.Now a.Av a.AG (a.AI.set (s0 c) (Ae.mk e.AY j e.By)) g a.A4)) (jn (jJ h c) (AE.mk a.AS a.Now a.Av a.AG (a.AI.set (s0 c) (Ae.mk e.AY j e.By)) a.BA a.A4))) (jn ANl a)
def AIE(c:AE):AA (AE×Int):=bd (Ns c) fun a=>bd (Sg c (B1.mk 6 0 0 0 0 0)) fun e=>br (e != 0) (some (a,e)) (BB (W8 a) big (0,AE.mk a.AS (w64 (a.Now+1)) a.Av a.AG a.AI a.BA a.A4))
def AQM:=gZ XP Kn uu ["L9tlZVrQT2Vz0OK26MjZp4NfHYI24Ty6qiPfQpT6PXSMDT6fD1Ef1s88mzJdloGXjbgzs5brFHKGmVbk","x7jKhsaDcEbAGBhjcB0kayot6Mum8QrZgy3Y1vJ4HRTK0P2t4h89xXxkJksNFGIpRctA85mce7vBOeiO","RIJeqdj"] [LV,Qw,tX,ta,VH] (Bd AIE)
def jK(a:Bool):AA Bool:=some a
def ABG(a:AE)(c:Int):AA Bool:=bd (Rj a) fun e=>br e (bd (Ms c (↑a.AI.length:Int)) fun g=>jn jK g) (jn jK false)
def AEw:=gZ Fz DM Cv ["4dsXPvFuJFmSVYER14YhtXVPP1zv1X"] [VD,Qu] (BF ABG)
def jL(a:List BO×Int->AA (List BO))(c:Int)(e:List BO):AA (List BO):=a (e,w64 (c+1))
def ABH(a:List BO):AA (List BO):=some a
def jM(j:Int)(e:List BO)(h:List BO×Int->AA (List BO))(q:List BO×Int):AA (List BO):=let (c,a):=q;br (decide (a<(g0 e))) (bd (at? e a) fun y=>bd (at? e a) fun g=>br (decide (g.At<=j)) (gd (g0 c+[g].length<=lim) (jn (jL h a) (c++[g]))) (jn (jL h a) c)) (jn ABH c)
def AIF(a:Aq)(c:Int):AA (List BO):=bd (dh a) fun e=>BB (jM c e) big ([],0)
def AQN:=gZ [.v (.st 6),.v .i] VJ Cv ["4OpvfUZVUGv1J06Ny12Bicb5RDP51Yaw7UrgP5uUtb6Dj9ZTiwsuvUmi5IWp6vvdydYjtFqsiuPu6b3h","BchbxRO6oW"] [ADv] (BF AIF)
def ABI(a:List Int):AA (List Int):=some a
def jN(e:List BO)(h:List Int×Int->AA (List Int))(j:List Int×Int):AA (List Int):=let (c,a):=j;br (decide (a<(g0 e))) (bd (at? e a) fun q=>bd (at? e a) fun g=>gd (g0 c+[g.Id].length<=lim) (h (c++[g.Id],w64 (a+1)))) (jn ABI c)
def AIH(a:AE)(c:Int):AA (List Int):=bd (ABG a c) fun e=>br (!e) (some []) (bd (at? a.AI c) fun g=>bd (AIF g.By a.Now) fun h=>BB (jN h) big ([],0))
def AQO:=gZ Fz O8 Cv ["21N3GxefI4mcWdE220E0pLjn5sHwy93VvxvE0VCclagJt3JoiQcg4Zrm3ZfVFYfxG4zqFOrjrhhZuzNy","0VcaGu2bwEOwjZj3l9odNfOJfOQg5"] [AEw,AQN] (BF AIH)
def ABJ(a:AE):AA AE:=some a
def jO(c:List Int)(g:Int×AE->AA AE)(q:Int×AE):AA AE:=let (a,e):=q;br (decide (a<(g0 c))) (bd (at? c a) fun y=>bd (at? c a) fun h=>bd (ABF e h) fun j=>g (w64 (a+1),j)) (jn ABJ e)
def AII(a:AE)(c:Int):AA AE:=bd (Ns a) fun e=>bd (AIH a c) fun g=>BB (jO g) big (0,e)
def AQP:=gZ Fz N3 VK ["JoOd7otxsak2rteEFHPzRKdFD0fLrANv8bDrnjKccoqO9grmORPdXahNoWS2vZZitg9lX16mGW4FUZQH"] [LV,AQO,AEv] (BF AII)
def jP(a:Bool):AA Bool:=some a
def AIJ(a:AQ)(c:Int):AA Bool:=br (a.State==1) (jn jP (decide (a.Ci>c))) (jn jP false)
def AQQ:=gZ ui DM Cv ["5dxaeDNli8nX2ebQPkQnWJikRrGd"] [] (BF AIJ)
def jQ(a:Bool):AA Bool:=some a
def ANm(a:Ai)(c:Int)(e:List Int):AA Bool:=br (decide (a.BC<=c)) (bd (oF e a.Id) fun g=>jn jQ (!g)) (jn jQ false)
def ub:=gZ [.v (.st 4),.p .i,.p (.l .i)] DM Cv ["F7mpvyDkOIJqOSYmnDgi2MIk4gD8mQpow1"] [tu] (GL ANm)
def AZf:YF:=⟨[ub],[.v (.l (.st 4)),.f ub.x [(true,.i),(true,(.l .i))]],[0],.ret [.i],[.tmp 4],dY ["35uwdMICmMyhdoXY7FvYTUySTh5IJqGxJonviAJLR1iF1FxcwUCvCfQrpK3IkXZk5e"] [] [.D5 16 (.tmp 11) [.v,.p,.p] [.tmp 15]]⟩
def ABK(_:PUnit):AA Int:=some (-1)
def jR(g:List Ai)(a:Int)(c:List Int)(h:Int->AA Int)(e:Int):AA Int:=br (decide (e<g.length)) (bd (at? g e) fun j=>bd (ANm j a c) fun q=>br q (some e) (h (w64 (e+1)))) (jn ABK ())
def ANn(e:List Ai)(a:Int)(c:List Int):AA Int:=BB (jR e a c) big 0
def AQR:GF:=AZf.gf rfl rfl (fun a=>ANn a.1 a.2.1.1 a.2.1.2.1) (fun a=>by kernel_rfl)
def AZg:YF:=⟨[ub],[.v (.l (.st 4)),.v .i,.v (.l .i)],[],.ret [.i],[.tmp 6],dY ["1zi302qXqxwj5gOnt"] [] [.NG 8 0 [.tmp 4,.tmp 5],.call 9 AQR [0] rfl [.tmp 7,.tmp 8]]⟩
def AIK(a:List Ai)(c:Int)(e:List Int):AA Int:=bd (ANn a c e) fun g=>some g
def AQS:GF:=AZg.EY (GL AIK)
def jS(a:List Int×Int->AA Int)(c:Int)(e:List Int):AA Int:=a (e,w64 (c+1))
def jT(g:AE)(h:Int)(j:List Int):AA Int:=bd (at? g.AI h) fun e=>bd (AIK e.Row e.AY.Dh j) fun a=>br (decide (a<0)) (some 0) (bd (at? e.Row a) fun c=>some c.Id)
def jU(a:AE)(j:Int)(h:List Int×Int->AA Int)(y:List Int×Int):AA Int:=let (c,e):=y;br (decide (e<a.AG.length)) (bd (at? a.AG e) fun g=>bd (AIJ g a.Now) fun q=>br q (gd (g0 c+[g.Id].length<=lim) (jn (jS h e) (c++[g.Id]))) (jn (jS h e) c)) (jn (jT a j) c)
def AIL(a:AE)(c:Int):AA Int:=bd (ABG a c) fun e=>br (!e) (some 0) (BB (jU a c) big ([],0))
def AQT:=gZ Fz DC Cv ["SHjxTbM0CFrqP1TUncruzV6Tt46Be6aiOGvYSAxX2PikbJs2kWSCw7CKRobHdCdXZocrK6FctXoAY6Tp","GuZNxvoODlvTsy5ItHukylg790G3IXqAvVNwcRBrT5oB1oLgf0MtY5ngLXToJsyHgzV7I5jZx2"] [AEw,AQQ,AQS] (BF AIL)
def ANo(a:BE)(c:Int):AA BE:=some (BE.mk a.Total (w64 (a.Dh-c)) (w64 (a.Eg+c)) a.Ff a.Fw)
def uc:=gZ ZH ZN [] ["3RG6Y52srQKVo2UdpiwB8RyxhZMnVTFxPiFxrLOq"] [] (BF ANo)
def AZh:YF:=AaW uc
def jV(c:BE)(a:Int)(g:Bool):AA (BE×Bool):=br g (some (c,false)) (bd (ANo c a) fun e=>bd (Mu e) fun h=>br (!h) (some (c,false)) (some (e,true)))
def ANp(c:BE)(e a:Int):AA (BE×Bool):=bd (Mu c) fun g=>br (!g) (jn (jV c a) true) (bd (C4 e 0 60) fun h=>jn (jV c a) (!h))
def AQU:GF:=AZh.gf rfl rfl (fun a=>ANp a.1 a.2.1 a.2.2.1.1) (fun a=>by kernel_rfl)
def AZi:YF:=⟨[uc],[.v (.st 3),.v .i],[],.ret [(.st 3),.b],[.cell 4 (some 5),.tmp 5],dY ["1K6Lq9TqvV3aXqq7rL1QSxlcPgS"] [] [.NG 8 0 [.tmp 3],.call 9 AQU [0] rfl [.tmp 6,.tmp 7,.tmp 8]]⟩
def AIM(e:BE)(a:Int):AA (BE×Bool):=bd (ANp e a a) fun c=>some (c.fst,c.snd)
def AQV:GF:=AZi.EY (BF AIM)
def AIN(h:AE)(c:Int):AA (AE×Int):=bd (Ns h) fun e=>bd (AIL h c) fun y=>br (y==0) (some (e,0)) (bd (Mw h y) fun L=>bd (at? h.AG L) fun j=>bd (Mw h y) fun O=>bd (at? h.AG O) fun Q=>K0 j Q (bd (at? e.AI c) fun X=>bd (at? e.AI c) fun S=>bd (AIM S.AY j.BC) fun E=>bd (at? e.AI c) fun a=>bd (at? (e.AI.set c.toNat (Ae.mk E.fst a.Row a.By)) c) fun G=>bd (AA7 G.Row y) fun q=>bd (at? (e.AI.set c.toNat (Ae.mk E.fst a.Row a.By)) c) fun g=>bd (pU e.AG (AQ.mk j.Id j.Aa j.Bl j.BC j.Cs j.Since j.Av 2 (w64 (h.Now+h.AS.B3)) j.C0)) fun H=>bd (at? ((e.AI.set c.toNat (Ae.mk E.fst a.Row a.By)).set c.toNat (Ae.mk g.AY q.fst g.By)) c) fun I=>bd (AAV I.By (BO.mk (w64 (h.Now+h.AS.B3)) y)) fun J=>bd (at? ((e.AI.set c.toNat (Ae.mk E.fst a.Row a.By)).set c.toNat (Ae.mk g.AY q.fst g.By)) c) fun B=>some (AE.mk e.AS e.Now e.Av H (((e.AI.set c.toNat (Ae.mk E.fst a.Row a.By)).set c.toNat (Ae.mk g.AY q.fst g.By)).set c.toNat (Ae.mk B.AY B.Row J.fst)) e.BA e.A4,y)))
def AQW:=gZ Fz Kn Mb ["3zfs2KFkJiWO71m1uxnFyEZoMt6fFnRsMW6mXGgKupPOImqYk77zf7C6mG8KQ2ZkqGyx0rQ95LlfYhlL","85FpNw24R9xwJ0Ew5UErv2QDDyJphfKunHa1IAS484HoFBBVWxZoAM4aLk8YDsSXdMewSrhs2Qg812nK","JxIookxOqdiB8G8CkKRp1Zetymgd1o1rFNXIlFuz4Sd1uu9BPlQyg3m9Sw6gdi7cBkMm1Je25jUOkubF","stFWXflq40o0Dj9lZhgI5sj0ZoOpfkynQWI"] [LV,AQT,VG,AQV,AEs,uW,AET] (BF AIN)
def W9(h:Int)(g:List Int×AE->AA (AE×List Int))(j:List Int×AE):AA (AE×(List Int)):=let (c,e):=j;bd (AIN e h) fun a=>br (a.snd==0) (some (e,c)) (gd (g0 c+[a.snd].length<=lim) (g (c++[a.snd],a.fst)))
def AIO(c:AE)(a:Int):AA (AE×(List Int)):=bd (AII c a) fun e=>BB (W9 a) big ([],e)
def AQX:=gZ Fz ARA Mb ["Ga1EUV1li1yCb6TMDAbvW4vU0PFSvyrLXOS8a1g0AZh2EKpW3ha26uWObLmIYWB6xUeYvk84VVPTSjkn","Vv2FeNWw7XJ6G"] [AQP,AQW] (BF AIO)
def AIP(h:AE)(e:Int):AA (AE×Int×(List Int)):=bd (Ns h) fun c=>bd (Sg h (B1.mk 7 e 0 0 0 0)) fun j=>br (j != 0) (some (c,j,[])) (bd (at? c.A4 e) fun G=>bd (at? c.A4 e) fun B=>br (B == -1) (bd (at? c.BA 0) fun H=>bd (at? c.BA 0) fun E=>bd (at? c.A4 e) fun I=>bd (at? c.A4 e) fun J=>gd ((0:Int)<=1/\1<=(↑c.BA.length:Int)) (some (AE.mk c.AS c.Now c.Av c.AG c.AI (an (c.BA.length-s0 1) (n4 (s0 1) c.BA)) (c.A4.set e.toNat E),0,[]))) (bd (at? c.A4 e) fun L=>bd (at? c.A4 e) fun g=>bd (AIO c g) fun a=>bd (at? a.fst.A4 e) fun q=>bd (at? a.fst.A4 e) fun y=>some (AE.mk a.fst.AS a.fst.Now a.fst.Av a.fst.AG a.fst.AI a.fst.BA (a.fst.A4.set e.toNat (-1)),0,a.snd)))
def AQY:=gZ Fz ARB vD ["4WRQfpYY5vyE4I7BFsV5p3HBwBKhKi8br5j2117UvZIAP86wLZaZnuj4TNGpq2l7LndyQxO8MHoEPNtI","XNaAFiCqUoJaWuEJl92MY2TbqBZKAfMnzMejkuWevxSdLlzSID8tB0aaOJDYbtOJGmQd8Bh5TqDvEPcn","gLXavm0TkYfj7NMsJOgk"] [LV,Qw,AQX] (BF AIP)
def MI(e:AE×C6):AA (AE×C6):=let (a,c):=e;some (a,c)
def AIQ(c:AE)(a:B1):AA (AE×C6):=bd (Sg c a) fun h=>br (h != 0) (bd (Ns c) fun G=>some (G,C6.mk h [])) (br (a.Kind==1) (bd (AH1 c a.Id a.Aa a.Bl a.BC a.Cs) fun j=>jn MI (j.fst,C6.mk j.snd [])) (br (a.Kind==2) (bd (AHx c a.Id) fun q=>jn MI (q.fst,C6.mk q.snd [])) (br (a.Kind==3) (bd (AHy c a.Aa a.BC) fun y=>jn MI (y.fst,C6.mk y.snd [])) (br (a.Kind==4) (bd (AIB c a.Id) fun B=>jn MI (B.fst,C6.mk B.snd [])) (br (a.Kind==5) (bd (AID c a.Id) fun E=>jn MI (E.fst,C6.mk E.snd [])) (br (a.Kind==6) (bd (AIE c) fun g=>jn MI (g.fst,C6.mk g.snd [])) (bd (AIP c a.Id) fun e=>jn MI (e.fst,C6.mk e.snd.fst e.snd.snd))))))))
def AQZ:=gZ kM ARC ARH ["JDH8c74wGXbmJS2iaaw8av2st1u1NtTeBvk66mJgJ4hzaEQDeSGIabGvit69KiGS9hz6KTrDbYmuMC6O","29LNkGJhGhV2o7Whnq5o3gl1RJpUadOwXfFeJNE4Wt9bAxaDAQA6EymBmdHk1Q5SBn2aXx72W63MWGp0","8q56t2XWNClSR40U6RU2qZ47bzu9GVakJXZNDW5SGCpGkzoFhl1tC43PfqbDZMbKvV3yiM6KZs2VkQ5D","pBMdf4EBLUlEYyrF0FKIoOou7GKXZfhKBdKFKbOq56up3saGEej4fBbnuUfvnMGw2OsFRSRwJBkqQzUq","56IQYyzKJtgv43Qca5uqMhBQkN9BVmdr30JpWLdoTE1"] [Qw,LV,AP5,APw,APy,AQJ,AQL,AQM,AQY] (BF AIQ)
def ABM(e:List C6×AE):AA (AE×(List C6)):=let (a,c):=e;some (c,a)
def jW(g:List B1)(j:List C6×Int×AE->AA (AE×List C6))(y:List C6×Int×AE):AA (AE×(List C6)):=let (a,c,h):=y;br (decide (c<g.length)) (bd (at? g c) fun q=>bd (AIQ h q) fun e=>gd (g0 a+[e.snd].length<=lim) (j (a++[e.snd],w64 (c+1),e.fst))) (jn ABM (a,h))
def ABL(a:AE)(c:List B1):AA (AE×(List C6)):=bd (Ns a) fun e=>BB (jW c) big ([],0,e)
def AQa:=gZ AQ7 ARD Mb ["GCWpbLVCnKppxpmtIR93YpxE2msGZ1cxo0q9aUsiEMb8njb6pvTx6zTUv59Tx2gmiKCqNffpiHEPvQfy","StyEGXy4N13MQWiOwJAaM8pYs9ys5ge2k9xX9Xe23Gq0zKC4KfCe63tdRDPkPN5NaB"] [LV,AQZ] (BF ABL)
end Lv
set_option maxRecDepth 100000
namespace Lv
open Go (IntKind BinOp UnOp)
open Y (YF qn qf qt qr q1 qd qm qa qo ql qL qb qi qx qp qq qc qz qe qk qK qB qw qu qj Kp wn wf wt w1 sw sq sr wm wM wo wO wl wL wk wK wz wZ wx wX wb wB wi wI wr wR wq wQ we wE wc wY wj wh cv ca cx cn ce bl)
def AIR(e:Af)(g:B1):AA (Af×C6):=bd (fY e g) fun c=>br (c.snd != 0) (some (c.fst,C6.mk c.snd [])) (bd (ij c.fst) fun a=>bd (at? a.snd (w64 ((↑(g0 a.snd):Int)-1))) fun j=>bd (at? a.snd (w64 ((↑(g0 a.snd):Int)-1))) fun h=>some (a.fst,h))
def AQb:=gZ [.v (.st 11),.v (.st 0)] (.ret [(.st 11),(.st 12)]) [.cell 4 (some 23),.cell 5 (some 2)] ["eSSjV03My9RG3fowKVqD8sWTzzy7yCpO6gQ8NLAW0QzrIaibMhS4yqYiBucZoyuNNfuaZ7hzVPojRRck","IhDOtmqryFA66tbAm77YLDiz2ol2iSP"] [uC,kL] (BF AIR)
def XA(a:B0)(c:Int)(e:Bool):AA (B0×Bool):=br e (some (a,false)) (gd (0<=c/\c<=a.Data.length) (some (B0.mk (n4 c.toNat a.Data) (w64 ((↑a.Data.length:Int)-c)),true)))
def AIS(a:B0)(c:Int):AA (B0×Bool):=bd (bW a) fun e=>br (!e) (jn (XA a c) true) (bd (Eb c 0 (↑a.Data.length:Int)) fun g=>br (!g) (jn (XA a c) true) (jn (XA a c) (decide (a.Safe<a.Data.length))))
def AQc:=gZ kN kQ kS ["2ueztbXLoZSKfosxsfnKvxmnczhpDWjJ7duc9hEvagZ5am3vlT4OFFUuuL8NyNcr94uMWgxiyDniPhgq","QChEAhHiXO7"] [j9,Hz] (BF AIS)
def ABB(a:Bo):AA Bo:=some a
def AH3(a:Bo)(e:Int)(c:B0):AA Bo:=br (e.tmod 2==0) (jn ABB (Bo.mk a.Log c a.Odd)) (jn ABB (Bo.mk a.Log a.FH c))
def AP9:=gZ AQ8 ur [.cell 6 (some 6)] ["13sB7XMDBoa0XOL32HA77k3GEYWyHsr6W5iz2KAxB9xnd40"] [] (GL AH3)
def Nv(e:Af)(j:Int)(y:Bool×Af×B0):AA (Af×Bool):=let (g,a,h):=y;br (!g) (bd (aQ e) fun q=>some (q,false)) (bd (AH3 a.A9 (w64 (1-j)) h) fun c=>some (Af.mk a.Bb c a.Seq a.Laid,true))
def Pv(a:Af)(j:Int)(c:Af)(H:Bool):AA (Af×Bool):=br H (some (c,false)) (bd (K7 a.A9) fun e=>br (decide (e<0)) (some (c,false)) (bd (AAb a.A9 (w64 (1-e))) fun G=>br (j==0) (jn (Nv a e) (true,c,B0.mk [] 0)) (br (j==1) (bd (oH a.Bb a.Seq) fun q=>bd (fV G q) fun g=>jn (Nv a e) (g.snd,c,g.fst)) (br (j==2) (bd (pQ G) fun y=>jn (Nv a e) (true,c,y)) (bd (FZ a.A9 e) fun B=>bd (AG2 a.A9 B.snd.fst) fun E=>bd (AIS a.A9.Log E) fun h=>jn (Nv a e) (h.snd,Af.mk c.Bb (Bo.mk h.fst c.A9.FH c.A9.Odd) c.Seq c.Laid,G))))))
def Mx(a:Af)(c:Int):AA (Af×Bool):=bd (aQ a) fun e=>bd (yc a) fun h=>br (!h) (jn (Pv a c e) true) (br (decide ((↑a.Laid.length:Int)>0)) (jn (Pv a c e) true) (bd (Eb c 0 3) fun g=>jn (Pv a c e) (!g)))
def AQA:=gZ uk ZJ kU ["3VH1PqoJI5kYRB41SdfSEAIYiFNTZX25jTFeTBMDXNqPht1sk5J4i0to2HnXIZM2hRhJ1CqaSXOMJU9l","vCf2DvtmK6WdFaBSyi4Pvxqv8CvGdA89t8YQhUhTvcBsraQWGQbakPtgb5MsliMOD8VBxMvVdrJZOY3N","JRwjw8RcN7SAk8y0pd4o2MnVMQULYpGqq2yQg64JQ727THAfKviARW7B8ghxPod4bHqc8c58wGucbiv8","MY9CeB1VRrxDpWd7wIte1Fym3xbAtxKYAiAAFOSO0Pg0GL57h9kbrMLBesCCXgta7gwD3IfT5faPQdpu","WvgucjOsoNazN7I1kSyrJbSWjwmcebIe5p9QizWs"] [kH,py,Hz,uI,AEX,tz,AEK,AEq,kJ,AOi,AQc,AP9] (BF Mx)
def ABC(a:Bo):AA Bo:=some a
def pX(a:Bo)(e:Int)(c:B0):AA Bo:=br (e.tmod 2==0) (jn ABC (Bo.mk a.Log c a.Odd)) (jn ABC (Bo.mk a.Log a.FH c))
def AQB:=gZ AQ8 ur [.cell 6 (some 6)] ["13sB7XMDBoa0XOL32HA77k3GEYWyHsr6W5iz2KAxB9xnd40"] [] (GL pX)
def W4(a:B0)(c:Int)(e:Bool):AA (B0×Bool):=br e (some (a,false)) (gd (0<=c/\c<=a.Data.length) (some (B0.mk (n4 c.toNat a.Data) (w64 ((↑a.Data.length:Int)-c)),true)))
def AH4(a:B0)(c:Int):AA (B0×Bool):=bd (Pk a) fun e=>br (!e) (jn (W4 a c) true) (bd (C4 c 0 (↑a.Data.length:Int)) fun g=>br (!g) (jn (W4 a c) true) (jn (W4 a c) (a.Safe != a.Data.length)))
def AQC:=gZ kN kQ kS ["GieOVD9ntTGR6jT189Xcw23yOTJiPxNnCrMFEJJEYyra5WLKGw1Vs46MGJKgnxuKGD0AgrCF1YuIpVx6","qts5fBncG5V"] [Su,E6] (BF AH4)
def Sj(e:Bool×Af):AA (Af×Bool):=let (a,c):=e;some (c,a)
def Si(c:Af)(j:Int)(a:Af)(h:Int)(I:Bool):AA (Af×Bool):=br I (some (a,false)) (bd (AAd c.A9 (w64 (1-h))) fun H=>br (j==0) (bd (pX c.A9 (w64 (1-h)) (B0.mk [] 0)) fun J=>jn Sj (true,Af.mk a.Bb J a.Seq a.Laid)) (br (j==1) (bd (yy c.Bb c.Seq) fun L=>bd (AHB H L) fun e=>bd (pX c.A9 (w64 (1-h)) e.fst) fun q=>jn Sj (e.snd,Af.mk a.Bb q a.Seq a.Laid)) (br (j==2) (bd (zf H) fun y=>bd (pX c.A9 (w64 (1-h)) y) fun B=>jn Sj (true,Af.mk a.Bb B a.Seq a.Laid)) (bd (OY c.A9 h) fun E=>bd (AAE c.A9 E.snd.fst) fun G=>bd (AH4 c.A9.Log G) fun g=>jn Sj (g.snd,Af.mk a.Bb (Bo.mk g.fst a.A9.FH a.A9.Odd) a.Seq a.Laid)))))
def AH5(a:Af)(c:Int):AA (Af×Bool):=bd (zr a) fun g=>bd (aX a.A9) fun e=>bd (zB a) fun j=>br (!j) (jn (Si a c g e) true) (br (decide ((↑a.Laid.length:Int)>0)) (jn (Si a c g e) true) (bd (Ms c 4) fun h=>br (!h) (jn (Si a c g e) true) (jn (Si a c g e) (decide (e<0)))))
def AQD:=gZ uk ZJ kU ["BcIBXCEeygukemNtDBB52f0VuDq1sxw9dAMC3mb74vYBFEvgpYfWxN4OPcBiF4vbmqIL3ivIX4wimM4i","d1rRup5xDvdf4JOtE50jqao0AY9YbNsTxVuCWVF75nh4GwP9hom6U0fvPovXlin1CbasqO5YI7r2TxTw","ewiDy88QQ3aQ9st8665ph5U8VafHPOU703bnO9BbR9DLII08r21BC5n0qj7ThI9w2YxFihwHDp2Lzqby","eNTmhJ5NXNUTdO9EmYUUwQWfMXvPoZ4Wj9nWi4C0S3KMboXzMOJdX027S3mQzaJSScHfY1YU5mCv9aP4","OdV2FJZx7sbF16Pk8c7DyNT2Wolp8wCZbOIO3aeniQa"] [AEL,uJ,AOd,Qu,AEY,AQB,AOU,AOt,AEH,kK,AEO,AQC] (BF AH5)
def W5(a:Af):AA (Af×Bool):=some (a,true)
def Jn(h:Int)(g:Int×Af->AA (Af×Bool))(q:Int×Af):AA (Af×Bool):=let (a,c):=q;bd (aP h 4) fun j=>br (decide (a<j)) (bd (Mx c a) fun e=>br (!e.snd) (some (c,false)) (g (w64 (a+1),e.fst))) (jn W5 c)
def Sk(a:Af)(c:Int):AA (Af×Bool):=bd (aQ a) fun e=>BB (Jn c) big (0,e)
def ua:=gZ uk ZJ kU ["DNymyATfKOWcCCEzj8N8abMnV0T3Rvkj38L2nxIN3yjfWlHbpDLf7or8gJMSGfLURulFLvmS6ZN9Ib2T","vDWx44vjBCeeskkn6V6GaAzP68QPa8L"] [kH,kF,AQA] (BF Sk)
def jC(a c e:Int):AA Int:=some (if false=true then if e>if true=true then if c>a then c else a else if c<a then c else a then e else if true=true then if c>a then c else a else if c<a then c else a else if e<if true=true then if c>a then c else a else if c<a then c else a then e else if true=true then if c>a then c else a else if c<a then c else a)
def AEu:=gZ AQ1 DC Ua ["9CvFWqNIvUg2wIou"] [] (GL jC) [.mm 9 true (.tmp 7) (.tmp 8),.mm 11 false (.tmp 9) (.tmp 10)]
def ABD(a:Af):AA (Af×Bool):=some (a,true)
def W6(h:Int)(g:Int×Af->AA (Af×Bool))(q:Int×Af):AA (Af×Bool):=let (a,c):=q;bd (jC h 0 4) fun j=>br (decide (a<j)) (bd (AH5 c a) fun e=>br (!e.snd) (some (c,false)) (g (w64 (a+1),e.fst))) (jn ABD c)
def AH6(a:Af)(c:Int):AA (Af×Bool):=bd (zr a) fun e=>BB (W6 c) big (0,e)
def AQE:=gZ uk ZJ kU ["Kv9hg9lZ25l7mIBz4eszYv7w3C3tLG4ys4ITjH9HyB2HWr1L02bhGvPQMzbowPaDSU9DoGp5UAkZsvhC","LNUs3iEDdOyvuuvbwPGDhjSnPmWNDySl"] [AEL,AEu,AQD] (BF AH6)
def jD(a:Int×List Bs×Int->AA (List Bs))(c:Int)(h:Int×List Bs):AA (List Bs):=let (e,g):=h;a (e,g,w64 (c+1))
def jE(a:List Bs):AA (List Bs):=some a
def ABE(c:List Bs)(q:Int×List Bs×Int->AA (List Bs))(E:Int×List Bs×Int):AA (List Bs):=let (h,e,a):=E;br (decide (a<c.length)) (bd (at? c a) fun y=>br (decide (y.Seq<=h)) (jn (jD q a) (h,e)) (bd (at? c a) fun B=>br (w64 (B.Seq-1) != h) (jn jE e) (bd (at? c a) fun j=>bd (at? c a) fun g=>gd (g0 e+[g].length<=lim) (jn (jD q a) (j.Seq,e++[g]))))) (jn jE e)
def AH7(a:List Bs)(c:Int):AA (List Bs):=BB (ABE a) big (c,[],0)
def AQF:=gZ [.v (.l (.st 15)),.v .i] uo Cv ["4slB1sejl8aVgGDAemI4GPQkkygmGsQzPaVyV4pPKCYYQaOT2z2qqgUJ0hvg6uzWCBoOe2JFaZ23U1jR","0GQ0rLV8Ioft0nplJ30NXc6Ycuw2T1I4pPMlKbgIpFb65k"] [] (BF AH7)
def jF(c:Bo)(h:Int)(g:Bool):AA (AE×Int×Bool):=br g (some (AE.mk (Ab.mk [] 0 0 0 0 0 0 0 0) 0 0 [] [] [] [],0,false)) (bd (FZ c h) fun a=>bd (oK c.Log.Data) fun j=>bd (AH7 j a.snd.fst) fun q=>bd (AHI q) fun e=>bd (pJ a.fst e) fun y=>some (y.fst,w64 (a.snd.fst+(↑(g0 e):Int)),true))
def pY(a:Bo):AA (AE×Int×Bool):=bd (K7 a) fun c=>bd (AJ8 a) fun e=>br (!e) (jn (jF a c) true) (jn (jF a c) (decide (c<0)))
def AQG:=gZ O7 ZM vC ["24jR0TAPzBBDNMEfuG64dnhM5mcMF59fD5hcnYZW3DsujtNtkNRZqzR0l61Y1MqsckoPUTjHgoIHOkKp","zq9sskTAr9MPo7eydIyQSDdQhHpBQ6jbI9qIOxwEmpyVdyw2yUJuQFTR"] [uI,AIw,kJ,uA,AQF,AO1,uK] (Bd pY)
def Lm(a:B0):AA Bool:=some (a.Safe==a.Data.length)
def Ki(a:Bool):AA Bool:=some a
def SF(a:Bo):AA Bool:=bd (Lm a.Log) fun c=>br c (bd (Lm a.FH) fun e=>br e (bd (Lm a.Odd) fun g=>jn Ki g) (jn Ki false)) (jn Ki false)
def jY(g:List Bs)(h:Int×Int×Int->AA Int)(c a:Int):AA Int:=bd (at? g c) fun j=>bd (at? g c) fun e=>h (a,e.Next,w64 (c+1))
def ABN(a:Int):AA Int:=some a
def jZ(c:List Bs)(B:Int×Int×Int->AA Int)(I:Int×Int×Int):AA Int:=let (e,g,a):=I;br (decide (a<(g0 c))) (bd (at? c a) fun E=>bd (at? c a) fun h=>br (decide (h.Seq>w64 (e+1))) (some g) (bd (at? c a) fun G=>bd (at? c a) fun j=>br (j.Seq==w64 (e+1)) (bd (at? c a) fun H=>bd (at? c a) fun q=>bd (oJ q.Body) fun y=>br (!y.snd) (some g) (jn (jY c B a) (w64 (e+1)))) (jn (jY c B a) e))) (jn ABN g)
def jX(a:Bo)(e:Int)(c:Bool):AA Int:=br c (some 0) (bd (FZ a e) fun g=>bd (oK a.Log.Data) fun h=>BB (jZ h) big (g.snd.fst,0,0))
def pZ(a:Bo):AA Int:=bd (K7 a) fun c=>bd (AJ8 a) fun e=>br (!e) (jn (jX a c) true) (jn (jX a c) (decide (c<0)))
def AQe:=gZ O7 DC DD ["1UOiU8jOFhn9sFJT0gecmgxBhk8eQPVCe5ohZ68WTBPXUbwS4JYQcfOu4is63s2mYtTXg50fsWavYnPj","fb76Pj0dHAAHfYBccjYJbzkR7IZiVwafgrZ3DtItjvzfkYONDxChfOX80lb3uWLLsDp068hSaBkEMauc","EGD3D84B45OtdYbiJ6Wd3CQ7HlGZWMulxe3gQiOZhi1GeOhd1KlHgSnpxTqwckZ8Hiy3TGWFs"] [uI,AIw,kJ,uA,AED] (Bd pZ)
def No(a:B0)(c:Int)(e:Bool):AA (B0×Bool):=br e (some (a,false)) (gd (0<=c/\c<=a.Data.length) (bd (aP a.Safe c) fun g=>some (B0.mk (an c.toNat a.Data) g,true)))
def Ly(a:B0)(c:Int):AA (B0×Bool):=bd (bW a) fun e=>br (!e) (jn (No a c) true) (bd (Eb c 0 (↑a.Data.length:Int)) fun g=>jn (No a c) (!g))
def Nn(a:Bo)(e:AE×Int×Bool)(h:Bool):AA (Af×Bool):=br h (some (Af.mk (AE.mk (Ab.mk [] 0 0 0 0 0 0 0 0) 0 0 [] [] [] []) (Bo.mk (B0.mk [] 0) (B0.mk [] 0) (B0.mk [] 0)) 0 [],false)) (bd (pZ a) fun g=>bd (Ly a.Log g) fun c=>bd (Ly a.Log g) fun j=>TZ c.fst j.fst (bd (pZ a) fun q=>bd (Ly a.Log q) fun y=>TZ c.fst y.fst (bd (pQ c.fst) fun B=>some (Af.mk e.fst (Bo.mk B a.FH a.Odd) e.snd.fst [],true))))
def aI(a:Bo):AA (Af×Bool):=bd (pY a) fun c=>br (!c.snd.snd) (jn (Nn a c) true) (bd (SF a) fun e=>jn (Nn a c) (!e))
def jc(c:Bo)(h:Int)(g:Bool):AA (AE×Int×Bool):=br g (some (AE.mk (Ab.mk [] 0 0 0 0 0 0 0 0) 0 0 [] [] [] [],0,false)) (bd (OY c h) fun a=>bd (pC c.Log.Data) fun j=>bd (AHP j a.snd.fst) fun q=>bd (AHJ q) fun e=>bd (ABL a.fst e) fun y=>some (y.fst,w64 (a.snd.fst+(↑(g0 e):Int)),true))
def ja(a:Bo):AA (AE×Int×Bool):=bd (aX a) fun c=>bd (zA a) fun e=>br (!e) (jn (jc a c) true) (jn (jc a c) (decide (c<0)))
def AEx:=gZ O7 ZM vC ["4lmybspHK0M9hylYiTKxhnZvKwwezPbXXlaJxUudVvrwQ89MZ9KFYuJ3kkWoYHgCUOUibvdA5gTBp7IT","eJ4puXCt2KZd62oeXUYRdxvPkyQkmdjQZxWACUNQCpLEgderfQoT5ESaH5YxuqWEs"] [uJ,AD5,kK,uH,APA,AO2,AQa] (Bd ja)
def XC(a:Bool):AA Bool:=some a
def AIU(a:Bo):AA Bool:=br (a.Log.Safe==a.Log.Data.length) (br (a.FH.Safe==a.FH.Data.length) (jn XC (a.Odd.Safe==a.Odd.Data.length)) (jn XC false)) (jn XC false)
def AQf:=gZ O7 DM DD ["WY8VOSxOSAyqzkKO6XtD6Xxsz5ghgXpZjO3qhV8gaXQKKOVBWqVcTJ6iCloEZ6HeZgIB6E4bSWeU1Z"] [] (Bd AIU)
def je(a:Int):AA Int:=some a
def jf(g:Int×Int×Int->AA Int)(a:Int)(e:Bs)(c:Int):AA Int:=g (c,e.Next,w64 (a+1))
def jd(h:Int×Int×Int->AA Int)(j a c:Int)(g:Bs)(e:Bool):AA Int:=br e (jn je a) (jn (jf h c g) (w64 (j+1)))
def ABO(q:AE×Int×Bool)(j:List Bs)(h:Int×Int×Int->AA Int)(B:Int×Int×Int):AA Int:=let (g,e,a):=B;br (decide (a<(g0 j))) (bd (at? j a) fun y=>bd (at? j a) fun c=>br (decide (c.Seq>g)) (br (c.Seq != w64 (g+1)) (jn (jd h g e a c) true) (jn (jd h g e a c) (decide (c.Seq>q.snd.fst)))) (jn (jf h a c) g)) (jn je e)
def pb(a:Bo):AA Int:=bd (ja a) fun e=>br (!e.snd.snd) (some 0) (bd (aX a) fun g=>bd (OY a g) fun c=>bd (OY a g) fun h=>eqv c.snd.fst h.snd.fst (Lr c.fst h.fst (bd (aX a) fun q=>bd (OY a q) fun j=>eqv c.snd.fst j.snd.fst (Lr c.fst j.fst (bd (pC a.Log.Data) fun y=>BB (ABO e y) big (c.snd.fst,0,0))))))
def AQg:=gZ O7 DC DD ["3bZ1L3zYfcJO1oEIIGRtaa7Trg2n7Ix2gAHB3Rec0EjhABsIWVzQXYUfGR8xaY45nzMPVSNvqUq73wcu","D22AisbiSmiG357RjBrmjuRiKS9Yi1c3OfU6kagvSa5vcP41IjltrE6fmh4AajUqZQNgV5x87xHob6cN","MCCvhvVguJjMiXKDGxYUBoXBSTXZhp6ncdlVcEmsCga6SEkPwEracT6MbFIdFLhezfCra4KstCCNz0wr","nZ4vqWl3IoSbyq7Sf9bx4sKKBH51DpFCkbN8MDAvyMQUrSadJoGvgae1Bj0uat"] [AEx,uJ,kK,uH] (Bd pb)
def jg(a:B0)(c:Int)(e:Bool):AA (B0×Bool):=br e (some (a,false)) (gd (0<=c/\c<=a.Data.length) (some (B0.mk (an c.toNat a.Data) (if false=true then if c>a.Safe then c else a.Safe else if c<a.Safe then c else a.Safe),true)))
def pc(a:B0)(c:Int):AA (B0×Bool):=bd (Pk a) fun e=>br (!e) (jn (jg a c) true) (bd (C4 c 0 (↑a.Data.length:Int)) fun g=>jn (jg a c) (!g))
def AQh:=gZ kN kQ kS ["iluwlJz8OilUo1qu8FWzF3yB1fqqwVxJiHJMofdyMPJiVisG2dJkvvMYsen0ppoLjYCsCy"] [Su,E6] (BF pc) [.mm 25 false (.tmp 23) (.tmp 24)]
def jh(a:Bo)(e:AE×Int×Bool)(h:Bool):AA (Af×Bool):=br h (some (Af.mk (AE.mk (Ab.mk [] 0 0 0 0 0 0 0 0) 0 0 [] [] [] []) (Bo.mk (B0.mk [] 0) (B0.mk [] 0) (B0.mk [] 0)) 0 [],false)) (bd (pb a) fun g=>bd (pc a.Log g) fun c=>bd (pc a.Log g) fun j=>TZ c.fst j.fst (bd (pb a) fun q=>bd (pc a.Log q) fun y=>TZ c.fst y.fst (bd (zf c.fst) fun B=>some (Af.mk e.fst (Bo.mk B a.FH a.Odd) e.snd.fst [],true))))
def ABP(a:Bo):AA (Af×Bool):=bd (ja a) fun c=>br (!c.snd.snd) (jn (jh a c) true) (bd (AIU a) fun e=>jn (jh a c) (!e))
def AQi:=gZ O7 ZJ uw ["LuW77Zb8Ul9on46web0QOgjZYqwMnQRoAK7dRzZ8kkjkMdsvXEk6C0Mas1zrimge5aoEfmD8d3Fvbh6V","qmGM2tFIcnjL8QLaiNxeAUUo7UbTUSKdLcza57XGZvbX3p3xTQTYf94vUn683xcKRBTKrtGRVM9vseiQ","xiEPh0GBWmuG2qoDM8NYlJspTRfOVcnnvOnEVnIrUdChEGoNZ18"] [AEx,AQf,AQg,AQh,AEH] (Bd ABP)
end Lv
set_option maxRecDepth 100000
namespace Lv
open Go (IntKind BinOp UnOp)
open Y (YF qn qf qt qr q1 qd qm qa qo ql qL qb qi qx qp qq qc qz qe qk qK qB qw qu qj Kp wn wf wt w1 sw sq sr wm wM wo wO wl wL wk wK wz wZ wx wX wb wB wi wI wr wR wq wQ we wE wc wY wj wh cv ca cx cn ce bl)
def XF(e:Int×AZ×Af->AA (Af×AZ))(g:Int)(h:AZ×Af):AA (Af×AZ):=let (a,c):=h;e (w64 (g+1),a,c)
def XE(q:Int×AZ×Af->AA (Af×AZ))(y:Int)(B:AZ×Af):AA (Af×AZ):=let (g,c):=B;bd (KP g 8) fun a=>br a.fst (bd (ij c) fun h=>bd (CE a.snd 5) fun e=>bd (Sk h.fst e.fst) fun j=>jn (XF q y) (e.snd,j.fst)) (jn (XF q y) (a.snd,c))
def XD(j:Int×AZ×Af->AA (Af×AZ))(q:Int)(y:Af)(B:AZ×B1):AA (Af×AZ):=let (e,c):=B;bd (KP e 5) fun a=>br a.fst (bd (fY y c) fun g=>jn (XE j q) (a.snd,g.fst)) (bd (AIR y c) fun h=>jn (XE j q) (a.snd,h.fst))
def ABR(e:AZ×Af):AA (Af×AZ):=let (a,c):=e;some (c,a)
def ji(j:Int×AZ)(h:Int×AZ×Af->AA (Af×AZ))(y:Int×AZ×Af):AA (Af×AZ):=let (c,e,a):=y;br (decide (c<j.fst)) (bd (pE e a.Bb) fun g=>bd (fY a g.fst) fun q=>h (w64 (c+1),g.snd,q.fst)) (jn ABR (e,a))
def ABQ(g:AZ×Af):AA (Af×AZ):=let (c,e):=g;bd (CE c 4) fun a=>BB (ji a) big (0,a.snd,e)
def ABS(y:Int×AZ)(h:Int×AZ×Af->AA (Af×AZ))(B:Int×AZ×Af):AA (Af×AZ):=let (e,j,a):=B;br (decide (e<y.fst)) (bd (pE j a.Bb) fun q=>bd (KP q.snd 2) fun g=>br g.fst (bd (AHR g.snd a.Bb) fun c=>jn (XD h e a) (c.snd,c.fst)) (jn (XD h e a) (g.snd,q.fst))) (jn ABQ (j,a))
def AIV(e:AZ):AA (Af×AZ):=bd (AAK e) fun a=>bd (AG6 a.fst) fun g=>bd (CE a.snd 14) fun c=>BB (ABS c) big (0,c.snd,g.fst)
def AQj:=gZ IA kP kR ["Bl3bSf1DARzYh5gis1zoT4LloCsiLmmubjjKcjSOBL05EXTXJXOWTEY8xpiwMk0sooUJUU7VRUmvsYVY","7tMIfcsr0MguO326NnBWujHQlZfd6a9bg6fleu17sRqTsDvtsb4I8DaniWY46hrDEEHehBdb4R3ui3dU","4OtS1pOrl4wBkuhCbAzLw0He7oWkjOtbx4A4QzPZanQcEowqH6QvSLL22lV6GcJdRExrBuuBOFUF3Tfp","fRlljDm5yafBOSu5qmPIxbdWoeaShErZeoD3QJrdmf9pvI9juamqUIGNt0D4cY2cP"] [AEP,AOl,Gw,AER,O4,APD,uC,AQb,kL,ua] (Bd AIV)
def ABT(e:AZ)(c:List UInt8):AA ((List UInt8)×AZ):=bd (Mv e ([19989,19990,20000])) fun a=>gd (0<=a.fst/\a.fst<=c.length) (some (an (s0 a.fst) c,a.snd))
def ABU(e:AZ)(c:List UInt8->AA (List UInt8×AZ))(a:List UInt8):AA ((List UInt8)×AZ):=br (decide ((↑a.length:Int)<20000)) (gd (a.length+a.length<=OI) (c (a++a))) (jn (ABT e) a)
def AIW(a:AZ):AA ((List UInt8)×AZ):=BB (ABU a) big ([48,49,50,51,52,53,54,55,56,57])
def AQk:=gZ IA O9 DD ["4XBFckuFWyQQJdy9JEcjbmiyeARKM3xEkm5KZJhzIRO1C3eKG6WDt0P8d5"] [N2] (Bd AIW)
def MJ(e:AZ×Af):AA (Af×AZ):=let (a,c):=e;some (c,a)
def ABV(h:Int×AZ)(g:Int×Af->AA (Af×AZ))(j:Int×Af):AA (Af×AZ):=let (a,c):=j;br (decide (a<9)) (bd (fY c (B1.mk 6 0 0 0 0 0)) fun e=>g (w64 (a+1),e.fst)) (jn MJ (h.snd,c))
def AIX(y:AZ):AA (Af×AZ):=bd (AIV y) fun a=>bd (CE a.snd 20) fun c=>br (c.fst==0) (bd (Mv c.snd ([-1,0,999999,1000000,1000001,9223372036854775807])) fun h=>jn MJ (h.snd,Af.mk a.fst.Bb a.fst.A9 h.fst a.fst.Laid)) (br (c.fst==1) (bd (AHO c.snd a.fst.Bb) fun g=>gd (a.fst.Laid.length+[g.fst].length<=lim) (jn MJ (g.snd,Af.mk a.fst.Bb a.fst.A9 a.fst.Seq (a.fst.Laid++[g.fst])))) (br (c.fst==2) (bd (Mv c.snd ([-1,0,30000])) fun j=>jn MJ (j.snd,Af.mk a.fst.Bb (Bo.mk (B0.mk a.fst.A9.Log.Data j.fst) a.fst.A9.FH a.fst.A9.Odd) a.fst.Seq a.fst.Laid)) (br (c.fst==3) (bd (AAq c.snd) fun q=>jn MJ (q.snd,Af.mk q.fst a.fst.A9 a.fst.Seq a.fst.Laid)) (br (c.fst==4) (BB (ABV c) big (0,a.fst)) (br (c.fst==5) (bd (AIW c.snd) fun e=>jn MJ (e.snd,Af.mk a.fst.Bb (Bo.mk (B0.mk e.fst a.fst.A9.Log.Safe) a.fst.A9.FH a.fst.A9.Odd) a.fst.Seq a.fst.Laid)) (jn MJ (c.snd,a.fst)))))))
def AQl:=gZ IA kP kR ["S2xdheYqILHqPTl4Pyt5qNCiIPIPsA4Kjw4oG3Rwdh2UQQnOaYDSKQvalo5OqwclEjMILNujrtbzUKNy","QWT5CSOc2MXGi2gfEMJAasmQW606AQH8JbiyMTA7Ept18v5TzKmcO0svQXfdMvp6bCKffh388abH4DhH","xVVUVWTLF4XBTa2gRLsZvlZtUQqX03yl8JSENWggPgbnvZZo4suzN5nGdEH8imwVku07lykLYoa4bAH9","rw7arcd"] [AQj,Gw,N2,AO9,APS,uC,AQk] (Bd AIX)
def XG(a:List Int)(c:Int):AA Int:=br (decide (c<a.length)) (bd (at? a c) fun e=>some e) (some 0)
def AQm:=gZ qC DC Cv ["MYCQqgaRbqe6iYGpYcWdaZx"] [] (BF XG)
def pd(a:B0)(e:Int):AA B0:=bd (bW a) fun g=>br (!g) (some a) (bd (aP e (w64 ((↑a.Data.length:Int)-a.Safe))) fun h=>bd (Nw 0 h) fun c=>gd (0<=w64 (a.Safe+c)/\w64 (a.Safe+c)<=a.Data.length) (some (B0.mk (an (w64 (a.Safe+c)).toNat a.Data) (w64 (a.Safe+c)))))
def AQn:=gZ kN ZK vB ["OqGs6eiLN2SxolHddvBNjW0PKd0RpWjoF6sh4JqO7T8QoyJr1J2ZMuVBHQYSUDUHdXPWJ"] [j9,kF,ah] (BF pd)
def ABW(a:Bo)(c:List Int):AA Bo:=bd (XG c 0) fun e=>bd (pd a.Log e) fun g=>bd (XG c 1) fun h=>bd (pd a.FH h) fun j=>bd (XG c 2) fun q=>bd (pd a.Odd q) fun y=>some (Bo.mk g j y)
def AQo:=gZ [.v (.st 10),.v (.l .i)] ur vA ["3Indx2tV6P5y26Aw462xACQ0UYlDreHxlEQCkaWk9DjehOVeS8r5ypnWQHZYtqzG021KTHH9b5"] [AQm,AQn] (BF ABW)
def pe(a:B0)(e:Int):AA B0:=bd (Pk a) fun g=>br (!g) (some a) (bd (jC e 0 (w64 ((↑a.Data.length:Int)-a.Safe))) fun c=>gd (0<=w64 (a.Safe+c)/\w64 (a.Safe+c)<=a.Data.length) (some (B0.mk (an (w64 (a.Safe+c)).toNat a.Data) (w64 (a.Safe+c)))))
def AQp:=gZ kN ZK vB ["2p5dsXI5pUD6l7APPhIO1ktKAUlqjTvmEKOJaTH3ed6DDctlMIfsfbmVllilJHWwZLM"] [Su,AEu] (BF pe)
def pf(c:Bo)(a:List Int):AA Bo:=bd (at? (an (s3 (s0 3) 0).length a++n4 a.length (s3 (s0 3) 0)) 0) fun B=>bd (at? (an (s3 (s0 3) 0).length a++n4 a.length (s3 (s0 3) 0)) 0) fun e=>bd (at? (an (s3 (s0 3) 0).length a++n4 a.length (s3 (s0 3) 0)) 1) fun E=>bd (at? (an (s3 (s0 3) 0).length a++n4 a.length (s3 (s0 3) 0)) 1) fun g=>bd (at? (an (s3 (s0 3) 0).length a++n4 a.length (s3 (s0 3) 0)) 2) fun G=>bd (at? (an (s3 (s0 3) 0).length a++n4 a.length (s3 (s0 3) 0)) 2) fun h=>bd (pe c.Log e) fun j=>bd (pe c.FH g) fun q=>bd (pe c.Odd h) fun y=>some (Bo.mk j q y)
def AQq:=gZ [.v (.st 10),.v (.l .i)] ur vA ["eZAuhWisqo6v1zRSXMnAPqFuwuy4ZhjgQJEvkDhDYd7FpDZacp4bbUImcSecfHMmiQdBN7XUPo3RujbL","WSVbY"] [AQp] (BF pf) [.R0 6 .i (.k (.int .i64 3)),.cpy 9 .i (.tmp 7) (.tmp 8)]
def Sl(a:Bool):AA Bool:=some a
def Pw(a:Af)(e:Bool):AA Bool:=br e (some false) (bd (ABW a.A9 []) fun g=>bd (pY g) fun c=>br c.snd.snd (br (c.snd.fst==w64 (a.Seq-(↑a.Laid.length:Int))) (bd (UW c.fst a.Bb) fun h=>jn Sl h) (jn Sl false)) (jn Sl false))
def jj(a:Af):AA Bool:=bd (yc a) fun j=>br (!j) (some false) (bd (pJ a.Bb a.Laid) fun q=>bd (ABW a.A9 ([20000,20000,20000])) fun h=>bd (pY h) fun g=>br (!g.snd.snd) (jn (Pw a) true) (br (g.snd.fst != a.Seq) (jn (Pw a) true) (bd (pZ h) fun c=>br (c != a.A9.Log.Data.length) (jn (Pw a) true) (bd (UW g.fst q.fst) fun e=>jn (Pw a) (!e)))))
def AQr:=gZ ZC DM DD ["1LXzjWTJVlBHkGjqyfkY5rfnmZlOgWsEbT0hWFCrdbfIn8aVIXOGsRfyVc2rdcogzlor6ElGChI6TG4S","lkWYLaSXMkgRHx26WbAgcamFvCIwxDuqZ0eOiUi1TK6PkFDNUksU3HgUuTKTj06OGVnj9707SdMjDGyg","K5RHZTZwSGNBbHeE0IpA2GNr7D6PRCLqGJsRkiABd0n9WgjPThRBf9JZHbl9fyxuySUAyepVQ7bXUBff","RFmlfaunybwrn1MFZCzBgnMKfJvdr5ALMuZkrEXYb"] [py,uK,AQo,AQG,AQe,AEU] (Bd jj)
def DS(a:Bool):AA Bool:=some a
def LQ(a c:Ab):AA Bool:=bd (fq a.AY c.AY) fun e=>br e (br (a.CX==c.CX) (br (a.Room==c.Room) (br (a.BC==c.BC) (br (a.CQ==c.CQ) (br (a.B3==c.B3) (br (a.Rest==c.Rest) (br (a.Cb==c.Cb) (jn DS (a.C5==c.C5)) (jn DS false)) (jn DS false)) (jn DS false)) (jn DS false)) (jn DS false)) (jn DS false)) (jn DS false)) (jn DS false)
def FY(_:PUnit):AA Bool:=some true
def D8(g j:List AQ)(h:Int->AA Bool)(e:Int):AA Bool:=br (decide (e<g.length)) (bd (at? g e) fun a=>bd (at? j e) fun c=>br (!(a.Id==c.Id&&(a.Aa==c.Aa&&(a.Bl==c.Bl&&(a.BC==c.BC&&(a.Cs==c.Cs&&(a.Since==c.Since&&(a.Av==c.Av&&(a.State==c.State&&(a.Ci==c.Ci&&(a.C0==c.C0&&true))))))))))) (some false) (h (w64 (e+1)))) (jn FY ())
def EO(a c:List AQ):AA Bool:=br ((↑a.length:Int) != c.length) (some false) (BB (D8 a c) big 0)
def Hc(a:Bool):AA Bool:=some a
def LR(a c:Aq):AA Bool:=bd (Ri a) fun e=>br e (bd (Ri c) fun g=>br g (bd (dh a) fun h=>bd (dh c) fun j=>bd (y4 h j) fun q=>jn Hc q) (jn Hc false)) (jn Hc false)
def FD(a:Bool):AA Bool:=some a
def LP(a c:Ae):AA Bool:=bd (oB a) fun e=>br e (bd (oB c) fun g=>br g (br (a.AY.Total==c.AY.Total&&(a.AY.Dh==c.AY.Dh&&(a.AY.Eg==c.AY.Eg&&(a.AY.Ff==c.AY.Ff&&(a.AY.Fw==c.AY.Fw&&true))))) (bd (yd a.Row c.Row) fun h=>br h (bd (LR a.By c.By) fun j=>jn FD j) (jn FD false)) (jn FD false)) (jn FD false)) (jn FD false)
def Cn(_:PUnit):AA Bool:=some true
def CH(c g:List Ae)(e:Int->AA Bool)(a:Int):AA Bool:=br (decide (a<c.length)) (bd (at? c a) fun h=>bd (at? g a) fun j=>bd (LP h j) fun q=>br (!q) (some false) (e (w64 (a+1)))) (jn Cn ())
def CM(a c:List Ae):AA Bool:=br ((↑a.length:Int) != c.length) (some false) (BB (CH a c) big 0)
def DR(a:Bool):AA Bool:=some a
def JH(a c:AE):AA Bool:=bd (Rj a) fun e=>br e (bd (Rj c) fun g=>br g (bd (LQ a.AS c.AS) fun h=>br h (br (a.Now==c.Now) (br (a.Av==c.Av) (bd (EO a.AG c.AG) fun j=>br j (bd (fq a.BA c.BA) fun q=>br q (bd (fq a.A4 c.A4) fun y=>br y (bd (CM a.AI c.AI) fun B=>jn DR B) (jn DR false)) (jn DR false)) (jn DR false)) (jn DR false)) (jn DR false)) (jn DR false)) (jn DR false)) (jn DR false)
def J1(a:Bool):AA Bool:=some a
def IM(a:Af)(e:Bool):AA Bool:=br e (some false) (bd (pf a.A9 []) fun g=>bd (ja g) fun c=>br c.snd.snd (bd (JH c.fst a.Bb) fun h=>br h (jn J1 (c.snd.fst==w64 (a.Seq-(↑a.Laid.length:Int)))) (jn J1 false)) (jn J1 false))
def V2(a:Af):AA Bool:=bd (zB a) fun j=>br (!j) (some false) (bd (pf a.A9 ([20000,20000,20000])) fun g=>bd (ja g) fun h=>bd (ABL a.Bb a.Laid) fun q=>br (!h.snd.snd) (jn (IM a) true) (bd (JH h.fst q.fst) fun c=>br (!c) (jn (IM a) true) (br (h.snd.fst != a.Seq) (jn (IM a) true) (bd (pb g) fun e=>jn (IM a) (e != g.Log.Data.length)))))
def jk(e:AZ×Af):AA (Af×AZ):=let (c,a):=e;some (a,c)
def XH(j:AZ×Af):AA (Af×AZ):=let (g,c):=j;bd (KP g 3) fun a=>br a.fst (bd (CE a.snd 5) fun e=>bd (Sk c e.fst) fun h=>jn jk (e.snd,h.fst)) (jn jk (a.snd,c))
def AIY(e:AZ):AA (Af×AZ):=bd (AIX e) fun a=>bd (KP a.snd 6) fun c=>br (!c.fst) (bd (ij a.fst) fun g=>jn XH (c.snd,g.fst)) (jn XH (c.snd,a.fst))
def AQs:=gZ IA kP kR ["BFWb0oRxl4IkAXn8o06tMAfaeZcc5hV7xv2IgnhgThsra4OxS75RWVO0hbAxDXybxttV9qmzmbIrlhRs","k1T"] [AQl,O4,kL,Gw,ua] (Bd AIY)
def AIZ(c:List UInt8):AA (Af×Int):=bd (AHK c) fun e=>bd (AIY e) fun a=>bd (Mv a.snd ([0,1,2,3,4,4,4,5,-1,9223372036854775807])) fun g=>some (a.fst,g.fst)
def AQt:=gZ ZE (.ret [(.st 11),.i]) uw ["B5CEV6LYVQ95Ur1v7m4HNkzQsHpwb2T3qAMGyVsMZoE0TaeACBdp"] [AO4,AQs,N2] (Bd AIZ)
def EF(a:Bool):AA Bool:=some a
def J8(h:Af×List C6)(c:Af×Bool)(j:Bool):AA Bool:=br j (br (!c.snd) (jn EF true) (bd (yc c.fst) fun q=>jn EF q)) (bd (pf c.fst.A9 []) fun y=>bd (ABP y) fun a=>br (c.fst.A9.Log.Data==[]) (br a.snd (br (a.fst.Seq==h.fst.Seq) (bd (UW a.fst.Bb h.fst.Bb) fun e=>br e (bd (AAE c.fst.A9 1000000) fun g=>jn EF (g==0)) (jn EF false)) (jn EF false)) (jn EF false)) (jn EF false))
def J2(g:List UInt8):AA Bool:=bd (ANS g) fun h=>br h (some true) (bd (AIZ g) fun j=>bd (ij j.fst) fun a=>bd (AH6 a.fst 4) fun c=>bd (Sk a.fst 4) fun q=>br (!c.snd==q.snd) (some false) (br (!c.snd) (jn (J8 a c) true) (bd (jj a.fst) fun e=>jn (J8 a c) (!e))))
def Hn:=gZ ZE DM DD ["acZIWbUOovjYXzJRX3qlwVHzt8oHtRUDFOnbBbmhtWAUjendf1FHxGFMq3V5wWznTMWRcro5P0SLzMOv","ow6qlWMJNRsG1v2pfFtfS8EcdY0zNEWjcFeQvDCRUs4LPu4ozjAYcUNDZetoH7A2swdCHSGXQKAp99es","Jjw3hHvBSLHxCJSbYfb0NVq79ChID1dHh027PLNwOmBDqySnGhNMMf3QCUXqWnc7ZFKq7k1LAd5nSvIu","zmcgIModuIKwv0J7uXLF0kfLZ8R7IYcSN"] [AO3,AQt,kL,AQE,ua,AQr,py,AQq,AQi,AEU,AEO] (Bd J2)
end Lv
set_option maxRecDepth 100000
namespace Lv
open Go (IntKind BinOp UnOp)
open Y (YF qn qf qt qr q1 qd qm qa qo ql qL qb qi qx qp qq qc qz qe qk qK qB qw qu qj Kp wn wf wt w1 sw sq sr wm wM wo wO wl wL wk wK wz wZ wx wX wb wB wi wI wr wR wq wQ we wE wc wY wj wh cv ca cx cn ce bl)
end Lv
set_option maxRecDepth 100000
namespace Lv
open Go (IntKind BinOp UnOp)
open Y (YF qn qf qt qr q1 qd qm qa qo ql qL qb qi qx qp qq qc qz qe qk qK qB qw qu qj Kp wn wf wt w1 sw sq sr wm wM wo wO wl wL wk wK wz wZ wx wX wb wB wi wI wr wR wq wQ we wE wc wY wj wh cv ca cx cn ce bl)
end Lv
set_option maxRecDepth 100000
namespace Lv
open Go (IntKind BinOp UnOp)
open Y (YF qn qf qt qr q1 qd qm qa qo ql qL qb qi qx qp qq qc qz qe qk qK qB qw qu qj Kp wn wf wt w1 sw sq sr wm wM wo wO wl wL wk wK wz wZ wx wX wb wB wi wI wr wR wq wQ we wE wc wY wj wh cv ca cx cn ce bl)
end Lv
