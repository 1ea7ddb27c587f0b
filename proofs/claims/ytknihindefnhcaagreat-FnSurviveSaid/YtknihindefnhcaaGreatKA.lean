/- Functions of the program as typed texts and as plain functions. -/
import Derived.Test.YtknihindefnhcaaGreatTC
set_option linter.all false
open Decidable renaming decide->It
open Bool renaming true->L1,false->L3
open Go.IntKind renaming wrap->kw
open List renaming take->an,length->g0,drop->m0,set->n6,replicate->s4
open Int renaming tmod->s0,toNat->v8
open UInt8 renaming toNat->s3
noncomputable section
set_option maxRecDepth 100000
namespace Lv
open Go (IntKind BinOp UnOp)
open Y (YF qn qf qt qr q1 qd qm qa qo ql qL qb qi qx qp qq qc qz qe qk qK qB qw qu qj Kp wn wf wt w1 sw sq sr wm wM wo wO wl wL wk wK wz wZ wx wX wb wB wi wI wr wR wq wQ we wE wc wY wj wh cv ca cx cn ce bl)
def CT(a:Int):AA Int:=some a
def FX(a:List Int):AA (List Int):=some a
def Lb(a:List AR):AA (List AR):=some a
def Pk(a:List Ar):AA (List Ar):=some a
def Ec(a:List Bf):AA (List Bf):=some a
def RC(a:Bp):AA Bp:=some a
def HS(a:List Bo):AA (List Bo):=some a
def Au(a:Bool):AA Bool:=some a
def C3(a c e:Int):AA Bool:=br (It (a>=c)) (jn Au (It (a<=e))) (jn Au L3)
def H6:=gZ ASe Dk U0 ["2aBpbLig6lLB2Pdib7cIXkHIaj"] [] (Gw C3)
def AII(a:Ad)(_:PUnit):AA Bool:=bd (C3 a.CD 1 8) λe=>br e (bd (C3 a.Rest 0 8) λg=>br g (bd (C3 a.Cr 1 4) λh=>br h (bd (C3 a.Da 1 3) λc=>jn Au c) (jn Au L3)) (jn Au L3)) (jn Au L3)
def vH(a:Ad)(e:Int->AA Bool)(c:Int):AA Bool:=br (It (c<a.AZ.length)) (bd (at? a.AZ c) λg=>bd (C3 g 1 60) λh=>br (!h) (some L3) (e (w64 (c+1)))) (jn (AII a) ())
def Sz(a:Ad)(c:Bool):AA Bool:=br c (some L3) (BK (vH a) big 0)
def vG(a:Ad):AA Bool:=bd (C3 (a.AZ.length:Int) 1 4) λj=>br (!j) (jn (Sz a) L1) (bd (C3 a.Cj 1 5) λc=>br (!c) (jn (Sz a) L1) (bd (C3 a.Room 1 10) λe=>br (!e) (jn (Sz a) L1) (bd (C3 a.BL 1 6) λg=>br (!g) (jn (Sz a) L1) (bd (C3 a.Ca 1 12) λh=>jn (Sz a) (!h)))))
def mT:=gZ ZZ Dk DY ["8b94MbkBGq34Z1dgv7GSXzA8euCPxRRcoO7xS5gTxrrLMqdg3LBXlvAxK2Gh38xQPZItonWsAxNINiqL","atv4apob8bzdadypKcPyGDWOGg2S03Ztp1QCXM7yctCyYBmpup0AOp8rNj4NLL721d949PBnBbxnXuD8","tnnHxkhaD038x6TBLusMm"] [H6] (Bg vG)
def Jf(c:Ad)(a:AR)(e:Int)(g:Bool):AA Bool:=br g (some L3) (br (a.State==1) (bd (C3 a.DK 0 (w64 (e+c.Rest))) λh=>br h (jn Au L1) (br (a.State==2) (bd (C3 a.DK 1 (w64 (e+c.CD))) λj=>jn Au j) (jn Au L3))) (br (a.State==2) (bd (C3 a.DK 1 (w64 (e+c.CD))) λq=>jn Au q) (jn Au L3)))
def Qh(c:Ad)(a:AR)(e:Int)(q:Bool):AA Bool:=br q (some L3) (bd (C3 a.BL 1 c.BL) λy=>br (!y) (jn (Jf c a e) L1) (bd (C3 a.DH 0 (w64 (c.Cj-1))) λB=>br (!B) (jn (Jf c a e) L1) (bd (C3 a.Since 0 e) λg=>br (!g) (jn (Jf c a e) L1) (bd (C3 a.A3 1 1000000) λh=>br (!h) (jn (Jf c a e) L1) (bd (C3 a.De 0 (w64 (c.Cr-1))) λj=>jn (Jf c a e) (!j))))))
def AFA(c:Ad)(a:AR)(e:Int):AA Bool:=bd (vG c) λy=>br (!y) (jn (Qh c a e) L1) (bd (C3 e 0 1000000) λg=>br (!g) (jn (Qh c a e) L1) (bd (C3 a.Id 1 999) λh=>br (!h) (jn (Qh c a e) L1) (bd (C3 a.Ab 0 (w64 ((c.AZ.length:Int)-1))) λj=>br (!j) (jn (Qh c a e) L1) (bd (C3 a.Bs (-1) (w64 ((c.AZ.length:Int)-1))) λq=>br (!q) (jn (Qh c a e) L1) (jn (Qh c a e) (a.Bs==a.Ab))))))
def AC9:=gZ eT Dk U0 ["YeJ0ECrZUymPPT0gMRQNqBc8hSJoPBkVoHMCGeldPvfbKIhXdL74fkZsHZIGCf5yYME9FrImRXHERSRp","QyPxHO9ZGGL1RjTp4pMMLlsSlmZ2BXaXmbpiDyPw589Ak32pT6Eb0ALXbxOpCxFjxKu6JtbOG2f484MB","8w3jLoQRuegcRqZCasJf37MemU8FlSe16qu1Ja2eBwtQYqzGBEK19wmREwXRP0IuYQTUaLCaWJNx8cXU","gsuiIZayDsIBPPzzUATOeqZQXGRkOWY9d6yfwO9NeGECpFoD8e4"] [mT,H6] (Gw AFA)
def C5(a:Int->AA Bool)(c:Int)(e:Bool):AA Bool:=br e (some L3) (a (w64 (c+1)))
def Qi(a:Int->AA Bool)(c:Int)(_:PUnit):AA Bool:=a (w64 (c+1))
def vJ(q:AF)(j:Int->AA Bool)(h:Int)(c:AR)(g:Int->AA Bool)(a:Int):AA Bool:=br (It (a<h)) (bd (at? q.AG a) λe=>br (e.A3==c.A3) (jn (C5 g a) L1) (br (It (e.A3<c.A3)) (br (It (e.Since>c.Since)) (jn (C5 g a) L1) (br (It (e.A3>c.A3)) (jn (C5 g a) (It (e.Since<c.Since))) (jn (C5 g a) L3))) (br (It (e.A3>c.A3)) (jn (C5 g a) (It (e.Since<c.Since))) (jn (C5 g a) L3)))) (jn (Qi j h) ())
def Vt(c:AF)(a:Int->AA Bool)(e:Int)(h:AR)(g:Bool):AA Bool:=br g (some L3) (BK (vJ c a e h) big 0)
def EZ(_:PUnit):AA Bool:=some L1
def vI(a:AF)(g:Int->AA Bool)(c:Int):AA Bool:=br (It (c<a.AG.length)) (bd (at? a.AG c) λe=>bd (AFA a.AQ e a.Now) λj=>br (!j) (jn (Vt a g c e) L1) (br (It (e.A3>=a.A3)) (jn (Vt a g c e) L1) (br (It (c>0)) (bd (at? a.AG (w64 (c-1))) λh=>jn (Vt a g c e) (It (h.Id>=e.Id))) (jn (Vt a g c e) L3)))) (jn EZ ())
def AWS(a:AF):AA Bool:=BK (vI a) big 0
def AX7:=gZ Za Dk DY ["1Bh7SjKAe8L3GX1tuInyNIfejWdDLz3gom5kjp6Myh201xtDOLt64vPgUkIV65VKrWLPM3vWiW3Ehad6","IozJK4aFxzxaQTecseYKOUtrvj4GJjPK8eFXEjwslP4hfg5oUE422I1Ewc3XJHOaQWriP9lM7Sp3rVN4","eJncdX972v3FVITEAKC8urcWFBjV3MffLfW9kleS0uhGClewXGu7usIqZw0gQVCVvK5FeBIIIH9uyap2","HDGE32dqEn0t7SDOaBZRD8PMXOUDjZ5pMt98EX"] [AC9] (Bg AWS)
def AIe(_:PUnit):AA Bool:=some L3
def AIf(c:List Int)(g:Int)(e:Int->AA Bool)(a:Int):AA Bool:=br (It (a<c.length)) (bd (at? c a) λh=>br (h==g) (some L1) (e (w64 (a+1)))) (jn AIe ())
def ALh(a:List Int)(c:Int):AA Bool:=BK (AIf a c) big 0
def AKK:=gZ si Dk DA ["nYLuMawjpejFMXkBxlLS4z98gYUkaEtinWZ968SR2r4S"] [] (BR ALh)
def AIs(a:AF)(_:PUnit):AA Bool:=some ((a.BI.length:Int)==a.AQ.Da)
def vN(a:AF)(h:Int->AA Bool)(c:Int):AA Bool:=br (It (c<a.BI.length)) (bd (at? a.BI c) λe=>bd (C3 e (-1) (w64 ((a.AI.length:Int)-1))) λg=>br (!g) (some L3) (h (w64 (c+1)))) (jn (AIs a) ())
def gF(a:AF)(_:PUnit):AA Bool:=BK (vN a) big 0
def vK(c:AF)(e:Int->AA Bool)(a:Int):AA Bool:=br (It (a<c.BM.length)) (bd (at? c.BM a) λg=>bd (C3 g 0 (w64 ((c.AI.length:Int)-1))) λh=>br (!h) (jn (C5 e a) L1) (gd (0<=a/\a<=c.BM.length) (bd (at? c.BM a) λj=>bd (ALh (an a.toNat c.BM) j) λq=>jn (C5 e a) q))) (jn (gF c) ())
def AWT(a:AF):AA Bool:=BK (vK a) big 0
def AX8:=gZ Za Dk DY ["9xQKtzjJVFlIrDVVUdeghbuKVoXBJbor0pzCOXPFluESkNCeH5M4OMmqswNPvK2W0lM9GkLRRlwhgJeq","iwgMrhGmqwjeHA79QA96zRSBdrukjD453QAcWvFoG4MQpblNfA3kFQkAxVX9rvLOFPfePTel14Iicb2U","abR"] [H6,AKK] (Bg AWT)
def RD(a:BO):AA Bool:=bd (C3 a.Total 1 60) λc=>br c (bd (C3 a.Et 0 a.Total) λe=>br e (bd (C3 a.FU 0 a.Total) λg=>br g (bd (C3 a.Ge 0 a.Total) λh=>br h (br (w64 (w64 (a.Et+a.FU)+a.Ge)==a.Total) (bd (C3 a.Gm 0 a.Ge) λj=>jn Au j) (jn Au L3)) (jn Au L3)) (jn Au L3)) (jn Au L3)) (jn Au L3)
def AKL:=gZ [.v (.st 3)] Dk DY ["L1EfNp1ZJb5HOgZUlE5fAQ1BkGFqHgpGnLo4CnZdwuhuJViAfQKJDvrrcB3IrSw5i0lnxglDJQ1DAqkx","POT2PzjJGLUXSmUMO0ZTFMZu5d6SRXOWsJI"] [H6] (Bg RD)
def AO2(a c:Ar):AA Bool:=br (It (a.Level<c.Level)) (jn Au L1) (br (a.Level==c.Level) (jn Au (It (a.A3<c.A3))) (jn Au L3))
def ARN:=gZ ASl Dk DA ["2SlEph9Vxr7J8xPSbdQxHM9ZAJLU5R1SrSkYUuJQ9nvvDpKctSgR"] [] (BR AO2)
def HH(_:PUnit):AA Int:=some (-1)
def AJV(c:List Ar)(g:Int)(e:Int->AA Int)(a:Int):AA Int:=br (It (a<c.length)) (bd (at? c a) λh=>br (h.Id==g) (some a) (e (w64 (a+1)))) (jn HH ())
def ALi(a:List Ar)(c:Int):AA Int:=BK (AJV a c) big 0
def ARb:=gZ AGQ Dd DA ["n4oiBT2v61ETZxCiL5EnyJOl8Kr2GXhE8GzuC1OMNNdoz678W"] [] (BR ALi)
def Vv(e:List Ar)(c:Int->AA Bool)(a:Int)(h:Ar)(j:Bool):AA Bool:=br j (some L3) (br (It (a>0)) (bd (at? e (w64 (a-1))) λq=>bd (AO2 q h) λy=>br (!y) (jn (C5 c a) L1) (bd (ALi e h.Id) λB=>jn (C5 c a) (B != a))) (bd (ALi e h.Id) λg=>jn (C5 c a) (g != a)))
def vO(c:List Ar)(g:Int->AA Bool)(e:Int):AA Bool:=br (It (e<c.length)) (bd (at? c e) λa=>bd (C3 a.Level 0 4) λy=>br (!y) (jn (Vv c g e a) L1) (bd (C3 a.A3 1 1000000) λh=>br (!h) (jn (Vv c g e a) L1) (bd (C3 a.Id 1 999) λj=>br (!j) (jn (Vv c g e a) L1) (bd (C3 a.BL 1 6) λq=>jn (Vv c g e a) (!q))))) (jn EZ ())
def ALj(a:List Ar):AA Bool:=br (It ((a.length:Int)>10)) (some L3) (BK (vO a) big 0)
def AR4:=gZ xm Dk DY ["aXGnAeuMoJlrMQQMOpKZAOFaU0hh738KsyCc2NdRgbVagmvB3wS4uAxdaKmMDOJw6DyZzYayoiIUmEip","sRAQAkV0TnAsOtw8IIg493XwxM3HDgJSICwx0eH4RjuYli6ZGGcOgVy8Jz7dHK54uCiuGGR4qir9cJ9Q","8cSsFNwSsrty7lKTEBElLwnfPer5J8SX7"] [H6,ARN,ARb] (Bg ALj)
def AJ1(e:A2)(h:List Bf×Int->AA (List Bf))(j:List Bf×Int):AA (List Bf):=let (a,c):=j;br (It (c<e.Av.length)) (bd (at? e.Av c) λg=>gd (g0 a+g0 g<=lim) (h (a++g,w64 (c+1)))) (jn Ec a)
def APM(a:A2):AA (List Bf):=BK (AJ1 a) big ([],0)
def ASX:=gZ bz XO DY ["177ir0bRQFItUiVJO2I8s8gxDP9iuGToegVIiGU1wTQc9g6bOZgHWHyB44YQO"] [] (Bg APM)
def APN(a c:Bf):AA Bool:=br (It (a.At<c.At)) (jn Au L1) (br (a.At==c.At) (jn Au (It (a.Id<c.Id))) (jn Au L3))
def ASZ:=gZ [.v (.st 5),.v (.st 5)] Dk DA ["2SlEph9Vxr7J8xPSbdQxHM9ZAJLU5R1SrSkYUuJQ9nvvDpKctSgR"] [] (BR APN)
def be{b c:Type}(a:List b)(i:Int)(f:b->AA c):AA c:=bd (at? a i) λ_=>bd (at? a i) f
def vQ(e:List Bf)(j:Int->AA Bool)(c:Int)(q:Int->AA Bool)(a:Int):AA Bool:=br (It (a<c)) (be e a λg=>be e c λh=>br (g.Id==h.Id) (some L3) (q (w64 (a+1)))) (jn (Qi j c) ())
def gH(g:List Bf)(a:Int->AA Bool)(c:Int)(e:Bool):AA Bool:=br e (some L3) (BK (vQ g a c) big 0)
def vS(g:A2)(h:Int->AA Bool)(c:Int)(e:Int->AA Bool)(a:Int):AA Bool:=bd (at? g.Av c) λj=>br (It (a<(g0 j))) (bd (at? g.Av c) λq=>bd (at? q a) λy=>br (y.At.tmod 9 != c) (jn (C5 e a) L1) (br (It (a>0)) (bd (at? g.Av c) λB=>bd (at? B (w64 (a-1))) λE=>bd (at? g.Av c) λG=>bd (at? G a) λH=>bd (APN E H) λI=>jn (C5 e a) (!I)) (jn (C5 e a) L3))) (jn (Qi h c) ())
def vR(e:A2)(c:Int->AA Bool)(a:Int):AA Bool:=br (It (a<e.Av.length)) (BK (vS e c a) big 0) (jn EZ ())
def gJ(a:A2)(_:PUnit):AA Bool:=BK (vR a) big 0
def vP(j:A2)(c:List Bf)(h:Int->AA Bool)(a:Int):AA Bool:=br (It (a<(g0 c))) (be c a λy=>bd (C3 y.At 1 1000008) λB=>br (!B) (jn (gH c h a) L1) (be c a λe=>bd (C3 e.Id 1 999) λg=>jn (gH c h a) (!g))) (jn (gJ j) ())
def gG(a:A2)(e:List Bf)(c:Bool):AA Bool:=br c (some L3) (BK (vP a e) big 0)
def pc(a:A2):AA Bool:=bd (APM a) λc=>br ((a.Av.length:Int) != 9) (jn (gG a c) L1) (jn (gG a c) (It ((↑(g0 c):Int)>10)))
def se:=gZ bz Dk DY ["CSbUsO6h6CxlTUy1T1XzRMcyr9Trmk1XTaZQnCKnbzdmUrbTOgd1VhrCJ64GR1zn5AcoDTQe1oH9PECQ","PmgljZGRq3FSzu69I5iqdqAY0f73SfEn8PlBsQoGVVX52RMwuXq6nCQCAZ2NsKM01tud1HavrIjyaMoh","b4lvcX8UrMB1gZdadZpS6mMyvatMnMFrONiFmOX9Ym57jlyHeq4Xm8FiFT8LQqMNmDh82HPjjtuXsabp","aRvTs247BMnfgXzsTSLaxYSWbhcz2pwc1EYOEjLD7i96YWrgBXllfa1q4FIa9FeWeVfX8IBrELO2yr1T","hNwoxuTdyiogsWsXvUNO3CtVez1tpe4YlrV6r4Df"] [ASX,H6,ASZ] (Bg pc)
def ALk(a:Ak):AA Bool:=bd (RD a.AZ) λc=>br c (bd (ALj a.Row) λe=>br e (bd (pc a.B9) λg=>jn Au g) (jn Au L3)) (jn Au L3)
def ASa:=gZ xn Dk DY ["VKEXPUqcfzujTEQzhAXh7McF6YuEFfbq5I"] [AKL,AR4,se] (Bg ALk)
def Pu(a c:Int):AA Int:=br (It (a>c)) (some a) (some c)
def eS:=gZ xp Dd DA ["E7x8o9oqRi9w6nPkChXAKj"] [] (BR Pu)
def AWU(a:Ad)(c e:Int):AA Int:=gd (a.Ca≠0) (bd (Pu 0 (w64 (c-w64 (e.tdiv a.Ca)))) λg=>some g)
def AX9:=gZ [.v (.st 1),.v .i,.v .i] Dd U0 ["4wLyyztQusYjBbqD33X3TSZ"] [eS] (Gw AWU)
def AWV(c:Ad)(a:AR)(e:Int):AA Int:=bd (AFA c a e) λg=>br (!g) (some (-1)) (bd (AWU c a.DH (w64 (e-a.Since))) λh=>some h)
def AYA:=gZ eT Dd U0 ["FFRZOwZK38db6SAXggKAe1kc1cRH81fkNMaoNfPJl6PI"] [AC9,AX9] (Gw AWV)
def vT(a:AR)(e:Int)(c:Bool):AA (Ar×Bool):=br c (some (Ar.mk 0 0 0 0,L3)) (some ({a with Level:=e},L1))
def ALl(e:Ad)(a:AR)(g:Int):AA (Ar×Bool):=bd (AWV e a g) λc=>br (It (c<0)) (jn (vT a c) L1) (jn (vT a c) (a.State != 1))
def ASb:=gZ eT (.ret [(.st 4),.b]) [.cell 6 (some 4),.tmp 7] ["Kdf4G5EJphUu4zsoL6MT3KUlm4iKD4TaVr5shNJKkmTALM4B1kIlMV1LZcEz3PbmrlL0K2DzxH7i"] [AYA] (Gw ALl)
def pd(a:List Ar):AA (List Ar):=gd (0+a.length<=lim) (some ([]++a))
def ADA:=gZ xm cD DY ["5RsVmcIhAvEeZcqz"] [] (Bg pd)
def vU(c:List Ar)(e:Ar)(a:Int):AA (List Ar):=gd (0<=a/\a<=c.length) (bd (pd (an a.toNat c)) λg=>gd (g0 g+[e].length<=lim) (bd (pd (an a.toNat c)) λh=>gd (g0 h+[e].length<=lim) (eqv (g++[e]) (h++[e]) (gd (0<=a/\a<=c.length) (gd ((g++[e]).length+(m0 a.toNat c).length<=lim) (some (g++[e]++m0 a.toNat c)))))))
def gK(e:List Ar)(g:Ar)(c:Int->AA (List Ar))(a:Int)(h:Bool):AA (List Ar):=br h (c (w64 (a+1))) (jn (vU e g) a)
def vV(a:List Ar)(e:Ar)(g:Int->AA (List Ar))(c:Int):AA (List Ar):=br (It (c<a.length)) (bd (at? a c) λh=>bd (AO2 h e) λj=>jn (gK a e g c) j) (jn (gK a e g c) L3)
def ACm(a:List Ar)(c:Ar):AA (List Ar):=BK (vV a c) big 0
def AKM:=gZ AGR cD DA ["6HDMomhIo41Vw4HBF8IK3t192tEQ9Cqcpf6wHWDA5m4zckmNps4dsHmHyYgO3CCLsW76tQl7zPU2kKOT","RFMflMSTHAUifPggB75UGcItmUcUkymBsK0QEU2hwkjq"] [ARN,ADA] (BR ACm)
def vX(c:List Ar×Int->AA (List Ar))(e:Int)(a:List Ar):AA (List Ar):=c (a,w64 (e-1))
def vW(a:List Ar×Int->AA (List Ar))(c:List Ar)(e:Int)(h:Ar×Bool)(g:Bool):AA (List Ar):=br g (bd (ACm c h.1) λj=>jn (vX a e) j) (jn (vX a e) c)
def AJ3(h:Ad)(j:List AR)(E q:Int)(g:List Ar×Int->AA (List Ar))(H:List Ar×Int):AA (List Ar):=let (e,a):=H;br (It (a>=0)) (bd (at? j a) λy=>bd (ALl h y q) λc=>bd (ALl h y q) λB=>eqv c.2 B.2 (AAF c.1 B.1 (br c.2 (bd (at? j a) λG=>jn (vW g e a c) (G.Ab==E)) (jn (vW g e a c) L3)))) (jn Pk e)
def AFB(c:Ad)(a:List AR)(e g:Int):AA (List Ar):=BK (AJ3 c a e g) big ([],w64 ((a.length:Int)-1))
def ADB:=gZ [.v (.st 1),.v (.l (.st 2)),.v .i,.v .i] cD [.tmp 8] ["1JErG4piOEyysn3g751VluIbH2mYBfVV212Es6hy0D3XE0Ez3MKa2M7nXebJ5HTW4BlvoXPLYLSmIbPC","0AxijDdvy3ZORP3X3RJ8n6GTD9OEMGPvlqYdLXBMYitkBbrjNwHzPgGRlrSbVzOLIfx9bfJOpJTMu92x","nZSe0Ws2fa72jhkPtLjcYwcR4"] [ASb,AKM] (Xo AFB)
def vY(g j:List Ar)(h:Int->AA Bool)(a:Int):AA Bool:=br (It (a<g.length)) (bd (at? g a) λc=>bd (at? j a) λe=>br (!(c.Level==e.Level&&(c.A3==e.A3&&(c.Id==e.Id&&(c.BL==e.BL&&L1))))) (some L3) (h (w64 (a+1)))) (jn EZ ())
def ACn(a c:List Ar):AA Bool:=br ((a.length:Int) != c.length) (some L3) (BK (vY a c) big 0)
def ASc:=gZ ASf Dk DA ["1nr2l1mRyOW6W7jIZhmTF8w2rnN6YhSsckTIQzuhLxYHEWChouKhZZVSPLE75xL4VV2j"] [] (BR ACn)
def vZ(c:List Bf)(e:Bf)(a:Int):AA (List Bf):=gd (0<=a/\a<=c.length) (gd (0+(an a.toNat c).length<=lim) (gd (([]++an a.toNat c).length+[e].length<=lim) (gd (0<=a/\a<=c.length) (gd (([]++an a.toNat c++[e]).length+(m0 a.toNat c).length<=lim) (some ([]++an a.toNat c++[e]++m0 a.toNat c))))))
def gM(e:List Bf)(g:Bf)(c:Int->AA (List Bf))(a:Int)(h:Bool):AA (List Bf):=br h (c (w64 (a+1))) (jn (vZ e g) a)
def va(a:List Bf)(e:Bf)(g:Int->AA (List Bf))(c:Int):AA (List Bf):=br (It (c<a.length)) (bd (at? a c) λh=>bd (APN h e) λj=>jn (gM a e g c) j) (jn (gM a e g c) L3)
def ALm(a:List Bf)(c:Bf):AA (List Bf):=BK (va a c) big 0
def AKN:=gZ ASg XO DA ["1IpOSdOc8YdaZONByXgcfMjN0qauwSIqbf1jc9BwqjVOWB2NhQrKXOTYfenAOINvfiesIvycO6Tq9P0B","QuEc8ZjCCuzBkXR"] [ASZ] (BR ALm)
def vd(c:List Bf)(g:List Bf×Int->AA (List Bf))(q:List Bf×Int):AA (List Bf):=let (e,a):=q;br (It (a<(g0 c))) (be c a λh=>bd (ALm e h) λj=>g (j,w64 (a+1))) (jn Ec e)
def AFC(a:A2):AA (List Bf):=bd (pc a) λc=>br (!c) (some []) (bd (APM a) λe=>BK (vd e) big ([],0))
def AKO:=gZ bz XO DY ["12EQ7sU71uH3F2isvC9FdHOL9lpx6lbkffRvhBzzR27yHvYpRN62fbq7p9x9BB5n096GCV7syAl3zQIv"] [se,ASX,AKN] (Bg AFC)
def KW(c:List Bf×Int->AA (List Bf))(e:Int)(a:List Bf):AA (List Bf):=c (a,w64 (e+1))
def ve(e:List AR)(c:List Bf×Int->AA (List Bf))(g:List Bf)(a:Int)(h:Bool):AA (List Bf):=br h (bd (at? e a) λj=>bd (at? e a) λq=>bd (ALm g (Bf.mk j.DK q.Id)) λy=>jn (KW c a) y) (jn (KW c a) g)
def vg(a:List AR)(h:Int)(g:List Bf×Int->AA (List Bf))(y:List Bf×Int):AA (List Bf):=let (e,c):=y;br (It (c<a.length)) (bd (at? a c) λj=>br (j.State==2) (bd (at? a c) λq=>jn (ve a g e c) (q.Ab==h)) (jn (ve a g e c) L3)) (jn Ec e)
def AFD(a:List AR)(c:Int):AA (List Bf):=BK (vg a c) big ([],0)
def AKP:=gZ RG XO DA ["CIdAGRwZmYHRMh9Ug0a6DomFI8A7j63DzpFtuHbLUxKfr2VueRvuP4FRDUcmtXZka5aFCxEv9hLLflol","xdER1diW0WHzpThr3L55yMUHnOiF6G503qKElD5"] [AKN] (BR AFD)
def vi(c j:List Bf)(h:Int->AA Bool)(a:Int):AA Bool:=br (It (a<c.length)) (bd (at? c a) λe=>bd (at? j a) λg=>br (!(e.At==g.At&&(e.Id==g.Id&&L1))) (some L3) (h (w64 (a+1)))) (jn EZ ())
def ACo(a c:List Bf):AA Bool:=br ((a.length:Int) != c.length) (some L3) (BK (vi a c) big 0)
def ASd:=gZ ASh Dk DA ["2UWSkv8iThia3GaCSBvbCMGe0a5JyLTD9oVkjPHNvG6ZOUx0jMOVf3ca9e4qYaBE74"] [] (BR ACo)
def HG(c:Int×Int->AA Int)(e a:Int):AA Int:=c (a,w64 (e+1))
def Sy(g:List AR)(c:Int×Int->AA Int)(e a:Int)(h:Bool):AA Int:=br h (bd (at? g a) λj=>jn (HG c a) (w64 (e+j.BL))) (jn (HG c a) e)
def ux(a:List AR)(h:Int)(g:Int×Int->AA Int)(E:Int×Int):AA Int:=let (e,c):=E;br (It (c<a.length)) (bd (at? a c) λj=>br (j.State==2) (bd (at? a c) λq=>br (q.Ab==h) (bd (at? a c) λy=>bd (C3 y.BL 1 6) λB=>jn (Sy a g e c) B) (jn (Sy a g e c) L3)) (jn (Sy a g e c) L3)) (jn CT e)
def AE9(a:List AR)(c:Int):AA Int:=BK (ux a c) big (0,0)
def AC5:=gZ RG Dd DA ["rLceWWzWqEZ2KcywSugF3rA4rhc9lwT9CkhebqdC9VB8nsjBhtsAMuVmZdrU1e9uMACIiIZiVNmbUMJV","G2JRC5SoUfMEJsGdFBv445Pi8lR4KiUTd6vkcCc1Q"] [H6] (BR AE9)
def uy(a:List AR)(h:Int)(g:Int×Int->AA Int)(B:Int×Int):AA Int:=let (e,c):=B;br (It (c<a.length)) (bd (at? a c) λj=>br (j.Bs==h) (bd (at? a c) λq=>bd (C3 q.BL 1 6) λy=>jn (Sy a g e c) y) (jn (Sy a g e c) L3)) (jn CT e)
def AA0(a:List AR)(c:Int):AA Int:=BK (uy a c) big (0,0)
def AC6:=gZ RG Dd DA ["V9bp3wtYVepDbzBezenoWpiRVs2pORpqbvrPjmorq1OjDM05BGGEcI6w7ECyJSA0emonRDFZdKONjXV6","CJZ3sRGglJOZbqbSq"] [H6] (BR AA0)
def AWR(g:Ad)(a:Ak)(c:List AR)(e h:Int):AA Bool:=bd (ALk a) λj=>br j (bd (AFB g c e h) λq=>bd (ACn a.Row q) λy=>br y (bd (AFC a.B9) λB=>bd (AFD c e) λE=>bd (ACo B E) λG=>br G (bd (AE9 c e) λH=>br (a.AZ.FU==H) (bd (AA0 c e) λI=>jn Au (a.AZ.Gm==I)) (jn Au L3)) (jn Au L3)) (jn Au L3)) (jn Au L3)
def AX5:=gZ ASi Dk [.tmp 10] ["2iFEV35kkHyw0c2DEamvhkMmjz4mvbDGRCeW72haW7DWSzxEjqffSV4Q2LBPbkzc5UGrqF7LWpxw0Iiw","rfDBugXzkbSY36K9VcSC54BcOmfwZmOwua0eVHzASjH30zkqAVQhpDf26hFAdYnmzXV"] [ASa,ADB,ASc,AKO,AKP,ASd,AC5,AC6] (AHi AWR)
def uz(g:List AR)(h:Int)(e:Int×Int->AA Int)(q:Int×Int):AA Int:=let (c,a):=q;br (It (a<g.length)) (bd (at? g a) λj=>br (j.Ab==h) (jn (HG e a) (w64 (c+1))) (jn (HG e a) c)) (jn CT c)
def iT(a:List AR)(c:Int):AA Int:=BK (uz a c) big (0,0)
def AC7:=gZ RG Dd DA ["ZoBWwJbImz0NFSvlACsraFW366mNfl3ttyxNfGWN5Duvi5ZTdSyy8y9c8B"] [] (BR iT)
def vB(a:AF)(e:Int->AA Bool)(c:Int):AA Bool:=br (It (c<a.AI.length)) (bd (at? a.AI c) λq=>bd (at? a.AQ.AZ c) λy=>br (q.AZ.Total != y) (jn (C5 e c) L1) (bd (at? a.AI c) λg=>bd (AWR a.AQ g a.AG c a.Now) λh=>br (!h) (jn (C5 e c) L1) (bd (iT a.AG c) λj=>jn (C5 e c) (It (j>a.AQ.Room))))) (jn EZ ())
def gD(a:AF)(c:Bool):AA Bool:=br c (some L3) (BK (vB a) big 0)
def Qg(a:AF)(e:Bool):AA Bool:=br e (some L3) (bd (AWS a) λg=>br (!g) (jn (gD a) L1) (bd (AWT a) λc=>jn (gD a) (!c)))
def iU(a:AF):AA Bool:=bd (vG a.AQ) λg=>br (!g) (jn (Qg a) L1) (bd (C3 a.Now 0 1000000) λc=>br (!c) (jn (Qg a) L1) (bd (C3 a.A3 1 1000001) λe=>br (!e) (jn (Qg a) L1) (br (It ((a.AG.length:Int)>40)) (jn (Qg a) L1) (jn (Qg a) ((a.AI.length:Int) != a.AQ.AZ.length)))))
def eQ:=gZ Za Dk DY ["htQmR26QhgGdKuEqKTA6AnAfXqEpXBXWNkeXZgVcYHHZkrEi6B6j1UmVP2YzIMMauEzrZBrqPnOBrbDg","QqGnWMuYPb88oFQbg9XfJvEwizk0js9TROrghoIPoHe17k7jd8iP4rhfXRlz08nYr2HxDG5u8AqF7rHx","KL2flPm4EOGfv0JNhMa8tUgrctsz225y8iwatO1KdU2AsFpVgt6jbce6uCZY6oMB2WO2oaVIKFSd1kqS","hjSGHX3xGBdvpVueZD3TpGc1dmKgvEDVv5HsY0qhO"] [mT,H6,AX7,AX8,AX5,AC7] (Bg iU)
def Rg(a:Bp):AA Bool:=br (It ((a.Data.length:Int)<=20000)) (bd (C3 a.Safe 0 (a.Data.length:Int)) λc=>jn Au c) (jn Au L3)
def eR:=gZ mg Dk DY ["2tgEEqQzDeFHEohh1cCZahEGQmnYHAKVFDZTh"] [H6] (Bg Rg)
def vC(a:BY):AA Bool:=bd (Rg a.Log) λc=>br c (bd (Rg a.DR) λe=>br e (bd (Rg a.Odd) λg=>jn Au g) (jn Au L3)) (jn Au L3)
def AKJ:=gZ OP Dk DY ["9hXM2ihWtV4GwjM8IatpGikjRolYeGKj4W"] [eR] (Bg vC)
def QV(a:Int):AA Bool:=bd (C3 a 0 9999) λc=>some c
def AX6:=gZ Uw Dk DY ["6s4GzAXF69p9sx"] [H6] (Bg QV)
def Vo(a:Bo)(e:Bool):AA Bool:=br e (bd (QV a.Id) λg=>br g (jn Au (a.Kind==a.Kind&&(a.Id==a.Id&&(a.Ab==0&&(a.Bs==0&&(a.BL==0&&(a.DH==0&&L1))))))) (jn Au L3)) (br (a.Kind==3) (bd (QV a.Ab) λh=>br h (bd (QV a.BL) λc=>br c (jn Au (a.Kind==a.Kind&&(a.Id==0&&(a.Ab==a.Ab&&(a.Bs==0&&(a.BL==a.BL&&(a.DH==0&&L1))))))) (jn Au L3)) (jn Au L3)) (br (a.Kind==6) (some (a.Kind==a.Kind&&(a.Id==0&&(a.Ab==0&&(a.Bs==0&&(a.BL==0&&(a.DH==0&&L1))))))) (some L3)))
def vD(a:Bo):AA Bool:=br (a.Kind==1) (bd (QV a.Id) λc=>br c (bd (QV a.Ab) λe=>br e (bd (C3 a.Bs (-1) 9999) λg=>br g (bd (QV a.BL) λh=>br h (bd (QV a.DH) λj=>jn Au j) (jn Au L3)) (jn Au L3)) (jn Au L3)) (jn Au L3)) (br (a.Kind==2) (jn (Vo a) (a.Kind==2)) (br (a.Kind==4) (jn (Vo a) (a.Kind==4)) (br (a.Kind==5) (jn (Vo a) (a.Kind==5)) (jn (Vo a) (a.Kind==7)))))
def AC8:=gZ [.v (.st 0)] Dk DY ["4l2W4Gx90qWebUt1MYcjyKuBUkTxU11dJWyOL1RrYQ8WWumt0PTAsT2rhNBdkmkM1eW4PXx76adAvLtt","QrMzR6kMYJfZDmut9j5lF3UJbFzAgs1bWkoJ4lZvfJHT9WjihkGJI4IC1LF46WzVS0zXmQcewHUzOAPO","FOnlrtApMrxqsXEdGy1NlGJZVPowExQ9WLucEkKRxNmgkdVlzPIF3E5TiYFFn6JT1riVAg5hGDgpxJGs","g2tkukYySjr2pf9dJdkN9uNsSf"] [AX6,H6] (Bg vD)
def vF(c:Ai)(e:Int->AA Bool)(a:Int):AA Bool:=br (It (a<c.Laid.length)) (bd (at? c.Laid a) λg=>bd (vD g) λh=>br (!h) (some L3) (e (w64 (a+1)))) (jn EZ ())
def Vp(a:Ai)(c:Bool):AA Bool:=br c (some L3) (BK (vF a) big 0)
def vE(a:Ai):AA Bool:=bd (iU a.BG) λc=>br (!c) (jn (Vp a) L1) (bd (vC a.Ac) λe=>br (!e) (jn (Vp a) L1) (br (It ((a.Laid.length:Int)>8)) (jn (Vp a) L1) (bd (C3 a.Seq (a.Laid.length:Int) 1000000) λg=>jn (Vp a) (!g))))
def mS:=gZ mh Dk DY ["HERPJuafPe1lNfqi27nJiLDCS8e7StJ0CYPdyqfdykeH2TdzuXCB9P7cLSBbOmnVP0mWR7A63KYxc3Se","oJ5luQ7c6yZoLk16EunvbK85rLkjqdVuvI"] [eQ,AKJ,H6,AC8] (Bg vE)
def F7:=gZ ASe Dk U0 ["2aBpbLig6lLB2Pdib7cIXkHIaj"] [] (Gw C3)
def AA5(a:Ad)(_:PUnit):AA Bool:=bd (C3 a.Cj 1 5) λj=>br j (bd (C3 a.Room 1 10) λq=>br q (bd (C3 a.BL 1 6) λy=>br y (bd (C3 a.Ca 1 12) λB=>br B (bd (C3 a.CD 1 8) λc=>br c (bd (C3 a.Cr 1 4) λe=>br e (bd (C3 a.Da 1 3) λg=>br g (bd (C3 a.Rest 0 8) λh=>jn Au h) (jn Au L3)) (jn Au L3)) (jn Au L3)) (jn Au L3)) (jn Au L3)) (jn Au L3)) (jn Au L3)
def iZ(a:Ad)(e:Int->AA Bool)(c:Int):AA Bool:=br (It (c<a.AZ.length)) (bd (at? a.AZ c) λg=>bd (C3 g 1 60) λh=>br (!h) (some L3) (e (w64 (c+1)))) (jn (AA5 a) ())
def dn(a:Ad):AA Bool:=bd (C3 (a.AZ.length:Int) 1 4) λc=>br (!c) (some L3) (BK (iZ a) big 0)
def bg:=gZ ZZ Dk DY ["1rbRWXgVNOkbmZLqL0JhNdBTgxMXCSxYDbRlzRNXE1DSaZyXTwgPIiSAcrv0iewssaKfEenViOm3vvy9","xHmoWFmGKAtQVJh7nJCJsjDPcGgvJhWP4sxrpj7GJIbPwCiyUiRHepUTBYFZlHSZmcRFXcQ92Ns1RSjm","3bMBOXwF8BCA9GoP"] [F7] (Bg dn)
def Og(a c:Int):AA Bool:=bd (C3 a 0 (w64 (c-1))) λe=>some e
def Uu:=gZ xp Dk DA ["1ODBXOtMQSRkhwxX"] [F7] (BR Og)
def No(c:Ad)(a:AR)(e:Int)(q:Bool):AA Bool:=br q (some L3) (bd (C3 a.BL 1 c.BL) λy=>br (!y) (jn (Jf c a e) L1) (bd (Og a.DH c.Cj) λB=>br (!B) (jn (Jf c a e) L1) (bd (C3 a.Since 0 e) λg=>br (!g) (jn (Jf c a e) L1) (bd (C3 a.A3 1 1000000) λh=>br (!h) (jn (Jf c a e) L1) (bd (Og a.De c.Cr) λj=>jn (Jf c a e) (!j))))))
def ib(c:Ad)(a:AR)(e:Int):AA Bool:=bd (dn c) λy=>br (!y) (jn (No c a e) L1) (bd (C3 e 0 1000000) λg=>br (!g) (jn (No c a e) L1) (bd (C3 a.Id 1 999) λh=>br (!h) (jn (No c a e) L1) (bd (Og a.Ab (c.AZ.length:Int)) λj=>br (!j) (jn (No c a e) L1) (bd (C3 a.Bs (-1) (w64 ((c.AZ.length:Int)-1))) λq=>br (!q) (jn (No c a e) L1) (jn (No c a e) (a.Bs==a.Ab))))))
def mU:=gZ eT Dk U0 ["oszBKOrmbARbHpopdRzxJEo5YUceoAaf2vzLGUYcbmYBC8DbUXlLjhXAh5h290jBiaAPfj7KceARqKXt","zLhU8ftxbUmuCPoZnDUVP8ICi2tOoCFJrsqq10pUjuXC0akeI2LuD0FBJbWVaJqfUkdebZaM5KTQFTav","Od6NE3TS2w4iYSNJQWMazLc6MEzxzV31oe7IfxL4JCKQWryKiPCKaYtiGsE5r5NhN0Ppr5MaCzCiEmWZ","YgijDsS15H2SK6OKZSjvOGg2bCsSwjhsE3SO"] [bg,F7,Uu] (Gw ib)
def wa:=gZ RG Dd DA ["mxuNsaE6PxGFybSom9KyeOmMyyfhdtVhpOGY2osx5nZB4ICFayD0VO41WOhG1MUV5XRt"] [] (BR iT)
def Uv:=gZ [.v (.st 3)] Dk DY ["L1EfNp1ZJb5HOgZUlE5fAQ1BkGFqHgpGnLo4CnZdwuhuJViAfQKJDvrrcB3IrSw5i0lnxglDJQ1DAqkx","POT2PzjJGLUXSmUMO0ZTFMZu5d6SRXOWsJI"] [F7] (Bg RD)
def AIJ(a:Int):AA Bool:=some (a != a)
def APo:=gZ Uw Dk DY ["2PnEuqIuekhN"] [] (Bg AIJ)
def ic(a c:Int):AA Int:=bd (AIJ a) λg=>bd (AIJ c) λe=>br g (br e (some 0) (some (-1))) (br e (some 1) (br (It (a<c)) (some (-1)) (br (It (a>c)) (some 1) (some 0))))
def AFM:=gZ xp Dd DA ["4WEAEnSsSR38avbhvNNqGRw8ugOGNiJnFYdaQBaC2IkqxFfaTYQei9fZ3JkSZdZtKY"] [APo] (BR ic)
def WZ(a c:Ar):AA Int:=bd (ic a.Level c.Level) λe=>br (e != 0) (some e) (bd (ic a.A3 c.A3) λg=>some g)
def K3:=gZ ASl Dd DA ["1XlSiaw0dfBQRI2lD3p9okuiphWyIxxLbqut46"] [AFM] (BR WZ)
def AA6(a c:Ar):AA Bool:=bd (WZ a c) λe=>some (It (e<0))
def AFN:=gZ ASl Dk DA ["DASJOZckZDAtZyNVN8b"] [K3] (BR AA6)
def AOk(a:Ar)(c:Int):AA Bool:=some (a.Id==c)
def wg:=gZ [.v (.st 4),.p .i] Dk [.tmp 3] ["1x7o5WTNXeOvi81K"] [] (BR AOk)
def AbR:YF:=⟨[wg],[.v (.l (.st 4)),.f wg.x [(true,.i)]],[0],.ret [.i],[.tmp 4],dY ["LWyt0L5Fx5i3Oq1Gxn2CPJ12qkCOIRQ1BGbzM5KrX5H3WXtx005nNTJSkVxTuDEEyq"] [] [.Eh 16 (.tmp 11) [.v,.p] [.tmp 15]]⟩
def AA7(e:List Ar)(a:Int)(g:Int->AA Int)(c:Int):AA Int:=br (It (c<e.length)) (bd (at? e c) λh=>bd (AOk h a) λj=>br j (some c) (g (w64 (c+1)))) (jn HH ())
def AOl(c:List Ar)(a:Int):AA Int:=BK (AA7 c a) big 0
def APp:GF:=AbR.gf rfl rfl (λa=>AOl a.1 a.2.1.1) (λa=>by kernel_rfl)
def AbS:YF:=⟨[wg],[.v (.l (.st 4)),.v .i],[],.ret [.i],[.tmp 4],dY ["poNgOMAWfOQPW"] [] [.O0 6 0 [.tmp 3],.call 7 APp [0] rfl [.tmp 5,.tmp 6]]⟩
def qV(a:List Ar)(c:Int):AA Int:=bd (AOl a c) λe=>some e
def AFO:GF:=AbS.FA (BR qV)
def UI(a:Int->AA Bool)(c:Int)(e:Ar)(j:Bool):AA Bool:=br j (some L3) (bd (Og e.Level 5) λq=>br (!q) (jn (C5 a c) L1) (bd (C3 e.A3 1 1000000) λy=>br (!y) (jn (C5 a c) L1) (bd (C3 e.Id 1 999) λg=>br (!g) (jn (C5 a c) L1) (bd (C3 e.BL 1 6) λh=>jn (C5 a c) (!h)))))
def ie(c:List Ar)(g:Int->AA Bool)(a:Int):AA Bool:=br (It (a<c.length)) (bd (at? c a) λe=>br (It (a>0)) (bd (at? c (w64 (a-1))) λq=>bd (AA6 q e) λy=>br (!y) (jn (UI g a e) L1) (gd (0<=a/\a<=c.length) (bd (qV (an a.toNat c) e.Id) λh=>jn (UI g a e) (It (h>=0))))) (gd (0<=a/\a<=c.length) (bd (qV (an a.toNat c) e.Id) λj=>jn (UI g a e) (It (j>=0))))) (jn EZ ())
def qW(a:List Ar):AA Bool:=br (It ((a.length:Int)>10)) (some L3) (BK (ie a) big 0)
def AFP:=gZ xm Dk DY ["1NbthTh3TL4jU7SI04DpYwi3KZta4nXkm85NaflXVLOkcdfRNj78u0JLWLlyJveV4qZYnHnKMK4NfQLs","McaVvIpuj38JjP6QhUXvFXeiUvXMtusuaDQFFJ2Msml4P1VMFqg6F1abiFy8Av22UuYkr9Ya2cfwAKp4","ol4gszDp6Ll4E6jYOcqJGqs1hEQJagR75k16mg6E"] [AFN,AFO,Uu,F7] (Bg qW)
def qX(a:Bf):AA Bool:=bd (C3 a.At 1 1000008) λc=>br c (bd (C3 a.Id 1 999) λe=>jn Au e) (jn Au L3)
def wu:=gZ [.v (.st 5)] Dk DY ["AupUwkvnHaJIQk689HLUYDcHb50O2I"] [F7] (Bg qX)
def UJ(a c:Bf):AA Int:=bd (ic a.At c.At) λe=>br (e != 0) (some e) (bd (ic a.Id c.Id) λg=>some g)
def Hy:=gZ [.v (.st 5),.v (.st 5)] Dd DA ["1XlSiaw0dfBQRI2lD3p9okuiphWyIxxLbqut46"] [AFM] (BR UJ)
def UK(g:((List (Int×Int))×Int×Int)->AA Bool)(e:List (Int×Int))(h j:Int)(a:Bf)(c:Bool):AA Bool:=br c (some L3) (g (K5 e a.Id (w64 (OV e a.Id+1)),w64 (h+1),w64 (j+1)))
def AA8(e:((List (Int×Int))×Int×Int)->AA Bool)(g:Int)(h:((List (Int×Int))×Int)):AA Bool:=let (a,c):=h;e (a,c,w64 (g+1))
def ij(G:((List (Int×Int))×Int×Int)->AA Bool)(E:Int)(B:List Bf)(h:((List (Int×Int))×Int×Int)->AA Bool)(H:((List (Int×Int))×Int×Int)):AA Bool:=let (e,g,c):=H;br (It (c<(g0 B))) (bd (at? B c) λa=>bd (qX a) λj=>br (!j) (jn (UK h e g c a) L1) (br (a.At.tmod 9 != E) (jn (UK h e g c a) L1) (br (It (c>0)) (bd (at? B (w64 (c-1))) λq=>bd (UJ q a) λy=>jn (UK h e g c a) (It (y>0))) (jn (UK h e g c a) L3)))) (jn (AA8 G E) (e,g))
def YP(e:((List (Int×Int))×Int)):AA Bool:=let (c,a):=e;br (It (a<=10)) (jn Au ((↑(g0 c):Int)==a)) (jn Au L3)
def ig(c:A2)(h:((List (Int×Int))×Int×Int)->AA Bool)(q:((List (Int×Int))×Int×Int)):AA Bool:=let (e,g,a):=q;br (It (a<c.Av.length)) (bd (at? c.Av a) λj=>BK (ij h a j) big (e,g,0)) (jn YP (e,g))
def Tx(a:A2):AA Bool:=br ((a.Av.length:Int) != 9) (some L3) (BK (ig a) big ([],0,0))
def mV:=gZ bz Dk DY ["5IEPCxFxxmB9Vvx4etSVKaPMOFHlZ19ai88R1VYk39nRz8MWUJDWH6wcbjGOYxmD7fkQPYyON5s5tVJf","bnezRPDVgnORRorFNFv50R433J64IMbKUU1qExP5o1jLC2OyZUm4fN2YOKFOwmEKwRdG2RcmU495TEQx","gdAq8HkqH3hYzsEHgvZfSlONsvXB70S7bUJw37jUnOpPpUFdKaR7RmhPOdCDZkGLlEWXoGXRPdiJgxFl","KdpiKtS6VhVY41MB3jkILbGv07OvYwG4"] [wu,Hy] (Bg Tx) [.mmk 13,.WT 56 (.tmp 53) (.tmp 55),.VD (.tmp 53) (.tmp 55) (.tmp 57),.WU 66 (.tmp 65)]
def qY(a:Ak):AA Bool:=bd (RD a.AZ) λc=>br c (bd (qW a.Row) λe=>br e (bd (Tx a.B9) λg=>jn Au g) (jn Au L3)) (jn Au L3)
def APq:=gZ xn Dk DY ["VKEXPUqcfzujTEQzhAXh7McF6YuEFfbq5I"] [Uv,AFP,mV] (Bg qY)
def M2(m:Bool)(x y:Int):Int:=if m=L1 then if x>y then x else y else if x<y then x else y
def YQ(a:Ad)(c e:Int)(g:Bool):AA Int:=br g (some (-1)) (gd (a.Ca≠0) (some (M2 L1 (w64 (c-w64 (e.tdiv a.Ca))) 0)))
def AOm(a:Ad)(c e:Int):AA Int:=bd (dn a) λg=>br (!g) (jn (YQ a c e) L1) (bd (Og c a.Cj) λh=>br (!h) (jn (YQ a c e) L1) (jn (YQ a c e) (It (e<0))))
def APr:=gZ [.v (.st 1),.v .i,.v .i] Dd U0 ["gGg8QAnrDkQ0D8mR8jNWrIpHDZio4rtViVyeGWh9dXEprYvOs10PvXndiLE"] [bg,Uu] (Gw AOm) [.mm 27 true (.k (.int .i64 0)) (.tmp 26)]
def AIK(c:Ad)(a:AR)(e:Int):AA Int:=bd (ib c a e) λg=>br (!g) (some (-1)) (bd (AOm c a.DH (w64 (e-a.Since))) λh=>some h)
def APs:=gZ eT Dd U0 ["FFRZOwZK38db6SAXggKAe1kc1cRH81fkNMaoNfPJl6PI"] [mU,APr] (Gw AIK)
def ik(c:Ad)(a:AR)(e:Int)(g:Bool):AA (Ar×Bool):=br g (some (Ar.mk 0 0 0 0,L3)) (bd (AIK c a e) λh=>some ({a with Level:=h},L1))
def qZ(c:Ad)(a:AR)(e:Int):AA (Ar×Bool):=bd (ib c a e) λg=>br (!g) (jn (ik c a e) L1) (jn (ik c a e) (a.State != 1))
def wv:=gZ eT (.ret [(.st 4),.b]) [.cell 6 (some 4),.tmp 7] ["CCG9pzNuTo0YPdhIm5QL7YdZnazWpcdmgcxPdQix0vbSYEHvzMrLk24TPrhE9tjB8SWBULYS96YcAnnM","kBstLvehHVe0i"] [mU,APs] (Gw qZ)
section
variable{b:Type}(cmp:b->b->AA Int)
def Ev{b:Type}(cmp:b->b->AA Int)(c:((List b)×Int)->AA (List b))(e:Int)(a:List b):AA (List b):=c ((a,w64 (e+1)))
def D9(j:((List b)×Int)->AA (List b))(y:Int)(q:((List b)×Int)->AA (List b))(c:List b)(a:Int)(g:Bool):AA (List b):=br g (be c (w64 (a-1)) λe=>be c a λh=>be c a λH=>be (n6 c a.toNat e) (w64 (a-1)) λJ=>q (((n6 c a.toNat e).set (w64 (a-1)).toNat h,w64 (a-1)))) (jn (Ev cmp j y) c)
def EB(y:Int)(h:((List b)×Int)->AA (List b))(q:Int)(j:((List b)×Int)->AA (List b))(E:((List b)×Int)):AA (List b):=match E with |(c,a)=>br (decide (a>y)) (be c a λB=>be c (w64 (a-1)) λe=>bd (cmp B e) λg=>jn (D9 cmp h q j c a) (decide (g<0))) (jn (D9 cmp h q j c a) false)
def EA(g:Int)(h:Int)(e:((List b)×Int)->AA (List b))(j:((List b)×Int)):AA (List b):=match j with |(c,a)=>br (decide (a<h)) (BK (EB cmp g e a) big (c,a)) (some c)
def Dn(c:List b)(a:Int)(e:Int):AA (List b):=BK (EA cmp a e) big ((c,w64 (a+1)))
def ML{b:Type}(cmp:b->b->AA Int)(e:Int)(g:Int)(q:Int)(j:((List b)×Int)->AA (List b))(G:((List b)×Int)):AA (List b):=match G with |(c,a)=>br (decide (a<q)) (be c (w64 (g+a)) λh=>be c (w64 (e+a)) λE=>be c (w64 (e+a)) λL=>be (n6 c (w64 (e+a)).toNat h) (w64 (g+a)) λB=>j (((n6 c (w64 (e+a)).toNat h).set (w64 (g+a)).toNat E,w64 (a+1)))) (some c)
def E9(a:List b)(c:Int)(e:Int)(g:Int):AA (List b):=BK (ML cmp c e g) big (a,0)
def Oi(a:Int)(h:((List b)×Int)):AA (List b):=match h with |(e,c)=>bd (E9 cmp e (w64 (a-c)) a c) λg=>some g
def Oj(e:Int)(h:((List b)×Int×Int)->AA (List b))(y:((List b)×Int×Int)):AA (List b):=match y with |(g,a,c)=>br (a != c) (br (decide (a>c)) (bd (E9 cmp g (w64 (e-a)) e c) λj=>h ((j,w64 (a-c),c))) (bd (E9 cmp g (w64 (e-a)) (w64 (w64 (e+c)-a)) a) λq=>h ((q,a,w64 (c-a))))) (jn (Oi cmp e) (g,a))
def Ip(c:List b)(e:Int)(a:Int)(g:Int):AA (List b):=BK (Oj cmp a) big ((c,w64 (a-e),w64 (g-a)))
def Hn{b:Type}(cmp:b->b->AA Int)(a:List b):AA (List b):=some a
def M0(j:Int)(g:((List b)×Int)->AA (List b))(I:((List b)×Int)):AA (List b):=match I with |(c,a)=>br (decide (a<w64 (j-1))) (be c (w64 (a+1)) λe=>be c a λh=>be c a λE=>be (n6 c a.toNat e) (w64 (a+1)) λH=>g (((n6 c a.toNat e).set (w64 (a+1)).toNat h,w64 (a+1)))) (jn (Hn cmp) c)
def Mv(a:List b)(c:Int)(e:Int):AA (List b):=BK (M0 cmp e) big (a,c)
def Mz(e:List b)(g:Int)(h:(Int×Int)->AA (List b))(B:(Int×Int)):AA (List b):=match B with |(a,c)=>br (decide (a<c)) (be e (w64 (EJ (kw .u64 (w64 (a+c))) 1)) λj=>be e g λq=>bd (cmp j q) λy=>br (decide (y<0)) (h ((w64 (w64 (EJ (kw .u64 (w64 (a+c))) 1)+1),c))) (h ((a,w64 (EJ (kw .u64 (w64 (a+c))) 1))))) (jn (Mv cmp e g) a)
def M3(h:Int)(g:((List b)×Int)->AA (List b))(I:((List b)×Int)):AA (List b):=match I with |(c,a)=>br (decide (a>h)) (be c (w64 (a-1)) λe=>be c a λj=>be c a λE=>be (n6 c a.toNat e) (w64 (a-1)) λH=>g (((n6 c a.toNat e).set (w64 (a-1)).toNat j,w64 (a-1)))) (jn (Hn cmp) c)
def Mx(c:List b)(e:Int)(a:Int):AA (List b):=BK (M3 cmp a) big (c,e)
def M1(g:List b)(h:Int)(e:(Int×Int)->AA (List b))(G:(Int×Int)):AA (List b):=match G with |(a,c)=>br (decide (a<c)) (be g h λj=>be g (w64 (EJ (kw .u64 (w64 (a+c))) 1)) λq=>bd (cmp j q) λy=>br (!decide (y<0)) (e ((w64 (w64 (EJ (kw .u64 (w64 (a+c))) 1)+1),c))) (e ((a,w64 (EJ (kw .u64 (w64 (a+c))) 1))))) (jn (Mx cmp g h) a)
def JB{b:Type}(cmp:b->b->AA Int)(rE:List b->Int->Int->Int->AA (List b))(j:Int)(q:Int)(c:Int)(e:Int)(a:List b)(g:Bool):AA (List b):=br g (bd (rE a (w64 (EJ (kw .u64 (w64 (j+c))) 1)) (w64 (w64 (w64 (EJ (kw .u64 (w64 (j+c))) 1)+q)-e)) c) λh=>some h) (some a)
def HK(rE:List b->Int->Int->Int->AA (List b))(e:Int)(h:Int)(c:Int)(a:Int)(g:List b):AA (List b):=br (It (w64 (EJ (kw .u64 (w64 (e+c))) 1)<w64 (w64 (w64 (EJ (kw .u64 (w64 (e+c))) 1)+h)-a))) (jn (JB cmp rE e h c a g) (It (w64 (w64 (w64 (EJ (kw .u64 (w64 (e+c))) 1)+h)-a)<c))) (jn (JB cmp rE e h c a g) L3)
def JA(rE:List b->Int->Int->Int->AA (List b))(e:Int)(q:Int)(g:Int)(a:Int)(c:List b)(h:Bool):AA (List b):=br h (bd (rE c e a (w64 (EJ (kw .u64 (w64 (e+g))) 1))) λj=>jn (HK cmp rE e q g a) j) (jn (HK cmp rE e q g a) c)
def HJ(rE:List b->Int->Int->Int->AA (List b))(e:Int)(h:Int)(g:Int)(a:Int)(c:List b):AA (List b):=br (It (e<a)) (jn (JA cmp rE e h g a c) (It (a<w64 (EJ (kw .u64 (w64 (e+g))) 1)))) (jn (JA cmp rE e h g a c) L3)
def I9(rE:List b->Int->Int->Int->AA (List b))(q:List b)(e:Int)(c:Int)(g:Int)(a:Int)(h:Bool):AA (List b):=br h (bd (Ip cmp q a c (w64 (w64 (w64 (EJ (kw .u64 (w64 (e+g))) 1)+c)-a))) λj=>jn (HJ cmp rE e c g a) j) (jn (HJ cmp rE e c g a) q)
def I8(rE:List b->Int->Int->Int->AA (List b))(h:List b)(e:Int)(c:Int)(g:Int)(a:Int):AA (List b):=br (It (a<c)) (jn (I9 cmp rE h e c g a) (It (c<w64 (w64 (w64 (EJ (kw .u64 (w64 (e+g))) 1)+c)-a)))) (jn (I9 cmp rE h e c g a) L3)
def MN(rE:List b->Int->Int->Int->AA (List b))(g:List b)(h:Int)(j:Int)(q:Int)(e:(Int×Int)->AA (List b))(I:(Int×Int)):AA (List b):=match I with |(a,c)=>br (decide (a<c)) (be g (w64 (w64 (w64 (w64 (EJ (kw .u64 (w64 (h+q))) 1)+j)-1)-w64 (EJ (kw .u64 (w64 (a+c))) 1))) λy=>be g (w64 (EJ (kw .u64 (w64 (a+c))) 1)) λB=>bd (cmp y B) λE=>br (!decide (E<0)) (e ((w64 (w64 (EJ (kw .u64 (w64 (a+c))) 1)+1),c))) (e ((a,w64 (EJ (kw .u64 (w64 (a+c))) 1))))) (jn (I8 cmp rE g h j q) a)
def HI(rE:List b->Int->Int->Int->AA (List b))(e:List b)(g:Int)(h:Int)(j:Int)(q:(Int×Int)):AA (List b):=match q with |(a,c)=>BK (MN cmp rE e g h j) big (a,c)
def My(rE:List b->Int->Int->Int->AA (List b))(g:List b)(a:Int)(e:Int)(c:Int)(_:PUnit):AA (List b):=br (It (e>w64 (EJ (kw .u64 (w64 (a+c))) 1))) (jn (HI cmp rE g a e c) ((w64 (w64 (w64 (EJ (kw .u64 (w64 (a+c))) 1)+e)-c),w64 (EJ (kw .u64 (w64 (a+c))) 1)))) (jn (HI cmp rE g a e c) (a,e))
def Mw(rE:List b->Int->Int->Int->AA (List b))(c:List b)(e:Int)(a:Int)(g:Int)(_:PUnit):AA (List b):=br (w64 (g-a)==1) (BK (M1 cmp c a) big (e,a)) (jn (My cmp rE c e a g) ())
def GY(rE:List b->Int->Int->Int->AA (List b))(e:List b)(a:Int)(c:Int)(g:Int):AA (List b):=br (w64 (c-a)==1) (BK (Mz cmp e a) big (c,g)) (jn (Mw cmp rE e a c g) ())
def Ic{b:Type}(cmp:b->b->AA Int)(mrg:List b->Int->Int->Int->AA (List b))(e:((List b)×Int)->AA (List b))(a:Int)(c:List b):AA (List b):=e ((c,w64 (a*2)))
def Ok(mrg:List b->Int->Int->Int->AA (List b))(j:Int)(h:((List b)×Int)->AA (List b))(a:Int)(q:((List b)×Int)):AA (List b):=match q with |(e,c)=>br (decide (w64 (c+a)<j)) (bd (mrg e c (w64 (c+a)) j) λg=>jn (Ic cmp mrg h a) g) (jn (Ic cmp mrg h a) e)
def Ol(mrg:List b->Int->Int->Int->AA (List b))(q:Int)(y:((List b)×Int)->AA (List b))(c:Int)(h:((List b)×Int×Int)->AA (List b))(B:((List b)×Int×Int)):AA (List b):=match B with |(g,e,a)=>br (decide (a<=q)) (bd (mrg g e (w64 (e+c)) a) λj=>h ((j,a,w64 (a+w64 (2*c))))) (jn (Ok cmp mrg q y c) (g,e))
def G4(mrg:List b->Int->Int->Int->AA (List b))(e:Int)(g:((List b)×Int)->AA (List b))(h:((List b)×Int)):AA (List b):=match h with |(c,a)=>br (decide (a<e)) (BK (Ol cmp mrg e g a) big ((c,0,w64 (2*a)))) (some c)
def Ib(mrg:List b->Int->Int->Int->AA (List b))(a:Int)(h:((List b)×Int)):AA (List b):=match h with |(c,e)=>bd (Dn cmp c e a) λg=>BK (G4 cmp mrg a) big (g,20)
def G3(mrg:List b->Int->Int->Int->AA (List b))(c:Int)(h:((List b)×Int×Int)->AA (List b))(q:((List b)×Int×Int)):AA (List b):=match q with |(e,g,a)=>br (decide (a<=c)) (bd (Dn cmp e g a) λj=>h ((j,a,w64 (a+20)))) (jn (Ib cmp mrg c) (e,g))
def HT(mrg:List b->Int->Int->Int->AA (List b))(a:List b)(c:Int):AA (List b):=BK (G3 cmp mrg c) big (a,0,20)
end
def AbT:YF:=⟨[K3],[.m (.l (.st 4)),.v .i,.v .i,.f K3.x []],[0],.ret [],[],dY ["4pQsCVNxYuadXniq5rZAFn7k0A9Ct4EzGIMso9E0SYHkJrCr4EKkyizGCQvhqUN8ltmygzf3quSoe6NI","dVi1MwtUi15e7WvBUUuJsp3ir010JeoIR2CIun5iV9ZftuJEijikzhPuY0Js5zeC4wdli"] [] [.Eh 32 (.tmp 22) [.v,.v] [.tmp 26,.tmp 31]]⟩
def AIL(a:List Ar)(c e:Int):AA (List Ar):=Dn WZ a c e
def AFQ:GF:=AbT.FA (Gw AIL)
def AbU:YF:=⟨[K3],[.m (.l (.st 4)),.v .i,.v .i,.v .i,.f K3.x []],[0],.ret [],[],dY ["QJLzN3drAyDFpXgOSi9OhS6uVfQVwG0KoEhWap7cPrr8Rc5m1C41PjK2nAgfn1pYV9ZTUze0Qks8"] []⟩
def AaD(a:List Ar)(c e g:Int):AA (List Ar):=E9 WZ a c e g
def wy:GF:=AbU.FA (Xo AaD)
def AbV:YF:=⟨[K3],[.m (.l (.st 4)),.v .i,.v .i,.v .i,.f K3.x []],[0],.ret [],[],dY ["19iKDhcGhqTjiF7LaOulgn5IVQCC7KbuCcq1vpDXwi2y2cQkZ2osDPrt3mm5LA12lXsZS3mjHLrEuaTj","zuZikK8RHBKsssWihHTKG2cK6unl4kKemh"] [] [.call 31 wy [0] rfl [.tmp 24,.tmp 27,.tmp 28,.tmp 29,.tmp 30],.call 46 wy [0] rfl [.tmp 35,.tmp 38,.tmp 43,.tmp 44,.tmp 45],.call 57 wy [0] rfl [.tmp 50,.tmp 53,.tmp 54,.tmp 55,.tmp 56]]⟩
def AaE(a:List Ar)(c e g:Int):AA (List Ar):=Ip WZ a c e g
def w5:GF:=AbV.FA (Xo AaE)
abbrev pB:=AAR [.m (.l (.st 4)),.v .i,.v .i,.v .i,.f K3.x []] (.ret [])
def ALf(rE:pB)(a:List Ar)(c e g:Int):AA (List Ar):=rE.d (a,c,e,g,(),())
def AbW(rE:pB):YF:=⟨[K3],[.m (.l (.st 4)),.v .i,.v .i,.v .i,.f K3.x []],[0],.ret [],[],dY ["4u5d8cTRB2r1x8M7WfxI9OdYZnS3SRqrMnO6UYgIw2fg4UMcbyBkZSmhLi53R7DJOlwJPFThQbzT76Zl","WpS5fduUKTXKFVYJokUAcw9XYWzjwxzGEsBBDnTszAr0SKwXWCcEPlH4kWwa7C52iOaI8G7hfeM5asm9","5BJ7PCEhX1vU8zWui4uemcc3uIpUn4UrK0Y2e5VvLIZ0HMymJJ7c3ItwAWQOgmP6OuSheIUv1thTQnqf","rrPivVR8gVfhpy5XpxM7kSZY20XWf5SmRAHDkDG2ZMUKMS1ijn82fHD4fqh50AOVGdWBCfj11VTWWFex","uCrTSOV2PumzrHye6UUOZea8vC72vrlUXlUocnMUfzWVnUKRln4fzmtLrFC7DMrFkFpw8h8Nmp0ezQtU","XyMei2vTh7TNOu7HEZ9VYotRhAgsNzesQtfT8jc7uRJAV1TGvHg9r93EKLku5eyp6t4oIVY5VQzBWBTB","bOWAZYvLyvPiq6iMtlfH7RcTghG3wVdBl24SmarLWUPIBFxTIjfvXA9Jsa6OSBct414EM5QhBQI4phc9","j0Y7oliil9BIwWbFse0ATm1gUmk6DWNIwkJXp355QXEhm7iPk5vkYYyquZbh0dme0WP5cytctK0VGlxo","kTP1XyrtL74GJeNxwc93Wo61zDzTNMuH07d26juadJP35"] [] [.Eh 49 (.tmp 40) [.v,.v] [.tmp 44,.tmp 48],.Eh 101 (.tmp 92) [.v,.v] [.tmp 96,.tmp 100],.Eh 169 (.tmp 158) [.v,.v] [.tmp 164,.tmp 168],.call 191 w5 [0] rfl [.tmp 186,.tmp 187,.tmp 188,.tmp 189,.tmp 190],.call 205 rE.gf [0] rfl [.tmp 200,.tmp 201,.tmp 202,.tmp 203,.tmp 204],.call 219 rE.gf [0] rfl [.tmp 214,.tmp 215,.tmp 216,.tmp 217,.tmp 218]]⟩
def AYr(rE:pB)(a:List Ar)(c e g:Int):AA (List Ar):=GY WZ (ALf rE) a c e g
def APe(rE:pB):GF:=(AbW rE).gf rfl rfl (λa=>AYr rE a.1 a.2.1 a.2.2.1 a.2.2.2.1) (λa=>by kernel_rfl)
def fK:Nat->pB|0=>.nil _ _|k+1=>.of (APe (fK k))
def AOn(a:List Ar)(c e g:Int):AA (List Ar):=(fK 7).d (a,c,e,g,(),())
def w6:GF:=(fK 7).gf
def AbX:YF:=⟨[K3],[.m (.l (.st 4)),.v .i,.f K3.x []],[0],.ret [],[],dY ["Pgq8hjEuyOy3uNIMdiLDdPv8tmdP5xHQ9gOuKcNMN59m64Aox9H23tvTNHtZHcTh8TdejPcnyLv1epxI","OQ74N6qBqyoAUMIXjvaWjYuLx14E3w9ml8ujECrwfT9RiBjHCxJNAtii66zGV0fsSDNwtu8A8gsybdPt","sFQcgFoxGT3ckKZe"] [] [.call 18 AFQ [0] rfl [.tmp 14,.tmp 15,.tmp 16,.tmp 17],.call 27 AFQ [0] rfl [.tmp 23,.tmp 24,.tmp 25,.tmp 26],.call 43 w6 [0] rfl [.tmp 36,.tmp 37,.tmp 40,.tmp 41,.tmp 42],.call 60 w6 [0] rfl [.tmp 55,.tmp 56,.tmp 57,.tmp 58,.tmp 59]]⟩
def AIM(a:List Ar)(c:Int):AA (List Ar):=HT WZ AOn a c
def APt:GF:=AbX.FA (BR AIM)
def AbK:YF:=⟨[K3],[.m (.l (.st 4)),.f K3.x []],[0],.ret [],[],dY ["142SH3OKTyQd"] [] [.call 8 APt [0] rfl [.tmp 4,.tmp 6,.tmp 7]]⟩
def qU(a:List Ar):AA (List Ar):=bd (AIM a (a.length:Int)) λc=>some c
def APi:GF:=AbK.FA (Bg qU)
def AbL:YF:=⟨[K3],[.v (.st 1),.v (.l (.st 2)),.v .i,.v .i],[],.ret [(.l (.st 4))],[.tmp 8],dY ["1xbfDnwKLtnwsI04QKroxQCbYF9fwSTd0muvrr1NXxQZLVSoyiiz05WYeynVanDTLNYnzem8hCoGtLTB","BtYglZyU3QTGflehnqdRxrJtdgrig510QYt1b9zQ1KxHRsC7FGQbdp0mvFIITq"] [wv] [.call 40 APi [0] rfl [.tmp 39,.fn 0]]⟩
def YN(a:List Ar×Int->AA (List Ar))(c:Int)(e:List Ar):AA (List Ar):=a (e,w64 (c+1))
def YM(c:List Ar×Int->AA (List Ar))(a:List Ar)(e:Int)(g:Ar×Bool)(h:Bool):AA (List Ar):=br h (gd (g0 a+[g.1].length<=lim) (jn (YN c e) (a++[g.1]))) (jn (YN c e) a)
def UG(a:List Ar):AA (List Ar):=bd (qU a) λc=>some c
def UH(q:Ad)(h:List AR)(y B:Int)(g:List Ar×Int->AA (List Ar))(E:List Ar×Int):AA (List Ar):=let (c,a):=E;br (It (a<h.length)) (bd (at? h a) λj=>bd (qZ q j B) λe=>br e.2 (jn (YM g c a e) (j.Ab==y)) (jn (YM g c a e) L3)) (jn UG c)
def dm(a:Ad)(c:List AR)(e g:Int):AA (List Ar):=BK (UH a c e g) big ([],0)
def wT:GF:=AbL.FA (Xo dm)
def APj:=gZ ASf Dk DA ["RRfzrVfDf3KSoUFN5ovrYjHY5Ebibh3K4QmU3hKrpz55jHl5mCnvuu5SFc4d4Je6qxnYymhmVXiGb"] [] (BR ACn)
def tA0:List UInt8:=[0,1]++s4 2 2++s4 4 3++s4 8 4++s4 16 5++s4 32 6++s4 64 7++s4 128 8
def iX(g:Int×Int):AA Int:=let (a,c):=g;bd (at? tA0 (↑(toB a).toNat:Int)) λe=>some (w64 (c+w64 (e.toNat:Int)))
def iW(e:Int×Int):AA Int:=let (a,c):=e;br (It (a>=256)) (jn iX (EJ a 8,w64 (c+8))) (jn iX (a,c))
def iV(e:Int×Int):AA Int:=let (a,c):=e;br (It (a>=65536)) (jn iW (EJ a 16,w64 (c+16))) (jn iW (a,c))
def AOi(a:Int):AA Int:=br (It (a>=4294967296)) (jn iV (EJ a 32,32)) (jn iV (a,0))
def APk:=gZ [.v (.ki .u64)] Dd DY ["ZQbFblVcAZUal9gdy8mjLKn3A415Bv1fLvV5pESlB1g9pbINijmb1Uq6ZjCt2Byubs8XdjuEzPT7t0qM","7ou5yfPTpoVPN1bQIMXlRa6QBhb"] [] (Bg AOi) [.ix 22 (.k (.str tA0)) (.tmp 21)]
def AIF(a:Int):AA Int:=bd (AOi a) λc=>some c
def APl:=gZ [.v (.ki .u64)] Dd DY ["1aEM2unGnF6Vj510M7"] [APk] (Bg AIF)
def AbM:YF:=⟨[Hy],[.m (.l (.st 5)),.v .i,.v .i,.f Hy.x []],[0],.ret [],[],dY ["4OQdvschZdF6kjRScdcfRTLo1qcv8tIDXfAV9d6R9zp6HUcac7ulOOZCfhGaYFc2vPONjGlXr91RysnU","rpEqdZFFRK4wr5dZTice7hUlxhjd1wPXByV6c5qYpX40wqixHAAwfFIgpXfQhAosM2j"] [] [.Eh 32 (.tmp 22) [.v,.v] [.tmp 26,.tmp 31]]⟩
def AA1(a:List Bf)(c e:Int):AA (List Bf):=Dn UJ a c e
def wV:GF:=AbM.FA (Gw AA1)
def AbN:YF:=⟨[Hy],[.m (.l (.st 5)),.v .i,.v .i,.v .i,.f Hy.x []],[0],.ret [],[],dY ["3ERSJa59xGlycRJBdnWDuglikDwdeigpCzZI1otQ3lpRGwDtG4nHE2frSJQFSlTBx57K7c6UWjNP4Tjq","l3WTyFfumPDq6uMqp8p4VwYe4E89pnAXAA5L4x60JLQCJwfTZUDKoQe5tfB2EPsgCNsjOskmFXzMLHFD","zZSxspKa4oPjU8mG6QISP22E9O0wdU2vz9FcGsWHaLcTHbsQpzrImC1Nxop5VUOOtQtPPI4UXxKoSw04","Bq8cAaqmQqnbplZRMiHqPksnuL7gzd8U82IHz4eTgmmEx3wink0I0xwhr3xIL6X4Ho9MAUVsEtI1o9Bp","yh4mYVc67PHHG7Ufonow3b6Wt4nGdO916kVRxlysQtewADgTbSng5qFc6ly4fJuZh3qrwu3SHvB4nQrx","VT6PmW5O54DZJvVZ4UY04AFX"] [] [.call 30 wV [0] rfl [.tmp 26,.tmp 27,.tmp 28,.tmp 29],.bad (some 37),.bad (some 44),.bad (some 52),.bad (some 61),.bad (some 80),.bad (some 94),.bad (some 103),.bad (some 111),.bad (some 134),.bad (some 146)]⟩
def AA2(e:List Bf)(a c g:Int)(j:PUnit->AA (List Bf))(_:PUnit):AA (List Bf):=br (It (w64 (c-a)<=12)) (bd (AA1 e a c) λh=>some h) (br (g==0) none none)
def AOj(a:List Bf)(c e g:Int):AA (List Bf):=BK (AA2 a c e g) big ()
def APm:GF:=AbN.FA (Xo AOj)
def AbO:YF:=⟨[Hy],[.m (.l (.st 5)),.f Hy.x []],[0],.ret [],[],dY ["4bvUF04HvFxcNhchOduat1Q"] [APl] [.call 13 APm [0] rfl [.tmp 7,.k (.int .i64 0),.tmp 8,.tmp 11,.tmp 12]]⟩
def AIH(a:List Bf):AA (List Bf):=bd (AIF (kw .u64 (a.length:Int))) λc=>bd (AOj a 0 (a.length:Int) c) λe=>some e
def APn:GF:=AbO.FA (Bg AIH)
def AbP:YF:=⟨[Hy],[.v (.st 6)],[],.ret [(.l (.st 5))],[.tmp 2],dY ["13BKDgzV7spXgWh0hhUvMTDt6NS0FsPzu3TY5eEyH9gWyccBvZkwnhdUEmiTmsMMOOb0TiXsLGGz5CFV","7fL"] [mV] [.call 21 APn [0] rfl [.tmp 20,.fn 0]]⟩
def AA3(a:List Bf):AA (List Bf):=bd (AIH a) λc=>some c
def AA4(e:A2)(h:List Bf×Int->AA (List Bf))(j:List Bf×Int):AA (List Bf):=let (a,c):=j;br (It (c<e.Av.length)) (bd (at? e.Av c) λg=>gd (g0 a+g0 g<=lim) (h (a++g,w64 (c+1)))) (jn AA3 a)
def iY(a:A2):AA (List Bf):=bd (Tx a) λc=>br (!c) (some []) (BK (AA4 a) big ([],0))
def AFL:GF:=AbP.FA (Bg iY)
def AbQ:YF:=⟨[Hy],[.m (.l (.st 5)),.v .i,.v .i,.v .i,.f Hy.x []],[0],.ret [],[],dY ["8SPIiOMmQwwJUwgAGNN9F69pqcCQ7W1YupgMOs3u6jz7rM0SaZXiNYB1Wa6ggumivvQjbdwjdA8"] []⟩
def AaC(a:List Bf)(c e g:Int):AA (List Bf):=E9 UJ a c e g
def wW:GF:=AbQ.FA (Xo AaC)
def Abb:YF:=⟨[Hy],[.m (.l (.st 5)),.v .i,.v .i,.v .i,.f Hy.x []],[0],.ret [],[],dY ["WcMsRzCKHGNJ39ZuBrszHC8Jekeie3UanBUcXWRwl7xGRo5gfDa9zWguoWCLztV28wBUrxmnIrQAB9wH","7xbS937ZaUZoQt0zyxIsAtVHfOupMnJX0"] [] [.call 31 wW [0] rfl [.tmp 24,.tmp 27,.tmp 28,.tmp 29,.tmp 30],.call 46 wW [0] rfl [.tmp 35,.tmp 38,.tmp 43,.tmp 44,.tmp 45],.call 57 wW [0] rfl [.tmp 50,.tmp 53,.tmp 54,.tmp 55,.tmp 56]]⟩
def AaF(a:List Bf)(c e g:Int):AA (List Bf):=Ip UJ a c e g
def w9:GF:=Abb.FA (Xo AaF)
abbrev pC:=AAR [.m (.l (.st 5)),.v .i,.v .i,.v .i,.f Hy.x []] (.ret [])
def ALg(rE:pC)(a:List Bf)(c e g:Int):AA (List Bf):=rE.d (a,c,e,g,(),())
def Abc(rE:pC):YF:=⟨[Hy],[.m (.l (.st 5)),.v .i,.v .i,.v .i,.f Hy.x []],[0],.ret [],[],dY ["PGL2BuMHgQzdbXuEzPMHXVlkg5fAWvWus4rbwdhc9F7OWBI9IuIhQhadU4IfGZQkvXg75OaT74pPsZ3d","KAV4vXGBrocMAAr93xQIKret94VVPVZ68CEZMeYiMIdN87D9wVBDIZlmqwjwfTtB4nViG7uEeUuXo7ZV","z5ws6WkpSJ7UVwvW5V9XwRWtsDu3DnT7eqauExfJNxn8fcEGpUE8AmX7Y8ZZWVnZBfrvf287Bm83Lewb","X2KJVeqUvwFVl11MqF7Qqj36OdfllgPligPmQxAA4oXatrXkgOGgadOx4kRyrDmNU6YssJM54V29AGLp","cWTpyX0XutWuAiCzWn0XjVh0kgBNMwHXoNSsV00vVwALfSkrPk3ir6XPig2ZCx3x6NKGLbdq5k4a8kZ1","YXn4pc2F43tyQgg2b6OO3wmanPlzFi8zeYgm862oAEaCeMf2O7o5yHXQUgkcEo4w5Cyg4rggLE9wYgfB","nisD3fhBmgYtamR9h8pVPBVDSjTVfbFjrcQqVbgWtij94vXUoGRttLpuhGpFBEM4MFUc8Jk8mwBFUb0K","ErgCLNUKZbHs8c5g3a6zGleRkLsj2vhXzMF2KJQpwwJrzKVde2zlDbOSDSmtqWZ4kjtJdAy0IH3H1O9J","f8ujS8na6DE68R5yigl1sJUHqiARdxEXMcCOg5JP"] [] [.Eh 49 (.tmp 40) [.v,.v] [.tmp 44,.tmp 48],.Eh 101 (.tmp 92) [.v,.v] [.tmp 96,.tmp 100],.Eh 169 (.tmp 158) [.v,.v] [.tmp 164,.tmp 168],.call 191 w9 [0] rfl [.tmp 186,.tmp 187,.tmp 188,.tmp 189,.tmp 190],.call 205 rE.gf [0] rfl [.tmp 200,.tmp 201,.tmp 202,.tmp 203,.tmp 204],.call 219 rE.gf [0] rfl [.tmp 214,.tmp 215,.tmp 216,.tmp 217,.tmp 218]]⟩
def AYs(rE:pC)(a:List Bf)(c e g:Int):AA (List Bf):=GY UJ (ALg rE) a c e g
def APf(rE:pC):GF:=(Abc rE).gf rfl rfl (λa=>AYs rE a.1 a.2.1 a.2.2.1 a.2.2.2.1) (λa=>by kernel_rfl)
def fN:Nat->pC|0=>.nil _ _|k+1=>.of (APf (fN k))
def AOv(a:List Bf)(c e g:Int):AA (List Bf):=(fN 7).d (a,c,e,g,(),())
def xA:GF:=(fN 7).gf
def Abd:YF:=⟨[Hy],[.m (.l (.st 5)),.v .i,.f Hy.x []],[0],.ret [],[],dY ["2PsgfC0B4BsifRDhEjgLvrl0fJIzMuXJcgNRY7ZaaA8MUW6h46rguwWnNruJktvHprrnWotBgSwijEL7","kc6TSmKbV8aIV43fIAKxyxjHFggYtwL3AKu32JsEn4jfkr4yla7mkIZIDKZLTeBB6DA32MQOsJXAsgxk","DHqx6LbzMQvmzp2D"] [] [.call 18 wV [0] rfl [.tmp 14,.tmp 15,.tmp 16,.tmp 17],.call 27 wV [0] rfl [.tmp 23,.tmp 24,.tmp 25,.tmp 26],.call 43 xA [0] rfl [.tmp 36,.tmp 37,.tmp 40,.tmp 41,.tmp 42],.call 60 xA [0] rfl [.tmp 55,.tmp 56,.tmp 57,.tmp 58,.tmp 59]]⟩
def AIQ(a:List Bf)(c:Int):AA (List Bf):=HT UJ AOv a c
def APz:GF:=Abd.FA (BR AIQ)
def Abe:YF:=⟨[Hy],[.m (.l (.st 5)),.f Hy.x []],[0],.ret [],[],dY ["142SH3OKTyQd"] [] [.call 8 APz [0] rfl [.tmp 4,.tmp 6,.tmp 7]]⟩
def qh(a:List Bf):AA (List Bf):=bd (AIQ a (a.length:Int)) λc=>some c
def AP0:GF:=Abe.FA (Bg qh)
def Abf:YF:=⟨[Hy],[.v (.l (.st 2)),.v .i],[],.ret [(.l (.st 5))],[.tmp 4],dY ["1Nc9lZeXDO9U1lwzRfhZCqCxHMJbG1gjCP5AcUTDXSvyZVkRZx9dP1bPtGhDvVp39rbZyA7gQfbELRlQ","O0EcKlxOsn21PuOqsf06oNILlTaEet"] [] [.call 33 AP0 [0] rfl [.tmp 32,.fn 0]]⟩
def YS(e:List Bf×Int->AA (List Bf))(c:List Bf)(g:Int)(a:AR)(h:Bool):AA (List Bf):=br h (gd (g0 c+[Bf.mk a.DK a.Id].length<=lim) (jn (KW e g) (c++[Bf.mk a.DK a.Id]))) (jn (KW e g) c)
def UL(a:List Bf):AA (List Bf):=bd (qh a) λc=>some c
def UM(h:List AR)(j:Int)(g:List Bf×Int->AA (List Bf))(q:List Bf×Int):AA (List Bf):=let (e,a):=q;br (It (a<h.length)) (bd (at? h a) λc=>br (c.State==2) (jn (YS g e a c) (c.Ab==j)) (jn (YS g e a c) L3)) (jn UL e)
def iv(a:List AR)(c:Int):AA (List Bf):=BK (UM a c) big ([],0)
def AFS:GF:=Abf.FA (BR iv)
def AP1:=gZ ASh Dk DA ["bunConhXVaftxnD5c30LkBkgDt0vkPErVBm5eByJuEX4nisJONPuwvHfrtqrZYIBPg6gdJY5pMZ"] [] (BR ACo)
def Pm(a:Int×Int->AA Int)(c e:Int)(h:AR)(g:Bool):AA Int:=br g (jn (HG a e) (w64 (c+h.BL))) (jn (HG a e) c)
def iy(h:List AR)(j:Int)(g:Int×Int->AA Int)(y:Int×Int):AA Int:=let (e,c):=y;br (It (c<h.length)) (bd (at? h c) λa=>br (a.State==2) (br (a.Ab==j) (bd (C3 a.BL 1 6) λq=>jn (Pm g e c a) q) (jn (Pm g e c a) L3)) (jn (Pm g e c a) L3)) (jn CT e)
def iw(a:List AR)(c:Int):AA Int:=BK (iy a c) big (0,0)
def AFT:=gZ RG Dd DA ["8rCziW7i5ymz5EsyoeA88fU4RjvflVy8zfyfDpKu4epjfi40m4pBYXDWv4XSq2flYFxqq1igQE0LDElz","bU3o54c4lnyZfoaSQLvzRjArdD"] [F7] (BR iw)
def iz(h:List AR)(j:Int)(g:Int×Int->AA Int)(y:Int×Int):AA Int:=let (e,a):=y;br (It (a<h.length)) (bd (at? h a) λc=>br (c.Bs==j) (bd (C3 c.BL 1 6) λq=>jn (Pm g e a c) q) (jn (Pm g e a c) L3)) (jn CT e)
def dp(a:List AR)(c:Int):AA Int:=BK (iz a c) big (0,0)
def AFU:=gZ RG Dd DA ["1XThr1FR8rhHIbJqHPOyd1av7nzaR0Xo2IKRntjO97ozqwV9cr2RgHanDNFAeB0tSvZahk43n6SqL0gw","DvZFQQRcg5"] [F7] (BR dp)
def AIR(g:Ad)(a:Ak)(c:List AR)(e h:Int):AA Bool:=bd (qY a) λj=>br j (bd (dm g c e h) λq=>bd (ACn a.Row q) λy=>br y (bd (iY a.B9) λB=>bd (iv c e) λE=>bd (ACo B E) λG=>br G (bd (iw c e) λH=>br (a.AZ.FU==H) (bd (dp c e) λI=>jn Au (a.AZ.Gm==I)) (jn Au L3)) (jn Au L3)) (jn Au L3)) (jn Au L3)
def AP2:=gZ ASi Dk [.tmp 10] ["2iFEV35kkHyw0c2DEamvhkMmjz4mvbDGRCeW72haW7DWSzxEjqffSV4Q2LBPbkzc5UGrqF7LWpxw0Iiw","rfDBugXzkbSY36K9VcSC54BcOmfwZmOwua0eVHzASjH30zkqAVQhpDf26hFAdYnmzXV"] [APq,wT,APj,AFL,AFS,AP1,AFT,AFU] (AHi AIR)
def i6(c:List Int)(g:Int)(e:Int->AA Int)(a:Int):AA Int:=br (It (a<c.length)) (bd (at? c a) λh=>br (g==h) (some a) (e (w64 (a+1)))) (jn HH ())
def AOw(a:List Int)(c:Int):AA Int:=BK (i6 a c) big 0
def AP3:=gZ si Dd DA ["4GBg2AxDLTgLm3fbTxHW2uUkgm6aUNJu71tJ0VdJv2yNcgtyokhud8sQT3"] [] (BR AOw)
def qv(a:List Int)(c:Int):AA Bool:=bd (AOw a c) λe=>some (It (e>=0))
def xB:=gZ si Dk DA ["1R55X9oKCJv60ey"] [AP3] (BR qv)
def jA(j:AF)(q:Int->AA Bool)(h:Int)(e:AR)(g:Int->AA Bool)(c:Int):AA Bool:=br (It (c<(an h.toNat j.AG).length)) (bd (at? (an h.toNat j.AG) c) λa=>br (e.A3==a.A3) (jn (C5 g c) L1) (br (It (e.A3<a.A3)) (br (It (e.Since>a.Since)) (jn (C5 g c) L1) (br (It (a.A3<e.A3)) (jn (C5 g c) (It (a.Since>e.Since))) (jn (C5 g c) L3))) (br (It (a.A3<e.A3)) (jn (C5 g c) (It (a.Since>e.Since))) (jn (C5 g c) L3)))) (jn (Qi q h) ())
def Rh(c:AF)(e:Int->AA Bool)(a:Int)(h:AR)(g:Bool):AA Bool:=br g (some L3) (gd (0<=a/\a<=c.AG.length) (BK (jA c e a h) big 0))
def bG(e:AF)(c:Int->AA Bool)(a:Int):AA Bool:=br (It (a<e.BI.length)) (bd (at? e.BI a) λg=>bd (C3 g (-1) (w64 ((e.AQ.AZ.length:Int)-1))) λh=>br (!h) (some L3) (c (w64 (a+1)))) (jn EZ ())
def Vr(a:AF)(_:PUnit):AA Bool:=BK (bG a) big 0
def bF(c:AF)(e:Int->AA Bool)(a:Int):AA Bool:=br (It (a<c.BM.length)) (bd (at? c.BM a) λg=>bd (Og g (c.AQ.AZ.length:Int)) λh=>br (!h) (jn (C5 e a) L1) (gd (0<=a/\a<=c.BM.length) (bd (qv (an a.toNat c.BM) g) λj=>jn (C5 e a) j))) (jn (Vr c) ())
def Vq(a:AF)(_:PUnit):AA Bool:=BK (bF a) big 0
def jB(c:AF)(e:Int->AA Bool)(a:Int):AA Bool:=br (It (a<c.AI.length)) (bd (at? c.AI a) λg=>bd (at? c.AQ.AZ a) λh=>br (g.AZ.Total != h) (jn (C5 e a) L1) (bd (iT c.AG a) λj=>br (It (j>c.AQ.Room)) (jn (C5 e a) L1) (bd (AIR c.AQ g c.AG a c.Now) λq=>jn (C5 e a) (!q)))) (jn (Vq c) ())
def YT(a:AF)(_:PUnit):AA Bool:=BK (jB a) big 0
def i7(a:AF)(g:Int->AA Bool)(c:Int):AA Bool:=br (It (c<a.AG.length)) (bd (at? a.AG c) λe=>bd (ib a.AQ e a.Now) λj=>br (!j) (jn (Rh a g c e) L1) (br (It (e.A3>=a.A3)) (jn (Rh a g c e) L1) (br (It (c>0)) (bd (at? a.AG (w64 (c-1))) λh=>jn (Rh a g c e) (It (h.Id>=e.Id))) (jn (Rh a g c e) L3)))) (jn (YT a) ())
def Np(a:AF)(c:Bool):AA Bool:=br c (some L3) (br (It ((a.AG.length:Int)>40)) (some L3) (BK (i7 a) big 0))
def Ty(a:AF):AA Bool:=bd (dn a.AQ) λg=>br (!g) (jn (Np a) L1) (bd (C3 a.Now 0 1000000) λc=>br (!c) (jn (Np a) L1) (bd (C3 a.A3 1 1000001) λe=>br (!e) (jn (Np a) L1) (br ((a.AI.length:Int) != a.AQ.AZ.length) (jn (Np a) L1) (jn (Np a) ((a.BI.length:Int) != a.AQ.Da)))))
def XI:=gZ Za Dk DY ["416MVLj1YiGeddKuJF1VD0MGzet0KJuT0OrFfBHs8vQ3LAMuA0WrOAEt8UNsEyiKswlNnSVXXEZF6P57","4wXThPDiKjUwa6C3GIH5YaZQ1pYlTU5vEXBLTnbul4efDafN9ke7gKr2dZFsWK4LKKRpDNCh6PM4XnFf","SFviBxVGMZXyaoHrFeT05ErGSjxttVJ1mwf1XDd6SOxR2fqJBW1eCPZ4BZrLYwpreYzKfWmKPx6t2Gew","L9WrFbhMjqkk6B8mMK0Dm4UcCOcRSw3VnFsi9YcuxzAKkaoikYmjRWggDLQdMYOTrBafeBF8Z4iQSdk9","lkj8EQQ5oz2ordzRb65Pbv6nnwE7raG292yggGTzj2YFv8kj8nNTfCOo8Q0CAa1KdhDbap4NI5p3nDra","7osabgJmnuynstNZ4H0OsxU11jN3XD3F8nDj0BN3jrOS81FOUNOPWSZJR4oe6qgob7z8bjhhhiKpArMY","OGJAxRydMqOa8VREsA45PK6gvtbzzL15IIDxj9pfcv0qHPGmxitGVonq029SRALU2xzEMfmA3BTMVwJ2","VfUSlRkDQN9R6cOE2zrlfUn4wJCGG4RX16wtVJiCmhFnulDlM0WbhafGuD1o2pULzdo68YRDCT5s14Gf","9VlHzGlRiK6QAA1xcEDQo1TOY4rablI508T4v0QkJ8SI8hRLhcDm8r5reIx96RmrKoOwuRGNeCdkLBvF","XyupJCWk2j7PHTQuHLIo7EJT"] [bg,F7,mU,wa,AP2,Uu,xB] (Bg Ty) [.as 10 (.tmp 182),.as 11 (.tmp 184),.as 13 (.tmp 204)]
def bj:=gZ mg Dk DY ["2tgEEqQzDeFHEohh1cCZahEGQmnYHAKVFDZTh"] [F7] (Bg Rg)
def AFV:=gZ OP Dk DY ["9hXM2ihWtV4GwjM8IatpGikjRolYeGKj4W"] [bj] (Bg vC)
def AP4:=gZ Uw Dk DY ["6s4GzAXF69p9sx"] [F7] (Bg QV)
def Abg:YF:=⟨[AP4],[.v (.st 0)],[],.ret [.b],[.tmp 2],dY ["4mnFj1VmaMH0GXq7PrinroPCuEdlhQmdgq5kJIHwU34lFZQJA4gWsPER4qB8ALVOYInAsqAlZlJTWKpC","GTSH1UXnI6tVnSiK5knkHRTacisu4zIvCPdQXfOfsEgs5K5GFss1UxQPlNEV0PjHfbBSU0uke7uHzAbn","d7oLRXPsOs6fUYJGHDGhsaDh04MBJQDHXmOvApKHtIG5KOSRtFQAeFrWWH99FGP11UJAstjogPCTgLG9","fTEEtP0Jf0IljF9fBGN2aZCt9xqJvENFlaHQOFNhlGOrZU1M6gwz3iv2PlCm4sqNOlk1"] [F7] [.as 3 (.fn 0),.Eh 11 (.tmp 8) [.v] [.tmp 10],.Eh 16 (.tmp 13) [.v] [.tmp 15],.Eh 27 (.tmp 24) [.v] [.tmp 26],.Eh 33 (.tmp 30) [.v] [.tmp 32],.Eh 43 (.tmp 40) [.v] [.tmp 42],.Eh 58 (.tmp 55) [.v] [.tmp 57],.Eh 63 (.tmp 60) [.v] [.tmp 62]]⟩
def Ri(a:Bo)(e:Bool):AA Bool:=br e (bd (QV a.Id) λg=>br g (jn Au (a.Kind==a.Kind&&(a.Id==a.Id&&(a.Ab==0&&(a.Bs==0&&(a.BL==0&&(a.DH==0&&L1))))))) (jn Au L3)) (br (a.Kind==3) (bd (QV a.Ab) λh=>br h (bd (QV a.BL) λc=>br c (jn Au (a.Kind==a.Kind&&(a.Id==0&&(a.Ab==a.Ab&&(a.Bs==0&&(a.BL==a.BL&&(a.DH==0&&L1))))))) (jn Au L3)) (jn Au L3)) (br (a.Kind==6) (some (a.Kind==6&&(a.Id==0&&(a.Ab==0&&(a.Bs==0&&(a.BL==0&&(a.DH==0&&L1))))))) (some L3)))
def dq(a:Bo):AA Bool:=br (a.Kind==1) (bd (QV a.Id) λc=>br c (bd (QV a.Ab) λe=>br e (bd (C3 a.Bs (-1) 9999) λg=>br g (bd (QV a.BL) λh=>br h (bd (QV a.DH) λj=>jn Au j) (jn Au L3)) (jn Au L3)) (jn Au L3)) (jn Au L3)) (br (a.Kind==2) (jn (Ri a) (a.Kind==2)) (br (a.Kind==4) (jn (Ri a) (a.Kind==4)) (br (a.Kind==5) (jn (Ri a) (a.Kind==5)) (jn (Ri a) (a.Kind==7)))))
def xC:GF:=Abg.FA (Bg dq)
def jC(c:Ai)(e:Int->AA Bool)(a:Int):AA Bool:=br (It (a<c.Laid.length)) (bd (at? c.Laid a) λg=>bd (dq g) λh=>br (!h) (some L3) (e (w64 (a+1)))) (jn EZ ())
def Rj(a:Ai)(c:Bool):AA Bool:=br c (some L3) (BK (jC a) big 0)
def qy(a:Ai):AA Bool:=bd (Ty a.BG) λc=>br (!c) (jn (Rj a) L1) (bd (vC a.Ac) λe=>br (!e) (jn (Rj a) L1) (br (It ((a.Laid.length:Int)>8)) (jn (Rj a) L1) (bd (C3 a.Seq (a.Laid.length:Int) 1000000) λg=>jn (Rj a) (!g))))
def AP5:=gZ mh Dk DY ["2HLtfTtjEX2IWY8iOwgFfpnZTYpzT7PgvKbdT1q97v5C21a2ghAjrQbUJz1nKDWJuQmM3xyJ2RFYhGjp","9fKAFUBUv47ervoo5ASV7f0sRdJoWQRVxxYk2G473ksVvmgks"] [XI,AFV,F7,xC] (Bg qy)
def Rf(c g:List Int)(e:Int->AA Bool)(a:Int):AA Bool:=br (It (a<c.length)) (bd (at? c a) λh=>bd (at? g a) λj=>br (h != j) (some L3) (e (w64 (a+1)))) (jn EZ ())
def FH(a c:List Int):AA Bool:=br ((a.length:Int) != c.length) (some L3) (BK (Rf a c) big 0)
def YL(a c:Bo):AA Bool:=br (a.Kind != c.Kind) (some L3) (br (a.Id != c.Id) (some L3) (br (a.Ab != c.Ab) (some L3) (br (a.Bs != c.Bs) (some L3) (br (a.BL != c.BL) (some L3) (br (a.DH != c.DH) (some L3) (some L1))))))
def AIS(a:Ad):AA (List Int):=bd (vG a) λc=>br (!c) (some []) (gd ([a.Cj,a.Room,a.BL,a.Ca,a.CD,a.Rest,a.Cr,a.Da].length+a.AZ.length<=lim) (some ([a.Cj,a.Room,a.BL,a.Ca,a.CD,a.Rest,a.Cr,a.Da]++a.AZ)))
def AP6:=gZ ZZ P1 DY ["OL6rLK3cJSUombcLlM2Fp7dAuIiqcc3gbqxTVdeNhkpEtNcnZT6mEg3dpIBm"] [mT] (Bg AIS)
def jG(h:AF)(g:List Int×Int->AA (List Int))(j:List Int×Int):AA (List Int):=let (a,c):=j;br (It (c<h.BI.length)) (bd (at? h.BI c) λe=>gd (g0 a+[w64 (e+1)].length<=lim) (g (a++[w64 (e+1)],w64 (c+1)))) (jn FX a)
def YV(c:AF)(a:List Int):AA (List Int):=gd (a.length+[(c.BM.length:Int)].length<=lim) (gd ((a++[(c.BM.length:Int)]).length+c.BM.length<=lim) (BK (jG c) big (a++[(c.BM.length:Int)]++c.BM,0)))
def jE(e:AF)(h:List Int×Int->AA (List Int))(j:List Int×Int):AA (List Int):=let (g,a):=j;br (It (a<e.AI.length)) (bd (at? e.AI a) λc=>gd (g0 g+[c.AZ.Et].length<=lim) (h (g++[c.AZ.Et],w64 (a+1)))) (jn (YV e) g)
def YU(a:AF)(c:List Int):AA (List Int):=BK (jE a) big (c,0)
def UN(c:AF)(h:List Int×Int->AA (List Int))(j:List Int×Int):AA (List Int):=let (e,g):=j;br (It (g<c.AG.length)) (bd (at? c.AG g) λa=>gd (g0 e+[a.Id,a.Ab,w64 (a.Bs+1),a.BL,a.DH,a.Since,a.A3,a.State,a.DK,a.De].length<=lim) (h (e++[a.Id,a.Ab,w64 (a.Bs+1),a.BL,a.DH,a.Since,a.A3,a.State,a.DK,a.De],w64 (g+1)))) (jn (YU c) e)
def jD(a:AF):AA (List Int):=bd (iU a) λe=>br (!e) (some []) (bd (AIS a.AQ) λc=>gd ([(↑(g0 c):Int)].length+g0 c<=lim) (gd (([(↑(g0 c):Int)]++c).length+[a.Now,a.A3,(a.AG.length:Int)].length<=lim) (BK (UN a) big ([(↑(g0 c):Int)]++c++[a.Now,a.A3,(a.AG.length:Int)],0))))
def AFW:=gZ Za P1 DY ["RC4OBLKNcjKLdaW30JrSMZAmeUZmoW8uOGDA4luQcy5hVfvK9G3pBejbHI5k8n6OWQF9ZQYInbQ9oeVO","LbFpWULy3vb168IoiLn9JDmrk2yc38J11ixH7HrcehCmCpMq1qPvEC0Lxf2GHY8e8SxFUUgsFrIdbfkI","EQtARLwDbysKYryIz44ocnpzUx00AoHCeIwCe5kjU8nSgOm4UImo1J7xATuy6s0D0q2c14m0uqK4vHbK","scT18dPzcv4ZliC677CWXeSTqBXB2PrEDruo2MZ1RXYdm76RcJnViZiQ9cXWwTHAHH5ihSd"] [eQ,AP6] (Bg jD)
def YW(e:Int×List UInt8):AA (List UInt8):=let (a,c):=e;gd (c.length+[toB a].length<=lim) (some (c++[toB a]))
def ABD(e:Int×List UInt8->AA (List UInt8))(g:Int×List UInt8):AA (List UInt8):=let (a,c):=g;br (It (a>127)) (gd (c.length+[toB (w64 (s0 a 128+128))].length<=lim) (e (w64 (Int.tdiv a 128),c++[toB (w64 (s0 a 128+128))]))) (jn YW (a,c))
def jH(a:Int):AA (List UInt8):=bd (C3 a 0 2147483647) λc=>br (!c) (some []) (BK ABD big (a,[]))
def AFX:=gZ Uw AGU DY ["8rq2LlA5bZCu6CEhyrSfFgQqg4S1ik16NkYDIOY325iIidzDzozNRygXxruxUM3V384U82Q1VyJa5MTE","ZoMl0wC"] [H6] (Bg jH)
def YX(a:List UInt8):AA (List UInt8):=some a
def jI(e:List Int)(h:List UInt8×Int->AA (List UInt8))(q:List UInt8×Int):AA (List UInt8):=let (a,c):=q;br (It (c<e.length)) (bd (at? e c) λj=>bd (jH j) λg=>gd (g0 a+g0 g<=lim) (h (a++g,w64 (c+1)))) (jn YX a)
def dt(a:List Int):AA (List UInt8):=BK (jI a) big ([],0)
def AFY:=gZ cA MO DY ["1iW0WY00ppQPKTR3mmmsgodGAdUCPfHQoEBCvXxJpXFYEH3GdPZU6yHGgQyvpy7"] [AFX] (Bg dt)
def jK(g:Int×Int->AA Int)(h:Int)(e:Int×Int->AA Int)(j:Int×Int):AA Int:=let (a,c):=j;br (It (c<8)) (br (s0 a 2==1) (jn (HG e c) (Xs (w64 (Int.tdiv a 2)) 3988292384)) (jn (HG e c) (w64 (Int.tdiv a 2)))) (jn (HG g h) a)
def YY(a:Int):AA Int:=some (Xs a 4294967295)
def jJ(c:List UInt8)(g:Int×Int->AA Int)(j:Int×Int):AA Int:=let (e,a):=j;br (It (a<c.length)) (bd (at? c a) λh=>BK (jK g a) big (Xs e (w64 (↑(s3 h):Int)),0)) (jn YY e)
def ABE(a:List UInt8):AA Int:=BK (jJ a) big (4294967295,0)
def AFZ:=gZ xq Dd DY ["3Ho0vX4JjuuQVARLfv9LzYKUd5vjwVqPQzQXCk43Ka4FPQ8cm4V9HpTIIfmcSCTzzbjM9fH6UOpsQPvu","WTU4HnBUoJhwkn7etUYBHEVfEBn0KSO7ZPKW9O6J0r36"] [] (Bg ABE)
def ABF(a:Int):AA (List UInt8):=some ([toB (EJ a 24),toB (EJ a 16),toB (EJ a 8),toB a])
def AFa:=gZ Uw MO DY ["5tDlEYh5IcqjPbcl4e3B8sYPo4DVa4otq7TMR3pMyPU"] [] (Bg ABF)
def jL(h:AF)(c:Int)(j:Bool):AA (List UInt8):=br j (some []) (bd (jD h) λe=>gd ([c].length+g0 e<=lim) (bd (dt ([c]++e)) λa=>bd (ABE a) λq=>bd (ABF q) λg=>gd (g0 g+g0 a<=QL) (some (g++a))))
def rA(a:AF)(c:Int):AA (List UInt8):=bd (iU a) λe=>br (!e) (jn (jL a c) L1) (bd (C3 c 0 1000000) λg=>jn (jL a c) (!g))
def xD:=gZ Gr MO DA ["Cwo6kyNhnUFZ8GP8mmzKwjgizqxVCTvAI56GDNPBhmbBygfcdgO6CHnUdw9nlHx"] [eQ,H6,AFW,AFY,AFZ,AFa] (BR rA) [.OK 21 (.tmp 20)]
def rB(a:Ad):AA (List Int):=bd (dn a) λc=>br (!c) (some []) (gd ([a.Cj,a.Room,a.BL,a.Ca,a.CD,a.Rest,a.Cr,a.Da].length+a.AZ.length<=lim) (some ([a.Cj,a.Room,a.BL,a.Ca,a.CD,a.Rest,a.Cr,a.Da]++a.AZ)))
def AFb:=gZ ZZ P1 DY ["5Qe5hl7FSsxT6WBGmEajU7ya8TgZgzcLUv6iib1mg7Ik8HdOJ2CJNT6JoxQ"] [bg] (Bg rB)
def AbJ(c:C):YF:=⟨[],[.v (.st 8)],[],.ret [c],[.tmp 2],sq [qu 1 0,.as 2 (.k .nil)] [1] (.seq (sw 11 [wk 15 1,wY XI rfl,wX] [1,13] (cn 13 [1] (sq [.as 2 (.k .nil)] [2] .ret))) (sr [wn 14 [wo 0 1,wK 9,wY AFb rfl],qn [qa 3 16]] [1,3] (sr [wn 17 [wm 3,wZ,wh (.CF · 1 .i [(0,(.tmp 18))]),wm 3,wh (.app · .i true (.tmp 19) (.tmp 20))],qn [qa 4 21]] [1,4] (sr [wn 22 [wm 4,wo 9 1,wL,wo 10 1,wL,wo 11 1,wL,wZ,wh (.CF · 3 .i [(0,(.tmp 24)),(1,(.tmp 26)),(2,(.tmp 29))]),wh (.app · .i true (.tmp 22) (.tmp 30))],qn [qa 4 31]] [1,4] (.join [cv 4 (.l .i)] (sw 32 [wo 11 1,wL,wZ,wj 0] (Kp 60129542162) (bl 0 [cv 4 (.l .i),cv 35 .i] (sq [qb 36 .lss 35 34] (Kp 128849018898) (.seq (ce 36 (Kp 60129542162) [1,4] 0) (.seq (.block 1 (sr [wn 37 [we (.st 2) 33 35,wK 10],qn [.alloc 6 AXo,qw 10 6 38]] (Kp 60129542226) (qr [wn 39 [wm 4,wo 0 6,wL,wo 1 6,wL,wo 2 6,wL,wI .add 1,wo 3 6,wL,wo 4 6,wL,wo 5 6,wL,wo 6 6,wL,wo 7 6,wL,wo 8 6,wL,wo 9 6,wL,wh (.CF · 10 .i [(0,(.tmp 41)),(1,(.tmp 43)),(2,(.tmp 46)),(3,(.tmp 48)),(4,(.tmp 50)),(5,(.tmp 52)),(6,(.tmp 54)),(7,(.tmp 56)),(8,(.tmp 58)),(9,(.tmp 60))]),wh (.app · .i true (.tmp 39) (.tmp 61))],qn [qa 4 62]] (Kp 60129542162)))) (q1 [qi 63 .add 35 1,qm 35 63] (Kp 60129542162))))))) (.join [cv 4 (.l .i)] (sw 64 [wo 12 1,wL,wZ,wj 0] [1,4,65,66,67] (bl 2 [cv 4 (.l .i),cv 67 .i] (sq [qb 68 .lss 67 66] [1,4,65,66,67,68] (.seq (ce 68 [1,4,65,66,67] [1,4] 2) (.seq (.block 3 (sr [wn 69 [we (.st 7) 65 67,wK 7],qn [.alloc 8 AXn,.SL [(.cell 8 5,(.st 4)),(.cell 8 6,(.l (.st 5)))],qw 7 8 70]] [1,4,8,65,66,67] (qr [wn 71 [wm 4,wo 0 8,wO 1,wL,wh (.CF · 1 .i [(0,(.tmp 74))]),wh (.app · .i true (.tmp 71) (.tmp 75))],qn [qa 4 76]] [1,4,65,66,67]))) (q1 [qi 77 .add 67 1,qm 67 77] [1,4,65,66,67])))))) (sr [wn 78 [wm 4,wo 13 1,wL,wZ,wh (.CF · 1 .i [(0,(.tmp 81))]),wh (.app · .i true (.tmp 78) (.tmp 82))],qn [qa 4 83]] [1,4] (sr [wn 84 [wm 4,wo 13 1,wL,wh (.app · .i true (.tmp 84) (.tmp 86))],qn [qa 4 87]] [1,4] (.join [cv 4 (.l .i)] (sw 88 [wo 14 1,wL,wZ,wj 0] [4,89,90,91] (bl 4 [cv 4 (.l .i),cv 91 .i] (sq [qb 92 .lss 91 90] [4,89,90,91,92] (.seq (ce 92 [4,89,90,91] [4] 4) (.seq (.block 5 (sr [wn 93 [we .i 89 91,wL],qn [qa 10 94]] [4,10,89,90,91] (qr [wn 95 [wm 4,wm 10,wI .add 1,wh (.CF · 1 .i [(0,(.tmp 97))]),wh (.app · .i true (.tmp 95) (.tmp 98))],qn [qa 4 99]] [4,89,90,91]))) (q1 [qi 100 .add 91 1,qm 91 100] [4,89,90,91])))))) (sq [qm 101 4,qa 2 101] [2] .ret))))))))))⟩
def Abh:YF:=AbJ (.l .i)
def ABG(a:AF):AA (List Int):=bd (Ty a) λe=>br (!e) none (bd (rB a.AQ) λc=>gd ([(↑(g0 c):Int)].length+g0 c<=lim) (gd (([(↑(g0 c):Int)]++c).length+[a.Now,a.A3,(a.AG.length:Int)].length<=lim) (BK (UN a) big ([(↑(g0 c):Int)]++c++[a.Now,a.A3,(a.AG.length:Int)],0))))
def AP7:GF:=Abh.FA (Bg ABG)
def AA9(e:Int×List UInt8->AA (List UInt8))(g:Int×List UInt8):AA (List UInt8):=let (a,c):=g;br (It (a>=128)) (gd (c.length+[toB (w64 (s0 a 128+128))].length<=lim) (e (w64 (Int.tdiv a 128),c++[toB (w64 (s0 a 128+128))]))) (jn YW (a,c))
def YR(a:Int):AA (List UInt8):=bd (C3 a 0 2147483647) λc=>br (!c) (some []) (BK AA9 big (a,[]))
def bh:=gZ Uw AGU DY ["uEDly21JPKy43PK0WQhIZtljQgBoUPbd7Wf9j6hXIDAsAb7TRQ6sS7E1FudA43oAss9wlTuatNJnlbHr","DD"] [F7] (Bg YR)
def il(e:List Int)(h:List UInt8×Int->AA (List UInt8))(q:List UInt8×Int):AA (List UInt8):=let (a,c):=q;br (It (c<e.length)) (bd (at? e c) λj=>bd (YR j) λg=>gd (g0 a+g0 g<=lim) (h (a++g,w64 (c+1)))) (jn YX a)
def ABA(a:List Int):AA (List UInt8):=BK (il a) big ([],0)
def w7:=gZ cA MO DY ["7ps1N9r7YwxQTMn9BrAuWlvy9ks4iXsd4NpiXNFFlozRrmoM2QE9QYX7FgibuqLLoPeo"] [bh] (Bg ABA)
def iu(g:Int×Int->AA Int)(h:Int)(e:Int×Int->AA Int)(j:Int×Int):AA Int:=let (a,c):=j;br (It (c<8)) (br (iB a 1==1) (jn (HG e c) (Xs (EJ a 1) 3988292384)) (jn (HG e c) (EJ a 1))) (jn (HG g h) a)
def iq(c:List UInt8)(g:Int×Int->AA Int)(j:Int×Int):AA Int:=let (e,a):=j;br (It (a<c.length)) (bd (at? c a) λh=>BK (iu g a) big (Xs e (w64 (↑(s3 h):Int)),0)) (jn YY e)
def ABB(a:List UInt8):AA Int:=BK (iq a) big (4294967295,0)
def w8:=gZ xq Dd DY ["CIaRNd7bQOkCDqB38yeGGDl1Px8K4nLZSBEnXKesDari383QZwwerSEse71VOS82cF8WCn8KayGDtVOh","3Ii4aQJjgfbSOmOozkgUMajZeb5Ied4uXlf6ZX5ke3Q5qCsNMwJtuF"] [] (Bg ABB)
def AbY:YF:=⟨[],[.v (.st 8),.v .i],[],.ret [.s],[.tmp 4],sq [qu 2 0,.as 4 (.k (.str []))] [1,2] (sr [wn 8 [wk 15 2,wY AP7 rfl],qn [qa 5 9]] [1,5] (.seq (sr [wn 10 [wm 5,wh (.bin · .sl .eql (.tmp 10) (.k .nil)),wM],wf 12 13 [wm 1,wc F7 rfl [13,qj 0,qj 1000000],wX],qn [qp 16 12 15]] [1,5,16] (cn 16 [1,5] (sq [.as 4 (.k (.str []))] [4] .ret))) (.seq (.W9 (.op 0 none [] (.mv 17 (.tmp 1)) (.op 3 none [] (.mv 20 (.tmp 5)) (qd 1 [wn 18 [wY bh rfl,wh (.RA · (.tmp 18))]] (.op 4 none [18] (.call 21 w7 [] rfl [(.tmp 20)]) (qd 5 [qn [qb 22 .add 19 21,qa 6 22]] .nil))))) [6]) (sr [wn 23 [wm 6,wh (.OK · (.tmp 23)),wY w8 rfl],qn [qa 7 25]] [6,7] (sr [wn 26 [wm 7,wh (.bin · .num .shr (.tmp 26) (.k (.int .u64 24))),wh (.cvI · .u8 (.tmp 27)),wm 7,wh (.bin · .num .shr (.tmp 29) (.k (.int .u64 16))),wh (.cvI · .u8 (.tmp 30)),wm 7,wh (.bin · .num .shr (.tmp 32) (.k (.int .u64 8))),wh (.cvI · .u8 (.tmp 33)),wm 7,wh (.cvI · .u8 (.tmp 35)),wh (.CF · 4 .u [(0,(.tmp 28)),(1,(.tmp 31)),(2,(.tmp 34)),(3,(.tmp 36))]),wh (.RA · (.tmp 37)),wm 6,wB .add 38],qn [qa 4 40]] [4] .ret)))))⟩
def qg(j:AF)(g:Int):AA (List UInt8):=bd (ABG j) λh=>gd (List.isEmpty h=L3) (bd (C3 g 0 1000000) λq=>br (!q) (some []) (bd (YR g) λc=>bd (ABA h) λe=>gd (g0 c+g0 e<=QL) (bd (ABB (c++e)) λa=>gd ([toB (EJ a 24),toB (EJ a 16),toB (EJ a 8),toB a].length+(c++e).length<=QL) (some ([toB (EJ a 24),toB (EJ a 16),toB (EJ a 8),toB a]++(c++e))))))
def APu:GF:=AbY.FA (BR qg)
def AbZ:YF:=AbJ .z
def AOr(a:List Int):AA PUnit:=none
def AOu(h:AF)(g:List Int×Int->AA PUnit)(j:List Int×Int):AA PUnit:=let (a,c):=j;br (It (c<h.BI.length)) (bd (at? h.BI c) λe=>gd (g0 a+[w64 (e+1)].length<=lim) (g (a++[w64 (e+1)],w64 (c+1)))) (jn AOr a)
def AOq(c:AF)(a:List Int):AA PUnit:=gd (a.length+[(c.BM.length:Int)].length<=lim) (gd ((a++[(c.BM.length:Int)]).length+c.BM.length<=lim) (BK (AOu c) big (a++[(c.BM.length:Int)]++c.BM,0)))
def AOt(e:AF)(h:List Int×Int->AA PUnit)(j:List Int×Int):AA PUnit:=let (g,a):=j;br (It (a<e.AI.length)) (bd (at? e.AI a) λc=>gd (g0 g+[c.AZ.Et].length<=lim) (h (g++[c.AZ.Et],w64 (a+1)))) (jn (AOq e) g)
def AOp(a:AF)(c:List Int):AA PUnit:=BK (AOt a) big (c,0)
def AOs(c:AF)(h:List Int×Int->AA PUnit)(j:List Int×Int):AA PUnit:=let (e,g):=j;br (It (g<c.AG.length)) (bd (at? c.AG g) λa=>gd (g0 e+[a.Id,a.Ab,w64 (a.Bs+1),a.BL,a.DH,a.Since,a.A3,a.State,a.DK,a.De].length<=lim) (h (e++[a.Id,a.Ab,w64 (a.Bs+1),a.BL,a.DH,a.Since,a.A3,a.State,a.DK,a.De],w64 (g+1)))) (jn (AOp c) e)
def AOo(a:AF):AA PUnit:=bd (Ty a) λe=>br (!e) (some ()) (bd (rB a.AQ) λc=>gd ([(↑(g0 c):Int)].length+g0 c<=lim) (gd (([(↑(g0 c):Int)]++c).length+[a.Now,a.A3,(a.AG.length:Int)].length<=lim) (BK (AOs a) big ([(↑(g0 c):Int)]++c++[a.Now,a.A3,(a.AG.length:Int)],0))))
def APv:GF:=AbZ.FA (Bg AOo)
def Aba:YF:=⟨[],[.v (.st 8),.v .i],[],.ret [.s],[.tmp 4],sq [qu 2 0,.as 4 (.k (.str []))] [1,2] (sr [wn 8 [wk 15 2,wY APv rfl],qn [qa 5 9]] [1,5] (.seq (sr [wn 10 [wm 5,wh (.bin · .sl .eql (.tmp 10) (.k .nil)),wM],wf 12 13 [wm 1,wc F7 rfl [13,qj 0,qj 1000000],wX],qn [qp 16 12 15]] [1,5,16] (cn 16 [1,5] (sq [.as 4 (.k (.str []))] [4] .ret))) (.seq (.W9 (.op 0 none [] (.mv 17 (.tmp 1)) (.op 3 none [] (.mv 20 (.tmp 5)) (qd 1 [wn 18 [wY bh rfl,wh (.RA · (.tmp 18))]] (.op 4 none [18] (.call 21 w7 [] rfl [(.tmp 20)]) (qd 5 [qn [qb 22 .add 19 21,qa 6 22]] .nil))))) [6]) (sr [wn 23 [wm 6,wh (.OK · (.tmp 23)),wY w8 rfl],qn [qa 7 25]] [6,7] (sr [wn 26 [wm 7,wh (.bin · .num .shr (.tmp 26) (.k (.int .u64 24))),wh (.cvI · .u8 (.tmp 27)),wm 7,wh (.bin · .num .shr (.tmp 29) (.k (.int .u64 16))),wh (.cvI · .u8 (.tmp 30)),wm 7,wh (.bin · .num .shr (.tmp 32) (.k (.int .u64 8))),wh (.cvI · .u8 (.tmp 33)),wm 7,wh (.cvI · .u8 (.tmp 35)),wh (.CF · 4 .u [(0,(.tmp 28)),(1,(.tmp 31)),(2,(.tmp 34)),(3,(.tmp 36))]),wh (.RA · (.tmp 37)),wm 6,wB .add 38],qn [qa 4 40]] [4] .ret)))))⟩
def AIN(a:AF)(c:Int):AA (List UInt8):=bd (AOo a) λe=>some []
def APw:GF:=Aba.FA (BR AIN)
def ABC(a:AF)(c:Int):AA (List UInt8):=orE (qg a c) (AIN a c)
def AY4:GF:=APu.orE (λa=>ABC a.1 a.2.1) (λa=>AIN a.1 a.2.1) (λa=>by kernel_rfl) (λa r h=>Eq.mp (by kernel_rfl) (APw.ok a r h))
def AIO(a:AF):AA (List Int):=bd (Ty a) λe=>br (!e) (some []) (bd (rB a.AQ) λc=>gd ([(↑(g0 c):Int)].length+g0 c<=lim) (gd (([(↑(g0 c):Int)]++c).length+[a.Now,a.A3,(a.AG.length:Int)].length<=lim) (BK (UN a) big ([(↑(g0 c):Int)]++c++[a.Now,a.A3,(a.AG.length:Int)],0))))
def APx:=gZ Za P1 DY ["6ZAmnY7DmeWyd2BGqUxQWxhTvoCC50xfkTbpCqgYkmU6HCA1iMN6aS8cAkyNioqrmDw9qZcm9gTduPod","peJwnCtzIiwt0gzQrWhv0DRxftHo3D7wGeKnJO2vjPu6zYFG7AftdYFnl7WOaPVHPDqpbE3FW00RrHp0","wuPS5cSPCksp5DafxTcscK2I8GG1GFWRbYff5OwnMsaycWjgBtFnAUj3gKTiV1whuzfcYgWWQZZsPgvc","aTWej41JyV9P4JApIzPBjkrySjI0dhwJmX7aOQ4w8v077XCUi9C228qrXi3YOlIwJ4TdMqjbmoU2DE3B","T25hrLHuuBuoi"] [XI,AFb] (Bg AIO)
def Ht(a:Ad):AA Ad:=gd (0+a.AZ.length<=lim) (some {a with AZ:=[]++a.AZ})
def AFR:=gZ ZZ AGV AGX ["6DxZXw8gQNo4po9DGfIFCekL"] [] (Bg Ht)
def AIP(a:Int):AA (BO×Bool):=bd (RD (BO.mk a 0 0 a 0)) λc=>br (!c) (some (BO.mk 0 0 0 0 0,L3)) (some (BO.mk a 0 0 a 0,L1))
def APy:=gZ Uw Uy [.cell 2 (some 5),.tmp 3] ["1Lz8nEKqRiSXunCh16ATUqfrbTtnFct7B16xkHw0Oone"] [AKL] (Bg AIP)
def Abi:YF:=⟨[],[],[],.ret [(.st 6)],[.cell 0 (some 1)],dY ["1Fat9e7mQ2HjFwGMxhsfTU7EdoIvNUkVDCNOgd0gpLBfX3pWA4xyUy3nStg9HZgnwv9L"] []⟩
def Rm(a:A2):AA A2:=some a
def ABM(e:Int×A2->AA A2)(g:Int×A2):AA A2:=let (c,a):=g;br (It (c<9)) (gd (a.Av.length+1<=lim) (e (w64 (c+1),A2.mk (a.Av++[[]])))) (jn Rm a)
def jW:AA A2:=BK ABM big (0,A2.mk [])
def mW:GF:=Abi.gf rfl rfl (λa=>jW) (λa=>by kernel_rfl)
def AIU(c:Int):AA (Ak×Bool):=bd (AIP c) λa=>br (!a.2) (some (Ak.mk (BO.mk 0 0 0 0 0) [] (A2.mk []),L3)) (bd jW λe=>some (Ak.mk a.1 [] e,L1))
def AQC:=gZ Uw (.ret [(.st 7),.b]) [.cell 2 (some 7),.tmp 3] ["4VmmdiRjU98pNE5ijcUTvKDNiIiIMG3Bcn6yjMtV067AamNIgBL5yUE3JnJZnJ"] [APy,mW] (Bg AIU)
def ABO(a:AF):AA (AF×Bool):=some (a,L1)
def ABQ(g:Ad)(e:Int×AF->AA (AF×Bool))(h:Int×AF):AA (AF×Bool):=let (c,a):=h;br (It (c<g.Da)) (gd (a.BI.length+[-1].length<=lim) (e (w64 (c+1),{a with BI:=a.BI++[-1]}))) (jn ABO a)
def ABN(a:Ad)(c:AF):AA (AF×Bool):=BK (ABQ a) big (0,c)
def ABP(c:Ad)(h:Int×AF->AA (AF×Bool))(q:Int×AF):AA (AF×Bool):=let (e,a):=q;br (It (e<c.AZ.length)) (bd (at? c.AZ e) λj=>bd (AIU j) λg=>gd (a.AI.length+[g.1].length<=lim) (h (w64 (e+1),{a with AI:=a.AI++[g.1]}))) (jn (ABN c) a)
def rG(a:Ad):AA (AF×Bool):=bd (vG a) λc=>br (!c) (some ({},L3)) (bd (Ht a) λe=>BK (ABP a) big (0,AF.mk e 0 1 [] [] [] []))
def AFg:=gZ ZZ (.ret [(.st 8),.b]) yA ["OIZOBgVIqmqRYhJZy5QvQrABEdzuG35H2mZ9AzFXd5Y6SMfoU1sUDxM0BUrPKUJE4qcMQGFV7Io00mDS","LBY6a4FkfhdFzghuRZ0QZzl2AMvMvkWdgizGWnWgQBdnmIWmtzqWgyrWns2T9U89iI4VHcRJvqhONZ9i","n76xycFnwfkv9nM"] [mT,AFR,AQC] (Bg rG)
def ABR(e:Ad):AA (Ai×Bool):=bd (rG e) λa=>br (!a.2) (some (Ai.mk {} {} 0 [],L3)) (bd (rA a.1 0) λc=>some (Ai.mk a.1 (BY.mk {} (Bp.mk c (↑(g0 c):Int)) {}) 0 [],L1))
def AFh:=gZ ZZ mn yB ["WlADgXgC5gjPzxJ8TZpHoZ8BfJ9he8uSLZTvX9xT26MUOBJhCH11DBdyGflSpfd4eVNOY09HbarPrCzJ","Qy8uxd5I"] [AFg,xD] (Bg ABR)
def MI(a:List Int):AA (List Int):=gd (0+a.length<=lim) (some a)
def bm:=gZ cA P1 DY ["3CPMEt5gIgYoM"] [] (Bg MI)
def ABS(a:Ad):AA Ad:=bd (MI a.AZ) λc=>some {a with AZ:=c}
def AQD:=gZ ZZ AGV AGX ["3Ln2rPWoOGSOlq5TQKiWuV"] [bm] (Bg ABS)
def Abj:YF:=⟨[],[],[],.ret [(.st 6)],[.cell 0 (some 1)],dY ["AEFOp9R6GzaP46jnFcfU"] [] [.T6 1 (.l (.st 5)) (.k (.int .i64 9))]⟩
def AOx:AA A2:=some (A2.mk (s4 (v8 9) []))
def AQE:GF:=Abj.gf rfl rfl (λa=>AOx) (λa=>by kernel_rfl)
def ABT(a:Bp):AA Bp:=bd (Rg a) λc=>br (!c) (some a) (some (Bp.mk a.Data (a.Data.length:Int)))
def AQF:=gZ mg Uz mq ["2AWYvZO6tHOUx4Xl5zDPUtuKvnyjdWnURtW"] [bj] (Bg ABT)
def AIV(c:Ad):AA (CJ×Bool):=bd (ABR c) λa=>br (!a.2) (some (CJ.mk (Ai.mk {} {} 0 []) [] [] 0,L3)) (some (CJ.mk a.1 [] [] 0,L1))
def AQG:=gZ ZZ (.ret [(.st 13),.b]) [.cell 2 (some 26),.tmp 3] ["Qj31x2h6fHt8qVQc27tOXeXAhDkqdwyNole7C6pbE9pBNG04Ns5fBZtSfw4X"] [AFh] (Bg AIV)
def ABU(g:A2)(h:Int×A2->AA A2)(j:Int×A2):AA A2:=let (a,c):=j;br (It (a<g.Av.length)) (bd (at? g.Av a) λe=>gd (0+g0 e<=lim) (gd (c.Av.length+[[]++e].length<=lim) (h (w64 (a+1),A2.mk (c.Av++[[]++e]))))) (jn Rm c)
def jX(a:A2):AA A2:=BK (ABU a) big (0,A2.mk [])
def xF:=gZ bz xw yC ["pl65Zbqw2o9MNR2O3MHAU5CNyRyn4T81VfeAkspKqfDxT5WCDJPAg3Kf7aWmLt272uAvFXmsqesSjOyE","BHAC6mM1FVrMS"] [] (Bg jX)
def AIW(a:Ak):AA Ak:=bd (pd a.Row) λc=>bd (jX a.B9) λe=>some (Ak.mk a.AZ c e)
def AQH:=gZ xn mo yD ["4LjVrbWNJsRvem42ZWz7q4g8KLXQJNv3VXf1f6vJJZ"] [ADA,xF] (Bg AIW)
def gn:Y.YOp []:=.app 19 .i L1 (.tmp 16) (.tmp 18)
def Qu:Y.YOp []:=.app 15 (.st 2) L1 (.tmp 12) (.tmp 14)
def Ie:Y.YOp []:=.call 7 AFR [] rfl [(.tmp 6)]
def AKs:Y.B4 []:=(.op 21 none [] (.st 15 (.tmp 3) (.tmp 24)) (.dr [5,6,7,8,9,10,11,12,13,14,15,16,17,18,19,20,21,22,23,24] .nil))
def Acx:=λa=>((.op 20 none [5,8,10,13,17,21] (.alloc 3 FE) (.nl [(.cell 3 0,.i),(.cell 3 11,(.st 2)),(.cell 3 12,(.st 7)),(.cell 3 13,.i),(.cell 3 14,.i)] a)):Y.B4 [])
def Acy:=λa=>((.op 19 none [] (.build 24 FE [(0,9,(.tmp 7)),(9,1,(.tmp 9)),(10,1,(.tmp 11)),(11,1,(.tmp 15)),(13,1,(.tmp 19)),(14,1,(.tmp 23))]) (.nl [(.tmp 24 12,(.st 7))] a)):Y.B4 [])
def zQ:Y.B4 []:=(.op 18 none [8,10] (.app 23 .i L1 (.tmp 20) (.tmp 22)) (Acy AKs))
def Ac0:=λa b=>((.both 1 a b):Y.B4 [])
def AKt:=Ac0 (.op 18 none [8,10] (.app 23 .i L1 (.tmp 20) (.tmp 22)) (Acy (Acx AKs))) (Acx zQ)
def Ac1:=λa b c=>((.op a none [5,8,10,13,17,21] (.CF b 0 .i []) c):Y.B4 [])
def AKu:=Ac1 15 20 zQ
def Z9:Y.B4 []:=(.op 14 none [8,10,21] gn zQ)
def nw:=Ac0 (.op 14 none [8,10,21] gn AKt) (Acx Z9)
def nx:=Ac0 (.op 14 none [8,10,21] gn AKu) (Ac1 15 20 Z9)
def ADy:=Ac0 (.op 14 none [8,10,21] gn (Ac0 (Ac1 15 20 AKt) (Acx AKu))) (Ac0 (Ac1 15 20 nw) (Acx nx))
def ny:=Ac1 11 16 Z9
def ADz:=Ac0 (Ac1 11 16 nw) (Acx ny)
def AD0:=Ac0 (Ac1 11 16 nx) (Ac1 15 20 ny)
def Ac3:=λa=>((.op 10 none [8,10,17,21] Qu a):Y.B4 [])
def VP:=Ac3 Z9
def aA:=Ac0 (Ac3 nw) (Acx VP)
def aB:=Ac0 (Ac3 nx) (Ac1 15 20 VP)
def nz:=Ac0 (Ac3 ADy) (Ac0 (Ac1 15 20 aA) (Acx aB))
def aC:=Ac0 (Ac3 ny) (Ac1 11 16 VP)
def n7:=Ac0 (Ac3 ADz) (Ac0 (Ac1 11 16 aA) (Acx aC))
def n8:=Ac0 (Ac3 AD0) (Ac0 (Ac1 11 16 aB) (Ac1 15 20 aC))
def AD1:=Ac0 (Ac3 (Ac0 (Ac1 11 16 ADy) (Ac0 (Ac1 15 20 ADz) (Acx AD0)))) (Ac0 (Ac1 11 16 nz) (Ac0 (Ac1 15 20 n7) (Acx n8)))
def Ac4:=λa=>((.op 7 none [5,8,10,13,17,21] (.CF 12 0 (.st 2) []) a):Y.B4 [])
def aD:=Ac4 VP
def n9:=Ac0 (Ac4 aA) (Acx aD)
def oA:=Ac0 (Ac4 aB) (Ac1 15 20 aD)
def AD2:=Ac0 (Ac4 nz) (Ac0 (Ac1 15 20 n9) (Acx oA))
def oB:=Ac0 (Ac4 aC) (Ac1 11 16 aD)
def AD3:=Ac0 (Ac4 n7) (Ac0 (Ac1 11 16 n9) (Acx oB))
def AD4:=Ac0 (Ac4 n8) (Ac0 (Ac1 11 16 oA) (Ac1 15 20 oB))
def Ac5:=λa=>((.op 2 none [8,10,13,17,21] Ie a):Y.B4 [])
def WG:=Ac5 VP
def dG:=Ac0 (Ac5 aA) (Acx WG)
def dH:=Ac0 (Ac5 aB) (Ac1 15 20 WG)
def tW:=Ac0 (Ac5 nz) (Ac0 (Ac1 15 20 dG) (Acx dH))
def dI:=Ac0 (Ac5 aC) (Ac1 11 16 WG)
def tX:=Ac0 (Ac5 n7) (Ac0 (Ac1 11 16 dG) (Acx dI))
def tY:=Ac0 (Ac5 n8) (Ac0 (Ac1 11 16 dH) (Ac1 15 20 dI))
def dJ:=Ac0 (Ac5 aD) (Ac4 WG)
def tZ:=Ac0 (Ac5 n9) (Ac0 (Ac4 dG) (Acx dJ))
def ta:=Ac0 (Ac5 oA) (Ac0 (Ac4 dH) (Ac1 15 20 dJ))
def te:=Ac0 (Ac5 oB) (Ac0 (Ac4 dI) (Ac1 11 16 dJ))
def ANh:Y.B4 []:=(.op 0 none [] (.fa 5 0 (.tmp 1)) (.op 1 none [] (.ld 6 (some 9) (.tmp 5)) (.op 3 none [] (.fa 8 9 (.tmp 1)) (.op 4 none [] (.ld 9 none (.tmp 8)) (.op 5 none [] (.fa 10 10 (.tmp 1)) (.op 6 none [] (.ld 11 none (.tmp 10)) (.op 8 none [] (.fa 13 11 (.tmp 1)) (.op 9 none [] (.ld 14 none (.tmp 13)) (.op 12 none [] (.fa 17 13 (.tmp 1)) (.op 13 none [] (.ld 18 none (.tmp 17)) (.op 16 none [] (.fa 21 14 (.tmp 1)) (.op 17 none [] (.ld 22 none (.tmp 21)) (Ac0 (Ac5 (Ac0 (Ac4 AD1) (Ac0 (Ac1 11 16 AD2) (Ac0 (Ac1 15 20 AD3) (Acx AD4))))) (Ac0 (Ac4 (Ac0 (Ac5 AD1) (Ac0 (Ac1 11 16 tW) (Ac0 (Ac1 15 20 tX) (Acx tY))))) (Ac0 (Ac1 11 16 (Ac0 (Ac5 AD2) (Ac0 (Ac4 tW) (Ac0 (Ac1 15 20 tZ) (Acx ta))))) (Ac0 (Ac1 15 20 (Ac0 (Ac5 AD3) (Ac0 (Ac4 tX) (Ac0 (Ac1 11 16 tZ) (Acx te))))) (Acx (Ac0 (Ac5 AD4) (Ac0 (Ac4 tY) (Ac0 (Ac1 11 16 ta) (Ac1 15 20 te)))))))))))))))))))))
def Abk:YF:=⟨[],[.v (.st 8)],[],.ret [(.st 8)],[.cell 2 (some 15)],sq [qu 1 0,.alloc 2 FE,.SL [(.cell 2 0,.i),(.cell 2 11,(.st 2)),(.cell 2 12,(.st 7)),(.cell 2 13,.i),(.cell 2 14,.i)]] [1,2] (.seq (.W9 ANh [1,2,3]) (.join [cx 3 (.st 8)] (sq [qK 4 0] (Kp 30) (bl 0 [cv 4 .i,cx 3 (.st 8)] (.seq (sw 25 [wm 4,wo 12 1,wL,wZ,wB .lss 25] (Kp 536870942) (ce 29 (Kp 30) [2,3] 0)) (.seq (.block 1 (.W9 (qd 0 [wn 32 [wo 12 3,wL,wo 12 1,wL,wm 4,wE (.st 7) 35,wK 7]] (.op 7 none [32] (.call 39 AQH [] rfl [(.tmp 38)]) (.op 8 none [32] (.CF 40 1 (.st 7) [(0,(.tmp 39))]) (qd 9 [wn 41 [wh (.app · (.st 7) false (.tmp 33) (.tmp 40)),wo 12 3],qn [qw 1 42 41]] .nil)))) [1,2,3,4])) (qr [wn 30 [wm 4,wI .add 1],qn [qa 4 31]] (Kp 30)))))) (sq [qL 43 15 3,qw 15 2 43] [2] .ret)))⟩
def Dh(a:AF)(c:Ad)(X2:AA AF):AA AF:=gd (0+a.BI.length<=lim) (Cn c c (ev6 a.Now a.A3 ([]++a.AG) ([]:List Ak) ([]++a.BM) ([]++a.BI) X2))
def ac(L:List (AF->Ad->AA AF->AA AF))(a:AF)(e c:Ad)(X:AA AF):AA AF:=gd (0+a.BM.length<=lim) (gd (0+a.BI.length<=lim) (L.foldr (λf=>alt (f a c)) (Cn e c (ev6 a.Now a.A3 ([]++a.AG) ([]:List Ak) ([]++a.BM) ([]++a.BI) X))))
def am(L:List (AF->Ad->AA AF->AA AF)):AF->Ad->AA AF->AA AF:=λa c=>ac L a c c
def ap(L:List (AF->Ad->AA AF->AA AF)):AF->Ad->AA AF->AA AF:=λa c X=>gd (0+a.AG.length<=lim) (am L a c X)
def bi(L:List (AF->Ad->AA AF->AA AF)):AF->Ad->AA AF->AA AF:=λa e X=>bd (Ht a.AQ) λc=>gd (0+a.AG.length<=lim) (ac L a e c X)
def Cm:=am []
def ABV:=am [Cm]
def Nq:=am [Dh,Cm,ABV]
def ABW:=am [Cm,Cm]
def jY:=am [Dh,Cm,Cm,ABW]
def DO:=ap []
def rH:=ap [Cm,DO]
def Ro:=ap [Dh,Cm,DO,rH]
def bH:=ap [DO]
def PH:=ap [Dh,Cm,DO,bH]
def PI:=ap [Cm,DO,bH]
def rJ:=ap [Cm,Cm,PI]
def rI:=ap [Dh,Cm,Cm,PH,rJ]
def jZ:=ap [Dh,Dh,Nq,Ro,rI]
def rL:=ap [Cm,DO,DO]
def bI:=ap [Dh,Cm,DO,DO,rL]
def bK:=ap [DO,DO]
def bJ:=ap [Dh,Cm,DO,DO,bK]
def bL:=ap [Cm,DO,DO,bK]
def rN:=ap [Cm,Cm,PI,bL]
def rM:=ap [Dh,Cm,Cm,PH,bJ,rN]
def rK:=ap [Dh,Dh,Nq,Ro,bI,rM]
def JW:=bi []
def rQ:=bi [Cm,DO,JW]
def bM:=bi [Dh,Cm,DO,JW,rQ]
def bO:=bi [DO,JW]
def bN:=bi [Dh,Cm,DO,JW,bO]
def bP:=bi [Cm,DO,JW,bO]
def rS:=bi [Cm,Cm,PI,bP]
def rR:=bi [Dh,Cm,Cm,PH,bN,rS]
def rP:=bi [Dh,Dh,Nq,Ro,bM,rR]
def Vu:=bi [JW]
def bQ:=bi [Dh,Cm,DO,JW,Vu]
def bR:=bi [Cm,DO,JW,Vu]
def rW:=bi [Cm,DO,DO,bR]
def rV:=bi [Dh,Cm,DO,DO,bQ,rW]
def rU:=bi [Dh,Dh,Nq,Ro,bM,rV]
def ra:=bi [DO,JW,Vu]
def bS:=bi [DO,DO,ra]
def rZ:=bi [Dh,Cm,DO,DO,bQ,bS]
def rY:=bi [Dh,Cm,Cm,PH,bN,rZ]
def rf:=bi [Cm,DO,DO,bR,bS]
def re:=bi [Cm,Cm,PI,bP,rf]
def rb:=bi [Cm,Cm,PI,bL,re]
def rX:=bi [Dh,Cm,Cm,PH,bJ,rY,rb]
def rT:=bi [Dh,Dh,Nq,Ro,bI,rU,rX]
def rO:=bi [Dh,Dh,Nq,jY,jZ,rP,rT]
def Gg(a:AF):AA AF:=some a
def bU(j:AF)(g:Int×AF->AA AF)(q:Int×AF):AA AF:=let (c,a):=q;br (It (c<j.AI.length)) (bd (at? j.AI c) λh=>bd (AIW h) λe=>gd (a.AI.length+[e].length<=lim) (g (w64 (c+1),{a with AI:=a.AI++[e]}))) (jn Gg a)
def Pn(a:AF):AA AF:=bd (Ht a.AQ) λc=>gd (0+a.AG.length<=lim) (gd (0+a.BM.length<=lim) (gd (0+a.BI.length<=lim) (alt (Dh a c) (alt (Dh a c) (alt (Nq a c) (alt (jY a c) (alt (jZ a c) (alt (rK a c) (alt (rO a c) (BK (bU a) big (0,AF.mk c a.Now a.A3 ([]++a.AG) [] ([]++a.BM) ([]++a.BI))))))))))))
def OL:GF:=Abk.FA (Bg Pn)
def Wa(a:Ai):AA Ai:=bd (Pn a.BG) λc=>gd (0+a.Laid.length<=lim) (bd (Pn a.BG) λe=>gd (0+a.Laid.length<=lim) (Mi c e (AAI a.Ac a.Ac (ev2 a.Seq ([]++a.Laid) (some {a with BG:=c,Laid:=[]++a.Laid})))))
def bn:=gZ mh AGW AGY ["frKdTzJ7lMFooNmpYu0MnlWrQ6VKFcH8BYiYFGGVxN2ns77UojkPMfN2Ab9R45rHtQMiIG1znBEC5SUP","m97xiL248DyeSWI0mdBnVc5HG9IPT2zPmK6"] [OL] (Bg Wa)
def ABX(a:Bo):AA (List UInt8):=bd (vD a) λc=>br (!c) (some []) (br (a.Kind==1) (bd (dt ([a.Kind,a.Id,a.Ab,w64 (a.Bs+1),a.BL,a.DH])) λe=>some e) (br (a.Kind==3) (bd (dt ([a.Kind,a.Ab,a.BL])) λg=>some g) (br (a.Kind==6) (bd (dt [a.Kind]) λh=>some h) (bd (dt ([a.Kind,a.Id])) λj=>some j))))
def AFi:=gZ [.v (.st 0)] MO DY ["4eRHV4PLUPPJPrFeJld8ha6GVAYiE2m3QHUlcqNYBploIInfHpy3k8vHsQSRLbLjPMnCodYrCOOBqazx","xcFQJguhSNFzIQt2ahIrJsP4jeW46xFxVVqokkS54xiuAaz"] [AC8,AFY] (Bg ABX)
def je(h:Int)(a:List UInt8)(j:Bool):AA (List UInt8):=br j (some []) (bd (jH h) λc=>gd (g0 c+a.length<=QL) (bd (ABE (c++a)) λq=>bd (ABF q) λe=>gd (g0 e+(c++a).length<=QL) (bd (jH (↑(e++(c++a)).length:Int)) λg=>gd (g0 g+(e++(c++a)).length<=QL) (some (g++(e++(c++a)))))))
def jc(a:Int)(c:List UInt8):AA (List UInt8):=bd (C3 a 1 1000000) λe=>br (!e) (jn (je a c) L1) (bd (C3 (c.length:Int) 1 60) λg=>jn (je a c) (!g))
def mX:=gZ [.v .i,.v .s] MO DA ["JfNAAByQg7J83eATMUb2MjlkKtgy1P0RJ5niuszCOsi6roVNlGC84dhdCRG83AyLdcgSX5fK2Ng"] [H6,AFX,AFZ,AFa] (BR jc) [.OK 22 (.tmp 21)]
def ABY(c:Int)(e:Bo):AA (List UInt8):=bd (ABX e) λa=>br (a==[]) (some []) (bd (jc c a) λg=>some g)
def AQI:=gZ [.v .i,.v (.st 0)] MO DA ["6gYxNkwnJMlYjNqQVRqRTGiD4AzdIcT5JB"] [AFi,mX] (BR ABY)
def jg(a:Bp)(c:List UInt8)(e:Bool):AA (Bp×Bool):=br e (some (a,L3)) (gd (a.Data.length+c.length<=QL) (some (Bp.mk (a.Data++c) a.Safe,L1)))
def jf(a:Bp)(c:List UInt8):AA (Bp×Bool):=bd (Rg a) λe=>br (!e) (jn (jg a c) L1) (jn (jg a c) (It ((c.length:Int)>w64 (20000-(a.Data.length:Int)))))
def AFj:=gZ [.v (.st 9),.v .s] xx yE ["9PuomVWzR4TfmfuAUKiVxGvOfWjgvH5XdOBZWGgzbDtRAxnIYwbxoV4YHy9DCsT6Diw"] [eR] (BR jf)
def jh(e:Ai)(c:Bo)(a:Ai)(h:Bp×Bool)(g:Bool):AA (Ai×Int):=br g (some (a,24)) (gd (a.Laid.length+[c].length<=lim) (some (Ai.mk a.BG {a.Ac with Log:=h.1} (w64 (e.Seq+1)) (a.Laid++[c]),0)))
def dv(a:Ai)(e:Bo):AA (Ai×Int):=bd (Wa a) λg=>bd (vE a) λy=>br (!y) (some (g,21)) (bd (vD e) λB=>br (!B) (some (g,22)) (br (a.Seq==1000000) (some (g,23)) (bd (ABY (w64 (a.Seq+1)) e) λh=>bd (jf a.Ac.Log h) λc=>bd (jf a.Ac.Log h) λj=>eqv c.2 j.2 (Vb c.1 j.1 (bd (ABY (w64 (a.Seq+1)) e) λE=>bd (jf a.Ac.Log E) λq=>eqv c.2 q.2 (Vb c.1 q.1 (br ((a.Laid.length:Int)==8) (jn (jh a e g c) L1) (jn (jh a e g c) (!c.2)))))))))
def mY:=gZ [.v (.st 11),.v (.st 0)] (.ret [(.st 11),.i]) AGZ ["dzKmKHiTN6a9AmeUeCt4FLHOOJEVdmLPVrcb6VwvuPDZ0UMLLhNnDnwtWGjHzOMbZ3kuqSLhIHYMs5B8","MyQMjfaiRY2cO35IO5pCeYtXnIFUYpJqCkRyuKYN6AiMPpJNaCWiBWqCLj9Ywb5qFJRT5qnL8DNGBdB4","h870i4orinMEWWrvGUemMF7qQb7wXwF0z0NClDSoUtll4lFXQuQBndiYeGvco1vIYYsIXvkSOkh3Fwu3","J2vDyo5fveHj25b0LsS9y9jR2MSbpM4YjPNTWGc8XhlkT3V3N53UNf7hirPc"] [bn,mS,AC8,AQI,AFj] (BR dv)
def Ye(a:List Ar):AA (List Ar):=gd (0+a.length<=lim) (some a)
def xG:=gZ xm cD DY ["1le0tqL72OtLMy"] [] (Bg Ye)
def ABZ(g:A2)(h:Int×A2->AA A2)(j:Int×A2):AA A2:=let (a,c):=j;br (It (a<g.Av.length)) (bd (at? g.Av a) λe=>gd (0+g0 e<=lim) (gd (c.Av.length+[e].length<=lim) (h (w64 (a+1),A2.mk (c.Av++[e]))))) (jn Rm c)
def ji(a:A2):AA A2:=BK (ABZ a) big (0,A2.mk [])
def xH:=gZ bz xw yC ["72TkokpFHKGPBnHrQryNLLirpcDY9miWLteP5TcSvtsfk8mPdlIqATTKb9obdNQlmswFr4lFLOWSnxti","R"] [] (Bg ji)
def AIX(a:Ak):AA Ak:=bd (Ye a.Row) λc=>bd (ji a.B9) λe=>some (Ak.mk a.AZ c e)
def AQJ:=gZ xn mo yD ["4LjVrbWNJsRvem42ZWz7q4g8KLXQJNv3VXf1f6vJJZ"] [xG,xH] (Bg AIX)
def jj(j:AF)(g:Int×AF->AA AF)(q:Int×AF):AA AF:=let (c,a):=q;br (It (c<j.AI.length)) (bd (at? j.AI c) λh=>bd (AIX h) λe=>gd (a.AI.length+[e].length<=lim) (g (w64 (c+1),{a with AI:=a.AI++[e]}))) (jn Gg a)
def Po(a:AF):AA AF:=bd (ABS a.AQ) λc=>gd (0+a.AG.length<=lim) (bd (MI a.BM) λe=>bd (MI a.BI) λg=>bd (MI a.BI) λq=>Cn c c (ev5 a.Now a.A3 a.AG ([]:List Ak) e (eqv g q (bd (MI a.BM) λy=>bd (MI a.BI) λB=>Cn c c (ev4 a.Now a.A3 a.AG ([]:List Ak) (eqv e y (eqv g B (gd (0+a.AG.length<=lim) (bd (MI a.BM) λE=>bd (MI a.BI) λG=>Cn c c (ev4 a.Now a.A3 a.AG ([]:List Ak) (eqv e E (eqv g G (bd (ABS a.AQ) λH=>gd (0+a.AG.length<=lim) (bd (MI a.BM) λh=>bd (MI a.BI) λj=>Cn c H (ev4 a.Now a.A3 a.AG ([]:List Ak) (eqv e h (eqv g j (BK (jj a) big (0,AF.mk c a.Now a.A3 a.AG [] e g)))))))))))))))))))
def OM:=gZ Za P2 AGa ["3oQmjOaBUdYZVYbNt3Ya9xZrdLazFCDUcNHRfEKizrljsEl1Narkrv16r5yMJzfQQwF6WZK1dEyE4FKL","VfXO2SKfnNbWIaVO0qkPWhkRCbDypAezeGxIXebBpsnwKZo5J7PFKGGGGhaji2YdlufNwafQYw61HhFV","1JqVmhg7DgIFIFxVqqYbyjJbMy0rle6dDOOQ9yQG0l64sm0Fr4AiUK7LxxK9BUxXTn41N2c28fvDgdIb","EDmjAXRGGGPnFleFMOPN7Y7ue5T3iLigQ7yy3Vg3Et7FiRUMMaAuEI2Wb2T4Evfvab6rISdQ7ZX9ptW0","5JKxxY5OtedHMsZHvd8lshmvlrR4GAQLZoWf2sfunwcrxbJrc6nVJOie4wkFv0XCs0hTnrVKZQ58dKRk","E5yote"] [AQD,bm,AQJ] (Bg Po)
def MH(a:Ai):AA Ai:=bd (Po a.BG) λc=>gd (0+a.Laid.length<=lim) (some {a with BG:=c})
def UP(a:List Int):AA (List UInt8):=bd (ABA a) λc=>some c
def AIY(a:Bo):AA (List UInt8):=bd (dq a) λc=>br (!c) (some []) (br (a.Kind==1) (gd ([a.Kind].length+[a.Id,a.Ab,w64 (a.Bs+1),a.BL,a.DH].length<=lim) (jn UP ([a.Kind]++[a.Id,a.Ab,w64 (a.Bs+1),a.BL,a.DH]))) (br (a.Kind==3) (gd ([a.Kind].length+[a.Ab,a.BL].length<=lim) (jn UP ([a.Kind]++[a.Ab,a.BL]))) (br (a.Kind==6) (jn UP [a.Kind]) (gd ([a.Kind].length+[a.Id].length<=lim) (jn UP ([a.Kind]++[a.Id]))))))
def AQK:=gZ [.v (.st 0)] MO DY ["Z8izEewjdpyv0f5WJrdFAHpKDQ2fa50Fow8Vgt5dDAblhHo438uLpPDY6c3vt2a1WEdrD1HDjuMxDchB","PwRqQ3c9H071hArfKhfYzqD1CorVLtxWTVRpzSANGLjeY8lwUT4kj"] [xC,w7] (Bg AIY)
def jk(h:Int)(c:List UInt8)(j:Bool):AA (List UInt8):=br j (some []) (bd (YR h) λe=>gd (g0 e+c.length<=lim) (bd (ABB (e++c)) λa=>gd ([toB (EJ a 24),toB (EJ a 16),toB (EJ a 8),toB a].length+(e++c).length<=lim) (bd (YR (↑([toB (EJ a 24),toB (EJ a 16),toB (EJ a 8),toB a]++(e++c)).length:Int)) λg=>gd (g0 g+([toB (EJ a 24),toB (EJ a 16),toB (EJ a 8),toB a]++(e++c)).length<=QL) (some (g++([toB (EJ a 24),toB (EJ a 16),toB (EJ a 8),toB a]++(e++c)))))))
def AIZ(a:Int)(c:List UInt8):AA (List UInt8):=bd (C3 a 1 1000000) λe=>br (!e) (jn (jk a c) L1) (bd (C3 (c.length:Int) 1 60) λg=>jn (jk a c) (!g))
def AQL:=gZ [.v .i,.v .s] MO DA ["2zOgCJ48qHoCpNtpesugK6QuMdiuGo3zXccCZb9A1AqvGx8GXfYRs1yBxaudTQvCUumKewn8VqpJHizO","kxGEu1wba1C741HPWZWTbtciRtz6zquFgttbyKEIosQWQ4"] [F7,bh,w8] (BR AIZ)
def NC(a:Bp)(c:List UInt8)(e:Bool):AA (Bp×Bool):=br e (some (a,L3)) (some (Bp.mk (a.Data++c) a.Safe,L1))
def RB(a:Bp)(c:List UInt8):AA (Bp×Bool):=gd (a.Data.length+c.length<=QL) (bd (Rg a) λe=>br (!e) (jn (NC a c) L1) (bd (Rg {a with Data:=a.Data++c}) λg=>jn (NC a c) (!g)))
def Yg(c e a:Int)(h:UInt8)(g:Bool):AA (Int×Int×Bool):=br g (some (0,0,L3)) (some (orI e (px ((w64 (↑(s3 h):Int)).tmod 128) (w64 (7*a))),w64 (w64 (c+a)+1),L1))
def Yf(j:List UInt8)(g:Int)(h:Int×Int->AA (Int×Int×Bool))(e a:Int)(q:Bool):AA (Int×Int×Bool):=br q (some (0,0,L3)) (bd (at? j (w64 (g+a))) λc=>gd (¬w64 (7*a)<0) (br (It (w64 (↑(s3 c):Int)<128)) (br (It (a>0)) (br (w64 (↑(s3 c):Int)==0) (jn (Yg g e a c) L1) (jn (Yg g e a c) (It (orI e (px ((w64 (↑(s3 c):Int)).tmod 128) (w64 (7*a)))>2147483647)))) (jn (Yg g e a c) (It (orI e (px ((w64 (↑(s3 c):Int)).tmod 128) (w64 (7*a)))>2147483647)))) (h (orI e (px ((w64 (↑(s3 c):Int)).tmod 128) (w64 (7*a))),w64 (a+1)))))
def UQ(_:PUnit):AA (Int×Int×Bool):=some (0,0,L3)
def Rp(e:List UInt8)(a:Int)(g:Int×Int->AA (Int×Int×Bool))(j:Int×Int):AA (Int×Int×Bool):=let (h,c):=j;br (It (c<5)) (br (It (a<0)) (jn (Yf e a g h c) L1) (jn (Yf e a g h c) (It (a>=w64 ((e.length:Int)-c))))) (jn UQ ())
def jl(a:List UInt8)(c:Int):AA (Int×Int×Bool):=BK (Rp a c) big (0,0)
def AFk:=gZ [.v (.l .u),.v .i] (.ret [.i,.i,.b]) [.tmp 4,.tmp 5,.tmp 6] ["Dt8af3VvUbxfazqoApItk0CecrQYfL3ZzGtFIhaQLqGqWmlBu0FeUn5KptjWBlfxB8hxjgwOUFeDPqN2","71nPitEXKDIPZ7edvYtCbczkXkCdV1CBMAscDRzveWyg4tIcqrywOqtUcyzsUJabC8K2jcwpjDxAEkXS","peXSwNBpR9rmIyN0V7si1pnfP"] [] (BR jl)
def Yh(a:List Int):AA ((List Int)×Bool):=some (a,L1)
def jm(e:List UInt8)(h:List Int×Int->AA (List Int×Bool))(j:List Int×Int):AA ((List Int)×Bool):=let (c,g):=j;br (It (g<e.length)) (bd (jl e g) λa=>br (!a.2.2) (some ([],L3)) (gd (g0 c+[a.1].length<=lim) (h (c++[a.1],a.2.1)))) (jn Yh c)
def ABa(a:List UInt8):AA ((List Int)×Bool):=BK (jm a) big ([],0)
def AFl:=gZ Ux (.ret [(.l .i),.b]) [.tmp 2,.tmp 3] ["9jbKUX6ECd6l9GGoJ0LFTrBDLCrYd94c6yqsbZyxoY13qsf9yhKLrh7XQ4ECaBrzxCbgIoaJ6ntTb2nx","sXKkLuPxF3r6Fqol0rsGP7wxf"] [AFk] (Bg ABa) [.OK 11 (.tmp 10)]
def Rk(c:List UInt8)(a:Bo):AA (Bo×Bool):=bd (ABX a) λe=>br (e != c) (some ({},L3)) (some (a,L1))
def YZ(c:List UInt8)(a:List Int×Bool)(H:Bool):AA (Bo×Bool):=br H (some ({},L3)) (be a.1 0 λG=>br ((↑(g0 a.1):Int)==2) (be a.1 1 λY=>jn (Rk c) (Bo.mk G Y 0 0 0 0)) (br ((↑(g0 a.1):Int)==3) (be a.1 1 λe=>be a.1 2 λg=>jn (Rk c) (Bo.mk G 0 e 0 g 0)) (br ((↑(g0 a.1):Int)==6) (be a.1 0 λh=>be a.1 1 λj=>be a.1 2 λq=>be a.1 3 λy=>be a.1 4 λB=>be a.1 5 λE=>jn (Rk c) (Bo.mk h j q (w64 (y-1)) B E)) (jn (Rk c) (Bo.mk G 0 0 0 0 0)))))
def rC(a:List UInt8):AA (Bo×Bool):=br (It ((a.length:Int)>60)) (some ({},L3)) (bd (ABa a) λc=>br (!c.2) (jn (YZ a c) L1) (jn (YZ a c) ((↑(g0 c.1):Int)==0)))
def AFc:=gZ Ux (.ret [(.st 0),.b]) [.cell 2 (some 6),.tmp 3] ["55hrpcoF8u6jXVlAIc27Q2AyoXldeol0S5cdmMwXeDVTyezPH3FvzjJB00CifSwxprnri9265ZIErc1o","YygSSShlaNGMpnlpW6XdQCDM6NAYHyIz0G4B2SEIHk6sfrQupE7XXQnBnDu07uGLa7y2ryY6fTBcCx2G","ZnJSCeSJC8dRHy2Rm6mokVYgLHUfhNdK597PWX4zRftSxXNgnlByvlGIYlYdEg2IjGOyhA4"] [AFl,AFi] (Bg rC)
def Ya(j:List UInt8)(g:Int)(h:Int×Int->AA (Int×Int×Bool))(e a:Int)(q:Bool):AA (Int×Int×Bool):=br q (bd (at? j (w64 (g+a))) λc=>gd (¬w64 (7*a)<0) (br (It (w64 (↑(s3 c):Int)<128)) (bd (YR (w64 (e+px ((w64 (↑(s3 c):Int)).tmod 128) (w64 (7*a))))) λy=>br ((↑(g0 y):Int) != w64 (a+1)) (some (0,0,L3)) (some (w64 (e+px ((w64 (↑(s3 c):Int)).tmod 128) (w64 (7*a))),w64 (w64 (g+a)+1),L1))) (h (w64 (e+px ((w64 (↑(s3 c):Int)).tmod 128) (w64 (7*a))),w64 (a+1))))) (jn UQ ())
def UO(c:List UInt8)(e:Int)(g:Int×Int->AA (Int×Int×Bool))(j:Int×Int):AA (Int×Int×Bool):=let (h,a):=j;br (It (a<5)) (jn (Ya c e g h a) (It (w64 (e+a)<c.length))) (jn (Ya c e g h a) L3)
def jM(a:List UInt8)(c:Int):AA (Int×Int×Bool):=bd (C3 c 0 (w64 ((a.length:Int)-1))) λe=>br (!e) (some (0,0,L3)) (BK (UO a c) big (0,0))
def AFd:=gZ [.v (.l .u),.v .i] (.ret [.i,.i,.b]) [.tmp 4,.tmp 5,.tmp 6] ["PDoK3beBgMujbx28aF4Ag96dI4oqHCDURggJ9LpokpXui7bWgqrjZUJWJyfhhtmmIYbYtuzZJWoVkWUl","S5NjtWuqBf6i85krmWMA7KtaFEtxD8oRzagSqpK2B5n8lh5SdTPEWAJ1mIkR92JlamM19Dh5OSTChVEy","yOrP2dt4gk"] [F7,bh] (BR jM)
def jN(e:List UInt8)(h:List Int×Int->AA (List Int×Bool))(j:List Int×Int):AA ((List Int)×Bool):=let (c,g):=j;br (It (g<e.length)) (bd (jM e g) λa=>br (!a.2.2) (some ([],L3)) (gd (g0 c+[a.1].length<=lim) (h (c++[a.1],a.2.1)))) (jn Yh c)
def ABH(a:List UInt8):AA ((List Int)×Bool):=BK (jN a) big ([],0)
def AFe:=gZ Ux (.ret [(.l .i),.b]) [.tmp 2,.tmp 3] ["Fye61kMInHO8HdUqZGW4VW3I3YhVbAtRwr2lMyqglYWkq84SbzNgAp5gJyoR1XYlRrZvp4qoBWuSbref","eenEyR34gQ2Mpns36H"] [AFd] (Bg ABH) [.OK 11 (.tmp 10)]
def jO(a:Bo)(c:Bool):AA (Bo×Bool):=br c (some ({},L3)) (some (a,L1))
def Rl(e:List UInt8)(a:Bo):AA (Bo×Bool):=bd (AIY a) λc=>br (c==[]) (jn (jO a) L1) (jn (jO a) (c != e))
def Yb(e:List UInt8)(a:List Int×Bool)(E:Bool):AA (Bo×Bool):=br E (some ({},L3)) (be a.1 0 λc=>gd ((0:Int)<=1/\1<=(↑(g0 a.1):Int)) (gd (v8 1+(g0 a.1-v8 1)=g0 a.1) (gd ((an (g0 a.1-v8 1) (m0 (v8 1) a.1)).length+v8 5<=lim) (br (c==1) (be (an (g0 a.1-v8 1) (m0 (v8 1) a.1)++s4 (v8 5) 0) 0 λO=>be (an (g0 a.1-v8 1) (m0 (v8 1) a.1)++s4 (v8 5) 0) 1 λQ=>be (an (g0 a.1-v8 1) (m0 (v8 1) a.1)++s4 (v8 5) 0) 2 λg=>be (an (g0 a.1-v8 1) (m0 (v8 1) a.1)++s4 (v8 5) 0) 3 λh=>be (an (g0 a.1-v8 1) (m0 (v8 1) a.1)++s4 (v8 5) 0) 4 λj=>jn (Rl e) (Bo.mk c O Q (w64 (g-1)) h j)) (br (c==3) (be (an (g0 a.1-v8 1) (m0 (v8 1) a.1)++s4 (v8 5) 0) 0 λq=>be (an (g0 a.1-v8 1) (m0 (v8 1) a.1)++s4 (v8 5) 0) 1 λy=>jn (Rl e) (Bo.mk c 0 q 0 y 0)) (br (c==6) (jn (Rl e) (Bo.mk c 0 0 0 0 0)) (be (an (g0 a.1-v8 1) (m0 (v8 1) a.1)++s4 (v8 5) 0) 0 λB=>jn (Rl e) (Bo.mk c B 0 0 0 0))))))))
def ABI(c:List UInt8):AA (Bo×Bool):=bd (ABH c) λa=>br (!a.2) (jn (Yb c a) L1) (jn (Yb c a) ((↑(g0 a.1):Int)==0))
def AP8:=gZ Ux (.ret [(.st 0),.b]) [.cell 2 (some 6),.tmp 3] ["7CUFlTaQ5woebW5PQ0BvQ63v9ufXi5GI0ebxIfsotfU9AKO7vYbvGAilth5fLbBT88hADChQOdWPOCpZ","iYQCjyp4QFivYli1wz9c8AJRf62bCzYSW4gF3F5AJB8C2YINg9I5A6FjxPTOYkHb2tWZsIrmYAokrW82","aZfq0LTy2HJThmCtIUSLZYvXhG4UPAmzmIFRUq9nGXyyZChjnBRBlMAsYPsXmypbW0dXBJyPV3rpC1fu","6PE0nuJGTIIrdzq1eP1PUBNILW98ooDBEkNSGF"] [AFe,AQK] (Bg ABI) [.UA 28 .i (.tmp 27) (.k (.int .i64 5))]
def du(a c:Int):AA Int:=br (It (a<c)) (some a) (some c)
def bk:=gZ xp Dd DA ["9zinFf6ryW5LHyoehrLgZ7"] [] (BR du)
def jQ(g:List UInt8)(c j:Int)(a e:Int×Int×Bool)(h:Bool):AA (By×Bool):=br h (some ({},L3)) (some (By.mk e.1 (an ((w64 (a.2.1+a.1)).toNat-v8 e.2.1) (m0 (v8 e.2.1) (an (v8 j-c.toNat) (m0 c.toNat g)))) (w64 (w64 (c+a.2.1)+a.1)),L1))
def jP(g:List UInt8)(c h:Int)(a e:Int×Int×Bool)(j:Bool):AA (By×Bool):=br j (some ({},L3)) (gd (0<=e.2.1/\e.2.1<=w64 (a.2.1+a.1)/\w64 (a.2.1+a.1)<=(↑(an (v8 h-c.toNat) (m0 c.toNat g)).length:Int)) (gd (0<=w64 (a.2.1+a.1)/\w64 (a.2.1+a.1)<=(↑(an (v8 h-c.toNat) (m0 c.toNat g)).length:Int)) (bd (jc e.1 (an ((w64 (a.2.1+a.1)).toNat-v8 e.2.1) (m0 (v8 e.2.1) (an (v8 h-c.toNat) (m0 c.toNat g))))) λq=>br (q != an ((w64 (a.2.1+a.1)).toNat-0) (m0 0 (an (v8 h-c.toNat) (m0 c.toNat g)))) (jn (jQ g c h a e) L1) (jn (jQ g c h a e) (an ((w64 (a.2.1+a.1)).toNat-v8 e.2.1) (m0 (v8 e.2.1) (an (v8 h-c.toNat) (m0 c.toNat g)))==[])))))
def Yc(g:List UInt8)(c h:Int)(a:Int×Int×Bool)(j:Bool):AA (By×Bool):=br j (some ({},L3)) (bd (jl (an (v8 h-c.toNat) (m0 c.toNat g)) (w64 (a.2.1+4))) λe=>br (!e.2.2) (jn (jP g c h a e) L1) (jn (jP g c h a e) (It (e.2.1>w64 (a.2.1+a.1)))))
def ABJ(c:List UInt8)(a:Int):AA (By×Bool):=bd (C3 a 0 (c.length:Int)) λh=>br (!h) (some ({},L3)) (bd (du (c.length:Int) (w64 (a+80))) λe=>gd (0<=a/\a<=e/\e<=c.length) (bd (jl (an (v8 e-a.toNat) (m0 a.toNat c)) 0) λg=>br (!g.2.2) (jn (Yc c a e g) L1) (br (It (g.1>w64 ((↑(an (v8 e-a.toNat) (m0 a.toNat c)).length:Int)-g.2.1))) (jn (Yc c a e g) L1) (jn (Yc c a e g) (It (g.1<5))))))
def AP9:=gZ [.v .s,.v .i] (.ret [(.st 15),.b]) [.cell 4 (some 3),.tmp 5] ["1f3Djhgnmgh5SxyngvUWwGEtYwgWgJHdB4hnHcluDenxnopt5Pcz1Yjtanv99Cz2Cg1HuVgiPpv2cSOm","y9Dj1ZQr7JySGFTGfaJINh1612y7ULfx6EEL0gjk3KkQX0f3EFlQiZK7ifF3j16gIMI7f8sdhe1mOr3I","Boj4wl56jPLNHUrC2wbu7zDUgaNpZzQIcuIwTXLbCXIanSxnEgB2VFD1eIZzslQwhKCccjOjeQkNB9mO","1hzy0aMdFDaU8VEvU16n9RMkSZ68g6av9svxrYq6CnaiXlWTfycAvSnqZVgINzleTKphfoq"] [H6,bk,AFk,mX] (BR ABJ) [.OK 28 (.tmp 27)]
def jR(g:List UInt8)(e:List By×Int->AA (List By))(j:List By×Int):AA (List By):=let (c,h):=j;bd (ABJ g h) λa=>br (!a.2) (some c) (gd (g0 c+[a.1].length<=lim) (e (c++[a.1],a.1.Next)))
def rD(a:List UInt8):AA (List By):=BK (jR a) big ([],0)
def xE:=gZ Ux xy DY ["LQ9ZzeENnHfWViSvaWAZTSalpMTOOZqVVvMVSVnaynYWKuxMHuepMDlDZKQiljLOSgl0PaJ6JeD7Fem0"] [AP9] (Bg rD)
def jS(c:List By)(e:Int×Int->AA Int)(g a:Int)(h:Bool):AA Int:=br h (be c a λj=>e (j.Next,w64 (a+1))) (jn CT g)
def ABK(h:Int)(c:List By)(e:Int×Int->AA Int)(q:Int×Int):AA Int:=let (g,a):=q;br (It (a<(g0 c))) (be c a λj=>jn (jS c e g a) (It (j.Seq<=h))) (jn (jS c e g a) L3)
def AIT(a:BY)(c:Int):AA Int:=bd (rD a.Log.Data) λe=>BK (ABK c e) big (0,0)
def AQA:=gZ mi Dd DA ["6XK3ys33PiJEBtKVxvqckOovhhiRq00nGTk5fi4XJws19iYwWAovuPECRQnWkRVUO69ZjJjYfPjAZaQ8","xWiHAgNniE0g"] [xE] (BR AIT)
def jU(g:List UInt8)(c:Int)(a e:Int×Int×Bool)(h:Bool):AA (By×Bool):=br h (some ({},L3)) (some (By.mk e.1 (an ((an ((w64 (w64 (c+a.2.1)+a.1)).toNat-(w64 (c+a.2.1)).toNat) (m0 (w64 (c+a.2.1)).toNat g)).length-v8 e.2.1) (m0 (v8 e.2.1) (an ((w64 (w64 (c+a.2.1)+a.1)).toNat-(w64 (c+a.2.1)).toNat) (m0 (w64 (c+a.2.1)).toNat g)))) (w64 (w64 (c+a.2.1)+a.1)),L1))
def Yd(e:List UInt8)(c:Int)(a:Int×Int×Bool)(j:Bool):AA (By×Bool):=br j (some ({},L3)) (gd (0<=w64 (c+a.2.1)/\w64 (c+a.2.1)<=w64 (w64 (c+a.2.1)+a.1)/\w64 (w64 (c+a.2.1)+a.1)<=e.length) (bd (jM (an ((w64 (w64 (c+a.2.1)+a.1)).toNat-(w64 (c+a.2.1)).toNat) (m0 (w64 (c+a.2.1)).toNat e)) 4) λg=>br (!g.2.2) (some ({},L3)) (gd (0<=g.2.1/\g.2.1<=(↑(an ((w64 (w64 (c+a.2.1)+a.1)).toNat-(w64 (c+a.2.1)).toNat) (m0 (w64 (c+a.2.1)).toNat e)).length:Int)) (bd (AIZ g.1 (an ((an ((w64 (w64 (c+a.2.1)+a.1)).toNat-(w64 (c+a.2.1)).toNat) (m0 (w64 (c+a.2.1)).toNat e)).length-v8 g.2.1) (m0 (v8 g.2.1) (an ((w64 (w64 (c+a.2.1)+a.1)).toNat-(w64 (c+a.2.1)).toNat) (m0 (w64 (c+a.2.1)).toNat e))))) λh=>br (h==[]) (jn (jU e c a g) L1) (gd (0<=c/\c<=w64 (w64 (c+a.2.1)+a.1)/\w64 (w64 (c+a.2.1)+a.1)<=e.length) (jn (jU e c a g) (h != an ((w64 (w64 (c+a.2.1)+a.1)).toNat-c.toNat) (m0 c.toNat e))))))))
def ABL(c:List UInt8)(a:Int):AA (By×Bool):=bd (Og a (c.length:Int)) λg=>br (!g) (some ({},L3)) (gd (0<=a/\(a<=if L3=L1 then if w64 (a+5)>c.length then w64 (a+5) else (c.length:Int) else if w64 (a+5)<c.length then w64 (a+5) else (c.length:Int))/\(if L3=L1 then if w64 (a+5)>c.length then w64 (a+5) else (c.length:Int) else if w64 (a+5)<c.length then w64 (a+5) else (c.length:Int))<=c.length) (bd (jM (an ((if L3=L1 then if w64 (a+5)>c.length then w64 (a+5) else (c.length:Int) else if w64 (a+5)<c.length then w64 (a+5) else (c.length:Int)).toNat-a.toNat) (m0 a.toNat c)) 0) λe=>br (!e.2.2) (jn (Yd c a e) L1) (br (It (e.1<6)) (jn (Yd c a e) L1) (jn (Yd c a e) (It (e.1>w64 (w64 ((c.length:Int)-a)-e.2.1)))))))
def AQB:=gZ [.v .s,.v .i] (.ret [(.st 15),.b]) [.cell 4 (some 3),.tmp 5] ["1vujHuozON6qETAFXTVTckJ9OHR1279dxQcctFzedNf1c1WBdQog6KMr1mPvEYpBFX7YgvS05xt892EJ","1vQycZZE1T8LGDWAwqskITXPG3jrYMXA2p6Usvqoo3NDKcDbJMyEZ7ZHjn6hiI30XK2CDd5IICHQz69b","vjB3CN3vsmxPAbqhQt4UhJfanX3rrXBVWOU5Bs4xFMIcYCRfn7Pu7IGSt212Z7Gy9BVW2WI8SxUnpL2j","CwNTgAcu0yvZgP8A1Xm1EP7umqGiBX2nf6z9wZVL916tQuqMcCcoq1FswfVoTSogGKXFNZVj8RZFvfLv","En"] [Uu,AFd,AQL] (BR ABL) [.mm 27 false (.tmp 24) (.tmp 26),.OK 29 (.tmp 28),.OK 63 (.tmp 62)]
def jV(g:List UInt8)(e:List By×Int->AA (List By))(j:List By×Int):AA (List By):=let (c,h):=j;bd (ABL g h) λa=>br (!a.2) (some c) (gd (g0 c+[a.1].length<=lim) (e (c++[a.1],a.1.Next)))
def rF(a:List UInt8):AA (List By):=BK (jV a) big ([],0)
def AFf:=gZ Ux xy DY ["2lGQZdDB98o9sSq9nLGBJRqlXqzx0hXaUNAsZ7nlDjJBKexq1y0okYEY8Ypz2oHteZjyrSoyUWAjFQa"] [AQB] (Bg rF)
def Qf(j:Int)(c:List By)(h:Int×Int->AA Int)(q:Int×Int):AA Int:=let (e,a):=q;br (It (a<(g0 c))) (be c a λg=>br (It (g.Seq>j)) (jn CT e) (h (g.Next,w64 (a+1)))) (jn CT e)
def Pj(a:BY)(c:Int):AA Int:=bd (rF a.Log.Data) λe=>BK (Qf c e) big (0,0)
def GG(a:List By):AA (List By):=some a
def ABf(g:List By)(h:List Bo×Int->AA (List Bo))(q:List Bo×Int):AA (List Bo):=let (a,c):=q;br (It (c<g.length)) (bd (at? g c) λj=>bd (rC j.Body) λe=>br (!e.2) (jn HS a) (gd (g0 a+[e.1].length<=lim) (h (a++[e.1],w64 (c+1))))) (jn HS a)
def AIg(a:List By):AA (List Bo):=BK (ABf a) big ([],0)
def AQT:=gZ [.v (.l (.st 15))] (.ret [(.l (.st 0))]) DY ["4U2yCh5iIKpmK7HekwNEZfOXAn9iXXove3JPbHd3STfrnTlSpqbzrX7YgjnHCvyXPmrxbemvouFBxPqW","i9OppocoTrsSteDewN0"] [AFc] (Bg AIg)
def ABg(g:List By)(h:List Bo×Int->AA (List Bo))(q:List Bo×Int):AA (List Bo):=let (a,c):=q;br (It (c<g.length)) (bd (at? g c) λj=>bd (ABI j.Body) λe=>br (!e.2) (jn HS a) (gd (g0 a+[e.1].length<=lim) (h (a++[e.1],w64 (c+1))))) (jn HS a)
def AIh(a:List By):AA (List Bo):=BK (ABg a) big ([],0)
def AQU:=gZ [.v (.l (.st 15))] (.ret [(.l (.st 0))]) DY ["1a4sp84jQ8M81LXL8V9WqrLrUt4cekAzDmReLEMS1CkV40iibgPQi18CSabmC4EuHjtMsm5aE5iuWQ2i","7L25epEhrQvWkAeVGWasfzLwsC3RzVcjH"] [AP8] (Bg AIh)
def AOy(a:List UInt8):AA Bool:=some (It ((a.length:Int)>1048576))
def AQV:=gZ xq Dk DY ["Wo1mwNRAeDtiv"] [] (Bg AOy)
def ABh(a:List UInt8)(c:Int):AA AP:=some (AP.mk a 0 c)
def jw(a:List UInt8)(g:Int×Int->AA AP)(c e:Int)(h:Bool):AA AP:=br h (bd (at? a e) λj=>g (iB (w64 (w64 (w64 (c*131)+w64 (↑(s3 j):Int))+7)) 1073741823,w64 (e+1))) (jn (ABh a) c)
def ABi(c:List UInt8)(e:Int×Int->AA AP)(h:Int×Int):AA AP:=let (g,a):=h;br (It (a<c.length)) (jn (jw c e g a) (It (a<4000))) (jn (jw c e g a) L3)
def AIi(a:List UInt8):AA AP:=BK (ABi a) big (w64 (28285+(a.length:Int)),0)
def AQW:=gZ xq (.ptr 0 (.st 17)) [.bx 2] ["2xeFqeU2cQMoDCyIWKq5bHw8JN4JL4OeeJRcdXODEv2ZUxNkeeQCD41UW2NrWtUz4LxBzaQXc7w6uo45","UbWfpR8szNjsKK8i5X"] [] (Bg AIi)
def jy(e:Int×AP):AA (Int×AP):=let (a,c):=e;some (a,c)
def Yj(a:AP):AA (Int×AP):=br (It (a.i_<a.b_.length)) (bd (at? a.b_ a.i_) λc=>jn jy (iB (w64 (iB (Xs (EJ (w64 (w64 (a.h_*6364136223846793005)+1442695040888963407)) 33) (EJ (w64 (w64 (a.h_*6364136223846793005)+1442695040888963407)) 45)) 255+w64 (↑(s3 c):Int))) 255,AP.mk a.b_ (w64 (a.i_+1)) (w64 (w64 (a.h_*6364136223846793005)+1442695040888963407)))) (jn jy (iB (Xs (EJ (w64 (w64 (a.h_*6364136223846793005)+1442695040888963407)) 33) (EJ (w64 (w64 (a.h_*6364136223846793005)+1442695040888963407)) 45)) 255,{a with h_:=w64 (w64 (a.h_*6364136223846793005)+1442695040888963407)}))
def AFn:=gZ Ga Dd DY ["I2eyzt3X1mk20tfDY7vN6CgBdvJWgFHFIx72tBspb4vVwztWcbY2pqgpXlj8bfopnvbazqnWyjHmURtk","hJ9hEfKaA0vUTVtRwU3Y4oqemSvdqEfsvjLRFwzOKp1JvGpQ0XzUyJ73SQagrrTp3Bq8kcsV7gh"] [] (Bg Yj)
def B7(c:AP)(a:Int):AA (Int×AP):=br (It (a<=0)) (some (0,c)) (br (It (a<=256)) (bd (Yj c) λe=>gd (a≠0) (some (s0 e.1 a,e.2))) (bd (Yj c) λg=>bd (Yj g.2) λh=>bd (Yj h.2) λj=>bd (Yj j.2) λq=>gd (a≠0) (some ((w64 (w64 (w64 (w64 (g.1*16777216)+w64 (h.1*65536))+w64 (j.1*256))+q.1)).tmod a,q.2))))
def Er:=gZ AGS Dd DA ["LGcnOxVS9J2yu0kVzbO43fNtrWt8Yb8JEOElPh44Qu5B0kFnKKI0eJ2UayYeWMoVEv0f09BfN0LdHoTK","HyPrqHdsLt"] [AFn] (BR B7)
def ABj(e:AP×Ad):AA (Ad×AP):=let (a,c):=e;some (c,a)
def ABk(j:Int×AP)(h:Int×AP×Ad->AA (Ad×AP))(q:Int×AP×Ad):AA (Ad×AP):=let (e,g,a):=q;br (It (e<w64 (1+j.1))) (bd (B7 g 12) λc=>gd (a.AZ.length+[w64 (2+c.1)].length<=lim) (h (w64 (e+1),c.2,{a with AZ:=a.AZ++[w64 (2+c.1)]}))) (jn ABj (g,a))
def ri(E:AP):AA (Ad×AP):=bd (B7 E 5) λa=>bd (B7 a.2 9) λc=>bd (B7 c.2 6) λe=>bd (B7 e.2 5) λg=>bd (B7 g.2 4) λh=>bd (B7 h.2 4) λj=>bd (B7 j.2 4) λq=>bd (B7 q.2 3) λy=>bd (B7 y.2 3) λB=>BK (ABk B) big (0,B.2,Ad.mk [] (w64 (1+a.1)) (w64 (2+c.1)) (w64 (1+e.1)) (w64 (1+g.1)) (w64 (1+h.1)) j.1 (w64 (1+q.1)) (w64 (1+y.1)))
def xK:=gZ Ga AGV AGX ["Ahb6d43CKvDLI4dmsT5Mx1hEnsCOYXgg4FwJWqnCDDdchRXop6NlqYS0ksO6cMAajkHRbFQOP9D0CyIH","8BgUqss1FadjKVUdCQUBETN2q0Y3EnJ78MCKsIozcmWfVSivjnenK5LnlOWjLhBhvEabw0ndyVxZI5Ft","JDlPKc"] [Er] (Bg ri)
def KB(c:AP)(e:Int):AA (Bool×AP):=bd (B7 c e) λa=>some (a.1==0,a.2)
def NJ:=gZ AGS Dk DA ["7seVIz8EsoDly8"] [Er] (BR KB)
def Abm:YF:=⟨[],[.b (.st 17),.v (.st 1),.v .i],[],.ret [(.st 2)],[.cell 6 (some 10)],dY ["BTMfWAl72QxkVypcfYO0icNMy54Nb1GROv6HC90rwphaDEKnLjCh0b79RHGrj2Tfal17abTF0Z3UpCZP","84JXJ4jXpg7y8nUsHSGftI7gr5ZDEHzDMC18VIigwnV57GtQ1zts1x6dMeBzPaSZVrUNRFgrO3n2fqIu","5kHXIcuKeqGCTPgVVNqS5K66FAJnyOYluM82qQd5tQhK319S1wnHkarw4H0Rx4FggqrdALVqguGdMa0Z","AcojHkMfbcxQHytvtHmHiN8j4mxxw1JvPCUzRvWy5Ki9OZOfrU0Sf6axStx3F6DQbENYyauGhK7TDUp0","7C4exNZXbC7X0gJzpud23D3xFtpdcnI7P99XCkQ5VMpojMp2N24CMtFJWxQgVVetdTbPk3lTNSu3we4m","l4dJziawxbCiGRfBxJUHbexH5mg24gWGEMQ17JD6K5fzyAzoreIBwcvSsfkRP1w6rR4E5Wj8n7QeXJ2B","u5qPiuqHOaqLdI8FXoClblOjlSEDsNeMzKzq8L5QayQEtoflN0x766djPzI1M3G4zRinKwIeJ59skbwW","QH4E2VUTxt00aJfJGOxyihgRFaSVr3Ck"] [Er,H6,NJ]⟩
def He(e:AP×AR):AA (AR×AP):=let (a,c):=e;some (c,a)
def UU(h:Ad)(j:AP×AR):AA (AR×AP):=let (g,a):=j;bd (KB g 4) λc=>br c.1 (bd (B7 c.2 (h.AZ.length:Int)) λe=>jn He (e.2,{a with Bs:=e.1})) (jn He (c.2,a))
def Yk(g:Ad)(j:Int)(q:AP×AR):AA (AR×AP):=let (h,a):=q;bd (KB h 3) λc=>br c.1 (bd (B7 c.2 (w64 (j+g.CD))) λe=>jn (UU g) (e.2,{a with State:=2,DK:=w64 (1+e.1)})) (jn (UU g) (c.2,a))
def ABl(p0:AP)(a:Ad)(E:Int):AA (AR×AP):=bd (B7 p0 12) λe=>bd (B7 e.2 (a.AZ.length:Int)) λg=>bd (B7 g.2 a.BL) λh=>bd (B7 h.2 a.Cj) λj=>bd (B7 j.2 40) λq=>bd (B7 q.2 a.Cr) λc=>bd (B7 q.2 a.Cr) λx7=>Jm c.2 x7.2 (ev8 (w64 (1+e.1)) g.1 ((-1):Int) (w64 (1+h.1)) j.1 (0:Int) (w64 (1+q.1)) (1:Int) (eqv (d:=Int) 0 0 (eqv c.1 x7.1 (bd (B7 j.2 40) λx8=>bd (B7 x8.2 a.Cr) λx9=>Jm c.2 x9.2 (ev6 (w64 (1+e.1)) g.1 ((-1):Int) (w64 (1+h.1)) j.1 (0:Int) (eqv (w64 (1+q.1)) (w64 (1+x8.1)) (ev2 (1:Int) (0:Int) (eqv c.1 x9.1 (bd (B7 h.2 a.Cj) λG=>bd (B7 G.2 40) λH=>bd (B7 H.2 a.Cr) λI=>Jm c.2 I.2 (ev4 (w64 (1+e.1)) g.1 ((-1):Int) (w64 (1+h.1)) (eqv j.1 G.1 (eqv (d:=Int) 0 0 (eqv (w64 (1+q.1)) (w64 (1+H.1)) (ev2 (1:Int) (0:Int) (eqv c.1 I.1 (bd (B7 g.2 a.BL) λJ=>bd (B7 J.2 a.Cj) λL=>bd (B7 L.2 40) λO=>bd (B7 O.2 a.Cr) λQ=>Jm c.2 Q.2 (ev3 (w64 (1+e.1)) g.1 ((-1):Int) (eqv (w64 (1+h.1)) (w64 (1+J.1)) (eqv j.1 L.1 (eqv (d:=Int) 0 0 (eqv (w64 (1+q.1)) (w64 (1+O.1)) (ev2 (1:Int) (0:Int) (eqv c.1 Q.1 (bd (B7 e.2 (a.AZ.length:Int)) λS=>bd (B7 S.2 a.BL) λX=>bd (B7 X.2 a.Cj) λY=>bd (B7 Y.2 40) λZ=>bd (B7 Z.2 a.Cr) λx21=>Jm c.2 x21.2 (eqv (w64 (1+e.1)) (w64 (1+e.1)) (eqv g.1 S.1 (eqv (d:=Int) (-1) (-1) (eqv (w64 (1+h.1)) (w64 (1+X.1)) (eqv j.1 Y.1 (eqv (d:=Int) 0 0 (eqv (w64 (1+q.1)) (w64 (1+Z.1)) (ev2 (1:Int) (0:Int) (eqv c.1 x21.1 (bd (B7 p0 12) λx22=>bd (B7 x22.2 (a.AZ.length:Int)) λx23=>bd (B7 x23.2 a.BL) λx24=>bd (B7 x24.2 a.Cj) λx25=>bd (B7 x25.2 40) λx26=>bd (B7 x26.2 a.Cr) λx27=>Jm c.2 x27.2 (eqv (w64 (1+e.1)) (w64 (1+x22.1)) (eqv g.1 x23.1 (eqv (d:=Int) (-1) (-1) (eqv (w64 (1+h.1)) (w64 (1+x24.1)) (eqv j.1 x25.1 (eqv (d:=Int) 0 0 (eqv (w64 (1+q.1)) (w64 (1+x26.1)) (ev2 (1:Int) (0:Int) (eqv c.1 x27.1 (bd (C3 E 0 10000000) λx28=>br x28 (bd (B7 c.2 (w64 (E+1))) λy=>bd (KB y.2 3) λB=>br B.1 (bd (B7 B.2 (w64 (w64 (E+a.Rest)+1))) λx31=>jn (Yk a E) (x31.2,AR.mk (w64 (1+e.1)) g.1 (-1) (w64 (1+h.1)) j.1 y.1 (w64 (1+q.1)) 1 x31.1 c.1)) (jn (Yk a E) (B.2,AR.mk (w64 (1+e.1)) g.1 (-1) (w64 (1+h.1)) j.1 y.1 (w64 (1+q.1)) 1 0 c.1))) (jn (UU a) (c.2,AR.mk (w64 (1+e.1)) g.1 (-1) (w64 (1+h.1)) j.1 0 (w64 (1+q.1)) 1 0 c.1))))))))))))))))))))))))))))))))))))))))))))))
def AFo:GF:=Abm.gf rfl rfl (λa=>ABl a.1 a.2.1 a.2.2.1) (λa=>by kernel_rfl)
def jz(c:List AR)(g:Int)(e:Int->AA Int)(a:Int):AA Int:=br (It (a<c.length)) (bd (at? c a) λh=>br (h.Id==g) (some a) (e (w64 (a+1)))) (jn HH ())
def Yl(a:List AR)(c:Int):AA Int:=BK (jz a c) big 0
def mZ:=gZ RG Dd DA ["9B1pKzgZNMkhT5B3Q39hKOFdLVug0DI9n3LmbqeBCQ4ov2nlz"] [] (BR Yl)
def Abn:YF:=⟨[],[.v (.st 8),.v (.st 2)],[],.ret [.b],[.tmp 4],dY ["3BBa9cBi1tjFjNoUAcaItOBkoKawO5EA3YyTgNBtJXaXhImHwDiqfWHGzjZPdEGjuliwoI7IfQwJVQxx","9lbVMAhwofuaLsyoJbvOISuwtDwUQqbKvdDWDgR8fGFFaPR55EN6qZavGkNbvbqfzzvHBWbSdpWx3qgQ","GO1GBTLSRztjDRsTH"] [AC5,AC6]⟩
def j6(c:AF)(e:AR)(g:Int->AA Bool)(a:Int):AA Bool:=br (It (a<c.AI.length)) (bd (at? c.AQ.AZ a) λh=>bd (AE9 ([]++c.AG++[e]) a) λj=>bd (AA0 ([]++c.AG++[e]) a) λq=>br (It (w64 (j+q)>h)) (some L3) (g (w64 (a+1)))) (jn EZ ())
def AIj(a:AF)(c:AR):AA Bool:=gd (0+a.AG.length<=lim) (gd (([]++a.AG).length+[c].length<=lim) (gd (0+a.AG.length<=lim) (gd (([]++a.AG).length+[c].length<=lim) (eqv ([]++a.AG++[c]) ([]++a.AG++[c]) (gd (0+a.AG.length<=lim) (gd (([]++a.AG).length+[c].length<=lim) (eqv ([]++a.AG++[c]) ([]++a.AG++[c]) (BK (j6 a c) big 0))))))))
def AQX:GF:=Abn.gf rfl rfl (λa=>AIj a.1 a.2.1) (λa=>by kernel_rfl)
def Abo:YF:=⟨[],[.v (.l (.st 2)),.v (.st 2)],[],.ret [(.l (.st 2))],[.tmp 4],dY ["2zAc9xxxa7tUPeQF9Ke3FSgwg8otyGkmtFB0gZnP4OynSgSTXc8bPsoWE6juk72lF3gFGroJbetc08VB","ipL4DOLQgKdFAIcchQ8sE8TLTnV0H5rtf3LlxHGomuKKCJ7r7KceTCdt6z83g0h0mQVVODANZXzv24mc","Y6YhOxziz6gjoreUWgiLUB8zBHW0DdEpWPwTb4qxKiSKmViQ25AMlihHGz"] [mZ]⟩
def UX(c:List AR)(e:AR)(a:Int):AA (List AR):=gd (0<=a/\a<=c.length) (gd (0+(an a.toNat c).length<=lim) (gd (([]++an a.toNat c).length+[e].length<=lim) (gd (0+(an a.toNat c).length<=lim) (gd (([]++an a.toNat c).length+[e].length<=lim) (eqv ([]++an a.toNat c++[e]) ([]++an a.toNat c++[e]) (gd (0+(an a.toNat c).length<=lim) (gd (([]++an a.toNat c).length+[e].length<=lim) (eqv ([]++an a.toNat c++[e]) ([]++an a.toNat c++[e]) (gd (0<=a/\a<=c.length) (gd (([]++an a.toNat c++[e]).length+(m0 a.toNat c).length<=lim) (some ([]++an a.toNat c++[e]++m0 a.toNat c))))))))))))
def UW(e:List AR)(g:AR)(c:Int->AA (List AR))(a:Int)(h:Bool):AA (List AR):=br h (c (w64 (a+1))) (jn (UX e g) a)
def Ym(a:List AR)(e:AR)(g:Int->AA (List AR))(c:Int):AA (List AR):=br (It (c<a.length)) (bd (at? a c) λh=>jn (UW a e g c) (It (h.Id<e.Id))) (jn (UW a e g c) L3)
def Wb(a:List AR)(e:AR):AA (List AR):=bd (Yl a e.Id) λc=>gd (0+a.length<=lim) (br (It (c>=0)) (be ([]++a) c λh=>some (([]++a).set (v8 c) e)) (BK (Ym a e) big 0))
def bq:GF:=Abo.gf rfl rfl (λa=>Wb a.1 a.2.1) (λa=>by kernel_rfl)
def j7(h:A2)(a:Bf)(c:A2)(j:Bool):AA (A2×Bool):=br j (some (c,L3)) (be c.Av (a.At.tmod 9) λq=>bd (ALm q a) λg=>be c.Av (a.At.tmod 9) λG=>bd (pc (A2.mk (c.Av.set (a.At.tmod 9).toNat g))) λy=>br (!y) (bd (jX h) λe=>some (e,L3)) (some (A2.mk (c.Av.set (a.At.tmod 9).toNat g),L1)))
def Yn(a:A2)(c:Bf):AA (A2×Bool):=bd (jX a) λe=>bd (pc a) λg=>br (!g) (jn (j7 a c e) L1) (jn (j7 a c e) (It (c.At<1)))
def bu:=gZ xt cE yF ["2jcTFFOoopJ7eBpawG9ATpHQtAeZaqqW4bLGsN4i4vjFSFh1rOMId8zu01wDvoIHWaXYuGO2CIRfuC19","KgOeI4zdutjprUWSMl7S8Dlfi2BE3yTjcU53D"] [xF,se,AKN] (BR Yn)
def ABm(y:Ad)(j:List AR)(h B E:Int)(G:A2):AA Ak:=bd (AE9 j h) λa=>bd (AA0 j h) λe=>bd (at? y.AZ h) λc=>bd (Pu e (w64 (w64 (c-a)-E))) λg=>bd (AFB y j h B) λq=>some (Ak.mk (BO.mk c (w64 (w64 (c-a)-g)) a g e) q G)
def j8(h:Ad)(j:List AR)(q y B:Int)(c:List Bf)(g:Int×A2->AA Ak)(H:Int×A2):AA Ak:=let (a,e):=H;br (It (a<(g0 c))) (be c a λE=>bd (Yn e E) λG=>g (w64 (a+1),G.1)) (jn (ABm h j q y B) e)
def AIk(e:Ad)(a:List AR)(c g h:Int):AA Ak:=bd jW λj=>bd (AFD a c) λq=>BK (j8 e a c g h q) big (0,j)
def AQY:=gZ [.v (.st 1),.v (.l (.st 2)),.v .i,.v .i,.v .i] mo [.cell 10 (some 7)] ["inGyOUQcwPRjlXDdkuxL1UMZeRvQPeGXhwc96cP1aMd4YrL3tQ9o6GqU7oo8J4KwG3f4VIomMJYer6PS","1Nt2Cu4fWWHMGozPIAr56FD06XKTrHawxkY7C8tX8bWl4qBu3OKw71vHmAeuTFMO2m9QPvcwfvuGh9yH","TkqyP6cfJFH2gCaYB762lPYn1cj3OwJ025BJZL6mKzuo9NNA49wGb7NA"] [mW,AKP,bu,AC5,AC6,eS,ADB] (AHi AIk)
def Tz(a:List Int)(c:Int):AA (List Int):=gd (0+a.length<=lim) (bd (ALh a c) λe=>br e (some ([]++a)) (gd (([]++a).length+[c].length<=lim) (some ([]++a++[c]))))
def XJ:=gZ si P1 DA ["2S4nuYRONvulpyLojGa0o869NP2AuTYDUj0m0xj"] [AKK] (BR Tz)
def j9(g:Int×Int×AP×AF->AA (AF×AP))(h:Int)(j:Int×AP×AF):AA (AF×AP):=let (a,c,e):=j;g (a,w64 (h+1),c,e)
def UY(j:Int×Int×AP×AF->AA (AF×AP))(q y:Int)(c:AF)(a:Int×AP)(e:AR)(g:Bool):AA (AF×AP):=br g (jn (j9 j y) (w64 (q+a.1),a.2,c)) (bd (Wb c.AG e) λh=>jn (j9 j y) (w64 (q+a.1),a.2,{c with A3:=w64 (e.A3+1),AG:=h}))
def Yo(E:Ad×AP)(g:Int×Int×AP×AF->AA (AF×AP))(h j:Int)(e:AF)(c:Int×AP)(a:AR):AA (AF×AP):=bd (Yl e.AG a.Id) λq=>br (It (q>=0)) (jn (UY g h j e c a) L1) (bd (iT e.AG a.Ab) λy=>br (It (y>=E.1.Room)) (jn (UY g h j e c a) L1) (bd (AIj e a) λB=>jn (UY g h j e c a) (!B)))
def Rq(a:Int×AP×AF->AA (AF×AP))(c:Int)(h:AP×AF):AA (AF×AP):=let (e,g):=h;a (w64 (c+1),e,g)
def Fv(e:AP×AF):AA (AF×AP):=let (a,c):=e;some (c,a)
def ABq(q:Ad×AP)(g:Int×AP×AF->AA (AF×AP))(E:Int×AP×AF):AA (AF×AP):=let (c,h,a):=E;br (It (c<a.BI.length)) (bd (KB h 3) λe=>br e.1 (bd (B7 e.2 (q.1.AZ.length:Int)) λj=>be a.BI c λB=>jn (Rq g c) (j.2,{a with BI:=a.BI.set (v8 c) j.1})) (jn (Rq g c) (e.2,a))) (jn Fv (h,a))
def ABn(e:Ad×AP)(g:AP×AF):AA (AF×AP):=let (a,c):=g;BK (ABq e) big (0,a,c)
def ABp(B:Ad×AP)(g:Int×AP×AF->AA (AF×AP))(H:Int×AP×AF):AA (AF×AP):=let (c,h,a):=H;br (It (c<a.AI.length)) (bd (B7 h 6) λj=>bd (AIk B.1 a.AG c a.Now j.1) λq=>be a.AI c λG=>bd (KB j.2 2) λe=>br e.1 (bd (Tz a.BM c) λy=>jn (Rq g c) (e.2,{a with AI:=a.AI.set (v8 c) q,BM:=y})) (jn (Rq g c) (e.2,{a with AI:=a.AI.set (v8 c) q}))) (jn (ABn B) (h,a))
def kC(e:Ad×AP)(g:AP×AF):AA (AF×AP):=let (a,c):=g;BK (ABp e) big (0,a,c)
def ABo(q:Ad×AP)(H:Int×AP)(E:Int×Int×AP×AF->AA (AF×AP))(I:Int×Int×AP×AF):AA (AF×AP):=let (y,B,G,c):=I;br (It (B<H.1)) (bd (ABl G q.1 c.Now) λa=>bd (B7 a.2 12) λe=>bd (B7 e.2 2) λg=>bd (B7 g.2 4) λh=>bd (du (w64 (y+h.1)) c.Now) λj=>br (a.1.Bs==a.1.Ab) (jn (Yo q E y B c h) {a.1 with Id:=w64 (1+e.1),Bs:=-1,Since:=j,A3:=w64 (c.A3+g.1)}) (jn (Yo q E y B c h) {a.1 with Id:=w64 (1+e.1),Since:=j,A3:=w64 (c.A3+g.1)})) (jn (kC q) (G,c))
def AIl(h:AP):AA (AF×AP):=bd (ri h) λc=>bd (rG c.1) λa=>bd (B7 c.2 20) λe=>bd (B7 e.2 9) λg=>BK (ABo c g) big (0,0,g.2,{a.1 with Now:=e.1})
def AQZ:=gZ Ga P2 AGa ["geA2SmQGUB9p8fS0gdWAL34k1rbmY8Ptso59GbBjn9SLYVcul5luysLpUTV1NDOgmVD9EjFRoLNkWwS4","9CvAiEV3HMlxAm6Qx5wH7jG7jRKOP4Gsa13XPNZnRzgIR1D4ThOLGkPXnssu3hvCi7oMm7Bmb8auPsvD","wJ3PP8pUFHl3xRXgBbNxKGXEwXEkg5oS8fO0fFmmkJmQ7Se1zOIfNdstf6JAHDGn2Wi0H6vM1se3DnHJ","wN4AorotT0S2c9YfyK3UGFce6bqdAwOdkZxCRdHnj0pIcxxpc7wgh02hDjk4LzpXNg3Gzceer44NFnB5","a286Q5uJObIwL72ruxmbiu8KqwXxVoLqokch3FR3VLXHBR6HhmEmGAwBwiEgzpTbCD1sVeLHTibFsSAe","3yJMdrsaAWiwTSo04e5NkUEIBs6EAlFbenIZ1gqVUTdnttUFTAyUYBEeHdZxfhyRoQ00QdfSXChF7v5N","y"] [xK,AFg,Er,AFo,bk,mZ,AC7,AQX,bq,AQY,NJ,XJ] (Bg AIl)
def Abp:YF:=⟨[],[.b (.st 17),.v (.st 8)],[],.ret [(.st 0)],[.cell 4 (some 6)],dY ["CjGzsQ0sSKGqACyPGzgSmSajCuyUgJ27AE6mwQOAo5LBZLgJAcB4mWAlb6y2r8xhOMbyW8S4lREXbhBE","rIrfTbM4MjN4m05xY7SxpukQk77Rx44MRgjZIWeoib7maxWqXO8Mhz0woN1ikUTN7Ilkle6WuEILfkym","rWFhjSAkxqZAt35VoUaToY6LNkESaq8lcEaIqfemPzVLcBWP9a8BzpGIPKhaOosqG28xba3LUhqxbxlx","0ReipOJBYTAMs4nAaTdL9Qv7KUaymTUH2QX3ne06tZ2iDKZnMY22vyVO7JC23cMcv2C8YZtmimBDUzGk","nTGAdzubDrgMO3JEiMKrypYyWlujWO7W2fBz1XlaB3yZoGXucGFyF90ZkYsr8IqwahtXbcN9G0I2VO20","60iIPkPlCCuz4j4gfoRDvXUGSwzIr1UXar8O0RI3DXwD1AYrJBSQZkGo7L06ehQEqdlBbHjesli1pGkN","uwiodLihgtyt6TtUIWq6U8Ea5uACstFuyyFp5DS43I9x17JfX4IsLG7Ce7CWbn4InfVBgrF7SdaZkmJv","UFV2eDSOPiPqxJ3vk4zycEHK2r8NqpGMcsVLdHb0mD4SUhO5xvcsaw2uNC4ey8FFKDLMFqUutEGxzhEd","BkhdwsuhIFjWynOM3bo0fWjoO9E2BP7TZQnqHejYpEb1irbTzat8oQ96hqHEiYSrXmr70HNw7dE8tliz","f7OxfL1V1vw"] [Er,NJ,eS]⟩
def KC(e:AP×Bo):AA (Bo×AP):=let (a,c):=e;some (c,a)
def Ys(y:AF)(q B:Int)(a:Int×AP)(h:Bool):AA (Bo×AP):=br h (bd (B7 a.2 B) λc=>bd (B7 c.2 4) λe=>some (Bo.mk 3 0 c.1 0 (w64 (1+e.1)) 0,e.2)) (br (a.1==7) (some (Bo.mk 4 q 0 0 0 0,a.2)) (br (a.1==8) (some (Bo.mk 5 q 0 0 0 0,a.2)) (br (a.1==9) (some (Bo.mk 6 0 0 0 0 0,a.2)) (bd (Pu 1 y.AQ.Da) λj=>bd (B7 a.2 j) λg=>some (Bo.mk 7 g.1 0 0 0 0,g.2)))))
def Rr(j:AF)(v7 y:Int)(h:Int×AP)(v11:Bool):AA (Bo×AP):=br v11 (bd (B7 h.2 14) λg=>bd (B7 g.2 y) λc=>bd (Pu 1 j.AQ.BL) λB=>bd (B7 c.2 B) λe=>bd (Pu 1 j.AQ.Cj) λE=>bd (B7 e.2 E) λa=>bd (B7 e.2 E) λG=>Jm a.2 G.2 (ev5 (1:Int) (w64 (1+g.1)) c.1 ((-1):Int) (w64 (1+e.1)) (eqv a.1 G.1 (bd (Pu 1 j.AQ.Cj) λx19=>bd (B7 e.2 x19) λH=>Jm a.2 H.2 (ev5 (1:Int) (w64 (1+g.1)) c.1 ((-1):Int) (w64 (1+e.1)) (eqv a.1 H.1 (bd (B7 c.2 B) λI=>bd (Pu 1 j.AQ.Cj) λx22=>bd (B7 I.2 x22) λJ=>Jm a.2 J.2 (ev4 (1:Int) (w64 (1+g.1)) c.1 ((-1):Int) (eqv (w64 (1+e.1)) (w64 (1+I.1)) (eqv a.1 J.1 (bd (Pu 1 j.AQ.BL) λx24=>bd (B7 c.2 x24) λL=>bd (Pu 1 j.AQ.Cj) λx26=>bd (B7 L.2 x26) λO=>Jm a.2 O.2 (ev4 (1:Int) (w64 (1+g.1)) c.1 ((-1):Int) (eqv (w64 (1+e.1)) (w64 (1+L.1)) (eqv a.1 O.1 (bd (B7 g.2 y) λQ=>bd (Pu 1 j.AQ.BL) λx29=>bd (B7 Q.2 x29) λS=>bd (Pu 1 j.AQ.Cj) λx31=>bd (B7 S.2 x31) λX=>Jm a.2 X.2 (ev2 (1:Int) (w64 (1+g.1)) (eqv c.1 Q.1 (eqv (d:=Int) (-1) (-1) (eqv (w64 (1+e.1)) (w64 (1+S.1)) (eqv a.1 X.1 (bd (B7 h.2 14) λY=>bd (B7 Y.2 y) λZ=>bd (Pu 1 j.AQ.BL) λx35=>bd (B7 Z.2 x35) λx36=>bd (Pu 1 j.AQ.Cj) λx37=>bd (B7 x36.2 x37) λx38=>Jm a.2 x38.2 (eqv (d:=Int) 1 1 (eqv (w64 (1+g.1)) (w64 (1+Y.1)) (eqv c.1 Z.1 (eqv (d:=Int) (-1) (-1) (eqv (w64 (1+e.1)) (w64 (1+x36.1)) (eqv a.1 x38.1 (bd (KB a.2 3) λq=>br q.1 (bd (B7 q.2 y) λx40=>jn KC (x40.2,Bo.mk 1 (w64 (1+g.1)) c.1 x40.1 (w64 (1+e.1)) a.1)) (jn KC (q.2,Bo.mk 1 (w64 (1+g.1)) c.1 (-1) (w64 (1+e.1)) a.1)))))))))))))))))))))))))))))) (br (h.1==4) (some (Bo.mk 2 v7 0 0 0 0,h.2)) (br (h.1==5) (jn (Ys j v7 y h) (h.1==5)) (jn (Ys j v7 y h) (h.1==6))))
def Yr(c:AF)(j:Int×AP):AA (Bo×AP):=let (e,h):=j;bd (Pu 1 (c.AQ.AZ.length:Int)) λg=>bd (B7 h 12) λa=>br (a.1==0) (jn (Rr c e g a) (a.1==0)) (br (a.1==1) (jn (Rr c e g a) (a.1==1)) (br (a.1==2) (jn (Rr c e g a) (a.1==2)) (jn (Rr c e g a) (a.1==3))))
def Yq(a:AF)(h:Int×AP)(q:Bool×AP):AA (Bo×AP):=let (g,c):=q;br g (bd (B7 c (a.AG.length:Int)) λe=>bd (at? a.AG e.1) λj=>jn (Yr a) (j.Id,e.2)) (jn (Yr a) (w64 (1+h.1),c))
def Yp(g:AP)(c:AF):AA (Bo×AP):=bd (B7 g 12) λa=>br (It ((c.AG.length:Int)>0)) (bd (KB a.2 3) λe=>jn (Yq c a) (!e.1,e.2)) (jn (Yq c a) (L3,a.2))
def ma:GF:=Abp.gf rfl rfl (λa=>Yp a.1 a.2.1) (λa=>by kernel_rfl)
def Nr(e:AP)(a:List Int):AA (Int×AP):=bd (B7 e (a.length:Int)) λc=>bd (at? a c.1) λg=>some (g,c.2)
def ON:=gZ [.b (.st 17),.v (.l .i)] Dd DA ["3dIknBDk63ab4b6ewajK"] [Er] (BR Nr)
def AIm(g:AP)(h:AF):AA (Bo×AP):=bd (Yp g h) λa=>bd (Nr a.2 ([-1,0,1,4,7,61,1000,9999,10000,9223372036854775807,-9223372036854775808])) λe=>bd (B7 e.2 20) λc=>br (c.1==0) (jn KC (c.2,{a.1 with Kind:=e.1})) (br (c.1==1) (jn KC (c.2,{a.1 with Id:=e.1})) (br (c.1==2) (jn KC (c.2,{a.1 with Ab:=e.1})) (br (c.1==3) (jn KC (c.2,{a.1 with Bs:=e.1})) (br (c.1==4) (jn KC (c.2,{a.1 with BL:=e.1})) (br (c.1==5) (jn KC (c.2,{a.1 with DH:=e.1})) (jn KC (c.2,a.1)))))))
def AQa:=gZ [.b (.st 17),.v (.st 8)] (.ret [(.st 0)]) yG ["KhNhTDnc1m8BuYaZ3YyxAV1AOQAqQt2f7WkbZws9NPjjMqY90FvUesXgoZb10tEBqEu68MUJElZ6jLSt","TjJNdCBJyYgs3Zlv3I7j97k7D46hO7QXdi8R4J3kyX4XNAW6qQ003orAcGOUiG88KyOhUE6X9k8jzkSY","bCfcFXrYHYTxCZ2hCu8g"] [ma,ON,Er] (BR AIm)
def ABr(e:List UInt8×AP):AA ((List UInt8)×AP):=let (a,c):=e;some (a,c)
def ABs(j:Int)(h:List UInt8×Int×AP->AA (List UInt8×AP))(q:List UInt8×Int×AP):AA ((List UInt8)×AP):=let (a,e,g):=q;br (It (e<j)) (bd (Yj g) λc=>gd (g0 a+[toB c.1].length<=lim) (h (a++[toB c.1],w64 (e+1),c.2))) (jn ABr (a,g))
def eA(a:AP)(c:Int):AA ((List UInt8)×AP):=BK (ABs c) big ([],0,a)
def xL:=gZ AGS AGU DA ["16c90gzB7aNyI2acwWalYIa8QQpBuPbhZyVaiY6gM00p59mniRHMqO7ieGsNxHK"] [AFn] (BR eA)
def eB(e:AP)(a:List UInt8):AA ((List UInt8)×AP):=br (a==[]) (bd (eA e 2) λg=>some (g.1,g.2)) (bd (B7 e (a.length:Int)) λc=>be a c.1 λj=>bd (B7 c.2 255) λh=>be a c.1 λB=>some (a.set (v8 c.1) (toB (↑(BitVec.ofInt Go.IntKind.u8.bits (↑(s3 j):Int) ^^^ BitVec.ofInt Go.IntKind.u8.bits (↑(toB (w64 (1+h.1))).toNat:Int)).toNat:Int)),h.2))
def xM:=gZ [.b (.st 17),.v .s] MO DA ["cDRX5WgknjGuz6vUI0WfuTm0FQY4bMujURHKlW2jyZuhGgc324zK3OrTK0i6hBXZcJgJuojdNTYRrE5"] [xL,Er] (BR eB) [.OK 13 (.tmp 12)]
def kD(a:List By×Int×Int->AA (List By))(c:Int)(h:List By×Int):AA (List By):=let (e,g):=h;a (e,g,w64 (c+1))
def ABt(j:List By)(h:List By×Int×Int->AA (List By))(q:List By×Int×Int):AA (List By):=let (a,c,e):=q;br (It (e<j.length)) (bd (at? j e) λg=>br (It (g.Seq<=c)) (jn (kD h e) (a,c)) (br (g.Seq != w64 (c+1)) (jn GG a) (gd (g0 a+[g].length<=lim) (jn (kD h e) (a++[g],w64 (c+1)))))) (jn GG a)
def AIn(a:List By)(c:Int):AA (List By):=BK (ABt a) big ([],c,0)
def AQb:=gZ [.v (.l (.st 15)),.v .i] xy DA ["AjbqyAGFLulPnyBHWCPC8SMWlr3Jwh8wb7Eo5JdSGjPlpxiLt4UFe0Wi1SgyrthvGynEQKdjATkAyPqy","5r1QPFxdV7Mc1PfmN0fzcbDPMCtCF8DGjige2QtiqXe0"] [] (BR AIn)
end Lv
