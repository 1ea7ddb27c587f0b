/- Functions of the program as typed texts and as plain functions. -/
import Derived.Test.YtdmpkjjlnjchkaaGreatKE1
noncomputable section
set_option linter.unusedVariables false
set_option linter.unusedSimpArgs false
set_option linter.unusedSectionVars false
set_option maxRecDepth 100000
namespace Lv
open Go (IntKind BinOp UnOp)
open Y (YF qn qf qt qr q1 qd qm qa qo ql qL qb qi qx qp qq qc qz qe qk qK qB qw qu qj Kp wn wf wt w1 sw sq sr wm wM wo wO wl wL wk wK wz wZ wx wX wb wB wi wI wr wR wq wQ we wE wc wY wj wh cv ca cx cn ce bl)
def AKJ(a:(C.l (.st 2)).D)(c:Int)(e:(C.l (.st 2)).D):AA (C.l (.st 2)).D:=AAH (.st 2) a c e
def YB:GF:=Af1 (.st 2) rfl
def AKL(a:(C.l (.st 4)).D)(c:Int)(e:(C.l (.st 4)).D):AA (C.l (.st 4)).D:=AAH (.st 4) a c e
def VN:GF:=Af1 (.st 4) rfl
def AKM(a:(C.l (.st 4)).D)(c:Int)(e:Int):AA (C.l (.st 4)).D:=ALK (.st 4) a c e
def YC:GF:=Afr (.st 4) rfl rfl
def XP(a:(C.l (.st 5)).D)(c:Int)(e:Int):AA (C.l (.st 5)).D:=ALK (.st 5) a c e
def QX:GF:=Afr (.st 5) rfl rfl
def gh(a:(C.l (.st 2)).D)(c:Int)(e:Int):AA (C.l (.st 2)).D:=ALK (.st 2) a c e
def QY:GF:=Afr (.st 2) rfl rfl
def AkZ(a:Bu):AA Bu:=some a
def AKN(a:Bu):AA Bu:=bd (WU a) fun c=>br c (jn AkZ (Bu.mk a.Data (↑a.Data.length:Int))) (jn AkZ a)
def YD:GF:=gZ xZ lT Ak9 0x8200465a2b91e656b3ce527e7e2c7b6fe3f2407a05245 [KI] (BL AKN)
def ABk(a:AK)(c:Int):AA Bool:=some (a.Id==c)
def YE:GF:=gZ [.v (.st 2),.p .i] ah [.tmp 3] 0x264e14f091b947804a82c2 [] (Ah ABk)
def AqG:YF:=AqW YE 2 0x9d93cbda53a23eb8f78bce1320b6902e73da9073a52eaa2ab9b6b03bc4a75595c806d2b70303736914a23b5bfd9242b
def Amc(_:PUnit):AA Int:=some (-1)
def Amd(e:List AK)(a:Int)(g:Int->AA Int)(c:Int):AA Int:=br (decide (c<(↑e.length:Int))) (bd (at? e c) fun h=>bd (ABk h a) fun j=>br j (some c) (g (w64 (c+1)))) (jn Amc ())
def Ni(c:List AK)(a:Int):AA Int:=A4 (Amd c a) big 0
def QZ:GF:=AqG.gf rfl rfl (fun a=>Ni a.1 a.2.1.1) (fun a=>by kernel_rfl)
def AqH:YF:=⟨[YE],[.v (.l (.st 2)),.v .i],[],.ret [.i],[.tmp 4],dY 0xf0bac9852a03331ded9 [] [.PF 6 0 [.tmp 3],.call 7 QZ [0] rfl [.tmp 5,.tmp 6]]⟩
def XR(a:List AK)(c:Int):AA Int:=bd (Ni a c) fun e=>some e
def Sb:GF:=AqH.D2 (Ah XR)
def ARc(a:AD)(c:Int):AA Int:=bd (XR a.AG c) fun e=>some e
def AZP:GF:=gZ AZv Cm Bz 0x4dcf21846124f0ecd72cb [Sb] (Ah ARc)
def AKO(a:AD)(c:Int):AA Int:=bd (at? a.AI c) fun e=>bd (at? a.AI c) fun g=>some (w64 (e.AV.Ep-g.AV.E8))
def ANx:GF:=gZ AZv Cm Bz 0x47f40dfd518ea16fb7f553cfc799a0557736cca9a6abe4ec4685818 [] (Ah AKO)
def Py(a:Bool):AA Bool:=some a
def ARd(a:AK)(c:Int):AA Bool:=br (a.State==2) (jn Py (decide (a.Cf<=c))) (jn Py false)
def AZQ:GF:=gZ Qb ah Bz 0x110debf3fc1abed0cc7670bf8c243ec0c6d6251be [] (Ah ARd)
def cy(_:PUnit):AA Int:=some 0
def Aka(c:AD)(a:Bool):AA Int:=br a (some 10) (br (decide (c.Ap>1000000)) (some 11) (jn cy ()))
def Ts(a:AD)(c:BX)(g:Bool):AA Int:=br g (some 4) (bd (DE c.A2 1 a.AO.A2) fun h=>br (!h) (some 5) (br (decide (c.Cj>=a.AO.CJ)) (some 6) (bd (DE c.Id 1 999) fun j=>br (!j) (some 7) (bd (ARc a c.Id) fun q=>br (decide (q>=0)) (some 8) (bd (AAq a.AG c.Aa) fun y=>br (decide (y>=a.AO.Room)) (some 9) (br (c.Bl != -1) (bd (AKO a c.Bl) fun e=>jn (Aka a) (decide (e<c.A2))) (jn (Aka a) false)))))))
def Akc(a:Bool):AA Int:=br a (some 17) (jn cy ())
def Akb(a:AD)(e:BX)(g:Bool):AA Int:=br g (bd (ARc a e.Id) fun c=>br (decide (c<0)) (some 7) (bd (at? a.AG c) fun h=>br (h.State != 2) (some 13) (bd (at? a.AG c) fun j=>bd (ARd j a.Now) fun q=>br q (some 14) (jn cy ())))) (br (e.Kind==6) (br (a.Now==1000000) (some 15) (jn cy ())) (br (e.Kind==7) (br (decide (e.Id>=a.AO.Cs)) (some 16) (bd (at? a.A8 e.Id) fun y=>br (y == -1) (jn Akc ((↑a.BC.length:Int)==0)) (jn Akc false))) (jn cy ())))
def AKP(c:AD)(a:BX):AA Int:=bd (WX c) fun y=>br (!y) (some 1) (bd (DE a.Kind 1 7) fun B=>br (!B) (some 2) (bd (fP a) fun E=>br (!E) (some 3) (br (a.Kind==1) (bd (Ov a.Aa (↑c.AI.length:Int)) fun G=>br (!G) (jn (Ts c a) true) (bd (DE a.Bl (-1) (w64 ((↑c.AI.length:Int)-1))) fun e=>br (!e) (jn (Ts c a) true) (jn (Ts c a) (a.Bl==a.Aa)))) (br (a.Kind==2) (bd (ARc c a.Id) fun g=>br (decide (g<0)) (some 7) (jn cy ())) (br (a.Kind==3) (bd (Ov a.Aa (↑c.AI.length:Int)) fun h=>br (!h) (some 4) (bd (DE a.A2 1 60) fun j=>br (!j) (some 5) (bd (AKO c a.Aa) fun q=>br (decide (q<a.A2)) (some 12) (jn cy ())))) (br (a.Kind==4) (jn (Akb c a) (a.Kind==4)) (jn (Akb c a) (a.Kind==5))))))))
def ANy:GF:=gZ Ak8 Cm Bz 0x53219b686fe88463806e91154424ef302678858c8d7526f77077ead14a5e99ced54e92044828eb15cd8d63f4e36151a8d47b736cc7d0d98358db53319592094d610d5794788b270539b51fee709d5515231cc40748013db95691dd404587ff24d526192f0afa86281503474e7ab21ebc9a0690f8484ede12e1846032f4c2be7dffac16b4af521cf390a69b1e88c180029e4c74714fcc3033331b8761b69aa0341235d997da752b86c81e76277e16fe89ed5767cbaf44ce680d26dbd395176b6ed64e475ccc40c1112ea13486e636fe4547b059cd7f910a4a90fda452a6e40cfd27091b44ca241acf6eaf034818d1de41bb10d7e0e68d7c5fb4b908563132f7257d42797b4aa032b64047fcf619fad7d636c7c06001820a1e658ca8a824310fccb4bfa789ca0b46e3eddcc4a979d40a0e1e62465b506eb2ac4f7f4ac96bfe5ef2c46555f22c44b02cfe6cedc58037357f5d8cda587c83dc676558ea3083c07b65dafaa54a48d2314623a129e29a2c05b24db556f21c859c23ebab55842fb824fdeda97a0bf7cbc43b1949e27e540d5c4cab79c8579963cfd24f96f0e3a07bbad5442b942f48444fd9cc7a728eb8c10be32f0a984f1bae4feb84e872a4b5403538823fe6c6cb0fe3fabb7bb69dbf2866fa39ad5989e281cb49c5902e0d3509f9ea7da39af1d39e4431368c2dd235195fb89 [Ji,EC,OT,KJ,AZP,OM,ANx,AZQ] (Ah AKP)
def ARe(a:AK)(c:AK):AA Bool:=some (decide (a.Id>c.Id))
def AZR:GF:=gZ [.v (.st 2),.p (.st 2)] ah [.tmp 3] 0x13bafa510fc523852b3ee4 [] (Ah ARe)
def AqC:YF:=⟨[AZR],[.v (.l (.st 2)),.f AZR.x [(true,(.st 2))]],[0],.ret [.i],[.tmp 4],dY 0x9d93cbda53a23eb8f78bce1320b6902e73da9073a52eaa2ab9b6b03bc4a75595c806d2b70303736914a23b5bfd9242b [] [.D1 16 (.tmp 11) [.v,.p] [.tmp 15]]⟩
def AmV(_:PUnit):AA Int:=some (-1)
def AmW(e:List AK)(a:AK)(g:Int->AA Int)(c:Int):AA Int:=br (decide (c<(↑e.length:Int))) (bd (at? e c) fun h=>bd (ARe h a) fun j=>br j (some c) (g (w64 (c+1)))) (jn AmV ())
def AJx(c:List AK)(a:AK):AA Int:=A4 (AmW c a) big 0
def ANu:GF:=AqC.gf rfl rfl (fun a=>AJx a.1 a.2.1.1) (fun a=>by kernel_rfl)
def AqD:YF:=⟨[AZR],[.v (.l (.st 2)),.v (.st 2)],[],.ret [(.l (.st 2))],[.tmp 4],dY 0x1804eca092c47df6fbedf19c1a9a9036c26307533e66f7d294c8a430cc859fa16ffdadbe319da7d75708bc81b51d33b0285dba7cfe7c644280b7c835452d99df98 [Sb,YB] [.PF 22 0 [.tmp 3],.call 23 ANu [0] rfl [.tmp 21,.tmp 22]]⟩
def XK(a:List AK)(c:AK)(e:Int):AA (List AK):=bd (AKJ a e [c]) fun g=>some g
def ARU(a:List AK)(c:AK):AA (List AK):=gd (0+a.length<=lim) (bd (XR a c.Id) fun e=>br (decide (e>=0)) (bd (at? a e) fun h=>bd (at? a e) fun j=>some (a.set (Int.toNat e) c)) (bd (AJx a c) fun g=>br (decide (g<0)) (jn (XK a c) (↑a.length:Int)) (jn (XK a c) g)))
def AZJ:GF:=AqD.D2 (Ah ARU)
def AkQ(c:List Ad)(e:List Ad)(a:Bool):AA ((List Ad)×Bool):=br a (some (c,false)) (some (e,true))
def AkP(c:List Ad)(q:Ad)(B:List Ad)(y:Int):AA ((List Ad)×Bool):=bd (AQv c) fun E=>bd (AKL E y [q]) fun a=>bd (AQv c) fun e=>bd (AKL e y [q]) fun g=>eqv a g (bd (AAs c) fun h=>br (!h) (jn (AkQ B a) true) (bd (AAs a) fun j=>jn (AkQ B a) (!j)))
def Aiy(e:List Ad)(g:Ad)(j:List Ad)(c:Int->AA ((List Ad)×Bool))(a:Int)(h:Bool):AA ((List Ad)×Bool):=br h (c (w64 (a+1))) (jn (AkP e g j) a)
def AkR(a:List Ad)(e:Ad)(h:List Ad)(g:Int->AA ((List Ad)×Bool))(c:Int):AA ((List Ad)×Bool):=br (decide (c<(↑a.length:Int))) (bd (at? a c) fun j=>bd (AHi j e) fun q=>jn (Aiy a e h g c) q) (jn (Aiy a e h g c) false)
def AJ0(a:List Ad)(c:Ad):AA ((List Ad)×Bool):=bd (AQv a) fun e=>A4 (AkR a c e) big 0
def ANv:GF:=gZ Oa Am3 Am7 0x2f211c928fd725cad77f58414d8f1cba0dc5d2916a73b7bb145acc68cfcc4dac68661f2bbe4af91c4a8b67ee314376f9f8c7c93c30abd0f72f7548d91ddbdddb0f7084d1bb9aaa881d6ba7f349627e50c2fa743df01e36225e2b414fac93c9cd6cd971def6bd13b0ea992553fa8e5dd2fd94e08e37f [ANj,QH,VN,QJ] (Ah AJ0)
def ARV(a:A9)(c:Int):AA A9:=some (A9.mk a.Total a.DT a.EH a.Ep (w64 (a.E8+c)))
def AZK:GF:=gZ AjR AEi [] 0x53132bd055c73ab76b234d8a26aebf0 [] (Ah ARV)
def Aqi:=fun (a:GF)=>(⟨[a],[.v (.st 3),.v .i,.f a.x [(true,.i)]],[0],.ret [(.st 3),.b],[.cell 6 (some 5),.tmp 7],dY 0x207e0f90049b8f9290f0607d25e9651ff4a923fa8dc2c9e3e6a75fa546f137e49f95d809b12c07f26a7972af2bce06ef724d8e081735828908d99d [Jh,EC] [.D1 20 (.tmp 19) [.b,.p] [.tmp 8]]⟩:YF)
def AqE:YF:=Aqi AZK
def AkS(c:A9)(a:Int)(g:Bool):AA (A9×Bool):=br g (some (c,false)) (bd (ARV c a) fun e=>bd (Nb e) fun h=>br (!h) (some (c,false)) (some (e,true)))
def AJ3(c:A9)(e:Int)(a:Int):AA (A9×Bool):=bd (Nb c) fun g=>br (!g) (jn (AkS c a) true) (bd (DE e 0 60) fun h=>jn (AkS c a) (!h))
def ANw:GF:=AqE.gf rfl rfl (fun a=>AJ3 a.1 a.2.1 a.2.2.1.1) (fun a=>by kernel_rfl)
def AqF:YF:=⟨[AZK],[.v (.st 3),.v .i],[],.ret [(.st 3),.b],[.cell 4 (some 5),.tmp 5],dY 0x8a3e007c061a62e4cea4abd592ba03e10224a46 [] [.PF 8 0 [.tmp 3],.call 9 ANw [0] rfl [.tmp 6,.tmp 7,.tmp 8]]⟩
def ARW(e:A9)(a:Int):AA (A9×Bool):=bd (AJ3 e a a) fun c=>some (c.fst,c.snd)
def AZL:GF:=AqF.D2 (Ah ARW)
def AkT(a:List Int):AA (List Int):=some a
def AYP(e:List Int)(a:Int):AA (List Int):=bd (sO e) fun c=>bd (AA1 e a) fun g=>br (!g) (gd (List.length c+[a].length<=lim) (jn (AkT) (c++[a]))) (jn AkT c)
def AZM:GF:=gZ nU lr Bz 0xa3136e1570a62eb8217082c572131c719432627c0b15207f6723d5f [lJ,OS] (Ah AYP)
def tq(e:Int)(a:AD):AA (AD×Int):=bd (AYP a.BC e) fun c=>some (AD.mk a.AO a.Now a.Ap a.AG a.AI c a.A8,0)
def ARX(h:AD)(B:Int)(c:Int)(g:Int)(y:Int)(E:Int):AA (AD×Int):=bd (Lf h) fun a=>bd (AKP h (BX.mk 1 B c g y E)) fun I=>br (I != 0) (some (a,I)) (bd (ARU a.AG (AK.mk B c g y E h.Now h.Ap 1 0 0)) fun J=>bd (AAv a.AO (AK.mk B c g y E h.Now h.Ap 1 0 0) a.Now) fun Q=>bd (at? a.AI c) fun X=>bd (at? a.AI c) fun S=>bd (AJ0 S.Row Q.fst) fun j=>bd (at? a.AI c) fun Y=>bd (at? a.AI c) fun e=>br (g != -1) (bd (at? (a.AI.set c.toNat (AY.mk e.AV j.fst e.Bw)) g) fun L=>bd (at? (a.AI.set c.toNat (AY.mk e.AV j.fst e.Bw)) g) fun G=>bd (ARW G.AV y) fun H=>bd (at? (a.AI.set c.toNat (AY.mk e.AV j.fst e.Bw)) g) fun O=>bd (at? (a.AI.set c.toNat (AY.mk e.AV j.fst e.Bw)) g) fun q=>jn (tq c) (AD.mk a.AO a.Now (w64 (a.Ap+1)) J ((a.AI.set c.toNat (AY.mk e.AV j.fst e.Bw)).set g.toNat (AY.mk H.fst q.Row q.Bw)) a.BC a.A8)) (jn (tq c) (AD.mk a.AO a.Now (w64 (a.Ap+1)) J (a.AI.set c.toNat (AY.mk e.AV j.fst e.Bw)) a.BC a.A8)))
def AZN:GF:=gZ Aoj eo Aoo 0x21bf6b3bfbd1b3f10cb9426cdbec6ed0d32f7f569fd0ea50a7ee2931ec92f20e15ccadcad4f8555af878674cf4340915da6c60349a67c0fc3ac20a5242bec656d2c50783e827df0cf76ecb32572853956d58b2c483a5b6bb0e5d15cea34c24accce1fb0ce23a253b416735aa40feb0407ddd1087b7da85859425b14d8fbf5ea7c7df03275e9d29c4ddea7c9958d89144b093645006539f15b6b62cdd043caaf0a1a0d647707f39560453cda06c8f2da03cc86086dbbcbf430fd5a0a41717fca5b8ec5a61a70b004e74a118dc449da08df7886aa03e1d368c230859215b65c476c0bc1aee [Lk,ANy,AZJ,OP,ANv,AZL,AZM] (APx ARX)
def AJ7(c:List Ad)(g:Int):AA ((List Ad)×Bool):=bd (AQv c) fun e=>bd (AAr c g) fun a=>br (decide (a<0)) (some (e,false)) (bd (AKM e a (w64 (a+1))) fun h=>some (h,true))
def AZO:GF:=gZ ALa Am3 Am7 0x10f2098a386c3c2d82d07a4a78283c53571835bade51e055c5c0ad60f3159ff019f09fd1a [ANj,QI,YC] (Ah AJ7)
def AmX(_:PUnit):AA Int:=some (-1)
def AmY(c:List A6)(e:A6)(h:Int->AA Int)(a:Int):AA Int:=br (decide (a<(↑c.length:Int))) (bd (at? c a) fun g=>br (e.At==g.At&&(e.Id==g.Id&&true)) (some a) (h (w64 (a+1)))) (jn AmX ())
def ABj(a:List A6)(c:A6):AA Int:=A4 (AmY a c) big 0
def AEM:GF:=gZ Aoh Cm Bz 0x133abea9fbef3b462ba516cfc1656afc2f02f4666da1ceb63432e9a1fa9b27f4161bd64c9d80fddb8532982309c2 [] (Ah ABj)
def XT(a:A6)(c:An)(h:Bool):AA (An×Bool):=br h (some (c,false)) (bd (at? c.Ak (a.At.tmod 9)) fun q=>bd (at? c.Ak (a.At.tmod 9)) fun g=>bd (ABj g a) fun e=>br (decide (e<0)) (some (c,false)) (bd (XP g e (w64 (e+1))) fun j=>bd (at? c.Ak (a.At.tmod 9)) fun y=>bd (at? c.Ak (a.At.tmod 9)) fun B=>gd (Y.Od (a.At.tmod 9).toNat 0 1 [((a.At.tmod 9).toNat,0)]) (some ((An.mk (c.Ak.set (a.At.tmod 9).toNat j),true)))))
def ABm(e:An)(a:A6):AA (An×Bool):=bd (AA3 e) fun g=>bd (WW e) fun h=>br (!h) (jn (XT a g) true) (bd (AAt a) fun c=>jn (XT a g) (!c))
def AEN:GF:=gZ AZu AjS Als 0x535e439e63378b0b728e980aab25acab303717ccf96da277888019bec7909f019921a222d4a8b735993d313cf89398a2a99007bc3e62a4ca612a3483b0115485681004d77e414d844785409edd9b753aff2ed1664c5f01cd07e0646c97dfecc019fd0f0054e9d [AD5,Lj,OO,AEM,QX] (Ah ABm)
def ABn(a:A9)(c:Int):AA A9:=some (A9.mk a.Total (w64 (a.DT+c)) (w64 (a.EH-c)) a.Ep a.E8)
def AEO:GF:=gZ AjR AEi [] 0x1612438a370379792d46c1676e07ef02d7e82171ee96659f27e1453ad75a6 [] (Ah ABn)
def AqM:YF:=Aqi AEO
def Iu(c:A9)(a:Int)(g:Bool):AA (A9×Bool):=br g (some (c,false)) (bd (ABn c a) fun e=>bd (Nb e) fun h=>br (!h) (some (c,false)) (some (e,true)))
def gm(c:A9)(e:Int)(a:Int):AA (A9×Bool):=bd (Nb c) fun g=>br (!g) (jn (Iu c a) true) (bd (DE e 0 60) fun h=>jn (Iu c a) (!h))
def lO:GF:=AqM.gf rfl rfl (fun a=>gm a.1 a.2.1 a.2.2.1.1) (fun a=>by kernel_rfl)
def AqN:YF:=⟨[AEO],[.v (.st 3),.v .i],[],.ret [(.st 3),.b],[.cell 4 (some 5),.tmp 5],dY 0x8a3e007c061a62e4cea4abd592ba03e10224a46 [] [.PF 8 0 [.tmp 3],.call 9 lO [0] rfl [.tmp 6,.tmp 7,.tmp 8]]⟩
def ARn(e:A9)(a:Int):AA (A9×Bool):=bd (gm e a a) fun c=>some (c.fst,c.snd)
def ANz:GF:=AqN.D2 (Ah ARn)
def Nj(a:A9)(c:Int):AA A9:=some (A9.mk a.Total a.DT a.EH a.Ep (w64 (a.E8-c)))
def KL:GF:=gZ AjR AEi [] 0x9685965b1003c91aff857a4bc7747f6 [] (Ah Nj)
def AqO:YF:=Aqi KL
def Akh(c:A9)(a:Int)(g:Bool):AA (A9×Bool):=br g (some (c,false)) (bd (Nj c a) fun e=>bd (Nb e) fun h=>br (!h) (some (c,false)) (some (e,true)))
def AKX(c:A9)(e:Int)(a:Int):AA (A9×Bool):=bd (Nb c) fun g=>br (!g) (jn (Akh c a) true) (bd (DE e 0 60) fun h=>jn (Akh c a) (!h))
def VP:GF:=AqO.gf rfl rfl (fun a=>AKX a.1 a.2.1 a.2.2.1.1) (fun a=>by kernel_rfl)
def AqP:YF:=⟨[KL],[.v (.st 3),.v .i],[],.ret [(.st 3),.b],[.cell 4 (some 5),.tmp 5],dY 0x8a3e007c061a62e4cea4abd592ba03e10224a46 [] [.PF 8 0 [.tmp 3],.call 9 VP [0] rfl [.tmp 6,.tmp 7,.tmp 8]]⟩
def ARo(e:A9)(a:Int):AA (A9×Bool):=bd (AKX e a a) fun c=>some (c.fst,c.snd)
def YQ:GF:=AqP.D2 (Ah ARo)
def uY(a:List AK):AA (List AK):=some a
def ARp(a:List AK)(e:Int):AA (List AK):=gd (0+a.length<=lim) (bd (XR a e) fun c=>br (decide (c>=0)) (bd (gh a c (w64 (c+1))) fun g=>jn (uY) g) (jn uY a))
def YR:GF:=gZ Wb lS Bz 0x1a13e3ef92f7403d4bf60f09863c020cf75db3049a624d39a5a732ca4607ba3a8ca28c87 [Sb,QY] (Ah ARp)
def Aki(e:Int)(a:AD):AA (AD×Int):=bd (ARp a.AG e) fun c=>some (AD.mk a.AO a.Now a.Ap c a.AI a.BC a.A8,0)
def Ai0(j:Int)(c:AK)(a:AD):AA (AD×Int):=br (c.Bl != -1) (bd (at? a.AI c.Bl) fun q=>bd (at? a.AI c.Bl) fun g=>bd (ARo g.AV c.A2) fun h=>bd (at? a.AI c.Bl) fun y=>bd (at? a.AI c.Bl) fun e=>jn (Aki j) (AD.mk a.AO a.Now a.Ap a.AG (a.AI.set c.Bl.toNat (AY.mk h.fst e.Row e.Bw)) a.BC a.A8)) (jn (Aki j) a)
def ARq(j:AD)(g:Int):AA (AD×Int):=bd (Lf j) fun a=>bd (AKP j (BX.mk 2 g 0 0 0 0)) fun I=>br (I != 0) (some (a,I)) (bd (ARc j g) fun J=>bd (at? j.AG J) fun c=>bd (ARc j g) fun L=>bd (at? j.AG L) fun O=>MF c O (bd (at? a.AI c.Aa) fun X=>br (c.State==1) (bd (at? a.AI c.Aa) fun Q=>bd (AJ7 Q.Row g) fun S=>bd (at? a.AI c.Aa) fun q=>jn (Ai0 g c) (AD.mk a.AO a.Now a.Ap a.AG (a.AI.set c.Aa.toNat (AY.mk q.AV S.fst q.Bw)) a.BC a.A8)) (bd (at? a.AI c.Aa) fun B=>bd (ABm B.Bw (A6.mk c.Cf g)) fun h=>bd (at? a.AI c.Aa) fun e=>bd (at? (a.AI.set c.Aa.toNat (AY.mk e.AV e.Row h.fst)) c.Aa) fun E=>bd (ARn E.AV c.A2) fun G=>bd (at? (a.AI.set c.Aa.toNat (AY.mk e.AV e.Row h.fst)) c.Aa) fun y=>bd (AYP a.BC c.Aa) fun H=>jn (Ai0 g c) (AD.mk a.AO a.Now a.Ap a.AG ((a.AI.set c.Aa.toNat (AY.mk e.AV e.Row h.fst)).set c.Aa.toNat (AY.mk G.fst y.Row y.Bw)) H a.A8))))
def YS:GF:=gZ AZv eo fz 0x3f930fa93f712ec8adbff4f0a415a52cc72ccbc7d78129346b09a44538777cfcb8c1de79410a0af4717cc64ccb029b6dc61e56ffe2cc47356c43b42d5f9dc82a4bb5e908f3760a61156fa56ef501d80981a07a533ed1ced8b0e69d9aabe22370043b288631a9511acdba9c3fa7d7c185ca4c1e0f2f5ee96ed0bbec75a8b492dce282579368c2391cdbef2dce4fb225fdc85a979447af93bd3c890fe0f17574a989dbe64732c60683507b3298999d42e1a4a1c0872304d32277215432c5003057027d6c53cef5e00824389497077704e2af93c1c1bad9cf9da8cb95df0e42fc9ea3613ed2bac4a70ab382a3e8f179f0fef84bcad62cda40fd5e6ffb30fa0354e2 [Lk,ANy,AZP,AZO,AEN,ANz,AZM,YQ,YR] (Ah ARq)
def XW(a:A9)(c:Int):AA A9:=some (A9.mk a.Total (w64 (a.DT+c)) a.EH (w64 (a.Ep-c)) a.E8)
def Kv:GF:=gZ AjR AEi [] 0x2d0b26923c071740714c7b07537de7c71be42f59de56add77ad3d298aae44 [] (Ah XW)
def AqQ:YF:=Aqi Kv
def Akj(c:A9)(a:Int)(g:Bool):AA (A9×Bool):=br g (some (c,false)) (bd (XW c a) fun e=>bd (Nb e) fun h=>br (!h) (some (c,false)) (some (e,true)))
def nN(c:A9)(e:Int)(a:Int):AA (A9×Bool):=bd (Nb c) fun g=>br (!g) (jn (Akj c a) true) (bd (DE e 0 60) fun h=>jn (Akj c a) (!h))
def VQ:GF:=AqQ.gf rfl rfl (fun a=>nN a.1 a.2.1 a.2.2.1.1) (fun a=>by kernel_rfl)
def AqR:YF:=⟨[Kv],[.v (.st 3),.v .i],[],.ret [(.st 3),.b],[.cell 4 (some 5),.tmp 5],dY 0x8a3e007c061a62e4cea4abd592ba03e10224a46 [] [.PF 8 0 [.tmp 3],.call 9 VQ [0] rfl [.tmp 6,.tmp 7,.tmp 8]]⟩
def gv(e:A9)(a:Int):AA (A9×Bool):=bd (nN e a a) fun c=>some (c.fst,c.snd)
def Mw:GF:=AqR.D2 (Ah gv)
def ARr(e:AD)(c:Int)(g:Int):AA (AD×Int):=bd (Lf e) fun a=>bd (AKP e (BX.mk 3 0 c 0 g 0)) fun h=>br (h != 0) (some (a,h)) (bd (at? a.AI c) fun E=>bd (at? a.AI c) fun q=>bd (gv q.AV g) fun y=>bd (at? a.AI c) fun G=>bd (at? a.AI c) fun j=>bd (AYP a.BC c) fun B=>some ((AD.mk a.AO a.Now a.Ap a.AG (a.AI.set c.toNat (AY.mk y.fst j.Row j.Bw)) B a.A8,0)))
def YT:GF:=gZ [.v (.st 8),.v .i,.v .i] eo Aop 0x4f6af9cef1a03f1a51865410039b52cb22cf29c3ccbb7e7f8d583cd3ce9e83c43afc61dbbe5b870472ec437a3da8d98600966eabd07ae7dd75a1422e3cbb0c0bee76d33d173df2e592330fb69e395eac1bfdb477895dc6b9131818f50 [Lk,ANy,Mw,AZM] (GX ARr)
def ARs(a:A9)(c:Int):AA A9:=some (A9.mk a.Total a.DT (w64 (a.EH-c)) (w64 (a.Ep+c)) a.E8)
def YU:GF:=gZ AjR AEi [] 0x55814181ce3ebbbe5d9ba465bf2de1c03a6a0c434409afa7397df55685573 [] (Ah ARs)
def AqS:YF:=Aqi YU
def Akk(c:A9)(a:Int)(g:Bool):AA (A9×Bool):=br g (some (c,false)) (bd (ARs c a) fun e=>bd (Nb e) fun h=>br (!h) (some (c,false)) (some (e,true)))
def ARt(c:A9)(e:Int)(a:Int):AA (A9×Bool):=bd (Nb c) fun g=>br (!g) (jn (Akk c a) true) (bd (DE e 0 60) fun h=>jn (Akk c a) (!h))
def YV:GF:=AqS.gf rfl rfl (fun a=>ARt a.1 a.2.1 a.2.2.1.1) (fun a=>by kernel_rfl)
def AqT:YF:=⟨[YU],[.v (.st 3),.v .i],[],.ret [(.st 3),.b],[.cell 4 (some 5),.tmp 5],dY 0x8a3e007c061a62e4cea4abd592ba03e10224a46 [] [.PF 8 0 [.tmp 3],.call 9 YV [0] rfl [.tmp 6,.tmp 7,.tmp 8]]⟩
def ABo(e:A9)(a:Int):AA (A9×Bool):=bd (ARt e a a) fun c=>some (c.fst,c.snd)
def VR:GF:=AqT.D2 (Ah ABo)
def Akl(a:AD):AA (AD×Int):=some (a,0)
def ue(B:AD)(E:Int):AA (AD×Int):=bd (Lf B) fun g=>bd (AKP B (BX.mk 4 E 0 0 0 0)) fun S=>br (S != 0) (some (g,S)) (bd (ARc B E) fun Y=>bd (at? B.AG Y) fun c=>bd (ARc B E) fun Z=>bd (at? B.AG Z) fun x6=>MF c x6 (bd (at? g.AI c.Aa) fun x7=>bd (at? g.AI c.Aa) fun x8=>bd (ABo x8.AV c.A2) fun q=>bd (at? g.AI c.Aa) fun a=>bd (at? (g.AI.set c.Aa.toNat (AY.mk q.fst a.Row a.Bw)) c.Aa) fun I=>bd (ABm I.Bw (A6.mk c.Cf E)) fun h=>bd (at? (g.AI.set c.Aa.toNat (AY.mk q.fst a.Row a.Bw)) c.Aa) fun e=>bd (ARp g.AG E) fun G=>br (c.Bl != -1) (bd (at? ((g.AI.set c.Aa.toNat (AY.mk q.fst a.Row a.Bw)).set c.Aa.toNat (AY.mk e.AV e.Row h.fst)) c.Bl) fun X=>bd (at? ((g.AI.set c.Aa.toNat (AY.mk q.fst a.Row a.Bw)).set c.Aa.toNat (AY.mk e.AV e.Row h.fst)) c.Bl) fun J=>bd (ARo J.AV c.A2) fun y=>bd (at? ((g.AI.set c.Aa.toNat (AY.mk q.fst a.Row a.Bw)).set c.Aa.toNat (AY.mk e.AV e.Row h.fst)) c.Bl) fun j=>bd (at? (((g.AI.set c.Aa.toNat (AY.mk q.fst a.Row a.Bw)).set c.Aa.toNat (AY.mk e.AV e.Row h.fst)).set c.Bl.toNat (AY.mk y.fst j.Row j.Bw)) c.Bl) fun L=>bd (gv L.AV c.A2) fun O=>bd (at? (((g.AI.set c.Aa.toNat (AY.mk q.fst a.Row a.Bw)).set c.Aa.toNat (AY.mk e.AV e.Row h.fst)).set c.Bl.toNat (AY.mk y.fst j.Row j.Bw)) c.Bl) fun H=>bd (AYP g.BC c.Bl) fun Q=>jn (Akl) (AD.mk g.AO g.Now g.Ap G ((((g.AI.set c.Aa.toNat (AY.mk q.fst a.Row a.Bw)).set c.Aa.toNat (AY.mk e.AV e.Row h.fst)).set c.Bl.toNat (AY.mk y.fst j.Row j.Bw)).set c.Bl.toNat (AY.mk O.fst H.Row H.Bw)) Q g.A8)) (jn Akl (AD.mk g.AO g.Now g.Ap G ((g.AI.set c.Aa.toNat (AY.mk q.fst a.Row a.Bw)).set c.Aa.toNat (AY.mk e.AV e.Row h.fst)) g.BC g.A8))))
def VS:GF:=gZ AZv eo fz 0xa15f8fb547eafe6d81349e1f5c5637149547966a3f16ac30302f6b53c359fb846499be1f3771e63cec13c27094cf1e04f3040cdcf8c3375eed4baa3e30b6665791a77e9715955a3a8c7689226026407bda6a8abe071ee2a611f6a452ede9ebc2c089d25b80350bdc91a27ab74c75a891d09c258046eb92821253ed8849805ec2cf25b48cfb26c008a29ce3a32eb7b14bcbb24312125726333a6f84552dd7413de2aef70c265045c22872b2b0a3f6d0e8929b5cf919edbf5c78f9699a5b05ab296592851cf9a506e76b3bc5ad774fbcaff98fb2adaa08438b7c5af80ea3a4ac2c41ee866308df55705c808a43a11f698f9ff0ae405bc08e4 [Lk,ANy,AZP,VR,AEN,YR,YQ,Mw,AZM] (Ah ue)
def Ai1(c:AZ)(a:AK)(e:Int)(g:Bool):AA (AK×Bool):=br g (some (AK.mk 0 0 0 0 0 0 0 0 0 0,false)) (some ((AK.mk a.Id a.Aa a.Bl a.A2 a.Cj a.Since a.Ap 1 (w64 (e+c.Rest)) (w64 (a.Cu+1)),true)))
def uf(c:AZ)(a:AK)(e:Int):AA (AK×Bool):=bd (rH c a e) fun g=>br (!g) (jn (Ai1 c a e) true) (br (a.State != 2) (jn (Ai1 c a e) true) (jn (Ai1 c a e) (w64 (a.Cu+1)==c.CL)))
def Sd:GF:=gZ AiX (.ret [(.st 2),.b]) Aoq 0x598bffdff07b573ef20c978d995b7362afb91a896c41a54c8d9c67583de26939e905b496d6350e49e0511f228bb2b3eb9be95778b2d904a261c545f203afee45e8dbe73d1cac84482700fe98b6 [Ms] (GX uf)
def Akm(a:AD):AA AD:=some a
def ARu(c:AD)(G:Int):AA AD:=bd (ARc c G) fun X=>bd (at? c.AG X) fun x2=>bd (at? c.AG X) fun e=>bd (ARc c G) fun Y=>bd (at? c.AG Y) fun x5=>bd (at? c.AG Y) fun x6=>MF e x6 (bd (at? c.AI e.Aa) fun x7=>bd (at? c.AI e.Aa) fun x8=>bd (ARn x8.AV e.A2) fun j=>bd (at? c.AI e.Aa) fun a=>bd (at? (c.AI.set e.Aa.toNat (AY.mk j.fst a.Row a.Bw)) e.Aa) fun H=>bd (ABm H.Bw (A6.mk e.Cf G)) fun h=>bd (at? (c.AI.set e.Aa.toNat (AY.mk j.fst a.Row a.Bw)) e.Aa) fun g=>bd (uf c.AO e c.Now) fun q=>br q.snd (bd (ARU c.AG q.fst) fun I=>bd (AAv c.AO q.fst c.Now) fun J=>bd (at? ((c.AI.set e.Aa.toNat (AY.mk j.fst a.Row a.Bw)).set e.Aa.toNat (AY.mk g.AV g.Row h.fst)) e.Aa) fun L=>bd (AJ0 L.Row J.fst) fun O=>bd (at? ((c.AI.set e.Aa.toNat (AY.mk j.fst a.Row a.Bw)).set e.Aa.toNat (AY.mk g.AV g.Row h.fst)) e.Aa) fun y=>some (AD.mk c.AO c.Now c.Ap I (((c.AI.set e.Aa.toNat (AY.mk j.fst a.Row a.Bw)).set e.Aa.toNat (AY.mk g.AV g.Row h.fst)).set e.Aa.toNat (AY.mk y.AV O.fst y.Bw)) c.BC c.A8)) (bd (ARp c.AG G) fun B=>br (e.Bl != -1) (bd (at? ((c.AI.set e.Aa.toNat (AY.mk j.fst a.Row a.Bw)).set e.Aa.toNat (AY.mk g.AV g.Row h.fst)) e.Bl) fun Z=>bd (at? ((c.AI.set e.Aa.toNat (AY.mk j.fst a.Row a.Bw)).set e.Aa.toNat (AY.mk g.AV g.Row h.fst)) e.Bl) fun Q=>bd (ARo Q.AV e.A2) fun S=>bd (at? ((c.AI.set e.Aa.toNat (AY.mk j.fst a.Row a.Bw)).set e.Aa.toNat (AY.mk g.AV g.Row h.fst)) e.Bl) fun x24=>bd (at? ((c.AI.set e.Aa.toNat (AY.mk j.fst a.Row a.Bw)).set e.Aa.toNat (AY.mk g.AV g.Row h.fst)) e.Bl) fun E=>jn (Akm) (AD.mk c.AO c.Now c.Ap B (((c.AI.set e.Aa.toNat (AY.mk j.fst a.Row a.Bw)).set e.Aa.toNat (AY.mk g.AV g.Row h.fst)).set e.Bl.toNat (AY.mk S.fst E.Row E.Bw)) c.BC c.A8)) (jn Akm (AD.mk c.AO c.Now c.Ap B ((c.AI.set e.Aa.toNat (AY.mk j.fst a.Row a.Bw)).set e.Aa.toNat (AY.mk g.AV g.Row h.fst)) c.BC c.A8))))
def YW:GF:=gZ AEe mz Aif 0xa0672cdefbe695544ba64d3a56533aa9dd01bd64475d584826ec0d0b309e81c0dbc00ef29a99a0b8a727de6b27500eef830660b605bc017f70fe86f89f34344988f5108ed69c321862e1e8961f257d463d51d737e1c342dba237cca38fa4fec2686f93698e443e4b1d0b46ed0668655b8f831c4cbfc80697866fa0a973ff4e6592b9c44a7d1c8adaa61ffaa7d3e2a36750b3e9a2c8c53b80f490eb3efdda454a3d376a57d49ec7cc933bc6db0503849026b1dc61822d8ea794a0ebaf78e70f4f6d875c8a812f2d65ef121632aedd35675284786974e43ed266c086e9ebe761618cb4e59feb5e44ba9b7620be789c34723b45823821e9cc15028b6b343c38f9319f6dbd076ae24a4a32796ceb2b803a900 [AZP,ANz,AEN,Sd,AZJ,OP,ANv,YR,YQ] (Ah ARu)
def ARv(c:AD)(e:Int):AA (AD×Int):=bd (Lf c) fun g=>bd (AKP c (BX.mk 5 e 0 0 0 0)) fun h=>br (h != 0) (some (g,h)) (bd (ARc c e) fun j=>bd (at? c.AG j) fun q=>bd (ARu g e) fun a=>bd (AYP a.BC q.Aa) fun y=>some (AD.mk a.AO a.Now a.Ap a.AG a.AI y a.A8,0))
def YX:GF:=gZ AZv eo fz 0x2aca84f38cf047baed30638200ab29f9719c40cbbee21791c4fa02e0006410d3677d9ce2453697e08b657e45720ea8a40454a1428664385a5c2e7c0b3764b97803e67af8dd58e1db5cec48667f65bb38b1 [Lk,ANy,AZP,YW,AZM] (Ah ARv)
def Akn(c:(Int×AD)->AA (AD×Int))(e:Int)(a:AD):AA (AD×Int):=c ((w64 (e+1),a))
def Aog(a:AD):AA (AD×Int):=some (a,0)
def Ai2(q:AD)(h:(Int×AD)->AA (AD×Int))(B:(Int×AD)):AA (AD×Int):=match B with |(c,a)=>br (decide (c<(↑q.AI.length:Int))) (bd (nC a.AO a.AG c a.Now) fun j=>bd (at? a.AI c) fun E=>bd (at? a.AI c) fun e=>bd (AAq a.AG c) fun y=>br (decide (y>0)) (bd (AYP a.BC c) fun g=>jn (Akn h c) (AD.mk a.AO a.Now a.Ap a.AG (a.AI.set (Int.toNat c) (AY.mk e.AV j e.Bw)) g a.A8)) (jn (Akn h c) (AD.mk a.AO a.Now a.Ap a.AG (a.AI.set (Int.toNat c) (AY.mk e.AV j e.Bw)) a.BC a.A8))) (jn Aog a)
def bV(c:AD):AA (AD×Int):=bd (Lf c) fun a=>bd (AKP c (BX.mk 6 0 0 0 0 0)) fun e=>br (e != 0) (some (a,e)) (A4 (Ai2 a) big ((0,AD.mk a.AO (w64 (a.Now+1)) a.Ap a.AG a.AI a.BC a.A8)))
def Se:GF:=gZ mh eo Am6 0xf43150ca24946089345dda4c685cb4e02735b9643bf11db15a02477fb48e2d128d85b3e7cb34b38a7165eb69768515a6c34505317a5ea5dec0c3a8c328d5e7834b9c15609d10d7ea8086a389f64c7d2a8ded4d285d76135a703498c532b2239e7dd851fb0300a0f90a4b1216e6efc83b8becac1caa6ce5c27179b07d4215 [Lk,ANy,OR,OM,AZM] (BL bV)
def gx(a:Bool):AA Bool:=some a
def ARw(a:AD)(c:Int):AA Bool:=bd (WX a) fun e=>br e (bd (Ov c (↑a.AI.length:Int)) fun g=>jn (gx) g) (jn gx false)
def YY:GF:=gZ AZv ah Bz 0x84bf7e3641e875e9158b0674ff8041ff709c4b25e2 [Ji,KJ] (Ah ARw)
def Ako(a:((List A6)×Int)->AA (List A6))(c:Int)(e:List A6):AA (List A6):=a ((e,w64 (c+1)))
def Amf(a:List A6):AA (List A6):=some a
def Akp(j:Int)(e:List A6)(h:((List A6)×Int)->AA (List A6))(q:((List A6)×Int)):AA (List A6):=match q with |(c,a)=>br (decide (a<(↑(List.length e):Int))) (bd (at? e a) fun y=>bd (at? e a) fun g=>br (decide (g.At<=j)) (gd (List.length c+[g].length<=lim) (jn (Ako h a) (c++[g]))) (jn (Ako h a) c)) (jn Amf c)
def ARx(a:An)(c:Int):AA (List A6):=bd (rG a) fun e=>A4 (Akp c e) big ([],0)
def YZ:GF:=gZ Ae8 Aid Bz 0x139c0749694b1d4bfbd3a41bb41695c9957592a0ea89c98d0adc312edd8fbcf7b7d39b6b09cad91bd2a5afadfc2d7a55e9e6e442025b7926e03d15bf66fe8c44e58d [OK] (Ah ARx)
def Amg(a:List Int):AA (List Int):=some a
def Akq(e:List A6)(h:((List Int)×Int)->AA (List Int))(j:((List Int)×Int)):AA (List Int):=match j with |(c,a)=>br (decide (a<(↑(List.length e):Int))) (bd (at? e a) fun q=>bd (at? e a) fun g=>gd (List.length c+[g.Id].length<=lim) (h ((c++[g.Id],w64 (a+1))))) (jn Amg c)
def ABp(a:AD)(c:Int):AA (List Int):=bd (ARw a c) fun e=>br (!e) (some []) (bd (at? a.AI c) fun g=>bd (ARx g.Bw a.Now) fun h=>A4 (Akq h) big ([],0))
def VT:GF:=gZ AZv lr Bz 0xb14a6fe25de2b2dd314ac90a5cf9120bd60c1b0027ae2c872af55bfd862e6628e53791e692a5640d741520748d1a801b665cf29a390eedfa293daf639f4208665f9bf2d340aa7bbd08df0c01a1cd0 [YY,YZ] (Ah ABp)
def Amh(a:AD):AA AD:=some a
def Akr(c:List Int)(g:(Int×AD)->AA AD)(q:(Int×AD)):AA AD:=match q with |(a,e)=>br (decide (a<(↑(List.length c):Int))) (bd (at? c a) fun y=>bd (at? c a) fun h=>bd (ARu e h) fun j=>g ((w64 (a+1),j))) (jn Amh e)
def ARy(a:AD)(c:Int):AA AD:=bd (Lf a) fun e=>bd (ABp a c) fun g=>A4 (Akr g) big (0,e)
def Ya:GF:=gZ AZv mz Aif 0x941dbbed8ebf0911c7518cda25e782f6ede3d3b17af1a5473eeaa602b7106b23971f20ddfb3481d7d86bf3f27ee4db410c89e7dbabe401d7a545561e6 [Lk,VT,YW] (Ah ARy)
def Aks(a:Bool):AA Bool:=some a
def ARz(a:AK)(c:Int):AA Bool:=br (a.State==1) (jn Aks (decide (a.Cf>c))) (jn Aks false)
def Yb:GF:=gZ Qb ah Bz 0x173165350cd46680226c3b89cd394be601823f45 [] (Ah ARz)
def uN(a:Bool):AA Bool:=some a
def ARf(a:Ad)(c:Int)(e:List Int):AA Bool:=br (decide (a.A2<=c)) (bd (AA1 e a.Id) fun g=>jn (uN) (!g)) (jn uN false)
def YG:GF:=gZ [.v (.st 4),.p .i,.p (.l .i)] ah Bz 0xff7439ec34b60a29484d8d7824812cb223c2f888f3627ca [OS] (GX ARf)
def AqI:YF:=⟨[YG],[.v (.l (.st 4)),.f YG.x [(true,.i),(true,(.l .i))]],[0],.ret [.i],[.tmp 4],dY 0x18c73429ee3de97fc6a2622f96ecff78c24a4247214876fd150c10eb5c11ec4be871dbdd0d71a5658d7774a4e76f6565 [] [.D1 16 (.tmp 11) [.v,.p,.p] [.tmp 15]]⟩
def Ame(_:PUnit):AA Int:=some (-1)
def Akd(g:List Ad)(a:Int)(c:List Int)(h:Int->AA Int)(e:Int):AA Int:=br (decide (e<(↑g.length:Int))) (bd (at? g e) fun j=>bd (ARf j a c) fun q=>br q (some e) (h (w64 (e+1)))) (jn Ame ())
def AKQ(e:List Ad)(a:Int)(c:List Int):AA Int:=A4 (Akd e a c) big 0
def YH:GF:=AqI.gf rfl rfl (fun a=>AKQ a.1 a.2.1.1 a.2.1.2.1) (fun a=>by kernel_rfl)
def AqJ:YF:=⟨[YG],[.v (.l (.st 4)),.v .i,.v (.l .i)],[],.ret [.i],[.tmp 6],dY 0x20391a899c2f1249c9021029 [] [.PF 8 0 [.tmp 4,.tmp 5],.call 9 YH [0] rfl [.tmp 7,.tmp 8]]⟩
def ABl(a:List Ad)(c:Int)(e:List Int):AA Int:=bd (AKQ a c e) fun g=>some g
def VO:GF:=AqJ.D2 (GX ABl)
def Ake(a:((List Int)×Int)->AA Int)(c:Int)(e:List Int):AA Int:=a ((e,w64 (c+1)))
def Akf(g:AD)(h:Int)(j:List Int):AA Int:=bd (at? g.AI h) fun e=>bd (ABl e.Row e.AV.DT j) fun a=>br (decide (a<0)) (some 0) (bd (at? e.Row a) fun c=>some c.Id)
def Akg(a:AD)(j:Int)(h:((List Int)×Int)->AA Int)(y:((List Int)×Int)):AA Int:=match y with |(c,e)=>br (decide (e<(↑a.AG.length:Int))) (bd (at? a.AG e) fun g=>bd (ARz g a.Now) fun q=>br q (gd (List.length c+[g.Id].length<=lim) (jn (Ake h e) (c++[g.Id]))) (jn (Ake h e) c)) (jn (Akf a j) c)
def ARg(a:AD)(c:Int):AA Int:=bd (ARw a c) fun e=>br (!e) (some 0) (A4 (Akg a c) big ([],0))
def YI:GF:=gZ AZv Cm Bz 0x25482af3141774406332da45eabf8f46350616c36bdeb840b39e484c825ac5b428f18c05e9da269cf55e376b6e07183d035811c52e770189e9fe8a55c117e4940f4d1ca3bfb902cad1559558a8b2ec65010a3e7a6aa671ef4bc96ed4546ca16bbeb96851ea40369dcd39b9d775f0d5d749fd [YY,Yb,VO] (Ah ARg)
def ARh(a:A9)(c:Int):AA A9:=some (A9.mk a.Total (w64 (a.DT-c)) (w64 (a.EH+c)) a.Ep a.E8)
def YJ:GF:=gZ AjR AEi [] 0x1612438a365cb56d8bbd797fd1f0d270b59f7a57c730917debbf4cc5b417d [] (Ah ARh)
def AqK:YF:=Aqi YJ
def uP(c:A9)(a:Int)(g:Bool):AA (A9×Bool):=br g (some (c,false)) (bd (ARh c a) fun e=>bd (Nb e) fun h=>br (!h) (some (c,false)) (some (e,true)))
def AYR(c:A9)(e:Int)(a:Int):AA (A9×Bool):=bd (Nb c) fun g=>br (!g) (jn (uP c a) true) (bd (DE e 0 60) fun h=>jn (uP c a) (!h))
def YK:GF:=AqK.gf rfl rfl (fun a=>AYR a.1 a.2.1 a.2.2.1.1) (fun a=>by kernel_rfl)
def AqL:YF:=⟨[YJ],[.v (.st 3),.v .i],[],.ret [(.st 3),.b],[.cell 4 (some 5),.tmp 5],dY 0x8a3e007c061a62e4cea4abd592ba03e10224a46 [] [.PF 8 0 [.tmp 3],.call 9 YK [0] rfl [.tmp 6,.tmp 7,.tmp 8]]⟩
def AKR(e:A9)(a:Int):AA (A9×Bool):=bd (AYR e a a) fun c=>some (c.fst,c.snd)
def YL:GF:=AqL.D2 (Ah AKR)
def ARi(h:AD)(c:Int):AA (AD×Int):=bd (Lf h) fun e=>bd (ARg h c) fun y=>br (y==0) (some (e,0)) (bd (ARc h y) fun L=>bd (at? h.AG L) fun j=>bd (ARc h y) fun O=>bd (at? h.AG O) fun Q=>MF j Q (bd (at? e.AI c) fun X=>bd (at? e.AI c) fun S=>bd (AKR S.AV j.A2) fun E=>bd (at? e.AI c) fun a=>bd (at? (e.AI.set c.toNat (AY.mk E.fst a.Row a.Bw)) c) fun G=>bd (AJ7 G.Row y) fun q=>bd (at? (e.AI.set c.toNat (AY.mk E.fst a.Row a.Bw)) c) fun g=>bd (ARU e.AG (AK.mk j.Id j.Aa j.Bl j.A2 j.Cj j.Since j.Ap 2 (w64 (h.Now+h.AO.Bq)) j.Cu)) fun H=>bd (at? ((e.AI.set c.toNat (AY.mk E.fst a.Row a.Bw)).set c.toNat (AY.mk g.AV q.fst g.Bw)) c) fun I=>bd (Px I.Bw (A6.mk (w64 (h.Now+h.AO.Bq)) y)) fun J=>bd (at? ((e.AI.set c.toNat (AY.mk E.fst a.Row a.Bw)).set c.toNat (AY.mk g.AV q.fst g.Bw)) c) fun B=>some ((AD.mk e.AO e.Now e.Ap H (((e.AI.set c.toNat (AY.mk E.fst a.Row a.Bw)).set c.toNat (AY.mk g.AV q.fst g.Bw)).set c.toNat (AY.mk B.AV B.Row J.fst)) e.BC e.A8,y))))
def YM:GF:=gZ AZv eo fz 0x3eba7e8174eec32dd5b929721bd93abd19709427ddd92f427c255e7936c1479670540221b53813d718d72f5a5154e8ad4bd0e0ff2c22dd83db26efb65e7c4f00020730fd272218bd669725a2ac1b9eda8901c7e8bb508e563762ee4f3b78cd843b19f3c6aaa8ec015b5bf7bf75642b233743aa3cf0a14fb2c96c6809cc301cce0b33e7b2280537f73c0383b1103f2aaeb5a3d5d182931a2fff3019e8dfa4c19e6e5db514cb25d420a3bebf4bb4031ac3d5ecebb92ab6b46b5f4f0d00c363f525ecf95855bf0fc74d7c8ee1b9ed9 [Lk,YI,AZP,YL,AZO,AZJ,JA] (Ah ARi)
def uU(h:Int)(g:((List Int)×AD)->AA (AD×(List Int)))(j:((List Int)×AD)):AA (AD×(List Int)):=match j with |(c,e)=>bd (ARi e h) fun a=>br (a.snd==0) (some (e,c)) (gd (List.length c+[a.snd].length<=lim) (g (c++[a.snd],a.fst)))
def ARj(c:AD)(a:Int):AA (AD×(List Int)):=bd (ARy c a) fun e=>A4 (uU a) big ([],e)
def YN:GF:=gZ AZv lV fz 0x17bdc2eb01f3c744f95731bfb37dc96274f6ffb20049edd3d3492f0995df78ca691f20d5dc3e389c9430095e5e37766628f9c42fdabc77b8c8dcb10b5aa705e44aa5c60ba81 [Ya,YM] (Ah ARj)
def ARk(h:AD)(e:Int):AA (AD×Int×(List Int)):=bd (Lf h) fun c=>bd (AKP h (BX.mk 7 e 0 0 0 0)) fun j=>br (j != 0) (some (c,j,[])) (bd (at? c.A8 e) fun G=>bd (at? c.A8 e) fun B=>br (B == -1) (bd (at? c.BC 0) fun H=>bd (at? c.BC 0) fun E=>bd (at? c.A8 e) fun I=>bd (at? c.A8 e) fun J=>gd ((0:Int)<=1/\1<=(↑c.BC.length:Int)) (some ((AD.mk c.AO c.Now c.Ap c.AG c.AI (List.take (c.BC.length-Int.toNat 1) (List.drop (Int.toNat 1) c.BC)) (c.A8.set e.toNat E),0,[])))) (bd (at? c.A8 e) fun L=>bd (at? c.A8 e) fun g=>bd (ARj c g) fun a=>bd (at? a.fst.A8 e) fun q=>bd (at? a.fst.A8 e) fun y=>some ((AD.mk a.fst.AO a.fst.Now a.fst.Ap a.fst.AG a.fst.AI a.fst.BC (a.fst.A8.set e.toNat (-1)),0,a.snd))))
def YP:GF:=gZ AZv Aol Alw 0x12912b5594e8ce278df22bae0b5cde329da2a2a60f144d82481693f173fbd3c032f25f5fb47c684bde0e999358b19cfad378cca5431903132d4b067c885e508924651a729f1dbfd214c66299c928c3a585cad27fec46647b0a0e4f6d99547c5aac41bf884f4d8297c1d995960ee9efdb67724e8223553b1ec9f43875798a90f0bdb5222871ceb2dde17 [Lk,ANy,YN] (Ah ARk)
def fx(e:(AD×CE)):AA (AD×CE):=match e with |(a,c)=>some (a,c)
def AR3(c:AD)(a:BX):AA (AD×CE):=bd (AKP c a) fun h=>br (h != 0) (bd (Lf c) fun G=>some (G,CE.mk h [])) (br (a.Kind==1) (bd (ARX c a.Id a.Aa a.Bl a.A2 a.Cj) fun j=>jn (fx) (j.fst,CE.mk j.snd [])) (br (a.Kind==2) (bd (ARq c a.Id) fun q=>jn (fx) (q.fst,CE.mk q.snd [])) (br (a.Kind==3) (bd (ARr c a.Aa a.A2) fun y=>jn (fx) (y.fst,CE.mk y.snd [])) (br (a.Kind==4) (bd (ue c a.Id) fun B=>jn (fx) (B.fst,CE.mk B.snd [])) (br (a.Kind==5) (bd (ARv c a.Id) fun E=>jn (fx) (E.fst,CE.mk E.snd [])) (br (a.Kind==6) (bd (bV c) fun g=>jn (fx) (g.fst,CE.mk g.snd [])) (bd (ARk c a.Id) fun e=>jn (fx) (e.fst,CE.mk e.snd.fst e.snd.snd))))))))
def Yg:GF:=gZ Ak8 Aom AEn 0x3d3debf7e80136a303e0e64e48f909d2b47edb93f0fa2d3db59a5ad7312db47c11c36d3706174025a9f874e9d53338d7501a3b24f5fb04ca93083fc242233dc62a57ccf7db1de6898d7c87ee15d2c643c0d318f97a33087bcb851d30ed419afa468dfcdce9267746f3ecca2e268b6811bd28bc735d19d4e477d7429a190f245e62a8afae27aaacc72ce773fd1fabebe8d348c9fb856aa68378510e4488ee95b7f16846d065621e46565f0b4991a85cd731d4e9cc458bd6d9ebc230bace63c36f89b3e53a1659c91676f6c8083fa0f4aa603f3013fed2eedf1729426ac8db1f5bc6df36f94bd4fae62e39fda60bc40b6fefca3effa9878ea66b6bb621920b8e247889a87f7d11150f396b94402d9b299a7cf447e174893b7bbb84f478a922b16b75a8b [ANy,Lk,AZN,YS,YT,VS,YX,Se,YP] (Ah AR3)
def uw(e:((List CE)×AD)):AA (AD×(List CE)):=match e with |(a,c)=>some (c,a)
def uy(g:List BX)(j:((List CE)×Int×AD)->AA (AD×(List CE)))(y:((List CE)×Int×AD)):AA (AD×(List CE)):=match y with |(a,c,h)=>br (decide (c<(↑g.length:Int))) (bd (at? g c) fun q=>bd (AR3 h q) fun e=>gd (List.length a+[e.snd].length<=lim) (j ((a++[e.snd],w64 (c+1),e.fst)))) (jn uw (a,h))
def AKd(a:AD)(c:List BX):AA (AD×(List CE)):=bd (Lf a) fun e=>A4 (uy c) big ([],0,e)
def VW:GF:=gZ Aok Aon fz 0x5dbf45e6882c1990844a3d338d3c53a4c23c34b42d3087d9664e30bdf57710e28ceadce80c235f843d5d8e8e855dd5452a95365386ba75fa875a68263959e7a27d791cb137c9fdfec1f743f0dcb2c7c517bcdfda6d3a318e777256063cef65c7039cd5befec83e66a2189f6b61f [Lk,Yg] (Ah AKd)
end Lv
set_option maxRecDepth 100000
namespace Lv
open Go (IntKind BinOp UnOp)
open Y (YF qn qf qt qr q1 qd qm qa qo ql qL qb qi qx qp qq qc qz qe qk qK qB qw qu qj Kp wn wf wt w1 sw sq sr wm wM wo wO wl wL wk wK wz wZ wx wX wb wB wi wI wr wR wq wQ we wE wc wY wj wh cv ca cx cn ce bl)
def AKe(a:Int)(c:Int)(e:Int):AA Int:=some (if false=true then if e>if true=true then if c>a then c else a else if c<a then c else a then e else if true=true then if c>a then c else a else if c<a then c else a else if e<if true=true then if c>a then c else a else if c<a then c else a then e else if true=true then if c>a then c else a else if c<a then c else a)
def VX:GF:=gZ Amx Cm nk 0x11a6feb6bf40b1454fd0be4 [] (GX AKe) [.mm 9 true (.tmp 7) (.tmp 8),.mm 11 false (.tmp 9) (.tmp 10)]
def Aku(a:(Int×(List B4)×Int)->AA (List B4))(c:Int)(h:(Int×(List B4))):AA (List B4):=match h with |(e,g)=>a ((e,g,w64 (c+1)))
def Akv(a:List B4):AA (List B4):=some a
def Amj(c:List B4)(q:(Int×(List B4)×Int)->AA (List B4))(E:(Int×(List B4)×Int)):AA (List B4):=match E with |(h,e,a)=>br (decide (a<(↑c.length:Int))) (bd (at? c a) fun y=>br (decide (y.Seq<=h)) (jn (Aku q a) (h,e)) (bd (at? c a) fun B=>br (w64 (B.Seq-1) != h) (jn Akv e) (bd (at? c a) fun j=>bd (at? c a) fun g=>gd (List.length e+[g].length<=lim) (jn (Aku q a) (j.Seq,e++[g]))))) (jn Akv e)
def AR4(a:List B4)(c:Int):AA (List B4):=A4 (Amj a) big (c,[],0)
def Yh:GF:=gZ [.v (.l (.st 15)),.v .i] Alr Bz 0x8c756532c18becf7606504c0dbba36b7a0aa236e58fa59c24d494c5f546aa18b89b563608eb9baaa9ba1231a8e77e4c4a97b338eb589274d6ec4da95e6db68ab0913970f2edea2f31862f38dfd9197d425d97a20314afa80b1 [] (Ah AR4)
def Akw(c:Bb)(h:Int)(g:Bool):AA (AD×Int×Bool):=br g (some ((AD.mk (AZ.mk [] 0 0 0 0 0 0 0 0) 0 0 [] [] [] [],0,false))) (bd (AI5 c h) fun a=>bd (ARD c.Log.Data) fun j=>bd (AR4 j a.snd.fst) fun q=>bd (ARG q) fun e=>bd (uF a.fst e) fun y=>some ((y.fst,w64 (a.snd.fst+(↑(List.length e):Int)),true)))
def AR5(a:Bb):AA (AD×Int×Bool):=bd (sY a) fun c=>bd (AAh a) fun e=>br (!e) (jn (Akw a c) true) (jn (Akw a c) (decide (c<0)))
def Yi:GF:=gZ ez AjT Alv 0x220ac891c2c11b674c87a1e2918ac1c9808fcada9ed23332a745cfa86efceaf463fe128612512234a7fd3680b4e249b6f492b14a3ca7444a0ff8a885d35c971b82f7a827df9480c728d933aa28f829a85cb8dc07fe1becf7f0caca7fead2d4a98b38418b1 [ANm,OC,ANl,AEF,Yh,AEI,QW] (BL AR5)
def AR6(a:Bu):AA Bool:=some (a.Safe==(↑a.Data.length:Int))
def Yj:GF:=gZ xZ ah b9 0xd59db5c3e78e71e837ab860 [] (BL AR6)
def Ai5(a:Bool):AA Bool:=some a
def AR7(a:Bb):AA Bool:=bd (AR6 a.Log) fun c=>br c (bd (AR6 a.Dl) fun e=>br e (bd (AR6 a.Odd) fun g=>jn (Ai5) g) (jn Ai5 false)) (jn Ai5 false)
def Yk:GF:=gZ ez ah b9 0x6361f0e36c60b1cbb7cab3ff150d91518ef21696e5d1e1fb9 [Yj] (BL AR7)
def Akx(g:List B4)(h:(Int×Int×Int)->AA Int)(c:Int)(a:Int):AA Int:=bd (at? g c) fun j=>bd (at? g c) fun e=>h ((a,e.Next,w64 (c+1)))
def Amk(a:Int):AA Int:=some a
def Aky(c:List B4)(B:(Int×Int×Int)->AA Int)(I:(Int×Int×Int)):AA Int:=match I with |(e,g,a)=>br (decide (a<(↑(List.length c):Int))) (bd (at? c a) fun E=>bd (at? c a) fun h=>br (decide (h.Seq>w64 (e+1))) (some g) (bd (at? c a) fun G=>bd (at? c a) fun j=>br (j.Seq==w64 (e+1)) (bd (at? c a) fun H=>bd (at? c a) fun q=>bd (ARA q.Body) fun y=>br (!y.snd) (some g) (jn (Akx c B a) (w64 (e+1)))) (jn (Akx c B a) e))) (jn Amk g)
def Nl(a:Bb)(e:Int)(c:Bool):AA Int:=br c (some 0) (bd (AI5 a e) fun g=>bd (ARD a.Log.Data) fun h=>A4 (Aky h) big (g.snd.fst,0,0))
def nO(a:Bb):AA Int:=bd (sY a) fun c=>bd (AAh a) fun e=>br (!e) (jn (Nl a c) true) (jn (Nl a c) (decide (c<0)))
def Yl:GF:=gZ ez Cm b9 0xe8febf89e9a615be6fda33bdaeca44c27baa0f98751438b413345510e05626c562a293beda784f7ef9d0fa63aa5c6bfa5a037b0a4a64be8199a2dd9d86cca9845b4c94621dadcceb2c5a9fb268dba9ae10ce8c252e813de7904234e541f5532eb56cdeae8aa0100338f3ddd20adf3a931c5fe4b411481000b21f5b457e45059faab1c9127f8cbfcbaf2c3c9a45ff8bcd763de03030f52083ebf03987d6d07cb6f1d7e5c5e51e4529c46594c41a [ANm,OC,ANl,AEF,AZC] (BL nO)
def Akz(a:Bu)(c:Int)(e:Bool):AA (Bu×Bool):=br e (some (a,false)) (gd (0<=c/\c<=(↑a.Data.length:Int)) (bd (ABB a.Safe c) fun g=>some ((Bu.mk (List.take c.toNat a.Data) g,true))))
def ABs(a:Bu)(c:Int):AA (Bu×Bool):=bd (WU a) fun e=>br (!e) (jn (Akz a c) true) (bd (Ee c 0 (↑a.Data.length:Int)) fun g=>jn (Akz a c) (!g))
def Sj:GF:=gZ IE (.ret [(.st 9),.b]) [.cell 4 (some 2),.tmp 5] 0x2ed5baf50fb890e98cb01265981b78c2c4dd8785d53fd1b5440d962d800c726439967f1a045e21019b9a088f9b92659b3b4d96c08d7 [KI,Fm,AED] (Ah ABs)
def Ak0(a:Bb)(e:(AD×Int×Bool))(h:Bool):AA (Ae×Bool):=br h (some ((Ae.mk (AD.mk (AZ.mk [] 0 0 0 0 0 0 0 0) 0 0 [] [] [] []) (Bb.mk (Bu.mk [] 0) (Bu.mk [] 0) (Bu.mk [] 0)) 0 [],false))) (bd (nO a) fun g=>bd (ABs a.Log g) fun c=>bd (ABs a.Log g) fun j=>TN c.fst j.fst (bd (nO a) fun q=>bd (ABs a.Log q) fun y=>TN c.fst y.fst (bd (AKN c.fst) fun B=>some ((Ae.mk e.fst (Bb.mk B a.Dl a.Odd) e.snd.fst [],true)))))
def Ae2(a:Bb):AA (Ae×Bool):=bd (AR5 a) fun c=>br (!c.snd.snd) (jn (Ak0 a c) true) (bd (AR7 a) fun e=>jn (Ak0 a c) (!e))
def Kw:GF:=gZ ez (.ret [(.st 11),.b]) AEq 0x6e6e9c77f8efa27f6d3ea9d11777fed5462605326aa2545a7b41632928faf8e36c774648a5574daf78036f209dbd1f91527972de8a56bd22243c3272069bea01f8a85d84c10a37ec53520a526710cc22eb3a355d0019c0377204007ef1250857cedf43da1f5cbce6ee769ce8146e5646d04db5812237c9c945d0e694b66aa711492de7282007ac72ac98a9f2b3d02ff9cdbb76f4e4492bd103cc5dba922ab17365fd5c29fce9bc9bc8f6f202dc8440200ba09d963a9f8db6ef284 [Yi,Yk,Yl,Sj,YD] (BL Ae2)
def Ak1(c:Bb)(h:Int)(g:Bool):AA (AD×Int×Bool):=br g (some ((AD.mk (AZ.mk [] 0 0 0 0 0 0 0 0) 0 0 [] [] [] [],0,false))) (bd (AJe c h) fun a=>bd (ARF c.Log.Data) fun j=>bd (ARJ j a.snd.fst) fun q=>bd (ARH q) fun e=>bd (AKd a.fst e) fun y=>some ((y.fst,w64 (a.snd.fst+(↑(List.length e):Int)),true)))
def AYV(a:Bb):AA (AD×Int×Bool):=bd (ABe a) fun c=>bd (AHz a) fun e=>br (!e) (jn (Ak1 a c) true) (jn (Ak1 a c) (decide (c<0)))
def Kx:GF:=gZ ez AjT Alv 0xec895c936a633fad2166a3e7d5d7b2f2284d112680529f2a1c6560b568dc04a3aa3cdd2936f9ee6f0f4aa6627e30d767626f0431782f74dfc78e7c2b4232c58472b5e590d10ce29c3a759ed02060e0b775344f06280827581e8fc24d761da500737f241917b51e578c049068f5 [dC,SK,VJ,AEH,AZE,AEJ,VW] (BL AYV)
def Ai6(a:Bool):AA Bool:=some a
def Ae3(a:Bb):AA Bool:=br (a.Log.Safe==(↑a.Log.Data.length:Int)) (br (a.Dl.Safe==(↑a.Dl.Data.length:Int)) (jn Ai6 (a.Odd.Safe==(↑a.Odd.Data.length:Int))) (jn Ai6 false)) (jn Ai6 false)
def Ky:GF:=gZ ez ah b9 0x1206ced749de81ebae6fdfc846460195d6bbb3533a673f1196c753b823be3dddceedc0589128519a7492a0233457485f21be5659ec667db5a1d75 [] (BL Ae3)
def Ak3(a:Int):AA Int:=some a
def Ak4(g:(Int×Int×Int)->AA Int)(a:Int)(e:B4)(c:Int):AA Int:=g ((c,e.Next,w64 (a+1)))
def Ak2(h:(Int×Int×Int)->AA Int)(j:Int)(a:Int)(c:Int)(g:B4)(e:Bool):AA Int:=br e (jn Ak3 a) (jn (Ak4 h c g) (w64 (j+1)))
def Aml(q:(AD×Int×Bool))(j:List B4)(h:(Int×Int×Int)->AA Int)(B:(Int×Int×Int)):AA Int:=match B with |(g,e,a)=>br (decide (a<(↑(List.length j):Int))) (bd (at? j a) fun y=>bd (at? j a) fun c=>br (decide (c.Seq>g)) (br (c.Seq != w64 (g+1)) (jn (Ak2 h g e a c) true) (jn (Ak2 h g e a c) (decide (c.Seq>q.snd.fst)))) (jn (Ak4 h a c) g)) (jn Ak3 e)
def Ae4(a:Bb):AA Int:=bd (AYV a) fun e=>br (!e.snd.snd) (some 0) (bd (ABe a) fun g=>bd (AJe a g) fun c=>bd (AJe a g) fun h=>eqv c.snd.fst h.snd.fst (NS c.fst h.fst (bd (ABe a) fun q=>bd (AJe a q) fun j=>eqv c.snd.fst j.snd.fst (NS c.fst j.fst (bd (ARF a.Log.Data) fun y=>A4 (Aml e y) big (c.snd.fst,0,0))))))
def Kz:GF:=gZ ez Cm b9 0xb9dce45a7e8e3c549adc99b25305068c2a909dea8429c0f9b7c5f473e92402b36f94b43c20831b01d29668a7445ed47b0df0789c6d3c73cc3150a3882949942e077d911e244622dbd5c5a71c385c85dc53522aead90f3f07f750ea27aaf8ecbab8ce72eab37051e3610ba7df38431b79381b3643ab01bb2bbc46b68695728c330d3503d74ddf9ca1e4ae96aaf241fadcdd65a8289bbde9c1e7cc85038c14a6871b34b78aefadaff3724b80c94cfd19b12efd1cec2fb25cd9f114bd1f53b134933909bfd5930bbae5d355efb76687aee3cecdcbb3e677336cd7d58651325ef6247995e8e06851f [Kx,dC,VJ,AEH] (BL Ae4)
def Ak5(a:Bu)(c:Int)(e:Bool):AA (Bu×Bool):=br e (some (a,false)) (gd (0<=c/\c<=(↑a.Data.length:Int)) (some ((Bu.mk (List.take c.toNat a.Data) (if false=true then if c>a.Safe then c else a.Safe else if c<a.Safe then c else a.Safe),true))))
def Ae5(a:Bu)(c:Int):AA (Bu×Bool):=bd (Tj a) fun e=>br (!e) (jn (Ak5 a c) true) (bd (DE c 0 (↑a.Data.length:Int)) fun g=>jn (Ak5 a c) (!g))
def K0:GF:=gZ IE (.ret [(.st 9),.b]) [.cell 4 (some 2),.tmp 5] 0xb12cf72dd5d915ae46ce521e5d3154d7a9ce6b69ed3f492649d4632b1265dfff2e9da5738d65d87df718e4bdf675b9efd24505a3 [Ku,EC] (Ah Ae5) [.mm 25 false (.tmp 23) (.tmp 24)]
def vA(a:Bb)(e:(AD×Int×Bool))(h:Bool):AA (Ae×Bool):=br h (some ((Ae.mk (AD.mk (AZ.mk [] 0 0 0 0 0 0 0 0) 0 0 [] [] [] []) (Bb.mk (Bu.mk [] 0) (Bu.mk [] 0) (Bu.mk [] 0)) 0 [],false))) (bd (Ae4 a) fun g=>bd (Ae5 a.Log g) fun c=>bd (Ae5 a.Log g) fun j=>TN c.fst j.fst (bd (Ae4 a) fun q=>bd (Ae5 a.Log q) fun y=>TN c.fst y.fst (bd (AQ3 c.fst) fun B=>some ((Ae.mk e.fst (Bb.mk B a.Dl a.Odd) e.snd.fst [],true)))))
def ABt(a:Bb):AA (Ae×Bool):=bd (AYV a) fun c=>br (!c.snd.snd) (jn (vA a c) true) (bd (Ae3 a) fun e=>jn (vA a c) (!e))
def Ym:GF:=gZ ez (.ret [(.st 11),.b]) AEq 0x5f2f4a1d0b00379c28f7bffe40187dae962e693ee81635c2ed2474254dd54dcd207269bbd99dd788755e92c67f7b789cd429421ce55dd93205adabf76a4df2177f66869f4bd1581f4245f60a5fcbf76ffe510dff9a9b84e89c98163d026a25491f484c895ec3ae93d6ff3ea83390673b80ec2ebe5035f3725ab34db308d46dd99dde830011899a4143ef79d83985ba0644870a6c9a9d56215f3c5c7031278ecf004110c2a2069e21 [Kx,Ky,Kz,K0,AD8] (BL ABt)
end Lv
set_option maxRecDepth 100000
namespace Lv
open Go (IntKind BinOp UnOp)
open Y (YF qn qf qt qr q1 qd qm qa qo ql qL qb qi qx qp qq qc qz qe qk qK qB qw qu qj Kp wn wf wt w1 sw sq sr wm wM wo wO wl wL wk wK wz wZ wx wX wb wB wi wI wr wR wq wQ we wE wc wY wj wh cv ca cx cn ce bl)
def AKg(c:CE)(e:Int):AA Int:=bd (AUr c.Ids e) fun a=>br (decide (a<0)) (some (-1)) (some a)
def xQ:GF:=gZ [.v (.st 12),.v .i] Cm Bz 0x35b8c267256b74768f484182d662e1fcac84374010 [ACO] (Ah AKg)
def Amm(a:Int):AA Int:=some a
def Amn(c:List CE)(h:(Int×Int)->AA Int)(q:(Int×Int)):AA Int:=match q with |(e,a)=>br (decide (a<(↑c.length:Int))) (bd (at? c a) fun j=>bd (AKg j e) fun g=>br (decide (g<0)) (some (-1)) (h ((g,w64 (a+1))))) (jn Amm e)
def AYW(a:List CE)(c:Int):AA Int:=br (decide (w64 (c-(↑a.length:Int))<0)) (some (-1)) (A4 (Amn a) big ((w64 (c-(↑a.length:Int)),0)))
def Sk:GF:=gZ [.v (.l (.st 12)),.v .i] Cm Bz 0x1ebae1edb83df36079cd145c9e4c3bc28ed3809cde8c90c667c58e633b2034745c478b8d74db8ba5b1b7cea9a48a8d625045b3124e80e53bb1 [xQ] (Ah AYW)
def AYX(a:GK)(h:Int):AA Int:=bd (AUu a.Cr h) fun c=>br (decide (c<0)) (some (-1)) (bd (Adc a.AGd c) fun e=>br (decide (e<0)) (some (-1)) (bd (AYW a.O4 e) fun g=>br (decide (g<0)) (some (-1)) (some g)))
def Yn:GF:=gZ [.v (.st 13),.v .i] Cm Bz 0x79f780894e2299c96d5733637ed8a212e1daa7120b75ce3566c2578617ab3349198727481cdd464b5ef5e74adb15ac768c22ff61cb [ACP,ALZ,Sk] (Ah AYX)
def ABu(a:CE):AA CE:=bd (AAA a.Ids) fun c=>some (CE.mk a.Code c)
def Sl:GF:=gZ [.v (.st 12)] (.ret [(.st 12)]) Ak9 0x16ca433e7a748f677b5d09f2e82201f58885d5e776ded16d5 [xX] (BL ABu)
def Amo(a:List CE):AA (List CE):=some a
def Ak6(e:List CE)(g:((List CE)×Int)->AA (List CE))(q:((List CE)×Int)):AA (List CE):=match q with |(c,a)=>br (decide (a<(↑e.length:Int))) (bd (at? e a) fun h=>bd (ABu h) fun j=>bd (at? c a) fun y=>bd (at? c a) fun B=>g ((List.set c a.toNat j,w64 (a+1)))) (jn Amo c)
def Ow(a:List CE):AA (List CE):=gd (0<=(↑a.length:Int)/\(↑a.length:Int)<=(↑lim:Int)) (A4 (Ak6 a) big ((List.replicate (↑a.length:Int).toNat (CE.mk 0 []),0)))
def My:GF:=gZ [.v (.l (.st 12))] (.ret [(.l (.st 12))]) b9 0x2ccda87ebe496dc54b9214e528febe7f7db181f13c70475802c0c5d6f920357830057c774e6b040f3f821db3423e81124181 [Sl] (BL Ow) [.Nt 7 (.st 12) (.tmp 6)]
def ABv(a:GK):AA GK:=bd (U2 a.Cr) fun c=>bd (AX7 a.AGd) fun e=>bd (Ow a.O4) fun g=>some (GK.mk c e g a.AAU)
def Yo:GF:=gZ [.v (.st 13)] (.ret [(.st 13)]) [.cell 2 (some 26)] 0x283fd6fa9438091115941a46113441d2ae7e547532df388499aa2793b8c13eb993bfbf7e6c7f1c170d2ced1372eb2f69beb3259ee2 [ACN,ALY,My] (BL ABv)
def AKj(a:List Int)(c:Int):AA Int:=br (decide (c<(↑a.length:Int))) (bd (at? a c) fun e=>some e) (some 0)
def Yp:GF:=gZ nU Cm Bz 0x13ae92df42242f814c2f6776935cd0e5f [] (Ah AKj)
def XX(a:Bu)(e:Int):AA Bu:=bd (WU a) fun g=>br (!g) (some a) (bd (ABB e (w64 ((↑a.Data.length:Int)-a.Safe))) fun h=>bd (JV 0 h) fun c=>gd (0<=w64 (a.Safe+c)/\w64 (a.Safe+c)<=(↑a.Data.length:Int)) (some (Bu.mk (List.take (w64 (a.Safe+c)).toNat a.Data) (w64 (a.Safe+c)))))
def K1:GF:=gZ IE lT Alu 0x41370eb6eaeff731a0beeb1f63e52e4cdf05027faec3ed2ff63d12a547eb7d7c09920ec52435eafe894c785b4a42c5b03dc0fe5ec772 [KI,AED,FZ] (Ah XX)
def AYY(a:Bb)(c:List Int):AA Bb:=bd (AKj c 0) fun e=>bd (XX a.Log e) fun g=>bd (AKj c 1) fun h=>bd (XX a.Dl h) fun j=>bd (AKj c 2) fun q=>bd (XX a.Odd q) fun y=>some (Bb.mk g j y)
def Sn:GF:=gZ [.v (.st 10),.v (.l .i)] Am1 [.cell 4 (some 6)] 0x386b3ccc9377e4667b90dd476b9b39f24e51714203220202b4851e894eb7738f65fa8063cd5f69c71c8a3b10c7be67ced7cfff7ada04ba [Yp,K1] (Ah AYY)
def AR8(a:GK)(e:List Int):AA Int:=bd (bP a.Cr) fun g=>br (!g) (some (-1)) (bd (AYY a.Cr.BO e) fun h=>bd (Ae2 h) fun c=>br (!c.snd) (some (-1)) (some (w64 (w64 (c.fst.Seq-a.Cr.Seq)+(↑a.Cr.Laid.length:Int)))))
def Yq:GF:=gZ xb Cm Bz 0xf494e9a9b3cf5897bb4b4e8f35e3e991143f28c3df99c49a6ca7dd1d40bc205fbba36c3770d03b80d0dfb91dda785fbdbaae4f8821783c29c65b7fe51 [Mn,Sn,Kw] (Ah AR8)
def ABw(a:Bu)(e:Int):AA Bu:=bd (Tj a) fun g=>br (!g) (some a) (bd (AKe e 0 (w64 ((↑a.Data.length:Int)-a.Safe))) fun c=>gd (0<=w64 (a.Safe+c)/\w64 (a.Safe+c)<=(↑a.Data.length:Int)) (some (Bu.mk (List.take (w64 (a.Safe+c)).toNat a.Data) (w64 (a.Safe+c)))))
def So:GF:=gZ IE lT Alu 0x7a0708928893a6ffcdddecc60501033814e86ff786915f03229b781be7646cfbc269daf2473f8b78593c9a86932b358f7e5082eae [Ku,VX] (Ah ABw)
def ABq(c:Bb)(a:List Int):AA Bb:=bd (at? (List.take (List.replicate (Int.toNat 3) 0).length a++List.drop a.length (List.replicate (Int.toNat 3) 0)) 0) fun B=>bd (at? (List.take (List.replicate (Int.toNat 3) 0).length a++List.drop a.length (List.replicate (Int.toNat 3) 0)) 0) fun e=>bd (at? (List.take (List.replicate (Int.toNat 3) 0).length a++List.drop a.length (List.replicate (Int.toNat 3) 0)) 1) fun E=>bd (at? (List.take (List.replicate (Int.toNat 3) 0).length a++List.drop a.length (List.replicate (Int.toNat 3) 0)) 1) fun g=>bd (at? (List.take (List.replicate (Int.toNat 3) 0).length a++List.drop a.length (List.replicate (Int.toNat 3) 0)) 2) fun G=>bd (at? (List.take (List.replicate (Int.toNat 3) 0).length a++List.drop a.length (List.replicate (Int.toNat 3) 0)) 2) fun h=>bd (ABw c.Log e) fun j=>bd (ABw c.Dl g) fun q=>bd (ABw c.Odd h) fun y=>some (Bb.mk j q y)
def VU:GF:=gZ [.v (.st 10),.v (.l .i)] Am1 [.cell 4 (some 6)] 0x7040d9de5002df66aa7e007edf9378ad341534666fbd1d070bece00e384f7ad0f30b0463bed7c3e74afc6aba4247005f9b92e7808fe8bd413b4420b62795fce96a55 [So] (Ah ABq) [.Nt 6 .i (.k (.int .i64 3)),.cpy 9 .i (.tmp 7) (.tmp 8)]
def AYS(a:GK)(e:List Int):AA Int:=bd (fQ a.Cr) fun g=>br (!g) (some (-1)) (bd (ABq a.Cr.BO e) fun h=>bd (ABt h) fun c=>br (!c.snd) (some (-1)) (some (w64 (w64 (c.fst.Seq-a.Cr.Seq)+(↑a.Cr.Laid.length:Int)))))
def Sf:GF:=gZ xb Cm Bz 0xf494e9a9b3cf5897bb4b4e8f35e3e991143f28c3df99c49a6ca7dd1d40bc205fbba36c3770d03b80d0dfb91dda785fbdbaae4f8821783c29c65b7fe51 [SL,VU,Ym] (Ah AYS)
def G2(a:GK)(c:List Int):AA Bool:=br (decide ((↑c.length:Int)>1048576)) (some true) (bd (AYX a 1048576) fun q=>br (decide (q<0)) (some true) (bd (ABv a) fun y=>bd (AAA c) fun B=>bd (AR8 y B) fun E=>bd (ABv a) fun h=>bd (AAA c) fun j=>bd (AYS h j) fun G=>br (G != E) (some false) (bd (ABv a) fun H=>bd (AQ6 h H) fun I=>br (!I) (some false) (bd (AAA c) fun e=>bd (nE j e) fun g=>br (!g) (some false) (some true)))))
def FF:GF:=gZ xb ah Bz 0x6abe3ff5cc9f3abd3aba1bfa7d4c408bc72b1cb61f7b01ffb06c37c2b3bf0187a323e0bfe207c181180a5dad231784248d0d7c3a975f829524accf1bd770204b4ede1ba753b1c486ee1e16bbc393ce73bd6b5195d5361ecdba23bbcafa55f2dcd9dfbea9fac7e74386aafaba1132c1decf9 [Yn,Yo,xX,Yq,Sf,AEB,VD] (Ah G2)
def Ai3(a:Bool):AA Bool:=some a
def uk(a:Ae)(e:Bool):AA Bool:=br e (some false) (bd (AYY a.BO []) fun g=>bd (AR5 g) fun c=>br c.snd.snd (br (c.snd.fst==w64 (a.Seq-(↑a.Laid.length:Int))) (bd (nJ c.fst a.BD) fun h=>jn (Ai3) h) (jn Ai3 false)) (jn Ai3 false))
def AYT(a:Ae):AA Bool:=bd (bP a) fun j=>br (!j) (some false) (bd (uF a.BD a.Laid) fun q=>bd (AYY a.BO ([20000,20000,20000])) fun h=>bd (AR5 h) fun g=>br (!g.snd.snd) (jn (uk a) true) (br (g.snd.fst != a.Seq) (jn (uk a) true) (bd (nO h) fun c=>br (c != (↑a.BO.Log.Data.length:Int)) (jn (uk a) true) (bd (nJ g.fst q.fst) fun e=>jn (uk a) (!e)))))
def Yc:GF:=gZ lQ ah b9 0x26e83d8c910deee41462e5e0ae8753ed2368524a7c868e3522abe06ca7cca477558c449a8dc92af2fbedab052fc195d6177b7dd76927e17a1adfbd1703643f95954696d0c61c419a374fedc4a62b750ce1c6f01db81370dcd30bcc33f6a71e77b346df85829944ae057476160c11cd5050482dbf8bb4cd8ff9722b388ffcab56d3a79154ababd0cf2009f8574a4035a7489ffcae283d6c363cb1137ce1e70b824501b7feda925bb29573ad9e6e9de6b7910f07af964b2a6b23ded89b089d937fad1bae1bb2941864d79bafb1b2050e61f3 [Mn,QW,Sn,Yi,Yl,OX] (BL AYT)
def c9(a:Bool):AA Bool:=some a
def AR0(a:AZ)(c:AZ):AA Bool:=bd (AJS a.AV c.AV) fun e=>br e (br (a.CJ==c.CJ) (br (a.Room==c.Room) (br (a.A2==c.A2) (br (a.CB==c.CB) (br (a.Bq==c.Bq) (br (a.Rest==c.Rest) (br (a.CL==c.CL) (jn c9 (a.Cs==c.Cs)) (jn c9 false)) (jn c9 false)) (jn c9 false)) (jn c9 false)) (jn c9 false)) (jn c9 false)) (jn c9 false)) (jn c9 false)
def Yd:GF:=gZ AEc ah Bz 0x104ff1c5332090c1dd55bf63bbf9c5bca04a1c1423e5b81a7bf61748a2c33e57904b2d19c5f1a1b849d1699fe3e8f6c56db427327ea3492bc53ea46a156b70b615e891d05c53a5188eb8c9ccbcc55cc306a08334ea6846a766ff09f2bee538f2f3c517666ee4c3 [SW] (Ah AR0)
def Ami(_:PUnit):AA Bool:=some true
def Akt(g:List AK)(j:List AK)(h:Int->AA Bool)(e:Int):AA Bool:=br (decide (e<(↑g.length:Int))) (bd (at? g e) fun a=>bd (at? j e) fun c=>br (!(a.Id==c.Id&&(a.Aa==c.Aa&&(a.Bl==c.Bl&&(a.A2==c.A2&&(a.Cj==c.Cj&&(a.Since==c.Since&&(a.Ap==c.Ap&&(a.State==c.State&&(a.Cf==c.Cf&&(a.Cu==c.Cu&&true))))))))))) (some false) (h (w64 (e+1)))) (jn Ami ())
def gz(a:List AK)(c:List AK):AA Bool:=br ((↑a.length:Int) != (↑c.length:Int)) (some false) (A4 (Akt a c) big 0)
def Mx:GF:=gZ AOE ah Bz 0xbeab8cf66678a42200b9419fee29dfa142ef0fcbcb0d4e6c3f90d142b0588d00529e4eecf7331a83f9356cc8e6dca41ed4b90d607c375a [] (Ah gz)
def uo(a:Bool):AA Bool:=some a
def AR1(a:An)(c:An):AA Bool:=bd (WW a) fun e=>br e (bd (WW c) fun g=>br g (bd (rG a) fun h=>bd (rG c) fun j=>bd (AHt h j) fun q=>jn (uo) q) (jn uo false)) (jn uo false)
def Ye:GF:=gZ AEd ah Bz 0x3ef477f4d61de85f0e228729e5d50ccf209bb9681f1a479b3406af417a9a9f6f2e67a2811ebca35c [Lj,OK,QO] (Ah AR1)
def r8(a:Bool):AA Bool:=some a
def AKZ(a:AY)(c:AY):AA Bool:=bd (AAu a) fun e=>br e (bd (AAu c) fun g=>br g (br (a.AV.Total==c.AV.Total&&(a.AV.DT==c.AV.DT&&(a.AV.EH==c.AV.EH&&(a.AV.Ep==c.AV.Ep&&(a.AV.E8==c.AV.E8&&true))))) (bd (AHn a.Row c.Row) fun h=>br h (bd (AR1 a.Bw c.Bw) fun j=>jn (r8) j) (jn r8 false)) (jn r8 false)) (jn r8 false)) (jn r8 false)
def VV:GF:=gZ AOF ah Bz 0x270d329afc8777d3775ab19f788ff309d1aad21b3db2343710cf7cb2d9fc708e7449faaa6ae96935512f875d0c1c88acd065e55cc304b [QK,QM,Ye] (Ah AKZ)
def AqU:YF:=⟨[VV],[.v (.l (.st 7)),.v (.l (.st 7)),.f VV.x []],[0],.ret [.b],[.tmp 6],dY 0x2ac96def525edc3b1e9520cfe887554020f7809cc72d9480b152709aa4c2983d3a5cd53fe2d0c31bb39b6c4908ef6e9dcd616fc7718d4c29fd3a6a9f8c41b82e75c34884289c1aa631d22599d [] [.D1 29 (.tmp 26) [.v,.v] [.tmp 27,.tmp 28]]⟩
def AKa(_:PUnit):AA Bool:=some true
def AKb(c:List AY)(g:List AY)(e:Int->AA Bool)(a:Int):AA Bool:=br (decide (a<(↑c.length:Int))) (bd (at? c a) fun h=>bd (at? g a) fun j=>bd (AKZ h j) fun q=>br (!q) (some false) (e (w64 (a+1)))) (jn AKa ())
def AR2(a:List AY)(c:List AY):AA Bool:=br ((↑a.length:Int) != (↑c.length:Int)) (some false) (A4 (AKb a c) big 0)
def Yf:GF:=AqU.D2 (Ah AR2)
def AqV:YF:=⟨[VV],[.v (.st 8),.v (.st 8)],[],.ret [.b],[.tmp 4],dY 0x588edfa91c03876ba10a3420e0fbff9872de084507745a9b765e7d110358eee61315b9213616cdea93154b828d3fd2af6b90de74f7d9ddd2fbad683e49bd3c13ddeaacd513c74d23641133e76dc975e650263cd206f98e3e1a97ffefe74c69b9db40d26 [Ji,Yd,Mx,SW] [.call 58 Yf [0] rfl [.tmp 55,.tmp 57,.fn 0]]⟩
def uq(a:Bool):AA Bool:=some a
def ABr(a:AD)(c:AD):AA Bool:=bd (WX a) fun e=>br e (bd (WX c) fun g=>br g (bd (AR0 a.AO c.AO) fun h=>br h (br (a.Now==c.Now) (br (a.Ap==c.Ap) (bd (gz a.AG c.AG) fun j=>br j (bd (AJS a.BC c.BC) fun q=>br q (bd (AJS a.A8 c.A8) fun y=>br y (bd (AR2 a.AI c.AI) fun B=>jn (uq) B) (jn uq false)) (jn uq false)) (jn uq false)) (jn uq false)) (jn uq false)) (jn uq false)) (jn uq false)) (jn uq false)
def Sg:GF:=AqV.D2 (Ah ABr)
def Ai4(a:Bool):AA Bool:=some a
def AiW(a:Ae)(e:Bool):AA Bool:=br e (some false) (bd (ABq a.BO []) fun g=>bd (AYV g) fun c=>br c.snd.snd (bd (ABr c.fst a.BD) fun h=>br h (jn Ai4 (c.snd.fst==w64 (a.Seq-(↑a.Laid.length:Int)))) (jn Ai4 false)) (jn Ai4 false))
def AYU(a:Ae):AA Bool:=bd (fQ a) fun j=>br (!j) (some false) (bd (ABq a.BO ([20000,20000,20000])) fun g=>bd (AYV g) fun h=>bd (AKd a.BD a.Laid) fun q=>br (!h.snd.snd) (jn (AiW a) true) (bd (ABr h.fst q.fst) fun c=>br (!c) (jn (AiW a) true) (br (h.snd.fst != a.Seq) (jn (AiW a) true) (bd (Ae4 g) fun e=>jn (AiW a) (e != (↑g.Log.Data.length:Int))))))
def Si:GF:=gZ lQ ah b9 0x892f89e9c755ad6df73afdd65b1ebfc972b48dc2d61d495221b5e6ff7a130a8c48f1d8405846abff2c33f93a01d4ec1262130896c66f3b977f04d0dcc1868c98bcdc3aa3e0eb73e45c7ecd2819cc6a6742e1158db2d16c688f78af65649738d502046f922a278320f75b882bc3f1ab1d6bbc41803d739d0b7bcbe15f05d429f4af6fd922efb1b20b9b4cd42bda956013185d9188ad3efc4eb9a7c1ac79a8c01f074beb6eaef0cbe7a9ad3cad4ce0e521ea45534b13c9cda700d0ba295fee2cabd9def65d540ff [SL,VU,Kx,VW,Sg,Kz] (BL AYU)
def Hz(a:Ae):AA Bool:=bd (AUu a 1048576) fun e=>br (decide (e<0)) (some true) (bd (U2 a) fun g=>bd (AYT g) fun h=>bd (U2 a) fun c=>bd (AYU c) fun j=>br (!j==h) (some false) (bd (U2 a) fun q=>bd (XA c q) fun y=>br (!y) (some false) (some true)))
def Fl:GF:=gZ lQ ah b9 0x73fafe240b984de8230ae44a4bdcdb357ff3e92f0e0067e7df6dd86f79d72b61d80c2a9c61dc9122abc7cf98bccb40f0c57596fb710dff657bb0bdccf240c96dd60a70da87d52f0 [ACP,ACN,Yc,Si,Xj] (BL Hz)
end Lv
set_option maxRecDepth 100000
namespace Lv
open Go (IntKind BinOp UnOp)
open Y (YF qn qf qt qr q1 qd qm qa qo ql qL qb qi qx qp qq qc qz qe qk qK qB qw qu qj Kp wn wf wt w1 sw sq sr wm wM wo wO wl wL wk wK wz wZ wx wX wb wB wi wI wr wR wq wQ we wE wc wY wj wh cv ca cx cn ce bl)
end Lv
