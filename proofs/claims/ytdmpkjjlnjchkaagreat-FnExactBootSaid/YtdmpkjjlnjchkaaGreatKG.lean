/- Functions of the program as typed texts and as plain functions. -/
import Derived.Test.YtdmpkjjlnjchkaaGreatKE
noncomputable section
set_option linter.unusedVariables false
set_option linter.unusedSimpArgs false
set_option linter.unusedSectionVars false
set_option maxRecDepth 100000
namespace Lv
open Go (IntKind BinOp UnOp)
open Y (YF qn qf qt qr q1 qd qm qa qo ql qL qb qi qx qp qq qc qz qe qk qK qB qw qu qj Kp wn wf wt w1 sw sq sr wm wM wo wO wl wL wk wK wz wZ wx wX wb wB wi wI wr wR wq wQ we wE wc wY wj wh cv ca cx cn ce bl)
def AJX(a:(C.l (.st 2)).D)(c:Int)(e:(C.l (.st 2)).D):AA (C.l (.st 2)).D:=AAH (.st 2) a c e
def ANp:GF:=Af1 (.st 2) rfl
def AJY(a:(C.l (.st 4)).D)(c:Int)(e:(C.l (.st 4)).D):AA (C.l (.st 4)).D:=AAH (.st 4) a c e
def ANq:GF:=Af1 (.st 4) rfl
def AJb(a:(C.l (.st 4)).D)(c:Int)(e:Int):AA (C.l (.st 4)).D:=ALK (.st 4) a c e
def ANr:GF:=Afr (.st 4) rfl rfl
def ARN(a:(C.l (.st 5)).D)(c:Int)(e:Int):AA (C.l (.st 5)).D:=ALK (.st 5) a c e
def dB:GF:=Afr (.st 5) rfl rfl
def MO(a:(C.l (.st 2)).D)(c:Int)(e:Int):AA (C.l (.st 2)).D:=ALK (.st 2) a c e
def Xr:GF:=Afr (.st 2) rfl rfl
def Ata(a:Bu):AA Bu:=some a
def ARO(a:Bu):AA Bu:=bd (ANV a) fun c=>br c (jn Ata (Bu.mk a.Data (↑a.Data.length:Int))) (jn Ata a)
def Xs:GF:=gZ ALa Awr Ayt 0x21ac709b29e4e36c447c697217955fb809392a7d664a [T7] (BL ARO)
def Ae1(a:AK)(c:Int):AA Bool:=some (a.Id==c)
def Jj:GF:=gZ [.v (.st 2),.p .i] Sz [.tmp 3] 0x1f51e3de7d82f0e0aaa5ce [] (Ah Ae1)
def A0e:YF:=A0p Jj 2 0xcc893ca453a36c6c2f86cde67540faaed6444e20a6413614ab33e2276d385f5f1ca5f88245825f620ee659fb5c3413e
def Ama(_:PUnit):AA Int:=some (-1)
def AkV(e:List AK)(a:Int)(g:Int->AA Int)(c:Int):AA Int:=br (decide (c<(↑e.length:Int))) (bd (at? e c) fun h=>bd (Ae1 h a) fun j=>br j (some c) (g (w64 (c+1)))) (jn Ama ())
def AJ8(c:List AK)(a:Int):AA Int:=A4 (AkV c a) big 0
def SY:GF:=A0e.gf rfl rfl (fun a=>AJ8 a.1 a.2.1.1) (fun a=>by kernel_rfl)
def A0f:YF:=⟨[Jj],[.v (.l (.st 2)),.v .i],[],.ret [.i],[.tmp 4],dY 0x1b9b040a4389c9f4c2300 [] [.PF 6 0 [.tmp 3],.call 7 SY [0] rfl [.tmp 5,.tmp 6]]⟩
def ARY(a:List AK)(c:Int):AA Int:=bd (AJ8 a c) fun e=>some e
def Xv:GF:=A0f.D2 (Ah ARY)
def tw(a:AD)(c:Int):AA Int:=bd (ARY a.AG c) fun e=>some e
def SZ:GF:=gZ lQ Cm Bz 0x2c107f48f0204373aeed5 [Xv] (Ah tw)
def AKD(a:AD)(c:Int):AA Int:=bd (at? a.AI c) fun e=>bd (at? a.AI c) fun g=>some (w64 (e.AV.Ep-g.AV.E8))
def Xw:GF:=gZ lQ Cm Bz 0x64238ffe665e1616c152a0a7c207a7f7e881a50f05e6dab200a74 [] (Ah AKD)
def Atg(a:Bool):AA Bool:=some a
def nK(a:AK)(c:Int):AA Bool:=br (a.State==2) (jn Atg (decide (a.Cf<=c))) (jn Atg false)
def Sa:GF:=gZ Aoi Sz Bz 0x17c516faa028a23a9ea9511735d86c26aa8341bc70 [] (Ah nK)
def gp(_:PUnit):AA Int:=some 0
def Ath(c:AD)(a:Bool):AA Int:=br a (some 10) (br (decide (c.Ap>1000000)) (some 11) (jn gp ()))
def Aqc(a:AD)(c:BX)(g:Bool):AA Int:=br g (some 4) (bd (qC c.A2 1 a.AO.A2) fun h=>br (!h) (some 5) (br (decide (c.Cj>=a.AO.CJ)) (some 6) (bd (qC c.Id 1 999) fun j=>br (!j) (some 7) (bd (tw a c.Id) fun q=>br (decide (q>=0)) (some 8) (bd (AHO a.AG c.Aa) fun y=>br (decide (y>=a.AO.Room)) (some 9) (br (c.Bl != -1) (bd (AKD a c.Bl) fun e=>jn (Ath a) (decide (e<c.A2))) (jn (Ath a) false)))))))
def Atj(a:Bool):AA Int:=br a (some 17) (jn gp ())
def Ati(a:AD)(e:BX)(g:Bool):AA Int:=br g (bd (tw a e.Id) fun c=>br (decide (c<0)) (some 7) (bd (at? a.AG c) fun h=>br (h.State != 2) (some 13) (bd (at? a.AG c) fun j=>bd (nK j a.Now) fun q=>br q (some 14) (jn gp ())))) (br (e.Kind==6) (br (a.Now==1000000) (some 15) (jn gp ())) (br (e.Kind==7) (br (decide (e.Id>=a.AO.Cs)) (some 16) (bd (at? a.A8 e.Id) fun y=>br (y == -1) (jn Atj ((↑a.BC.length:Int)==0)) (jn Atj false))) (jn gp ())))
def nL(c:AD)(a:BX):AA Int:=bd (AAu c) fun y=>br (!y) (some 1) (bd (qC a.Kind 1 7) fun B=>br (!B) (some 2) (bd (AQb a) fun E=>br (!E) (some 3) (br (a.Kind==1) (bd (AAj a.Aa (↑c.AI.length:Int)) fun G=>br (!G) (jn (Aqc c a) true) (bd (qC a.Bl (-1) (w64 ((↑c.AI.length:Int)-1))) fun e=>br (!e) (jn (Aqc c a) true) (jn (Aqc c a) (a.Bl==a.Aa)))) (br (a.Kind==2) (bd (tw c a.Id) fun g=>br (decide (g<0)) (some 7) (jn gp ())) (br (a.Kind==3) (bd (AAj a.Aa (↑c.AI.length:Int)) fun h=>br (!h) (some 4) (bd (qC a.A2 1 60) fun j=>br (!j) (some 5) (bd (AKD c a.Aa) fun q=>br (decide (q<a.A2)) (some 12) (jn gp ())))) (br (a.Kind==4) (jn (Ati c a) (a.Kind==4)) (jn (Ati c a) (a.Kind==5))))))))
def Xx:GF:=gZ AOD Cm Bz 0x2253b895c82401fd77e51f58312c8ee5fd705cfce358a7698fb9d10717be2628305bf3497cd097d26c4aa331a76bc8022fe25777bddd03dcc90ac2ef76126703253a9fc5658aacaadbc56069366e0101b43615b2ba89ff77a10c02dc1cd919d031f563182b19e0b9b8f25c6a3f041661e51f7afe93feaa70602fd498dab1332a23d0867ea3925a753438c9c48f2def7adecc18eabe5a72e44a394edff1cff417b38c9eb45eaab25c4bdf662fce5fe3f266210f805bef4124de6dd5b54d5c2470650f39476863b613aa1463c51e8d24d58c698fface0209a7ea138c6f762d51eaaee53e3df745b43ad34fb79ac65a6102960310a2f006bf46780907c00fb8744aa8c7ff3b7475a32d665faeb3519f70403e221c20900e57b31db4d94c056bcdee34460b1bf1b684a39a7c49761b314545720759569ba284e2eebc5d1c7b44459da6a879235a7ef899a62f41bdd6663411df91af4ce234cf33265182ba8d8fc702f0c9977bf6e4e23575a1573067d8a7299eec72b6583785157bd7e6e1b693c7ba636ef48511432da53ee3e74b33c9cad601e836e78354caabbf214a6c8e3e913ab26d0dff66850e5bd187ae80f164678ad40fe4b1271f72185a0e2dccd035d72b427223faa2e35c5466aca91e85f9a497dae52427609b8038577df57563757fe40c48ee6d6e989c7c353b154416bdd05766 [QK,OE,QL,P8,SZ,QA,Xw,Sa] (Ah nL)
def nM(a:AK)(c:AK):AA Bool:=some (decide (a.Id>c.Id))
def VM:GF:=gZ [.v (.st 2),.p (.st 2)] Sz [.tmp 3] 0xc89e4c2068be366387464 [] (Ah nM)
def A0g:YF:=⟨[VM],[.v (.l (.st 2)),.f VM.x [(true,(.st 2))]],[0],.ret [.i],[.tmp 4],dY 0xcc893ca453a36c6c2f86cde67540faaed6444e20a6413614ab33e2276d385f5f1ca5f88245825f620ee659fb5c3413e [] [.D1 16 (.tmp 11) [.v,.p] [.tmp 15]]⟩
def Awi(_:PUnit):AA Int:=some (-1)
def Aiz(e:List AK)(a:AK)(g:Int->AA Int)(c:Int):AA Int:=br (decide (c<(↑e.length:Int))) (bd (at? e c) fun h=>bd (nM h a) fun j=>br j (some c) (g (w64 (c+1)))) (jn Awi ())
def ARZ(c:List AK)(a:AK):AA Int:=A4 (Aiz c a) big 0
def Xy:GF:=A0g.gf rfl rfl (fun a=>ARZ a.1 a.2.1.1) (fun a=>by kernel_rfl)
def A0h:YF:=⟨[VM],[.v (.l (.st 2)),.v (.st 2)],[],.ret [(.l (.st 2))],[.tmp 4],dY 0x296a50eeeeadff8c1c238ef17adc3fb189ec49b98d8b3d1bf627aa19da25165e525f15c970e5731f4c649bfd5a465abc59daddb70958b9af4217aa370766f353bad [Xv,ANp] [.PF 22 0 [.tmp 3],.call 23 Xy [0] rfl [.tmp 21,.tmp 22]]⟩
def Atk(a:List AK)(c:AK)(e:Int):AA (List AK):=bd (AJX a e [c]) fun g=>some g
def ARa(a:List AK)(c:AK):AA (List AK):=gd (0+a.length<=lim) (bd (ARY a c.Id) fun e=>br (decide (e>=0)) (bd (at? a e) fun h=>bd (at? a e) fun j=>some (a.set (Int.toNat e) c)) (bd (ARZ a c) fun g=>br (decide (g<0)) (jn (Atk a c) (↑a.length:Int)) (jn (Atk a c) g)))
def Xz:GF:=A0h.D2 (Ah ARa)
def Atm(c:List Ad)(e:List Ad)(a:Bool):AA ((List Ad)×Bool):=br a (some (c,false)) (some (e,true))
def Atl(c:List Ad)(q:Ad)(B:List Ad)(y:Int):AA ((List Ad)×Bool):=bd (AA8 c) fun E=>bd (AJY E y [q]) fun a=>bd (AA8 c) fun e=>bd (AJY e y [q]) fun g=>eqv a g (bd (nA c) fun h=>br (!h) (jn (Atm B a) true) (bd (nA a) fun j=>jn (Atm B a) (!j)))
def AKG(e:List Ad)(g:Ad)(j:List Ad)(c:Int->AA ((List Ad)×Bool))(a:Int)(h:Bool):AA ((List Ad)×Bool):=br h (c (w64 (a+1))) (jn (Atl e g j) a)
def uE(a:List Ad)(e:Ad)(h:List Ad)(g:Int->AA ((List Ad)×Bool))(c:Int):AA ((List Ad)×Bool):=br (decide (c<(↑a.length:Int))) (bd (at? a c) fun j=>bd (AQT j e) fun q=>jn (AKG a e h g c) q) (jn (AKG a e h g c) false)
def ARb(a:List Ad)(c:Ad):AA ((List Ad)×Bool):=bd (AA8 a) fun e=>A4 (uE a c e) big 0
def YA:GF:=gZ AOC Alr Aw4 0x4f4c26e9d4540bee7f7b321f0b130eaa45dc058e5cbff0b88880a42071892f81ed0c8d545c8227f13168882345256df54809908180200eba16ae4eaae0fe2110ce88938176344169d64b7e09776257e821881eaf622dc81bb4545e679537c3b75782a6e26342cb1ab0f07b45de75466bfff98f8646bcd [AZB,R3,ANq,OF] (Ah ARb)
def uF(a:A9)(c:Int):AA A9:=some (A9.mk a.Total a.DT a.EH a.Ep (w64 (a.E8+c)))
def QW:GF:=gZ AsF Aie [] 0xee93ad1e1a368b089606a0dad6003ea [] (Ah uF)
def A01:=fun (a:GF)=>(⟨[a],[.v (.st 3),.v .i,.f a.x [(true,.i)]],[0],.ret [(.st 3),.b],[.cell 6 (some 5),.tmp 7],dY 0x26afcd4b432631e20bed10ed32de5cffe0a6a9745405323170257ab433661c8aa6f95ac8bfa86ba5bf965ddfa5ec1a1fc24b043eaa155b9eaf673a0 [QB,OE] [.D1 20 (.tmp 19) [.b,.p] [.tmp 8]]⟩:YF)
def A0i:YF:=A01 QW
def Atn(c:A9)(a:Int)(g:Bool):AA (A9×Bool):=br g (some (c,false)) (bd (uF c a) fun e=>bd (AHR e) fun h=>br (!h) (some (c,false)) (some (e,true)))
def AKJ(c:A9)(e:Int)(a:Int):AA (A9×Bool):=bd (AHR c) fun g=>br (!g) (jn (Atn c a) true) (bd (qC e 0 60) fun h=>jn (Atn c a) (!h))
def YB:GF:=A0i.gf rfl rfl (fun a=>AKJ a.1 a.2.1 a.2.2.1.1) (fun a=>by kernel_rfl)
def A0j:YF:=⟨[QW],[.v (.st 3),.v .i],[],.ret [(.st 3),.b],[.cell 4 (some 5),.tmp 5],dY 0x103c724bff26c4db6dcd63ec525fc8319ffe7416 [] [.PF 8 0 [.tmp 3],.call 9 YB [0] rfl [.tmp 6,.tmp 7,.tmp 8]]⟩
def AKL(e:A9)(a:Int):AA (A9×Bool):=bd (AKJ e a a) fun c=>some (c.fst,c.snd)
def VN:GF:=A0j.D2 (Ah AKL)
def gb(a:List Int):AA (List Int):=some a
def AKM(e:List Int)(a:Int):AA (List Int):=bd (AAz e) fun c=>bd (WW e a) fun g=>br (!g) (gd (List.length c+[a].length<=lim) (jn (gb) (c++[a]))) (jn gb c)
def YC:GF:=gZ Qa Am1 Bz 0x1585cd5e7d474f73a90947b278cf98383b7f1dc2538970a79eb6640 [xH,Lj] (Ah AKM)
def Ato(e:Int)(a:AD):AA (AD×Int):=bd (AKM a.BC e) fun c=>some (AD.mk a.AO a.Now a.Ap a.AG a.AI c a.A8,0)
def XP(h:AD)(B:Int)(c:Int)(g:Int)(y:Int)(E:Int):AA (AD×Int):=bd (AYN h) fun a=>bd (nL h (BX.mk 1 B c g y E)) fun I=>br (I != 0) (some (a,I)) (bd (ARa a.AG (AK.mk B c g y E h.Now h.Ap 1 0 0)) fun J=>bd (qg a.AO (AK.mk B c g y E h.Now h.Ap 1 0 0) a.Now) fun Q=>bd (at? a.AI c) fun X=>bd (at? a.AI c) fun S=>bd (ARb S.Row Q.fst) fun j=>bd (at? a.AI c) fun Y=>bd (at? a.AI c) fun e=>br (g != -1) (bd (at? (a.AI.set c.toNat (AY.mk e.AV j.fst e.Bw)) g) fun L=>bd (at? (a.AI.set c.toNat (AY.mk e.AV j.fst e.Bw)) g) fun G=>bd (AKL G.AV y) fun H=>bd (at? (a.AI.set c.toNat (AY.mk e.AV j.fst e.Bw)) g) fun O=>bd (at? (a.AI.set c.toNat (AY.mk e.AV j.fst e.Bw)) g) fun q=>jn (Ato c) (AD.mk a.AO a.Now (w64 (a.Ap+1)) J ((a.AI.set c.toNat (AY.mk e.AV j.fst e.Bw)).set g.toNat (AY.mk H.fst q.Row q.Bw)) a.BC a.A8)) (jn (Ato c) (AD.mk a.AO a.Now (w64 (a.Ap+1)) J (a.AI.set c.toNat (AY.mk e.AV j.fst e.Bw)) a.BC a.A8)))
def QX:GF:=gZ AOF AiY Ays 0x9ad2d5b3ec2f04a6f1f46c1b9eb856e1e0eb7d483b92c2ba30725f48a1707ca0bb0b38ab42f6e522cd211bf5d05c448da0954317977d96a2da5634728f7f352287cb0257af14d520ae45fcaa919d3e5da5b7fc889fea37577763a014a6efeaf046fdb1f6c9743dbfedd3701f3373a46527040b70e39598f287fbda1299ac8d88d523f1889db1c03ec03cfc5e275ef9f8f6d4f4361811b9bae14a5b1369ce43c7ab110b28d15434f5038758819044c334f97be5be5aa37dc8f7f2bd98dc1a55d3f3c940602024b6932a5cb5f1ee31be688f6e804b1ab8022c51541b36d17f04 [AD6,Xx,Xz,Mq,YA,VN,YC] (APx XP)
def gh(c:List Ad)(g:Int):AA ((List Ad)×Bool):=bd (AA8 c) fun e=>bd (bR c g) fun a=>br (decide (a<0)) (some (e,false)) (bd (AJb e a (w64 (a+1))) fun h=>some (h,true))
def QY:GF:=gZ Ak7 Alr Aw4 0x11b669426028491cbc84c09abae8fbed1f6bba7ff1289e067192b95f5dc2d720f76c074a9 [AZB,Mo,ANr] (Ah gh)
def Awj(_:PUnit):AA Int:=some (-1)
def Awk(c:List A6)(e:A6)(h:Int->AA Int)(a:Int):AA Int:=br (decide (a<(↑c.length:Int))) (bd (at? c a) fun g=>br (e.At==g.At&&(e.Id==g.Id&&true)) (some a) (h (w64 (a+1)))) (jn Awj ())
def AKN(a:List A6)(c:A6):AA Int:=A4 (Awk a c) big 0
def YD:GF:=gZ dL Cm Bz 0x6e1ec9da98ac6ab3df539c0c35222cdcd87c7ada1dd38cdabbb74ad9194784a474fa732afb07b4d6e8ba9d236b3dc7 [] (Ah AKN)
def uL(a:A6)(c:An)(h:Bool):AA (An×Bool):=br h (some (c,false)) (bd (at? c.Ak (a.At.tmod 9)) fun q=>bd (at? c.Ak (a.At.tmod 9)) fun g=>bd (AKN g a) fun e=>br (decide (e<0)) (some (c,false)) (bd (ARN g e (w64 (e+1))) fun j=>bd (at? c.Ak (a.At.tmod 9)) fun y=>bd (at? c.Ak (a.At.tmod 9)) fun B=>gd (Y.Od (a.At.tmod 9).toNat 0 1 [((a.At.tmod 9).toNat,0)]) (some ((An.mk (c.Ak.set (a.At.tmod 9).toNat j),true)))))
def ABk(e:An)(a:A6):AA (An×Bool):=bd (AQ1 e) fun g=>bd (AAp e) fun h=>br (!h) (jn (uL a g) true) (bd (qN a) fun c=>jn (uL a g) (!c))
def YE:GF:=gZ AiX AsG AvV 0x63d83663382b34e5531f676cdfa075b4eeba1fb84745cad0737a47bcc1abc0b2ee16869fbfc5061f7428725797889002f317e7a68411620aa348d881f7020409c5bcd7a6b2d47802b31e95016953753f89c488956d412f3cc7836848ccabaaef17fea1a7f5a5de7d8 [Xp,OG,Mp,YD,dB] (Ah ABk)
def Ni(a:A9)(c:Int):AA A9:=some (A9.mk a.Total (w64 (a.DT+c)) (w64 (a.EH-c)) a.Ep a.E8)
def QZ:GF:=gZ AsF Aie [] 0x663bbcaa167850f26ed5603c3c6a8a8321c177882c4e3dca524c342ef160 [] (Ah Ni)
def AqH:YF:=A01 QZ
def gi(c:A9)(a:Int)(g:Bool):AA (A9×Bool):=br g (some (c,false)) (bd (Ni c a) fun e=>bd (AHR e) fun h=>br (!h) (some (c,false)) (some (e,true)))
def XR(c:A9)(e:Int)(a:Int):AA (A9×Bool):=bd (AHR c) fun g=>br (!g) (jn (gi c a) true) (bd (qC e 0 60) fun h=>jn (gi c a) (!h))
def Sb:GF:=AqH.gf rfl rfl (fun a=>XR a.1 a.2.1 a.2.2.1.1) (fun a=>by kernel_rfl)
def A0k:YF:=⟨[QZ],[.v (.st 3),.v .i],[],.ret [(.st 3),.b],[.cell 4 (some 5),.tmp 5],dY 0x103c724bff26c4db6dcd63ec525fc8319ffe7416 [] [.PF 8 0 [.tmp 3],.call 9 Sb [0] rfl [.tmp 6,.tmp 7,.tmp 8]]⟩
def ARc(e:A9)(a:Int):AA (A9×Bool):=bd (XR e a a) fun c=>some (c.fst,c.snd)
def AZP:GF:=A0k.D2 (Ah ARc)
def AKO(a:A9)(c:Int):AA A9:=some (A9.mk a.Total a.DT a.EH a.Ep (w64 (a.E8-c)))
def ANx:GF:=gZ AsF Aie [] 0x30aa6e63dacc3684170fae66568b57f2 [] (Ah AKO)
def A0l:YF:=A01 ANx
def Py(c:A9)(a:Int)(g:Bool):AA (A9×Bool):=br g (some (c,false)) (bd (AKO c a) fun e=>bd (AHR e) fun h=>br (!h) (some (c,false)) (some (e,true)))
def ARd(c:A9)(e:Int)(a:Int):AA (A9×Bool):=bd (AHR c) fun g=>br (!g) (jn (Py c a) true) (bd (qC e 0 60) fun h=>jn (Py c a) (!h))
def AZQ:GF:=A0l.gf rfl rfl (fun a=>ARd a.1 a.2.1 a.2.2.1.1) (fun a=>by kernel_rfl)
def A0m:YF:=⟨[ANx],[.v (.st 3),.v .i],[],.ret [(.st 3),.b],[.cell 4 (some 5),.tmp 5],dY 0x103c724bff26c4db6dcd63ec525fc8319ffe7416 [] [.PF 8 0 [.tmp 3],.call 9 AZQ [0] rfl [.tmp 6,.tmp 7,.tmp 8]]⟩
def AKP(e:A9)(a:Int):AA (A9×Bool):=bd (ARd e a a) fun c=>some (c.fst,c.snd)
def ANy:GF:=A0m.D2 (Ah AKP)
def uM(a:List AK):AA (List AK):=some a
def ARe(a:List AK)(e:Int):AA (List AK):=gd (0+a.length<=lim) (bd (ARY a e) fun c=>br (decide (c>=0)) (bd (MO a c (w64 (c+1))) fun g=>jn (uM) g) (jn uM a))
def AZR:GF:=gZ Aqi (.ret [(.l (.st 2))]) Bz 0x39f3f3e4ebff1a5b61a4ecc3687999bc128bdb13aa8ad2073701c1e06a8d9caf4172cacc [Xv,Xr] (Ah ARe)
def AmV(e:Int)(a:AD):AA (AD×Int):=bd (ARe a.AG e) fun c=>some (AD.mk a.AO a.Now a.Ap c a.AI a.BC a.A8,0)
def gU(j:Int)(c:AK)(a:AD):AA (AD×Int):=br (c.Bl != -1) (bd (at? a.AI c.Bl) fun q=>bd (at? a.AI c.Bl) fun g=>bd (AKP g.AV c.A2) fun h=>bd (at? a.AI c.Bl) fun y=>bd (at? a.AI c.Bl) fun e=>jn (AmV j) (AD.mk a.AO a.Now a.Ap a.AG (a.AI.set c.Bl.toNat (AY.mk h.fst e.Row e.Bw)) a.BC a.A8)) (jn (AmV j) a)
def AJx(j:AD)(g:Int):AA (AD×Int):=bd (AYN j) fun a=>bd (nL j (BX.mk 2 g 0 0 0 0)) fun I=>br (I != 0) (some (a,I)) (bd (tw j g) fun J=>bd (at? j.AG J) fun c=>bd (tw j g) fun L=>bd (at? j.AG L) fun O=>MF c O (bd (at? a.AI c.Aa) fun X=>br (c.State==1) (bd (at? a.AI c.Aa) fun Q=>bd (gh Q.Row g) fun S=>bd (at? a.AI c.Aa) fun q=>jn (gU g c) (AD.mk a.AO a.Now a.Ap a.AG (a.AI.set c.Aa.toNat (AY.mk q.AV S.fst q.Bw)) a.BC a.A8)) (bd (at? a.AI c.Aa) fun B=>bd (ABk B.Bw (A6.mk c.Cf g)) fun h=>bd (at? a.AI c.Aa) fun e=>bd (at? (a.AI.set c.Aa.toNat (AY.mk e.AV e.Row h.fst)) c.Aa) fun E=>bd (ARc E.AV c.A2) fun G=>bd (at? (a.AI.set c.Aa.toNat (AY.mk e.AV e.Row h.fst)) c.Aa) fun y=>bd (AKM a.BC c.Aa) fun H=>jn (gU g c) (AD.mk a.AO a.Now a.Ap a.AG ((a.AI.set c.Aa.toNat (AY.mk e.AV e.Row h.fst)).set c.Aa.toNat (AY.mk G.fst y.Row y.Bw)) H a.A8))))
def ANu:GF:=gZ lQ AiY Aqd 0x1c12772dee9f8906ae01ee17be6fd9ff451a8e6d0da52946c9e61dd0193216d6c765e3ecce9830920caef35929781207bb40d4d39254724f126a2b051f828897d0bf3abd3dda465e3075cf2edd15a47cf02562d8c0bb6118a2136f282d114ee1c9f2e4d2845babb8d27cd3194add76949c8b204fcba6d03524e17b527024481e6be084a38c4997bc75cfc7d7fde4eea2d1eeca36ffa0d5458c561638030fe1099c6045fff9571c798f69d9c96c73f20fa2a5f585ba0e5aa34a6d2b2d96cd65c6326143fbbd72f2ed445fed1a7496c2d27d615a00f54f38c5a4f9ba9e8a53423debb00295b54aee5f385c67ff2dbb19613c2b440d339492fcbcb38007d5b92b [AD6,Xx,SZ,QY,YE,AZP,YC,ANy,AZR] (Ah AJx)
def ARU(a:A9)(c:Int):AA A9:=some (A9.mk a.Total (w64 (a.DT+c)) a.EH (w64 (a.Ep-c)) a.E8)
def AZJ:GF:=gZ AsF Aie [] 0xbc4c110a40e570850d717e4f9912993d4750be2617e3517d4650fdc9474c [] (Ah ARU)
def A0a:YF:=A01 AZJ
def gV(c:A9)(a:Int)(g:Bool):AA (A9×Bool):=br g (some (c,false)) (bd (ARU c a) fun e=>bd (AHR e) fun h=>br (!h) (some (c,false)) (some (e,true)))
def AJ0(c:A9)(e:Int)(a:Int):AA (A9×Bool):=bd (AHR c) fun g=>br (!g) (jn (gV c a) true) (bd (qC e 0 60) fun h=>jn (gV c a) (!h))
def ANv:GF:=A0a.gf rfl rfl (fun a=>AJ0 a.1 a.2.1 a.2.2.1.1) (fun a=>by kernel_rfl)
def A0b:YF:=⟨[AZJ],[.v (.st 3),.v .i],[],.ret [(.st 3),.b],[.cell 4 (some 5),.tmp 5],dY 0x103c724bff26c4db6dcd63ec525fc8319ffe7416 [] [.PF 8 0 [.tmp 3],.call 9 ANv [0] rfl [.tmp 6,.tmp 7,.tmp 8]]⟩
def ARV(e:A9)(a:Int):AA (A9×Bool):=bd (AJ0 e a a) fun c=>some (c.fst,c.snd)
def AZK:GF:=A0b.D2 (Ah ARV)
def AJ3(e:AD)(c:Int)(g:Int):AA (AD×Int):=bd (AYN e) fun a=>bd (nL e (BX.mk 3 0 c 0 g 0)) fun h=>br (h != 0) (some (a,h)) (bd (at? a.AI c) fun E=>bd (at? a.AI c) fun q=>bd (ARV q.AV g) fun y=>bd (at? a.AI c) fun G=>bd (at? a.AI c) fun j=>bd (AKM a.BC c) fun B=>some ((AD.mk a.AO a.Now a.Ap a.AG (a.AI.set c.toNat (AY.mk y.fst j.Row j.Bw)) B a.A8,0)))
def ANw:GF:=gZ [.v (.st 8),.v .i,.v .i] AiY Als 0x18f841a96563af94ab9084469d498af57a40af16250c8ec330b8ed0829754b9f30a2c21f2d4aae651385f19c722af24d55cfbf227611ddc947ec02d27a868456f595acffb56edb5f3f62f12c55f2afdf2ae470a5b050c2c0e6bf67c77733 [AD6,Xx,AZK,YC] (GX AJ3)
def ARW(a:A9)(c:Int):AA A9:=some (A9.mk a.Total a.DT (w64 (a.EH-c)) (w64 (a.Ep+c)) a.E8)
def AZL:GF:=gZ AsF Aie [] 0xfc742ab3c8546fc2562693b14a23085baa54656252bb798b31af146ce0fc [] (Ah ARW)
def A0c:YF:=A01 AZL
def AkT(c:A9)(a:Int)(g:Bool):AA (A9×Bool):=br g (some (c,false)) (bd (ARW c a) fun e=>bd (AHR e) fun h=>br (!h) (some (c,false)) (some (e,true)))
def AYP(c:A9)(e:Int)(a:Int):AA (A9×Bool):=bd (AHR c) fun g=>br (!g) (jn (AkT c a) true) (bd (qC e 0 60) fun h=>jn (AkT c a) (!h))
def AZM:GF:=A0c.gf rfl rfl (fun a=>AYP a.1 a.2.1 a.2.2.1.1) (fun a=>by kernel_rfl)
def A0d:YF:=⟨[AZL],[.v (.st 3),.v .i],[],.ret [(.st 3),.b],[.cell 4 (some 5),.tmp 5],dY 0x103c724bff26c4db6dcd63ec525fc8319ffe7416 [] [.PF 8 0 [.tmp 3],.call 9 AZM [0] rfl [.tmp 6,.tmp 7,.tmp 8]]⟩
def ARX(e:A9)(a:Int):AA (A9×Bool):=bd (AYP e a a) fun c=>some (c.fst,c.snd)
def AZN:GF:=A0d.D2 (Ah ARX)
def HL(a:AD):AA (AD×Int):=some (a,0)
def AJ7(B:AD)(E:Int):AA (AD×Int):=bd (AYN B) fun g=>bd (nL B (BX.mk 4 E 0 0 0 0)) fun S=>br (S != 0) (some (g,S)) (bd (tw B E) fun Y=>bd (at? B.AG Y) fun c=>bd (tw B E) fun Z=>bd (at? B.AG Z) fun x6=>MF c x6 (bd (at? g.AI c.Aa) fun x7=>bd (at? g.AI c.Aa) fun x8=>bd (ARX x8.AV c.A2) fun q=>bd (at? g.AI c.Aa) fun a=>bd (at? (g.AI.set c.Aa.toNat (AY.mk q.fst a.Row a.Bw)) c.Aa) fun I=>bd (ABk I.Bw (A6.mk c.Cf E)) fun h=>bd (at? (g.AI.set c.Aa.toNat (AY.mk q.fst a.Row a.Bw)) c.Aa) fun e=>bd (ARe g.AG E) fun G=>br (c.Bl != -1) (bd (at? ((g.AI.set c.Aa.toNat (AY.mk q.fst a.Row a.Bw)).set c.Aa.toNat (AY.mk e.AV e.Row h.fst)) c.Bl) fun X=>bd (at? ((g.AI.set c.Aa.toNat (AY.mk q.fst a.Row a.Bw)).set c.Aa.toNat (AY.mk e.AV e.Row h.fst)) c.Bl) fun J=>bd (AKP J.AV c.A2) fun y=>bd (at? ((g.AI.set c.Aa.toNat (AY.mk q.fst a.Row a.Bw)).set c.Aa.toNat (AY.mk e.AV e.Row h.fst)) c.Bl) fun j=>bd (at? (((g.AI.set c.Aa.toNat (AY.mk q.fst a.Row a.Bw)).set c.Aa.toNat (AY.mk e.AV e.Row h.fst)).set c.Bl.toNat (AY.mk y.fst j.Row j.Bw)) c.Bl) fun L=>bd (ARV L.AV c.A2) fun O=>bd (at? (((g.AI.set c.Aa.toNat (AY.mk q.fst a.Row a.Bw)).set c.Aa.toNat (AY.mk e.AV e.Row h.fst)).set c.Bl.toNat (AY.mk y.fst j.Row j.Bw)) c.Bl) fun H=>bd (AKM g.BC c.Bl) fun Q=>jn (HL) (AD.mk g.AO g.Now g.Ap G ((((g.AI.set c.Aa.toNat (AY.mk q.fst a.Row a.Bw)).set c.Aa.toNat (AY.mk e.AV e.Row h.fst)).set c.Bl.toNat (AY.mk y.fst j.Row j.Bw)).set c.Bl.toNat (AY.mk O.fst H.Row H.Bw)) Q g.A8)) (jn HL (AD.mk g.AO g.Now g.Ap G ((g.AI.set c.Aa.toNat (AY.mk q.fst a.Row a.Bw)).set c.Aa.toNat (AY.mk e.AV e.Row h.fst)) g.BC g.A8))))
def AZO:GF:=gZ lQ AiY Aqd 0x42dc698bcc1abd92ae9576b7f262e01f87ff5353d240751cd035f64ac5d55ea90633f507bc5f2fd28760ca216f560a575b535e4ad60459616d03a10ab64594f7d0bf6cbb832ac9067150c1b4f17796e9e060e48ff7394663cb94bf11a56f0cfea5c938e38dd1e09b7ad0db1c904af19215c1b5ee468275310d91783ff29fbbd7a2fde8aec9919fa78d417da9015d059cadbc5c5e6261c213facd13cb8cdf1c962f49af6f3f8d01c7eca3d71f43dbdbb0e88cc3fee38cbf65f5f3bf21cf86aa481f709d87396154603b6a55048042d5c9f8f3ffffb91c7744baadfbba528d8c9bb26ce643ddbdb5a7d7c209fbf7d00a4974756974770ebcf0 [AD6,Xx,SZ,AZN,YE,AZR,ANy,AZK,YC] (Ah AJ7)
def JW(c:AZ)(a:AK)(e:Int)(g:Bool):AA (AK×Bool):=br g (some (AK.mk 0 0 0 0 0 0 0 0 0 0,false)) (some ((AK.mk a.Id a.Aa a.Bl a.A2 a.Cj a.Since a.Ap 1 (w64 (e+c.Rest)) (w64 (a.Cu+1)),true)))
def ABj(c:AZ)(a:AK)(e:Int):AA (AK×Bool):=bd (AAk c a e) fun g=>br (!g) (jn (JW c a e) true) (br (a.State != 2) (jn (JW c a e) true) (jn (JW c a e) (w64 (a.Cu+1)==c.CL)))
def AEM:GF:=gZ Aic (.ret [(.st 2),.b]) Am6 0x680ba1928a6e845e1cc48856fa32b75f002ee1e146d83a7dfcfd9a16f0ca0dd438ebfd93f3d8cfc99917221a782a1544b872310ba1eec7d9015b7a37efbe212da8c8ac8c17fff02e6639a805b48 [P9] (GX ABj)
def XT(a:AD):AA AD:=some a
def ABm(c:AD)(G:Int):AA AD:=bd (tw c G) fun X=>bd (at? c.AG X) fun x2=>bd (at? c.AG X) fun e=>bd (tw c G) fun Y=>bd (at? c.AG Y) fun x5=>bd (at? c.AG Y) fun x6=>MF e x6 (bd (at? c.AI e.Aa) fun x7=>bd (at? c.AI e.Aa) fun x8=>bd (ARc x8.AV e.A2) fun j=>bd (at? c.AI e.Aa) fun a=>bd (at? (c.AI.set e.Aa.toNat (AY.mk j.fst a.Row a.Bw)) e.Aa) fun H=>bd (ABk H.Bw (A6.mk e.Cf G)) fun h=>bd (at? (c.AI.set e.Aa.toNat (AY.mk j.fst a.Row a.Bw)) e.Aa) fun g=>bd (ABj c.AO e c.Now) fun q=>br q.snd (bd (ARa c.AG q.fst) fun I=>bd (qg c.AO q.fst c.Now) fun J=>bd (at? ((c.AI.set e.Aa.toNat (AY.mk j.fst a.Row a.Bw)).set e.Aa.toNat (AY.mk g.AV g.Row h.fst)) e.Aa) fun L=>bd (ARb L.Row J.fst) fun O=>bd (at? ((c.AI.set e.Aa.toNat (AY.mk j.fst a.Row a.Bw)).set e.Aa.toNat (AY.mk g.AV g.Row h.fst)) e.Aa) fun y=>some (AD.mk c.AO c.Now c.Ap I (((c.AI.set e.Aa.toNat (AY.mk j.fst a.Row a.Bw)).set e.Aa.toNat (AY.mk g.AV g.Row h.fst)).set e.Aa.toNat (AY.mk y.AV O.fst y.Bw)) c.BC c.A8)) (bd (ARe c.AG G) fun B=>br (e.Bl != -1) (bd (at? ((c.AI.set e.Aa.toNat (AY.mk j.fst a.Row a.Bw)).set e.Aa.toNat (AY.mk g.AV g.Row h.fst)) e.Bl) fun Z=>bd (at? ((c.AI.set e.Aa.toNat (AY.mk j.fst a.Row a.Bw)).set e.Aa.toNat (AY.mk g.AV g.Row h.fst)) e.Bl) fun Q=>bd (AKP Q.AV e.A2) fun S=>bd (at? ((c.AI.set e.Aa.toNat (AY.mk j.fst a.Row a.Bw)).set e.Aa.toNat (AY.mk g.AV g.Row h.fst)) e.Bl) fun x24=>bd (at? ((c.AI.set e.Aa.toNat (AY.mk j.fst a.Row a.Bw)).set e.Aa.toNat (AY.mk g.AV g.Row h.fst)) e.Bl) fun E=>jn (XT) (AD.mk c.AO c.Now c.Ap B (((c.AI.set e.Aa.toNat (AY.mk j.fst a.Row a.Bw)).set e.Aa.toNat (AY.mk g.AV g.Row h.fst)).set e.Bl.toNat (AY.mk S.fst E.Row E.Bw)) c.BC c.A8)) (jn XT (AD.mk c.AO c.Now c.Ap B ((c.AI.set e.Aa.toNat (AY.mk j.fst a.Row a.Bw)).set e.Aa.toNat (AY.mk g.AV g.Row h.fst)) c.BC c.A8))))
def AEN:GF:=gZ AZw Vd ArF 0x1d30f59051e2c3c9bc35dc7226f27ae0c11282cc704ba1ee4952fba2327a4832a7eaee69194b203167834641ca6e325b115838a83f6f49d8d1b9f0aa53c2b71657bcbe0a59ac3373ca4af6bd8d3c8c2938d1bd8c6322628b004e65cdf3b03b3b3991f62179f545aa5dfcd870c46875a6fe736565be2f2b6992f3ee90d3c846d946872851ab4e1db0b78c90184dc8cf6ddee8647853907873df9cd388bea347f8daf5fd7baaf25152f9ed895ecf8c87f8310e4a18a3381618663af1d47eee03428ddf328e90be6070676ba2d3e33187319a70cf944287dca5524977d8aa797eeb2f58fe4c547f78cf7eeba45de3493ca3bae166fda61a24f02f22801747f628bfc53e72924d40f676d0b27fb4e132fd0f1 [SZ,AZP,YE,AEM,Xz,Mq,YA,AZR,ANy] (Ah ABm)
def ABn(c:AD)(e:Int):AA (AD×Int):=bd (AYN c) fun g=>bd (nL c (BX.mk 5 e 0 0 0 0)) fun h=>br (h != 0) (some (g,h)) (bd (tw c e) fun j=>bd (at? c.AG j) fun q=>bd (ABm g e) fun a=>bd (AKM a.BC q.Aa) fun y=>some (AD.mk a.AO a.Now a.Ap a.AG a.AI y a.A8,0))
def AEO:GF:=gZ lQ AiY Aqd 0x1c42a87effb6ae137e1fc3e3fadd9395e44946024dece326ae5a85371d46c56bdbccbe36db0a85ac6f65025b20abd9473de49a2d21b4f0e2c2a254dd5aeb0a0188fda99e8257938d6a51db88054ef2dd85a7 [AD6,Xx,SZ,AEN,YC] (Ah ABn)
def Atr(c:(Int×AD)->AA (AD×Int))(e:Int)(a:AD):AA (AD×Int):=c ((w64 (e+1),a))
def XU(a:AD):AA (AD×Int):=some (a,0)
def Arm(q:AD)(h:(Int×AD)->AA (AD×Int))(B:(Int×AD)):AA (AD×Int):=match B with |(c,a)=>br (decide (c<(↑q.AI.length:Int))) (bd (WV a.AO a.AG c a.Now) fun j=>bd (at? a.AI c) fun E=>bd (at? a.AI c) fun e=>bd (AHO a.AG c) fun y=>br (decide (y>0)) (bd (AKM a.BC c) fun g=>jn (Atr h c) (AD.mk a.AO a.Now a.Ap a.AG (a.AI.set (Int.toNat c) (AY.mk e.AV j e.Bw)) g a.A8)) (jn (Atr h c) (AD.mk a.AO a.Now a.Ap a.AG (a.AI.set (Int.toNat c) (AY.mk e.AV j e.Bw)) a.BC a.A8))) (jn XU a)
def gm(c:AD):AA (AD×Int):=bd (AYN c) fun a=>bd (nL c (BX.mk 6 0 0 0 0 0)) fun e=>br (e != 0) (some (a,e)) (A4 (Arm a) big ((0,AD.mk a.AO (w64 (a.Now+1)) a.Ap a.AG a.AI a.BC a.A8)))
def lO:GF:=gZ Aqu AiY Aw3 0x3cc49ca8bec28cae7ed4055b6b5c341c4e9c73a104e39ae4f2cf33bfb8af64bdfae905e149ebaeb98155b0afbe47b2034b09e434227f7329d5ee7039d9a16bcd33b7b2ab428970920884a5943b8c503218f703995de28edb60c45621ada7174d401c5cfcebedeecd321f1513a21bd305703cadbae55f236f2c62b83dbfa36 [AD6,Xx,Ry,QA,YC] (BL gm)
def Ats(a:Bool):AA Bool:=some a
def ARn(a:AD)(c:Int):AA Bool:=bd (AAu a) fun e=>br e (bd (AAj c (↑a.AI.length:Int)) fun g=>jn (Ats) g) (jn Ats false)
def ANz:GF:=gZ lQ Sz Bz 0x1f6fef814da0f25f1d2ec8283019e3fccc51846e8ba8 [QK,P8] (Ah ARn)
def Att(a:((List A6)×Int)->AA (List A6))(c:Int)(e:List A6):AA (List A6):=a ((e,w64 (c+1)))
def Awl(a:List A6):AA (List A6):=some a
def Atu(j:Int)(e:List A6)(h:((List A6)×Int)->AA (List A6))(q:((List A6)×Int)):AA (List A6):=match q with |(c,a)=>br (decide (a<(↑(List.length e):Int))) (bd (at? e a) fun y=>bd (at? e a) fun g=>br (decide (g.At<=j)) (gd (List.length c+[g].length<=lim) (jn (Att h a) (c++[g]))) (jn (Att h a) c)) (jn Awl c)
def Nj(a:An)(c:Int):AA (List A6):=bd (AAq a) fun e=>A4 (Atu c e) big ([],0)
def KL:GF:=gZ [.v (.st 6),.v .i] AOP Bz 0xa0dc5248a1f3e1a3fefdc8ea126644a0dbdba31ce77f782cab7b791cf4f23f37ed6971408f5bec4cf3a875fe033ac012b3bbcd7abef8d9babbf2f4139dd72c830e [OM] (Ah Nj)
def Awm(a:List Int):AA (List Int):=some a
def Atv(e:List A6)(h:((List Int)×Int)->AA (List Int))(j:((List Int)×Int)):AA (List Int):=match j with |(c,a)=>br (decide (a<(↑(List.length e):Int))) (bd (at? e a) fun q=>bd (at? e a) fun g=>gd (List.length c+[g.Id].length<=lim) (h ((c++[g.Id],w64 (a+1))))) (jn Awm c)
def AKX(a:AD)(c:Int):AA (List Int):=bd (ARn a c) fun e=>br (!e) (some []) (bd (at? a.AI c) fun g=>bd (Nj g.Bw a.Now) fun h=>A4 (Atv h) big ([],0))
def VP:GF:=gZ lQ Am1 Bz 0x68f19ae56b94f92a41b67a66e1dbd65759187e99c371b276d66a2e2cc9b97a70766400088265cecef26c44aed68d525accaef8c30453f4c776dc0517d8fa63856b7e30a16f21b76b6ebf848d9cd56 [ANz,KL] (Ah AKX)
def uX(a:AD):AA AD:=some a
def Atw(c:List Int)(g:(Int×AD)->AA AD)(q:(Int×AD)):AA AD:=match q with |(a,e)=>br (decide (a<(↑(List.length c):Int))) (bd (at? c a) fun y=>bd (at? c a) fun h=>bd (ABm e h) fun j=>g ((w64 (a+1),j))) (jn uX e)
def ARo(a:AD)(c:Int):AA AD:=bd (AYN a) fun e=>bd (AKX a c) fun g=>A4 (Atw g) big (0,e)
def YQ:GF:=gZ lQ Vd ArF 0x1ed000f710fac7b24e53cb7009b3b9f880a0f6c6591a1a88f7ccf4ac9d433f1a894ed6212e927f5b35b8dc51a2d809a1ab4d0c09ec6f8a941808ca2da5 [AD6,VP,AEN] (Ah ARo)
def uY(a:Bool):AA Bool:=some a
def ARp(a:AK)(c:Int):AA Bool:=br (a.State==1) (jn uY (decide (a.Cf>c))) (jn uY false)
def YR:GF:=gZ Aoi Sz Bz 0xf2a533e9928d10a88e82467700e7df275296d69e [] (Ah ARp)
def Ai0(a:Bool):AA Bool:=some a
def ARq(a:Ad)(c:Int)(e:List Int):AA Bool:=br (decide (a.A2<=c)) (bd (WW e a.Id) fun g=>jn (Ai0) (!g)) (jn Ai0 false)
def YS:GF:=gZ [.v (.st 4),.p .i,.p (.l .i)] Sz Bz 0x31376bde314f5fbd6247dcf7b3b36d3ee5cbfa80ee1f7ac83 [Lj] (GX ARq)
def A0n:YF:=⟨[YS],[.v (.l (.st 4)),.f YS.x [(true,.i),(true,(.l .i))]],[0],.ret [.i],[.tmp 4],dY 0x2140ff154f11728f39f8afad6f7e440ebfa22099b48bc87940d327d2cab24147ce37e73920c35c106c2a914e72fec294 [] [.D1 16 (.tmp 11) [.v,.p,.p] [.tmp 15]]⟩
def uZ(_:PUnit):AA Int:=some (-1)
def Atx(g:List Ad)(a:Int)(c:List Int)(h:Int->AA Int)(e:Int):AA Int:=br (decide (e<(↑g.length:Int))) (bd (at? g e) fun j=>bd (ARq j a c) fun q=>br q (some e) (h (w64 (e+1)))) (jn uZ ())
def XW(e:List Ad)(a:Int)(c:List Int):AA Int:=A4 (Atx e a c) big 0
def Kv:GF:=A0n.gf rfl rfl (fun a=>XW a.1 a.2.1.1 a.2.1.2.1) (fun a=>by kernel_rfl)
def AqQ:YF:=⟨[YS],[.v (.l (.st 4)),.v .i,.v (.l .i)],[],.ret [.i],[.tmp 6],dY 0x3e04c6e75b1e8f6abc63099cf [] [.PF 8 0 [.tmp 4,.tmp 5],.call 9 Kv [0] rfl [.tmp 7,.tmp 8]]⟩
def nN(a:List Ad)(c:Int)(e:List Int):AA Int:=bd (XW a c e) fun g=>some g
def VQ:GF:=AqQ.D2 (GX nN)
def Aty(a:((List Int)×Int)->AA Int)(c:Int)(e:List Int):AA Int:=a ((e,w64 (c+1)))
def Atz(g:AD)(h:Int)(j:List Int):AA Int:=bd (at? g.AI h) fun e=>bd (nN e.Row e.AV.DT j) fun a=>br (decide (a<0)) (some 0) (bd (at? e.Row a) fun c=>some c.Id)
def At0(a:AD)(j:Int)(h:((List Int)×Int)->AA Int)(y:((List Int)×Int)):AA Int:=match y with |(c,e)=>br (decide (e<(↑a.AG.length:Int))) (bd (at? a.AG e) fun g=>bd (ARp g a.Now) fun q=>br q (gd (List.length c+[g.Id].length<=lim) (jn (Aty h e) (c++[g.Id]))) (jn (Aty h e) c)) (jn (Atz a j) c)
def gv(a:AD)(c:Int):AA Int:=bd (ARn a c) fun e=>br (!e) (some 0) (A4 (At0 a c) big ([],0))
def Mw:GF:=gZ lQ Cm Bz 0x19790db50b9f6afa5d4ceb3fb83bd43d6b1311490379c8e6842df95fbc2cd39f2dc7b77f7ab15fe5faf09a356b96926ab7ce62c0d03ed1e484435871eb22aba06a068d4c66e2679c3bcf8de1925bb31acacc776788e28ae466e1bd2a52f8090d86cfdb2d119434037a4b7afb90ee89b9191 [ANz,YR,VQ] (Ah gv)
def ARr(a:A9)(c:Int):AA A9:=some (A9.mk a.Total (w64 (a.DT-c)) (w64 (a.EH+c)) a.Ep a.E8)
def YT:GF:=gZ AsF Aie [] 0x663bbcaa15a2f89740b021b62d2b566b7aece4e6b31e28506e90464c7eab [] (Ah ARr)
def A0o:YF:=A01 YT
def uc(c:A9)(a:Int)(g:Bool):AA (A9×Bool):=br g (some (c,false)) (bd (ARr c a) fun e=>bd (AHR e) fun h=>br (!h) (some (c,false)) (some (e,true)))
def ARs(c:A9)(e:Int)(a:Int):AA (A9×Bool):=bd (AHR c) fun g=>br (!g) (jn (uc c a) true) (bd (qC e 0 60) fun h=>jn (uc c a) (!h))
def YU:GF:=A0o.gf rfl rfl (fun a=>ARs a.1 a.2.1 a.2.2.1.1) (fun a=>by kernel_rfl)
def AqS:YF:=⟨[YT],[.v (.st 3),.v .i],[],.ret [(.st 3),.b],[.cell 4 (some 5),.tmp 5],dY 0x103c724bff26c4db6dcd63ec525fc8319ffe7416 [] [.PF 8 0 [.tmp 3],.call 9 YU [0] rfl [.tmp 6,.tmp 7,.tmp 8]]⟩
def ARt(e:A9)(a:Int):AA (A9×Bool):=bd (ARs e a a) fun c=>some (c.fst,c.snd)
def YV:GF:=AqS.D2 (Ah ARt)
def ABo(h:AD)(c:Int):AA (AD×Int):=bd (AYN h) fun e=>bd (gv h c) fun y=>br (y==0) (some (e,0)) (bd (tw h y) fun L=>bd (at? h.AG L) fun j=>bd (tw h y) fun O=>bd (at? h.AG O) fun Q=>MF j Q (bd (at? e.AI c) fun X=>bd (at? e.AI c) fun S=>bd (ARt S.AV j.A2) fun E=>bd (at? e.AI c) fun a=>bd (at? (e.AI.set c.toNat (AY.mk E.fst a.Row a.Bw)) c) fun G=>bd (gh G.Row y) fun q=>bd (at? (e.AI.set c.toNat (AY.mk E.fst a.Row a.Bw)) c) fun g=>bd (ARa e.AG (AK.mk j.Id j.Aa j.Bl j.A2 j.Cj j.Since j.Ap 2 (w64 (h.Now+h.AO.Bq)) j.Cu)) fun H=>bd (at? ((e.AI.set c.toNat (AY.mk E.fst a.Row a.Bw)).set c.toNat (AY.mk g.AV q.fst g.Bw)) c) fun I=>bd (AYO I.Bw (A6.mk (w64 (h.Now+h.AO.Bq)) y)) fun J=>bd (at? ((e.AI.set c.toNat (AY.mk E.fst a.Row a.Bw)).set c.toNat (AY.mk g.AV q.fst g.Bw)) c) fun B=>some ((AD.mk e.AO e.Now e.Ap H (((e.AI.set c.toNat (AY.mk E.fst a.Row a.Bw)).set c.toNat (AY.mk g.AV q.fst g.Bw)).set c.toNat (AY.mk B.AV B.Row J.fst)) e.BC e.A8,y))))
def VR:GF:=gZ lQ AiY Aqd 0x1d2712c0fb7212419c391f4ca9c89646c3cd92effb387f6b0456a6ed62047de847b5a6437a5ad1c17be4084df18695af5b42703b852af0e5755fc5c8aa66f0d870d1967d696d360cffa7782b7d8e13cdeb925040451387cc00d995c2a4377214678160e8fbd708ecf8ef7d2421e6485ca1b74391e1236b27d5b9fb64bd9219721f017fb9bc1355a67c2982801968c712313be37828c8d1c3369ffecf63b3ba6af1587de7eba48474860bf26fe8a921eeae83ba639d90fc4ad7ae6d1a87665b9c05ddb02ed15b9cd79ba0c5506ff [AD6,Mw,SZ,YV,QY,Xz,AEE] (Ah ABo)
def Arn(h:Int)(g:((List Int)×AD)->AA (AD×(List Int)))(j:((List Int)×AD)):AA (AD×(List Int)):=match j with |(c,e)=>bd (ABo e h) fun a=>br (a.snd==0) (some (e,c)) (gd (List.length c+[a.snd].length<=lim) (g (c++[a.snd],a.fst)))
def ue(c:AD)(a:Int):AA (AD×(List Int)):=bd (ARo c a) fun e=>A4 (Arn a) big ([],e)
def VS:GF:=gZ lQ AjT Aqd 0x167354959f0cb77f20e43e2ac81879c193973e1ac6cf321fe4f2605cb1f1f80fa6df5ebfdf78f1298406efd49528ef529ca0870f61687170eabe1074f6f7c66073be3bc36c9e9 [YQ,VR] (Ah ue)
def uf(h:AD)(e:Int):AA (AD×Int×(List Int)):=bd (AYN h) fun c=>bd (nL h (BX.mk 7 e 0 0 0 0)) fun j=>br (j != 0) (some (c,j,[])) (bd (at? c.A8 e) fun G=>bd (at? c.A8 e) fun B=>br (B == -1) (bd (at? c.BC 0) fun H=>bd (at? c.BC 0) fun E=>bd (at? c.A8 e) fun I=>bd (at? c.A8 e) fun J=>gd ((0:Int)<=1/\1<=(↑c.BC.length:Int)) (some ((AD.mk c.AO c.Now c.Ap c.AG c.AI (List.take (c.BC.length-Int.toNat 1) (List.drop (Int.toNat 1) c.BC)) (c.A8.set e.toNat E),0,[])))) (bd (at? c.A8 e) fun L=>bd (at? c.A8 e) fun g=>bd (ue c g) fun a=>bd (at? a.fst.A8 e) fun q=>bd (at? a.fst.A8 e) fun y=>some ((AD.mk a.fst.AO a.fst.Now a.fst.Ap a.fst.AG a.fst.AI a.fst.BC (a.fst.A8.set e.toNat (-1)),0,a.snd))))
def Sd:GF:=gZ lQ Ayr xj 0x9a388826bd2e4406c8977c6d90f51cb4cc2e459e9c948bc844a7c96f371b0f3d23454d4a86a248323047ebdc78f43945351638fe8e430ceedeecefa2006511d9e5b8a9056594ce11218dd6153dcbdb6ba2eb0ab7767568fdc5db2c5380fa9d5061c97ae828bc7d5becfc6989a6cd8c1f46ba1ba8efc61c2f00327578e9e0919d8ecc9c5def339defb97 [AD6,Xx,VS] (Ah uf)
def Akm(e:(AD×CE)):AA (AD×CE):=match e with |(a,c)=>some (a,c)
def ARu(c:AD)(a:BX):AA (AD×CE):=bd (nL c a) fun h=>br (h != 0) (bd (AYN c) fun G=>some (G,CE.mk h [])) (br (a.Kind==1) (bd (XP c a.Id a.Aa a.Bl a.A2 a.Cj) fun j=>jn (Akm) (j.fst,CE.mk j.snd [])) (br (a.Kind==2) (bd (AJx c a.Id) fun q=>jn (Akm) (q.fst,CE.mk q.snd [])) (br (a.Kind==3) (bd (AJ3 c a.Aa a.A2) fun y=>jn (Akm) (y.fst,CE.mk y.snd [])) (br (a.Kind==4) (bd (AJ7 c a.Id) fun B=>jn (Akm) (B.fst,CE.mk B.snd [])) (br (a.Kind==5) (bd (ABn c a.Id) fun E=>jn (Akm) (E.fst,CE.mk E.snd [])) (br (a.Kind==6) (bd (gm c) fun g=>jn (Akm) (g.fst,CE.mk g.snd [])) (bd (uf c a.Id) fun e=>jn (Akm) (e.fst,CE.mk e.snd.fst e.snd.snd))))))))
def YW:GF:=gZ AOD AOS Ayu 0x1b9517e01d4033aef0ee2a2eab5f999fe55743d89c0e8476670989563271dc66d7aa0274ccaef3a0642cb4dba89e675d6ed2c97f28f468cc10d5800decf245df59e4ae05bbfd85e29377ba2969f4efb7714eec1a04cf3426d7a9ce4183629d9660dabe83340ebeb53da9871ee1808d77d29187ffdf8fd0817e297944b5f66558789d354184034cb40176aedbf8129c14e0855fcfcd0ed6a2b19423a44f8dd6c4ce2f1bcf529e589c7797ca09a3c61b02462d3fc0217c51da2b2c58a8f4e192b77f966a914becb5f261e39b6b9ad2d6c9ea9d0432e0708960b802770a84388d9456b0e78130093a7cb4927e885982f101a8a94bcfde64a2264515355e9bcd59e6d9b43ef9dc51c9ab352e4cb46bb90d26288e0e9ea71d4ff39ce86de5385b726f0eb25a [Xx,AD6,QX,ANu,ANw,AZO,AEO,lO,Sd] (Ah ARu)
def Awn(e:((List CE)×AD)):AA (AD×(List CE)):=match e with |(a,c)=>some (c,a)
def At1(g:List BX)(j:((List CE)×Int×AD)->AA (AD×(List CE)))(y:((List CE)×Int×AD)):AA (AD×(List CE)):=match y with |(a,c,h)=>br (decide (c<(↑g.length:Int))) (bd (at? g c) fun q=>bd (ARu h q) fun e=>gd (List.length a+[e.snd].length<=lim) (j ((a++[e.snd],w64 (c+1),e.fst)))) (jn Awn (a,h))
def ARv(a:AD)(c:List BX):AA (AD×(List CE)):=bd (AYN a) fun e=>A4 (At1 c) big ([],0,e)
def YX:GF:=gZ Qb Ve Aqd 0x1065fa48ca1a54140008b3dda891dbd20a6b92c6babf97fae50f0e77927faa2603ecef1d619d5aac11bf3ab2769614161bae4d9e632526ecbdb8fdb7c476458a7c875107745eeceb5e9fd2f2fc90e346718ebdbe6edee43060de4b15c46f638d6833069c1f0630a9da3b658f9e39f0ab1ec [AD6,YW] (Ah ARv)
end Lv
set_option maxRecDepth 100000
namespace Lv
open Go (IntKind BinOp UnOp)
open Y (YF qn qf qt qr q1 qd qm qa qo ql qL qb qi qx qp qq qc qz qe qk qK qB qw qu qj Kp wn wf wt w1 sw sq sr wm wM wo wO wl wL wk wK wz wZ wx wX wb wB wi wI wr wR wq wQ we wE wc wY wj wh cv ca cx cn ce bl)
def Akn(a:(Int×(List B4)×Int)->AA (List B4))(c:Int)(h:(Int×(List B4))):AA (List B4):=match h with |(e,g)=>a ((e,g,w64 (c+1)))
def Aog(a:List B4):AA (List B4):=some a
def Ai2(c:List B4)(q:(Int×(List B4)×Int)->AA (List B4))(E:(Int×(List B4)×Int)):AA (List B4):=match E with |(h,e,a)=>br (decide (a<(↑c.length:Int))) (bd (at? c a) fun y=>br (decide (y.Seq<=h)) (jn (Akn q a) (h,e)) (bd (at? c a) fun B=>br (w64 (B.Seq-1) != h) (jn Aog e) (bd (at? c a) fun j=>bd (at? c a) fun g=>gd (List.length e+[g].length<=lim) (jn (Akn q a) (j.Seq,e++[g]))))) (jn Aog e)
def bV(a:List B4)(c:Int):AA (List B4):=A4 (Ai2 a) big (c,[],0)
def Se:GF:=gZ [.v (.l (.st 15)),.v .i] dN Bz 0xe8f6f0ec9df376e3212ab57962805ca3822562f2c3f4913a1f95a900f28f87f180494b847c8ce1223c0201f066dbb4b7dd4bb8e4ab2c7540eecf63e5641f70bb7e04218236a0f539b328c065070fae0833b745c6e128b2 [] (Ah bV)
def gx(c:Bb)(h:Int)(g:Bool):AA (AD×Int×Bool):=br g (some ((AD.mk (AZ.mk [] 0 0 0 0 0 0 0 0) 0 0 [] [] [] [],0,false))) (bd (Px c h) fun a=>bd (AQv c.Log.Data) fun j=>bd (bV j a.snd.fst) fun q=>bd (Lf q) fun e=>bd (Ng a.fst e) fun y=>some ((y.fst,w64 (a.snd.fst+(↑(List.length e):Int)),true)))
def ARw(a:Bb):AA (AD×Int×Bool):=bd (nH a) fun c=>bd (AQR a) fun e=>br (!e) (jn (gx a c) true) (jn (gx a c) (decide (c<0)))
def YY:GF:=gZ IE AsH AvW 0xd8797c2f7e5a565a79dfffdd4e69980768ff95b6b2122f6852341048a3f4d30af4edfb04fc25adada60178a361ed95821632c88bbb306c344fe33ad0ec34274b30331a862598bbc18704f6b628efe8877607c96f07422eeed62d43ba71f82391f2c5a43d [ch,Rz,JA,ANj,Se,Lk,Lm] (BL ARw)
def ARx(a:Bu):AA Bool:=some (a.Safe==(↑a.Data.length:Int))
def YZ:GF:=gZ ALa Sz b9 0x796cf11ef51c1e7ff558224 [] (BL ARx)
def Aro(a:Bool):AA Bool:=some a
def ABp(a:Bb):AA Bool:=bd (ARx a.Log) fun c=>br c (bd (ARx a.Dl) fun e=>br e (bd (ARx a.Odd) fun g=>jn (Aro) g) (jn Aro false)) (jn Aro false)
def VT:GF:=gZ IE Sz b9 0xdd7d3466d8e224e82f2da78a88b0ce368c15773ecd7e711442 [YZ] (BL ABp)
def At3(g:List B4)(h:(Int×Int×Int)->AA Int)(c:Int)(a:Int):AA Int:=bd (at? g c) fun j=>bd (at? g c) fun e=>h ((a,e.Next,w64 (c+1)))
def Awo(a:Int):AA Int:=some a
def At4(c:List B4)(B:(Int×Int×Int)->AA Int)(I:(Int×Int×Int)):AA Int:=match I with |(e,g,a)=>br (decide (a<(↑(List.length c):Int))) (bd (at? c a) fun E=>bd (at? c a) fun h=>br (decide (h.Seq>w64 (e+1))) (some g) (bd (at? c a) fun G=>bd (at? c a) fun j=>br (j.Seq==w64 (e+1)) (bd (at? c a) fun H=>bd (at? c a) fun q=>bd (AQ6 q.Body) fun y=>br (!y.snd) (some g) (jn (At3 c B a) (w64 (e+1)))) (jn (At3 c B a) e))) (jn Awo g)
def At2(a:Bb)(e:Int)(c:Bool):AA Int:=br c (some 0) (bd (Px a e) fun g=>bd (AQv a.Log.Data) fun h=>A4 (At4 h) big (g.snd.fst,0,0))
def ARy(a:Bb):AA Int:=bd (nH a) fun c=>bd (AQR a) fun e=>br (!e) (jn (At2 a c) true) (jn (At2 a c) (decide (c<0)))
def Ya:GF:=gZ IE Cm b9 0x27df54e1790dbd14c53c9ba7bce2f861703a5e85716174a8e971cdc864506aa3facaa5de8013e99f9c4eaffbe62f67bfb4c0ead101113117ca612ceec1d09a724bb2f85361b91e4f076c81fd19db800f424957f788db347065792db578816ce1b704ae49bdb4428ef9ce2759dd7678b998d1dbaeaee60864cd6667945b2fa0ca59c750f0086de86fc5ac1403f5740e03af1ec85ad29111b0ced90ea07873c19760c83799449da07e6d7f496 [ch,Rz,JA,ANj,AEB] (BL ARy)
def Aks(a:Bu)(c:Int)(e:Bool):AA (Bu×Bool):=br e (some (a,false)) (gd (0<=c/\c<=(↑a.Data.length:Int)) (bd (AQu a.Safe c) fun g=>some ((Bu.mk (List.take c.toNat a.Data) g,true))))
def ARz(a:Bu)(c:Int):AA (Bu×Bool):=bd (ANV a) fun e=>br (!e) (jn (Aks a c) true) (bd (Afl c 0 (↑a.Data.length:Int)) fun g=>jn (Aks a c) (!g))
def Yb:GF:=gZ nU (.ret [(.st 9),.b]) [.cell 4 (some 2),.tmp 5] 0x2575fef53d0301d623f3344020d351f5d546b3afc2ecc9c8a8124bc7778a8acadc63240a41c1613a070c402a03c41fa1db144d2330b [T7,ATF,ANi] (Ah ARz)
def uN(a:Bb)(e:(AD×Int×Bool))(h:Bool):AA (Ae×Bool):=br h (some ((Ae.mk (AD.mk (AZ.mk [] 0 0 0 0 0 0 0 0) 0 0 [] [] [] []) (Bb.mk (Bu.mk [] 0) (Bu.mk [] 0) (Bu.mk [] 0)) 0 [],false))) (bd (ARy a) fun g=>bd (ARz a.Log g) fun c=>bd (ARz a.Log g) fun j=>TN c.fst j.fst (bd (ARy a) fun q=>bd (ARz a.Log q) fun y=>TN c.fst y.fst (bd (ARO c.fst) fun B=>some ((Ae.mk e.fst (Bb.mk B a.Dl a.Odd) e.snd.fst [],true)))))
def ARf(a:Bb):AA (Ae×Bool):=bd (ARw a) fun c=>br (!c.snd.snd) (jn (uN a c) true) (bd (ABp a) fun e=>jn (uN a c) (!e))
def YG:GF:=gZ IE (.ret [(.st 11),.b]) Ayv 0x994767534892d2e6aee278645c5a537478fe87566380a360101126bce1a384922bf4cfc66eb74866d540f7f13133bc45476b25a75370bc76d5ab8a96fbc6ea2fee26855698ec56d5b30029247f251cde9279bf1363a0f28b5cdb97ab652b29853eeac08c08b87152e1ab0e86305745866184550102dad7d98a8c79c0a843b32388edb4b5e3c5baa800983a3fc3c4012353fc85926164a45f7fb1852891b1509b1e197871e55ff5a04322e7c2f8b1ea0d02a1c21b0e336fb5d244dd4b0e127d58 [YY,VT,Ya,Yb,Xs] (BL ARf)
def gk(c:Bb)(h:Int)(g:Bool):AA (AD×Int×Bool):=br g (some ((AD.mk (AZ.mk [] 0 0 0 0 0 0 0 0) 0 0 [] [] [] [],0,false))) (bd (ABc c h) fun a=>bd (AQw c.Log.Data) fun j=>bd (nG j a.snd.fst) fun q=>bd (AA4 q) fun e=>bd (ARv a.fst e) fun y=>some ((y.fst,w64 (a.snd.fst+(↑(List.length e):Int)),true)))
def AKQ(a:Bb):AA (AD×Int×Bool):=bd (s6 a) fun c=>bd (AQa a) fun e=>br (!e) (jn (gk a c) true) (jn (gk a c) (decide (c<0)))
def YH:GF:=gZ IE AsH AvW 0x3221b9ab3af96a7ed37942cae856d692bde21eb928fd6d6f448a3ce45e41266488784c71712831a6752ab05ac9f5bea022a1aa14e40885f7f98081db1377442bd1f45b3b1d5046b17c1c08fcc47ee3e83f84804ef4459ee9a6add5f156a16cf8dec820fc47ab3e0c106bb53c [xM,SE,xL,ANk,cg,SM,YX] (BL AKQ)
def Arl(a:Bool):AA Bool:=some a
def ABl(a:Bb):AA Bool:=br (a.Log.Safe==(↑a.Log.Data.length:Int)) (br (a.Dl.Safe==(↑a.Dl.Data.length:Int)) (jn Arl (a.Odd.Safe==(↑a.Odd.Data.length:Int))) (jn Arl false)) (jn Arl false)
def VO:GF:=gZ IE Sz b9 0xbe4638ff82b8cc76211e85b4d5b1b242421367cc76740f1242d40416ec0e1bf1c70de645ecb9cf74447fbc091fe6ef3591e98f1ed868ae9560b29 [] (BL ABl)
def Akf(a:Int):AA Int:=some a
def Atp(g:(Int×Int×Int)->AA Int)(a:Int)(e:B4)(c:Int):AA Int:=g ((c,e.Next,w64 (a+1)))
def Ake(h:(Int×Int×Int)->AA Int)(j:Int)(a:Int)(c:Int)(g:B4)(e:Bool):AA Int:=br e (jn Akf a) (jn (Atp h c g) (w64 (j+1)))
def Akg(q:(AD×Int×Bool))(j:List B4)(h:(Int×Int×Int)->AA Int)(B:(Int×Int×Int)):AA Int:=match B with |(g,e,a)=>br (decide (a<(↑(List.length j):Int))) (bd (at? j a) fun y=>bd (at? j a) fun c=>br (decide (c.Seq>g)) (br (c.Seq != w64 (g+1)) (jn (Ake h g e a c) true) (jn (Ake h g e a c) (decide (c.Seq>q.snd.fst)))) (jn (Atp h a c) g)) (jn Akf e)
def ARg(a:Bb):AA Int:=bd (AKQ a) fun e=>br (!e.snd.snd) (some 0) (bd (s6 a) fun g=>bd (ABc a g) fun c=>bd (ABc a g) fun h=>eqv c.snd.fst h.snd.fst (NS c.fst h.fst (bd (s6 a) fun q=>bd (ABc a q) fun j=>eqv c.snd.fst j.snd.fst (NS c.fst j.fst (bd (AQw a.Log.Data) fun y=>A4 (Akg e y) big (c.snd.fst,0,0))))))
def YI:GF:=gZ IE Cm b9 0x1696d893117a191b1ff259a4ce7b6ad463580fab1bc31092b26162e4f6a5fda200b68aa8343dc345f91898a6d4a169389e6740fe62ae51e335b62250769d5da730816e7dcd749de6c205ff0758ef1cd66ec4f2d58a4544fcde0d2149b2a09b28e1cbcbcf6330c842e95b65cb0561b68e4cb8eb54a086fbc04fc71bd3189e6586452a42b8e01c025043d7dba94cab42b59b6925dbadf0b4a83e880286851f2a36ed2e7a7bfd2bc39f5424ade430cf6957d5895218a0c17da0f1f745676baeb14f9afed483ff0c18d81fd3593350f089dda786d7798b78c96e6f527373bdaa965e9ee47600ce2b0ce6ceb [YH,xM,xL,ANk] (BL ARg)
def Atq(a:Bu)(c:Int)(e:Bool):AA (Bu×Bool):=br e (some (a,false)) (gd (0<=c/\c<=(↑a.Data.length:Int)) (some ((Bu.mk (List.take c.toNat a.Data) (if false=true then if c>a.Safe then c else a.Safe else if c<a.Safe then c else a.Safe),true))))
def ARh(a:Bu)(c:Int):AA (Bu×Bool):=bd (AYD a) fun e=>br (!e) (jn (Atq a c) true) (bd (qC c 0 (↑a.Data.length:Int)) fun g=>jn (Atq a c) (!g))
def YJ:GF:=gZ nU (.ret [(.st 9),.b]) [.cell 4 (some 2),.tmp 5] 0xa7d4949759bb306930ccb1729975d178c104d8c08446b7d3eb04b11e07fd4ba539f0a18b861bdf747ba987950108aa5812ff71e1 [SD,OE] (Ah ARh) [.mm 25 false (.tmp 23) (.tmp 24)]
def uP(a:Bb)(e:(AD×Int×Bool))(h:Bool):AA (Ae×Bool):=br h (some ((Ae.mk (AD.mk (AZ.mk [] 0 0 0 0 0 0 0 0) 0 0 [] [] [] []) (Bb.mk (Bu.mk [] 0) (Bu.mk [] 0) (Bu.mk [] 0)) 0 [],false))) (bd (ARg a) fun g=>bd (ARh a.Log g) fun c=>bd (ARh a.Log g) fun j=>TN c.fst j.fst (bd (ARg a) fun q=>bd (ARh a.Log q) fun y=>TN c.fst y.fst (bd (AQf c.fst) fun B=>some ((Ae.mk e.fst (Bb.mk B a.Dl a.Odd) e.snd.fst [],true)))))
def AYR(a:Bb):AA (Ae×Bool):=bd (AKQ a) fun c=>br (!c.snd.snd) (jn (uP a c) true) (bd (ABl a) fun e=>jn (uP a c) (!e))
def YK:GF:=gZ IE (.ret [(.st 11),.b]) Ayv 0x6e334366ffc4e186542f01efc9ae8ede542ed109e72be2138f009de2b1a99784eaee16c0c0675bfa10256060bc0b34f082606dcce43bc46e90d6347eee12225863b005b6db1ad7585202abd47a04fd1c8525eabc5012b5cf3c7ef5947b6861a10589996873dd4534edc15644006f42ac9f0cbf9078d2d21087867c14e6fef86b6e066f28f7fbb3cadcfea0f5f8a90ddb9dc2a5bd5c4f016ac499b3048a6af486761482343a9ea81282 [YH,VO,YI,YJ,AY7] (BL AYR)
end Lv
set_option maxRecDepth 100000
namespace Lv
open Go (IntKind BinOp UnOp)
open Y (YF qn qf qt qr q1 qd qm qa qo ql qL qb qi qx qp qq qc qz qe qk qK qB qw qu qj Kp wn wf wt w1 sw sq sr wm wM wo wO wl wL wk wK wz wZ wx wX wb wB wi wI wr wR wq wQ we wE wc wY wj wh cv ca cx cn ce bl)
def I6(a:(Ae×Bool))(c:(Int×Ae))(g:Bool):AA Bool:=br g (some false) (bd (fV (Ae.mk (AD.mk (AZ.mk c.snd.BD.AO.AV a.fst.BD.AO.CJ a.fst.BD.AO.Room a.fst.BD.AO.A2 a.fst.BD.AO.CB a.fst.BD.AO.Bq a.fst.BD.AO.Rest a.fst.BD.AO.CL a.fst.BD.AO.Cs) a.fst.BD.Now a.fst.BD.Ap c.snd.BD.AG c.snd.BD.AI c.snd.BD.BC c.snd.BD.A8) a.fst.BO a.fst.Seq c.snd.Laid) 1) fun e=>br (decide (e<0)) (some false) (br (e != c.fst) (some false) (some true)))
def I5(y:Bb)(j:(Ae×Bool))(a:(Ae×Bool))(B:Bool):AA Bool:=br B (some false) (bd (AQh a.fst 1) fun c=>bd (fV (Ae.mk (AD.mk (AZ.mk c.snd.BD.AO.AV a.fst.BD.AO.CJ a.fst.BD.AO.Room a.fst.BD.AO.A2 a.fst.BD.AO.CB a.fst.BD.AO.Bq a.fst.BD.AO.Rest a.fst.BD.AO.CL a.fst.BD.AO.Cs) a.fst.BD.Now a.fst.BD.Ap c.snd.BD.AG c.snd.BD.AI c.snd.BD.BC c.snd.BD.A8) a.fst.BO a.fst.Seq c.snd.Laid) 1) fun q=>br (decide (q<0)) (some false) (br (q != c.fst) (some false) (bd (Afk y) fun g=>bd (AYR g) fun e=>bd (rT e.fst j.fst) fun h=>br (!h) (jn (I6 a c) true) (jn (I6 a c) (!e.snd==j.snd)))))
def IZ(a:Bb):AA Bool:=bd (Afi a 1048576) fun g=>br (decide (g<0)) (some true) (bd (Afk a) fun h=>bd (ARf h) fun c=>bd (Afk a) fun j=>bd (AYR j) fun e=>bd (rT e.fst c.fst) fun q=>br (!q) (jn (I5 a c e) true) (jn (I5 a c e) (!e.snd==c.snd)))
def GB:GF:=gZ IE Sz b9 0x319a1c01953ca4375d50dc3bd90f59da57a8ccec90db215c8b07e381fe6480b764f6b6b3c327f3289cc929bb39b48c31606859669bda474d1a1f8a421ce888f2bd42205b20fc85f23d4d80ad85a4b83f281cce19e48cc130704714c82867816cce89b849f0b4ad75ad9fd3d750b90b568c990485429c53f7c2c7684e209091db354e88fbe718fd65ab11dcac2311fd0fb6da6c4ca996519ab7afc8253fc26e11418116ec42b4d71bd7f56442449a92b9701f409b61a17b270e74c1fe368ef7cbb8292247e2a943219b1b4c55a70332d957d8d248d51130b0bf75bf95f [ATC,ATE,YG,YK,QN,Xk,Ll] (BL IZ)
def Ib(a:Bb):AA Bool:=bd (Afi a 1048576) fun c=>br (decide (c<0)) (some true) (bd (Afk a) fun e=>bd (ARy e) fun g=>bd (Afk a) fun h=>bd (ARg h) fun j=>br (j != g) (some false) (some true))
def GD:GF:=gZ IE Sz b9 0x21d3fcbcbc6584b7c1a1ce0f822aae91f2589f13f330384a846ef27b54ded96415970953e93166c9f0c3ce6d74 [ATC,ATE,Ya,YI] (BL Ib)
def FD(a:(AD×Int×Bool))(c:(Int×AD))(g:Bool):AA Bool:=br g (some false) (bd (AA6 (AD.mk (AZ.mk c.snd.AO.AV a.fst.AO.CJ a.fst.AO.Room a.fst.AO.A2 a.fst.AO.CB a.fst.AO.Bq a.fst.AO.Rest a.fst.AO.CL a.fst.AO.Cs) a.fst.Now a.fst.Ap c.snd.AG c.snd.AI c.snd.BC c.snd.A8) 1) fun e=>br (decide (e<0)) (some false) (br (e != c.fst) (some false) (some true)))
def FB(y:Bb)(j:(AD×Int×Bool))(a:(AD×Int×Bool))(B:Bool):AA Bool:=br B (some false) (bd (AQd a.fst 1) fun c=>bd (AA6 (AD.mk (AZ.mk c.snd.AO.AV a.fst.AO.CJ a.fst.AO.Room a.fst.AO.A2 a.fst.AO.CB a.fst.AO.Bq a.fst.AO.Rest a.fst.AO.CL a.fst.AO.Cs) a.fst.Now a.fst.Ap c.snd.AG c.snd.AI c.snd.BC c.snd.A8) 1) fun q=>br (decide (q<0)) (some false) (br (q != c.fst) (some false) (bd (Afk y) fun g=>bd (AKQ g) fun e=>bd (Agv e.fst j.fst) fun h=>br (!h) (jn (FD a c) true) (br (e.snd.fst != j.snd.fst) (jn (FD a c) true) (jn (FD a c) (!e.snd.snd==j.snd.snd))))))
def Fw(a:Bb):AA Bool:=bd (Afi a 1048576) fun g=>br (decide (g<0)) (some true) (bd (Afk a) fun h=>bd (ARw h) fun c=>bd (Afk a) fun j=>bd (AKQ j) fun e=>bd (Agv e.fst c.fst) fun q=>br (!q) (jn (FB a c e) true) (br (e.snd.fst != c.snd.fst) (jn (FB a c e) true) (jn (FB a c e) (!e.snd.snd==c.snd.snd))))
def Ea:GF:=gZ IE Sz b9 0x45e5f652e3281d2ae081ede30dcd45ccd2e69ed8541671986a0a88347096f4f7845a3ea7c60e96c6060efece05fd7abecb5ae384181dc51b6b7c5fb26ebec2342b87bc24762bd7ae3d78986f99c86b46b2812cb49c2f1a8d12c5aac39bb468591dd9b60c90cffbd69091cf35a833da391745d2abc0684b54929b570a495b8918d4007a54b29792d1656b4c419462e2fc99eef0290f565aa408316a8798d2c2f1bf81480f0fb632879c0ebe6aeb67e0cb81598a50bc72faf2ddce5999ca600c56415e32f7a8d1dbce8df0108120d478e5c6e351691e16d8823def60a2fb646651c25f5c5df8fb98c3c406c5 [ATC,ATE,YY,YH,OL,kv,SS] (BL Fw)
end Lv
set_option maxRecDepth 100000
namespace Lv
open Go (IntKind BinOp UnOp)
open Y (YF qn qf qt qr q1 qd qm qa qo ql qL qb qi qx qp qq qc qz qe qk qK qB qw qu qj Kp wn wf wt w1 sw sq sr wm wM wo wO wl wL wk wK wz wZ wx wX wb wB wi wI wr wR wq wQ we wE wc wY wj wh cv ca cx cn ce bl)
end Lv
