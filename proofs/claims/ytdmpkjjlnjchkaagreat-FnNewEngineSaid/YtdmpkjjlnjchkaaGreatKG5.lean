/- Functions of the program as typed texts and as plain functions. -/
import Derived.Test.YtdmpkjjlnjchkaaGreatKE5
noncomputable section
set_option linter.unusedVariables false
set_option linter.unusedSimpArgs false
set_option linter.unusedSectionVars false
set_option maxRecDepth 100000
namespace Lv
open Go (IntKind BinOp UnOp)
open Y (YF qn qf qt qr q1 qd qm qa qo ql qL qb qi qx qp qq qc qz qe qk qK qB qw qu qj Kp wn wf wt w1 sw sq sr wm wM wo wO wl wL wk wK wz wZ wx wX wb wB wi wI wr wR wq wQ we wE wc wY wj wh cv ca cx cn ce bl)
def AQg(a:(C.l (.st 2)).D)(c:Int)(e:(C.l (.st 2)).D):AA (C.l (.st 2)).D:=AAH (.st 2) a c e
def AY8:GF:=Af1 (.st 2) rfl
def AQh(a:(C.l (.st 4)).D)(c:Int)(e:(C.l (.st 4)).D):AA (C.l (.st 4)).D:=AAH (.st 4) a c e
def Xk:GF:=Af1 (.st 4) rfl
def AII(a:(C.l (.st 4)).D)(c:Int)(e:Int):AA (C.l (.st 4)).D:=ALK (.st 4) a c e
def VF:GF:=Afr (.st 4) rfl rfl
def rr(a:(C.l (.st 5)).D)(c:Int)(e:Int):AA (C.l (.st 5)).D:=ALK (.st 5) a c e
def SN:GF:=Afr (.st 5) rfl rfl
def nF(a:(C.l (.st 2)).D)(c:Int)(e:Int):AA (C.l (.st 2)).D:=ALK (.st 2) a c e
def SO:GF:=Afr (.st 2) rfl rfl
def BIb(a:Bu):AA Bu:=some a
def BJd(a:Bu):AA Bu:=bd (AX7 a) fun c=>br c (jn BIb (Bu.mk a.Data (↑a.Data.length:Int))) (jn BIb a)
def AIN(a:AK)(c:Int):AA Bool:=some (a.Id==c)
def SP:GF:=gZ [.v (.st 2),.p .i] Cm [.tmp 3] 0x1a3cb151d8de03101952e81 [] (Ah AIN)
def BK0:YF:=BK9 SP 2 0x36f2f2782273baae4585aa0db5ea7ce9670c1a66af296c6cf61a146410fae43dbb22342f09c2c0d3bf7f1a131aed139f
def AwX(_:PUnit):AA Int:=some (-1)
def AtA(e:List AK)(a:Int)(g:Int->AA Int)(c:Int):AA Int:=br (decide (c<(↑e.length:Int))) (bd (at? e c) fun h=>bd (AIN h a) fun j=>br j (some c) (g (w64 (c+1)))) (jn AwX ())
def AIQ(c:List AK)(a:Int):AA Int:=A4 (AtA c a) big 0
def SQ:GF:=BK0.gf rfl rfl (fun a=>AIQ a.1 a.2.1.1) (fun a=>by kernel_rfl)
def Ap4:YF:=⟨[SP],[.v (.l (.st 2)),.v .i],[],.ret [.i],[.tmp 4],dY 0x3edae034d4400fd78088 [] [.PF 6 0 [.tmp 3],.call 7 SQ [0] rfl [.tmp 5,.tmp 6]]⟩
def AA5(a:List AK)(c:Int):AA Int:=bd (AIQ a c) fun e=>some e
def SR:GF:=Ap4.D2 (Ah AA5)
def AA6(a:AD)(c:Int):AA Int:=bd (AA5 a.AG c) fun e=>some e
def SS:GF:=gZ Amx BGg BGb 0x4ff61d6e14f24a17e5c5a1 [SR] (Ah AA6)
def AIR(a:AD)(c:Int):AA Int:=bd (at? a.AI c) fun e=>bd (at? a.AI c) fun g=>some (w64 (e.AV.Ep-g.AV.E8))
def Xl:GF:=gZ Amx BGg BGb 0x169c72929d5e6608ef47a232b0cdc63675b846df48d219e18f4fa4e35 [] (Ah AIR)
def BKM(a:Bool):AA Bool:=some a
def fV(a:AK)(c:Int):AA Bool:=br (a.State==2) (jn BKM (decide (a.Cf<=c))) (jn BKM false)
def Ll:GF:=gZ [.v (.st 2),.v .i] Cm BGb 0x3e2f71094922aca2dd167c4dbf1d08b7cbe405265 [] (Ah fV)
def A83(_:PUnit):AA Int:=some 0
def AIW(c:AD)(a:Bool):AA Int:=br a (some 10) (br (decide (c.Ap>1000000)) (some 11) (jn A83 ()))
def BIJ(a:AD)(c:BX)(g:Bool):AA Int:=br g (some 4) (bd (AQR c.A2 1 a.AO.A2) fun h=>br (!h) (some 5) (br (decide (c.Cj>=a.AO.CJ)) (some 6) (bd (AQR c.Id 1 999) fun j=>br (!j) (some 7) (bd (AA6 a c.Id) fun q=>br (decide (q>=0)) (some 8) (bd (AHK a.AG c.Aa) fun y=>br (decide (y>=a.AO.Room)) (some 9) (br (c.Bl != -1) (bd (AIR a c.Bl) fun e=>jn (AIW a) (decide (e<c.A2))) (jn (AIW a) false)))))))
def BKO(a:Bool):AA Int:=br a (some 17) (jn A83 ())
def BKN(a:AD)(e:BX)(g:Bool):AA Int:=br g (bd (AA6 a e.Id) fun c=>br (decide (c<0)) (some 7) (bd (at? a.AG c) fun h=>br (h.State != 2) (some 13) (bd (at? a.AG c) fun j=>bd (fV j a.Now) fun q=>br q (some 14) (jn A83 ())))) (br (e.Kind==6) (br (a.Now==1000000) (some 15) (jn A83 ())) (br (e.Kind==7) (br (decide (e.Id>=a.AO.Cs)) (some 16) (bd (at? a.A8 e.Id) fun y=>br (y == -1) (jn BKO ((↑a.BC.length:Int)==0)) (jn BKO false))) (jn A83 ())))
def AIV(c:AD)(a:BX):AA Int:=bd (AAt c) fun y=>br (!y) (some 1) (bd (AQR a.Kind 1 7) fun B=>br (!B) (some 2) (bd (AYD a) fun E=>br (!E) (some 3) (br (a.Kind==1) (bd (AQS a.Aa (↑c.AI.length:Int)) fun G=>br (!G) (jn (BIJ c a) true) (bd (AQR a.Bl (-1) (w64 ((↑c.AI.length:Int)-1))) fun e=>br (!e) (jn (BIJ c a) true) (jn (BIJ c a) (a.Bl==a.Aa)))) (br (a.Kind==2) (bd (AA6 c a.Id) fun g=>br (decide (g<0)) (some 7) (jn A83 ())) (br (a.Kind==3) (bd (AQS a.Aa (↑c.AI.length:Int)) fun h=>br (!h) (some 4) (bd (AQR a.A2 1 60) fun j=>br (!j) (some 5) (bd (AIR c a.Aa) fun q=>br (decide (q<a.A2)) (some 12) (jn A83 ())))) (br (a.Kind==4) (jn (BKN c a) (a.Kind==4)) (jn (BKN c a) (a.Kind==5))))))))
def OU:GF:=gZ [.v (.st 8),.v (.st 0)] BGg BGb 0x248e998c0abad6e624a48b1fbb9f8c08610d5acca6c44acd8a8b3598fdf80fabe9bcaea9737d63c643987400b7dd5838e12deced7c6eab7ec61d818fde1173cd9dd106196daddc9731182657c6696519dc52be7c10a831ce13063cdc8862fa923d8a7bdf3edfe3152cdd9f62e9ce04da569ae1526f2539fa2d793f3216a9d8e7b139324e1f88b1d7967a29b0f6886734087610ea39e6e8525d8ece8babfd564056ea0eddde81ec3c8e7cc226bde3d0630404087a395d495d12fda004508a3a731527829f2f00963ee01bde1cdf00eb6760b50fc670f5c1db72ad177b10106d7b5b7730e6a8b64ebe141e9cc3ce5d0723b89094aa2edfe58b05d49b947409aeab71a1463b6b576233e05004409483040567a86ab7524ee8b18b206de9bd67e82fb7f6954a12efd59a24f7d9d3d0eba6276e803f70327e972f4570038a723fc5a4478e9e2d0719adfd5425c078a1c3a696f37efb624fdf2d791d9108665c3157829c840fdfb12eb138699f2dcfa20070dd009bd8fdf593ecd6626c4d3dd9600dfee438ef644ace04e3b5af39d1036a3afc7b7ed005904c86ec8c49abdd34e75839f5a666818643587072ad844fef08d8031a0be6a8d9d3a4505994defd8d1431f264a6fb234763b0c289d6c79a4f0b291dfdc59abafc0555dd489d15ffaa72bc12a862d5630ba969f689fb78e7538e1f29402f07c2030df5e [OO,Rz,SD,R0,SS,P7,Xl,Ll] (Ah AIV)
def AIX(a:AK)(c:AK):AA Bool:=some (decide (a.Id>c.Id))
def OV:GF:=gZ [.v (.st 2),.p (.st 2)] Cm [.tmp 3] 0x601f71a57b47bd66d6fdbf [] (Ah AIX)
def Ahv:YF:=⟨[OV],[.v (.l (.st 2)),.f OV.x [(true,(.st 2))]],[0],.ret [.i],[.tmp 4],dY 0x36f2f2782273baae4585aa0db5ea7ce9670c1a66af296c6cf61a146410fae43dbb22342f09c2c0d3bf7f1a131aed139f [] [.D1 16 (.tmp 11) [.v,.p] [.tmp 15]]⟩
def BCh(_:PUnit):AA Int:=some (-1)
def BA4(e:List AK)(a:AK)(g:Int->AA Int)(c:Int):AA Int:=br (decide (c<(↑e.length:Int))) (bd (at? e c) fun h=>bd (AIX h a) fun j=>br j (some c) (g (w64 (c+1)))) (jn BCh ())
def AA7(c:List AK)(a:AK):AA Int:=A4 (BA4 c a) big 0
def Xm:GF:=Ahv.gf rfl rfl (fun a=>AA7 a.1 a.2.1.1) (fun a=>by kernel_rfl)
def Ahw:YF:=⟨[OV],[.v (.l (.st 2)),.v (.st 2)],[],.ret [(.l (.st 2))],[.tmp 4],dY 0x171bf2e32accb13069769a851e2b8268ff04475b3f1b0f48e19e6e6a79cdfce8356cf8eeba872080022238fafab3de0a8b7a3c6c2f24b30b02eccb64b20dababa3d44 [SR,AY8] [.PF 22 0 [.tmp 3],.call 23 Xm [0] rfl [.tmp 21,.tmp 22]]⟩
def BKP(a:List AK)(c:AK)(e:Int):AA (List AK):=bd (AQg a e [c]) fun g=>some g
def AYG(a:List AK)(c:AK):AA (List AK):=gd (0+a.length<=lim) (bd (AA5 a c.Id) fun e=>br (decide (e>=0)) (bd (at? a e) fun h=>bd (at? a e) fun j=>some (a.set (Int.toNat e) c)) (bd (AA7 a c) fun g=>br (decide (g<0)) (jn (BKP a c) (↑a.length:Int)) (jn (BKP a c) g)))
def Xn:GF:=Ahw.D2 (Ah AYG)
def Ain(c:List Ad)(e:List Ad)(a:Bool):AA ((List Ad)×Bool):=br a (some (c,false)) (some (e,true))
def A84(c:List Ad)(q:Ad)(B:List Ad)(y:Int):AA ((List Ad)×Bool):=bd (AQY c) fun E=>bd (AQh E y [q]) fun a=>bd (AQY c) fun e=>bd (AQh e y [q]) fun g=>eqv a g (bd (AQU c) fun h=>br (!h) (jn (Ain B a) true) (bd (AQU a) fun j=>jn (Ain B a) (!j)))
def Aim(e:List Ad)(g:Ad)(j:List Ad)(c:Int->AA ((List Ad)×Bool))(a:Int)(h:Bool):AA ((List Ad)×Bool):=br h (c (w64 (a+1))) (jn (A84 e g j) a)
def Ajo(a:List Ad)(e:Ad)(h:List Ad)(g:Int->AA ((List Ad)×Bool))(c:Int):AA ((List Ad)×Bool):=br (decide (c<(↑a.length:Int))) (bd (at? a c) fun j=>bd (bQ j e) fun q=>jn (Aim a e h g c) q) (jn (Aim a e h g c) false)
def AQ0(a:List Ad)(c:Ad):AA ((List Ad)×Bool):=bd (AQY a) fun e=>A4 (Ajo a c e) big 0
def Xo:GF:=gZ AvR ah [.tmp 4,.tmp 5] 0x11ea5c01421dbef34b9eb93ba705a0b8e4ba4dc47d7df31c7a02f83c7d711805f33277c9b3bc1398c4f91cf29dc9f566303f91d11fe230cbb4726d895e53b9292ec2091c57202a08642db20a9eb746e04aa5c0eb9f4a81f97e977cd79682225e73cf31478dd6f71c45feef6a56f930b07c1e07715477346c86a [SA,Li,Xk,R4] (Ah AQ0)
def AA8(a:A9)(c:Int):AA A9:=some (A9.mk a.Total a.DT a.EH a.Ep (w64 (a.E8+c)))
def AZB:GF:=gZ A6f BJu [] 0x1e2b8e78091137e5ac054ce1d4893f6 [] (Ah AA8)
def BLC:=fun (a:GF)=>(⟨[a],[.v (.st 3),.v .i,.f a.x [(true,.i)]],[0],.ret [(.st 3),.b],[.cell 6 (some 5),.tmp 7],dY 0x23d442dbcfcc9b0fa28716d0536490acbfee37a33b5d898913dc6133fdfff29b8a76d663aa7300cde0869c1b607e1ebec5c8fe61d173122e2160e909 [P8,Rz] [.D1 20 (.tmp 19) [.b,.p] [.tmp 8]]⟩:YF)
def Ap7:YF:=BLC AZB
def BKQ(c:A9)(a:Int)(g:Bool):AA (A9×Bool):=br g (some (c,false)) (bd (AA8 c a) fun e=>bd (AAj e) fun h=>br (!h) (some (c,false)) (some (e,true)))
def AQ1(c:A9)(e:Int)(a:Int):AA (A9×Bool):=bd (AAj c) fun g=>br (!g) (jn (BKQ c a) true) (bd (AQR e 0 60) fun h=>jn (BKQ c a) (!h))
def Xp:GF:=Ap7.gf rfl rfl (fun a=>AQ1 a.1 a.2.1 a.2.2.1.1) (fun a=>by kernel_rfl)
def BK1:YF:=⟨[AZB],[.v (.st 3),.v .i],[],.ret [(.st 3),.b],[.cell 4 (some 5),.tmp 5],dY 0x19833225c3411b10baddd43a392c534f58fd46cb [] [.PF 8 0 [.tmp 3],.call 9 Xp [0] rfl [.tmp 6,.tmp 7,.tmp 8]]⟩
def sO(e:A9)(a:Int):AA (A9×Bool):=bd (AQ1 e a a) fun c=>some (c.fst,c.snd)
def lJ:GF:=BK1.D2 (Ah sO)
def BKR(a:List Int):AA (List Int):=some a
def AYN(e:List Int)(a:Int):AA (List Int):=bd (AQW e) fun c=>bd (AAs e a) fun g=>br (!g) (gd (List.length c+[a].length<=lim) (jn (BKR) (c++[a]))) (jn BKR c)
def AD6:GF:=gZ IE A87 BGb 0x59648226f82c62964c597fb2e2fffeb7ff517c05305dab458061b5ff [R7,QJ] (Ah AYN)
def Aq0(e:Int)(a:AD):AA (AD×Int):=bd (AYN a.BC e) fun c=>some (AD.mk a.AO a.Now a.Ap a.AG a.AI c a.A8,0)
def AQ2(h:AD)(B:Int)(c:Int)(g:Int)(y:Int)(E:Int):AA (AD×Int):=bd (AHt h) fun a=>bd (AIV h (BX.mk 1 B c g y E)) fun I=>br (I != 0) (some (a,I)) (bd (AYG a.AG (AK.mk B c g y E h.Now h.Ap 1 0 0)) fun J=>bd (qT a.AO (AK.mk B c g y E h.Now h.Ap 1 0 0) a.Now) fun Q=>bd (at? a.AI c) fun X=>bd (at? a.AI c) fun S=>bd (AQ0 S.Row Q.fst) fun j=>bd (at? a.AI c) fun Y=>bd (at? a.AI c) fun e=>br (g != -1) (bd (at? (a.AI.set c.toNat (AY.mk e.AV j.fst e.Bw)) g) fun L=>bd (at? (a.AI.set c.toNat (AY.mk e.AV j.fst e.Bw)) g) fun G=>bd (sO G.AV y) fun H=>bd (at? (a.AI.set c.toNat (AY.mk e.AV j.fst e.Bw)) g) fun O=>bd (at? (a.AI.set c.toNat (AY.mk e.AV j.fst e.Bw)) g) fun q=>jn (Aq0 c) (AD.mk a.AO a.Now (w64 (a.Ap+1)) J ((a.AI.set c.toNat (AY.mk e.AV j.fst e.Bw)).set g.toNat (AY.mk H.fst q.Row q.Bw)) a.BC a.A8)) (jn (Aq0 c) (AD.mk a.AO a.Now (w64 (a.Ap+1)) J (a.AI.set c.toNat (AY.mk e.AV j.fst e.Bw)) a.BC a.A8)))
def AD7:GF:=gZ [.v (.st 8),.v .i,.v .i,.v .i,.v .i,.v .i] AsG [.cell 12 (some 15),.tmp 13] 0xd4b319f2b8a35b2a10d1f9f00387165c7bbe3033a549d563f41c90a51401823590ba50ceedd47d1d27b7684db5e93ce85fb11576ac2299fe7f0ceaa12b3ba030b3638d44bdcc046128be2ed3a5beede07b5e809be7cbf6c94c4877e9d33062c834b2cfe7d3eef5a145110052e5e8596f862f4fa2a568183003581665f4bfcc3e1e981cf17c3a607144776d2123e83878f3796e3b005c986ed7829081d5345dfca8dbdc770bc8dca14d315bd2eda188fbedb2cb201ba28f54194769b2552ac55148a518ea9d17b0bd55813a224e58bac8bb561e672541c4389c8847c662030cc959fde180970 [QO,OU,Xn,OH,Xo,lJ,AD6] (APx AQ2)
def AQ3(c:List Ad)(g:Int):AA ((List Ad)×Bool):=bd (AQY c) fun e=>bd (AQT c g) fun a=>br (decide (a<0)) (some (e,false)) (bd (AII e a (w64 (a+1))) fun h=>some (h,true))
def AD8:GF:=gZ [.v (.l (.st 4)),.v .i] ah [.tmp 4,.tmp 5] 0x2df93a6753a14149d2b16a10dfccc2ad15b414c0f01c523b85999a65c10a45b9d07ec462c55 [SA,R3,VF] (Ah AQ3)
def AIo(_:PUnit):AA Int:=some (-1)
def fh(c:List A6)(e:A6)(h:Int->AA Int)(a:Int):AA Int:=br (decide (a<(↑c.length:Int))) (bd (at? c a) fun g=>br (e.At==g.At&&(e.Id==g.Id&&true)) (some a) (h (w64 (a+1)))) (jn AIo ())
def AQ4(a:List A6)(c:A6):AA Int:=A4 (fh a c) big 0
def AD9:GF:=gZ AvS BGg BGb 0x138490b1bdc697fc7771fa587962755578da309a257b63e0b29d80099cca58db020c2a1adcce7f5824e97679b55e5 [] (Ah AQ4)
def BKS(a:A6)(c:An)(h:Bool):AA (An×Bool):=br h (some (c,false)) (bd (at? c.Ak (a.At.tmod 9)) fun q=>bd (at? c.Ak (a.At.tmod 9)) fun g=>bd (AQ4 g a) fun e=>br (decide (e<0)) (some (c,false)) (bd (rr g e (w64 (e+1))) fun j=>bd (at? c.Ak (a.At.tmod 9)) fun y=>bd (at? c.Ak (a.At.tmod 9)) fun B=>gd (Y.Od (a.At.tmod 9).toNat 0 1 [((a.At.tmod 9).toNat,0)]) (some ((An.mk (c.Ak.set (a.At.tmod 9).toNat j),true)))))
def AQ5(e:An)(a:A6):AA (An×Bool):=bd (AA0 e) fun g=>bd (nA e) fun h=>br (!h) (jn (BKS a g) true) (bd (AAo a) fun c=>jn (BKS a g) (!c))
def AEA:GF:=gZ [.v (.st 6),.v (.st 5)] Am1 [.cell 4 (some 1),.tmp 5] 0x293335e3a30c86e5f404b56336d51e8b0d23055d509d392e427a21a589a094cd5c3e9916db1d529baaa7ac3348b8ff37180ee3424c153632b5f0802083e7e4cf062988acccf44d8ac89693f596ce75ac73f9038caf5c09ceec8da68f3cd09990d2997e72503a3e5fb1f3 [SH,OF,QD,AD9,SN] (Ah AQ5)
def AQ6(a:A9)(c:Int):AA A9:=some (A9.mk a.Total (w64 (a.DT+c)) (w64 (a.EH-c)) a.Ep a.E8)
def AEB:GF:=gZ A6f BJu [] 0x225b832a271088ed7abac8692bd6c262c53abf17757320befb1bd8cc2baa9 [] (Ah AQ6)
def BK2:YF:=BLC AEB
def BKT(c:A9)(a:Int)(g:Bool):AA (A9×Bool):=br g (some (c,false)) (bd (AQ6 c a) fun e=>bd (AAj e) fun h=>br (!h) (some (c,false)) (some (e,true)))
def AIy(c:A9)(e:Int)(a:Int):AA (A9×Bool):=bd (AAj c) fun g=>br (!g) (jn (BKT c a) true) (bd (AQR e 0 60) fun h=>jn (BKT c a) (!h))
def xI:GF:=BK2.gf rfl rfl (fun a=>AIy a.1 a.2.1 a.2.2.1.1) (fun a=>by kernel_rfl)
def BK3:YF:=⟨[AEB],[.v (.st 3),.v .i],[],.ret [(.st 3),.b],[.cell 4 (some 5),.tmp 5],dY 0x19833225c3411b10baddd43a392c534f58fd46cb [] [.PF 8 0 [.tmp 3],.call 9 xI [0] rfl [.tmp 6,.tmp 7,.tmp 8]]⟩
def sS(e:A9)(a:Int):AA (A9×Bool):=bd (AIy e a a) fun c=>some (c.fst,c.snd)
def lK:GF:=BK3.D2 (Ah sS)
def HB(a:A9)(c:Int):AA A9:=some (A9.mk a.Total a.DT a.EH a.Ep (w64 (a.E8-c)))
def VG:GF:=gZ A6f BJu [] 0x1a3a3a65709c080dea1d6a7d2eadbfe [] (Ah HB)
def BKx:YF:=BLC VG
def BKJ(c:A9)(a:Int)(g:Bool):AA (A9×Bool):=br g (some (c,false)) (bd (HB c a) fun e=>bd (AAj e) fun h=>br (!h) (some (c,false)) (some (e,true)))
def AQu(c:A9)(e:Int)(a:Int):AA (A9×Bool):=bd (AAj c) fun g=>br (!g) (jn (BKJ c a) true) (bd (AQR e 0 60) fun h=>jn (BKJ c a) (!h))
def ANi:GF:=BKx.gf rfl rfl (fun a=>AQu a.1 a.2.1 a.2.2.1.1) (fun a=>by kernel_rfl)
def Ahs:YF:=⟨[VG],[.v (.st 3),.v .i],[],.ret [(.st 3),.b],[.cell 4 (some 5),.tmp 5],dY 0x19833225c3411b10baddd43a392c534f58fd46cb [] [.PF 8 0 [.tmp 3],.call 9 ANi [0] rfl [.tmp 6,.tmp 7,.tmp 8]]⟩
def rl(e:A9)(a:Int):AA (A9×Bool):=bd (AQu e a a) fun c=>some (c.fst,c.snd)
def QR:GF:=Ahs.D2 (Ah rl)
def BKK(a:List AK):AA (List AK):=some a
def AQv(a:List AK)(e:Int):AA (List AK):=gd (0+a.length<=lim) (bd (AA5 a e) fun c=>br (decide (c>=0)) (bd (nF a c (w64 (c+1))) fun g=>jn (BKK) g) (jn BKK a))
def ANj:GF:=gZ AsD (.ret [(.l (.st 2))]) BGb 0x2e266535a5cb1cbb42705a763321a35d5db39a5d131323e4d5101ba502c9be43ecf8f4c8e [SR,SO] (Ah AQv)
def AID(e:Int)(a:AD):AA (AD×Int):=bd (AQv a.AG e) fun c=>some (AD.mk a.AO a.Now a.Ap c a.AI a.BC a.A8,0)
def ArZ(j:Int)(c:AK)(a:AD):AA (AD×Int):=br (c.Bl != -1) (bd (at? a.AI c.Bl) fun q=>bd (at? a.AI c.Bl) fun g=>bd (rl g.AV c.A2) fun h=>bd (at? a.AI c.Bl) fun y=>bd (at? a.AI c.Bl) fun e=>jn (AID j) (AD.mk a.AO a.Now a.Ap a.AG (a.AI.set c.Bl.toNat (AY.mk h.fst e.Row e.Bw)) a.BC a.A8)) (jn (AID j) a)
def AA3(j:AD)(g:Int):AA (AD×Int):=bd (AHt j) fun a=>bd (AIV j (BX.mk 2 g 0 0 0 0)) fun I=>br (I != 0) (some (a,I)) (bd (AA6 j g) fun J=>bd (at? j.AG J) fun c=>bd (AA6 j g) fun L=>bd (at? j.AG L) fun O=>MF c O (bd (at? a.AI c.Aa) fun X=>br (c.State==1) (bd (at? a.AI c.Aa) fun Q=>bd (AQ3 Q.Row g) fun S=>bd (at? a.AI c.Aa) fun q=>jn (ArZ g c) (AD.mk a.AO a.Now a.Ap a.AG (a.AI.set c.Aa.toNat (AY.mk q.AV S.fst q.Bw)) a.BC a.A8)) (bd (at? a.AI c.Aa) fun B=>bd (AQ5 B.Bw (A6.mk c.Cf g)) fun h=>bd (at? a.AI c.Aa) fun e=>bd (at? (a.AI.set c.Aa.toNat (AY.mk e.AV e.Row h.fst)) c.Aa) fun E=>bd (sS E.AV c.A2) fun G=>bd (at? (a.AI.set c.Aa.toNat (AY.mk e.AV e.Row h.fst)) c.Aa) fun y=>bd (AYN a.BC c.Aa) fun H=>jn (ArZ g c) (AD.mk a.AO a.Now a.Ap a.AG ((a.AI.set c.Aa.toNat (AY.mk e.AV e.Row h.fst)).set c.Aa.toNat (AY.mk G.fst y.Row y.Bw)) H a.A8))))
def AD5:GF:=gZ Amx AsG AvV 0x3c92c2dd04d79706e846a9959d5c4b12f482e1af50ca3d2da3311f7e9bb4af3b81e11e2a57d63fe5fe38e7149b85a33635db68b4439b47b63aaa7ab7daac206c62a4a34de2aef35599d4856b50516bab2a0ad35fc4f8a95ad1a15f8aaf21ef9989de928a6570b569a05d309b30ac0d430c3faa4a9cee0d485874be70d3ea5f5943d3e7f7cfc3915f2d7d74100f091c40c5fe12a88d5456caa64fface4cdd1848086f884ac06152cd63d240d47d1e184ad3a65c67635b128860a05faf13a17b2ab5d65e091cec395ceca6f81627dbabfad32e2dc6e14ca725e5d06c19c53fad76bf25604e33b56c843af3b41942e80f6f5e8dd9684e355c428d5b6041c1354e2cf34fe24c98d3f [QO,OU,SS,AD8,AEA,lK,AD6,QR,ANj] (Ah AA3)
def AQw(a:A9)(c:Int):AA A9:=some (A9.mk a.Total (w64 (a.DT+c)) a.EH (w64 (a.Ep-c)) a.E8)
def ANk:GF:=gZ A6f BJu [] 0x34b9f277097ae4b9d535cc47c065a2debf95ce671bd31379e7654871eaa34 [] (Ah AQw)
def A71:YF:=BLC ANk
def BKL(c:A9)(a:Int)(g:Bool):AA (A9×Bool):=br g (some (c,false)) (bd (AQw c a) fun e=>bd (AAj e) fun h=>br (!h) (some (c,false)) (some (e,true)))
def Lf(c:A9)(e:Int)(a:Int):AA (A9×Bool):=bd (AAj c) fun g=>br (!g) (jn (BKL c a) true) (bd (AQR e 0 60) fun h=>jn (BKL c a) (!h))
def Lk:GF:=A71.gf rfl rfl (fun a=>Lf a.1 a.2.1 a.2.2.1.1) (fun a=>by kernel_rfl)
def BKy:YF:=⟨[ANk],[.v (.st 3),.v .i],[],.ret [(.st 3),.b],[.cell 4 (some 5),.tmp 5],dY 0x19833225c3411b10baddd43a392c534f58fd46cb [] [.PF 8 0 [.tmp 3],.call 9 Lk [0] rfl [.tmp 6,.tmp 7,.tmp 8]]⟩
def AA4(e:A9)(a:Int):AA (A9×Bool):=bd (Lf e a a) fun c=>some (c.fst,c.snd)
def SM:GF:=BKy.D2 (Ah AA4)
def AQx(e:AD)(c:Int)(g:Int):AA (AD×Int):=bd (AHt e) fun a=>bd (AIV e (BX.mk 3 0 c 0 g 0)) fun h=>br (h != 0) (some (a,h)) (bd (at? a.AI c) fun E=>bd (at? a.AI c) fun q=>bd (AA4 q.AV g) fun y=>bd (at? a.AI c) fun G=>bd (at? a.AI c) fun j=>bd (AYN a.BC c) fun B=>some ((AD.mk a.AO a.Now a.Ap a.AG (a.AI.set c.toNat (AY.mk y.fst j.Row j.Bw)) B a.A8,0)))
def AY9:GF:=gZ [.v (.st 8),.v .i,.v .i] AsG [.cell 6 (some 15),.tmp 7] 0xa81bad0a8ec048e4f9c67d5496b1302c198b10abe509ebf08c8079be78681b6e7af3e7dcd34b4458bcef83d4ba91bb6344d4de10aeeab1f36ef3ebd05ba9829680470c4e108491a5a040ada8d9feca627cc672459d97d8010d65909aaddec30 [QO,OU,SM,AD6] (GX AQx)
def AQy(a:A9)(c:Int):AA A9:=some (A9.mk a.Total a.DT (w64 (a.EH-c)) (w64 (a.Ep+c)) a.E8)
def VE:GF:=gZ A6f BJu [] 0x5945d53d547e12380e981a13df750de5a5690527a3dad7eee66876c413415 [] (Ah AQy)
def BKz:YF:=BLC VE
def As9(c:A9)(a:Int)(g:Bool):AA (A9×Bool):=br g (some (c,false)) (bd (AQy c a) fun e=>bd (AAj e) fun h=>br (!h) (some (c,false)) (some (e,true)))
def AQz(c:A9)(e:Int)(a:Int):AA (A9×Bool):=bd (AAj c) fun g=>br (!g) (jn (As9 c a) true) (bd (AQR e 0 60) fun h=>jn (As9 c a) (!h))
def AZA:GF:=BKz.gf rfl rfl (fun a=>AQz a.1 a.2.1 a.2.2.1.1) (fun a=>by kernel_rfl)
def BK4:YF:=⟨[VE],[.v (.st 3),.v .i],[],.ret [(.st 3),.b],[.cell 4 (some 5),.tmp 5],dY 0x19833225c3411b10baddd43a392c534f58fd46cb [] [.PF 8 0 [.tmp 3],.call 9 AZA [0] rfl [.tmp 6,.tmp 7,.tmp 8]]⟩
def ARA(e:A9)(a:Int):AA (A9×Bool):=bd (AQz e a a) fun c=>some (c.fst,c.snd)
def AZC:GF:=BK4.D2 (Ah ARA)
def A3G(a:AD):AA (AD×Int):=some (a,0)
def nG(B:AD)(E:Int):AA (AD×Int):=bd (AHt B) fun g=>bd (AIV B (BX.mk 4 E 0 0 0 0)) fun S=>br (S != 0) (some (g,S)) (bd (AA6 B E) fun Y=>bd (at? B.AG Y) fun c=>bd (AA6 B E) fun Z=>bd (at? B.AG Z) fun x6=>MF c x6 (bd (at? g.AI c.Aa) fun x7=>bd (at? g.AI c.Aa) fun x8=>bd (ARA x8.AV c.A2) fun q=>bd (at? g.AI c.Aa) fun a=>bd (at? (g.AI.set c.Aa.toNat (AY.mk q.fst a.Row a.Bw)) c.Aa) fun I=>bd (AQ5 I.Bw (A6.mk c.Cf E)) fun h=>bd (at? (g.AI.set c.Aa.toNat (AY.mk q.fst a.Row a.Bw)) c.Aa) fun e=>bd (AQv g.AG E) fun G=>br (c.Bl != -1) (bd (at? ((g.AI.set c.Aa.toNat (AY.mk q.fst a.Row a.Bw)).set c.Aa.toNat (AY.mk e.AV e.Row h.fst)) c.Bl) fun X=>bd (at? ((g.AI.set c.Aa.toNat (AY.mk q.fst a.Row a.Bw)).set c.Aa.toNat (AY.mk e.AV e.Row h.fst)) c.Bl) fun J=>bd (rl J.AV c.A2) fun y=>bd (at? ((g.AI.set c.Aa.toNat (AY.mk q.fst a.Row a.Bw)).set c.Aa.toNat (AY.mk e.AV e.Row h.fst)) c.Bl) fun j=>bd (at? (((g.AI.set c.Aa.toNat (AY.mk q.fst a.Row a.Bw)).set c.Aa.toNat (AY.mk e.AV e.Row h.fst)).set c.Bl.toNat (AY.mk y.fst j.Row j.Bw)) c.Bl) fun L=>bd (AA4 L.AV c.A2) fun O=>bd (at? (((g.AI.set c.Aa.toNat (AY.mk q.fst a.Row a.Bw)).set c.Aa.toNat (AY.mk e.AV e.Row h.fst)).set c.Bl.toNat (AY.mk y.fst j.Row j.Bw)) c.Bl) fun H=>bd (AYN g.BC c.Bl) fun Q=>jn (A3G) (AD.mk g.AO g.Now g.Ap G ((((g.AI.set c.Aa.toNat (AY.mk q.fst a.Row a.Bw)).set c.Aa.toNat (AY.mk e.AV e.Row h.fst)).set c.Bl.toNat (AY.mk y.fst j.Row j.Bw)).set c.Bl.toNat (AY.mk O.fst H.Row H.Bw)) Q g.A8)) (jn A3G (AD.mk g.AO g.Now g.Ap G ((g.AI.set c.Aa.toNat (AY.mk q.fst a.Row a.Bw)).set c.Aa.toNat (AY.mk e.AV e.Row h.fst)) g.BC g.A8))))
def cg:GF:=gZ Amx AsG AvV 0x1b48bc8d2b629664e3cfa3241b1d9c58904127e9e9c549a2fa4232ac7667c4b2225a222105934e18cc98fb969f6b59524e60d1dce8667704f64a0ee031181d5e7dfec81eae702499265200c4289597d3d20b83dec2586bd146ba62ce7b606c08e33ba6d9da88066a7a896ade2ca8e8d51950810cb2db1a7f819ec6c8c84fce9b2140eba0e4ecaa000038105eadefa87ceeadc248055e387bfd12f86878d02500deae3573b089546170368f685b9c66358c58ae4f4c2f43f3b3af0f2854c9b7f58b4925b754d44571a8dbf86424416c52f047d3fcf1bb87cab9f347a7bbe02d5c7f8f1b22cd0808cc1a319cfea042a1fdddcfd665945f2d402eb [QO,OU,SS,AZC,AEA,ANj,QR,SM,AD6] (Ah nG)
def AtL(c:AZ)(a:AK)(e:Int)(g:Bool):AA (AK×Bool):=br g (some (AK.mk 0 0 0 0 0 0 0 0 0 0,false)) (some ((AK.mk a.Id a.Aa a.Bl a.A2 a.Cj a.Since a.Ap 1 (w64 (e+c.Rest)) (w64 (a.Cu+1)),true)))
def ARB(c:AZ)(a:AK)(e:Int):AA (AK×Bool):=bd (qC c a e) fun g=>br (!g) (jn (AtL c a e) true) (br (a.State != 2) (jn (AtL c a e) true) (jn (AtL c a e) (w64 (a.Cu+1)==c.CL)))
def AZD:GF:=gZ Ae8 (.ret [(.st 2),.b]) [.cell 6 (some 10),.tmp 7] 0x5806c3ea3ead91a282c7b8b6912dc1ed30d92de969ca1ed855ed5fae95684b33ca5e63598db14665e8447108ed882f08ddbc3a821a33bae24781e71ddaf0d85058c6e08a2a34d8d5362b85b9f [OE] (GX ARB)
def Air(a:AD):AA AD:=some a
def ARC(c:AD)(G:Int):AA AD:=bd (AA6 c G) fun X=>bd (at? c.AG X) fun x2=>bd (at? c.AG X) fun e=>bd (AA6 c G) fun Y=>bd (at? c.AG Y) fun x5=>bd (at? c.AG Y) fun x6=>MF e x6 (bd (at? c.AI e.Aa) fun x7=>bd (at? c.AI e.Aa) fun x8=>bd (sS x8.AV e.A2) fun j=>bd (at? c.AI e.Aa) fun a=>bd (at? (c.AI.set e.Aa.toNat (AY.mk j.fst a.Row a.Bw)) e.Aa) fun H=>bd (AQ5 H.Bw (A6.mk e.Cf G)) fun h=>bd (at? (c.AI.set e.Aa.toNat (AY.mk j.fst a.Row a.Bw)) e.Aa) fun g=>bd (ARB c.AO e c.Now) fun q=>br q.snd (bd (AYG c.AG q.fst) fun I=>bd (qT c.AO q.fst c.Now) fun J=>bd (at? ((c.AI.set e.Aa.toNat (AY.mk j.fst a.Row a.Bw)).set e.Aa.toNat (AY.mk g.AV g.Row h.fst)) e.Aa) fun L=>bd (AQ0 L.Row J.fst) fun O=>bd (at? ((c.AI.set e.Aa.toNat (AY.mk j.fst a.Row a.Bw)).set e.Aa.toNat (AY.mk g.AV g.Row h.fst)) e.Aa) fun y=>some (AD.mk c.AO c.Now c.Ap I (((c.AI.set e.Aa.toNat (AY.mk j.fst a.Row a.Bw)).set e.Aa.toNat (AY.mk g.AV g.Row h.fst)).set e.Aa.toNat (AY.mk y.AV O.fst y.Bw)) c.BC c.A8)) (bd (AQv c.AG G) fun B=>br (e.Bl != -1) (bd (at? ((c.AI.set e.Aa.toNat (AY.mk j.fst a.Row a.Bw)).set e.Aa.toNat (AY.mk g.AV g.Row h.fst)) e.Bl) fun Z=>bd (at? ((c.AI.set e.Aa.toNat (AY.mk j.fst a.Row a.Bw)).set e.Aa.toNat (AY.mk g.AV g.Row h.fst)) e.Bl) fun Q=>bd (rl Q.AV e.A2) fun S=>bd (at? ((c.AI.set e.Aa.toNat (AY.mk j.fst a.Row a.Bw)).set e.Aa.toNat (AY.mk g.AV g.Row h.fst)) e.Bl) fun x24=>bd (at? ((c.AI.set e.Aa.toNat (AY.mk j.fst a.Row a.Bw)).set e.Aa.toNat (AY.mk g.AV g.Row h.fst)) e.Bl) fun E=>jn (Air) (AD.mk c.AO c.Now c.Ap B (((c.AI.set e.Aa.toNat (AY.mk j.fst a.Row a.Bw)).set e.Aa.toNat (AY.mk g.AV g.Row h.fst)).set e.Bl.toNat (AY.mk S.fst E.Row E.Bw)) c.BC c.A8)) (jn Air (AD.mk c.AO c.Now c.Ap B ((c.AI.set e.Aa.toNat (AY.mk j.fst a.Row a.Bw)).set e.Aa.toNat (AY.mk g.AV g.Row h.fst)) c.BC c.A8))))
def ANn:GF:=gZ [.o (.st 8),.v .i] A5C [.cell 4 (some 15)] 0x3be4fca7d8d99c53444f0926d296845b3f1ad77736b40294bcde5bdf88a2eed916e5e9fb0f67b9e6986905f1028df731f9a604475ba292e4a61af1e6a0c3a0c8b88d6c37301900cc37c5f5101a3f939d8ed65007e419caa0bf50a649021a8585d07090240fbd4ba55a90023cd0fccb59207ba04274f6c8834e4a9f1cd1d4c0f5927307c39abdf24bceee7821f0e8b4419aa10dd194843648c82c49e15d44c1c5f5391a9ec2a3f8cf12ee071ffd5f9ee6a4f8e7c6c77a4945d276ee8433406b8be1e3e390b5327c6ecbc6883487a14ae1818f94c41632948afedadc54d695eba77aec4172db465f3d864f67ca2e2741f5456c91b4ac89789dac5f1aa002a9a163a72b2f5fff3424a63793b6ffa5908ca9f8018758d [SS,lK,AEA,AZD,Xn,OH,Xo,ANj,QR] (Ah ARC)
def ABB(c:AD)(e:Int):AA (AD×Int):=bd (AHt c) fun g=>bd (AIV c (BX.mk 5 e 0 0 0 0)) fun h=>br (h != 0) (some (g,h)) (bd (AA6 c e) fun j=>bd (at? c.AG j) fun q=>bd (ARC g e) fun a=>bd (AYN a.BC q.Aa) fun y=>some (AD.mk a.AO a.Now a.Ap a.AG a.AI y a.A8,0))
def AED:GF:=gZ Amx AsG AvV 0x15207e49d44be3d637cb02e29ffbc5e4606878d78934e99774fc66b2b34d38388ee28c2c3cb21bd792e18fd3f05ad646ab6f3f93b261d49fd5aea720e2439ced0b189bef7eec02b6ba5b252f4fa029e1429629af2b622d [QO,OU,SS,ANn,AD6] (Ah ABB)
def Aj1(c:(Int×AD)->AA (AD×Int))(e:Int)(a:AD):AA (AD×Int):=c ((w64 (e+1),a))
def Aj2(a:AD):AA (AD×Int):=some (a,0)
def A3H(q:AD)(h:(Int×AD)->AA (AD×Int))(B:(Int×AD)):AA (AD×Int):=match B with |(c,a)=>br (decide (c<(↑q.AI.length:Int))) (bd (Wz a.AO a.AG c a.Now) fun j=>bd (at? a.AI c) fun E=>bd (at? a.AI c) fun e=>bd (AHK a.AG c) fun y=>br (decide (y>0)) (bd (AYN a.BC c) fun g=>jn (Aj1 h c) (AD.mk a.AO a.Now a.Ap a.AG (a.AI.set (Int.toNat c) (AY.mk e.AV j e.Bw)) g a.A8)) (jn (Aj1 h c) (AD.mk a.AO a.Now a.Ap a.AG (a.AI.set (Int.toNat c) (AY.mk e.AV j e.Bw)) a.BC a.A8))) (jn Aj2 a)
def AYO(c:AD):AA (AD×Int):=bd (AHt c) fun a=>bd (AIV c (BX.mk 6 0 0 0 0 0)) fun e=>br (e != 0) (some (a,e)) (A4 (A3H a) big ((0,AD.mk a.AO (w64 (a.Now+1)) a.Ap a.AG a.AI a.BC a.A8)))
def AEE:GF:=gZ AZv AsG xg 0x84bf35af7a85e9da1ba547c97be901bd486c51bf70e92caf428008f7fb83abc3c733a53a12a27941d9a1e6806ec236c406b56157d350c4071a5920757fe3a1b87aef200ae8f839306411691b795e8c7181c61f384ab0321cd115dd7d9f15260ce9eb6d4b05a480f98e025824a2226713129b6ee8800b0dc7e1bdf8c9ac7466 [QO,OU,KH,P7,AD6] (BL AYO)
def A9g(a:Bool):AA Bool:=some a
def ARD(a:AD)(c:Int):AA Bool:=bd (AAt a) fun e=>br e (bd (AQS c (↑a.AI.length:Int)) fun g=>jn (A9g) g) (jn A9g false)
def AEF:GF:=gZ Amx Cm BGb 0x2c935c568cd5be199b058dc76f20709cdf0e54cea5a [OO,R0] (Ah ARD)
def AJI(a:((List A6)×Int)->AA (List A6))(c:Int)(e:List A6):AA (List A6):=a ((e,w64 (c+1)))
def BKi(a:List A6):AA (List A6):=some a
def sd(j:Int)(e:List A6)(h:((List A6)×Int)->AA (List A6))(q:((List A6)×Int)):AA (List A6):=match q with |(c,a)=>br (decide (a<(↑(List.length e):Int))) (bd (at? e a) fun y=>bd (at? e a) fun g=>br (decide (g.At<=j)) (gd (List.length c+[g].length<=lim) (jn (AJI h a) (c++[g]))) (jn (AJI h a) c)) (jn BKi c)
def ARE(a:An)(c:Int):AA (List A6):=bd (eU a) fun e=>A4 (sd c e) big ([],0)
def AEG:GF:=gZ [.v (.st 6),.v .i] Am0 BGb 0x34ee375744a471305705f8815e8c644991998f545390b2eaa33ffe7da32ac86bb0bfe516bc89e7fae7180ae1633e129f4ed192615d77ace56e5b02545b1abab22135 [Kt] (Ah ARE)
def AJJ(a:List Int):AA (List Int):=some a
def se(e:List A6)(h:((List Int)×Int)->AA (List Int))(j:((List Int)×Int)):AA (List Int):=match j with |(c,a)=>br (decide (a<(↑(List.length e):Int))) (bd (at? e a) fun q=>bd (at? e a) fun g=>gd (List.length c+[g.Id].length<=lim) (h ((c++[g.Id],w64 (a+1))))) (jn AJJ c)
def ARF(a:AD)(c:Int):AA (List Int):=bd (ARD a c) fun e=>br (!e) (some []) (bd (at? a.AI c) fun g=>bd (ARE g.Bw a.Now) fun h=>A4 (se h) big ([],0))
def AEH:GF:=gZ Amx A87 BGb 0x4f4a6a34ba22ffeeda121b76b4bd9ec15473bf640a9bc758d30aba390bf0105da809afcc91d59e8ff48494d40021d5e8c31e1e7b287b88699dfbb22e3d92c4ff073b7b636241d0b025619e6cb23e27 [AEF,AEG] (Ah ARF)
def AJK(a:AD):AA AD:=some a
def sg(c:List Int)(g:(Int×AD)->AA AD)(q:(Int×AD)):AA AD:=match q with |(a,e)=>br (decide (a<(↑(List.length c):Int))) (bd (at? c a) fun y=>bd (at? c a) fun h=>bd (ARC e h) fun j=>g ((w64 (a+1),j))) (jn AJK e)
def ARG(a:AD)(c:Int):AA AD:=bd (AHt a) fun e=>bd (ARF a c) fun g=>A4 (sg g) big (0,e)
def AEI:GF:=gZ Amx A5C [.cell 4 (some 15)] 0x173ce66bb6e8e0d40f6a007ea776a95dac022e02fc58358ec8f5ac60496cee555381a9eec632c43266759658ef96c96a3db0053f601cb913fb3ef9e0b7b37578 [QO,AEH,ANn] (Ah ARG)
def A3I(a:Bool):AA Bool:=some a
def ARH(a:AK)(c:Int):AA Bool:=br (a.State==1) (jn A3I (decide (a.Cf>c))) (jn A3I false)
def AEJ:GF:=gZ [.v (.st 2),.v .i] Cm BGb 0xf4191d49a509b1d554da09ff6ccf7b003d56411 [] (Ah ARH)
def A9h(a:Bool):AA Bool:=some a
def ABC(a:Ad)(c:Int)(e:List Int):AA Bool:=br (decide (a.A2<=c)) (bd (AAs e a.Id) fun g=>jn (A9h) (!g)) (jn A9h false)
def xK:GF:=gZ [.v (.st 4),.p .i,.p (.l .i)] Cm BGb 0x1fdc1fb03736fca1cc3c07efb3a47e229ff6ce9ed067ce2db [QJ] (GX ABC)
def AqA:YF:=⟨[xK],[.v (.l (.st 4)),.f xK.x [(true,.i),(true,(.l .i))]],[0],.ret [.i],[.tmp 4],dY 0x12f1b1875a544922466b804e0464f87bd27e7ec787be47f9d1a188c27f93376b7e5c6eb9a1032e574f9dd8ac0502bba2f [] [.D1 16 (.tmp 11) [.v,.p,.p] [.tmp 15]]⟩
def AJM(_:PUnit):AA Int:=some (-1)
def sj(g:List Ad)(a:Int)(c:List Int)(h:Int->AA Int)(e:Int):AA Int:=br (decide (e<(↑g.length:Int))) (bd (at? g e) fun j=>bd (ABC j a c) fun q=>br q (some e) (h (w64 (e+1)))) (jn AJM ())
def ARI(e:List Ad)(a:Int)(c:List Int):AA Int:=A4 (sj e a c) big 0
def ANo:GF:=AqA.gf rfl rfl (fun a=>ARI a.1 a.2.1.1 a.2.1.2.1) (fun a=>by kernel_rfl)
def A72:YF:=⟨[xK],[.v (.l (.st 4)),.v .i,.v (.l .i)],[],.ret [.i],[.tmp 6],dY 0x4fd321a531339d5940a107de [] [.PF 8 0 [.tmp 4,.tmp 5],.call 9 ANo [0] rfl [.tmp 7,.tmp 8]]⟩
def sk(a:List Ad)(c:Int)(e:List Int):AA Int:=bd (ARI a c e) fun g=>some g
def AEK:GF:=A72.D2 (GX sk)
def Awc(a:((List Int)×Int)->AA Int)(c:Int)(e:List Int):AA Int:=a ((e,w64 (c+1)))
def BKY(g:AD)(h:Int)(j:List Int):AA Int:=bd (at? g.AI h) fun e=>bd (sk e.Row e.AV.DT j) fun a=>br (decide (a<0)) (some 0) (bd (at? e.Row a) fun c=>some c.Id)
def AtT(a:AD)(j:Int)(h:((List Int)×Int)->AA Int)(y:((List Int)×Int)):AA Int:=match y with |(c,e)=>br (decide (e<(↑a.AG.length:Int))) (bd (at? a.AG e) fun g=>bd (ARH g a.Now) fun q=>br q (gd (List.length c+[g.Id].length<=lim) (jn (Awc h e) (c++[g.Id]))) (jn (Awc h e) c)) (jn (BKY a j) c)
def su(a:AD)(c:Int):AA Int:=bd (ARD a c) fun e=>br (!e) (some 0) (A4 (AtT a c) big ([],0))
def AEL:GF:=gZ Amx BGg BGb 0x1eeb0b4f5b8e18b7a21fa574ca7581bcc0e354b2010ec7b13a5d137c49886828afae680cf5592ed62598b89dc73922d832b25265f6c20df45becdad63131adce576e727f38ad7b7889eb64a53a8daaa41684434e56d33ba6f7d36d48ab8baace35047a06b7be3cf28d90a7dd2a846266cc41f61 [AEF,AEJ,AEK] (Ah su)
def ARJ(a:A9)(c:Int):AA A9:=some (A9.mk a.Total (w64 (a.DT-c)) (w64 (a.EH+c)) a.Ep a.E8)
def AZE:GF:=gZ A6f BJu [] 0x225b832a2698853631686d1f2187f171d8ee57f473498dd4c09e5174c72bd [] (Ah ARJ)
def BK5:YF:=BLC AZE
def Aj6(c:A9)(a:Int)(g:Bool):AA (A9×Bool):=br g (some (c,false)) (bd (ARJ c a) fun e=>bd (AAj e) fun h=>br (!h) (some (c,false)) (some (e,true)))
def ARK(c:A9)(e:Int)(a:Int):AA (A9×Bool):=bd (AAj c) fun g=>br (!g) (jn (Aj6 c a) true) (bd (AQR e 0 60) fun h=>jn (Aj6 c a) (!h))
def AZF:GF:=BK5.gf rfl rfl (fun a=>ARK a.1 a.2.1 a.2.2.1.1) (fun a=>by kernel_rfl)
def BK6:YF:=⟨[AZE],[.v (.st 3),.v .i],[],.ret [(.st 3),.b],[.cell 4 (some 5),.tmp 5],dY 0x19833225c3411b10baddd43a392c534f58fd46cb [] [.PF 8 0 [.tmp 3],.call 9 AZF [0] rfl [.tmp 6,.tmp 7,.tmp 8]]⟩
def sx(e:A9)(a:Int):AA (A9×Bool):=bd (ARK e a a) fun c=>some (c.fst,c.snd)
def QT:GF:=BK6.D2 (Ah sx)
def ARL(h:AD)(c:Int):AA (AD×Int):=bd (AHt h) fun e=>bd (su h c) fun y=>br (y==0) (some (e,0)) (bd (AA6 h y) fun L=>bd (at? h.AG L) fun j=>bd (AA6 h y) fun O=>bd (at? h.AG O) fun Q=>MF j Q (bd (at? e.AI c) fun X=>bd (at? e.AI c) fun S=>bd (sx S.AV j.A2) fun E=>bd (at? e.AI c) fun a=>bd (at? (e.AI.set c.toNat (AY.mk E.fst a.Row a.Bw)) c) fun G=>bd (AQ3 G.Row y) fun q=>bd (at? (e.AI.set c.toNat (AY.mk E.fst a.Row a.Bw)) c) fun g=>bd (AYG e.AG (AK.mk j.Id j.Aa j.Bl j.A2 j.Cj j.Since j.Ap 2 (w64 (h.Now+h.AO.Bq)) j.Cu)) fun H=>bd (at? ((e.AI.set c.toNat (AY.mk E.fst a.Row a.Bw)).set c.toNat (AY.mk g.AV q.fst g.Bw)) c) fun I=>bd (AQp I.Bw (A6.mk (w64 (h.Now+h.AO.Bq)) y)) fun J=>bd (at? ((e.AI.set c.toNat (AY.mk E.fst a.Row a.Bw)).set c.toNat (AY.mk g.AV q.fst g.Bw)) c) fun B=>some ((AD.mk e.AO e.Now e.Ap H (((e.AI.set c.toNat (AY.mk E.fst a.Row a.Bw)).set c.toNat (AY.mk g.AV q.fst g.Bw)).set c.toNat (AY.mk B.AV B.Row J.fst)) e.BC e.A8,y))))
def Xq:GF:=gZ Amx AsG AvV 0x2559378fd34d34d5f8b303314436d7e146631376fb947bc4faa4932494590dab94fd863eb7343af8378d3a19dde24e48ad195359c6576c395f333239c25e335d3ee6a20faa872c7e75bc0b6aaf010e9dfedc83a1edd0121fbff32543da901e748368e97b3f994bc5d3ace5616af5ea342d410b9e3cb7573579b5e99d8be966f5860d109df40319e2c7d58170b4cbe00ee15169d76e792767f40d66bac37a681af8a3e4dfa467ca49295f98a73f8e9ef8b2afc37a338ee607801a662155420c3de8ca80f25b0618351ee05b236ff0801d57e [QO,AEL,SS,QT,AD8,Xn,lE] (Ah ARL)
def BJt(h:Int)(g:((List Int)×AD)->AA (AD×(List Int)))(j:((List Int)×AD)):AA (AD×(List Int)):=match j with |(c,e)=>bd (ARL e h) fun a=>br (a.snd==0) (some (e,c)) (gd (List.length c+[a.snd].length<=lim) (g (c++[a.snd],a.fst)))
def Px(c:AD)(a:Int):AA (AD×(List Int)):=bd (ARG c a) fun e=>A4 (BJt a) big ([],e)
def JA:GF:=gZ Amx (.ret [(.st 8),(.l .i)]) AvV 0x1459121566d6978e40d87a9fc08a48f9b2f29d5656d479d6beeb5ae7f8395c0312af2411bc8fe9e6d6d486d3917610f6d05ed90b9f6d51816f11b6d9663a2324ba57acd57bc2fd3197 [AEI,Xq] (Ah Px)
def nH(h:AD)(e:Int):AA (AD×Int×(List Int)):=bd (AHt h) fun c=>bd (AIV h (BX.mk 7 e 0 0 0 0)) fun j=>br (j != 0) (some (c,j,[])) (bd (at? c.A8 e) fun G=>bd (at? c.A8 e) fun B=>br (B == -1) (bd (at? c.BC 0) fun H=>bd (at? c.BC 0) fun E=>bd (at? c.A8 e) fun I=>bd (at? c.A8 e) fun J=>gd ((0:Int)<=1/\1<=(↑c.BC.length:Int)) (some ((AD.mk c.AO c.Now c.Ap c.AG c.AI (List.take (c.BC.length-Int.toNat 1) (List.drop (Int.toNat 1) c.BC)) (c.A8.set e.toNat E),0,[])))) (bd (at? c.A8 e) fun L=>bd (at? c.A8 e) fun g=>bd (Px c g) fun a=>bd (at? a.fst.A8 e) fun q=>bd (at? a.fst.A8 e) fun y=>some ((AD.mk a.fst.AO a.fst.Now a.fst.Ap a.fst.AG a.fst.AI a.fst.BC (a.fst.A8.set e.toNat (-1)),0,a.snd))))
def ch:GF:=gZ Amx (.ret [(.st 8),.i,(.l .i)]) BE1 0x3e9202b7ae77989f1f155cc8ce4f277f82bf3b713ecfe47ce7c98ad599d1d1b48ea62d692dd283293f54fec7d698f6e93282436e6f090304c97e05e9e317f087ed6c75ac71bd092df5b2138cd931c4e74f2ce5e0a5e015fbf2d906d25fe0f7af18ab6693f41623f48367e0ae25bb5d4983da1554c0f3696aee1ff99d18a743d7aada2661d32c3e6b92a91cb9 [QO,OU,JA] (Ah nH)
def A3O(e:(AD×CE)):AA (AD×CE):=match e with |(a,c)=>some (a,c)
def AJS(c:AD)(a:BX):AA (AD×CE):=bd (AIV c a) fun h=>br (h != 0) (bd (AHt c) fun G=>some (G,CE.mk h [])) (br (a.Kind==1) (bd (AQ2 c a.Id a.Aa a.Bl a.A2 a.Cj) fun j=>jn (A3O) (j.fst,CE.mk j.snd [])) (br (a.Kind==2) (bd (AA3 c a.Id) fun q=>jn (A3O) (q.fst,CE.mk q.snd [])) (br (a.Kind==3) (bd (AQx c a.Aa a.A2) fun y=>jn (A3O) (y.fst,CE.mk y.snd [])) (br (a.Kind==4) (bd (nG c a.Id) fun B=>jn (A3O) (B.fst,CE.mk B.snd [])) (br (a.Kind==5) (bd (ABB c a.Id) fun E=>jn (A3O) (E.fst,CE.mk E.snd [])) (br (a.Kind==6) (bd (AYO c) fun g=>jn (A3O) (g.fst,CE.mk g.snd [])) (bd (nH c a.Id) fun e=>jn (A3O) (e.fst,CE.mk e.snd.fst e.snd.snd))))))))
def SW:GF:=gZ [.v (.st 8),.v (.st 0)] (.ret [(.st 8),(.st 12)]) [.cell 4 (some 15),.cell 5 (some 2)] 0x24a8dc187b51441e09b0e39d4be7978eb9e5317e6d54c644facea48134bbcc34a13bb8b3cd6c584c636464fdc48c908b64ed0892382d8cc2e99343a05ea5db4430853bf126d638caaeeb10bcde486da708fb6e5e33bc8fd8d9bfebdfd940fcad00536ffd6f1ec084806f55f1d5d30263369a25e12cc6f2950480db91cea0b3fbc78e4e253ff499d3a0fcc72c434527f3705a7c2f1d8ad7689857871faa986d6f2fd5d310508307052b98070afd8238dfed8e463f677aa1b45b09fe7d44521fc722b27a1a1fd98f0c3b00d74d863ff7a88477866c347e3f71e8721bfe9d742a0b51dca4de6752e94b91aae9c681d1a4e4e1437f43c362169a4e393a89d85d30df7c6dfa86050b295cfca861ed3f2052e8fbf2b08cdd08a666c39bdb917c9d501baf53a [OU,QO,AD7,AD5,AY9,cg,AED,AEE,ch] (Ah AJS)
def BKj(e:((List CE)×AD)):AA (AD×(List CE)):=match e with |(a,c)=>some (c,a)
def BKZ(g:List BX)(j:((List CE)×Int×AD)->AA (AD×(List CE)))(y:((List CE)×Int×AD)):AA (AD×(List CE)):=match y with |(a,c,h)=>br (decide (c<(↑g.length:Int))) (bd (at? g c) fun q=>bd (AJS h q) fun e=>gd (List.length a+[e.snd].length<=lim) (j ((a++[e.snd],w64 (c+1),e.fst)))) (jn BKj (a,h))
def ABb(a:AD)(c:List BX):AA (AD×(List CE)):=bd (AHt a) fun e=>A4 (BKZ c) big ([],0,e)
def QU:GF:=gZ [.v (.st 8),.v (.l (.st 0))] (.ret [(.st 8),(.l (.st 12))]) AvV 0x6334b1b7df694268c9a0b1c7b761eb3f4d792eb829a2e558c6180d802ff36a03723f25f0ee8fd365e6bb2e8b4e9b51e17040823dc247da97fe2c2097146012ff434310ab621c31b276eb25eb39eb44ca59670c0edf35095af4c1483bc8faec15e612fd19bbd469e435bfa40507f25bafa464b [QO,SW] (Ah ABb)
end Lv
set_option maxRecDepth 100000
namespace Lv
open Go (IntKind BinOp UnOp)
open Y (YF qn qf qt qr q1 qd qm qa qo ql qL qb qi qx qp qq qc qz qe qk qK qB qw qu qj Kp wn wf wt w1 sw sq sr wm wM wo wO wl wL wk wK wz wZ wx wX wb wB wi wI wr wR wq wQ we wE wc wY wj wh cv ca cx cn ce bl)
def ABc(a:Int)(c:Int)(e:Int):AA Int:=some (if false=true then if e>if true=true then if c>a then c else a else if c<a then c else a then e else if true=true then if c>a then c else a else if c<a then c else a else if e<if true=true then if c>a then c else a else if c<a then c else a then e else if true=true then if c>a then c else a else if c<a then c else a)
def xL:GF:=gZ nU BGg Bz 0x29d741b84fd29dd0c118146 [] (GX ABc) [.mm 9 true (.tmp 7) (.tmp 8),.mm 11 false (.tmp 9) (.tmp 10)]
def BIK(a:(Int×(List B4)×Int)->AA (List B4))(c:Int)(h:(Int×(List B4))):AA (List B4):=match h with |(e,g)=>a ((e,g,w64 (c+1)))
def BIL(a:List B4):AA (List B4):=some a
def BJW(c:List B4)(q:(Int×(List B4)×Int)->AA (List B4))(E:(Int×(List B4)×Int)):AA (List B4):=match E with |(h,e,a)=>br (decide (a<(↑c.length:Int))) (bd (at? c a) fun y=>br (decide (y.Seq<=h)) (jn (BIK q a) (h,e)) (bd (at? c a) fun B=>br (w64 (B.Seq-1) != h) (jn BIL e) (bd (at? c a) fun j=>bd (at? c a) fun g=>gd (List.length e+[g].length<=lim) (jn (BIK q a) (j.Seq,e++[g]))))) (jn BIL e)
def BJT(a:List B4)(c:Int):AA (List B4):=A4 (BJW a) big (c,[],0)
def BHH(c:Bb)(h:Int)(g:Bool):AA (AD×Int×Bool):=br g (some ((AD.mk (AZ.mk [] 0 0 0 0 0 0 0 0) 0 0 [] [] [] [],0,false))) (bd (A0w c h) fun a=>bd (BIG c.Log.Data) fun j=>bd (BJT j a.snd.fst) fun q=>bd (BIZ q) fun e=>bd (BJV a.fst e) fun y=>some ((y.fst,w64 (a.snd.fst+(↑(List.length e):Int)),true)))
def BH7(a:Bb):AA (AD×Int×Bool):=bd (A4W a) fun c=>bd (U2 a) fun e=>br (!e) (jn (BHH a c) true) (jn (BHH a c) (decide (c<0)))
def s6(a:Bu):AA Bool:=some (a.Safe==(↑a.Data.length:Int))
def xM:GF:=gZ xY Cm BGd 0xcdd2171908a854c27664cd1 [] (BL s6)
def s8(a:Bool):AA Bool:=some a
def nI(a:Bb):AA Bool:=bd (s6 a.Log) fun c=>br c (bd (s6 a.Dl) fun e=>br e (bd (s6 a.Odd) fun g=>jn (s8) g) (jn s8 false)) (jn s8 false)
def cj:GF:=gZ AvT Cm BGd 0x14adda34e64f29c80bf82140e42756b905f2c62460083cab [xM] (BL nI)
def BIf(g:List B4)(h:(Int×Int×Int)->AA Int)(c:Int)(a:Int):AA Int:=bd (at? g c) fun j=>bd (at? g c) fun e=>h ((a,e.Next,w64 (c+1)))
def BJf(a:Int):AA Int:=some a
def BIg(c:List B4)(B:(Int×Int×Int)->AA Int)(I:(Int×Int×Int)):AA Int:=match I with |(e,g,a)=>br (decide (a<(↑(List.length c):Int))) (bd (at? c a) fun E=>bd (at? c a) fun h=>br (decide (h.Seq>w64 (e+1))) (some g) (bd (at? c a) fun G=>bd (at? c a) fun j=>br (j.Seq==w64 (e+1)) (bd (at? c a) fun H=>bd (at? c a) fun q=>bd (BHA q.Body) fun y=>br (!y.snd) (some g) (jn (BIf c B a) (w64 (e+1)))) (jn (BIf c B a) e))) (jn BJf g)
def BIe(a:Bb)(e:Int)(c:Bool):AA Int:=br c (some 0) (bd (A0w a e) fun g=>bd (BIG a.Log.Data) fun h=>A4 (BIg h) big (g.snd.fst,0,0))
def BJB(a:Bb):AA Int:=bd (A4W a) fun c=>bd (U2 a) fun e=>br (!e) (jn (BIe a c) true) (jn (BIe a c) (decide (c<0)))
def BId(a:Bu)(c:Int)(e:Bool):AA (Bu×Bool):=br e (some (a,false)) (gd (0<=c/\c<=(↑a.Data.length:Int)) (bd (A2C a.Safe c) fun g=>some ((Bu.mk (List.take c.toNat a.Data) g,true))))
def BII(a:Bu)(c:Int):AA (Bu×Bool):=bd (AX7 a) fun e=>br (!e) (jn (BId a c) true) (bd (AUr c 0 (↑a.Data.length:Int)) fun g=>jn (BId a c) (!g))
def BIU(a:Bb)(e:(AD×Int×Bool))(h:Bool):AA (Ae×Bool):=br h (some ((Ae.mk (AD.mk (AZ.mk [] 0 0 0 0 0 0 0 0) 0 0 [] [] [] []) (Bb.mk (Bu.mk [] 0) (Bu.mk [] 0) (Bu.mk [] 0)) 0 [],false))) (bd (BJB a) fun g=>bd (BII a.Log g) fun c=>bd (BII a.Log g) fun j=>TN c.fst j.fst (bd (BJB a) fun q=>bd (BII a.Log q) fun y=>TN c.fst y.fst (bd (BJd c.fst) fun B=>some ((Ae.mk e.fst (Bb.mk B a.Dl a.Odd) e.snd.fst [],true)))))
def BJv(a:Bb):AA (Ae×Bool):=bd (BH7 a) fun c=>br (!c.snd.snd) (jn (BIU a c) true) (bd (nI a) fun e=>jn (BIU a c) (!e))
def BKU(c:Bb)(h:Int)(g:Bool):AA (AD×Int×Bool):=br g (some ((AD.mk (AZ.mk [] 0 0 0 0 0 0 0 0) 0 0 [] [] [] [],0,false))) (bd (AAy c h) fun a=>bd (Tj c.Log.Data) fun j=>bd (AQl j a.snd.fst) fun q=>bd (AHz q) fun e=>bd (ABb a.fst e) fun y=>some ((y.fst,w64 (a.snd.fst+(↑(List.length e):Int)),true)))
def fq(a:Bb):AA (AD×Int×Bool):=bd (AQe a) fun c=>bd (WW a) fun e=>br (!e) (jn (BKU a c) true) (jn (BKU a c) (decide (c<0)))
def QS:GF:=gZ AvT Ob AEj 0x1161f19883916397745fc20da10efb2e72594ae7cf2de1c8133e5afd24902d7242fb53dfa215b576a99d8eb0cf4a604feb1c336a36eeb83ded32d707a4491ae1a395eac338d379c0b6c6116fb99196001f7cdc93fbd2112f4293a117b09e3e1cedf457a1b1c08cec3d7cc3cfd44e1c775bd804 [xG,Lj,xF,Ku,lA,SK,QU] (BL fq)
def Aq1(a:Bool):AA Bool:=some a
def sU(a:Bb):AA Bool:=br (a.Log.Safe==(↑a.Log.Data.length:Int)) (br (a.Dl.Safe==(↑a.Dl.Data.length:Int)) (jn Aq1 (a.Odd.Safe==(↑a.Odd.Data.length:Int))) (jn Aq1 false)) (jn Aq1 false)
def OW:GF:=gZ AvT Cm BGd 0x432461090f870b28365b123be13fd749d98a08e796840edf3057945c8a9f4fe5414daa02af1243735aaa260ff1104221fd9d903720b1399e [] (BL sU)
def BKV(a:Int):AA Int:=some a
def BKW(g:(Int×Int×Int)->AA Int)(a:Int)(e:B4)(c:Int):AA Int:=g ((c,e.Next,w64 (a+1)))
def AmG(h:(Int×Int×Int)->AA Int)(j:Int)(a:Int)(c:Int)(g:B4)(e:Bool):AA Int:=br e (jn BKV a) (jn (BKW h c g) (w64 (j+1)))
def Ajt(q:(AD×Int×Bool))(j:List B4)(h:(Int×Int×Int)->AA Int)(B:(Int×Int×Int)):AA Int:=match B with |(g,e,a)=>br (decide (a<(↑(List.length j):Int))) (bd (at? j a) fun y=>bd (at? j a) fun c=>br (decide (c.Seq>g)) (br (c.Seq != w64 (g+1)) (jn (AmG h g e a c) true) (jn (AmG h g e a c) (decide (c.Seq>q.snd.fst)))) (jn (BKW h a c) g)) (jn BKV e)
def AQ7(a:Bb):AA Int:=bd (fq a) fun e=>br (!e.snd.snd) (some 0) (bd (AQe a) fun g=>bd (AAy a g) fun c=>bd (AAy a g) fun h=>eqv c.snd.fst h.snd.fst (NS c.fst h.fst (bd (AQe a) fun q=>bd (AAy a q) fun j=>eqv c.snd.fst j.snd.fst (NS c.fst j.fst (bd (Tj a.Log.Data) fun y=>A4 (Ajt e y) big (c.snd.fst,0,0))))))
def VH:GF:=gZ AvT BGg BGd 0xd3ef333ae3cf5b90058f34572b582f3e3d52e19b9372b29deec470ea8f8e35cc4a51ac6b8e479683b9988876159ec231c988f9cdf7ae1f97e94471c1bde6b009e4896c58dcdd44f78b34c7365467f4e3d6621fb86c1f9bd15444bc7c8e792bf3d8c37f3266d3b0ba35ed02042c935ccc6c54bf26f81d274db4620bdbba106911c1abe765ddc669f43a8a7fa48a3110634594bb1cad88ea9039c9848117c143adc8d36e8f369b654c8396a9e5518c2be08846885127343761b895c378dcb14eb58a5af71995274b42b152ffe688f5e78a0d3f6fd6f504474c0501c5045c3ba66f789a36ac5312a6c301a5 [QS,xG,xF,Ku] (BL AQ7)
def A3F(a:Bu)(c:Int)(e:Bool):AA (Bu×Bool):=br e (some (a,false)) (gd (0<=c/\c<=(↑a.Data.length:Int)) (some ((Bu.mk (List.take c.toNat a.Data) (if false=true then if c>a.Safe then c else a.Safe else if c<a.Safe then c else a.Safe),true))))
def Pw(a:Bu)(c:Int):AA (Bu×Bool):=bd (W6 a) fun e=>br (!e) (jn (A3F a c) true) (bd (AQR c 0 (↑a.Data.length:Int)) fun g=>jn (A3F a c) (!g))
def ID:GF:=gZ [.v (.st 9),.v .i] (.ret [(.st 9),.b]) [.cell 4 (some 2),.tmp 5] 0xf9e2a5d6db918509b42252af1fe91fd88bb0e277797d8fba2cb8c1581755b76e7a3d73f003e4252aba8afa83e45a90e9a606c5b7276c [E3,Rz] (Ah Pw) [.mm 25 false (.tmp 23) (.tmp 24)]
def Aqq(a:Bb)(e:(AD×Int×Bool))(h:Bool):AA (Ae×Bool):=br h (some ((Ae.mk (AD.mk (AZ.mk [] 0 0 0 0 0 0 0 0) 0 0 [] [] [] []) (Bb.mk (Bu.mk [] 0) (Bu.mk [] 0) (Bu.mk [] 0)) 0 [],false))) (bd (AQ7 a) fun g=>bd (Pw a.Log g) fun c=>bd (Pw a.Log g) fun j=>TN c.fst j.fst (bd (AQ7 a) fun q=>bd (Pw a.Log q) fun y=>TN c.fst y.fst (bd (Agw c.fst) fun B=>some ((Ae.mk e.fst (Bb.mk B a.Dl a.Odd) e.snd.fst [],true)))))
def sW(a:Bb):AA (Ae×Bool):=bd (fq a) fun c=>br (!c.snd.snd) (jn (Aqq a c) true) (bd (sU a) fun e=>jn (Aqq a c) (!e))
def xJ:GF:=gZ AvT (.ret [(.st 11),.b]) BKp 0x111c97bca94f84dcbb8e36bc8cfd3d05895617196d638531df9dea65561eb6b0b6f27c21d20fd9155f4d4d1d1b0fd3c57c1b660dcf0a4b71fd191dd940c84056a124524ec0f41e7461839541b1821573df1dc248ba187457c70bd6de7b058b1ed1d2f81de4b864e474241018705c9bd94e71781ddd668a7082ff392929ead57c2a108c51bf798bf5f65c5323554c88e347f9ea4e700c9495120567de721b6613d52998c886c42bfad1a4b6fee6 [QS,OW,VH,ID,FN] (BL sW)
end Lv
set_option maxRecDepth 100000
namespace Lv
open Go (IntKind BinOp UnOp)
open Y (YF qn qf qt qr q1 qd qm qa qo ql qL qb qi qx qp qq qc qz qe qk qK qB qw qu qj Kp wn wf wt w1 sw sq sr wm wM wo wO wl wL wk wK wz wZ wx wX wb wB wi wI wr wR wq wQ we wE wc wY wj wh cv ca cx cn ce bl)
def AI3(a:Bu)(e:Int):AA Bu:=bd (W6 a) fun g=>br (!g) (some a) (bd (ABc e 0 (w64 ((↑a.Data.length:Int)-a.Safe))) fun c=>gd (0<=w64 (a.Safe+c)/\w64 (a.Safe+c)<=(↑a.Data.length:Int)) (some (Bu.mk (List.take (w64 (a.Safe+c)).toNat a.Data) (w64 (a.Safe+c)))))
def SU:GF:=gZ [.v (.st 9),.v .i] BKk [.cell 4 (some 2)] 0x48aae752b443c50a8e47269366aa0d5a803f3ccbc016c4d622ed4db58c3fdb7cab4acffd7f32ffb8027d64af0045fdd5087f595ff [E3,xL] (Ah AI3)
def AI4(c:Bb)(a:List Int):AA Bb:=bd (at? (List.take (List.replicate (Int.toNat 3) 0).length a++List.drop a.length (List.replicate (Int.toNat 3) 0)) 0) fun B=>bd (at? (List.take (List.replicate (Int.toNat 3) 0).length a++List.drop a.length (List.replicate (Int.toNat 3) 0)) 0) fun e=>bd (at? (List.take (List.replicate (Int.toNat 3) 0).length a++List.drop a.length (List.replicate (Int.toNat 3) 0)) 1) fun E=>bd (at? (List.take (List.replicate (Int.toNat 3) 0).length a++List.drop a.length (List.replicate (Int.toNat 3) 0)) 1) fun g=>bd (at? (List.take (List.replicate (Int.toNat 3) 0).length a++List.drop a.length (List.replicate (Int.toNat 3) 0)) 2) fun G=>bd (at? (List.take (List.replicate (Int.toNat 3) 0).length a++List.drop a.length (List.replicate (Int.toNat 3) 0)) 2) fun h=>bd (AI3 c.Log e) fun j=>bd (AI3 c.Dl g) fun q=>bd (AI3 c.Odd h) fun y=>some (Bb.mk j q y)
def SV:GF:=gZ [.v (.st 10),.v (.l .i)] (.ret [(.st 10)]) [.cell 4 (some 6)] 0x14658b0d0a60db7f6bde50521b1d94e71b3d6c4cabec7392b76b3db7f173e90e80b2b88fda8bfea3c46038e16f877396f485c7d8e93d58a396732eb528affec112d4b72375cf1 [SU] (Ah AI4) [.Nt 6 .i (.k (.int .i64 3)),.cpy 9 .i (.tmp 7) (.tmp 8)]
def BHJ(a:Bool):AA Bool:=some a
def AI5(a:AZ)(c:AZ):AA Bool:=bd (AQr a.AV c.AV) fun e=>br e (br (a.CJ==c.CJ) (br (a.Room==c.Room) (br (a.A2==c.A2) (br (a.CB==c.CB) (br (a.Bq==c.Bq) (br (a.Rest==c.Rest) (br (a.CL==c.CL) (jn BHJ (a.Cs==c.Cs)) (jn BHJ false)) (jn BHJ false)) (jn BHJ false)) (jn BHJ false)) (jn BHJ false)) (jn BHJ false)) (jn BHJ false)) (jn BHJ false)
def ANl:GF:=gZ [.v (.st 1),.v (.st 1)] Cm BGb 0xf47f3bb05be2b3d8e6937ff8b0510ef7f5cf515225782554ab5905a79a6549f4484f9ead4d883918af49c3a2f1982479440c9298fe0440aa2016952cb1f0dd15d01e31a14e9f38678622de41fffecbd7119401b1dd1421718be508157146cd18b0d [lG] (Ah AI5)
def BKh(_:PUnit):AA Bool:=some true
def BKX(g:List AK)(j:List AK)(h:Int->AA Bool)(e:Int):AA Bool:=br (decide (e<(↑g.length:Int))) (bd (at? g e) fun a=>bd (at? j e) fun c=>br (!(a.Id==c.Id&&(a.Aa==c.Aa&&(a.Bl==c.Bl&&(a.A2==c.A2&&(a.Cj==c.Cj&&(a.Since==c.Since&&(a.Ap==c.Ap&&(a.State==c.State&&(a.Cf==c.Cf&&(a.Cu==c.Cu&&true))))))))))) (some false) (h (w64 (e+1)))) (jn BKh ())
def sY(a:List AK)(c:List AK):AA Bool:=br ((↑a.length:Int) != (↑c.length:Int)) (some false) (A4 (BKX a c) big 0)
def ANm:GF:=gZ [.v (.l (.st 2)),.v (.l (.st 2))] Cm BGb 0x10feab0913c6efafc1771a77043e36aa1b5c9b9a7484cbc981db83885bb0ac34019ce71c0ad6aeca4daccac14659e2f8b892e2b94ee6177 [] (Ah sY)
def A2E(a:Bool):AA Bool:=some a
def AI6(a:An)(c:An):AA Bool:=bd (nA a) fun e=>br e (bd (nA c) fun g=>br g (bd (eU a) fun h=>bd (eU c) fun j=>bd (bS h j) fun q=>jn (A2E) q) (jn A2E false)) (jn A2E false)
def AEC:GF:=gZ [.v (.st 6),.v (.st 6)] Cm BGb 0x46e12246aa0f8e41f41d9a955503c3006b2ddc9d9954783379dee5d994b465aca2a550cb1cf34a6cfd [OF,Kt,GS] (Ah AI6)
def AkI(a:Bool):AA Bool:=some a
def tK(a:AY)(c:AY):AA Bool:=bd (qN a) fun e=>br e (bd (qN c) fun g=>br g (br (a.AV.Total==c.AV.Total&&(a.AV.DT==c.AV.DT&&(a.AV.EH==c.AV.EH&&(a.AV.Ep==c.AV.Ep&&(a.AV.E8==c.AV.E8&&true))))) (bd (WU a.Row c.Row) fun h=>br h (bd (AI6 a.Bw c.Bw) fun j=>jn (AkI) j) (jn AkI false)) (jn AkI false)) (jn AkI false)) (jn AkI false)
def VI:GF:=gZ [.v (.st 7),.v (.st 7)] Cm BGb 0x6d8e7f44c7d14aaa6c8db89f19413fa3f6c2dd68e01643ba25b72a2bc8f0ed147acb823839147a97448c809f2c09f35e663ad62b [Mp,KI,AEC] (Ah tK)
def BK7:YF:=⟨[VI],[.v (.l (.st 7)),.v (.l (.st 7)),.f VI.x []],[0],.ret [.b],[.tmp 6],dY 0x8543a724ff0c1a2c01eb21261aa882d50fdd45f7de5d2bd6e6d4779bf91d2e9c372f090733c145b71c98a240fa6c16b8f1fac89aa49535d12deaae87b849c8daac4d47f1c08996df0993f7f2ecf9d [] [.D1 29 (.tmp 26) [.v,.v] [.tmp 27,.tmp 28]]⟩
def AJf(_:PUnit):AA Bool:=some true
def tL(c:List AY)(g:List AY)(e:Int->AA Bool)(a:Int):AA Bool:=br (decide (a<(↑c.length:Int))) (bd (at? c a) fun h=>bd (at? g a) fun j=>bd (tK h j) fun q=>br (!q) (some false) (e (w64 (a+1)))) (jn AJf ())
def AJe(a:List AY)(c:List AY):AA Bool:=br ((↑a.length:Int) != (↑c.length:Int)) (some false) (A4 (tL a c) big 0)
def VJ:GF:=BK7.D2 (Ah AJe)
def BK8:YF:=⟨[VI],[.v (.st 8),.v (.st 8)],[],.ret [.b],[.tmp 4],dY 0x38faf508fa4601b69b817505a58fc8dc58e88952029a9e34e99ba1c30254aa47dc7ccb1e639a9b02c3f97e1114b1a0aeb6d71362956f2201a25db4df9bd8358f0a0d6b887649f9413ecf604df09fe43be4cc587ac8023ce43f4fee90551ba1a4 [OO,ANl,ANm,lG] [.call 58 VJ [0] rfl [.tmp 55,.tmp 57,.fn 0]]⟩
def gF(a:Bool):AA Bool:=some a
def ABe(a:AD)(c:AD):AA Bool:=bd (AAt a) fun e=>br e (bd (AAt c) fun g=>br g (bd (AI5 a.AO c.AO) fun h=>br h (br (a.Now==c.Now) (br (a.Ap==c.Ap) (bd (sY a.AG c.AG) fun j=>br j (bd (AQr a.BC c.BC) fun q=>br q (bd (AQr a.A8 c.A8) fun y=>br y (bd (AJe a.AI c.AI) fun B=>jn (gF) B) (jn gF false)) (jn gF false)) (jn gF false)) (jn gF false)) (jn gF false)) (jn gF false)) (jn gF false)) (jn gF false)
def dC:GF:=BK8.D2 (Ah ABe)
def gG(a:Bool):AA Bool:=some a
def cz(a:Ae)(e:Bool):AA Bool:=br e (some false) (bd (AI4 a.BO []) fun g=>bd (fq g) fun c=>br c.snd.snd (bd (ABe c.fst a.BD) fun h=>br h (jn gG (c.snd.fst==w64 (a.Seq-(↑a.Laid.length:Int)))) (jn gG false)) (jn gG false))
def tM(a:Ae):AA Bool:=bd (AQa a) fun j=>br (!j) (some false) (bd (AI4 a.BO ([20000,20000,20000])) fun g=>bd (fq g) fun h=>bd (ABb a.BD a.Laid) fun q=>br (!h.snd.snd) (jn (cz a) true) (bd (ABe h.fst q.fst) fun c=>br (!c) (jn (cz a) true) (br (h.snd.fst != a.Seq) (jn (cz a) true) (bd (AQ7 g) fun e=>jn (cz a) (e != (↑g.Log.Data.length:Int))))))
def VK:GF:=gZ [.v (.st 11)] Cm BGd 0x16d9ec6ceeea5076896c34c94154f2b9ddba4f31f759889a96dc0569557a666fc08cbd36badc8e680bb82df9b0b11a6c4e2ea22e3864d91b975ba5948c893e2f02fb92f0623ef88a2c63f26a203f48f4d07e908296203f290eb7f185f3b0e38992c60304bebde01a4ec719030fe7f75069c759c975fee1ee35bc57ca962935ffe930fff1dcd7feb22c3d0b8d90aed8e347572a00553267f91fb801a9433e0a707ae5f306ab8a9b2cf73e01f48ed18d4db1e1159c57a9faf102ccfcaa6bbcc05ac5bfebb981d96c285214eff7663c805b [SE,SV,QS,QU,dC,VH] (BL tM)
end Lv
set_option maxRecDepth 100000
namespace Lv
open Go (IntKind BinOp UnOp)
open Y (YF qn qf qt qr q1 qd qm qa qo ql qL qb qi qx qp qq qc qz qe qk qK qB qw qu qj Kp wn wf wt w1 sw sq sr wm wM wo wO wl wL wk wK wz wZ wx wX wb wB wi wI wr wR wq wQ we wE wc wY wj wh cv ca cx cn ce bl)
end Lv
