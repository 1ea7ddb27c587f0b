/-
  Printed: functions of the program as texts of the typed machine, as plain functions, and that the one is the other.
-/
import Derived.Test.YtpbbmlmilagnkaaGreatKE
import Derived.KernelRfl
noncomputable section
set_option linter.unusedVariables false
set_option linter.unusedSimpArgs false
set_option linter.unusedSectionVars false
set_option maxRecDepth 100000
namespace Lv
open Go (IntKind BinOp UnOp)
open Y (YF qn qf qt qr q1 qd qm qa qo ql qL qb qi qx qp qq qc qz qe qk qK qB qw qu qj Kp wn wf wt w1 sw sq sr wm wM wo wO wl wL wk wK wz wZ wx wX wb wB wi wI wr wR wq wQ we wE wc wY wj wh cv ca cx cn ce bl)
def ARp(p0:(C.l (.st 2)).D)(p1:Int)(p2:(C.l (.st 2)).D):AA (C.l (.st 2)).D:=ic (.st 2) p0 p1 p2
def db:GF:=ASr (.st 2) rfl
def AKz(p0:(C.l (.st 4)).D)(p1:Int)(p2:(C.l (.st 4)).D):AA (C.l (.st 4)).D:=ic (.st 4) p0 p1 p2
def de:GF:=ASr (.st 4) rfl
def ARm(p0:(C.l (.st 4)).D)(p1:Int)(p2:Int):AA (C.l (.st 4)).D:=wy (.st 4) p0 p1 p2
def dV:GF:=ASg (.st 4) rfl rfl
def ARn(p0:(C.l (.st 5)).D)(p1:Int)(p2:Int):AA (C.l (.st 5)).D:=wy (.st 5) p0 p1 p2
def dW:GF:=ASg (.st 5) rfl rfl
def ARo(p0:(C.l (.st 2)).D)(p1:Int)(p2:Int):AA (C.l (.st 2)).D:=wy (.st 2) p0 p1 p2
def dX:GF:=ASg (.st 2) rfl rfl
def ax(v2:D8):AA D8:=some v2
def AE0(p0:D8):AA D8:=bd (W7 p0) fun x1=>br x1 (jn ax (D8.mk p0.Data (↑p0.Data.length:Int))) (jn ax p0)
def AML:GF:=gZ eA ABk eD 0x141001b6dc52df928efcd0e940cc5ba8193ba4c2842151f5 [nI] (Bh AE0)
def AE1(p0:Be):AA (Be×(List BK)):=bd (AEq p0) fun x1=>bd (r6 p0) fun x2=>br (!x2) (some (x1,[])) (bd (vg p0.BD p0.Laid) fun x3=>bd (AE0 p0.CY.Log) fun x4=>some ((Be.mk x3.fst (Dc.mk x4 x1.CY.G1 x1.CY.Odd) x1.Seq [],x3.snd)))
def AMM:GF:=gZ PS AM7 AND 0x35d7f8f83c57a7e3f45e264512eb24e763d232de69b3ca49168fd69dd5a2f21ba417719224540a0ef6ef16316228373a5248a64fa41051fd858cb775b5e22aa7b0fe007388730cd72051f35572bf19eba3a3bc6314 [AME,nK,oF,AML] (Bh AE1)
def AKv(p0:AJ)(p1:Int):AA Bool:=some (p0.Id==p1)
def dZ:GF:=gZ [.v (.st 2),.p .i] Bc [.tmp 3] 0x381e349a0cea48f9ea8e48 [] (Ak AKv)
def AUG:YF:=AVP dZ 2 0x496d04310469a1d0d9d75031f177c6b34caa73e6a4142e072450060525a5c144a2d89c2a8d8ff9b61f87adb243d4035
def vT(_:PUnit):AA Int:=some (-1)
def vU(p0:List AJ)(c1_0:Int)(L1:Int->AA Int)(v2:Int):AA Int:=br (decide (v2<(↑p0.length:Int))) (bd (at? p0 v2) fun x3=>bd (AKv x3 c1_0) fun x4=>br x4 (some v2) (L1 (w64 (v2+1)))) (jn vT ())
def AKw(p0:List AJ)(c1_0:Int):AA Int:=Aw (vU p0 c1_0) big 0
def AAj:GF:=AUG.gf rfl rfl (fun a=>AKw a.1 a.2.1.1) (fun a=>by kernel_rfl)
def AUH:YF:=⟨[dZ],[.v (.l (.st 2)),.v .i],[],.ret [.i],[.tmp 4],dY 0x2304d72133acdb614dd [] [.K2 6 0 [.tmp 3],.call 7 AAj [0] rfl [.tmp 5,.tmp 6]]⟩
def kf(p0:List AJ)(p1:Int):AA Int:=bd (AKw p0 p1) fun x1=>some x1
def da:GF:=AUH.Dx (Ak kf)
def KC(p0:AE)(p1:Int):AA Int:=bd (kf p0.AG p1) fun x1=>some x1
def PO:GF:=gZ GM CS BY 0x34010173ecf6d36d3485 [da] (Ak KC)
def kg(p0:AE)(p1:Int):AA Int:=bd (at? p0.AH p1) fun x1=>bd (at? p0.AH p1) fun x2=>some (w64 (x1.AR.EK-x2.AR.ET))
def AAk:GF:=gZ GM CS BY 0x10f2606ef8ce865f4bb41e5c45768a16a3451e6b4e5f0c5f9b10d [] (Ak kg)
def bV(v1:Bool):AA Bool:=some v1
def vn(p0:AJ)(p1:Int):AA Bool:=br (p0.State==2) (jn bV (decide (p0.CB<=p1))) (jn bV false)
def ABB:GF:=gZ oT Bc BY 0x29cbd864f6031556e8b07ac98f734be9fc443e93 [] (Ak vn)
def HA(_:PUnit):AA Int:=some 0
def bW(p0:AE)(v11:Bool):AA Int:=br v11 (some 10) (br (decide (p0.Ai>1000000)) (some 11) (jn HA ()))
def Jd(p0:AE)(p1:Bw)(v5:Bool):AA Int:=br v5 (some 4) (bd (Ck p1.A1 1 p0.AO.A1) fun x6=>br (!x6) (some 5) (br (decide (p1.CT>=p0.AO.Cg)) (some 6) (bd (Ck p1.Id 1 999) fun x7=>br (!x7) (some 7) (bd (KC p0 p1.Id) fun x8=>br (decide (x8>=0)) (some 8) (bd (jf p0.AG p1.AT) fun x9=>br (decide (x9>=p0.AO.Room)) (some 9) (br (p1.BQ != -1) (bd (kg p0 p1.BQ) fun x10=>jn (bW p0) (decide (x10<p1.A1))) (jn (bW p0) false)))))))
def bY(v23:Bool):AA Int:=br v23 (some 17) (jn HA ())
def bX(p0:AE)(p1:Bw)(v17:Bool):AA Int:=br v17 (bd (KC p0 p1.Id) fun x18=>br (decide (x18<0)) (some 7) (bd (at? p0.AG x18) fun x19=>br (x19.State != 2) (some 13) (bd (at? p0.AG x18) fun x20=>bd (vn x20 p0.Now) fun x21=>br x21 (some 14) (jn HA ())))) (br (p1.Kind==6) (br (p0.Now==1000000) (some 15) (jn HA ())) (br (p1.Kind==7) (br (decide (p1.Id>=p0.AO.Cu)) (some 16) (bd (at? p0.Ay p1.Id) fun x22=>br (x22 == -1) (jn bY ((↑p0.A0.length:Int)==0)) (jn bY false))) (jn HA ())))
def PG(p0:AE)(p1:Bw):AA Int:=bd (Og p0) fun x1=>br (!x1) (some 1) (bd (Ck p1.Kind 1 7) fun x2=>br (!x2) (some 2) (bd (th p1) fun x3=>br (!x3) (some 3) (br (p1.Kind==1) (bd (Mi p1.AT (↑p0.AH.length:Int)) fun x4=>br (!x4) (jn (Jd p0 p1) true) (bd (Ck p1.BQ (-1) (w64 ((↑p0.AH.length:Int)-1))) fun x12=>br (!x12) (jn (Jd p0 p1) true) (jn (Jd p0 p1) (p1.BQ==p1.AT)))) (br (p1.Kind==2) (bd (KC p0 p1.Id) fun x13=>br (decide (x13<0)) (some 7) (jn HA ())) (br (p1.Kind==3) (bd (Mi p1.AT (↑p0.AH.length:Int)) fun x14=>br (!x14) (some 4) (bd (Ck p1.A1 1 60) fun x15=>br (!x15) (some 5) (bd (kg p0 p1.AT) fun x16=>br (decide (x16<p1.A1)) (some 12) (jn HA ())))) (br (p1.Kind==4) (jn (bX p0 p1) (p1.Kind==4)) (jn (bX p0 p1) (p1.Kind==5))))))))
def Lx:GF:=gZ eB CS BY 0x3714ea963be13053c37afd2d76ca9d36a8e6a3f42a2e8915145e675995efbf96fbc6520b40585856702c1a132d0c8d019a018c4e359966c748a99db5139c05e31c4b0fc6ec81a6138f7893f56b7760e293546c8e3974b3ac92b19846cfb7f0f657cae28c432485c8662bbc0ad6745f628457b300e5a1bb81929be85e279cbc0fb8579b7dd36545583482cf55505d0c03a5f6bf4026fa6d9ecddb571af9dbd4f6cc8be5456ecb03d4799f0e88efbb3350f16bb1d3398327c775a25a4c10e452ceb9f20de18d714fafee5f9676315a4ad19624382a090cdf745496a25dd09c007df57e7b1b2f7bdb8a37c58ecb249680f871556d8bb6fb062b569535302c8fb08bd499ba5e5bc3507816e1fe719adbac135dbfeea13131d9d8394a703281a8fbbda0c7eb753f5bfa969988ec087ae048ac824bb03d694cb0cb89986dd235ea7f842e4a1cbd7a15e283aa635f28a7c17504fbc4380ea3dc5b373bd49f013078b5d5dc96e332475d33cb523526ae360f3fc40f0f5caac49e72a66e2aa9038851ec917499959424d2fa1f8295e21fbd12ebef87403249ab0cbbf8d7e3a1dd3f59e24578cf23e3394d3a4df7f8d05fcf95bf6f4b721d6b1061964fc96011837f2353b7adfc7400bf6d20e3615079ce5cf1631189f4217f3ac55bfe6309f3a541062464499060ccb8ec41273e6a24b7ee656f5d05264a5d7 [V6,FU,nq,PM,PO,dG,AAk,ABB] (Ak PG)
def AK3(p0:AJ)(p1:AJ):AA Bool:=some (decide (p0.Id>p1.Id))
def dh:GF:=gZ [.v (.st 2),.p (.st 2)] Bc [.tmp 3] 0x18d08b08454e7d64ed7180 [] (Ak AK3)
def AUK:YF:=⟨[dh],[.v (.l (.st 2)),.f dh.x [(true,(.st 2))]],[0],.ret [.i],[.tmp 4],dY 0x496d04310469a1d0d9d75031f177c6b34caa73e6a4142e072450060525a5c144a2d89c2a8d8ff9b61f87adb243d4035 [] [.Dg 16 (.tmp 11) [.v,.p] [.tmp 15]]⟩
def vq(_:PUnit):AA Int:=some (-1)
def vr(p0:List AJ)(c1_0:AJ)(L1:Int->AA Int)(v2:Int):AA Int:=br (decide (v2<(↑p0.length:Int))) (bd (at? p0 v2) fun x3=>bd (AK3 x3 c1_0) fun x4=>br x4 (some v2) (L1 (w64 (v2+1)))) (jn vq ())
def AFM(p0:List AJ)(c1_0:AJ):AA Int:=Aw (vr p0 c1_0) big 0
def ABC:GF:=AUK.gf rfl rfl (fun a=>AFM a.1 a.2.1.1) (fun a=>by kernel_rfl)
def AUL:YF:=⟨[dh],[.v (.l (.st 2)),.v (.st 2)],[],.ret [(.l (.st 2))],[.tmp 4],dY 0x36d8e951fa38fb5fb35641137410d5fbd5ec3d9e19b70a3139299d2118b2cff46190463b322dfade4ad89dc68f7a7dc91db2d336e618d0554d5651a77bc3bbec8276 [da,db] [.K2 22 0 [.tmp 3],.call 23 ABC [0] rfl [.tmp 21,.tmp 22]]⟩
def bZ(p0:List AJ)(p1:AJ)(v5:Int):AA (List AJ):=bd (ARp p0 v5 [p1]) fun x6=>some x6
def km(p0:List AJ)(p1:AJ):AA (List AJ):=gd (0+p0.length<=lim) (bd (kf p0 p1.Id) fun x1=>br (decide (x1>=0)) (bd (at? p0 x1) fun x2=>bd (at? p0 x1) fun x3=>some (p0.set (Int.toNat x1) p1)) (bd (AFM p0 p1) fun x4=>br (decide (x4<0)) (jn (bZ p0 p1) (↑p0.length:Int)) (jn (bZ p0 p1) x4)))
def di:GF:=AUL.Dx (Ak km)
def bc(x1:List AQ)(x9:List AQ)(v13:Bool):AA ((List AQ)×Bool):=br v13 (some (x1,false)) (some (x9,true))
def ba(p0:List AQ)(p1:AQ)(x1:List AQ)(v7:Int):AA ((List AQ)×Bool):=bd (Tn p0) fun x8=>bd (AKz x8 v7 [p1]) fun x9=>bd (Tn p0) fun x10=>bd (AKz x10 v7 [p1]) fun x11=>eqv x9 x11 (bd (jh p0) fun x12=>br (!x12) (jn (bc x1 x9) true) (bd (jh x9) fun x14=>jn (bc x1 x9) (!x14)))
def T0(p0:List AQ)(p1:AQ)(x1:List AQ)(L2:Int->AA ((List AQ)×Bool))(v3:Int)(v6:Bool):AA ((List AQ)×Bool):=br v6 (L2 (w64 (v3+1))) (jn (ba p0 p1 x1) v3)
def bf(p0:List AQ)(p1:AQ)(x1:List AQ)(L2:Int->AA ((List AQ)×Bool))(v3:Int):AA ((List AQ)×Bool):=br (decide (v3<(↑p0.length:Int))) (bd (at? p0 v3) fun x4=>bd (sv x4 p1) fun x5=>jn (T0 p0 p1 x1 L2 v3) x5) (jn (T0 p0 p1 x1 L2 v3) false)
def ko(p0:List AQ)(p1:AQ):AA ((List AQ)×Bool):=bd (Tn p0) fun x1=>Aw (bf p0 p1 x1) big 0
def oI:GF:=gZ AMv ABm ABr 0x42da63d9828ac44a6e6fbeb5fefd9107e180e411bc649bb489eb3ef80bd81483d17d8c787583b90a2314a2ef207601bfd8ae71ee746bd4806ca2415c4a94ff27f58af6c8ea45b06e758984f397a9a1aacb89cc2d8203a6a11fdd0cf5b37fb3d666664d8278e96e0b593ee158693b8c79be215382767aeaf07c [dR,nX,de,nZ] (Ak ko)
def AK4(p0:Av)(p1:Int):AA Av:=some (Av.mk p0.Total p0.DJ p0.Dd p0.EK (w64 (p0.ET+p1)))
def dj:GF:=gZ V9 WA [] 0x1fc4bc7d268ec2f21202e801b6ff0 [] (Ak AK4)
def AVb:=fun (a:GF)=>(⟨[a],[.v (.st 3),.v .i,.f a.x [(true,.i)]],[0],.ret [(.st 3),.b],[.cell 6 (some 5),.tmp 7],dY 0x2187075baea7a171b530ac55e508f4e80b6a73266d0912548c6c44c2caa66008a5ed82ed1b8904526510e3acd2765f23d52bef4d4b9a3c1ec79d167 [Lu,FU] [.Dg 20 (.tmp 19) [.b,.p] [.tmp 8]]⟩:YF)
def AUM:YF:=AVb dj
def bg(p0:Av)(c2_0:Int)(v2:Bool):AA (Av×Bool):=br v2 (some (p0,false)) (bd (AK4 p0 c2_0) fun x3=>bd (JX x3) fun x4=>br (!x4) (some (p0,false)) (some (x3,true)))
def AK5(p0:Av)(p1:Int)(c2_0:Int):AA (Av×Bool):=bd (JX p0) fun x1=>br (!x1) (jn (bg p0 c2_0) true) (bd (Ck p1 0 60) fun x5=>jn (bg p0 c2_0) (!x5))
def ABD:GF:=AUM.gf rfl rfl (fun a=>AK5 a.1 a.2.1 a.2.2.1.1) (fun a=>by kernel_rfl)
def AUN:YF:=⟨[dj],[.v (.st 3),.v .i],[],.ret [(.st 3),.b],[.cell 4 (some 5),.tmp 5],dY 0x4a8538bf8e206965e69b8f30a164142c68b936 [] [.K2 8 0 [.tmp 3],.call 9 ABD [0] rfl [.tmp 6,.tmp 7,.tmp 8]]⟩
def AFN(p0:Av)(p1:Int):AA (Av×Bool):=bd (AK5 p0 p1 p1) fun x1=>some (x1.fst,x1.snd)
def ABE:GF:=AUN.Dx (Ak AFN)
def bh(v3:List Int):AA (List Int):=some v3
def T1(p0:List Int)(p1:Int):AA (List Int):=bd (I2 p0) fun x1=>bd (j5 p0 p1) fun x2=>br (!x2) (gd (List.length x1+[p1].length<=lim) (jn (bh) (x1++[p1]))) (jn bh x1)
def PQ:GF:=gZ dw lE BY 0x118bd33ff4675209ba4a11cf481d505448d7ff8ab012ff2f0aeaae62cc [dO,dL] (Ak T1)
def bj(p2:Int)(v15:AE):AA (AE×Int):=bd (T1 v15.A0 p2) fun x16=>some (AE.mk v15.AO v15.Now v15.Ai v15.AG v15.AH x16 v15.Ay,0)
def AFO(p0:AE)(p1:Int)(p2:Int)(p3:Int)(p4:Int)(p5:Int):AA (AE×Int):=bd (Ks p0) fun x1=>bd (PG p0 (Bw.mk 1 p1 p2 p3 p4 p5)) fun x2=>br (x2 != 0) (some (x1,x2)) (bd (km x1.AG (AJ.mk p1 p2 p3 p4 p5 p0.Now p0.Ai 1 0 0)) fun x3=>bd (jk x1.AO (AJ.mk p1 p2 p3 p4 p5 p0.Now p0.Ai 1 0 0) x1.Now) fun x4=>bd (at? x1.AH p2) fun x5=>bd (at? x1.AH p2) fun x6=>bd (ko x6.Row x4.fst) fun x7=>bd (at? x1.AH p2) fun x8=>bd (at? x1.AH p2) fun x9=>br (p3 != -1) (bd (at? (x1.AH.set p2.toNat (AS.mk x9.AR x7.fst x9.BO)) p3) fun x10=>bd (at? (x1.AH.set p2.toNat (AS.mk x9.AR x7.fst x9.BO)) p3) fun x11=>bd (AFN x11.AR p4) fun x12=>bd (at? (x1.AH.set p2.toNat (AS.mk x9.AR x7.fst x9.BO)) p3) fun x13=>bd (at? (x1.AH.set p2.toNat (AS.mk x9.AR x7.fst x9.BO)) p3) fun x14=>jn (bj p2) (AE.mk x1.AO x1.Now (w64 (x1.Ai+1)) x3 ((x1.AH.set p2.toNat (AS.mk x9.AR x7.fst x9.BO)).set p3.toNat (AS.mk x12.fst x14.Row x14.BO)) x1.A0 x1.Ay)) (jn (bj p2) (AE.mk x1.AO x1.Now (w64 (x1.Ai+1)) x3 (x1.AH.set p2.toNat (AS.mk x9.AR x7.fst x9.BO)) x1.A0 x1.Ay)))
def ABF:GF:=gZ AM1 Il AM8 0x3b14c4af9c43bc9facfa003bb1f6c5c4105463a0e5bb088304ed2f8e5559c8d01d953b2b2333adbd1e767a7185bb7e6e26d52074a4b00168c513a774ae90c224896f0385702e35bccf5ad4ab75e8438c0c061652f03d8f4f6846d7ce330f92aa8ceb0ac1648395320b08702317a9882713c85d0a58c0babd938a782532719ea42c93c13d7bdd3b46c4c8fc56258b1d6d7f94e2bf70801fcd90199fcfe6cc1d66980385a97310b5795d82964c73c82e65d28b06780bb428a50de0232e3cca035615b1a985b75c6edfbfd31e283e72810c4d455d868e1b598eaab3becc18a48b869 [Ik,Lx,di,dJ,oI,ABE,PQ] (ADI AFO)
def vt(p0:List AQ)(p1:Int):AA ((List AQ)×Bool):=bd (Tn p0) fun x1=>bd (jg p0 p1) fun x2=>br (decide (x2<0)) (some (x1,false)) (bd (ARm x1 x2 (w64 (x2+1))) fun x3=>some (x3,true))
def oJ:GF:=gZ xJ ABm ABr 0x12a966a2af294dc245d51567e96be24fd70bdebb4be965cb6f05199dfc0f6fdd5899946e [dR,nY,dV] (Ak vt)
def vu(_:PUnit):AA Int:=some (-1)
def vz(p0:List AY)(p1:AY)(L1:Int->AA Int)(v2:Int):AA Int:=br (decide (v2<(↑p0.length:Int))) (bd (at? p0 v2) fun x3=>br (p1.At==x3.At&&(p1.Id==x3.Id&&true)) (some v2) (L1 (w64 (v2+1)))) (jn vu ())
def AFP(p0:List AY)(p1:AY):AA Int:=Aw (vz p0 p1) big 0
def ABG:GF:=gZ AMw CS BY 0x64bfda6a2e466c94c0afbe04ab54fcb19ad10d6b70d980a6a7074d3e492b3efdabdf817699f095ba02a3b0f9dcd9f6 [] (Ak AFP)
def bk(p1:AY)(x1:Ah)(v3:Bool):AA (Ah×Bool):=br v3 (some (x1,false)) (bd (at? x1.Aa (p1.At.tmod 9)) fun x4=>bd (at? x1.Aa (p1.At.tmod 9)) fun x5=>bd (AFP x5 p1) fun x6=>br (decide (x6<0)) (some (x1,false)) (bd (ARn x5 x6 (w64 (x6+1))) fun x7=>bd (at? x1.Aa (p1.At.tmod 9)) fun x8=>bd (at? x1.Aa (p1.At.tmod 9)) fun x9=>gd (Y.L0 (p1.At.tmod 9).toNat 0 1 [((p1.At.tmod 9).toNat,0)]) (some ((Ah.mk (x1.Aa.set (p1.At.tmod 9).toNat x7),true)))))
def AUo(p0:Ah)(p1:AY):AA (Ah×Bool):=bd (aX p0) fun x1=>bd (Of p0) fun x2=>br (!x2) (jn (bk p1 x1) true) (bd (ji p1) fun x10=>jn (bk p1 x1) (!x10))
def dk:GF:=gZ oS oW oY 0x4de624837844c3d95d4f7fe00ce9b55fff7ba606d3868a1aa95597bc9c2b3520c80614a67fb338e7fadc771722808b5969a551b0d385d4f9aa73eb5f8a18090f7473b774b5f71cc412c1b7570611d241af494c01b891ae66c8f3fa31e41ee3d63b52d8188c4cdd38f7 [dS,Rf,dI,ABG,dW] (Ak AUo)
def AK6(p0:Av)(p1:Int):AA Av:=some (Av.mk p0.Total (w64 (p0.DJ+p1)) (w64 (p0.Dd-p1)) p0.EK p0.ET)
def dm:GF:=gZ V9 WA [] 0xd5be861e060517bd3cee6a66e2f283ab496f7ef3ecb75777ef5d5615e58d [] (Ak AK6)
def AUO:YF:=AVb dm
def bm(p0:Av)(c2_0:Int)(v2:Bool):AA (Av×Bool):=br v2 (some (p0,false)) (bd (AK6 p0 c2_0) fun x3=>bd (JX x3) fun x4=>br (!x4) (some (p0,false)) (some (x3,true)))
def AK7(p0:Av)(p1:Int)(c2_0:Int):AA (Av×Bool):=bd (JX p0) fun x1=>br (!x1) (jn (bm p0 c2_0) true) (bd (Ck p1 0 60) fun x5=>jn (bm p0 c2_0) (!x5))
def ABH:GF:=AUO.gf rfl rfl (fun a=>AK7 a.1 a.2.1 a.2.2.1.1) (fun a=>by kernel_rfl)
def AUP:YF:=⟨[dm],[.v (.st 3),.v .i],[],.ret [(.st 3),.b],[.cell 4 (some 5),.tmp 5],dY 0x4a8538bf8e206965e69b8f30a164142c68b936 [] [.K2 8 0 [.tmp 3],.call 9 ABH [0] rfl [.tmp 6,.tmp 7,.tmp 8]]⟩
def wA(p0:Av)(p1:Int):AA (Av×Bool):=bd (AK7 p0 p1 p1) fun x1=>some (x1.fst,x1.snd)
def oK:GF:=AUP.Dx (Ak wA)
def AK8(p0:Av)(p1:Int):AA Av:=some (Av.mk p0.Total p0.DJ p0.Dd p0.EK (w64 (p0.ET-p1)))
def dn:GF:=gZ V9 WA [] 0x572b6f5766aed8ed238ad44d4ebea [] (Ak AK8)
def AUQ:YF:=AVb dn
def bn(p0:Av)(c2_0:Int)(v2:Bool):AA (Av×Bool):=br v2 (some (p0,false)) (bd (AK8 p0 c2_0) fun x3=>bd (JX x3) fun x4=>br (!x4) (some (p0,false)) (some (x3,true)))
def AK9(p0:Av)(p1:Int)(c2_0:Int):AA (Av×Bool):=bd (JX p0) fun x1=>br (!x1) (jn (bn p0 c2_0) true) (bd (Ck p1 0 60) fun x5=>jn (bn p0 c2_0) (!x5))
def ABI:GF:=AUQ.gf rfl rfl (fun a=>AK9 a.1 a.2.1 a.2.2.1.1) (fun a=>by kernel_rfl)
def AUR:YF:=⟨[dn],[.v (.st 3),.v .i],[],.ret [(.st 3),.b],[.cell 4 (some 5),.tmp 5],dY 0x4a8538bf8e206965e69b8f30a164142c68b936 [] [.K2 8 0 [.tmp 3],.call 9 ABI [0] rfl [.tmp 6,.tmp 7,.tmp 8]]⟩
def kq(p0:Av)(p1:Int):AA (Av×Bool):=bd (AK9 p0 p1 p1) fun x1=>some (x1.fst,x1.snd)
def dp:GF:=AUR.Dx (Ak kq)
def bq(v3:List AJ):AA (List AJ):=some v3
def T2(p0:List AJ)(p1:Int):AA (List AJ):=gd (0+p0.length<=lim) (bd (kf p0 p1) fun x1=>br (decide (x1>=0)) (bd (ARo p0 x1 (w64 (x1+1))) fun x2=>jn (bq) x2) (jn bq p0))
def dq:GF:=gZ Oi oV BY 0x454e3f08f3efd504a4881d33377455ecfbc6deb37bcd36227dbf6fb7e616e8b5880a9a327 [da,dX] (Ak T2)
def bt(p1:Int)(v17:AE):AA (AE×Int):=bd (T2 v17.AG p1) fun x18=>some (AE.mk v17.AO v17.Now v17.Ai x18 v17.AH v17.A0 v17.Ay,0)
def T3(p1:Int)(x4:AJ)(v11:AE):AA (AE×Int):=br (x4.BQ != -1) (bd (at? v11.AH x4.BQ) fun x12=>bd (at? v11.AH x4.BQ) fun x13=>bd (kq x13.AR x4.A1) fun x14=>bd (at? v11.AH x4.BQ) fun x15=>bd (at? v11.AH x4.BQ) fun x16=>jn (bt p1) (AE.mk v11.AO v11.Now v11.Ai v11.AG (v11.AH.set x4.BQ.toNat (AS.mk x14.fst x16.Row x16.BO)) v11.A0 v11.Ay)) (jn (bt p1) v11)
def AFQ(p0:AE)(p1:Int):AA (AE×Int):=bd (Ks p0) fun x1=>bd (PG p0 (Bw.mk 2 p1 0 0 0 0)) fun x2=>br (x2 != 0) (some (x1,x2)) (bd (KC p0 p1) fun x3=>bd (at? p0.AG x3) fun x4=>bd (KC p0 p1) fun x5=>bd (at? p0.AG x5) fun x6=>Iz x4 x6 (bd (at? x1.AH x4.AT) fun x7=>br (x4.State==1) (bd (at? x1.AH x4.AT) fun x8=>bd (vt x8.Row p1) fun x9=>bd (at? x1.AH x4.AT) fun x10=>jn (T3 p1 x4) (AE.mk x1.AO x1.Now x1.Ai x1.AG (x1.AH.set x4.AT.toNat (AS.mk x10.AR x9.fst x10.BO)) x1.A0 x1.Ay)) (bd (at? x1.AH x4.AT) fun x19=>bd (AUo x19.BO (AY.mk x4.CB p1)) fun x20=>bd (at? x1.AH x4.AT) fun x21=>bd (at? (x1.AH.set x4.AT.toNat (AS.mk x21.AR x21.Row x20.fst)) x4.AT) fun x22=>bd (wA x22.AR x4.A1) fun x23=>bd (at? (x1.AH.set x4.AT.toNat (AS.mk x21.AR x21.Row x20.fst)) x4.AT) fun x24=>bd (T1 x1.A0 x4.AT) fun x25=>jn (T3 p1 x4) (AE.mk x1.AO x1.Now x1.Ai x1.AG ((x1.AH.set x4.AT.toNat (AS.mk x21.AR x21.Row x20.fst)).set x4.AT.toNat (AS.mk x23.fst x24.Row x24.BO)) x25 x1.Ay))))
def ABJ:GF:=gZ GM Il Jx 0x68c18dd83e4f9c161b06781971559bbed753d9f0cea894b53d90f9969842dfb7aa2030f272ec6d67890cfa00957c34a9ff37e0b4514d0a05e56ddf770efe8128c64354e5dfeaf8019df3bbc4f2e8296a5ca18432570fdf63738686123839d42fc613b8af084b1efc42e571fa96a12787d965ce891e1ca1f1deba84d9f2126938685104111c2eafa2068d84fbb333ab6a63ff6553dbb8f74e56cf54ac91e198bd28cee59bb603da6cf475de8ca5080faa5c539c379acdffabff62d3bfb5a7825a0c1281b1f090887dbdb97417be40b2735bcad0ba47a7a5efade75514d87af092cfc9f8e554d988e5fc3bac896891fed0aff822b8c9133186e8 [Ik,Lx,PO,oJ,dk,oK,PQ,dp,dq] (Ak AFQ)
def ALA(p0:Av)(p1:Int):AA Av:=some (Av.mk p0.Total (w64 (p0.DJ+p1)) p0.Dd (w64 (p0.EK-p1)) p0.ET)
def dt:GF:=gZ V9 WA [] 0x122edfda8dd86ee88af60f4615f9133375cd7c231cc0e2bbaca50806ec615 [] (Ak ALA)
def AUS:YF:=AVb dt
def bu(p0:Av)(c2_0:Int)(v2:Bool):AA (Av×Bool):=br v2 (some (p0,false)) (bd (ALA p0 c2_0) fun x3=>bd (JX x3) fun x4=>br (!x4) (some (p0,false)) (some (x3,true)))
def ALB(p0:Av)(p1:Int)(c2_0:Int):AA (Av×Bool):=bd (JX p0) fun x1=>br (!x1) (jn (bu p0 c2_0) true) (bd (Ck p1 0 60) fun x5=>jn (bu p0 c2_0) (!x5))
def ABK:GF:=AUS.gf rfl rfl (fun a=>ALB a.1 a.2.1 a.2.2.1.1) (fun a=>by kernel_rfl)
def AUT:YF:=⟨[dt],[.v (.st 3),.v .i],[],.ret [(.st 3),.b],[.cell 4 (some 5),.tmp 5],dY 0x4a8538bf8e206965e69b8f30a164142c68b936 [] [.K2 8 0 [.tmp 3],.call 9 ABK [0] rfl [.tmp 6,.tmp 7,.tmp 8]]⟩
def wD(p0:Av)(p1:Int):AA (Av×Bool):=bd (ALB p0 p1 p1) fun x1=>some (x1.fst,x1.snd)
def oM:GF:=AUT.Dx (Ak wD)
def AFR(p0:AE)(p1:Int)(p2:Int):AA (AE×Int):=bd (Ks p0) fun x1=>bd (PG p0 (Bw.mk 3 0 p1 0 p2 0)) fun x2=>br (x2 != 0) (some (x1,x2)) (bd (at? x1.AH p1) fun x3=>bd (at? x1.AH p1) fun x4=>bd (wD x4.AR p2) fun x5=>bd (at? x1.AH p1) fun x6=>bd (at? x1.AH p1) fun x7=>bd (T1 x1.A0 p1) fun x8=>some ((AE.mk x1.AO x1.Now x1.Ai x1.AG (x1.AH.set p1.toNat (AS.mk x5.fst x7.Row x7.BO)) x8 x1.Ay,0)))
def ABL:GF:=gZ [.v (.st 8),.v .i,.v .i] Il AM9 0x2acfdaf16d97d8c35c4a7a693b4739a94ba6e34b008bb27161e29b91cc829d4d9f07dee744146a05d07159dac3ad8bc547318652b25e1bc7518670307eba2ba652cc9f7dee61e632f05cf4bb7d3dc47cdd8f28634f4a8c7cc5fa7a [Ik,Lx,oM,PQ] (GJ AFR)
def AK0(p0:Av)(p1:Int):AA Av:=some (Av.mk p0.Total p0.DJ (w64 (p0.Dd-p1)) (w64 (p0.EK+p1)) p0.ET)
def dg:GF:=gZ V9 WA [] 0x288efbff89af1115ae4e8088988c71dedbf42f1537837d2ff6e6694f4ca56 [] (Ak AK0)
def AUI:YF:=AVb dg
def bN(p0:Av)(c2_0:Int)(v2:Bool):AA (Av×Bool):=br v2 (some (p0,false)) (bd (AK0 p0 c2_0) fun x3=>bd (JX x3) fun x4=>br (!x4) (some (p0,false)) (some (x3,true)))
def AK1(p0:Av)(p1:Int)(c2_0:Int):AA (Av×Bool):=bd (JX p0) fun x1=>br (!x1) (jn (bN p0 c2_0) true) (bd (Ck p1 0 60) fun x5=>jn (bN p0 c2_0) (!x5))
def AA4:GF:=AUI.gf rfl rfl (fun a=>AK1 a.1 a.2.1 a.2.2.1.1) (fun a=>by kernel_rfl)
def AUJ:YF:=⟨[dg],[.v (.st 3),.v .i],[],.ret [(.st 3),.b],[.cell 4 (some 5),.tmp 5],dY 0x4a8538bf8e206965e69b8f30a164142c68b936 [] [.K2 8 0 [.tmp 3],.call 9 AA4 [0] rfl [.tmp 6,.tmp 7,.tmp 8]]⟩
def AFG(p0:Av)(p1:Int):AA (Av×Bool):=bd (AK1 p0 p1 p1) fun x1=>some (x1.fst,x1.snd)
def AA5:GF:=AUJ.Dx (Ak AFG)
def bO(v23:AE):AA (AE×Int):=some (v23,0)
def AFH(p0:AE)(p1:Int):AA (AE×Int):=bd (Ks p0) fun x1=>bd (PG p0 (Bw.mk 4 p1 0 0 0 0)) fun x2=>br (x2 != 0) (some (x1,x2)) (bd (KC p0 p1) fun x3=>bd (at? p0.AG x3) fun x4=>bd (KC p0 p1) fun x5=>bd (at? p0.AG x5) fun x6=>Iz x4 x6 (bd (at? x1.AH x4.AT) fun x7=>bd (at? x1.AH x4.AT) fun x8=>bd (AFG x8.AR x4.A1) fun x9=>bd (at? x1.AH x4.AT) fun x10=>bd (at? (x1.AH.set x4.AT.toNat (AS.mk x9.fst x10.Row x10.BO)) x4.AT) fun x11=>bd (AUo x11.BO (AY.mk x4.CB p1)) fun x12=>bd (at? (x1.AH.set x4.AT.toNat (AS.mk x9.fst x10.Row x10.BO)) x4.AT) fun x13=>bd (T2 x1.AG p1) fun x14=>br (x4.BQ != -1) (bd (at? ((x1.AH.set x4.AT.toNat (AS.mk x9.fst x10.Row x10.BO)).set x4.AT.toNat (AS.mk x13.AR x13.Row x12.fst)) x4.BQ) fun x15=>bd (at? ((x1.AH.set x4.AT.toNat (AS.mk x9.fst x10.Row x10.BO)).set x4.AT.toNat (AS.mk x13.AR x13.Row x12.fst)) x4.BQ) fun x16=>bd (kq x16.AR x4.A1) fun x17=>bd (at? ((x1.AH.set x4.AT.toNat (AS.mk x9.fst x10.Row x10.BO)).set x4.AT.toNat (AS.mk x13.AR x13.Row x12.fst)) x4.BQ) fun x18=>bd (at? (((x1.AH.set x4.AT.toNat (AS.mk x9.fst x10.Row x10.BO)).set x4.AT.toNat (AS.mk x13.AR x13.Row x12.fst)).set x4.BQ.toNat (AS.mk x17.fst x18.Row x18.BO)) x4.BQ) fun x19=>bd (wD x19.AR x4.A1) fun x20=>bd (at? (((x1.AH.set x4.AT.toNat (AS.mk x9.fst x10.Row x10.BO)).set x4.AT.toNat (AS.mk x13.AR x13.Row x12.fst)).set x4.BQ.toNat (AS.mk x17.fst x18.Row x18.BO)) x4.BQ) fun x21=>bd (T1 x1.A0 x4.BQ) fun x22=>jn (bO) (AE.mk x1.AO x1.Now x1.Ai x14 ((((x1.AH.set x4.AT.toNat (AS.mk x9.fst x10.Row x10.BO)).set x4.AT.toNat (AS.mk x13.AR x13.Row x12.fst)).set x4.BQ.toNat (AS.mk x17.fst x18.Row x18.BO)).set x4.BQ.toNat (AS.mk x20.fst x21.Row x21.BO)) x22 x1.Ay)) (jn bO (AE.mk x1.AO x1.Now x1.Ai x14 ((x1.AH.set x4.AT.toNat (AS.mk x9.fst x10.Row x10.BO)).set x4.AT.toNat (AS.mk x13.AR x13.Row x12.fst)) x1.A0 x1.Ay))))
def AA6:GF:=gZ GM Il Jx 0x72a4c1bbcaef170400eeb638ff1f082ca71ea8262fcd0e45930b7062b780386f4a6d93b368436f067cfc54fd68335425a204e914004b6a68e45c59f88ef0a5a10888ffc155065889e9798259e57b524426f222a7bf7a048731bca4b714a136b6ffe50955fb9713925f4f90b583ef9e9dd4bbb3a4a55828a825c78c67e8b2607a082e8be64e407f4f818b66afaa4ac1c0230ac836dc0333a7cf3b328e7584f762ffd96f7460567a03c0908e3002aa99158d9f3854ae8110caecb9f988dc55c813885d07e2479c2202a3a59efbee6781aed571054b292c9c63c1b7e780d1fd89e424e6894e7d22063370dafab9ad8dac [Ik,Lx,PO,AA5,dk,dq,dp,oM,PQ] (Ak AFH)
def Ty(p0:AV)(p1:AJ)(p2:Int)(v2:Bool):AA (AJ×Bool):=br v2 (some (AJ.mk 0 0 0 0 0 0 0 0 0 0,false)) (some ((AJ.mk p1.Id p1.AT p1.BQ p1.A1 p1.CT p1.Since p1.Ai 1 (w64 (p2+p0.Rest)) (w64 (p1.CX+1)),true)))
def AFI(p0:AV)(p1:AJ)(p2:Int):AA (AJ×Bool):=bd (ZR p0 p1 p2) fun x1=>br (!x1) (jn (Ty p0 p1 p2) true) (br (p1.State != 2) (jn (Ty p0 p1 p2) true) (jn (Ty p0 p1 p2) (w64 (p1.CX+1)==p0.Cc)))
def AA7:GF:=gZ PT (.ret [(.st 2),.b]) ANA 0x335bdfdb6ae33ce7061832b5bd866baa4a755e179a79ad712c97c6f8f698f1519917d77738b8a8a313661012a5d3bfb50ae419a8d118a0cd32c3ead1f0b2f729e1b8a1f5ee07eb100c9759b78907a [V4] (GJ AFI)
def bP(v26:AE):AA AE:=some v26
def vj(p0:AE)(p1:Int):AA AE:=bd (KC p0 p1) fun x1=>bd (at? p0.AG x1) fun x2=>bd (at? p0.AG x1) fun x3=>bd (KC p0 p1) fun x4=>bd (at? p0.AG x4) fun x5=>bd (at? p0.AG x4) fun x6=>Iz x3 x6 (bd (at? p0.AH x3.AT) fun x7=>bd (at? p0.AH x3.AT) fun x8=>bd (wA x8.AR x3.A1) fun x9=>bd (at? p0.AH x3.AT) fun x10=>bd (at? (p0.AH.set x3.AT.toNat (AS.mk x9.fst x10.Row x10.BO)) x3.AT) fun x11=>bd (AUo x11.BO (AY.mk x3.CB p1)) fun x12=>bd (at? (p0.AH.set x3.AT.toNat (AS.mk x9.fst x10.Row x10.BO)) x3.AT) fun x13=>bd (AFI p0.AO x3 p0.Now) fun x14=>br x14.snd (bd (km p0.AG x14.fst) fun x15=>bd (jk p0.AO x14.fst p0.Now) fun x16=>bd (at? ((p0.AH.set x3.AT.toNat (AS.mk x9.fst x10.Row x10.BO)).set x3.AT.toNat (AS.mk x13.AR x13.Row x12.fst)) x3.AT) fun x17=>bd (ko x17.Row x16.fst) fun x18=>bd (at? ((p0.AH.set x3.AT.toNat (AS.mk x9.fst x10.Row x10.BO)).set x3.AT.toNat (AS.mk x13.AR x13.Row x12.fst)) x3.AT) fun x19=>some (AE.mk p0.AO p0.Now p0.Ai x15 (((p0.AH.set x3.AT.toNat (AS.mk x9.fst x10.Row x10.BO)).set x3.AT.toNat (AS.mk x13.AR x13.Row x12.fst)).set x3.AT.toNat (AS.mk x19.AR x18.fst x19.BO)) p0.A0 p0.Ay)) (bd (T2 p0.AG p1) fun x20=>br (x3.BQ != -1) (bd (at? ((p0.AH.set x3.AT.toNat (AS.mk x9.fst x10.Row x10.BO)).set x3.AT.toNat (AS.mk x13.AR x13.Row x12.fst)) x3.BQ) fun x21=>bd (at? ((p0.AH.set x3.AT.toNat (AS.mk x9.fst x10.Row x10.BO)).set x3.AT.toNat (AS.mk x13.AR x13.Row x12.fst)) x3.BQ) fun x22=>bd (kq x22.AR x3.A1) fun x23=>bd (at? ((p0.AH.set x3.AT.toNat (AS.mk x9.fst x10.Row x10.BO)).set x3.AT.toNat (AS.mk x13.AR x13.Row x12.fst)) x3.BQ) fun x24=>bd (at? ((p0.AH.set x3.AT.toNat (AS.mk x9.fst x10.Row x10.BO)).set x3.AT.toNat (AS.mk x13.AR x13.Row x12.fst)) x3.BQ) fun x25=>jn (bP) (AE.mk p0.AO p0.Now p0.Ai x20 (((p0.AH.set x3.AT.toNat (AS.mk x9.fst x10.Row x10.BO)).set x3.AT.toNat (AS.mk x13.AR x13.Row x12.fst)).set x3.BQ.toNat (AS.mk x23.fst x25.Row x25.BO)) p0.A0 p0.Ay)) (jn bP (AE.mk p0.AO p0.Now p0.Ai x20 ((p0.AH.set x3.AT.toNat (AS.mk x9.fst x10.Row x10.BO)).set x3.AT.toNat (AS.mk x13.AR x13.Row x12.fst)) p0.A0 p0.Ay))))
def oG:GF:=gZ ABg Ly Ro 0xa636253ee9928fec4a8508a6a9b4a49e1125b31f2e4014d20f243d380971cce163f9a092b0f848113ad7942cd65a3f157df8ffdcc5341f814736bf284a0b4f2bff60a7b45cac307584e23f997fe2a7e82d2c9ff84b29009536b1c9bb7fdbd75afa6d9c46712559107a8dfe495b48b7460b50d9a81cb603926baf6e871a4fcdf70d07098d17162e0847bb7f5b2674f0e5036815028426523cd839eeace53d2cff3a3b27cbb65ae3c3d021b1b66246f44cff1b0d89d042a3c611fe8d7d967297d005a5bd9e1a1a9a2ddaa9fb80b501e3567166c52f9a2d94835967a2584349b4ef31f6c4921ed2d5ffb694df80820d8337c1ff14cc6fe8fab2e3a6430c4cefb0a1fe92cdc6247f210182ca509f5588 [PO,oK,dk,AA7,di,dJ,oI,dq,dp] (Ak vj)
def AFJ(p0:AE)(p1:Int):AA (AE×Int):=bd (Ks p0) fun x1=>bd (PG p0 (Bw.mk 5 p1 0 0 0 0)) fun x2=>br (x2 != 0) (some (x1,x2)) (bd (KC p0 p1) fun x3=>bd (at? p0.AG x3) fun x4=>bd (vj x1 p1) fun x5=>bd (T1 x5.A0 x4.AT) fun x6=>some (AE.mk x5.AO x5.Now x5.Ai x5.AG x5.AH x6 x5.Ay,0))
def AA8:GF:=gZ GM Il Jx 0x11209d22ffbdbfcce248411e9b7c081e9c33a981c82260a8a2fb4a887e78587db52561eacb5b0c2394188bf44be89878f028366e3541ad808a211401be211835c2ae47e52f44cf5374338a6eb87f8ca56f [Ik,Lx,PO,oG,PQ] (Ak AFJ)
def bQ(L3:(Int×AE)->AA (AE×Int))(v4:Int)(v11:AE):AA (AE×Int):=L3 ((w64 (v4+1),v11))
def AK2(v12:AE):AA (AE×Int):=some (v12,0)
def Tz(x1:AE)(L3:(Int×AE)->AA (AE×Int))(x_:(Int×AE)):AA (AE×Int):=match x_ with |(v4,v5)=>br (decide (v4<(↑x1.AH.length:Int))) (bd (jv v5.AO v5.AG v4 v5.Now) fun x6=>bd (at? v5.AH v4) fun x7=>bd (at? v5.AH v4) fun x8=>bd (jf v5.AG v4) fun x9=>br (decide (x9>0)) (bd (T1 v5.A0 v4) fun x10=>jn (bQ L3 v4) (AE.mk v5.AO v5.Now v5.Ai v5.AG (v5.AH.set (Int.toNat v4) (AS.mk x8.AR x6 x8.BO)) x10 v5.Ay)) (jn (bQ L3 v4) (AE.mk v5.AO v5.Now v5.Ai v5.AG (v5.AH.set (Int.toNat v4) (AS.mk x8.AR x6 x8.BO)) v5.A0 v5.Ay))) (jn AK2 v5)
def AFK(p0:AE):AA (AE×Int):=bd (Ks p0) fun x1=>bd (PG p0 (Bw.mk 6 0 0 0 0 0)) fun x2=>br (x2 != 0) (some (x1,x2)) (Aw (Tz x1) big ((0,AE.mk x1.AO (w64 (x1.Now+1)) x1.Ai x1.AG x1.AH x1.A0 x1.Ay)))
def AA9:GF:=gZ PR Il oX 0x157b0f7c8504dbf544d50753697af7278bdedb679330676fe6c749a9d8d734b910cfe94a0b62ac63ac4c9c00ffef767f3eef40decbb9ad84961b5f5103d28617fee8a1f0ad2e853f1db20395311967cd52c6652c7080cb5e8fb21b66d12727543eba826e19e41f5e7b3eba2ecbe1908ab6f5af185385e23084c003328b6 [Ik,Lx,nd,dG,PQ] (Bh AFK)
def bR(v3:Bool):AA Bool:=some v3
def vk(p0:AE)(p1:Int):AA Bool:=bd (Og p0) fun x1=>br x1 (bd (Mi p1 (↑p0.AH.length:Int)) fun x2=>jn (bR) x2) (jn bR false)
def oH:GF:=gZ GM Bc BY 0xaa7fb301cf22a9e4c663c17b2b8e19e60f4b46cba [V6,PM] (Ak vk)
def bS(L2:((List AY)×Int)->AA (List AY))(v4:Int)(v7:List AY):AA (List AY):=L2 ((v7,w64 (v4+1)))
def vm(v8:List AY):AA (List AY):=some v8
def bU(p1:Int)(x1:List AY)(L2:((List AY)×Int)->AA (List AY))(x_:((List AY)×Int)):AA (List AY):=match x_ with |(v3,v4)=>br (decide (v4<(↑(List.length x1):Int))) (bd (at? x1 v4) fun x5=>bd (at? x1 v4) fun x6=>br (decide (x6.At<=p1)) (gd (List.length v3+[x6].length<=lim) (jn (bS L2 v4) (v3++[x6]))) (jn (bS L2 v4) v3)) (jn vm v3)
def AFL(p0:Ah)(p1:Int):AA (List AY):=bd (ZQ p0) fun x1=>Aw (bU p1 x1) big ([],0)
def ABA:GF:=gZ AM0 Rm BY 0x9747b03a5d7f58271b3b5a06cfabbb26e84e8c623885934d7f9a2e887c27dc5111056db793fedc761afc1571ebd9baf9d8461a672023393a0148882ade70c1cc794d [dE] (Ak AFL)
def wJ(v9:List Int):AA (List Int):=some v9
def cE(x3:List AY)(L4:((List Int)×Int)->AA (List Int))(x_:((List Int)×Int)):AA (List Int):=match x_ with |(v5,v6)=>br (decide (v6<(↑(List.length x3):Int))) (bd (at? x3 v6) fun x7=>bd (at? x3 v6) fun x8=>gd (List.length v5+[x8.Id].length<=lim) (L4 ((v5++[x8.Id],w64 (v6+1))))) (jn wJ v5)
def AFc(p0:AE)(p1:Int):AA (List Int):=bd (vk p0 p1) fun x1=>br (!x1) (some []) (bd (at? p0.AH p1) fun x2=>bd (AFL x2.BO p0.Now) fun x3=>Aw (cE x3) big ([],0))
def ABM:GF:=gZ GM lE BY 0x1322cde8eac560e67f5d1b76e651fa82f0d5fcdd2408bc883b54ffd48e1fb3c490282e5e3269ec39b3e98be679b3454325cc2b60fd8ab57c023df6dd4f75d4ddffa3a49d52887a0d46d44c320afdf868e4 [oH,ABA] (Ak AFc)
def wN(v9:AE):AA AE:=some v9
def cF(x2:List Int)(L3:(Int×AE)->AA AE)(x_:(Int×AE)):AA AE:=match x_ with |(v4,v5)=>br (decide (v4<(↑(List.length x2):Int))) (bd (at? x2 v4) fun x6=>bd (at? x2 v4) fun x7=>bd (vj v5 x7) fun x8=>L3 ((w64 (v4+1),x8))) (jn wN v5)
def AFd(p0:AE)(p1:Int):AA AE:=bd (Ks p0) fun x1=>bd (AFc p0 p1) fun x2=>Aw (cF x2) big (0,x1)
def ABN:GF:=gZ GM Ly Ro 0x4ff188633786e5d7a62f74f1ee2e5c2e19a03738074652bfeeb9e65323274d7cd1315e586835846669b6a4621c852ca031d55311a0b30af5a72739075b2 [Ik,ABM,oG] (Ak AFd)
def cG(v1:Bool):AA Bool:=some v1
def AFe(p0:AJ)(p1:Int):AA Bool:=br (p0.State==1) (jn cG (decide (p0.CB>p1))) (jn cG false)
def ABO:GF:=gZ oT Bc BY 0x26910a02aae125862ae2109f4d713fb178cf167 [] (Ak AFe)
def cH(v2:Bool):AA Bool:=some v2
def ALC(p0:AQ)(p1:Int)(p2:List Int):AA Bool:=br (decide (p0.A1<=p1)) (bd (j5 p2 p0.Id) fun x1=>jn (cH) (!x1)) (jn cH false)
def du:GF:=gZ [.v (.st 4),.p .i,.p (.l .i)] Bc BY 0x45192e22e5ff357d4cf15cdb2e32a0ef347ec0bc3255f04 [dL] (GJ ALC)
def AUY:YF:=⟨[du],[.v (.l (.st 4)),.f du.x [(true,.i),(true,(.l .i))]],[0],.ret [.i],[.tmp 4],dY 0xa984e1a3e5ac0441e63d41d1da89823b7d39b6aee4508376dfd580c969962c760a6cc4ab91481b11e9ad61841057c90 [] [.Dg 16 (.tmp 11) [.v,.p,.p] [.tmp 15]]⟩
def wP(_:PUnit):AA Int:=some (-1)
def cI(p0:List AQ)(c1_0:Int)(c1_1:List Int)(L1:Int->AA Int)(v2:Int):AA Int:=br (decide (v2<(↑p0.length:Int))) (bd (at? p0 v2) fun x3=>bd (ALC x3 c1_0 c1_1) fun x4=>br x4 (some v2) (L1 (w64 (v2+1)))) (jn wP ())
def ALD(p0:List AQ)(c1_0:Int)(c1_1:List Int):AA Int:=Aw (cI p0 c1_0 c1_1) big 0
def ABP:GF:=AUY.gf rfl rfl (fun a=>ALD a.1 a.2.1.1 a.2.1.2.1) (fun a=>by kernel_rfl)
def AUZ:YF:=⟨[du],[.v (.l (.st 4)),.v .i,.v (.l .i)],[],.ret [.i],[.tmp 6],dY 0x223d534c5892b8bf9f6ecd00 [] [.K2 8 0 [.tmp 4,.tmp 5],.call 9 ABP [0] rfl [.tmp 7,.tmp 8]]⟩
def wS(p0:List AQ)(p1:Int)(p2:List Int):AA Int:=bd (ALD p0 p1 p2) fun x1=>some x1
def ABQ:GF:=AUZ.Dx (GJ wS)
def cJ(L2:((List Int)×Int)->AA Int)(v4:Int)(v7:List Int):AA Int:=L2 ((v7,w64 (v4+1)))
def cK(p0:AE)(p1:Int)(v8:List Int):AA Int:=bd (at? p0.AH p1) fun x9=>bd (wS x9.Row x9.AR.DJ v8) fun x10=>br (decide (x10<0)) (some 0) (bd (at? x9.Row x10) fun x11=>some x11.Id)
def cL(p0:AE)(p1:Int)(L2:((List Int)×Int)->AA Int)(x_:((List Int)×Int)):AA Int:=match x_ with |(v3,v4)=>br (decide (v4<(↑p0.AG.length:Int))) (bd (at? p0.AG v4) fun x5=>bd (AFe x5 p0.Now) fun x6=>br x6 (gd (List.length v3+[x5.Id].length<=lim) (jn (cJ L2 v4) (v3++[x5.Id]))) (jn (cJ L2 v4) v3)) (jn (cK p0 p1) v3)
def AFf(p0:AE)(p1:Int):AA Int:=bd (vk p0 p1) fun x1=>br (!x1) (some 0) (Aw (cL p0 p1) big ([],0))
def ABR:GF:=gZ GM CS BY 0xaedea4fc1dc7efe609b1184830b459d24044f32b3dc12eea29517e46dae855eb5b82e9f552ad239967cf3e6b2a5e67717cbb53e978d8328d8ec8d24eb52bd7d2e15f08d0dc7de2a29840518c239afbff56838ba440123aefd0bd20ff9abdb14f2ec376b88c592ce809c4750f3b7e85ccf6cd [oH,ABO,ABQ] (Ak AFf)
def ALE(p0:Av)(p1:Int):AA Av:=some (Av.mk p0.Total (w64 (p0.DJ-p1)) (w64 (p0.Dd+p1)) p0.EK p0.ET)
def dv:GF:=gZ V9 WA [] 0xd5be861dd0463341ed9418c7e58261a3f9acb4dfc582ec85f42858c6ec68 [] (Ak ALE)
def AUa:YF:=AVb dv
def cM(p0:Av)(c2_0:Int)(v2:Bool):AA (Av×Bool):=br v2 (some (p0,false)) (bd (ALE p0 c2_0) fun x3=>bd (JX x3) fun x4=>br (!x4) (some (p0,false)) (some (x3,true)))
def ALF(p0:Av)(p1:Int)(c2_0:Int):AA (Av×Bool):=bd (JX p0) fun x1=>br (!x1) (jn (cM p0 c2_0) true) (bd (Ck p1 0 60) fun x5=>jn (cM p0 c2_0) (!x5))
def ABS:GF:=AUa.gf rfl rfl (fun a=>ALF a.1 a.2.1 a.2.2.1.1) (fun a=>by kernel_rfl)
def AUb:YF:=⟨[dv],[.v (.st 3),.v .i],[],.ret [(.st 3),.b],[.cell 4 (some 5),.tmp 5],dY 0x4a8538bf8e206965e69b8f30a164142c68b936 [] [.K2 8 0 [.tmp 3],.call 9 ABS [0] rfl [.tmp 6,.tmp 7,.tmp 8]]⟩
def AFg(p0:Av)(p1:Int):AA (Av×Bool):=bd (ALF p0 p1 p1) fun x1=>some (x1.fst,x1.snd)
def ABT:GF:=AUb.Dx (Ak AFg)
def AFh(p0:AE)(p1:Int):AA (AE×Int):=bd (Ks p0) fun x1=>bd (AFf p0 p1) fun x2=>br (x2==0) (some (x1,0)) (bd (KC p0 x2) fun x3=>bd (at? p0.AG x3) fun x4=>bd (KC p0 x2) fun x5=>bd (at? p0.AG x5) fun x6=>Iz x4 x6 (bd (at? x1.AH p1) fun x7=>bd (at? x1.AH p1) fun x8=>bd (AFg x8.AR x4.A1) fun x9=>bd (at? x1.AH p1) fun x10=>bd (at? (x1.AH.set p1.toNat (AS.mk x9.fst x10.Row x10.BO)) p1) fun x11=>bd (vt x11.Row x2) fun x12=>bd (at? (x1.AH.set p1.toNat (AS.mk x9.fst x10.Row x10.BO)) p1) fun x13=>bd (km x1.AG (AJ.mk x4.Id x4.AT x4.BQ x4.A1 x4.CT x4.Since x4.Ai 2 (w64 (p0.Now+p0.AO.Bq)) x4.CX)) fun x14=>bd (at? ((x1.AH.set p1.toNat (AS.mk x9.fst x10.Row x10.BO)).set p1.toNat (AS.mk x13.AR x12.fst x13.BO)) p1) fun x15=>bd (vL x15.BO (AY.mk (w64 (p0.Now+p0.AO.Bq)) x2)) fun x16=>bd (at? ((x1.AH.set p1.toNat (AS.mk x9.fst x10.Row x10.BO)).set p1.toNat (AS.mk x13.AR x12.fst x13.BO)) p1) fun x17=>some ((AE.mk x1.AO x1.Now x1.Ai x14 (((x1.AH.set p1.toNat (AS.mk x9.fst x10.Row x10.BO)).set p1.toNat (AS.mk x13.AR x12.fst x13.BO)).set p1.toNat (AS.mk x17.AR x17.Row x16.fst)) x1.A0 x1.Ay,x2))))
def ABU:GF:=gZ GM Il Jx 0x34270c9cfa94341422f1165e0e26376547ef0cbeb20e7096feaabc17b6bc4904a6c7012508c5c8012d2494ca9857b60489ead8c3eed449a4549dbcac19f45a3a0bb5e2ebf0966b8715e930f113f5658011759a1cfff932f5028d007b424b1fab325eb156db27688923c0511f57d0b23f16db6742ad1be99c035aaccbc0fe10ad17edbe3e9d2734e26f61ceac0cc47d8f4fa255303a541cbaab9c889764808dfb7f6ec2240f0d69c6fee86ce545e4be14a585621f1ee3fee1abb4fd4fce12794b97fec5cb6134144da40 [Ik,ABR,PO,ABT,oJ,di,AAf] (Ak AFh)
def T4(p1:Int)(L2:((List Int)×AE)->AA (AE×(List Int)))(x_:((List Int)×AE)):AA (AE×(List Int)):=match x_ with |(v3,v4)=>bd (AFh v4 p1) fun x5=>br (x5.snd==0) (some (v4,v3)) (gd (List.length v3+[x5.snd].length<=lim) (L2 (v3++[x5.snd],x5.fst)))
def AFi(p0:AE)(p1:Int):AA (AE×(List Int)):=bd (AFd p0 p1) fun x1=>Aw (T4 p1) big ([],x1)
def ABV:GF:=gZ GM AM3 Jx 0x67901a2379d6c9d9ccaac1bffcd94fbd8b7f65d57dd3d973158c043b4ecb5c84ec3c4e5c0ac0c7ac192aeb5d30480a7f15723d44c9540d9d909af3a268063dd55a29c78da1039f986 [ABN,ABU] (Ak AFi)
def AFj(p0:AE)(p1:Int):AA (AE×Int×(List Int)):=bd (Ks p0) fun x1=>bd (PG p0 (Bw.mk 7 p1 0 0 0 0)) fun x2=>br (x2 != 0) (some (x1,x2,[])) (bd (at? x1.Ay p1) fun x3=>bd (at? x1.Ay p1) fun x4=>br (x4 == -1) (bd (at? x1.A0 0) fun x5=>bd (at? x1.A0 0) fun x6=>bd (at? x1.Ay p1) fun x7=>bd (at? x1.Ay p1) fun x8=>gd ((0:Int)<=1/\1<=(↑x1.A0.length:Int)) (some ((AE.mk x1.AO x1.Now x1.Ai x1.AG x1.AH (List.take (x1.A0.length-Int.toNat 1) (List.drop (Int.toNat 1) x1.A0)) (x1.Ay.set p1.toNat x6),0,[])))) (bd (at? x1.Ay p1) fun x9=>bd (at? x1.Ay p1) fun x10=>bd (AFi x1 x10) fun x11=>bd (at? x11.fst.Ay p1) fun x12=>bd (at? x11.fst.Ay p1) fun x13=>some ((AE.mk x11.fst.AO x11.fst.Now x11.fst.Ai x11.fst.AG x11.fst.AH x11.fst.A0 (x11.fst.Ay.set p1.toNat (-1)),0,x11.snd))))
def ABW:GF:=gZ GM AM4 ANB 0x5de83f63e9af19dd04a5927a1fe515076052c2e3f51d3de5f0eaea9aff1a15692c40f1435a720ca8b23fc1125e9c57dd5aaba2a126053c43f19410a71c990b5fcb7041baac3a8c61a38c9c071cc89882941b8471ec7ccae1f1be17405a9066ddfe2e64c78092787711859bc1f83cbe99647eb4dec9c02d07dc8575044591d5e0c8ce68229e709421e55c [Ik,Lx,ABV] (Ak AFj)
def Je(x_:(AE×BK)):AA (AE×BK):=match x_ with |(v4,v5)=>some (v4,v5)
def AFk(p0:AE)(p1:Bw):AA (AE×BK):=bd (PG p0 p1) fun x1=>br (x1 != 0) (bd (Ks p0) fun x2=>some (x2,BK.mk x1 [])) (br (p1.Kind==1) (bd (AFO p0 p1.Id p1.AT p1.BQ p1.A1 p1.CT) fun x3=>jn (Je) (x3.fst,BK.mk x3.snd [])) (br (p1.Kind==2) (bd (AFQ p0 p1.Id) fun x6=>jn (Je) (x6.fst,BK.mk x6.snd [])) (br (p1.Kind==3) (bd (AFR p0 p1.AT p1.A1) fun x7=>jn (Je) (x7.fst,BK.mk x7.snd [])) (br (p1.Kind==4) (bd (AFH p0 p1.Id) fun x8=>jn (Je) (x8.fst,BK.mk x8.snd [])) (br (p1.Kind==5) (bd (AFJ p0 p1.Id) fun x9=>jn (Je) (x9.fst,BK.mk x9.snd [])) (br (p1.Kind==6) (bd (AFK p0) fun x10=>jn (Je) (x10.fst,BK.mk x10.snd [])) (bd (AFj p0 p1.Id) fun x11=>jn (Je) (x11.fst,BK.mk x11.snd.fst x11.snd.snd))))))))
def ABX:GF:=gZ eB AM5 ANC 0x3b06027ec81b78d6b0b53e3cba5808613a229367f052f4dc02e547449a5a98605d5d9c5f01f629486d4888251d97d194594095ebc2c5520f6dc0e53f5fb5ba44b118397bf7db66beb8c4d7c780dbd6b00c356de6d1ff59abda33cbbb21b3a05df63b45d24ecf35fb04a3ff4169026094253ff779b912a80da0da81739f342ce7c4dbc8e0b6d4041def92cd0f94acbf45b1a81059d565e97aeb7e8a72f68d68679a41e5f596b322d95bff955a5d600e5c8e203ae2ca2503b39b345a429eb81938199223c7edbd4a5be1e3df11ec087406e87466419e1a190c23e5d60fcf3678171bc47e25b7f2def63dcd7a5ecc45312c4cfeb43ed8ac9d449f8e4181cc6c38a2727b3d9d42c6cabed0171ae39c29cafbba839eb85b0580fc6e3c3c538da19eddf586e2301 [Lx,Ik,ABF,ABJ,ABL,AA6,AA8,AA9,ABW] (Ak AFk)
def wV(x_:((List BK)×AE)):AA (AE×(List BK)):=match x_ with |(v8,v9)=>some (v9,v8)
def AUm(p1:List Bw)(L2:((List BK)×Int×AE)->AA (AE×(List BK)))(x_:((List BK)×Int×AE)):AA (AE×(List BK)):=match x_ with |(v3,v4,v5)=>br (decide (v4<(↑p1.length:Int))) (bd (at? p1 v4) fun x6=>bd (AFk v5 x6) fun x7=>gd (List.length v3+[x7.snd].length<=lim) (L2 ((v3++[x7.snd],w64 (v4+1),x7.fst)))) (jn wV (v3,v5))
def wT(p0:AE)(p1:List Bw):AA (AE×(List BK)):=bd (Ks p0) fun x1=>Aw (AUm p1) big ([],0,x1)
def oQ:GF:=gZ AM2 AM6 Jx 0xe3b34f098fba96ec4e58ba14a0dd10270b5d0ff6309e921809bffc62f795d2f6a75aed3caedd26f083c8a57611c367717df76d981ab98b7657ee4fe8cfafb1341c97d989c7220db3fe5b6155dac99268eb06200cf7954b143497635858808618d66f211216f638c4dde478da61faa47e8cc1 [Ik,ABX] (Ak wT)
end Lv
set_option maxRecDepth 100000
namespace Lv
open Go (IntKind BinOp UnOp)
open Y (YF qn qf qt qr q1 qd qm qa qo ql qL qb qi qx qp qq qc qz qe qk qK qB qw qu qj Kp wn wf wt w1 sw sq sr wm wM wo wO wl wL wk wK wz wZ wx wX wb wB wi wI wr wR wq wQ we wE wc wY wj wh cv ca cx cn ce bl)
def wW(p0:Be):AA (Be×(List BK)):=bd (AEs p0) fun x1=>bd (tj p0) fun x2=>br (!x2) (some (x1,[])) (bd (AEc p0.CY.Log) fun x3=>bd (wT p0.BD p0.Laid) fun x4=>some ((Be.mk x4.fst (Dc.mk x3 x1.CY.G1 x1.CY.Odd) x1.Seq [],x4.snd)))
def AMV:GF:=gZ PS AM7 AND 0x87182f7eab5547472873680af227ebb08298b6aa229ee5ec3321475749171a5396da7e6aea2cf8e9062aa4abbe3fe202bd4144569ce342f68d625465162df3c4527b0096911425dfdd11382869253dd2eec18c15f06077cc9 [AMF,nr,AL4,oQ] (Bh wW)
def Gp(x5:(Be×(List BK)))(x12:(Int×Be))(x13:(Int×(List BK)))(v19:Bool):AA Bool:=br v19 (some false) (bd (uC (Be.mk (AE.mk (AV.mk x12.snd.BD.AO.AR x5.fst.BD.AO.Cg x5.fst.BD.AO.Room x5.fst.BD.AO.A1 x5.fst.BD.AO.CA x5.fst.BD.AO.Bq x5.fst.BD.AO.Rest x5.fst.BD.AO.Cc x5.fst.BD.AO.Cu) x5.fst.BD.Now x5.fst.BD.Ai x12.snd.BD.AG x12.snd.BD.AH x12.snd.BD.A0 x12.snd.BD.Ay) x5.fst.CY x5.fst.Seq x12.snd.Laid) 1) fun x20=>br (decide (x20<0)) (some false) (bd (uG x13.snd x20) fun x21=>br (decide (x21<0)) (some false) (br (x21 != x13.fst) (some false) (some true))))
def FJ(p0:Be)(x3:(Be×(List BK)))(x5:(Be×(List BK)))(v11:Bool):AA Bool:=br v11 (some false) (bd (ux x5.fst 1) fun x12=>bd (AEO x5.snd x12.fst) fun x13=>bd (uC (Be.mk (AE.mk (AV.mk x12.snd.BD.AO.AR x5.fst.BD.AO.Cg x5.fst.BD.AO.Room x5.fst.BD.AO.A1 x5.fst.BD.AO.CA x5.fst.BD.AO.Bq x5.fst.BD.AO.Rest x5.fst.BD.AO.Cc x5.fst.BD.AO.Cu) x5.fst.BD.Now x5.fst.BD.Ai x12.snd.BD.AG x12.snd.BD.AH x12.snd.BD.A0 x12.snd.BD.Ay) x5.fst.CY x5.fst.Seq x12.snd.Laid) 1) fun x14=>br (decide (x14<0)) (some false) (bd (uG x13.snd x14) fun x15=>br (decide (x15<0)) (some false) (br (x15 != x13.fst) (some false) (bd (rp p0) fun x16=>bd (wW x16) fun x17=>bd (W9 x17.fst x3.fst) fun x18=>br (!x18) (jn (Gp x5 x12 x13) true) (bd (Z9 x17.snd x3.snd) fun x22=>jn (Gp x5 x12 x13) (!x22))))))
def Gn(p0:Be)(x3:(Be×(List BK)))(x4:Be)(x5:(Be×(List BK)))(v7:Bool):AA Bool:=br v7 (some false) (bd (rp p0) fun x8=>bd (W9 x4 x8) fun x9=>br (!x9) (some false) (bd (ux x4 1) fun x10=>br (decide (x10.fst<0)) (jn (FJ p0 x3 x5) true) (bd (W9 x5.fst x3.fst) fun x23=>br (!x23) (jn (FJ p0 x3 x5) true) (bd (Z9 x5.snd x3.snd) fun x24=>jn (FJ p0 x3 x5) (!x24)))))
def GU(p0:Be):AA Bool:=bd (ALI p0 1048576) fun x1=>br (decide (x1<0)) (some true) (bd (rp p0) fun x2=>bd (AE1 x2) fun x3=>bd (rp p0) fun x4=>bd (wW x4) fun x5=>bd (W9 x5.fst x3.fst) fun x6=>br (!x6) (jn (Gn p0 x3 x4 x5) true) (bd (Z9 x5.snd x3.snd) fun x25=>jn (Gn p0 x3 x4 x5) (!x25)))
def Et:GF:=gZ PS Bc Dm 0x50098deba1b7393c861e9a762df5c40015723cb5e5fb8a10b23651eb05e2b4efa38e171bd53dd6e4875a551f8b6bfc7787fb7af8cc5e1475ec2f41c8103876070f6e2e5784840fed01f2254bf74054085ba7330dfc38fc025335e14e8530196aa73fc84caf80f2302db8edec5f7aeca29f7972c68dc3f35ae13dcc63024fd905c787a682bf487d04db072b5d823f1d90e6a8fad9a2936dd0f75f5a0fef1204ef4c4c7619acae90fcbaaca8718b6b33976840c89cddcf2d780c001993b226e6f32b922d456015acf56c99828b90b51bbf1d2ec7d47635a66f64ec93dd774933a28c33bf63120219240738859cbe2ebb2bf3d69be27f081431f742fd456207e29196118246511038ddca556a59b643b43bc0acdafdb71e3865a47e4117cc4abeb0050b77975764e0b866a26b2cc622af2eb6cf8c2efb36f5e0f05f470bcba17d1ccd974dac94c662f794cba78091188dd04ac3ca612bcd528a [AGB,AF9,AMM,AMV,ni,nt,AL6,ALp,ALn,ALq] (Bh GU)
end Lv
set_option maxRecDepth 100000
namespace Lv
open Go (IntKind BinOp UnOp)
open Y (YF qn qf qt qr q1 qd qm qa qo ql qL qb qi qx qp qq qc qz qe qk qK qB qw qu qj Kp wn wf wt w1 sw sq sr wm wM wo wO wl wL wk wK wz wZ wx wX wb wB wi wI wr wR wq wQ we wE wc wY wj wh cv ca cx cn ce bl)
def cO(v2:Bool):AA Bool:=some v2
def AFl(p0:BK)(p1:BK):AA Bool:=br (p0.Code==p1.Code) (bd (XD p0.Ids p1.Ids) fun x1=>jn (cO) x1) (jn cO false)
def AMW:GF:=gZ ABf Bc BY 0x38d1665c67acd99de8a99007dbf144b44db223e1c59ff [n8] (Ak AFl)
def ALG(p0:BK)(p1:Int):AA Int:=bd (AHD p0.Ids p1) fun x1=>br (decide (x1<0)) (some (-1)) (some x1)
def AMX:GF:=gZ [.v (.st 12),.v .i] CS BY 0xf8af924e6ce84c28b64547a43ef4ce5d3c63296 [xH] (Ak ALG)
def wa(v6:Int):AA Int:=some v6
def wg(p0:List BK)(L1:(Int×Int)->AA Int)(x_:(Int×Int)):AA Int:=match x_ with |(v2,v3)=>br (decide (v3<(↑p0.length:Int))) (bd (at? p0 v3) fun x4=>bd (ALG x4 v2) fun x5=>br (decide (x5<0)) (some (-1)) (L1 ((x5,w64 (v3+1))))) (jn wa v2)
def AFm(p0:List BK)(p1:Int):AA Int:=br (decide (w64 (p1-(↑p0.length:Int))<0)) (some (-1)) (Aw (wg p0) big ((w64 (p1-(↑p0.length:Int)),0)))
def AMY:GF:=gZ [.v (.l (.st 12)),.v .i] CS BY 0xf478b9873537a9538e5c9d73b4079900dcca3170fa6fbee8d4d25df7d229fd928e838ee12229e20dfe390cf49ced01ecdb15f7c4e674 [AMX] (Ak AFm)
def AFn(p0:EL)(p1:Int):AA Int:=bd (ALI p0.Bs p1) fun x1=>br (decide (x1<0)) (some (-1)) (bd (AQS p0.Lm x1) fun x2=>br (decide (x2<0)) (some (-1)) (bd (AFm p0.Hz x2) fun x3=>br (decide (x3<0)) (some (-1)) (some x3)))
def AMZ:GF:=gZ [.v (.st 13),.v .i] CS BY 0x13004f1335ab2e957e75c2773dc36ac29cb9386f4ec216fdae2d38302bb87eb7c43cfb41b99842efbee0f89cf7c6a6ddb4 [AGB,AGA,AMY] (Ak AFn)
def AFo(p0:BK):AA BK:=bd (zO p0.Ids) fun x1=>some (BK.mk p0.Code x1)
def AMa:GF:=gZ [.v (.st 12)] (.ret [(.st 12)]) eD 0x1e98e2345c6096d4319869342771aa2b671e31cc3eea87e0a [xI] (Bh AFo)
def wu(v8:List BK):AA (List BK):=some v8
def cP(p0:List BK)(L1:((List BK)×Int)->AA (List BK))(x_:((List BK)×Int)):AA (List BK):=match x_ with |(v2,v3)=>br (decide (v3<(↑p0.length:Int))) (bd (at? p0 v3) fun x4=>bd (AFo x4) fun x5=>bd (at? v2 v3) fun x6=>bd (at? v2 v3) fun x7=>L1 ((List.set v2 v3.toNat x5,w64 (v3+1)))) (jn wu v2)
def AFp(p0:List BK):AA (List BK):=gd (0<=(↑p0.length:Int)/\(↑p0.length:Int)<=(↑lim:Int)) (Aw (cP p0) big ((List.replicate (↑p0.length:Int).toNat (BK.mk 0 []),0)))
def AMb:GF:=gZ [.v (.l (.st 12))] (.ret [(.l (.st 12))]) Dm 0x7a44e9f9cecf5958dd2b669538bfcc5a621d13d0354c51b00e497d1ecf4396bbfbc816d2985ac2d3e5b176039b0442ac [AMa] (Bh AFp) [.KL 7 (.st 12) (.tmp 6)]
def kr(p0:EL):AA EL:=bd (rp p0.Bs) fun x1=>bd (AKK p0.Lm) fun x2=>bd (AFp p0.Hz) fun x3=>some (EL.mk x1 x2 x3 p0.jA)
def AMc:GF:=gZ [.v (.st 13)] (.ret [(.st 13)]) [.cell 2 (some 26)] 0x5abf1afdf20261f31d57b63b220702330abd61d39145fcdfd9e5bc5571d2536c04f4df3de72add44bb53bc7a6265173fbce57 [AF9,AF8,AMb] (Bh kr)
def Hp(v2:Bool):AA Bool:=some v2
def AFq(p0:AV)(p1:AV):AA Bool:=bd (XC p0.AR p1.AR) fun x1=>br x1 (br (p0.Cg==p1.Cg) (br (p0.Room==p1.Room) (br (p0.A1==p1.A1) (br (p0.CA==p1.CA) (br (p0.Bq==p1.Bq) (br (p0.Rest==p1.Rest) (br (p0.Cc==p1.Cc) (jn Hp (p0.Cu==p1.Cu)) (jn Hp false)) (jn Hp false)) (jn Hp false)) (jn Hp false)) (jn Hp false)) (jn Hp false)) (jn Hp false)) (jn Hp false)
def AMd:GF:=gZ ABc Bc BY 0x316ed0069ebc6a7c984a0d8ab01dc63384a862b07e64bdedf57aae0fe179ca33b7703c38237515c92622d68304423bbb57f672c800bb51fcc51b68e33327e31e39d56b238940bb4d15b9bdf97ba1463807b77ceb1ff8b3bb0ce762d09025fda368d7c1af30f [n7] (Ak AFq)
def wv(_:PUnit):AA Bool:=some true
def cQ(p0:List AJ)(p1:List AJ)(L1:Int->AA Bool)(v2:Int):AA Bool:=br (decide (v2<(↑p0.length:Int))) (bd (at? p0 v2) fun x3=>bd (at? p1 v2) fun x4=>br (!(x3.Id==x4.Id&&(x3.AT==x4.AT&&(x3.BQ==x4.BQ&&(x3.A1==x4.A1&&(x3.CT==x4.CT&&(x3.Since==x4.Since&&(x3.Ai==x4.Ai&&(x3.State==x4.State&&(x3.CB==x4.CB&&(x3.CX==x4.CX&&true))))))))))) (some false) (L1 (w64 (v2+1)))) (jn wv ())
def AFr(p0:List AJ)(p1:List AJ):AA Bool:=br ((↑p0.length:Int) != (↑p1.length:Int)) (some false) (Aw (cQ p0 p1) big 0)
def AMe:GF:=gZ AMy Bc BY 0x12a54d59126727c7b41b353e088d70ff4f08196d88e3ced94a8be64deb7ed16eb97af61f303a4c0821f5adfcc76656c127720c9596096 [] (Ak AFr)
def T5(v6:Bool):AA Bool:=some v6
def AFs(p0:Ah)(p1:Ah):AA Bool:=bd (Of p0) fun x1=>br x1 (bd (Of p1) fun x2=>br x2 (bd (ZQ p0) fun x3=>bd (ZQ p1) fun x4=>bd (tX x3 x4) fun x5=>jn (T5) x5) (jn T5 false)) (jn T5 false)
def AMf:GF:=gZ ABd Bc BY 0xfb3869143617a05a2243cb9eaa15a41ab21d46739687edd4a838b52db1a09c48919457d5d00a095d710 [Rf,dE,nk] (Ak AFs)
def Mv(v5:Bool):AA Bool:=some v5
def AFS(p0:AS)(p1:AS):AA Bool:=bd (jj p0) fun x1=>br x1 (bd (jj p1) fun x2=>br x2 (br (p0.AR.Total==p1.AR.Total&&(p0.AR.DJ==p1.AR.DJ&&(p0.AR.Dd==p1.AR.Dd&&(p0.AR.EK==p1.AR.EK&&(p0.AR.ET==p1.AR.ET&&true))))) (bd (tF p0.Row p1.Row) fun x3=>br x3 (bd (AFs p0.BO p1.BO) fun x4=>jn (Mv) x4) (jn Mv false)) (jn Mv false)) (jn Mv false)) (jn Mv false)
def oN:GF:=gZ ABe Bc BY 0x662b42fc6606424e33149db36f32778dc11454b7cd9476193595158c8a6a2774a5b4055cdb4c81c5d81a68d10a0cb9e0c28c52ef9dd2 [na,ng,AMf] (Ak AFS)
def AVc:=fun (a:GF) b c=>(⟨[a],[.v (.l (.st b)),.v (.l (.st b)),.f a.x []],[0],.ret [.b],[.tmp 6],dY c [] [.Dg 29 (.tmp 26) [.v,.v] [.tmp 27,.tmp 28]]⟩:YF)
def AUU:YF:=AVc oN 7 0x158d865787c0afc3637681603433635b1c9542a8df5967cd00c7765a5a8eb1d8343573c9ad3a3ada2690b8e5b4899a1143d6e4efdbc861fbf619dec8e8c75bcd76759b112003218094a68f4f1
def wF(_:PUnit):AA Bool:=some true
def bw(p0:List AS)(p1:List AS)(L1:Int->AA Bool)(v2:Int):AA Bool:=br (decide (v2<(↑p0.length:Int))) (bd (at? p0 v2) fun x3=>bd (at? p1 v2) fun x4=>bd (AFS x3 x4) fun x5=>br (!x5) (some false) (L1 (w64 (v2+1)))) (jn wF ())
def AFT(p0:List AS)(p1:List AS):AA Bool:=br ((↑p0.length:Int) != (↑p1.length:Int)) (some false) (Aw (bw p0 p1) big 0)
def AMP:GF:=AUU.Dx (Ak AFT)
def AUV:YF:=⟨[oN],[.v (.st 8),.v (.st 8)],[],.ret [.b],[.tmp 4],dY 0xd791c00e1fdb31ce965aa653d2f21ff80b7de24e75d85406ed0998fb3a1441860620692b62a49e559d4e2e894e71e75d5e3f41d19da604fc36a53e6b618be862c20bc975a9d6a396b44eb28337c53997a4dbaba0f110d1a197604aa87ab6fdcd41d7 [V6,AMd,AMe,n7] [.call 58 AMP [0] rfl [.tmp 55,.tmp 57,.fn 0]]⟩
def Ho(v8:Bool):AA Bool:=some v8
def AFU(p0:AE)(p1:AE):AA Bool:=bd (Og p0) fun x1=>br x1 (bd (Og p1) fun x2=>br x2 (bd (AFq p0.AO p1.AO) fun x3=>br x3 (br (p0.Now==p1.Now) (br (p0.Ai==p1.Ai) (bd (AFr p0.AG p1.AG) fun x4=>br x4 (bd (XC p0.A0 p1.A0) fun x5=>br x5 (bd (XC p0.Ay p1.Ay) fun x6=>br x6 (bd (AFT p0.AH p1.AH) fun x7=>jn (Ho) x7) (jn Ho false)) (jn Ho false)) (jn Ho false)) (jn Ho false)) (jn Ho false)) (jn Ho false)) (jn Ho false)) (jn Ho false)
def AMQ:GF:=AUV.Dx (Ak AFU)
def wG(_:PUnit):AA Bool:=some true
def bz(p0:List BK)(p1:List BK)(L1:Int->AA Bool)(v2:Int):AA Bool:=br (decide (v2<(↑p0.length:Int))) (bd (at? p0 v2) fun x3=>bd (at? p1 v2) fun x4=>bd (AFl x3 x4) fun x5=>br (!x5) (some false) (L1 (w64 (v2+1)))) (jn wG ())
def AFV(p0:List BK)(p1:List BK):AA Bool:=br ((↑p0.length:Int) != (↑p1.length:Int)) (some false) (Aw (bz p0 p1) big 0)
def AMR:GF:=gZ AMz Bc BY 0x29c4e3d7e10084673daf5d62b8c85e35fd3aebf296049be8d8e09cc6f1e987255d93dccf1d3e45b8297248611 [AMW] (Ak AFV)
def b9(v7:Bool):AA Bool:=some v7
def b0(p0:EL)(v2:Bool):AA Bool:=br v2 (some false) (bd (AEX p0.Bs.BD.AO) fun x3=>bd (vg x3.fst p0.Lm) fun x4=>bd (AEw x4.fst p0.Bs.BD) fun x5=>br x5 (bd (AFV x4.snd p0.Hz) fun x6=>jn (b9) x6) (jn b9 false))
def AFW(p0:EL):AA Bool:=bd (r6 p0.Bs) fun x1=>br (!x1) (jn (b0 p0) true) (jn (b0 p0) (p0.Bs.Seq != w64 ((↑p0.Lm.length:Int)+(↑p0.Bs.Laid.length:Int))))
def AMS:GF:=gZ [.v (.st 13)] Bc Dm 0x67dbfd2c8636ddc7b364d6e810c1175d2abafe419c621e80cdddbc6cd8fef53d854d71fd19b9f08f0fc12e725ac8ad66049218e4d9afc4182d39b2a7d8a26c30ca0ab88799549fb694643a2709b2fc79afaae7cc32254099fe1e429c0e0c14a655e3e5d1547873d9ea916474e680948b47364be0731dcc [nK,ALz,oF,AMJ,AMR] (Bh AFW)
def cA(v2:Bool):AA Bool:=some v2
def AFX(p0:BK)(p1:BK):AA Bool:=br (p0.Code==p1.Code) (bd (XC p0.Ids p1.Ids) fun x1=>jn (cA) x1) (jn cA false)
def oO:GF:=gZ ABf Bc BY 0x38d1665c67acd99de8a99007dbf144b44db223e1c59ff [n7] (Ak AFX)
def AUW:YF:=AVc oO 12 0x94787f4b363054570e1e757f3a82c0f9c3b4adbee8487b602ef66772616aad32a47816c67a1b3bd053bc63b8c4eef30bfceb582c926b37b4b1d545792ed0e107164f5451bd6d2f81d1cf98c025
def wH(_:PUnit):AA Bool:=some true
def cB(p0:List BK)(p1:List BK)(L1:Int->AA Bool)(v2:Int):AA Bool:=br (decide (v2<(↑p0.length:Int))) (bd (at? p0 v2) fun x3=>bd (at? p1 v2) fun x4=>bd (AFX x3 x4) fun x5=>br (!x5) (some false) (L1 (w64 (v2+1)))) (jn wH ())
def AFY(p0:List BK)(p1:List BK):AA Bool:=br ((↑p0.length:Int) != (↑p1.length:Int)) (some false) (Aw (cB p0 p1) big 0)
def AMT:GF:=AUW.Dx (Ak AFY)
end Lv
set_option maxRecDepth 100000
namespace Lv
open Go (IntKind BinOp UnOp)
open Y (YF qn qf qt qr q1 qd qm qa qo ql qL qb qi qx qp qq qc qz qe qk qK qB qw qu qj Kp wn wf wt w1 sw sq sr wm wM wo wO wl wL wk wK wz wZ wx wX wb wB wi wI wr wR wq wQ we wE wc wY wj wh cv ca cx cn ce bl)
def AUX:YF:=⟨[oO],[.v (.st 13)],[],.ret [.b],[.tmp 2],dY 0x829e0d70c1ce4adc83e5906b3041ebd821b4c08202babacfdfa6aab49e7a01763beb51021940ad3bd3e76f3d724c1c65ff253cf5ab1abd9d7caab08088b453b8deb39acdac748918ac738819d80dd54e95a5b159fa3d0f29b4817803a457264dbd2e26c810df7fc2ab62c859ccb1dc88173bd193a0dc6f9965a16 [nr,AL3,oQ,AMQ] [.call 49 AMT [0] rfl [.tmp 46,.tmp 48,.fn 0]]⟩
def cD(v7:Bool):AA Bool:=some v7
def cC(p0:EL)(v2:Bool):AA Bool:=br v2 (some false) (bd (AEb p0.Bs.BD.AO) fun x3=>bd (wT x3.fst p0.Lm) fun x4=>bd (AFU x4.fst p0.Bs.BD) fun x5=>br x5 (bd (AFY x4.snd p0.Hz) fun x6=>jn (cD) x6) (jn cD false))
def AFZ(p0:EL):AA Bool:=bd (tj p0.Bs) fun x1=>br (!x1) (jn (cC p0) true) (jn (cC p0) (p0.Bs.Seq != w64 ((↑p0.Lm.length:Int)+(↑p0.Bs.Laid.length:Int))))
def AMU:GF:=AUX.Dx (Bh AFZ)
def F4(p0:EL):AA Bool:=bd (AFn p0 1048576) fun x1=>br (decide (x1<0)) (some true) (bd (kr p0) fun x2=>bd (AFW x2) fun x3=>bd (kr p0) fun x4=>bd (AFZ x4) fun x5=>br (!x5==x3) (some false) (bd (kr p0) fun x6=>bd (AEN x4 x6) fun x7=>br (!x7) (some false) (some true)))
def Eg:GF:=gZ [.v (.st 13)] Bc Dm 0xc6c17eaa429eb9bf0552f2e5c18fc2e8ebd6e566112c9a45ca5d32b0787066a70cebae1832ab019684df1c8043639dcb6a0a02c88478a4ead6e8e13f0207d263e1a3794e1075bd48b2db9711f804b37a231786ded [AMZ,AMc,AMS,AMU,ALo] (Bh F4)
end Lv
