/-
  Printed: functions of the program as texts of the typed machine, as plain functions, and that the one is the other.
-/
import Derived.Test.YtpbbmlmilagnkaaGreatKA
import Derived.KernelRfl
noncomputable section
set_option linter.unusedVariables false
set_option linter.unusedSimpArgs false
set_option linter.unusedSectionVars false
set_option maxRecDepth 100000
namespace Lv
open Go (IntKind BinOp UnOp)
open Y (YF qn qf qt qr q1 qd qm qa qo ql qL qb qi qx qp qq qc qz qe qk qK qB qw qu qj Kp wn wf wt w1 sw sq sr wm wM wo wO wl wL wk wK wz wZ wx wX wb wB wi wI wr wR wq wQ we wE wc wY wj wh cv ca cx cn ce bl)
def I9(p0:AV):AA (List Int):=bd (TI p0) fun x1=>br (!x1) (some []) (gd ([p0.Cg,p0.Room,p0.A1,p0.CA,p0.Bq,p0.Rest,p0.Cc,p0.Cu].length+p0.AR.length<=lim) (some ([p0.Cg,p0.Room,p0.A1,p0.CA,p0.Bq,p0.Rest,p0.Cc,p0.Cu]++p0.AR)))
def Nf(v17:List Int):AA (List Int):=some v17
def Ni(p0:AE)(L13:((List Int)×Int)->AA (List Int))(x_:((List Int)×Int)):AA (List Int):=match x_ with |(v14,v15)=>br (decide (v15<(↑p0.Ay.length:Int))) (bd (at? p0.Ay v15) fun x16=>gd (List.length v14+[w64 (x16+1)].length<=lim) (L13 ((v14++[w64 (x16+1)],w64 (v15+1))))) (jn Nf v14)
def Nd(p0:AE)(v12:List Int):AA (List Int):=gd (v12.length+[(↑p0.A0.length:Int)].length<=lim) (gd ((v12++[(↑p0.A0.length:Int)]).length+p0.A0.length<=lim) (Aw (Ni p0) big ((v12++[(↑p0.A0.length:Int)]++p0.A0,0))))
def Nh(p0:AE)(L8:((List Int)×Int)->AA (List Int))(x_:((List Int)×Int)):AA (List Int):=match x_ with |(v9,v10)=>br (decide (v10<(↑p0.AH.length:Int))) (bd (at? p0.AH v10) fun x11=>gd (List.length v9+[x11.AR.DJ].length<=lim) (L8 ((v9++[x11.AR.DJ],w64 (v10+1))))) (jn (Nd p0) v9)
def Nc(p0:AE)(v7:List Int):AA (List Int):=Aw (Nh p0) big (v7,0)
def Ng(p0:AE)(L3:((List Int)×Int)->AA (List Int))(x_:((List Int)×Int)):AA (List Int):=match x_ with |(v4,v5)=>br (decide (v5<(↑p0.AG.length:Int))) (bd (at? p0.AG v5) fun x6=>gd (List.length v4+[x6.Id,x6.AT,w64 (x6.BQ+1),x6.A1,x6.CT,x6.Since,x6.Ai,x6.State,x6.CB,x6.CX].length<=lim) (L3 ((v4++[x6.Id,x6.AT,w64 (x6.BQ+1),x6.A1,x6.CT,x6.Since,x6.Ai,x6.State,x6.CB,x6.CX],w64 (v5+1))))) (jn (Nc p0) v4)
def QZ(p0:AE):AA (List Int):=bd (Og p0) fun x1=>br (!x1) (none) (bd (I9 p0.AO) fun x2=>gd ([(↑(List.length x2):Int)].length+List.length x2<=lim) (gd (([(↑(List.length x2):Int)]++x2).length+[p0.Now,p0.Ai,(↑p0.AG.length:Int)].length<=lim) (Aw (Ng p0) big (([(↑(List.length x2):Int)]++x2++[p0.Now,p0.Ai,(↑p0.AG.length:Int)],0)))))
def Ma(x_:(Int×(List UInt8))):AA (List UInt8):=match x_ with |(v5,v6)=>gd (v6.length+[toB v5].length<=lim) (some (v6++[toB v5]))
def Mb(L2:(Int×(List UInt8))->AA (List UInt8))(x_:(Int×(List UInt8))):AA (List UInt8):=match x_ with |(v3,v4)=>br (decide (v3>=128)) (gd (v4.length+[toB (w64 (Int.tmod v3 128+128))].length<=lim) (L2 ((w64 (Int.tdiv v3 128),v4++[toB (w64 (Int.tmod v3 128+128))])))) (jn Ma (v3,v4))
def Hm(p0:Int):AA (List UInt8):=bd (Ck p0 0 2147483647) fun x1=>br (!x1) (some []) (Aw (Mb) big (p0,[]))
def Sq(v6:List UInt8):AA (List UInt8):=some v6
def Sr(p0:List Int)(L1:((List UInt8)×Int)->AA (List UInt8))(x_:((List UInt8)×Int)):AA (List UInt8):=match x_ with |(v2,v3)=>br (decide (v3<(↑p0.length:Int))) (bd (at? p0 v3) fun x4=>bd (Hm x4) fun x5=>gd (List.length v2+List.length x5<=lim) (L1 ((v2++x5,w64 (v3+1))))) (jn Sq v2)
def Yd(p0:List Int):AA (List UInt8):=Aw (Sr p0) big ([],0)
def Qu(L5:(Int×Int)->AA Int)(v7:Int)(v8:Int):AA Int:=L5 ((v8,w64 (v7+1)))
def iI(L1:(Int×Int)->AA Int)(v3:Int)(v9:Int):AA Int:=L1 ((v9,w64 (v3+1)))
def iL(L1:(Int×Int)->AA Int)(v3:Int)(L5:(Int×Int)->AA Int)(x_:(Int×Int)):AA Int:=match x_ with |(v6,v7)=>br (decide (v7<8)) (br (AUf v6 1==1) (jn (Qu L5 v7) (AJq (DR v6 1) 3988292384)) (jn (Qu L5 v7) (DR v6 1))) (jn (iI L1 v3) v6)
def iJ(v10:Int):AA Int:=some (AJq v10 4294967295)
def iK(p0:List UInt8)(L1:(Int×Int)->AA Int)(x_:(Int×Int)):AA Int:=match x_ with |(v2,v3)=>br (decide (v3<(↑p0.length:Int))) (bd (at? p0 v3) fun x4=>Aw (iL L1 v3) big ((AJq v2 (w64 (↑(UInt8.toNat x4):Int)),0))) (jn iJ v2)
def zL(p0:List UInt8):AA Int:=Aw (iK p0) big (4294967295,0)
def RS(p0:AE)(p1:Int):AA (List UInt8):=bd (QZ p0) fun x1=>gd (List.isEmpty x1=false) (bd (Ck p1 0 1000000) fun x2=>br (!x2) (some []) (bd (Hm p1) fun x3=>bd (Yd x1) fun x4=>gd (List.length x3+List.length x4<=AC4) (bd (zL (x3++x4)) fun x5=>gd ([toB (DR x5 24),toB (DR x5 16),toB (DR x5 8),toB x5].length+(x3++x4).length<=AC4) (some ([toB (DR x5 24),toB (DR x5 16),toB (DR x5 8),toB x5]++(x3++x4))))))
def Nm(v17:List Int):AA PUnit:=none
def Np(p0:AE)(L13:((List Int)×Int)->AA PUnit)(x_:((List Int)×Int)):AA PUnit:=match x_ with |(v14,v15)=>br (decide (v15<(↑p0.Ay.length:Int))) (bd (at? p0.Ay v15) fun x16=>gd (List.length v14+[w64 (x16+1)].length<=lim) (L13 ((v14++[w64 (x16+1)],w64 (v15+1))))) (jn Nm v14)
def Nl(p0:AE)(v12:List Int):AA PUnit:=gd (v12.length+[(↑p0.A0.length:Int)].length<=lim) (gd ((v12++[(↑p0.A0.length:Int)]).length+p0.A0.length<=lim) (Aw (Np p0) big ((v12++[(↑p0.A0.length:Int)]++p0.A0,0))))
def No(p0:AE)(L8:((List Int)×Int)->AA PUnit)(x_:((List Int)×Int)):AA PUnit:=match x_ with |(v9,v10)=>br (decide (v10<(↑p0.AH.length:Int))) (bd (at? p0.AH v10) fun x11=>gd (List.length v9+[x11.AR.DJ].length<=lim) (L8 ((v9++[x11.AR.DJ],w64 (v10+1))))) (jn (Nl p0) v9)
def Nj(p0:AE)(v7:List Int):AA PUnit:=Aw (No p0) big (v7,0)
def Nn(p0:AE)(L3:((List Int)×Int)->AA PUnit)(x_:((List Int)×Int)):AA PUnit:=match x_ with |(v4,v5)=>br (decide (v5<(↑p0.AG.length:Int))) (bd (at? p0.AG v5) fun x6=>gd (List.length v4+[x6.Id,x6.AT,w64 (x6.BQ+1),x6.A1,x6.CT,x6.Since,x6.Ai,x6.State,x6.CB,x6.CX].length<=lim) (L3 ((v4++[x6.Id,x6.AT,w64 (x6.BQ+1),x6.A1,x6.CT,x6.Since,x6.Ai,x6.State,x6.CB,x6.CX],w64 (v5+1))))) (jn (Nj p0) v4)
def Qa(p0:AE):AA PUnit:=bd (Og p0) fun x1=>br (!x1) (some ()) (bd (I9 p0.AO) fun x2=>gd ([(↑(List.length x2):Int)].length+List.length x2<=lim) (gd (([(↑(List.length x2):Int)]++x2).length+[p0.Now,p0.Ai,(↑p0.AG.length:Int)].length<=lim) (Aw (Nn p0) big (([(↑(List.length x2):Int)]++x2++[p0.Now,p0.Ai,(↑p0.AG.length:Int)],0)))))
def RT(p0:AE)(p1:Int):AA (List UInt8):=bd (Qa p0) fun x1=>some []
def Xj(p0:AE)(p1:Int):AA (List UInt8):=orE (RS p0 p1) (RT p0 p1)
def Qd(v17:List Int):AA (List Int):=some v17
def Qg(p0:AE)(L13:((List Int)×Int)->AA (List Int))(x_:((List Int)×Int)):AA (List Int):=match x_ with |(v14,v15)=>br (decide (v15<(↑p0.Ay.length:Int))) (bd (at? p0.Ay v15) fun x16=>gd (List.length v14+[w64 (x16+1)].length<=lim) (L13 ((v14++[w64 (x16+1)],w64 (v15+1))))) (jn Qd v14)
def Qc(p0:AE)(v12:List Int):AA (List Int):=gd (v12.length+[(↑p0.A0.length:Int)].length<=lim) (gd ((v12++[(↑p0.A0.length:Int)]).length+p0.A0.length<=lim) (Aw (Qg p0) big ((v12++[(↑p0.A0.length:Int)]++p0.A0,0))))
def Qf(p0:AE)(L8:((List Int)×Int)->AA (List Int))(x_:((List Int)×Int)):AA (List Int):=match x_ with |(v9,v10)=>br (decide (v10<(↑p0.AH.length:Int))) (bd (at? p0.AH v10) fun x11=>gd (List.length v9+[x11.AR.DJ].length<=lim) (L8 ((v9++[x11.AR.DJ],w64 (v10+1))))) (jn (Qc p0) v9)
def Qb(p0:AE)(v7:List Int):AA (List Int):=Aw (Qf p0) big (v7,0)
def Qe(p0:AE)(L3:((List Int)×Int)->AA (List Int))(x_:((List Int)×Int)):AA (List Int):=match x_ with |(v4,v5)=>br (decide (v5<(↑p0.AG.length:Int))) (bd (at? p0.AG v5) fun x6=>gd (List.length v4+[x6.Id,x6.AT,w64 (x6.BQ+1),x6.A1,x6.CT,x6.Since,x6.Ai,x6.State,x6.CB,x6.CX].length<=lim) (L3 ((v4++[x6.Id,x6.AT,w64 (x6.BQ+1),x6.A1,x6.CT,x6.Since,x6.Ai,x6.State,x6.CB,x6.CX],w64 (v5+1))))) (jn (Qb p0) v4)
def VQ(p0:AE):AA (List Int):=bd (Og p0) fun x1=>br (!x1) (some []) (bd (I9 p0.AO) fun x2=>gd ([(↑(List.length x2):Int)].length+List.length x2<=lim) (gd (([(↑(List.length x2):Int)]++x2).length+[p0.Now,p0.Ai,(↑p0.AG.length:Int)].length<=lim) (Aw (Qe p0) big (([(↑(List.length x2):Int)]++x2++[p0.Now,p0.Ai,(↑p0.AG.length:Int)],0)))))
def tL(L1:((List Int)×Int×Int)->AA (Int×(List Int)))(x_:((List Int)×Int×Int)):AA (Int×(List Int)):=match x_ with |(v7,v8,v9)=>L1 ((v7,w64 (v8+1),w64 (v9+1)))
def Zl(x_:((List Int)×Int)):AA (Int×(List Int)):=match x_ with |(v10,v11)=>some (v11,v10)
def TZ(L1:((List Int)×Int×Int)->AA (Int×(List Int)))(x_:((List Int)×Int×Int)):AA (Int×(List Int)):=match x_ with |(v2,v3,v4)=>br (decide (v4<(↑(List.length v2):Int))) (bd (at? v2 v4) fun x5=>bd (at? v2 v4) fun x6=>jn (tL L1) (List.set v2 v4.toNat v3,v3,v4)) (jn Zl (v2,v3))
def Zk(p0:List Int)(p1:Int):AA (Int×(List Int)):=Aw (TZ) big (p0,p1,0)
def nj:GF:=gZ [.m (.l .i),.v .i] CS BY 0xbb3f231e3e88e608ee9c9df750ceb4c5f761dde232df12e76a40cada5317ed779f22d072a7da2dc9f [] (Ak Zk)
def AKs(p0:AV)(p1:Int):AA (Int×AV):=bd (Zk p0.AR p1) fun x1=>some (x1.fst,AV.mk x1.snd p0.Cg p0.Room p0.A1 p0.CA p0.Bq p0.Rest p0.Cc p0.Cu)
def ALi:GF:=gZ [.m (.st 1),.v .i] CS BY 0x42dc319951dbb234a6072303dc4f [nj] (Ak AKs)
def jz(L1:((List AJ)×Int×Int)->AA (Int×(List AJ)))(x_:((List AJ)×Int×Int)):AA (Int×(List AJ)):=match x_ with |(v52,v53,v54)=>L1 ((v52,w64 (v53+1),w64 (v54+1)))
def jy(L1:((List AJ)×Int×Int)->AA (Int×(List AJ)))(x_:((List AJ)×Int×Int)):AA (Int×(List AJ)):=match x_ with |(v47,v48,v49)=>bd (at? v47 v49) fun x50=>bd (at? v47 v49) fun x51=>jn (jz L1) ((List.set v47 v49.toNat (AJ.mk x51.Id x51.AT x51.BQ x51.A1 x51.CT x51.Since x51.Ai x51.State x51.CB (w64 (v48+1))),w64 (v48+1),v49))
def tV(L1:((List AJ)×Int×Int)->AA (Int×(List AJ)))(x_:((List AJ)×Int×Int)):AA (Int×(List AJ)):=match x_ with |(v42,v43,v44)=>bd (at? v42 v44) fun x45=>bd (at? v42 v44) fun x46=>jn (jy L1) ((List.set v42 v44.toNat (AJ.mk x46.Id x46.AT x46.BQ x46.A1 x46.CT x46.Since x46.Ai x46.State (w64 (v43+1)) x46.CX),w64 (v43+1),v44))
def tU(L1:((List AJ)×Int×Int)->AA (Int×(List AJ)))(x_:((List AJ)×Int×Int)):AA (Int×(List AJ)):=match x_ with |(v37,v38,v39)=>bd (at? v37 v39) fun x40=>bd (at? v37 v39) fun x41=>jn (tV L1) ((List.set v37 v39.toNat (AJ.mk x41.Id x41.AT x41.BQ x41.A1 x41.CT x41.Since x41.Ai (w64 (v38+1)) x41.CB x41.CX),w64 (v38+1),v39))
def tT(L1:((List AJ)×Int×Int)->AA (Int×(List AJ)))(x_:((List AJ)×Int×Int)):AA (Int×(List AJ)):=match x_ with |(v32,v33,v34)=>bd (at? v32 v34) fun x35=>bd (at? v32 v34) fun x36=>jn (tU L1) ((List.set v32 v34.toNat (AJ.mk x36.Id x36.AT x36.BQ x36.A1 x36.CT x36.Since (w64 (v33+1)) x36.State x36.CB x36.CX),w64 (v33+1),v34))
def tQ(L1:((List AJ)×Int×Int)->AA (Int×(List AJ)))(x_:((List AJ)×Int×Int)):AA (Int×(List AJ)):=match x_ with |(v27,v28,v29)=>bd (at? v27 v29) fun x30=>bd (at? v27 v29) fun x31=>jn (tT L1) ((List.set v27 v29.toNat (AJ.mk x31.Id x31.AT x31.BQ x31.A1 x31.CT (w64 (v28+1)) x31.Ai x31.State x31.CB x31.CX),w64 (v28+1),v29))
def tP(L1:((List AJ)×Int×Int)->AA (Int×(List AJ)))(x_:((List AJ)×Int×Int)):AA (Int×(List AJ)):=match x_ with |(v22,v23,v24)=>bd (at? v22 v24) fun x25=>bd (at? v22 v24) fun x26=>jn (tQ L1) ((List.set v22 v24.toNat (AJ.mk x26.Id x26.AT x26.BQ x26.A1 (w64 (v23+1)) x26.Since x26.Ai x26.State x26.CB x26.CX),w64 (v23+1),v24))
def tO(L1:((List AJ)×Int×Int)->AA (Int×(List AJ)))(x_:((List AJ)×Int×Int)):AA (Int×(List AJ)):=match x_ with |(v17,v18,v19)=>bd (at? v17 v19) fun x20=>bd (at? v17 v19) fun x21=>jn (tP L1) ((List.set v17 v19.toNat (AJ.mk x21.Id x21.AT x21.BQ (w64 (v18+1)) x21.CT x21.Since x21.Ai x21.State x21.CB x21.CX),w64 (v18+1),v19))
def tN(L1:((List AJ)×Int×Int)->AA (Int×(List AJ)))(x_:((List AJ)×Int×Int)):AA (Int×(List AJ)):=match x_ with |(v12,v13,v14)=>bd (at? v12 v14) fun x15=>bd (at? v12 v14) fun x16=>jn (tO L1) ((List.set v12 v14.toNat (AJ.mk x16.Id x16.AT (w64 (v13+1)) x16.A1 x16.CT x16.Since x16.Ai x16.State x16.CB x16.CX),w64 (v13+1),v14))
def tM(L1:((List AJ)×Int×Int)->AA (Int×(List AJ)))(x_:((List AJ)×Int×Int)):AA (Int×(List AJ)):=match x_ with |(v7,v8,v9)=>bd (at? v7 v9) fun x10=>bd (at? v7 v9) fun x11=>jn (tN L1) ((List.set v7 v9.toNat (AJ.mk x11.Id (w64 (v8+1)) x11.BQ x11.A1 x11.CT x11.Since x11.Ai x11.State x11.CB x11.CX),w64 (v8+1),v9))
def VU(x_:((List AJ)×Int)):AA (Int×(List AJ)):=match x_ with |(v55,v56)=>some (v56,v55)
def Ta(L1:((List AJ)×Int×Int)->AA (Int×(List AJ)))(x_:((List AJ)×Int×Int)):AA (Int×(List AJ)):=match x_ with |(v2,v3,v4)=>br (decide (v4<(↑(List.length v2):Int))) (bd (at? v2 v4) fun x5=>bd (at? v2 v4) fun x6=>jn (tM L1) ((List.set v2 v4.toNat (AJ.mk v3 x6.AT x6.BQ x6.A1 x6.CT x6.Since x6.Ai x6.State x6.CB x6.CX),v3,v4))) (jn VU (v2,v3))
def AD5(p0:List AJ)(p1:Int):AA (Int×(List AJ)):=Aw (Ta) big (p0,p1,0)
def ALj:GF:=gZ [.m (.l (.st 2)),.v .i] CS BY 0x11d42ec545d1503bd4343104869057512763a58e9a09c4cf5f57b004dad0f4980de20dceca311cb2f433651979835596b4f85a8d1397160a4580b1f6f69e1fa0a2a595d49345f4d2ef75fd9a59763045975a86879d575ad6e18cc1ad9758a358b73e4952e29277057b72f0fe00eb112fb66bf26539855cd55ce9c8e9b1e52dce420046056bd04c933ffa2232b39c4aa60914781c92383dd84ed0546a933c51e6876ebb46bd5832b98dd772d843ee29274aeec2e9e5cc41ed80d88f5644416e3322d142ebe74ebaa38222d22c [] (Ak AD5)
def uN(L1:((List AQ)×Int×Int)->AA (Int×(List AQ)))(x_:((List AQ)×Int×Int)):AA (Int×(List AQ)):=match x_ with |(v22,v23,v24)=>L1 ((v22,w64 (v23+1),w64 (v24+1)))
def uM(L1:((List AQ)×Int×Int)->AA (Int×(List AQ)))(x_:((List AQ)×Int×Int)):AA (Int×(List AQ)):=match x_ with |(v17,v18,v19)=>bd (at? v17 v19) fun x20=>bd (at? v17 v19) fun x21=>jn (uN L1) ((List.set v17 v19.toNat (AQ.mk x21.Level x21.Ai x21.Id (w64 (v18+1))),w64 (v18+1),v19))
def uL(L1:((List AQ)×Int×Int)->AA (Int×(List AQ)))(x_:((List AQ)×Int×Int)):AA (Int×(List AQ)):=match x_ with |(v12,v13,v14)=>bd (at? v12 v14) fun x15=>bd (at? v12 v14) fun x16=>jn (uM L1) ((List.set v12 v14.toNat (AQ.mk x16.Level x16.Ai (w64 (v13+1)) x16.A1),w64 (v13+1),v14))
def uK(L1:((List AQ)×Int×Int)->AA (Int×(List AQ)))(x_:((List AQ)×Int×Int)):AA (Int×(List AQ)):=match x_ with |(v7,v8,v9)=>bd (at? v7 v9) fun x10=>bd (at? v7 v9) fun x11=>jn (uL L1) ((List.set v7 v9.toNat (AQ.mk x11.Level (w64 (v8+1)) x11.Id x11.A1),w64 (v8+1),v9))
def aD(x_:((List AQ)×Int)):AA (Int×(List AQ)):=match x_ with |(v25,v26)=>some (v26,v25)
def Tf(L1:((List AQ)×Int×Int)->AA (Int×(List AQ)))(x_:((List AQ)×Int×Int)):AA (Int×(List AQ)):=match x_ with |(v2,v3,v4)=>br (decide (v4<(↑(List.length v2):Int))) (bd (at? v2 v4) fun x5=>bd (at? v2 v4) fun x6=>jn (uK L1) ((List.set v2 v4.toNat (AQ.mk v3 x6.Ai x6.Id x6.A1),v3,v4))) (jn aD (v2,v3))
def AEQ(p0:List AQ)(p1:Int):AA (Int×(List AQ)):=Aw (Tf) big (p0,p1,0)
def ALr:GF:=gZ [.m (.l (.st 4)),.v .i] CS BY 0x3fb186edb572f9a9d9f0098a31dcb082abc2b4f54040e9c7dd3ef5e7f92e93cfa353714dbfec04b1a01a8fe52b6ca0a3c3b7834b695b71cf0c38060dffcb91fd468b19dc8db7a741af6427d3ae24e554e575d41e5653b4608af567667e8c7c [] (Ak AEQ)
def uP(L1:((List AY)×Int×Int)->AA (Int×(List AY)))(x_:((List AY)×Int×Int)):AA (Int×(List AY)):=match x_ with |(v12,v13,v14)=>L1 ((v12,w64 (v13+1),w64 (v14+1)))
def uO(L1:((List AY)×Int×Int)->AA (Int×(List AY)))(x_:((List AY)×Int×Int)):AA (Int×(List AY)):=match x_ with |(v7,v8,v9)=>bd (at? v7 v9) fun x10=>bd (at? v7 v9) fun x11=>jn (uP L1) ((List.set v7 v9.toNat (AY.mk x11.At (w64 (v8+1))),w64 (v8+1),v9))
def aE(x_:((List AY)×Int)):AA (Int×(List AY)):=match x_ with |(v15,v16)=>some (v16,v15)
def Tg(L1:((List AY)×Int×Int)->AA (Int×(List AY)))(x_:((List AY)×Int×Int)):AA (Int×(List AY)):=match x_ with |(v2,v3,v4)=>br (decide (v4<(↑(List.length v2):Int))) (bd (at? v2 v4) fun x5=>bd (at? v2 v4) fun x6=>jn (uO L1) ((List.set v2 v4.toNat (AY.mk v3 x6.Id),v3,v4))) (jn aE (v2,v3))
def AER(p0:List AY)(p1:Int):AA (Int×(List AY)):=Aw (Tg) big (p0,p1,0)
def ALs:GF:=gZ [.m (.l (.st 5)),.v .i] CS BY 0x17607a4d4526fce3213e7d88c8baf20eb080653dad0034b3808cb5cf0783f893ee243a53c8f09b2653f4e8026fdd76c59138a329dc7260a8d01df [] (Ak AER)
def uQ(x_:((List (List AY))×Int)):AA (Int×(List (List AY))):=match x_ with |(v9,v10)=>some (v10,v9)
def Th(L1:((List (List AY))×Int×Int)->AA (Int×(List (List AY))))(x_:((List (List AY))×Int×Int)):AA (Int×(List (List AY))):=match x_ with |(v2,v3,v4)=>br (decide (v4<(↑(List.length v2):Int))) (bd (at? v2 v4) fun x5=>bd (at? v2 v4) fun x6=>bd (AER x6 v3) fun x7=>gd (v4.toNat=v4.toNat) (bd (v2[v4.toNat]?) fun x8=>L1 ((List.set v2 v4.toNat x7.snd,x7.fst,w64 (v4+1))))) (jn uQ (v2,v3))
def AES(p0:List (List AY))(p1:Int):AA (Int×(List (List AY))):=Aw (Th) big (p0,p1,0)
def ALt:GF:=gZ [.m (.l (.l (.st 5))),.v .i] CS BY 0x4fa3a127cd04370979fc77a308fdc0fed14a6bf69970021f4f476485fade5f3167fbc780bae5 [ALs] (Ak AES)
def uX(L1:((List AS)×Int×Int)->AA (Int×(List AS)))(x_:((List AS)×Int×Int)):AA (Int×(List AS)):=match x_ with |(v34,v35,v36)=>bd (at? v34 v36) fun x37=>bd (at? v34 v36) fun x38=>bd (AES x38.BO.Aa v35) fun x39=>gd (v36.toNat=v36.toNat) (bd (v34[v36.toNat]?) fun x40=>L1 ((List.set v34 v36.toNat (AS.mk x40.AR x40.Row (Ah.mk x39.snd)),x39.fst,w64 (v36+1))))
def uW(L1:((List AS)×Int×Int)->AA (Int×(List AS)))(x_:((List AS)×Int×Int)):AA (Int×(List AS)):=match x_ with |(v27,v28,v29)=>bd (at? v27 v29) fun x30=>bd (at? v27 v29) fun x31=>bd (AEQ x31.Row (w64 (v28+1))) fun x32=>gd (v29.toNat=v29.toNat) (bd (v27[v29.toNat]?) fun x33=>jn (uX L1) ((List.set v27 v29.toNat (AS.mk x33.AR x32.snd x33.BO),x32.fst,v29)))
def uV(L1:((List AS)×Int×Int)->AA (Int×(List AS)))(x_:((List AS)×Int×Int)):AA (Int×(List AS)):=match x_ with |(v22,v23,v24)=>bd (at? v22 v24) fun x25=>bd (at? v22 v24) fun x26=>jn (uW L1) ((List.set v22 v24.toNat (AS.mk (Av.mk x26.AR.Total x26.AR.DJ x26.AR.Dd x26.AR.EK (w64 (v23+1))) x26.Row x26.BO),w64 (v23+1),v24))
def uU(L1:((List AS)×Int×Int)->AA (Int×(List AS)))(x_:((List AS)×Int×Int)):AA (Int×(List AS)):=match x_ with |(v17,v18,v19)=>bd (at? v17 v19) fun x20=>bd (at? v17 v19) fun x21=>jn (uV L1) ((List.set v17 v19.toNat (AS.mk (Av.mk x21.AR.Total x21.AR.DJ x21.AR.Dd (w64 (v18+1)) x21.AR.ET) x21.Row x21.BO),w64 (v18+1),v19))
def uS(L1:((List AS)×Int×Int)->AA (Int×(List AS)))(x_:((List AS)×Int×Int)):AA (Int×(List AS)):=match x_ with |(v12,v13,v14)=>bd (at? v12 v14) fun x15=>bd (at? v12 v14) fun x16=>jn (uU L1) ((List.set v12 v14.toNat (AS.mk (Av.mk x16.AR.Total x16.AR.DJ (w64 (v13+1)) x16.AR.EK x16.AR.ET) x16.Row x16.BO),w64 (v13+1),v14))
def uR(L1:((List AS)×Int×Int)->AA (Int×(List AS)))(x_:((List AS)×Int×Int)):AA (Int×(List AS)):=match x_ with |(v7,v8,v9)=>bd (at? v7 v9) fun x10=>bd (at? v7 v9) fun x11=>jn (uS L1) ((List.set v7 v9.toNat (AS.mk (Av.mk x11.AR.Total (w64 (v8+1)) x11.AR.Dd x11.AR.EK x11.AR.ET) x11.Row x11.BO),w64 (v8+1),v9))
def uY(x_:((List AS)×Int)):AA (Int×(List AS)):=match x_ with |(v41,v42)=>some (v42,v41)
def Ti(L1:((List AS)×Int×Int)->AA (Int×(List AS)))(x_:((List AS)×Int×Int)):AA (Int×(List AS)):=match x_ with |(v2,v3,v4)=>br (decide (v4<(↑(List.length v2):Int))) (bd (at? v2 v4) fun x5=>bd (at? v2 v4) fun x6=>jn (uR L1) ((List.set v2 v4.toNat (AS.mk (Av.mk v3 x6.AR.DJ x6.AR.Dd x6.AR.EK x6.AR.ET) x6.Row x6.BO),v3,v4))) (jn uY (v2,v3))
def AET(p0:List AS)(p1:Int):AA (Int×(List AS)):=Aw (Ti) big (p0,p1,0)
def ALu:GF:=gZ [.m (.l (.st 7)),.v .i] CS BY 0x276bb1d989690e1f5c53040cffecfa25b7a76674eb1febc0c0708d2566b9db168455c10d78628723a5c2e006a173a447b32a1cc4c589ab3cccb4ab7af43ae3c030b98dada8fb0610c3e8b9226b2df9cf8c324b8356c35a6bfc00273126478adf35a9188245848a14303c38e53bce4c2e0c13e7ada57ea9caaef7304a12a3f9c2bdcd68d4440a773320d4c2c0e22b781aab67a4d4edc2392b652c0f8cb3c34 [ALr,ALt] (Ak AET)
def AEU(p0:AE)(p1:Int):AA (Int×AE):=bd (AKs p0.AO p1) fun x1=>bd (AD5 p0.AG x1.fst) fun x2=>bd (AET p0.AH x2.fst) fun x3=>bd (Zk p0.A0 x3.fst) fun x4=>bd (Zk p0.Ay x4.fst) fun x5=>some ((x5.fst,AE.mk (AV.mk x1.snd.AR p0.AO.Cg p0.AO.Room p0.AO.A1 p0.AO.CA p0.AO.Bq p0.AO.Rest p0.AO.Cc p0.AO.Cu) p0.Now p0.Ai x2.snd x3.snd x4.snd x5.snd))
def ALv:GF:=gZ [.m (.st 8),.v .i] CS BY 0x25cd0da95cd87a72018d2e90c323cb1e5170d9bff0bb330e53674ea675a9fbebe09267f72b573e891df410c4e0 [ALi,ALj,ALu,nj] (Ak AEU)
def uZ(v5:Int):AA Int:=some v5
def aG(p0:List Int)(L1:(Int×Int)->AA Int)(x_:(Int×Int)):AA Int:=match x_ with |(v2,v3)=>br (decide (v3<(↑p0.length:Int))) (bd (at? p0 v3) fun x4=>br (x4 != v2) (some (-1)) (L1 ((w64 (v2+1),w64 (v3+1))))) (jn uZ v2)
def aF(p0:List Int)(p1:Int):AA Int:=Aw (aG p0) big (p1,0)
def nw:GF:=gZ dw CS BY 0x12a074fd24aa3ee157dfd839a7e5fba6496b0794ba921e57ce595cebba539f5dce4c77bda68c05d [] (Ak aF)
def FP(p0:AV):AA AV:=gd (0+p0.AR.length<=lim) (some (AV.mk ([]++p0.AR) p0.Cg p0.Room p0.A1 p0.CA p0.Bq p0.Rest p0.Cc p0.Cu))
def nx:GF:=gZ Rj ABh ABn 0x8f0489e4af01e0edeb870f53ad6eef027573b5dc [] (Bh FP)
def AEV(p0:Int):AA (Av×Bool):=bd (Yu (Av.mk p0 0 0 p0 0)) fun x1=>br (!x1) (some (Av.mk 0 0 0 0 0,false)) (some (Av.mk p0 0 0 p0 0,true))
def ALw:GF:=gZ Rl Nz [.cell 2 (some 5),.tmp 3] 0x334e44710ada7ad152976d486566961bf8a3b726d5dada68e9a8da1962a6bfa4c71 [cz] (Bh AEV)
def AUD:YF:=⟨[],[],[],.ret [(.st 6)],[.cell 0 (some 1)],dY 0x26113493e3f57277ef63d1ffce047304b714087b35943184190109f93e48cac262996b647215d3d4790fb74438037800e979bbe6b029 []⟩
def ub(v4:Ah):AA Ah:=some v4
def uc(L1:(Int×Ah)->AA Ah)(x_:(Int×Ah)):AA Ah:=match x_ with |(v2,v3)=>br (decide (v2<9)) (gd (v3.Aa.length+1<=lim) (L1 ((w64 (v2+1),Ah.mk (v3.Aa++[[]]))))) (jn ub v3)
def ua:AA Ah:=Aw (uc) big (0,Ah.mk [])
def ALx:GF:=AUD.gf rfl rfl (fun a=>ua) (fun a=>by kernel_rfl)
def AEW(p0:Int):AA (AS×Bool):=bd (AEV p0) fun x1=>br (!x1.snd) (some ((AS.mk (Av.mk 0 0 0 0 0) [] (Ah.mk []),false))) (bd (ua) fun x2=>some (AS.mk x1.fst [] x2,true))
def ALy:GF:=gZ Rl (.ret [(.st 7),.b]) [.cell 2 (some 7),.tmp 3] 0x2c06c9ac30cc518cc63f1b30e3b106915845f41490670ab68b93eea4ab2d7539534f01cb4934f4d1ce4d137a17ec3f550c8c7d5a [ALw,ALx] (Bh AEW)
def ue(v12:AE):AA (AE×Bool):=some (v12,true)
def ug(p0:AV)(L9:(Int×AE)->AA (AE×Bool))(x_:(Int×AE)):AA (AE×Bool):=match x_ with |(v10,v11)=>br (decide (v10<p0.Cu)) (gd (v11.Ay.length+[-1].length<=lim) (L9 ((w64 (v10+1),AE.mk v11.AO v11.Now v11.Ai v11.AG v11.AH v11.A0 (v11.Ay++[-1]))))) (jn ue v11)
def ud(p0:AV)(v8:AE):AA (AE×Bool):=Aw (ug p0) big (0,v8)
def uf(p0:AV)(L3:(Int×AE)->AA (AE×Bool))(x_:(Int×AE)):AA (AE×Bool):=match x_ with |(v4,v5)=>br (decide (v4<(↑p0.AR.length:Int))) (bd (at? p0.AR v4) fun x6=>bd (AEW x6) fun x7=>gd (v5.AH.length+[x7.fst].length<=lim) (L3 ((w64 (v4+1),AE.mk v5.AO v5.Now v5.Ai v5.AG (v5.AH++[x7.fst]) v5.A0 v5.Ay)))) (jn (ud p0) v5)
def AEX(p0:AV):AA (AE×Bool):=bd (rq p0) fun x1=>br (!x1) (some ((AE.mk (AV.mk [] 0 0 0 0 0 0 0 0) 0 0 [] [] [] [],false))) (bd (FP p0) fun x2=>Aw (uf p0) big (0,AE.mk x2 0 1 [] [] [] []))
def ALz:GF:=gZ Rj (.ret [(.st 8),.b]) oX 0x41f9b2220aec953840615d3b8df777594e2f70aa8baf711ae2af5bf4d78721d66ab99ff9ec1d07a81dd03d69e04c170dc2e02d6ff5676189dace9b7be3001ab43e012397e68abf833312029648c5e8568e4e553d688f91af71204620aac4577188875d6b4d1511155bec794388e50e45d6d2d3f853a031f952aed13db3b09565724332d62cbb062b4 [xF,nx,ALy] (Bh AEX)
def I2(p0:List Int):AA (List Int):=gd (0+p0.length<=lim) (some p0)
def dO:GF:=gZ [.v (.l .i)] lE Dm 0x2f113aa9acf2555b425c59 [] (Bh I2)
def j7(p0:AV):AA AV:=bd (I2 p0.AR) fun x1=>some (AV.mk x1 p0.Cg p0.Room p0.A1 p0.CA p0.Bq p0.Rest p0.Cc p0.Cu)
def ny:GF:=gZ Rj ABh ABn 0x10abd2fb736ae47fd5a5883acdaae0d58ff [dO] (Bh j7)
def AEY(p0:Int):AA (Av×Bool):=bd (JX (Av.mk p0 0 0 p0 0)) fun x1=>br (!x1) (some (Av.mk 0 0 0 0 0,false)) (some (Av.mk p0 0 0 p0 0,true))
def AL0:GF:=gZ Rl Nz [.cell 2 (some 5),.tmp 3] 0x334e44710ada7ad152976d486566961bf8a3b726d5dada68e9a8da1962a6bfa4c71 [Lu] (Bh AEY)
def AUE:YF:=⟨[],[],[],.ret [(.st 6)],[.cell 0 (some 1)],dY 0x456057e90af07cf4f227a7de50b9bc1d [] [.KL 1 (.l (.st 5)) (.k (.int .i64 9))]⟩
def AEZ:AA Ah:=some (Ah.mk (List.replicate (Int.toNat 9) []))
def AL1:GF:=AUE.gf rfl rfl (fun a=>AEZ) (fun a=>by kernel_rfl)
def AEa(p0:Int):AA (AS×Bool):=bd (AEY p0) fun x1=>br (!x1.snd) (some ((AS.mk (Av.mk 0 0 0 0 0) [] (Ah.mk []),false))) (bd (AEZ) fun x2=>some (AS.mk x1.fst [] x2,true))
def AL2:GF:=gZ Rl (.ret [(.st 7),.b]) [.cell 2 (some 7),.tmp 3] 0x2c06c9ac30cc518cc63f1b30e3b106915845f41490670ab68b93eea4ab2d7539534f01cb4934f4d1ce4d137a17ec3f550c8c7d5a [AL0,AL1] (Bh AEa)
def ui(v12:AE):AA (AE×Bool):=some (v12,true)
def uk(p0:AV)(L9:(Int×AE)->AA (AE×Bool))(x_:(Int×AE)):AA (AE×Bool):=match x_ with |(v10,v11)=>br (decide (v10<p0.Cu)) (gd (v11.Ay.length+[-1].length<=lim) (L9 ((w64 (v10+1),AE.mk v11.AO v11.Now v11.Ai v11.AG v11.AH v11.A0 (v11.Ay++[-1]))))) (jn ui v11)
def uh(p0:AV)(v8:AE):AA (AE×Bool):=Aw (uk p0) big (0,v8)
def uj(p0:AV)(L3:(Int×AE)->AA (AE×Bool))(x_:(Int×AE)):AA (AE×Bool):=match x_ with |(v4,v5)=>br (decide (v4<(↑p0.AR.length:Int))) (bd (at? p0.AR v4) fun x6=>bd (AEa x6) fun x7=>gd (v5.AH.length+[x7.fst].length<=lim) (L3 ((w64 (v4+1),AE.mk v5.AO v5.Now v5.Ai v5.AG (v5.AH++[x7.fst]) v5.A0 v5.Ay)))) (jn (uh p0) v5)
def AEb(p0:AV):AA (AE×Bool):=bd (TI p0) fun x1=>br (!x1) (some ((AE.mk (AV.mk [] 0 0 0 0 0 0 0 0) 0 0 [] [] [] [],false))) (bd (j7 p0) fun x2=>Aw (uj p0) big (0,AE.mk x2 0 1 [] [] [] []))
def AL3:GF:=gZ Rj (.ret [(.st 8),.b]) oX 0x2831eab203434d511babb7c8bf48b95023999cd991a861aa30ef16810842dfd3aa19f714319ca889c48b1a443c0fb5ba6bb4aee893f0b229122e62bd23e7a153a845b1436b0105f90622e1924c0d5ba1a2d0edcf422c65a8a05dc56044bbdbf66afeb869d829b81c877b63211aabe03613d96a2aa1a39e2371b75b0b565201f2002514fef5c05a9e72640507d82aca5d23e [V2,ny,AL2] (Bh AEb)
def AEc(p0:D8):AA D8:=bd (XB p0) fun x1=>br (!x1) (some p0) (some (D8.mk p0.Data (↑p0.Data.length:Int)))
def AL4:GF:=gZ eA ABk eD 0x94a5714395d36937709ee33d7f8a4b9ea67d5ef6ebd3f36ee6c96ba [nn] (Bh AEc)
def uw(L1:((List Bw)×Int×Int)->AA (Int×(List Bw)))(x_:((List Bw)×Int×Int)):AA (Int×(List Bw)):=match x_ with |(v32,v33,v34)=>L1 ((v32,w64 (v33+1),w64 (v34+1)))
def uu(L1:((List Bw)×Int×Int)->AA (Int×(List Bw)))(x_:((List Bw)×Int×Int)):AA (Int×(List Bw)):=match x_ with |(v27,v28,v29)=>bd (at? v27 v29) fun x30=>bd (at? v27 v29) fun x31=>jn (uw L1) ((List.set v27 v29.toNat (Bw.mk x31.Kind x31.Id x31.AT x31.BQ x31.A1 (w64 (v28+1))),w64 (v28+1),v29))
def ur(L1:((List Bw)×Int×Int)->AA (Int×(List Bw)))(x_:((List Bw)×Int×Int)):AA (Int×(List Bw)):=match x_ with |(v22,v23,v24)=>bd (at? v22 v24) fun x25=>bd (at? v22 v24) fun x26=>jn (uu L1) ((List.set v22 v24.toNat (Bw.mk x26.Kind x26.Id x26.AT x26.BQ (w64 (v23+1)) x26.CT),w64 (v23+1),v24))
def uq(L1:((List Bw)×Int×Int)->AA (Int×(List Bw)))(x_:((List Bw)×Int×Int)):AA (Int×(List Bw)):=match x_ with |(v17,v18,v19)=>bd (at? v17 v19) fun x20=>bd (at? v17 v19) fun x21=>jn (ur L1) ((List.set v17 v19.toNat (Bw.mk x21.Kind x21.Id x21.AT (w64 (v18+1)) x21.A1 x21.CT),w64 (v18+1),v19))
def uo(L1:((List Bw)×Int×Int)->AA (Int×(List Bw)))(x_:((List Bw)×Int×Int)):AA (Int×(List Bw)):=match x_ with |(v12,v13,v14)=>bd (at? v12 v14) fun x15=>bd (at? v12 v14) fun x16=>jn (uq L1) ((List.set v12 v14.toNat (Bw.mk x16.Kind x16.Id (w64 (v13+1)) x16.BQ x16.A1 x16.CT),w64 (v13+1),v14))
def um(L1:((List Bw)×Int×Int)->AA (Int×(List Bw)))(x_:((List Bw)×Int×Int)):AA (Int×(List Bw)):=match x_ with |(v7,v8,v9)=>bd (at? v7 v9) fun x10=>bd (at? v7 v9) fun x11=>jn (uo L1) ((List.set v7 v9.toNat (Bw.mk x11.Kind (w64 (v8+1)) x11.AT x11.BQ x11.A1 x11.CT),w64 (v8+1),v9))
def aH(x_:((List Bw)×Int)):AA (Int×(List Bw)):=match x_ with |(v35,v36)=>some (v36,v35)
def Tj(L1:((List Bw)×Int×Int)->AA (Int×(List Bw)))(x_:((List Bw)×Int×Int)):AA (Int×(List Bw)):=match x_ with |(v2,v3,v4)=>br (decide (v4<(↑(List.length v2):Int))) (bd (at? v2 v4) fun x5=>bd (at? v2 v4) fun x6=>jn (um L1) ((List.set v2 v4.toNat (Bw.mk v3 x6.Id x6.AT x6.BQ x6.A1 x6.CT),v3,v4))) (jn aH (v2,v3))
def AEd(p0:List Bw)(p1:Int):AA (Int×(List Bw)):=Aw (Tj) big (p0,p1,0)
def AL5:GF:=gZ [.m (.l (.st 0)),.v .i] CS BY 0x5288cb30ee6e3f856ca763164a0d31ce623aa391525491d3db508ba838374a5077045621ae16ddbf32c00da2c710cb084afee64498876ea924d08726c31c1c635c5d9bf294364b03934df80c8373fafcc09323af1bc69b8bb6fba8aaa63e16f32e74b6394e585a0859d29f7d9d9d851f60ce44a2701cdd41371e2cf0ec8bca347a05e79a584 [] (Ak AEd)
def ux(p0:Be)(p1:Int):AA (Int×Be):=bd (AEU p0.BD p1) fun x1=>bd (AEd p0.Laid x1.fst) fun x2=>some ((x2.fst,Be.mk (AE.mk (AV.mk x1.snd.AO.AR p0.BD.AO.Cg p0.BD.AO.Room p0.BD.AO.A1 p0.BD.AO.CA p0.BD.AO.Bq p0.BD.AO.Rest p0.BD.AO.Cc p0.BD.AO.Cu) p0.BD.Now p0.BD.Ai x1.snd.AG x1.snd.AH x1.snd.A0 x1.snd.Ay) p0.CY p0.Seq x2.snd))
def AL6:GF:=gZ [.m (.st 11),.v .i] CS BY 0x237315bee92f091a35483e932d436169455faa380fe [ALv,AL5] (Ak ux)
def AKu(p0:AV)(p1:Int):AA Int:=bd (aF p0.AR p1) fun x1=>br (decide (x1<0)) (some (-1)) (some x1)
def AL7:GF:=gZ [.v (.st 1),.v .i] CS BY 0x6a50c4bbb2d769d666aa77220d974b470f011bc [nw] (Ak AKu)
def uy(v14:Int):AA Int:=some v14
def aI(p0:List AJ)(L1:(Int×Int)->AA Int)(x_:(Int×Int)):AA Int:=match x_ with |(v2,v3)=>br (decide (v3<(↑p0.length:Int))) (bd (at? p0 v3) fun x4=>br (x4.Id != v2) (some (-1)) (bd (at? p0 v3) fun x5=>br (x5.AT != w64 (v2+1)) (some (-1)) (bd (at? p0 v3) fun x6=>br (x6.BQ != w64 (w64 (v2+1)+1)) (some (-1)) (bd (at? p0 v3) fun x7=>br (x7.A1 != w64 (w64 (w64 (v2+1)+1)+1)) (some (-1)) (bd (at? p0 v3) fun x8=>br (x8.CT != w64 (w64 (w64 (w64 (v2+1)+1)+1)+1)) (some (-1)) (bd (at? p0 v3) fun x9=>br (x9.Since != w64 (w64 (w64 (w64 (w64 (v2+1)+1)+1)+1)+1)) (some (-1)) (bd (at? p0 v3) fun x10=>br (x10.Ai != w64 (w64 (w64 (w64 (w64 (w64 (v2+1)+1)+1)+1)+1)+1)) (some (-1)) (bd (at? p0 v3) fun x11=>br (x11.State != w64 (w64 (w64 (w64 (w64 (w64 (w64 (v2+1)+1)+1)+1)+1)+1)+1)) (some (-1)) (bd (at? p0 v3) fun x12=>br (x12.CB != w64 (w64 (w64 (w64 (w64 (w64 (w64 (w64 (v2+1)+1)+1)+1)+1)+1)+1)+1)) (some (-1)) (bd (at? p0 v3) fun x13=>br (x13.CX != w64 (w64 (w64 (w64 (w64 (w64 (w64 (w64 (w64 (v2+1)+1)+1)+1)+1)+1)+1)+1)+1)) (some (-1)) (L1 ((w64 (w64 (w64 (w64 (w64 (w64 (w64 (w64 (w64 (w64 (v2+1)+1)+1)+1)+1)+1)+1)+1)+1)+1),w64 (v3+1)))))))))))))) (jn uy v2)
def AEe(p0:List AJ)(p1:Int):AA Int:=Aw (aI p0) big (p1,0)
def AL8:GF:=gZ Oi CS BY 0xbcf4844e6bc7bf78591b64a6e8f9b15799f498695cfe9a5ac84f67db920e63cc6da2d17b803100fc7dd8fde0cd0ade2b9d1530c8f56972b4a8c85119878fc3fe3ee9be94f079bfd3b628126e784a9cedb43abee7994008e44a163ab7388cbca2ce3ae43746c05d82a6e09beb59970e96b2756f77a4d708b603fc0faadc071b05903f1c7971fbb8f71be96ddfcb1963e56b5325dc9ab3e349c6293b149055fd0119503e9658c84f9bed6012e0c343f61aa876cf939df53e1617f511e8c3a5dcfaa566b81edb9e9ab5fb32d1be3fb1e0e328cca [] (Ak AEe)
def uz(v8:Int):AA Int:=some v8
def aJ(p0:List AQ)(L1:(Int×Int)->AA Int)(x_:(Int×Int)):AA Int:=match x_ with |(v2,v3)=>br (decide (v3<(↑p0.length:Int))) (bd (at? p0 v3) fun x4=>br (x4.Level != v2) (some (-1)) (bd (at? p0 v3) fun x5=>br (x5.Ai != w64 (v2+1)) (some (-1)) (bd (at? p0 v3) fun x6=>br (x6.Id != w64 (w64 (v2+1)+1)) (some (-1)) (bd (at? p0 v3) fun x7=>br (x7.A1 != w64 (w64 (w64 (v2+1)+1)+1)) (some (-1)) (L1 ((w64 (w64 (w64 (w64 (v2+1)+1)+1)+1),w64 (v3+1)))))))) (jn uz v2)
def AEf(p0:List AQ)(p1:Int):AA Int:=Aw (aJ p0) big (p1,0)
def AL9:GF:=gZ xJ CS BY 0x4d10b0a398aea9c67bb2fb84e704b796ea22385c085ac8a09671f4a52c719ea4cec8870b7307288e54138c74a0cf7654b1a61f7e5078e563cc9b33658c1e1a9bb96ca77e6bbb2e6a7eddef1c2d597fa570381c1ed0e647b2561d9f1b8f4303e93 [] (Ak AEf)
def vA(v6:Int):AA Int:=some v6
def aK(p0:List AY)(L1:(Int×Int)->AA Int)(x_:(Int×Int)):AA Int:=match x_ with |(v2,v3)=>br (decide (v3<(↑p0.length:Int))) (bd (at? p0 v3) fun x4=>br (x4.At != v2) (some (-1)) (bd (at? p0 v3) fun x5=>br (x5.Id != w64 (v2+1)) (some (-1)) (L1 ((w64 (w64 (v2+1)+1),w64 (v3+1)))))) (jn vA v2)
def AEg(p0:List AY)(p1:Int):AA Int:=Aw (aK p0) big (p1,0)
def AMA:GF:=gZ [.v (.l (.st 5)),.v .i] CS BY 0x64a097b234f200cfe5b4e28082bb2cd576f5e62ee4a5732430c0f27b4f46042a088f66db152b04ad3739779aae0d417f9c3f40af8c87297a25 [] (Ak AEg)
def vB(v6:Int):AA Int:=some v6
def aM(p0:List (List AY))(L1:(Int×Int)->AA Int)(x_:(Int×Int)):AA Int:=match x_ with |(v2,v3)=>br (decide (v3<(↑p0.length:Int))) (bd (at? p0 v3) fun x4=>bd (AEg x4 v2) fun x5=>br (decide (x5<0)) (some (-1)) (L1 ((x5,w64 (v3+1))))) (jn vB v2)
def AEh(p0:List (List AY))(p1:Int):AA Int:=Aw (aM p0) big (p1,0)
def AMB:GF:=gZ ARs CS BY 0x1531e9455d31c067b0ff9f4dae9fbf2e480b924018fef60139ccc3974012fb0fb82919d10a569a4 [AMA] (Ak AEh)
def vC(v13:Int):AA Int:=some v13
def aN(p0:List AS)(L1:(Int×Int)->AA Int)(x_:(Int×Int)):AA Int:=match x_ with |(v2,v3)=>br (decide (v3<(↑p0.length:Int))) (bd (at? p0 v3) fun x4=>br (x4.AR.Total != v2) (some (-1)) (bd (at? p0 v3) fun x5=>br (x5.AR.DJ != w64 (v2+1)) (some (-1)) (bd (at? p0 v3) fun x6=>br (x6.AR.Dd != w64 (w64 (v2+1)+1)) (some (-1)) (bd (at? p0 v3) fun x7=>br (x7.AR.EK != w64 (w64 (w64 (v2+1)+1)+1)) (some (-1)) (bd (at? p0 v3) fun x8=>br (x8.AR.ET != w64 (w64 (w64 (w64 (v2+1)+1)+1)+1)) (some (-1)) (bd (at? p0 v3) fun x9=>bd (AEf x9.Row (w64 (w64 (w64 (w64 (w64 (v2+1)+1)+1)+1)+1))) fun x10=>br (decide (x10<0)) (some (-1)) (bd (at? p0 v3) fun x11=>bd (AEh x11.BO.Aa x10) fun x12=>br (decide (x12<0)) (some (-1)) (L1 ((x12,w64 (v3+1))))))))))) (jn vC v2)
def AEi(p0:List AS)(p1:Int):AA Int:=Aw (aN p0) big (p1,0)
def AMC:GF:=gZ [.v (.l (.st 7)),.v .i] CS BY 0x32bfdf4de79fbad2a34baa6b93b39c65f2ad896abde7767ce9eeb29588ebe6a528ce4697757617649584dfd5cdbd68a574bc7eab65e7797bc48df688eb49c5eb816aa8472c4bff65fd7b65a8fcc18f09d271f4fa3fbcf1c1d11b7296629f20594195ccb4eb151d43cb7d3c4815b157343b248af270a321d47bf836cce88f3a180b6b6f71fc5a4cf057a5f5bd3330e39d716fc21b46229bebc355b030ba50521c8105cbede07e9d018005 [AL9,AMB] (Ak AEi)
def AEK(p0:AE)(p1:Int):AA Int:=bd (AKu p0.AO p1) fun x1=>br (decide (x1<0)) (some (-1)) (bd (AEe p0.AG x1) fun x2=>br (decide (x2<0)) (some (-1)) (bd (AEi p0.AH x2) fun x3=>br (decide (x3<0)) (some (-1)) (bd (aF p0.A0 x3) fun x4=>br (decide (x4<0)) (some (-1)) (bd (aF p0.Ay x4) fun x5=>br (decide (x5<0)) (some (-1)) (some x5)))))
def ALl:GF:=gZ GM CS BY 0x1df3c99dc600a5a4d6893aee40c38102bf5339071f0dbaec1b12e7ad1ca7a584eb104e512cf2776c7436175f43d097324710dd8ffd1b30e8a0afd623059adcf43dd245420a99d3a0999393d92d8a6f [AL7,AL8,AMC,nw] (Ak AEK)
def uB(v10:Int):AA Int:=some v10
def Z8(p0:List Bw)(L1:(Int×Int)->AA Int)(x_:(Int×Int)):AA Int:=match x_ with |(v2,v3)=>br (decide (v3<(↑p0.length:Int))) (bd (at? p0 v3) fun x4=>br (x4.Kind != v2) (some (-1)) (bd (at? p0 v3) fun x5=>br (x5.Id != w64 (v2+1)) (some (-1)) (bd (at? p0 v3) fun x6=>br (x6.AT != w64 (w64 (v2+1)+1)) (some (-1)) (bd (at? p0 v3) fun x7=>br (x7.BQ != w64 (w64 (w64 (v2+1)+1)+1)) (some (-1)) (bd (at? p0 v3) fun x8=>br (x8.A1 != w64 (w64 (w64 (w64 (v2+1)+1)+1)+1)) (some (-1)) (bd (at? p0 v3) fun x9=>br (x9.CT != w64 (w64 (w64 (w64 (w64 (v2+1)+1)+1)+1)+1)) (some (-1)) (L1 ((w64 (w64 (w64 (w64 (w64 (w64 (v2+1)+1)+1)+1)+1)+1),w64 (v3+1)))))))))) (jn uB v2)
def AEL(p0:List Bw)(p1:Int):AA Int:=Aw (Z8 p0) big (p1,0)
def ALm:GF:=gZ [.v (.l (.st 0)),.v .i] CS BY 0x12c8940b446c230e606598c23391b21ed08ab7e88f265223a2f2c6732eef2bf18825febd101f60e6f36ff5d4877ad189cbc3662de312eb4db4d36a25abb7b1534a7539a8a1f450ae61e214dc1ae4c5f223244e551b8f5edbf4805891393cb33cbc5e40f3a48c03a11a2711d05300a29357b2b2ebcb9f598a334a4e7b89208b1d6b2f248f936cd0b0 [] (Ak AEL)
def uC(p0:Be)(p1:Int):AA Int:=bd (AEK p0.BD p1) fun x1=>br (decide (x1<0)) (some (-1)) (bd (AEL p0.Laid x1) fun x2=>br (decide (x2<0)) (some (-1)) (some x2))
def ALn:GF:=gZ [.v (.st 11),.v .i] CS BY 0x75797e805485357c3a481ba3f1214fb731fc29a3ef4c843f269b656633dac85543 [ALl,ALm] (Ak uC)
def AEM(p0:BK)(p1:BK):AA Bool:=br (p0.Code != p1.Code) (some false) (bd (Z7 p0.Ids p1.Ids) fun x1=>br (!x1) (some false) (some true))
def AAX:GF:=gZ ABf Bc BY 0xb69ca0a12af6ad872dcb491e4bb9e63541bcf83e119 [dM] (Ak AEM)
def uD(_:PUnit):AA Bool:=some true
def aA(p0:List BK)(p1:List BK)(L1:Int->AA Bool)(v2:Int):AA Bool:=br (decide (v2<(↑p0.length:Int))) (bd (at? p0 v2) fun x3=>bd (at? p1 v2) fun x4=>bd (AEM x3 x4) fun x5=>br (!x5) (some false) (L1 (w64 (v2+1)))) (jn uD ())
def Z9(p0:List BK)(p1:List BK):AA Bool:=br ((↑p0.length:Int) != (↑p1.length:Int)) (some false) (Aw (aA p0 p1) big 0)
def nt:GF:=gZ AMz Bc BY 0x29c4e3d7e10084673daf5d62b8c85e35fd3aebf296049be8d8e09cc6f1e987255d93dccf1d3e45b8297248611 [AAX] (Ak Z9)
def AEN(p0:EL)(p1:EL):AA Bool:=bd (W9 p0.Bs p1.Bs) fun x1=>br (!x1) (some false) (bd (tI p0.Lm p1.Lm) fun x2=>br (!x2) (some false) (bd (Z9 p0.Hz p1.Hz) fun x3=>br (!x3) (some false) (br (p0.jA != p1.jA) (some false) (some true))))
def ALo:GF:=gZ [.v (.st 13),.v (.st 13)] Bc BY 0x667f383e8f7a025c7ef34c8f22d524be00628f8a275054f679b6b175686a6b72e00eb03271378e1da18a3af6d15f186fb [ni,nh,nt] (Ak AEN)
def uE(L1:((List BK)×Int×Int)->AA (Int×(List BK)))(x_:((List BK)×Int×Int)):AA (Int×(List BK)):=match x_ with |(v7,v8,v9)=>bd (at? v7 v9) fun x10=>bd (at? v7 v9) fun x11=>bd (Zk x11.Ids (w64 (v8+1))) fun x12=>gd (v9.toNat=v9.toNat) (bd (v7[v9.toNat]?) fun x13=>L1 ((List.set v7 v9.toNat (BK.mk x13.Code x12.snd),x12.fst,w64 (v9+1))))
def uF(x_:((List BK)×Int)):AA (Int×(List BK)):=match x_ with |(v14,v15)=>some (v15,v14)
def Te(L1:((List BK)×Int×Int)->AA (Int×(List BK)))(x_:((List BK)×Int×Int)):AA (Int×(List BK)):=match x_ with |(v2,v3,v4)=>br (decide (v4<(↑(List.length v2):Int))) (bd (at? v2 v4) fun x5=>bd (at? v2 v4) fun x6=>jn (uE L1) ((List.set v2 v4.toNat (BK.mk v3 x6.Ids),v3,v4))) (jn uF (v2,v3))
def AEO(p0:List BK)(p1:Int):AA (Int×(List BK)):=Aw (Te) big (p0,p1,0)
def ALp:GF:=gZ [.m (.l (.st 12)),.v .i] CS BY 0x7967a4ca06f3a6264baf16eaf7816afcfcb3d72c13962d39b9d4dfbbaae879ad283fc2f845a918628b3160af546af26573c126d10af9 [nj] (Ak AEO)
def uH(v7:Int):AA Int:=some v7
def aB(p0:List BK)(L1:(Int×Int)->AA Int)(x_:(Int×Int)):AA Int:=match x_ with |(v2,v3)=>br (decide (v3<(↑p0.length:Int))) (bd (at? p0 v3) fun x4=>br (x4.Code != v2) (some (-1)) (bd (at? p0 v3) fun x5=>bd (aF x5.Ids (w64 (v2+1))) fun x6=>br (decide (x6<0)) (some (-1)) (L1 ((x6,w64 (v3+1)))))) (jn uH v2)
def uG(p0:List BK)(p1:Int):AA Int:=Aw (aB p0) big (p1,0)
def ALq:GF:=gZ [.v (.l (.st 12)),.v .i] CS BY 0x5e8fd9d692525d28e0bba260966648a2f356b73a532e4d750891f885d0fd75d13d8ea05cf381e947ff3fa8d0cf54f31b86a5d3517d0cfc7e5e3 [nw] (Ak uG)
end Lv
set_option maxRecDepth 100000
namespace Lv
open Go (IntKind BinOp UnOp)
open Y (YF qn qf qt qr q1 qd qm qa qo ql qL qb qi qx qp qq qc qz qe qk qK qB qw qu qj Kp wn wf wt w1 sw sq sr wm wM wo wO wl wL wk wK wz wZ wx wX wb wB wi wI wr wR wq wQ we wE wc wY wj wh cv ca cx cn ce bl)
def uI(v5:Ah):AA Ah:=some v5
def uJ(p0:Ah)(L1:(Int×Ah)->AA Ah)(x_:(Int×Ah)):AA Ah:=match x_ with |(v2,v3)=>br (decide (v2<(↑p0.Aa.length:Int))) (bd (at? p0.Aa v2) fun x4=>gd (0+List.length x4<=lim) (gd (v3.Aa.length+[[]++x4].length<=lim) (L1 ((w64 (v2+1),Ah.mk (v3.Aa++[[]++x4])))))) (jn uI v3)
def aC(p0:Ah):AA Ah:=Aw (uJ p0) big (0,Ah.mk [])
def dN:GF:=gZ Rk ABi ABo 0x121f28354916e2c971f4eded3a9aa9ccd366ecb6a57c9c1c359b1c9e65805c03eae3aec333d03d354eb602219bf9b4ab3bbad382f54d7d7f65e318485c24b1086da62bb9fab203f80a66b3ca1e54b [] (Bh aC)
def AEP(p0:AS):AA AS:=bd (TR p0.Row) fun x1=>bd (aC p0.BO) fun x2=>some (AS.mk p0.AR x1 x2)
def AAY:GF:=gZ dy ABj ABp 0x259e8f10d16fce3ad6286d8a44d24860d4626f4b63cf1f653cc4daf4c03d24e90 [c9,dN] (Bh AEP)
def YC:Y.YOp []:=.app 19 .i true (.tmp 16) (.tmp 18)
def Lc:Y.YOp []:=.app 15 (.st 2) true (.tmp 12) (.tmp 14)
def F6:Y.YOp []:=.call 7 nx [] rfl [(.tmp 6)]
def AGe:Y.BS []:=(.op 21 none [] (.st 15 (.tmp 3) (.tmp 24)) (.dr [5,6,7,8,9,10,11,12,13,14,15,16,17,18,19,20,21,22,23,24] .nil))
def AVS:=fun a=>((.op 20 none [5,8,10,13,17,21] (.alloc 3 Di) (.nl [(.cell 3 0,.i),(.cell 3 11,(.st 2)),(.cell 3 12,(.st 7)),(.cell 3 13,.i),(.cell 3 14,.i)] a)):Y.BS [])
def ARD:Y.BS []:=AVS AGe
def AVT:=fun a=>((.op 19 none [] (.build 24 Di [(0,9,(.tmp 7)),(9,1,(.tmp 9)),(10,1,(.tmp 11)),(11,1,(.tmp 15)),(13,1,(.tmp 19)),(14,1,(.tmp 23))]) (.nl [(.tmp 24 12,(.st 7))] a)):Y.BS [])
def ARE:Y.BS []:=AVT ARD
def ARF:Y.BS []:=(.op 18 none [8,10] (.app 23 .i true (.tmp 20) (.tmp 22)) ARE)
def ARG:Y.BS []:=AVT AGe
def pt:Y.BS []:=(.op 18 none [8,10] (.app 23 .i true (.tmp 20) (.tmp 22)) ARG)
def ARH:Y.BS []:=AVS pt
def AVV:=fun a b=>((.both 1 a b):Y.BS [])
def AGf:Y.BS []:=AVV ARF ARH
def AVW:=fun a b c=>((.op a none [5,8,10,13,17,21] (.Bu b 0 .i []) c):Y.BS [])
def ARI:Y.BS []:=AVW 15 20 AGf
def AGg:Y.BS []:=AVW 15 20 pt
def AN6:Y.BS []:=AVS AGg
def AN7:Y.BS []:=AVV ARI AN6
def AN8:Y.BS []:=(.op 14 none [8,10,21] YC AN7)
def AN9:Y.BS []:=(.op 14 none [8,10,21] YC AGf)
def Uh:Y.BS []:=(.op 14 none [8,10,21] YC pt)
def AOA:Y.BS []:=AVS Uh
def fb:Y.BS []:=AVV AN9 AOA
def AOB:Y.BS []:=AVW 15 20 fb
def AOC:Y.BS []:=(.op 14 none [8,10,21] YC AGg)
def AOD:Y.BS []:=AVW 15 20 Uh
def fc:Y.BS []:=AVV AOC AOD
def AOE:Y.BS []:=AVS fc
def AOF:Y.BS []:=AVV AOB AOE
def yH:Y.BS []:=AVV AN8 AOF
def AOG:Y.BS []:=AVW 11 16 yH
def AOH:Y.BS []:=AVW 11 16 fb
def fe:Y.BS []:=AVW 11 16 Uh
def AOI:Y.BS []:=AVS fe
def yI:Y.BS []:=AVV AOH AOI
def AOJ:Y.BS []:=AVW 15 20 yI
def AOK:Y.BS []:=AVW 11 16 fc
def AOL:Y.BS []:=AVW 15 20 fe
def yJ:Y.BS []:=AVV AOK AOL
def AOM:Y.BS []:=AVS yJ
def AON:Y.BS []:=AVV AOJ AOM
def AOO:Y.BS []:=AVV AOG AON
def AVY:=fun a=>((.op 10 none [8,10,17,21] Lc a):Y.BS [])
def AOP:Y.BS []:=AVY AOO
def AOQ:Y.BS []:=AVY yH
def AOR:Y.BS []:=AVY fb
def Pq:Y.BS []:=AVY Uh
def AOS:Y.BS []:=AVS Pq
def Ui:Y.BS []:=AVV AOR AOS
def AOT:Y.BS []:=AVW 15 20 Ui
def AOU:Y.BS []:=AVY fc
def AOV:Y.BS []:=AVW 15 20 Pq
def Uj:Y.BS []:=AVV AOU AOV
def AOW:Y.BS []:=AVS Uj
def AOX:Y.BS []:=AVV AOT AOW
def fh:Y.BS []:=AVV AOQ AOX
def AOY:Y.BS []:=AVW 11 16 fh
def AOZ:Y.BS []:=AVY yI
def AOa:Y.BS []:=AVW 11 16 Ui
def AOb:Y.BS []:=AVY fe
def AOc:Y.BS []:=AVW 11 16 Pq
def Uk:Y.BS []:=AVV AOb AOc
def AOd:Y.BS []:=AVS Uk
def AOe:Y.BS []:=AVV AOa AOd
def fj:Y.BS []:=AVV AOZ AOe
def AOf:Y.BS []:=AVW 15 20 fj
def AOg:Y.BS []:=AVY yJ
def AOh:Y.BS []:=AVW 11 16 Uj
def AOi:Y.BS []:=AVW 15 20 Uk
def AOj:Y.BS []:=AVV AOh AOi
def fk:Y.BS []:=AVV AOg AOj
def AOk:Y.BS []:=AVS fk
def AOl:Y.BS []:=AVV AOf AOk
def AOm:Y.BS []:=AVV AOY AOl
def yK:Y.BS []:=AVV AOP AOm
def AVZ:=fun a=>((.op 7 none [5,8,10,13,17,21] (.Bu 12 0 (.st 2) []) a):Y.BS [])
def AOn:Y.BS []:=AVZ yK
def AOo:Y.BS []:=AVZ fh
def AOp:Y.BS []:=AVZ Ui
def Ul:Y.BS []:=AVZ Pq
def AOq:Y.BS []:=AVS Ul
def fm:Y.BS []:=AVV AOp AOq
def AOr:Y.BS []:=AVW 15 20 fm
def AOs:Y.BS []:=AVZ Uj
def AOt:Y.BS []:=AVW 15 20 Ul
def fq:Y.BS []:=AVV AOs AOt
def AOu:Y.BS []:=AVS fq
def AOv:Y.BS []:=AVV AOr AOu
def yL:Y.BS []:=AVV AOo AOv
def AOw:Y.BS []:=AVW 11 16 yL
def AOx:Y.BS []:=AVZ fj
def AOy:Y.BS []:=AVW 11 16 fm
def AOz:Y.BS []:=AVZ Uk
def AO0:Y.BS []:=AVW 11 16 Ul
def ft:Y.BS []:=AVV AOz AO0
def AO1:Y.BS []:=AVS ft
def AO2:Y.BS []:=AVV AOy AO1
def yM:Y.BS []:=AVV AOx AO2
def AO3:Y.BS []:=AVW 15 20 yM
def AO4:Y.BS []:=AVZ fk
def AO5:Y.BS []:=AVW 11 16 fq
def AO6:Y.BS []:=AVW 15 20 ft
def AO7:Y.BS []:=AVV AO5 AO6
def yN:Y.BS []:=AVV AO4 AO7
def AO8:Y.BS []:=AVS yN
def AO9:Y.BS []:=AVV AO3 AO8
def APA:Y.BS []:=AVV AOw AO9
def APB:Y.BS []:=AVV AOn APA
def AVa:=fun a=>((.op 2 none [8,10,13,17,21] F6 a):Y.BS [])
def AHy:Y.BS []:=AVa APB
def AHz:Y.BS []:=AVa yK
def AH0:Y.BS []:=AVa fh
def AH1:Y.BS []:=AVa Ui
def QR:Y.BS []:=AVa Pq
def AH2:Y.BS []:=AVS QR
def We:Y.BS []:=AVV AH1 AH2
def AH3:Y.BS []:=AVW 15 20 We
def AH4:Y.BS []:=AVa Uj
def AH5:Y.BS []:=AVW 15 20 QR
def Wf:Y.BS []:=AVV AH4 AH5
def AH6:Y.BS []:=AVS Wf
def AH7:Y.BS []:=AVV AH3 AH6
def lZ:Y.BS []:=AVV AH0 AH7
def AH8:Y.BS []:=AVW 11 16 lZ
def AH9:Y.BS []:=AVa fj
def AIA:Y.BS []:=AVW 11 16 We
def AIB:Y.BS []:=AVa Uk
def AIC:Y.BS []:=AVW 11 16 QR
def Wg:Y.BS []:=AVV AIB AIC
def AID:Y.BS []:=AVS Wg
def AIE:Y.BS []:=AVV AIA AID
def lf:Y.BS []:=AVV AH9 AIE
def AIF:Y.BS []:=AVW 15 20 lf
def AIH:Y.BS []:=AVa fk
def AII:Y.BS []:=AVW 11 16 Wf
def AIJ:Y.BS []:=AVW 15 20 Wg
def AIK:Y.BS []:=AVV AII AIJ
def lg:Y.BS []:=AVV AIH AIK
def AIL:Y.BS []:=AVS lg
def AIM:Y.BS []:=AVV AIF AIL
def AIN:Y.BS []:=AVV AH8 AIM
def AIO:Y.BS []:=AVV AHz AIN
def AIP:Y.BS []:=AVZ AIO
def AIQ:Y.BS []:=AVa yL
def AIR:Y.BS []:=AVZ lZ
def AIS:Y.BS []:=AVa fm
def AIT:Y.BS []:=AVZ We
def AIU:Y.BS []:=AVa Ul
def AIV:Y.BS []:=AVZ QR
def Wh:Y.BS []:=AVV AIU AIV
def AIW:Y.BS []:=AVS Wh
def AIX:Y.BS []:=AVV AIT AIW
def lh:Y.BS []:=AVV AIS AIX
def AIY:Y.BS []:=AVW 15 20 lh
def AIZ:Y.BS []:=AVa fq
def AIa:Y.BS []:=AVZ Wf
def AIb:Y.BS []:=AVW 15 20 Wh
def AIc:Y.BS []:=AVV AIa AIb
def lj:Y.BS []:=AVV AIZ AIc
def AId:Y.BS []:=AVS lj
def AIe:Y.BS []:=AVV AIY AId
def AIf:Y.BS []:=AVV AIR AIe
def AIg:Y.BS []:=AVV AIQ AIf
def AIh:Y.BS []:=AVW 11 16 AIg
def AIi:Y.BS []:=AVa yM
def AIj:Y.BS []:=AVZ lf
def AIk:Y.BS []:=AVW 11 16 lh
def AIl:Y.BS []:=AVa ft
def AIm:Y.BS []:=AVZ Wg
def AIn:Y.BS []:=AVW 11 16 Wh
def AIo:Y.BS []:=AVV AIm AIn
def lk:Y.BS []:=AVV AIl AIo
def AIp:Y.BS []:=AVS lk
def AIq:Y.BS []:=AVV AIk AIp
def AIr:Y.BS []:=AVV AIj AIq
def AIs:Y.BS []:=AVV AIi AIr
def AIt:Y.BS []:=AVW 15 20 AIs
def AIu:Y.BS []:=AVa yN
def AIv:Y.BS []:=AVZ lg
def AIw:Y.BS []:=AVW 11 16 lj
def AIx:Y.BS []:=AVW 15 20 lk
def AIy:Y.BS []:=AVV AIw AIx
def AIz:Y.BS []:=AVV AIv AIy
def AI0:Y.BS []:=AVV AIu AIz
def AI1:Y.BS []:=AVS AI0
def AI2:Y.BS []:=AVV AIt AI1
def AI3:Y.BS []:=AVV AIh AI2
def AI4:Y.BS []:=AVV AIP AI3
def AI5:Y.BS []:=AVV AHy AI4
def AI6:Y.BS []:=(.op 17 none [] (.ld 22 none (.tmp 21)) AI5)
def AI7:Y.BS []:=(.op 16 none [] (.fa 21 14 (.tmp 1)) AI6)
def AI8:Y.BS []:=(.op 13 none [] (.ld 18 none (.tmp 17)) AI7)
def AI9:Y.BS []:=(.op 12 none [] (.fa 17 13 (.tmp 1)) AI8)
def AJA:Y.BS []:=(.op 9 none [] (.ld 14 none (.tmp 13)) AI9)
def AJB:Y.BS []:=(.op 8 none [] (.fa 13 11 (.tmp 1)) AJA)
def AJC:Y.BS []:=(.op 6 none [] (.ld 11 none (.tmp 10)) AJB)
def AJD:Y.BS []:=(.op 5 none [] (.fa 10 10 (.tmp 1)) AJC)
def AJE:Y.BS []:=(.op 4 none [] (.ld 9 none (.tmp 8)) AJD)
def AJF:Y.BS []:=(.op 3 none [] (.fa 8 9 (.tmp 1)) AJE)
def AJG:Y.BS []:=(.op 1 none [] (.ld 6 (some 9) (.tmp 5)) AJF)
def AJH:Y.BS []:=(.op 0 none [] (.fa 5 0 (.tmp 1)) AJG)
def AUF:YF:=⟨[],[.v (.st 8)],[],.ret [(.st 8)],[.cell 2 (some 15)],sq [qu 1 0,.alloc 2 Di,.UU [(.cell 2 0,.i),(.cell 2 11,(.st 2)),(.cell 2 12,(.st 7)),(.cell 2 13,.i),(.cell 2 14,.i)]] [1,2] (.seq (.Vm AJH [1,2,3]) (.join [cx 3 (.st 8)] (sq [qK 4 0] (Kp 30) (bl 0 [cv 4 .i,cx 3 (.st 8)] (.seq (sw 25 [wm 4,wo 12 1,wL,wZ,wB .lss 25] (Kp 536870942) (ce 29 (Kp 30) [2,3] 0)) (.seq (.block 1 (.Vm (qd 0 [wn 32 [wo 12 3,wL,wo 12 1,wL,wm 4,wE (.st 7) 35,wK 7]] (.op 7 none [32] (.call 39 AAY [] rfl [(.tmp 38)]) (.op 8 none [32] (.Bu 40 1 (.st 7) [(0,(.tmp 39))]) (qd 9 [wn 41 [wh (.app · (.st 7) false (.tmp 33) (.tmp 40)),wo 12 3],qn [qw 1 42 41]] .nil)))) [1,2,3,4])) (qr [wn 30 [wm 4,wI .add 1],qn [qa 4 31]] (Kp 30)))))) (sq [qL 43 15 3,qw 15 2 43] [2] .ret)))⟩
def Ch(p0:AE)(x1:AV)(X2:AA AE):AA AE:=gd (0+p0.Ay.length<=lim) (B1 x1 x1 (ev6 p0.Now p0.Ai ([]++p0.AG) ([]:List AS) ([]++p0.A0) ([]++p0.Ay) (X2)))
def B0(p0:AE)(x1:AV)(X4:AA AE):AA AE:=gd (0+p0.A0.length<=lim) (gd (0+p0.Ay.length<=lim) (B1 x1 x1 (ev6 p0.Now p0.Ai ([]++p0.AG) ([]:List AS) ([]++p0.A0) ([]++p0.Ay) (X4))))
def vE(p0:AE)(x1:AV)(X5:AA AE):AA AE:=gd (0+p0.A0.length<=lim) (gd (0+p0.Ay.length<=lim) (alt (B0 p0 x1) (B1 x1 x1 (ev6 p0.Now p0.Ai ([]++p0.AG) ([]:List AS) ([]++p0.A0) ([]++p0.Ay) (X5)))))
def Ja(p0:AE)(x1:AV)(X3:AA AE):AA AE:=gd (0+p0.A0.length<=lim) (gd (0+p0.Ay.length<=lim) (alt (Ch p0 x1) (alt (B0 p0 x1) (alt (vE p0 x1) (B1 x1 x1 (ev6 p0.Now p0.Ai ([]++p0.AG) ([]:List AS) ([]++p0.A0) ([]++p0.Ay) (X3)))))))
def vF(p0:AE)(x1:AV)(X7:AA AE):AA AE:=gd (0+p0.A0.length<=lim) (gd (0+p0.Ay.length<=lim) (alt (B0 p0 x1) (alt (B0 p0 x1) (B1 x1 x1 (ev6 p0.Now p0.Ai ([]++p0.AG) ([]:List AS) ([]++p0.A0) ([]++p0.Ay) (X7))))))
def aV(p0:AE)(x1:AV)(X6:AA AE):AA AE:=gd (0+p0.A0.length<=lim) (gd (0+p0.Ay.length<=lim) (alt (Ch p0 x1) (alt (B0 p0 x1) (alt (B0 p0 x1) (alt (vF p0 x1) (B1 x1 x1 (ev6 p0.Now p0.Ai ([]++p0.AG) ([]:List AS) ([]++p0.A0) ([]++p0.Ay) (X6))))))))
def CV(p0:AE)(x1:AV)(X10:AA AE):AA AE:=gd (0+p0.AG.length<=lim) (gd (0+p0.A0.length<=lim) (gd (0+p0.Ay.length<=lim) (B1 x1 x1 (ev6 p0.Now p0.Ai ([]++p0.AG) ([]:List AS) ([]++p0.A0) ([]++p0.Ay) (X10)))))
def j9(p0:AE)(x1:AV)(X11:AA AE):AA AE:=gd (0+p0.AG.length<=lim) (gd (0+p0.A0.length<=lim) (gd (0+p0.Ay.length<=lim) (alt (B0 p0 x1) (alt (CV p0 x1) (B1 x1 x1 (ev6 p0.Now p0.Ai ([]++p0.AG) ([]:List AS) ([]++p0.A0) ([]++p0.Ay) (X11)))))))
def Mr(p0:AE)(x1:AV)(X9:AA AE):AA AE:=gd (0+p0.AG.length<=lim) (gd (0+p0.A0.length<=lim) (gd (0+p0.Ay.length<=lim) (alt (Ch p0 x1) (alt (B0 p0 x1) (alt (CV p0 x1) (alt (j9 p0 x1) (B1 x1 x1 (ev6 p0.Now p0.Ai ([]++p0.AG) ([]:List AS) ([]++p0.A0) ([]++p0.Ay) (X9)))))))))
def VY(p0:AE)(x1:AV)(X14:AA AE):AA AE:=gd (0+p0.AG.length<=lim) (gd (0+p0.A0.length<=lim) (gd (0+p0.Ay.length<=lim) (alt (CV p0 x1) (B1 x1 x1 (ev6 p0.Now p0.Ai ([]++p0.AG) ([]:List AS) ([]++p0.A0) ([]++p0.Ay) (X14))))))
def KQ(p0:AE)(x1:AV)(X13:AA AE):AA AE:=gd (0+p0.AG.length<=lim) (gd (0+p0.A0.length<=lim) (gd (0+p0.Ay.length<=lim) (alt (Ch p0 x1) (alt (B0 p0 x1) (alt (CV p0 x1) (alt (VY p0 x1) (B1 x1 x1 (ev6 p0.Now p0.Ai ([]++p0.AG) ([]:List AS) ([]++p0.A0) ([]++p0.Ay) (X13)))))))))
def KR(p0:AE)(x1:AV)(X16:AA AE):AA AE:=gd (0+p0.AG.length<=lim) (gd (0+p0.A0.length<=lim) (gd (0+p0.Ay.length<=lim) (alt (B0 p0 x1) (alt (CV p0 x1) (alt (VY p0 x1) (B1 x1 x1 (ev6 p0.Now p0.Ai ([]++p0.AG) ([]:List AS) ([]++p0.A0) ([]++p0.Ay) (X16))))))))
def kD(p0:AE)(x1:AV)(X15:AA AE):AA AE:=gd (0+p0.AG.length<=lim) (gd (0+p0.A0.length<=lim) (gd (0+p0.Ay.length<=lim) (alt (B0 p0 x1) (alt (B0 p0 x1) (alt (KR p0 x1) (B1 x1 x1 (ev6 p0.Now p0.Ai ([]++p0.AG) ([]:List AS) ([]++p0.A0) ([]++p0.Ay) (X15))))))))
def kC(p0:AE)(x1:AV)(X12:AA AE):AA AE:=gd (0+p0.AG.length<=lim) (gd (0+p0.A0.length<=lim) (gd (0+p0.Ay.length<=lim) (alt (Ch p0 x1) (alt (B0 p0 x1) (alt (B0 p0 x1) (alt (KQ p0 x1) (alt (kD p0 x1) (B1 x1 x1 (ev6 p0.Now p0.Ai ([]++p0.AG) ([]:List AS) ([]++p0.A0) ([]++p0.Ay) (X12))))))))))
def aW(p0:AE)(x1:AV)(X8:AA AE):AA AE:=gd (0+p0.AG.length<=lim) (gd (0+p0.A0.length<=lim) (gd (0+p0.Ay.length<=lim) (alt (Ch p0 x1) (alt (Ch p0 x1) (alt (Ja p0 x1) (alt (Mr p0 x1) (alt (kC p0 x1) (B1 x1 x1 (ev6 p0.Now p0.Ai ([]++p0.AG) ([]:List AS) ([]++p0.A0) ([]++p0.Ay) (X8))))))))))
def kF(p0:AE)(x1:AV)(X19:AA AE):AA AE:=gd (0+p0.AG.length<=lim) (gd (0+p0.A0.length<=lim) (gd (0+p0.Ay.length<=lim) (alt (B0 p0 x1) (alt (CV p0 x1) (alt (CV p0 x1) (B1 x1 x1 (ev6 p0.Now p0.Ai ([]++p0.AG) ([]:List AS) ([]++p0.A0) ([]++p0.Ay) (X19))))))))
def VZ(p0:AE)(x1:AV)(X18:AA AE):AA AE:=gd (0+p0.AG.length<=lim) (gd (0+p0.A0.length<=lim) (gd (0+p0.Ay.length<=lim) (alt (Ch p0 x1) (alt (B0 p0 x1) (alt (CV p0 x1) (alt (CV p0 x1) (alt (kF p0 x1) (B1 x1 x1 (ev6 p0.Now p0.Ai ([]++p0.AG) ([]:List AS) ([]++p0.A0) ([]++p0.Ay) (X18))))))))))
def Vb(p0:AE)(x1:AV)(X22:AA AE):AA AE:=gd (0+p0.AG.length<=lim) (gd (0+p0.A0.length<=lim) (gd (0+p0.Ay.length<=lim) (alt (CV p0 x1) (alt (CV p0 x1) (B1 x1 x1 (ev6 p0.Now p0.Ai ([]++p0.AG) ([]:List AS) ([]++p0.A0) ([]++p0.Ay) (X22)))))))
def Va(p0:AE)(x1:AV)(X21:AA AE):AA AE:=gd (0+p0.AG.length<=lim) (gd (0+p0.A0.length<=lim) (gd (0+p0.Ay.length<=lim) (alt (Ch p0 x1) (alt (B0 p0 x1) (alt (CV p0 x1) (alt (CV p0 x1) (alt (Vb p0 x1) (B1 x1 x1 (ev6 p0.Now p0.Ai ([]++p0.AG) ([]:List AS) ([]++p0.A0) ([]++p0.Ay) (X21))))))))))
def Vc(p0:AE)(x1:AV)(X24:AA AE):AA AE:=gd (0+p0.AG.length<=lim) (gd (0+p0.A0.length<=lim) (gd (0+p0.Ay.length<=lim) (alt (B0 p0 x1) (alt (CV p0 x1) (alt (CV p0 x1) (alt (Vb p0 x1) (B1 x1 x1 (ev6 p0.Now p0.Ai ([]++p0.AG) ([]:List AS) ([]++p0.A0) ([]++p0.Ay) (X24)))))))))
def kH(p0:AE)(x1:AV)(X23:AA AE):AA AE:=gd (0+p0.AG.length<=lim) (gd (0+p0.A0.length<=lim) (gd (0+p0.Ay.length<=lim) (alt (B0 p0 x1) (alt (B0 p0 x1) (alt (KR p0 x1) (alt (Vc p0 x1) (B1 x1 x1 (ev6 p0.Now p0.Ai ([]++p0.AG) ([]:List AS) ([]++p0.A0) ([]++p0.Ay) (X23)))))))))
def kG(p0:AE)(x1:AV)(X20:AA AE):AA AE:=gd (0+p0.AG.length<=lim) (gd (0+p0.A0.length<=lim) (gd (0+p0.Ay.length<=lim) (alt (Ch p0 x1) (alt (B0 p0 x1) (alt (B0 p0 x1) (alt (KQ p0 x1) (alt (Va p0 x1) (alt (kH p0 x1) (B1 x1 x1 (ev6 p0.Now p0.Ai ([]++p0.AG) ([]:List AS) ([]++p0.A0) ([]++p0.Ay) (X20)))))))))))
def kE(p0:AE)(x1:AV)(X17:AA AE):AA AE:=gd (0+p0.AG.length<=lim) (gd (0+p0.A0.length<=lim) (gd (0+p0.Ay.length<=lim) (alt (Ch p0 x1) (alt (Ch p0 x1) (alt (Ja p0 x1) (alt (Mr p0 x1) (alt (VZ p0 x1) (alt (kG p0 x1) (B1 x1 x1 (ev6 p0.Now p0.Ai ([]++p0.AG) ([]:List AS) ([]++p0.A0) ([]++p0.Ay) (X17)))))))))))
def Gj(p0:AE)(x30:AV)(X31:AA AE):AA AE:=bd (FP p0.AO) fun x32=>gd (0+p0.AG.length<=lim) (gd (0+p0.A0.length<=lim) (gd (0+p0.Ay.length<=lim) (B1 x30 x32 (ev6 p0.Now p0.Ai ([]++p0.AG) ([]:List AS) ([]++p0.A0) ([]++p0.Ay) (X31)))))
def kK(p0:AE)(x30:AV)(X33:AA AE):AA AE:=bd (FP p0.AO) fun x34=>gd (0+p0.AG.length<=lim) (gd (0+p0.A0.length<=lim) (gd (0+p0.Ay.length<=lim) (alt (B0 p0 x34) (alt (CV p0 x34) (alt (Gj p0 x34) (B1 x30 x34 (ev6 p0.Now p0.Ai ([]++p0.AG) ([]:List AS) ([]++p0.A0) ([]++p0.Ay) (X33))))))))
def Vd(p0:AE)(x28:AV)(X29:AA AE):AA AE:=bd (FP p0.AO) fun x30=>gd (0+p0.AG.length<=lim) (gd (0+p0.A0.length<=lim) (gd (0+p0.Ay.length<=lim) (alt (Ch p0 x30) (alt (B0 p0 x30) (alt (CV p0 x30) (alt (Gj p0 x30) (alt (kK p0 x30) (B1 x28 x30 (ev6 p0.Now p0.Ai ([]++p0.AG) ([]:List AS) ([]++p0.A0) ([]++p0.Ay) (X29))))))))))
def Vf(p0:AE)(x38:AV)(X39:AA AE):AA AE:=bd (FP p0.AO) fun x40=>gd (0+p0.AG.length<=lim) (gd (0+p0.A0.length<=lim) (gd (0+p0.Ay.length<=lim) (alt (CV p0 x40) (alt (Gj p0 x40) (B1 x38 x40 (ev6 p0.Now p0.Ai ([]++p0.AG) ([]:List AS) ([]++p0.A0) ([]++p0.Ay) (X39)))))))
def Ve(p0:AE)(x36:AV)(X37:AA AE):AA AE:=bd (FP p0.AO) fun x38=>gd (0+p0.AG.length<=lim) (gd (0+p0.A0.length<=lim) (gd (0+p0.Ay.length<=lim) (alt (Ch p0 x38) (alt (B0 p0 x38) (alt (CV p0 x38) (alt (Gj p0 x38) (alt (Vf p0 x38) (B1 x36 x38 (ev6 p0.Now p0.Ai ([]++p0.AG) ([]:List AS) ([]++p0.A0) ([]++p0.Ay) (X37))))))))))
def Vg(p0:AE)(x42:AV)(X43:AA AE):AA AE:=bd (FP p0.AO) fun x44=>gd (0+p0.AG.length<=lim) (gd (0+p0.A0.length<=lim) (gd (0+p0.Ay.length<=lim) (alt (B0 p0 x44) (alt (CV p0 x44) (alt (Gj p0 x44) (alt (Vf p0 x44) (B1 x42 x44 (ev6 p0.Now p0.Ai ([]++p0.AG) ([]:List AS) ([]++p0.A0) ([]++p0.Ay) (X43)))))))))
def kM(p0:AE)(x36:AV)(X41:AA AE):AA AE:=bd (FP p0.AO) fun x42=>gd (0+p0.AG.length<=lim) (gd (0+p0.A0.length<=lim) (gd (0+p0.Ay.length<=lim) (alt (B0 p0 x42) (alt (B0 p0 x42) (alt (KR p0 x42) (alt (Vg p0 x42) (B1 x36 x42 (ev6 p0.Now p0.Ai ([]++p0.AG) ([]:List AS) ([]++p0.A0) ([]++p0.Ay) (X41)))))))))
def kL(p0:AE)(x28:AV)(X35:AA AE):AA AE:=bd (FP p0.AO) fun x36=>gd (0+p0.AG.length<=lim) (gd (0+p0.A0.length<=lim) (gd (0+p0.Ay.length<=lim) (alt (Ch p0 x36) (alt (B0 p0 x36) (alt (B0 p0 x36) (alt (KQ p0 x36) (alt (Ve p0 x36) (alt (kM p0 x36) (B1 x28 x36 (ev6 p0.Now p0.Ai ([]++p0.AG) ([]:List AS) ([]++p0.A0) ([]++p0.Ay) (X35)))))))))))
def kJ(p0:AE)(x26:AV)(X27:AA AE):AA AE:=bd (FP p0.AO) fun x28=>gd (0+p0.AG.length<=lim) (gd (0+p0.A0.length<=lim) (gd (0+p0.Ay.length<=lim) (alt (Ch p0 x28) (alt (Ch p0 x28) (alt (Ja p0 x28) (alt (Mr p0 x28) (alt (Vd p0 x28) (alt (kL p0 x28) (B1 x26 x28 (ev6 p0.Now p0.Ai ([]++p0.AG) ([]:List AS) ([]++p0.A0) ([]++p0.Ay) (X27)))))))))))
def P9(p0:AE)(x52:AV)(X53:AA AE):AA AE:=bd (FP p0.AO) fun x54=>gd (0+p0.AG.length<=lim) (gd (0+p0.A0.length<=lim) (gd (0+p0.Ay.length<=lim) (alt (Gj p0 x54) (B1 x52 x54 (ev6 p0.Now p0.Ai ([]++p0.AG) ([]:List AS) ([]++p0.A0) ([]++p0.Ay) (X53))))))
def Vh(p0:AE)(x50:AV)(X51:AA AE):AA AE:=bd (FP p0.AO) fun x52=>gd (0+p0.AG.length<=lim) (gd (0+p0.A0.length<=lim) (gd (0+p0.Ay.length<=lim) (alt (Ch p0 x52) (alt (B0 p0 x52) (alt (CV p0 x52) (alt (Gj p0 x52) (alt (P9 p0 x52) (B1 x50 x52 (ev6 p0.Now p0.Ai ([]++p0.AG) ([]:List AS) ([]++p0.A0) ([]++p0.Ay) (X51))))))))))
def Vi(p0:AE)(x56:AV)(X57:AA AE):AA AE:=bd (FP p0.AO) fun x58=>gd (0+p0.AG.length<=lim) (gd (0+p0.A0.length<=lim) (gd (0+p0.Ay.length<=lim) (alt (B0 p0 x58) (alt (CV p0 x58) (alt (Gj p0 x58) (alt (P9 p0 x58) (B1 x56 x58 (ev6 p0.Now p0.Ai ([]++p0.AG) ([]:List AS) ([]++p0.A0) ([]++p0.Ay) (X57)))))))))
def kQ(p0:AE)(x50:AV)(X55:AA AE):AA AE:=bd (FP p0.AO) fun x56=>gd (0+p0.AG.length<=lim) (gd (0+p0.A0.length<=lim) (gd (0+p0.Ay.length<=lim) (alt (B0 p0 x56) (alt (CV p0 x56) (alt (CV p0 x56) (alt (Vi p0 x56) (B1 x50 x56 (ev6 p0.Now p0.Ai ([]++p0.AG) ([]:List AS) ([]++p0.A0) ([]++p0.Ay) (X55)))))))))
def kP(p0:AE)(x48:AV)(X49:AA AE):AA AE:=bd (FP p0.AO) fun x50=>gd (0+p0.AG.length<=lim) (gd (0+p0.A0.length<=lim) (gd (0+p0.Ay.length<=lim) (alt (Ch p0 x50) (alt (B0 p0 x50) (alt (CV p0 x50) (alt (CV p0 x50) (alt (Vh p0 x50) (alt (kQ p0 x50) (B1 x48 x50 (ev6 p0.Now p0.Ai ([]++p0.AG) ([]:List AS) ([]++p0.A0) ([]++p0.Ay) (X49)))))))))))
def kO(p0:AE)(x46:AV)(X47:AA AE):AA AE:=bd (FP p0.AO) fun x48=>gd (0+p0.AG.length<=lim) (gd (0+p0.A0.length<=lim) (gd (0+p0.Ay.length<=lim) (alt (Ch p0 x48) (alt (Ch p0 x48) (alt (Ja p0 x48) (alt (Mr p0 x48) (alt (Vd p0 x48) (alt (kP p0 x48) (B1 x46 x48 (ev6 p0.Now p0.Ai ([]++p0.AG) ([]:List AS) ([]++p0.A0) ([]++p0.Ay) (X47)))))))))))
def kV(p0:AE)(x66:AV)(X67:AA AE):AA AE:=bd (FP p0.AO) fun x68=>gd (0+p0.AG.length<=lim) (gd (0+p0.A0.length<=lim) (gd (0+p0.Ay.length<=lim) (alt (CV p0 x68) (alt (Gj p0 x68) (alt (P9 p0 x68) (B1 x66 x68 (ev6 p0.Now p0.Ai ([]++p0.AG) ([]:List AS) ([]++p0.A0) ([]++p0.Ay) (X67))))))))
def Vj(p0:AE)(x64:AV)(X65:AA AE):AA AE:=bd (FP p0.AO) fun x66=>gd (0+p0.AG.length<=lim) (gd (0+p0.A0.length<=lim) (gd (0+p0.Ay.length<=lim) (alt (CV p0 x66) (alt (CV p0 x66) (alt (kV p0 x66) (B1 x64 x66 (ev6 p0.Now p0.Ai ([]++p0.AG) ([]:List AS) ([]++p0.A0) ([]++p0.Ay) (X65))))))))
def kU(p0:AE)(x62:AV)(X63:AA AE):AA AE:=bd (FP p0.AO) fun x64=>gd (0+p0.AG.length<=lim) (gd (0+p0.A0.length<=lim) (gd (0+p0.Ay.length<=lim) (alt (Ch p0 x64) (alt (B0 p0 x64) (alt (CV p0 x64) (alt (CV p0 x64) (alt (Vh p0 x64) (alt (Vj p0 x64) (B1 x62 x64 (ev6 p0.Now p0.Ai ([]++p0.AG) ([]:List AS) ([]++p0.A0) ([]++p0.Ay) (X63)))))))))))
def kS(p0:AE)(x60:AV)(X61:AA AE):AA AE:=bd (FP p0.AO) fun x62=>gd (0+p0.AG.length<=lim) (gd (0+p0.A0.length<=lim) (gd (0+p0.Ay.length<=lim) (alt (Ch p0 x62) (alt (B0 p0 x62) (alt (B0 p0 x62) (alt (KQ p0 x62) (alt (Ve p0 x62) (alt (kU p0 x62) (B1 x60 x62 (ev6 p0.Now p0.Ai ([]++p0.AG) ([]:List AS) ([]++p0.A0) ([]++p0.Ay) (X61)))))))))))
def kY(p0:AE)(x72:AV)(X73:AA AE):AA AE:=bd (FP p0.AO) fun x74=>gd (0+p0.AG.length<=lim) (gd (0+p0.A0.length<=lim) (gd (0+p0.Ay.length<=lim) (alt (B0 p0 x74) (alt (CV p0 x74) (alt (CV p0 x74) (alt (Vi p0 x74) (alt (Vj p0 x74) (B1 x72 x74 (ev6 p0.Now p0.Ai ([]++p0.AG) ([]:List AS) ([]++p0.A0) ([]++p0.Ay) (X73))))))))))
def kX(p0:AE)(x70:AV)(X71:AA AE):AA AE:=bd (FP p0.AO) fun x72=>gd (0+p0.AG.length<=lim) (gd (0+p0.A0.length<=lim) (gd (0+p0.Ay.length<=lim) (alt (B0 p0 x72) (alt (B0 p0 x72) (alt (KR p0 x72) (alt (Vg p0 x72) (alt (kY p0 x72) (B1 x70 x72 (ev6 p0.Now p0.Ai ([]++p0.AG) ([]:List AS) ([]++p0.A0) ([]++p0.Ay) (X71))))))))))
def kW(p0:AE)(x60:AV)(X69:AA AE):AA AE:=bd (FP p0.AO) fun x70=>gd (0+p0.AG.length<=lim) (gd (0+p0.A0.length<=lim) (gd (0+p0.Ay.length<=lim) (alt (B0 p0 x70) (alt (B0 p0 x70) (alt (KR p0 x70) (alt (Vc p0 x70) (alt (kX p0 x70) (B1 x60 x70 (ev6 p0.Now p0.Ai ([]++p0.AG) ([]:List AS) ([]++p0.A0) ([]++p0.Ay) (X69))))))))))
def kR(p0:AE)(x46:AV)(X59:AA AE):AA AE:=bd (FP p0.AO) fun x60=>gd (0+p0.AG.length<=lim) (gd (0+p0.A0.length<=lim) (gd (0+p0.Ay.length<=lim) (alt (Ch p0 x60) (alt (B0 p0 x60) (alt (B0 p0 x60) (alt (KQ p0 x60) (alt (Va p0 x60) (alt (kS p0 x60) (alt (kW p0 x60) (B1 x46 x60 (ev6 p0.Now p0.Ai ([]++p0.AG) ([]:List AS) ([]++p0.A0) ([]++p0.Ay) (X59))))))))))))
def kN(p0:AE)(x26:AV)(X45:AA AE):AA AE:=bd (FP p0.AO) fun x46=>gd (0+p0.AG.length<=lim) (gd (0+p0.A0.length<=lim) (gd (0+p0.Ay.length<=lim) (alt (Ch p0 x46) (alt (Ch p0 x46) (alt (Ja p0 x46) (alt (Mr p0 x46) (alt (VZ p0 x46) (alt (kO p0 x46) (alt (kR p0 x46) (B1 x26 x46 (ev6 p0.Now p0.Ai ([]++p0.AG) ([]:List AS) ([]++p0.A0) ([]++p0.Ay) (X45))))))))))))
def kI(p0:AE)(x1:AV)(X25:AA AE):AA AE:=bd (FP p0.AO) fun x26=>gd (0+p0.AG.length<=lim) (gd (0+p0.A0.length<=lim) (gd (0+p0.Ay.length<=lim) (alt (Ch p0 x26) (alt (Ch p0 x26) (alt (Ja p0 x26) (alt (aV p0 x26) (alt (aW p0 x26) (alt (kJ p0 x26) (alt (kN p0 x26) (B1 x1 x26 (ev6 p0.Now p0.Ai ([]++p0.AG) ([]:List AS) ([]++p0.A0) ([]++p0.Ay) (X25))))))))))))
def kZ(v80:AE):AA AE:=some v80
def Vk(p0:AE)(L75:(Int×AE)->AA AE)(x_:(Int×AE)):AA AE:=match x_ with |(v76,v77)=>br (decide (v76<(↑p0.AH.length:Int))) (bd (at? p0.AH v76) fun x78=>bd (AEP x78) fun x79=>gd (v77.AH.length+[x79].length<=lim) (L75 ((w64 (v76+1),AE.mk v77.AO v77.Now v77.Ai v77.AG (v77.AH++[x79]) v77.A0 v77.Ay)))) (jn kZ v77)
def Kr(p0:AE):AA AE:=bd (FP p0.AO) fun x1=>gd (0+p0.AG.length<=lim) (gd (0+p0.A0.length<=lim) (gd (0+p0.Ay.length<=lim) (alt (Ch p0 x1) (alt (Ch p0 x1) (alt (Ja p0 x1) (alt (aV p0 x1) (alt (aW p0 x1) (alt (kE p0 x1) (alt (kI p0 x1) (Aw (Vk p0) big ((0,AE.mk x1 p0.Now p0.Ai ([]++p0.AG) [] ([]++p0.A0) ([]++p0.Ay)))))))))))))
def JC:GF:=AUF.Dx (Bh Kr)
def AEq(p0:Be):AA Be:=bd (Kr p0.BD) fun x1=>gd (0+p0.Laid.length<=lim) (bd (Kr p0.BD) fun x2=>gd (0+p0.Laid.length<=lim) (Ll x1 x2 (rB p0.CY p0.CY (ev2 p0.Seq ([]++p0.Laid) (some (Be.mk x1 p0.CY p0.Seq ([]++p0.Laid)))))))
def AME:GF:=gZ PS ABl ABq 0x72677ba71b5792cd9179fceb753c9c33a7efa0c00a35495b2e4da2a90f1db2000efc36959f5cc71d00468bc1df21cc6361eac07d020126cd11db802c9cf62a4bf143c50076b13c8909f23e98159668120cb7be743ff8ecd97f59b187b92640ee [JC] (Bh AEq)
def Tn(p0:List AQ):AA (List AQ):=gd (0+p0.length<=lim) (some p0)
def dR:GF:=gZ dx eC Dm 0x11f2d80e0c174640c5c8b6 [] (Bh Tn)
def vG(v5:Ah):AA Ah:=some v5
def vH(p0:Ah)(L1:(Int×Ah)->AA Ah)(x_:(Int×Ah)):AA Ah:=match x_ with |(v2,v3)=>br (decide (v2<(↑p0.Aa.length:Int))) (bd (at? p0.Aa v2) fun x4=>gd (0+List.length x4<=lim) (gd (v3.Aa.length+[x4].length<=lim) (L1 ((w64 (v2+1),Ah.mk (v3.Aa++[x4])))))) (jn vG v3)
def aX(p0:Ah):AA Ah:=Aw (vH p0) big (0,Ah.mk [])
def dS:GF:=gZ Rk ABi ABo 0x82e4e2521dc221ff61a079bd512bfcbfb0629f66d36603640d2fd782a1a7d95ecf90ed5a76ae75b037d305182e7d64c4263dbeda1a55355bde736498d715fe9582 [] (Bh aX)
def AEr(p0:AS):AA AS:=bd (Tn p0.Row) fun x1=>bd (aX p0.BO) fun x2=>some (AS.mk p0.AR x1 x2)
def AAe:GF:=gZ dy ABj ABp 0x259e8f10d16fce3ad6286d8a44d24860d4626f4b63cf1f653cc4daf4c03d24e90 [dR,dS] (Bh AEr)
def vI(v17:AE):AA AE:=some v17
def aY(p0:AE)(L12:(Int×AE)->AA AE)(x_:(Int×AE)):AA AE:=match x_ with |(v13,v14)=>br (decide (v13<(↑p0.AH.length:Int))) (bd (at? p0.AH v13) fun x15=>bd (AEr x15) fun x16=>gd (v14.AH.length+[x16].length<=lim) (L12 ((w64 (v13+1),AE.mk v14.AO v14.Now v14.Ai v14.AG (v14.AH++[x16]) v14.A0 v14.Ay)))) (jn vI v14)
def Ks(p0:AE):AA AE:=bd (j7 p0.AO) fun x1=>gd (0+p0.AG.length<=lim) (bd (I2 p0.A0) fun x2=>bd (I2 p0.Ay) fun x3=>bd (I2 p0.Ay) fun x4=>B1 x1 x1 (ev5 p0.Now p0.Ai p0.AG ([]:List AS) x2 (eqv x3 x4 (bd (I2 p0.A0) fun x5=>bd (I2 p0.Ay) fun x6=>B1 x1 x1 (ev4 p0.Now p0.Ai p0.AG ([]:List AS) (eqv x2 x5 (eqv x3 x6 (gd (0+p0.AG.length<=lim) (bd (I2 p0.A0) fun x7=>bd (I2 p0.Ay) fun x8=>B1 x1 x1 (ev4 p0.Now p0.Ai p0.AG ([]:List AS) (eqv x2 x7 (eqv x3 x8 (bd (j7 p0.AO) fun x9=>gd (0+p0.AG.length<=lim) (bd (I2 p0.A0) fun x10=>bd (I2 p0.Ay) fun x11=>B1 x1 x9 (ev4 p0.Now p0.Ai p0.AG ([]:List AS) (eqv x2 x10 (eqv x3 x11 (Aw (aY p0) big (0,AE.mk x1 p0.Now p0.Ai p0.AG [] x2 x3)))))))))))))))))))
def Ik:GF:=gZ PR Ly [.cell 2 (some 15)] 0x20522797c872d61456c0e4ac0bed6b54ab2ae0a75c9bfd2bbc1eaa6ccc466b036ee80ce06bcdc48cb4b7e9be7188c4736563d0d1f7725b1d031052e87f9ee2715580999ec08c4d92431ea814389182d83507df1c688c8ab8a5dc2edfbce5b512d0a2b20cd950493c5efb7c6b051c70f5b51919a2e186b422738e732ad2054eb95cd68a162e81d11c9859d9de3bf4b801a39f29cf8e8cfff3288579c643b6dcca2834b58023254793baa1c3138f15f84eca8740fe06acddaab1d88cd9706125b5330afdb646505e9d609c4604f210e2730360a217c2219479a2693bd443cb792fb99028f1ce92300847863cbb6ed11cf5fc9e4c1a5837502fb8764df9d41b0aa29376287c57f191775a4a70b3ac232af1a00869ade83ca3425060d803b29c910889c0886cd2ffb310c3967c64034781df279629f8d54191e380d205b6 [ny,dO,AAe] (Bh Ks)
def AEs(p0:Be):AA Be:=bd (Ks p0.BD) fun x1=>gd (0+p0.Laid.length<=lim) (some (Be.mk x1 p0.CY p0.Seq p0.Laid))
def AMF:GF:=gZ PS ABl ABq 0x374fe049c06a2cfe36616b9a92bd1e0216cb6e72fb0e5a29cd4047fa48fb4d59bbacea0466371f5560ae [Ik] (Bh AEs)
end Lv
