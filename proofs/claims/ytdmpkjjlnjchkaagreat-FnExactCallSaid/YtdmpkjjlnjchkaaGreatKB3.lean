/- Functions of the program as typed texts and as plain functions. -/
import Derived.Test.YtdmpkjjlnjchkaaGreatKA3
noncomputable section
set_option linter.unusedVariables false
set_option linter.unusedSimpArgs false
set_option linter.unusedSectionVars false
set_option maxRecDepth 100000
namespace Lv
open Go (IntKind BinOp UnOp)
open Y (YF qn qf qt qr q1 qd qm qa qo ql qL qb qi qx qp qq qc qz qe qk qK qB qw qu qj Kp wn wf wt w1 sw sq sr wm wM wo wO wl wL wk wK wz wZ wx wX wb wB wi wI wr wR wq wQ we wE wc wY wj wh cv ca cx cn ce bl)
def w4(a:AZ):AA (List Int):=bd (eU a) fun c=>br (!c) (some []) (gd ([a.CJ,a.Room,a.A2,a.CB,a.Bq,a.Rest,a.CL,a.Cs].length+a.AV.length<=lim) (some ([a.CJ,a.Room,a.A2,a.CB,a.Bq,a.Rest,a.CL,a.Cs]++a.AV)))
def A1I(a:List Int):AA (List Int):=some a
def A1L(h:AD)(g:((List Int)×Int)->AA (List Int))(j:((List Int)×Int)):AA (List Int):=match j with |(a,c)=>br (decide (c<(↑h.A8.length:Int))) (bd (at? h.A8 c) fun e=>gd (List.length a+[w64 (e+1)].length<=lim) (g ((a++[w64 (e+1)],w64 (c+1))))) (jn A1I a)
def A1H(c:AD)(a:List Int):AA (List Int):=gd (a.length+[(↑c.BC.length:Int)].length<=lim) (gd ((a++[(↑c.BC.length:Int)]).length+c.BC.length<=lim) (A4 (A1L c) big ((a++[(↑c.BC.length:Int)]++c.BC,0))))
def A1K(e:AD)(h:((List Int)×Int)->AA (List Int))(j:((List Int)×Int)):AA (List Int):=match j with |(g,a)=>br (decide (a<(↑e.AI.length:Int))) (bd (at? e.AI a) fun c=>gd (List.length g+[c.AV.DT].length<=lim) (h ((g++[c.AV.DT],w64 (a+1))))) (jn (A1H e) g)
def A1G(a:AD)(c:List Int):AA (List Int):=A4 (A1K a) big (c,0)
def A1J(c:AD)(h:((List Int)×Int)->AA (List Int))(j:((List Int)×Int)):AA (List Int):=match j with |(e,g)=>br (decide (g<(↑c.AG.length:Int))) (bd (at? c.AG g) fun a=>gd (List.length e+[a.Id,a.Aa,w64 (a.Bl+1),a.A2,a.Cj,a.Since,a.Ap,a.State,a.Cf,a.Cu].length<=lim) (h ((e++[a.Id,a.Aa,w64 (a.Bl+1),a.A2,a.Cj,a.Since,a.Ap,a.State,a.Cf,a.Cu],w64 (g+1))))) (jn (A1G c) e)
def A1X(a:AD):AA (List Int):=bd (WX a) fun e=>br (!e) (none) (bd (w4 a.AO) fun c=>gd ([(↑(List.length c):Int)].length+List.length c<=lim) (gd (([(↑(List.length c):Int)]++c).length+[a.Now,a.Ap,(↑a.AG.length:Int)].length<=lim) (A4 (A1J a) big (([(↑(List.length c):Int)]++c++[a.Now,a.Ap,(↑a.AG.length:Int)],0)))))
def AIK(e:(Int×(List UInt8))):AA (List UInt8):=match e with |(a,c)=>gd (c.length+[toB a].length<=lim) (some (c++[toB a]))
def AIL(e:(Int×(List UInt8))->AA (List UInt8))(g:(Int×(List UInt8))):AA (List UInt8):=match g with |(a,c)=>br (decide (a>=128)) (gd (c.length+[toB (w64 (Int.tmod a 128+128))].length<=lim) (e ((w64 (Int.tdiv a 128),c++[toB (w64 (Int.tmod a 128+128))])))) (jn AIK (a,c))
def rr(a:Int):AA (List UInt8):=bd (DE a 0 2147483647) fun c=>br (!c) (some []) (A4 (AIL) big (a,[]))
def SN:GF:=gZ Oa (.ret [(.l .u)]) b0 0x25d11be2267eec7bfced4652d572a59b7477bfb13694d9e5e73f6b7f7a80cd292408ed5ee22c991fddd0db54177a7ca0d5b05d9f01328d8ad3c9f9161259cff049c4dde5 [EC] (BL rr)
def AIM(a:List UInt8):AA (List UInt8):=some a
def rz(e:List Int)(h:((List UInt8)×Int)->AA (List UInt8))(q:((List UInt8)×Int)):AA (List UInt8):=match q with |(a,c)=>br (decide (c<(↑e.length:Int))) (bd (at? e c) fun j=>bd (rr j) fun g=>gd (List.length a+List.length g<=lim) (h ((a++g,w64 (c+1))))) (jn AIM a)
def nF(a:List Int):AA (List UInt8):=A4 (rz a) big ([],0)
def SO:GF:=gZ ACR xd b0 0x47d6c7b2b07bee12bfa037eb2557d8b55e56ff9259a4e906544f320df56b9e4c98c64cb63dfc3e7c21aa8e033f4f304ca68c69f9 [SN] (BL nF)
def sA(a:(Int×Int)->AA Int)(c:Int)(e:Int):AA Int:=a ((e,w64 (c+1)))
def AIO(a:(Int×Int)->AA Int)(c:Int)(e:Int):AA Int:=a ((e,w64 (c+1)))
def sC(g:(Int×Int)->AA Int)(h:Int)(e:(Int×Int)->AA Int)(j:(Int×Int)):AA Int:=match j with |(a,c)=>br (decide (c<8)) (br (pP a 1==1) (jn (sA e c) (bN (Dx a 1) 3988292384)) (jn (sA e c) (Dx a 1))) (jn (AIO g h) a)
def AIP(a:Int):AA Int:=some (bN a 4294967295)
def sB(c:List UInt8)(g:(Int×Int)->AA Int)(j:(Int×Int)):AA Int:=match j with |(e,a)=>br (decide (a<(↑c.length:Int))) (bd (at? c a) fun h=>A4 (sC g a) big ((bN e (w64 (↑(UInt8.toNat h):Int)),0))) (jn AIP e)
def AIN(a:List UInt8):AA Int:=A4 (sB a) big (4294967295,0)
def SP:GF:=gZ [.v (.l .u)] Cm b0 0x12abd790758fc24bf014e758e58e04479c4313a31b50f233ba89883fa254fcc3ff4c5577281e1c8fcc1c0f225d5f76394d730d936e5875154be395fb76968015a15ec09b1560aa85e818b0b8b47fb7893266f612718cc81a3e1b43db32d36f5eef98a0fcb0ce0 [] (BL AIN)
def A1l(j:AD)(g:Int):AA (List UInt8):=bd (A1X j) fun h=>gd (List.isEmpty h=false) (bd (DE g 0 1000000) fun q=>br (!q) (some []) (bd (rr g) fun c=>bd (nF h) fun e=>gd (List.length c+List.length e<=On) (bd (AIN (c++e)) fun a=>gd ([toB (Dx a 24),toB (Dx a 16),toB (Dx a 8),toB a].length+(c++e).length<=On) (some ([toB (Dx a 24),toB (Dx a 16),toB (Dx a 8),toB a]++(c++e))))))
def A1O(a:List Int):AA PUnit:=none
def A1R(h:AD)(g:((List Int)×Int)->AA PUnit)(j:((List Int)×Int)):AA PUnit:=match j with |(a,c)=>br (decide (c<(↑h.A8.length:Int))) (bd (at? h.A8 c) fun e=>gd (List.length a+[w64 (e+1)].length<=lim) (g ((a++[w64 (e+1)],w64 (c+1))))) (jn A1O a)
def A1N(c:AD)(a:List Int):AA PUnit:=gd (a.length+[(↑c.BC.length:Int)].length<=lim) (gd ((a++[(↑c.BC.length:Int)]).length+c.BC.length<=lim) (A4 (A1R c) big ((a++[(↑c.BC.length:Int)]++c.BC,0))))
def A1Q(e:AD)(h:((List Int)×Int)->AA PUnit)(j:((List Int)×Int)):AA PUnit:=match j with |(g,a)=>br (decide (a<(↑e.AI.length:Int))) (bd (at? e.AI a) fun c=>gd (List.length g+[c.AV.DT].length<=lim) (h ((g++[c.AV.DT],w64 (a+1))))) (jn (A1N e) g)
def A1M(a:AD)(c:List Int):AA PUnit:=A4 (A1Q a) big (c,0)
def A1P(c:AD)(h:((List Int)×Int)->AA PUnit)(j:((List Int)×Int)):AA PUnit:=match j with |(e,g)=>br (decide (g<(↑c.AG.length:Int))) (bd (at? c.AG g) fun a=>gd (List.length e+[a.Id,a.Aa,w64 (a.Bl+1),a.A2,a.Cj,a.Since,a.Ap,a.State,a.Cf,a.Cu].length<=lim) (h ((e++[a.Id,a.Aa,w64 (a.Bl+1),a.A2,a.Cj,a.Since,a.Ap,a.State,a.Cf,a.Cu],w64 (g+1))))) (jn (A1M c) e)
def A1Y(a:AD):AA PUnit:=bd (WX a) fun e=>br (!e) (some ()) (bd (w4 a.AO) fun c=>gd ([(↑(List.length c):Int)].length+List.length c<=lim) (gd (([(↑(List.length c):Int)]++c).length+[a.Now,a.Ap,(↑a.AG.length:Int)].length<=lim) (A4 (A1P a) big (([(↑(List.length c):Int)]++c++[a.Now,a.Ap,(↑a.AG.length:Int)],0)))))
def A1m(a:AD)(c:Int):AA (List UInt8):=bd (A1Y a) fun e=>some []
def A2s(a:AD)(c:Int):AA (List UInt8):=orE (A1l a c) (A1m a c)
def A1b(a:List Int):AA (List Int):=some a
def A1e(h:AD)(g:((List Int)×Int)->AA (List Int))(j:((List Int)×Int)):AA (List Int):=match j with |(a,c)=>br (decide (c<(↑h.A8.length:Int))) (bd (at? h.A8 c) fun e=>gd (List.length a+[w64 (e+1)].length<=lim) (g ((a++[w64 (e+1)],w64 (c+1))))) (jn A1b a)
def A1a(c:AD)(a:List Int):AA (List Int):=gd (a.length+[(↑c.BC.length:Int)].length<=lim) (gd ((a++[(↑c.BC.length:Int)]).length+c.BC.length<=lim) (A4 (A1e c) big ((a++[(↑c.BC.length:Int)]++c.BC,0))))
def A1d(e:AD)(h:((List Int)×Int)->AA (List Int))(j:((List Int)×Int)):AA (List Int):=match j with |(g,a)=>br (decide (a<(↑e.AI.length:Int))) (bd (at? e.AI a) fun c=>gd (List.length g+[c.AV.DT].length<=lim) (h ((g++[c.AV.DT],w64 (a+1))))) (jn (A1a e) g)
def A1Z(a:AD)(c:List Int):AA (List Int):=A4 (A1d a) big (c,0)
def A1c(c:AD)(h:((List Int)×Int)->AA (List Int))(j:((List Int)×Int)):AA (List Int):=match j with |(e,g)=>br (decide (g<(↑c.AG.length:Int))) (bd (at? c.AG g) fun a=>gd (List.length e+[a.Id,a.Aa,w64 (a.Bl+1),a.A2,a.Cj,a.Since,a.Ap,a.State,a.Cf,a.Cu].length<=lim) (h ((e++[a.Id,a.Aa,w64 (a.Bl+1),a.A2,a.Cj,a.Since,a.Ap,a.State,a.Cf,a.Cu],w64 (g+1))))) (jn (A1Z c) e)
def A2S(a:AD):AA (List Int):=bd (WX a) fun e=>br (!e) (some []) (bd (w4 a.AO) fun c=>gd ([(↑(List.length c):Int)].length+List.length c<=lim) (gd (([(↑(List.length c):Int)]++c).length+[a.Now,a.Ap,(↑a.AG.length:Int)].length<=lim) (A4 (A1c a) big (([(↑(List.length c):Int)]++c++[a.Now,a.Ap,(↑a.AG.length:Int)],0)))))
def AwX(a:((List Int)×Int×Int)->AA (Int×(List Int)))(h:((List Int)×Int×Int)):AA (Int×(List Int)):=match h with |(c,e,g)=>a ((c,w64 (e+1),w64 (g+1)))
def A3D(e:((List Int)×Int)):AA (Int×(List Int)):=match e with |(a,c)=>some (c,a)
def AtA(g:((List Int)×Int×Int)->AA (Int×(List Int)))(h:((List Int)×Int×Int)):AA (Int×(List Int)):=match h with |(a,e,c)=>br (decide (c<(↑(List.length a):Int))) (bd (at? a c) fun j=>bd (at? a c) fun q=>jn (AwX g) (List.set a c.toNat e,e,c)) (jn A3D (a,e))
def AIQ(a:List Int)(c:Int):AA (Int×(List Int)):=A4 (AtA) big (a,c,0)
def SQ:GF:=gZ [.m (.l .i),.v .i] Cm Bz 0xa67c50360e6b47a61c98fafbc6adbf6f55042144f770ceb3fd6c2112e808f66f5b0885ef8c166028c [] (Ah AIQ)
def AA5(a:AZ)(e:Int):AA (Int×AZ):=bd (AIQ a.AV e) fun c=>some (c.fst,AZ.mk c.snd a.CJ a.Room a.A2 a.CB a.Bq a.Rest a.CL a.Cs)
def SR:GF:=gZ [.m (.st 1),.v .i] Cm Bz 0x4f18280086bdf6706ec1499d59f0 [SQ] (Ah AA5)
def A4N(g:((List AK)×Int×Int)->AA (Int×(List AK)))(h:((List AK)×Int×Int)):AA (Int×(List AK)):=match h with |(a,c,e)=>g ((a,w64 (c+1),w64 (e+1)))
def A4M(h:((List AK)×Int×Int)->AA (Int×(List AK)))(q:((List AK)×Int×Int)):AA (Int×(List AK)):=match q with |(e,g,c)=>bd (at? e c) fun j=>bd (at? e c) fun a=>jn (A4N h) ((List.set e c.toNat (AK.mk a.Id a.Aa a.Bl a.A2 a.Cj a.Since a.Ap a.State a.Cf (w64 (g+1))),w64 (g+1),c))
def A4n(h:((List AK)×Int×Int)->AA (Int×(List AK)))(q:((List AK)×Int×Int)):AA (Int×(List AK)):=match q with |(e,g,c)=>bd (at? e c) fun j=>bd (at? e c) fun a=>jn (A4M h) ((List.set e c.toNat (AK.mk a.Id a.Aa a.Bl a.A2 a.Cj a.Since a.Ap a.State (w64 (g+1)) a.Cu),w64 (g+1),c))
def A4m(h:((List AK)×Int×Int)->AA (Int×(List AK)))(q:((List AK)×Int×Int)):AA (Int×(List AK)):=match q with |(e,g,c)=>bd (at? e c) fun j=>bd (at? e c) fun a=>jn (A4n h) ((List.set e c.toNat (AK.mk a.Id a.Aa a.Bl a.A2 a.Cj a.Since a.Ap (w64 (g+1)) a.Cf a.Cu),w64 (g+1),c))
def A4l(h:((List AK)×Int×Int)->AA (Int×(List AK)))(q:((List AK)×Int×Int)):AA (Int×(List AK)):=match q with |(e,g,c)=>bd (at? e c) fun j=>bd (at? e c) fun a=>jn (A4m h) ((List.set e c.toNat (AK.mk a.Id a.Aa a.Bl a.A2 a.Cj a.Since (w64 (g+1)) a.State a.Cf a.Cu),w64 (g+1),c))
def A4k(h:((List AK)×Int×Int)->AA (Int×(List AK)))(q:((List AK)×Int×Int)):AA (Int×(List AK)):=match q with |(e,g,c)=>bd (at? e c) fun j=>bd (at? e c) fun a=>jn (A4l h) ((List.set e c.toNat (AK.mk a.Id a.Aa a.Bl a.A2 a.Cj (w64 (g+1)) a.Ap a.State a.Cf a.Cu),w64 (g+1),c))
def A4j(h:((List AK)×Int×Int)->AA (Int×(List AK)))(q:((List AK)×Int×Int)):AA (Int×(List AK)):=match q with |(e,g,c)=>bd (at? e c) fun j=>bd (at? e c) fun a=>jn (A4k h) ((List.set e c.toNat (AK.mk a.Id a.Aa a.Bl a.A2 (w64 (g+1)) a.Since a.Ap a.State a.Cf a.Cu),w64 (g+1),c))
def A4i(h:((List AK)×Int×Int)->AA (Int×(List AK)))(q:((List AK)×Int×Int)):AA (Int×(List AK)):=match q with |(e,g,c)=>bd (at? e c) fun j=>bd (at? e c) fun a=>jn (A4j h) ((List.set e c.toNat (AK.mk a.Id a.Aa a.Bl (w64 (g+1)) a.Cj a.Since a.Ap a.State a.Cf a.Cu),w64 (g+1),c))
def A4h(h:((List AK)×Int×Int)->AA (Int×(List AK)))(q:((List AK)×Int×Int)):AA (Int×(List AK)):=match q with |(e,g,c)=>bd (at? e c) fun j=>bd (at? e c) fun a=>jn (A4i h) ((List.set e c.toNat (AK.mk a.Id a.Aa (w64 (g+1)) a.A2 a.Cj a.Since a.Ap a.State a.Cf a.Cu),w64 (g+1),c))
def Al7(h:((List AK)×Int×Int)->AA (Int×(List AK)))(q:((List AK)×Int×Int)):AA (Int×(List AK)):=match q with |(e,g,c)=>bd (at? e c) fun j=>bd (at? e c) fun a=>jn (A4h h) ((List.set e c.toNat (AK.mk a.Id (w64 (g+1)) a.Bl a.A2 a.Cj a.Since a.Ap a.State a.Cf a.Cu),w64 (g+1),c))
def A2l(e:((List AK)×Int)):AA (Int×(List AK)):=match e with |(a,c)=>some (c,a)
def Al8(h:((List AK)×Int×Int)->AA (Int×(List AK)))(j:((List AK)×Int×Int)):AA (Int×(List AK)):=match j with |(c,g,e)=>br (decide (e<(↑(List.length c):Int))) (bd (at? c e) fun q=>bd (at? c e) fun a=>jn (Al7 h) ((List.set c e.toNat (AK.mk g a.Aa a.Bl a.A2 a.Cj a.Since a.Ap a.State a.Cf a.Cu),g,e))) (jn A2l (c,g))
def AA6(a:List AK)(c:Int):AA (Int×(List AK)):=A4 (Al8) big (a,c,0)
def SS:GF:=gZ [.m (.l (.st 2)),.v .i] Cm Bz 0x53a5bf8bbe6d6f7fd620ed8c7e82538ef3e9f7ed9d8c42990ecef25614b2e5b83f7172179ac398e301874033620607796cfb0626a0f33e8dbe820a15e165d138ec738b93a8bc9695b84341e1f686288ffdeec95000369bc1976d24ef1d39b5f89fb57e834a2c4d8213214401f0d621b3499309c230db91e402c2e66b2242a8433a3fa64b695c5d4b3f30ef25f5b16b06f161883f86b5fe6b908fa4a7a6b75770be4f85bac585d3407b5199855f61a49cadb77c6cc6e1b1989378722989d74fa0e2d123787e7de69ce32ef422 [] (Ah AA6)
def A4p(g:((List Ad)×Int×Int)->AA (Int×(List Ad)))(h:((List Ad)×Int×Int)):AA (Int×(List Ad)):=match h with |(a,c,e)=>g ((a,w64 (c+1),w64 (e+1)))
def fU(h:((List Ad)×Int×Int)->AA (Int×(List Ad)))(q:((List Ad)×Int×Int)):AA (Int×(List Ad)):=match q with |(c,g,a)=>bd (at? c a) fun j=>bd (at? c a) fun e=>jn (A4p h) ((List.set c a.toNat (Ad.mk e.Level e.Ap e.Id (w64 (g+1))),w64 (g+1),a))
def A4o(h:((List Ad)×Int×Int)->AA (Int×(List Ad)))(q:((List Ad)×Int×Int)):AA (Int×(List Ad)):=match q with |(c,g,a)=>bd (at? c a) fun j=>bd (at? c a) fun e=>jn (fU h) ((List.set c a.toNat (Ad.mk e.Level e.Ap (w64 (g+1)) e.A2),w64 (g+1),a))
def fT(h:((List Ad)×Int×Int)->AA (Int×(List Ad)))(q:((List Ad)×Int×Int)):AA (Int×(List Ad)):=match q with |(e,g,c)=>bd (at? e c) fun j=>bd (at? e c) fun a=>jn (A4o h) ((List.set e c.toNat (Ad.mk a.Level (w64 (g+1)) a.Id a.A2),w64 (g+1),c))
def AIS(e:((List Ad)×Int)):AA (Int×(List Ad)):=match e with |(a,c)=>some (c,a)
def sE(h:((List Ad)×Int×Int)->AA (Int×(List Ad)))(j:((List Ad)×Int×Int)):AA (Int×(List Ad)):=match j with |(a,e,c)=>br (decide (c<(↑(List.length a):Int))) (bd (at? a c) fun q=>bd (at? a c) fun g=>jn (fT h) ((List.set a c.toNat (Ad.mk e g.Ap g.Id g.A2),e,c))) (jn AIS (a,e))
def AIR(a:List Ad)(c:Int):AA (Int×(List Ad)):=A4 (sE) big (a,c,0)
def Xl:GF:=gZ [.m (.l (.st 4)),.v .i] Cm Bz 0x10bef44025dc1ef8dd9464a4e87e355179dac2f14c5ce85b09727d2093ae3fa21ab69d52d92e3d7ef0bc81a31d662a2b0a9349bccca302789e074bd0bdff43074d9ef6d7f08f520fc60d61f2bca24373cb2c317b54622f84044bbc6a1e7465 [] (Ah AIR)
def Ajm(g:((List A6)×Int×Int)->AA (Int×(List A6)))(h:((List A6)×Int×Int)):AA (Int×(List A6)):=match h with |(a,c,e)=>g ((a,w64 (c+1),w64 (e+1)))
def AIT(h:((List A6)×Int×Int)->AA (Int×(List A6)))(q:((List A6)×Int×Int)):AA (Int×(List A6)):=match q with |(c,g,a)=>bd (at? c a) fun j=>bd (at? c a) fun e=>jn (Ajm h) ((List.set c a.toNat (A6.mk e.At (w64 (g+1))),w64 (g+1),a))
def Al9(e:((List A6)×Int)):AA (Int×(List A6)):=match e with |(a,c)=>some (c,a)
def AIU(g:((List A6)×Int×Int)->AA (Int×(List A6)))(j:((List A6)×Int×Int)):AA (Int×(List A6)):=match j with |(a,e,c)=>br (decide (c<(↑(List.length a):Int))) (bd (at? a c) fun q=>bd (at? a c) fun h=>jn (AIT g) ((List.set a c.toNat (A6.mk e h.Id),e,c))) (jn Al9 (a,e))
def fV(a:List A6)(c:Int):AA (Int×(List A6)):=A4 (AIU) big (a,c,0)
def Ll:GF:=gZ [.m (.l (.st 5)),.v .i] Cm Bz 0x7ddb3355f3348ca34d3b10d8446f3dc22f2c5e9131dd70511d55a02906166934f8162193de1530a80fb71133422b3c7411cff3c872ad0f6941203 [] (Ah fV)
def AIW(e:((List (List A6))×Int)):AA (Int×(List (List A6))):=match e with |(c,a)=>some (a,c)
def sH(h:((List (List A6))×Int×Int)->AA (Int×(List (List A6))))(q:((List (List A6))×Int×Int)):AA (Int×(List (List A6))):=match q with |(c,e,a)=>br (decide (a<(↑(List.length c):Int))) (bd (at? c a) fun y=>bd (at? c a) fun j=>bd (fV j e) fun g=>gd (a.toNat=a.toNat) (bd (c[a.toNat]?) fun B=>h ((List.set c a.toNat g.snd,g.fst,w64 (a+1))))) (jn AIW (c,e))
def AIV(a:List (List A6))(c:Int):AA (Int×(List (List A6))):=A4 (sH) big (a,c,0)
def OU:GF:=gZ [.m (.l (.l (.st 5))),.v .i] Cm Bz 0x4aad49bbc127463562327b611812d1e1a1743b7abbbfb5f3e956720a8ddc87050ce4711655f2 [Ll] (Ah AIV)
def A4q(q:((List AY)×Int×Int)->AA (Int×(List AY)))(B:((List AY)×Int×Int)):AA (Int×(List AY)):=match B with |(c,h,a)=>bd (at? c a) fun y=>bd (at? c a) fun j=>bd (AIV j.Bw.Ak h) fun e=>gd (a.toNat=a.toNat) (bd (c[a.toNat]?) fun g=>q ((List.set c a.toNat (AY.mk g.AV g.Row (An.mk e.snd)),e.fst,w64 (a+1))))
def Aod(q:((List AY)×Int×Int)->AA (Int×(List AY)))(B:((List AY)×Int×Int)):AA (Int×(List AY)):=match B with |(c,h,a)=>bd (at? c a) fun y=>bd (at? c a) fun j=>bd (AIR j.Row (w64 (h+1))) fun e=>gd (a.toNat=a.toNat) (bd (c[a.toNat]?) fun g=>jn (A4q q) ((List.set c a.toNat (AY.mk g.AV e.snd g.Bw),e.fst,a)))
def AIZ(h:((List AY)×Int×Int)->AA (Int×(List AY)))(q:((List AY)×Int×Int)):AA (Int×(List AY)):=match q with |(e,g,c)=>bd (at? e c) fun j=>bd (at? e c) fun a=>jn (Aod h) ((List.set e c.toNat (AY.mk (A9.mk a.AV.Total a.AV.DT a.AV.EH a.AV.Ep (w64 (g+1))) a.Row a.Bw),w64 (g+1),c))
def AIY(h:((List AY)×Int×Int)->AA (Int×(List AY)))(q:((List AY)×Int×Int)):AA (Int×(List AY)):=match q with |(e,g,c)=>bd (at? e c) fun j=>bd (at? e c) fun a=>jn (AIZ h) ((List.set e c.toNat (AY.mk (A9.mk a.AV.Total a.AV.DT a.AV.EH (w64 (g+1)) a.AV.E8) a.Row a.Bw),w64 (g+1),c))
def sI(h:((List AY)×Int×Int)->AA (Int×(List AY)))(q:((List AY)×Int×Int)):AA (Int×(List AY)):=match q with |(e,g,c)=>bd (at? e c) fun j=>bd (at? e c) fun a=>jn (AIY h) ((List.set e c.toNat (AY.mk (A9.mk a.AV.Total a.AV.DT (w64 (g+1)) a.AV.Ep a.AV.E8) a.Row a.Bw),w64 (g+1),c))
def Aoc(h:((List AY)×Int×Int)->AA (Int×(List AY)))(q:((List AY)×Int×Int)):AA (Int×(List AY)):=match q with |(e,g,c)=>bd (at? e c) fun j=>bd (at? e c) fun a=>jn (sI h) ((List.set e c.toNat (AY.mk (A9.mk a.AV.Total (w64 (g+1)) a.AV.EH a.AV.Ep a.AV.E8) a.Row a.Bw),w64 (g+1),c))
def A4r(e:((List AY)×Int)):AA (Int×(List AY)):=match e with |(a,c)=>some (c,a)
def sJ(h:((List AY)×Int×Int)->AA (Int×(List AY)))(j:((List AY)×Int×Int)):AA (Int×(List AY)):=match j with |(c,g,e)=>br (decide (e<(↑(List.length c):Int))) (bd (at? c e) fun q=>bd (at? c e) fun a=>jn (Aoc h) ((List.set c e.toNat (AY.mk (A9.mk g a.AV.DT a.AV.EH a.AV.Ep a.AV.E8) a.Row a.Bw),g,e))) (jn A4r (c,g))
def AIX(a:List AY)(c:Int):AA (Int×(List AY)):=A4 (sJ) big (a,c,0)
def OV:GF:=gZ [.m (.l (.st 7)),.v .i] Cm Bz 0x1ecdff9ef92d9f5f18f92f5a2fac4714d84855338db4f254d6ce139e961cdda5ba0bf233bb0c70d4146eaf7e1ea23c6c95c205b3c336d62d97f64f0648694893e838a239769e6356fbc24933dca1abced30689ef2368e03befe08fb38bd7253ae1bed270a2c69749a851dfce851cca91ca6059fc75d40e6a85c63b27e749ef254057c6ca336e43bffe144ec1285b84dfe30d500f09d66f84f21cd22f18a991e2bf [Xl,OU] (Ah AIX)
def AA7(a:AD)(q:Int):AA (Int×AD):=bd (AA5 a.AO q) fun c=>bd (AA6 a.AG c.fst) fun e=>bd (AIX a.AI e.fst) fun g=>bd (AIQ a.BC g.fst) fun h=>bd (AIQ a.A8 h.fst) fun j=>some ((j.fst,AD.mk (AZ.mk c.snd.AV a.AO.CJ a.AO.Room a.AO.A2 a.AO.CB a.AO.Bq a.AO.Rest a.AO.CL a.AO.Cs) a.Now a.Ap e.snd g.snd h.snd j.snd))
def Xm:GF:=gZ [.m (.st 8),.v .i] Cm Bz 0x443cc0145d967a546200c19e559a6cac5f04ff0fa984784c7934532366e2f00a8a7f48604985b2e8705f15fa8c [SR,SS,OV,SQ] (Ah AA7)
def AYH(a:Int):AA Int:=some a
def AYK(e:List Int)(g:(Int×Int)->AA Int)(j:(Int×Int)):AA Int:=match j with |(a,c)=>br (decide (c<(↑e.length:Int))) (bd (at? e c) fun h=>br (h != a) (some (-1)) (g ((w64 (a+1),w64 (c+1))))) (jn AYH a)
def AYG(a:List Int)(c:Int):AA Int:=A4 (AYK a) big (c,0)
def Xn:GF:=gZ nU Cm Bz 0xcd4524f41879ace8a054489b27fdab13c075841d223d02f53a5922bf22dbcb0479b3c268964163 [] (Ah AYG)
def AQ0(a:AZ):AA AZ:=gd (0+a.AV.length<=lim) (some (AZ.mk ([]++a.AV) a.CJ a.Room a.A2 a.CB a.Bq a.Rest a.CL a.Cs))
def Xo:GF:=gZ dK Qc CO 0x6222eb4a84e8a87457889aeb0285d9caa999f8a63a [] (BL AQ0)
def A1n(a:An):AA An:=some a
def A1o(e:(Int×An)->AA An)(g:(Int×An)):AA An:=match g with |(c,a)=>br (decide (c<9)) (gd (a.Ak.length+1<=lim) (e ((w64 (c+1),An.mk (a.Ak++[[]]))))) (jn A1n a)
def A2w:AA An:=A4 (A1o) big (0,An.mk [])
def AA8(a:List Int):AA (List Int):=gd (0+a.length<=lim) (some a)
def AZB:GF:=gZ ACR A4O b0 0x7b25a7d7574af4005624 [] (BL AA8)
def AQ1(a:AZ):AA AZ:=bd (AA8 a.AV) fun c=>some (AZ.mk c a.CJ a.Room a.A2 a.CB a.Bq a.Rest a.CL a.Cs)
def Xp:GF:=gZ dK Qc CO 0x26cd2f2ecf42ba3e93a0165842d2505f7857 [AZB] (BL AQ1)
def A2t:AA An:=some (An.mk (List.replicate (Int.toNat 9) []))
def sO(a:Bu):AA Bu:=bd (Tj a) fun c=>br (!c) (some a) (some (Bu.mk a.Data (↑a.Data.length:Int)))
def lJ:GF:=gZ Aqi mz A4Y 0xa6258e0e79401bdc35f2aabdbbbb8e34edf93f17f0e105ebe860e2 [Ku] (BL sO)
def A4w(g:((List BX)×Int×Int)->AA (Int×(List BX)))(h:((List BX)×Int×Int)):AA (Int×(List BX)):=match h with |(a,c,e)=>g ((a,w64 (c+1),w64 (e+1)))
def A4v(h:((List BX)×Int×Int)->AA (Int×(List BX)))(q:((List BX)×Int×Int)):AA (Int×(List BX)):=match q with |(e,g,c)=>bd (at? e c) fun j=>bd (at? e c) fun a=>jn (A4w h) ((List.set e c.toNat (BX.mk a.Kind a.Id a.Aa a.Bl a.A2 (w64 (g+1))),w64 (g+1),c))
def A4u(h:((List BX)×Int×Int)->AA (Int×(List BX)))(q:((List BX)×Int×Int)):AA (Int×(List BX)):=match q with |(e,g,c)=>bd (at? e c) fun j=>bd (at? e c) fun a=>jn (A4v h) ((List.set e c.toNat (BX.mk a.Kind a.Id a.Aa a.Bl (w64 (g+1)) a.Cj),w64 (g+1),c))
def A4t(h:((List BX)×Int×Int)->AA (Int×(List BX)))(q:((List BX)×Int×Int)):AA (Int×(List BX)):=match q with |(e,g,c)=>bd (at? e c) fun j=>bd (at? e c) fun a=>jn (A4u h) ((List.set e c.toNat (BX.mk a.Kind a.Id a.Aa (w64 (g+1)) a.A2 a.Cj),w64 (g+1),c))
def A4s(h:((List BX)×Int×Int)->AA (Int×(List BX)))(q:((List BX)×Int×Int)):AA (Int×(List BX)):=match q with |(e,g,c)=>bd (at? e c) fun j=>bd (at? e c) fun a=>jn (A4t h) ((List.set e c.toNat (BX.mk a.Kind a.Id (w64 (g+1)) a.Bl a.A2 a.Cj),w64 (g+1),c))
def Awa(h:((List BX)×Int×Int)->AA (Int×(List BX)))(q:((List BX)×Int×Int)):AA (Int×(List BX)):=match q with |(e,g,c)=>bd (at? e c) fun j=>bd (at? e c) fun a=>jn (A4s h) ((List.set e c.toNat (BX.mk a.Kind (w64 (g+1)) a.Aa a.Bl a.A2 a.Cj),w64 (g+1),c))
def A3E(e:((List BX)×Int)):AA (Int×(List BX)):=match e with |(a,c)=>some (c,a)
def AtF(h:((List BX)×Int×Int)->AA (Int×(List BX)))(j:((List BX)×Int×Int)):AA (Int×(List BX)):=match j with |(a,g,c)=>br (decide (c<(↑(List.length a):Int))) (bd (at? a c) fun q=>bd (at? a c) fun e=>jn (Awa h) ((List.set a c.toNat (BX.mk g e.Id e.Aa e.Bl e.A2 e.Cj),g,c))) (jn A3E (a,g))
def AYN(a:List BX)(c:Int):AA (Int×(List BX)):=A4 (AtF) big (a,c,0)
def AD6:GF:=gZ [.m (.l (.st 0)),.v .i] Cm Bz 0x1a02faffce332aa09f4f8a111397868d6f50946f120aa4d14851827e15f724ad425984f6f549e36258b8aeeefa5b0ddb93a16f0b88c8c3c87d2c95eca60136328dbfd77eb59fb57864a0fe6db86d1a87bf72b5ac17f15ee5298248aeb9c754715c9bd582cd838399511361775640c81fb708c664f567f5d59fbd279b4ec1e5b4f7e13559539 [] (Ah AYN)
def AQ2(a:Ae)(g:Int):AA (Int×Ae):=bd (AA7 a.BD g) fun c=>bd (AYN a.Laid c.fst) fun e=>some ((e.fst,Ae.mk (AD.mk (AZ.mk c.snd.AO.AV a.BD.AO.CJ a.BD.AO.Room a.BD.AO.A2 a.BD.AO.CB a.BD.AO.Bq a.BD.AO.Rest a.BD.AO.CL a.BD.AO.Cs) a.BD.Now a.BD.Ap c.snd.AG c.snd.AI c.snd.BC c.snd.A8) a.BO a.Seq e.snd))
def AD7:GF:=gZ [.m (.st 11),.v .i] Cm Bz 0x2b2c87600b03c1105f6ec102669ded18eb2c6439df4 [Xm,AD6] (Ah AQ2)
def AQ3(c:AZ)(e:Int):AA Int:=bd (AYG c.AV e) fun a=>br (decide (a<0)) (some (-1)) (some a)
def AD8:GF:=gZ [.v (.st 1),.v .i] Cm Bz 0x9f535643b9879a6c150705ecf54048567ee89e7 [Xn] (Ah AQ3)
def AIo(a:Int):AA Int:=some a
def fh(e:List AK)(y:(Int×Int)->AA Int)(L:(Int×Int)):AA Int:=match L with |(a,c)=>br (decide (c<(↑e.length:Int))) (bd (at? e c) fun B=>br (B.Id != a) (some (-1)) (bd (at? e c) fun E=>br (E.Aa != w64 (a+1)) (some (-1)) (bd (at? e c) fun G=>br (G.Bl != w64 (w64 (a+1)+1)) (some (-1)) (bd (at? e c) fun H=>br (H.A2 != w64 (w64 (w64 (a+1)+1)+1)) (some (-1)) (bd (at? e c) fun I=>br (I.Cj != w64 (w64 (w64 (w64 (a+1)+1)+1)+1)) (some (-1)) (bd (at? e c) fun J=>br (J.Since != w64 (w64 (w64 (w64 (w64 (a+1)+1)+1)+1)+1)) (some (-1)) (bd (at? e c) fun g=>br (g.Ap != w64 (w64 (w64 (w64 (w64 (w64 (a+1)+1)+1)+1)+1)+1)) (some (-1)) (bd (at? e c) fun h=>br (h.State != w64 (w64 (w64 (w64 (w64 (w64 (w64 (a+1)+1)+1)+1)+1)+1)+1)) (some (-1)) (bd (at? e c) fun j=>br (j.Cf != w64 (w64 (w64 (w64 (w64 (w64 (w64 (w64 (a+1)+1)+1)+1)+1)+1)+1)+1)) (some (-1)) (bd (at? e c) fun q=>br (q.Cu != w64 (w64 (w64 (w64 (w64 (w64 (w64 (w64 (w64 (a+1)+1)+1)+1)+1)+1)+1)+1)+1)) (some (-1)) (y ((w64 (w64 (w64 (w64 (w64 (w64 (w64 (w64 (w64 (w64 (a+1)+1)+1)+1)+1)+1)+1)+1)+1)+1),w64 (c+1)))))))))))))) (jn AIo a)
def AQ4(a:List AK)(c:Int):AA Int:=A4 (fh a) big (c,0)
def AD9:GF:=gZ Wb Cm Bz 0x2f5f068cc69d321f4b9f2e7cd073b94c9d8deac29630d6853735c6d818d22f4d3a695d60100aa7743a617c3c2ea8da0bb46216ae4de5648016127844d877fe94f8c640bd553cb2c3ec3dbc9712908592ab7b285d5351ffe579a0ce2610c814dff175018b6680082a9820ad996247fefb7cee24eb2c1f0b310b83e997ac21b3268bff2ad2e54a4aad6bf59c08addfefdad2fb57b74aa63adb1f9c82e405f79c3430c06c1be6c1f663da978f1042e2e4df8446fb686f8e660a6483bd404eabd0a2eb72da608908d495848947368efd6a5272478c528 [] (Ah AQ4)
def AIq(a:Int):AA Int:=some a
def fj(e:List Ad)(g:(Int×Int)->AA Int)(B:(Int×Int)):AA Int:=match B with |(a,c)=>br (decide (c<(↑e.length:Int))) (bd (at? e c) fun h=>br (h.Level != a) (some (-1)) (bd (at? e c) fun j=>br (j.Ap != w64 (a+1)) (some (-1)) (bd (at? e c) fun q=>br (q.Id != w64 (w64 (a+1)+1)) (some (-1)) (bd (at? e c) fun y=>br (y.A2 != w64 (w64 (w64 (a+1)+1)+1)) (some (-1)) (g ((w64 (w64 (w64 (w64 (a+1)+1)+1)+1),w64 (c+1)))))))) (jn AIq a)
def AQ5(a:List Ad)(c:Int):AA Int:=A4 (fj a) big (c,0)
def AEA:GF:=gZ ALa Cm Bz 0x9d0ccbcee09692bba89fa57fe09f25c34d6e2812ec157710b09f48f9410458431a9d0106b1aba76812eac51cbccc749d0f2e6bbb5d6522b44043a1bfceb7148b88c492291635d3cfb7555bd75b0d37d18ef28fa0b02e9a5ebdfdf64613a725a1d4d [] (Ah AQ5)
def AIr(a:Int):AA Int:=some a
def fk(e:List A6)(g:(Int×Int)->AA Int)(q:(Int×Int)):AA Int:=match q with |(a,c)=>br (decide (c<(↑e.length:Int))) (bd (at? e c) fun h=>br (h.At != a) (some (-1)) (bd (at? e c) fun j=>br (j.Id != w64 (a+1)) (some (-1)) (g ((w64 (w64 (a+1)+1),w64 (c+1)))))) (jn AIr a)
def AQ6(a:List A6)(c:Int):AA Int:=A4 (fk a) big (c,0)
def AEB:GF:=gZ [.v (.l (.st 5)),.v .i] Cm Bz 0x58dedc71af8b2290aa67e79980c820a74c06fc8b178151063b044168dfcddfa9aaeb716a9aa8e3510d6fba387bbcdedaa3d53f505d877849024a [] (Ah AQ6)
def AmC(a:Int):AA Int:=some a
def AmD(c:List (List A6))(h:(Int×Int)->AA Int)(q:(Int×Int)):AA Int:=match q with |(e,a)=>br (decide (a<(↑c.length:Int))) (bd (at? c a) fun j=>bd (AQ6 j e) fun g=>br (decide (g<0)) (some (-1)) (h ((g,w64 (a+1))))) (jn AmC e)
def AIy(a:List (List A6))(c:Int):AA Int:=A4 (AmD a) big (c,0)
def xI:GF:=gZ Ae8 Cm Bz 0x9465cac7c81de1716595e24243fb704f5a637d48acd55411cf821ba615216a374c752c0a47b64f [AEB] (Ah AIy)
def AIz(a:Int):AA Int:=some a
def sT(c:List AY)(q:(Int×Int)->AA Int)(J:(Int×Int)):AA Int:=match J with |(e,a)=>br (decide (a<(↑c.length:Int))) (bd (at? c a) fun y=>br (y.AV.Total != e) (some (-1)) (bd (at? c a) fun B=>br (B.AV.DT != w64 (e+1)) (some (-1)) (bd (at? c a) fun E=>br (E.AV.EH != w64 (w64 (e+1)+1)) (some (-1)) (bd (at? c a) fun G=>br (G.AV.Ep != w64 (w64 (w64 (e+1)+1)+1)) (some (-1)) (bd (at? c a) fun H=>br (H.AV.E8 != w64 (w64 (w64 (w64 (e+1)+1)+1)+1)) (some (-1)) (bd (at? c a) fun I=>bd (AQ5 I.Row (w64 (w64 (w64 (w64 (w64 (e+1)+1)+1)+1)+1))) fun g=>br (decide (g<0)) (some (-1)) (bd (at? c a) fun j=>bd (AIy j.Bw.Ak g) fun h=>br (decide (h<0)) (some (-1)) (q ((h,w64 (a+1))))))))))) (jn AIz e)
def sS(a:List AY)(c:Int):AA Int:=A4 (sT a) big (c,0)
def lK:GF:=gZ [.v (.l (.st 7)),.v .i] Cm Bz 0x1132530f0680faf67aec9a727087acc92791c7ab8dd5d7c429223513e9f6b404b207f187d4209b591da2702135b506abc5d5fa8cf1f5430f66b810dabdb83fb53bb4dc9652eb4b5e030c141f15099ffd313e065561b732f89384a7da4363526df623e76693b8d656d1da3098da56b890588c773f69dd1497f05be6a6b7441d76438c53d0d3728cc9cb2fcf5accc1cd03c02700ccfcd18f7d49583378ad51ea353ea3eee9022c72e61433c4d [AEA,xI] (Ah sS)
def HB(a:AD)(q:Int):AA Int:=bd (AQ3 a.AO q) fun c=>br (decide (c<0)) (some (-1)) (bd (AQ4 a.AG c) fun e=>br (decide (e<0)) (some (-1)) (bd (sS a.AI e) fun g=>br (decide (g<0)) (some (-1)) (bd (AYG a.BC g) fun h=>br (decide (h<0)) (some (-1)) (bd (AYG a.A8 h) fun j=>br (decide (j<0)) (some (-1)) (some j)))))
def VG:GF:=gZ IE Cm Bz 0x1b24ad8244b1c9c3ddbc087f1080c058071744c8a46563258447895431bf2903e3a4f803eb1a6895aec9b9e58a12ca7f1d40b625b31986abd267676ab768112ffb55b285b84ce857c3b16c424e1 [AD8,AD9,lK,Xn] (Ah HB)
def A4e(a:Int):AA Int:=some a
def A29(e:List BX)(g:(Int×Int)->AA Int)(G:(Int×Int)):AA Int:=match G with |(a,c)=>br (decide (c<(↑e.length:Int))) (bd (at? e c) fun h=>br (h.Kind != a) (some (-1)) (bd (at? e c) fun j=>br (j.Id != w64 (a+1)) (some (-1)) (bd (at? e c) fun q=>br (q.Aa != w64 (w64 (a+1)+1)) (some (-1)) (bd (at? e c) fun y=>br (y.Bl != w64 (w64 (w64 (a+1)+1)+1)) (some (-1)) (bd (at? e c) fun B=>br (B.A2 != w64 (w64 (w64 (w64 (a+1)+1)+1)+1)) (some (-1)) (bd (at? e c) fun E=>br (E.Cj != w64 (w64 (w64 (w64 (w64 (a+1)+1)+1)+1)+1)) (some (-1)) (g ((w64 (w64 (w64 (w64 (w64 (w64 (a+1)+1)+1)+1)+1)+1),w64 (c+1)))))))))) (jn A4e a)
def AQu(a:List BX)(c:Int):AA Int:=A4 (A29 a) big (c,0)
def ANi:GF:=gZ [.v (.l (.st 0)),.v .i] Cm Bz 0x28df4905c55aedf0cc1a3a1d842784a62b0b6d221b04b1376e9da4b8d1cfe94dcd192fe7b3066405d5a133cd2b6807a8fb3929c767d05882933a4029a145d043cfc0005631fdb5c1b1870f695c4dfd2565e98d470e2702d14b78da9a811afbab7166f43618664268fbd9e72e46c4e7c746ec15b4e209192462b4e0eb2c2352b94406d6310ed57a4a5f [] (Ah AQu)
def rl(a:Ae)(g:Int):AA Int:=bd (HB a.BD g) fun c=>br (decide (c<0)) (some (-1)) (bd (AQu a.Laid c) fun e=>br (decide (e<0)) (some (-1)) (some e))
def QR:GF:=gZ [.v (.st 11),.v .i] Cm Bz 0x5d1e0010464c727ef606347201210fac8026c3a0c688c04059e8484c5425b64401 [VG,ANi] (Ah rl)
def AQv(a:CE)(c:CE):AA Bool:=br (a.Code != c.Code) (some false) (bd (nE a.Ids c.Ids) fun e=>br (!e) (some false) (some true))
def ANj:GF:=gZ [.v (.st 12),.v (.st 12)] Ob Bz 0x8a53d474f4f1dd927b154bf9eea9d967786e8e76f5f9 [VD] (Ah AQv)
end Lv
set_option maxRecDepth 100000
namespace Lv
open Go (IntKind BinOp UnOp)
open Y (YF qn qf qt qr q1 qd qm qa qo ql qL qb qi qx qp qq qc qz qe qk qK qB qw qu qj Kp wn wf wt w1 sw sq sr wm wM wo wO wl wL wk wK wz wZ wx wX wb wB wi wI wr wR wq wQ we wE wc wY wj wh cv ca cx cn ce bl)
def AID(a:An):AA An:=some a
def AIF(g:An)(h:(Int×An)->AA An)(j:(Int×An)):AA An:=match j with |(a,c)=>br (decide (a<(↑g.Ak.length:Int))) (bd (at? g.Ak a) fun e=>gd (0+List.length e<=lim) (gd (c.Ak.length+[[]++e].length<=lim) (h ((w64 (a+1),An.mk (c.Ak++[[]++e])))))) (jn AID c)
def AA3(a:An):AA An:=A4 (AIF a) big (0,An.mk [])
def AD5:GF:=gZ Amw Aid A5E 0x3cb1d31e1b499e25b752d9bda9f9c8e0a7b26d6479abe589280f041b47782fa8c9e906a1e7c748d2b93a22a0987bc873192ccc758d9c6a283a5bc9fef8dd9d8a9895d0f98767c44766914f28634 [] (BL AA3)
def AQw(a:AY):AA AY:=bd (bR a.Row) fun c=>bd (AA3 a.Bw) fun e=>some (AY.mk a.AV c e)
def ANk:GF:=gZ AvT AvU A5F 0x4eef078408cadcf113dc0771b36032be5fcbe99a2a69dc2dd63634c574377002a [Mo,AD5] (BL AQw)
def A2y:Y.YOp []:=.app 19 .i true (.tmp 16) (.tmp 18)
def A09:Y.YOp []:=.app 15 (.st 2) true (.tmp 12) (.tmp 14)
def ez:Y.YOp []:=.call 7 Xo [] rfl [(.tmp 6)]
def A5H:Y.B2 []:=(.op 21 none [] (.st 15 (.tmp 3) (.tmp 24)) (.dr [5,6,7,8,9,10,11,12,13,14,15,16,17,18,19,20,21,22,23,24] .nil))
def A8J:=fun a=>((.op 20 none [5,8,10,13,17,21] (.alloc 3 EW) (.nl [(.cell 3 0,.i),(.cell 3 11,(.st 2)),(.cell 3 12,(.st 7)),(.cell 3 13,.i),(.cell 3 14,.i)] a)):Y.B2 [])
def A7p:Y.B2 []:=A8J A5H
def A8K:=fun a=>((.op 19 none [] (.build 24 EW [(0,9,(.tmp 7)),(9,1,(.tmp 9)),(10,1,(.tmp 11)),(11,1,(.tmp 15)),(13,1,(.tmp 19)),(14,1,(.tmp 23))]) (.nl [(.tmp 24 12,(.st 7))] a)):Y.B2 [])
def A7q:Y.B2 []:=A8K A7p
def A7r:Y.B2 []:=(.op 18 none [8,10] (.app 23 .i true (.tmp 20) (.tmp 22)) A7q)
def A7s:Y.B2 []:=A8K A5H
def A4Z:Y.B2 []:=(.op 18 none [8,10] (.app 23 .i true (.tmp 20) (.tmp 22)) A7s)
def A7t:Y.B2 []:=A8J A4Z
def A8M:=fun a b=>((.both 1 a b):Y.B2 [])
def A5I:Y.B2 []:=A8M A7r A7t
def A8N:=fun a b c=>((.op a none [5,8,10,13,17,21] (.B7 b 0 .i []) c):Y.B2 [])
def A7u:Y.B2 []:=A8N 15 20 A5I
def A5J:Y.B2 []:=A8N 15 20 A4Z
def A6j:Y.B2 []:=A8J A5J
def A6k:Y.B2 []:=A8M A7u A6j
def A8O:=fun a=>((.op 14 none [8,10,21] A2y a):Y.B2 [])
def A6l:Y.B2 []:=A8O A6k
def A6m:Y.B2 []:=A8O A5I
def A2L:Y.B2 []:=A8O A4Z
def A6n:Y.B2 []:=A8J A2L
def A3k:Y.B2 []:=A8M A6m A6n
def A6o:Y.B2 []:=A8N 15 20 A3k
def A6p:Y.B2 []:=A8O A5J
def A6q:Y.B2 []:=A8N 15 20 A2L
def A3l:Y.B2 []:=A8M A6p A6q
def A6r:Y.B2 []:=A8J A3l
def A6s:Y.B2 []:=A8M A6o A6r
def A44:Y.B2 []:=A8M A6l A6s
def A6t:Y.B2 []:=A8N 11 16 A44
def A6u:Y.B2 []:=A8N 11 16 A3k
def A3m:Y.B2 []:=A8N 11 16 A2L
def A6v:Y.B2 []:=A8J A3m
def A45:Y.B2 []:=A8M A6u A6v
def A6w:Y.B2 []:=A8N 15 20 A45
def A6x:Y.B2 []:=A8N 11 16 A3l
def A6y:Y.B2 []:=A8N 15 20 A3m
def A46:Y.B2 []:=A8M A6x A6y
def A6z:Y.B2 []:=A8J A46
def A60:Y.B2 []:=A8M A6w A6z
def A61:Y.B2 []:=A8M A6t A60
def A8P:=fun a=>((.op 10 none [8,10,17,21] A09 a):Y.B2 [])
def A62:Y.B2 []:=A8P A61
def A63:Y.B2 []:=A8P A44
def A64:Y.B2 []:=A8P A3k
def A1U:Y.B2 []:=A8P A2L
def A65:Y.B2 []:=A8J A1U
def A2M:Y.B2 []:=A8M A64 A65
def A66:Y.B2 []:=A8N 15 20 A2M
def A67:Y.B2 []:=A8P A3l
def A68:Y.B2 []:=A8N 15 20 A1U
def A2N:Y.B2 []:=A8M A67 A68
def A69:Y.B2 []:=A8J A2N
def A7A:Y.B2 []:=A8M A66 A69
def A3n:Y.B2 []:=A8M A63 A7A
def A7B:Y.B2 []:=A8N 11 16 A3n
def A7C:Y.B2 []:=A8P A45
def A7D:Y.B2 []:=A8N 11 16 A2M
def A7E:Y.B2 []:=A8P A3m
def A7F:Y.B2 []:=A8N 11 16 A1U
def A2O:Y.B2 []:=A8M A7E A7F
def A7G:Y.B2 []:=A8J A2O
def A7H:Y.B2 []:=A8M A7D A7G
def A3o:Y.B2 []:=A8M A7C A7H
def A7I:Y.B2 []:=A8N 15 20 A3o
def A7J:Y.B2 []:=A8P A46
def A7K:Y.B2 []:=A8N 11 16 A2N
def A7L:Y.B2 []:=A8N 15 20 A2O
def A7M:Y.B2 []:=A8M A7K A7L
def A3p:Y.B2 []:=A8M A7J A7M
def A7N:Y.B2 []:=A8J A3p
def A7O:Y.B2 []:=A8M A7I A7N
def A7P:Y.B2 []:=A8M A7B A7O
def A47:Y.B2 []:=A8M A62 A7P
def A8Q:=fun a=>((.op 7 none [5,8,10,13,17,21] (.B7 12 0 (.st 2) []) a):Y.B2 [])
def A7Q:Y.B2 []:=A8Q A47
def A7R:Y.B2 []:=A8Q A3n
def A7S:Y.B2 []:=A8Q A2M
def A2P:Y.B2 []:=A8Q A1U
def A7T:Y.B2 []:=A8J A2P
def A3q:Y.B2 []:=A8M A7S A7T
def A7U:Y.B2 []:=A8N 15 20 A3q
def A7V:Y.B2 []:=A8Q A2N
def A7W:Y.B2 []:=A8N 15 20 A2P
def A3r:Y.B2 []:=A8M A7V A7W
def A7X:Y.B2 []:=A8J A3r
def A7Y:Y.B2 []:=A8M A7U A7X
def A48:Y.B2 []:=A8M A7R A7Y
def A7Z:Y.B2 []:=A8N 11 16 A48
def A7a:Y.B2 []:=A8Q A3o
def A7b:Y.B2 []:=A8N 11 16 A3q
def A7c:Y.B2 []:=A8Q A2O
def A7d:Y.B2 []:=A8N 11 16 A2P
def A3s:Y.B2 []:=A8M A7c A7d
def A7e:Y.B2 []:=A8J A3s
def A7f:Y.B2 []:=A8M A7b A7e
def A49:Y.B2 []:=A8M A7a A7f
def A7g:Y.B2 []:=A8N 15 20 A49
def A7h:Y.B2 []:=A8Q A3p
def A7i:Y.B2 []:=A8N 11 16 A3r
def A7j:Y.B2 []:=A8N 15 20 A3s
def A7k:Y.B2 []:=A8M A7i A7j
def A5A:Y.B2 []:=A8M A7h A7k
def A7l:Y.B2 []:=A8J A5A
def A7m:Y.B2 []:=A8M A7g A7l
def A7n:Y.B2 []:=A8M A7Z A7m
def A7o:Y.B2 []:=A8M A7Q A7n
def A8R:=fun a=>((.op 2 none [8,10,13,17,21] ez a):Y.B2 [])
def A5K:Y.B2 []:=A8R A7o
def A5L:Y.B2 []:=A8R A47
def A5M:Y.B2 []:=A8R A3n
def A5N:Y.B2 []:=A8R A2M
def A1W:Y.B2 []:=A8R A1U
def A5O:Y.B2 []:=A8J A1W
def A2n:Y.B2 []:=A8M A5N A5O
def A5P:Y.B2 []:=A8N 15 20 A2n
def A5Q:Y.B2 []:=A8R A2N
def A5R:Y.B2 []:=A8N 15 20 A1W
def A2o:Y.B2 []:=A8M A5Q A5R
def A5S:Y.B2 []:=A8J A2o
def A5T:Y.B2 []:=A8M A5P A5S
def A4P:Y.B2 []:=A8M A5M A5T
def A5U:Y.B2 []:=A8N 11 16 A4P
def A5V:Y.B2 []:=A8R A3o
def A5W:Y.B2 []:=A8N 11 16 A2n
def A5X:Y.B2 []:=A8R A2O
def A5Y:Y.B2 []:=A8N 11 16 A1W
def A2p:Y.B2 []:=A8M A5X A5Y
def A5Z:Y.B2 []:=A8J A2p
def A5a:Y.B2 []:=A8M A5W A5Z
def A4Q:Y.B2 []:=A8M A5V A5a
def A5b:Y.B2 []:=A8N 15 20 A4Q
def A5c:Y.B2 []:=A8R A3p
def A5d:Y.B2 []:=A8N 11 16 A2o
def A5e:Y.B2 []:=A8N 15 20 A2p
def A5f:Y.B2 []:=A8M A5d A5e
def A4R:Y.B2 []:=A8M A5c A5f
def A5g:Y.B2 []:=A8J A4R
def A5h:Y.B2 []:=A8M A5b A5g
def A5i:Y.B2 []:=A8M A5U A5h
def A5j:Y.B2 []:=A8M A5L A5i
def A5k:Y.B2 []:=A8Q A5j
def A5l:Y.B2 []:=A8R A48
def A5m:Y.B2 []:=A8Q A4P
def A5n:Y.B2 []:=A8R A3q
def A5o:Y.B2 []:=A8Q A2n
def A5p:Y.B2 []:=A8R A2P
def A5q:Y.B2 []:=A8Q A1W
def A2q:Y.B2 []:=A8M A5p A5q
def A5r:Y.B2 []:=A8J A2q
def A5s:Y.B2 []:=A8M A5o A5r
def A4S:Y.B2 []:=A8M A5n A5s
def A5t:Y.B2 []:=A8N 15 20 A4S
def A5u:Y.B2 []:=A8R A3r
def A5v:Y.B2 []:=A8Q A2o
def A5w:Y.B2 []:=A8N 15 20 A2q
def A5x:Y.B2 []:=A8M A5v A5w
def A4T:Y.B2 []:=A8M A5u A5x
def A5y:Y.B2 []:=A8J A4T
def A5z:Y.B2 []:=A8M A5t A5y
def A50:Y.B2 []:=A8M A5m A5z
def A51:Y.B2 []:=A8M A5l A50
def A52:Y.B2 []:=A8N 11 16 A51
def A53:Y.B2 []:=A8R A49
def A54:Y.B2 []:=A8Q A4Q
def A55:Y.B2 []:=A8N 11 16 A4S
def A56:Y.B2 []:=A8R A3s
def A57:Y.B2 []:=A8Q A2p
def A58:Y.B2 []:=A8N 11 16 A2q
def A59:Y.B2 []:=A8M A57 A58
def A4U:Y.B2 []:=A8M A56 A59
def A6A:Y.B2 []:=A8J A4U
def A6B:Y.B2 []:=A8M A55 A6A
def A6C:Y.B2 []:=A8M A54 A6B
def A6D:Y.B2 []:=A8M A53 A6C
def A6E:Y.B2 []:=A8N 15 20 A6D
def A6F:Y.B2 []:=A8R A5A
def A6G:Y.B2 []:=A8Q A4R
def A6H:Y.B2 []:=A8N 11 16 A4T
def A6I:Y.B2 []:=A8N 15 20 A4U
def A6J:Y.B2 []:=A8M A6H A6I
def A6K:Y.B2 []:=A8M A6G A6J
def A6L:Y.B2 []:=A8M A6F A6K
def A6M:Y.B2 []:=A8J A6L
def A6N:Y.B2 []:=A8M A6E A6M
def A6O:Y.B2 []:=A8M A52 A6N
def A6P:Y.B2 []:=A8M A5k A6O
def A6Q:Y.B2 []:=A8M A5K A6P
def A6R:Y.B2 []:=(.op 17 none [] (.ld 22 none (.tmp 21)) A6Q)
def A6S:Y.B2 []:=(.op 16 none [] (.fa 21 14 (.tmp 1)) A6R)
def A6T:Y.B2 []:=(.op 13 none [] (.ld 18 none (.tmp 17)) A6S)
def A6U:Y.B2 []:=(.op 12 none [] (.fa 17 13 (.tmp 1)) A6T)
def A6V:Y.B2 []:=(.op 9 none [] (.ld 14 none (.tmp 13)) A6U)
def A6W:Y.B2 []:=(.op 8 none [] (.fa 13 11 (.tmp 1)) A6V)
def A6X:Y.B2 []:=(.op 6 none [] (.ld 11 none (.tmp 10)) A6W)
def A6Y:Y.B2 []:=(.op 5 none [] (.fa 10 10 (.tmp 1)) A6X)
def A6Z:Y.B2 []:=(.op 4 none [] (.ld 9 none (.tmp 8)) A6Y)
def A6a:Y.B2 []:=(.op 3 none [] (.fa 8 9 (.tmp 1)) A6Z)
def A6b:Y.B2 []:=(.op 1 none [] (.ld 6 (some 9) (.tmp 5)) A6a)
def A6c:Y.B2 []:=(.op 0 none [] (.fa 5 0 (.tmp 1)) A6b)
def A71:YF:=⟨[],[.v (.st 8)],[],.ret [(.st 8)],[.cell 2 (some 15)],sq [qu 1 0,.alloc 2 EW,.Zk [(.cell 2 0,.i),(.cell 2 11,(.st 2)),(.cell 2 12,(.st 7)),(.cell 2 13,.i),(.cell 2 14,.i)]] [1,2] (.seq (.RD A6c [1,2,3]) (.join [cx 3 (.st 8)] (sq [qK 4 0] (Kp 30) (bl 0 [cv 4 .i,cx 3 (.st 8)] (.seq (sw 25 [wm 4,wo 12 1,wL,wZ,wB .lss 25] (Kp 536870942) (ce 29 (Kp 30) [2,3] 0)) (.seq (.block 1 (.RD (qd 0 [wn 32 [wo 12 3,wL,wo 12 1,wL,wm 4,wE (.st 7) 35,wK 7]] (.op 7 none [32] (.call 39 ANk [] rfl [(.tmp 38)]) (.op 8 none [32] (.B7 40 1 (.st 7) [(0,(.tmp 39))]) (qd 9 [wn 41 [wh (.app · (.st 7) false (.tmp 33) (.tmp 40)),wo 12 3],qn [qw 1 42 41]] .nil)))) [1,2,3,4])) (qr [wn 30 [wm 4,wI .add 1],qn [qa 4 31]] (Kp 30)))))) (sq [qL 43 15 3,qw 15 2 43] [2] .ret)))⟩
def b5(a:AD)(c:AZ)(X2:AA AD):AA AD:=gd (0+a.A8.length<=lim) (Ci c c (ev6 a.Now a.Ap ([]++a.AG) ([]:List AY) ([]++a.BC) ([]++a.A8) (X2)))
def Hd(a:AD)(c:AZ)(X4:AA AD):AA AD:=gd (0+a.BC.length<=lim) (gd (0+a.A8.length<=lim) (Ci c c (ev6 a.Now a.Ap ([]++a.AG) ([]:List AY) ([]++a.BC) ([]++a.A8) (X4))))
def A4f(a:AD)(c:AZ)(X5:AA AD):AA AD:=gd (0+a.BC.length<=lim) (gd (0+a.A8.length<=lim) (alt (Hd a c) (Ci c c (ev6 a.Now a.Ap ([]++a.AG) ([]:List AY) ([]++a.BC) ([]++a.A8) (X5)))))
def A0p(a:AD)(c:AZ)(X3:AA AD):AA AD:=gd (0+a.BC.length<=lim) (gd (0+a.A8.length<=lim) (alt (b5 a c) (alt (Hd a c) (alt (A4f a c) (Ci c c (ev6 a.Now a.Ap ([]++a.AG) ([]:List AY) ([]++a.BC) ([]++a.A8) (X3)))))))
def A4g(a:AD)(c:AZ)(X7:AA AD):AA AD:=gd (0+a.BC.length<=lim) (gd (0+a.A8.length<=lim) (alt (Hd a c) (alt (Hd a c) (Ci c c (ev6 a.Now a.Ap ([]++a.AG) ([]:List AY) ([]++a.BC) ([]++a.A8) (X7))))))
def A3A(a:AD)(c:AZ)(X6:AA AD):AA AD:=gd (0+a.BC.length<=lim) (gd (0+a.A8.length<=lim) (alt (b5 a c) (alt (Hd a c) (alt (Hd a c) (alt (A4g a c) (Ci c c (ev6 a.Now a.Ap ([]++a.AG) ([]:List AY) ([]++a.BC) ([]++a.A8) (X6))))))))
def Ln(a:AD)(c:AZ)(X10:AA AD):AA AD:=gd (0+a.AG.length<=lim) (gd (0+a.BC.length<=lim) (gd (0+a.A8.length<=lim) (Ci c c (ev6 a.Now a.Ap ([]++a.AG) ([]:List AY) ([]++a.BC) ([]++a.A8) (X10)))))
def A3y(a:AD)(c:AZ)(X11:AA AD):AA AD:=gd (0+a.AG.length<=lim) (gd (0+a.BC.length<=lim) (gd (0+a.A8.length<=lim) (alt (Hd a c) (alt (Ln a c) (Ci c c (ev6 a.Now a.Ap ([]++a.AG) ([]:List AY) ([]++a.BC) ([]++a.A8) (X11)))))))
def A1E(a:AD)(c:AZ)(X9:AA AD):AA AD:=gd (0+a.AG.length<=lim) (gd (0+a.BC.length<=lim) (gd (0+a.A8.length<=lim) (alt (b5 a c) (alt (Hd a c) (alt (Ln a c) (alt (A3y a c) (Ci c c (ev6 a.Now a.Ap ([]++a.AG) ([]:List AY) ([]++a.BC) ([]++a.A8) (X9)))))))))
def A2Y(a:AD)(c:AZ)(X14:AA AD):AA AD:=gd (0+a.AG.length<=lim) (gd (0+a.BC.length<=lim) (gd (0+a.A8.length<=lim) (alt (Ln a c) (Ci c c (ev6 a.Now a.Ap ([]++a.AG) ([]:List AY) ([]++a.BC) ([]++a.A8) (X14))))))
def A0z(a:AD)(c:AZ)(X13:AA AD):AA AD:=gd (0+a.AG.length<=lim) (gd (0+a.BC.length<=lim) (gd (0+a.A8.length<=lim) (alt (b5 a c) (alt (Hd a c) (alt (Ln a c) (alt (A2Y a c) (Ci c c (ev6 a.Now a.Ap ([]++a.AG) ([]:List AY) ([]++a.BC) ([]++a.A8) (X13)))))))))
def A00(a:AD)(c:AZ)(X16:AA AD):AA AD:=gd (0+a.AG.length<=lim) (gd (0+a.BC.length<=lim) (gd (0+a.A8.length<=lim) (alt (Hd a c) (alt (Ln a c) (alt (A2Y a c) (Ci c c (ev6 a.Now a.Ap ([]++a.AG) ([]:List AY) ([]++a.BC) ([]++a.A8) (X16))))))))
def A30(a:AD)(c:AZ)(X15:AA AD):AA AD:=gd (0+a.AG.length<=lim) (gd (0+a.BC.length<=lim) (gd (0+a.A8.length<=lim) (alt (Hd a c) (alt (Hd a c) (alt (A00 a c) (Ci c c (ev6 a.Now a.Ap ([]++a.AG) ([]:List AY) ([]++a.BC) ([]++a.A8) (X15))))))))
def A3z(a:AD)(c:AZ)(X12:AA AD):AA AD:=gd (0+a.AG.length<=lim) (gd (0+a.BC.length<=lim) (gd (0+a.A8.length<=lim) (alt (b5 a c) (alt (Hd a c) (alt (Hd a c) (alt (A0z a c) (alt (A30 a c) (Ci c c (ev6 a.Now a.Ap ([]++a.AG) ([]:List AY) ([]++a.BC) ([]++a.A8) (X12))))))))))
def A3B(a:AD)(c:AZ)(X8:AA AD):AA AD:=gd (0+a.AG.length<=lim) (gd (0+a.BC.length<=lim) (gd (0+a.A8.length<=lim) (alt (b5 a c) (alt (b5 a c) (alt (A0p a c) (alt (A1E a c) (alt (A3z a c) (Ci c c (ev6 a.Now a.Ap ([]++a.AG) ([]:List AY) ([]++a.BC) ([]++a.A8) (X8))))))))))
def A32(a:AD)(c:AZ)(X19:AA AD):AA AD:=gd (0+a.AG.length<=lim) (gd (0+a.BC.length<=lim) (gd (0+a.A8.length<=lim) (alt (Hd a c) (alt (Ln a c) (alt (Ln a c) (Ci c c (ev6 a.Now a.Ap ([]++a.AG) ([]:List AY) ([]++a.BC) ([]++a.A8) (X19))))))))
def A2Z(a:AD)(c:AZ)(X18:AA AD):AA AD:=gd (0+a.AG.length<=lim) (gd (0+a.BC.length<=lim) (gd (0+a.A8.length<=lim) (alt (b5 a c) (alt (Hd a c) (alt (Ln a c) (alt (Ln a c) (alt (A32 a c) (Ci c c (ev6 a.Now a.Ap ([]++a.AG) ([]:List AY) ([]++a.BC) ([]++a.A8) (X18))))))))))
def A2b(a:AD)(c:AZ)(X22:AA AD):AA AD:=gd (0+a.AG.length<=lim) (gd (0+a.BC.length<=lim) (gd (0+a.A8.length<=lim) (alt (Ln a c) (alt (Ln a c) (Ci c c (ev6 a.Now a.Ap ([]++a.AG) ([]:List AY) ([]++a.BC) ([]++a.A8) (X22)))))))
def A2a(a:AD)(c:AZ)(X21:AA AD):AA AD:=gd (0+a.AG.length<=lim) (gd (0+a.BC.length<=lim) (gd (0+a.A8.length<=lim) (alt (b5 a c) (alt (Hd a c) (alt (Ln a c) (alt (Ln a c) (alt (A2b a c) (Ci c c (ev6 a.Now a.Ap ([]++a.AG) ([]:List AY) ([]++a.BC) ([]++a.A8) (X21))))))))))
def A2c(a:AD)(c:AZ)(X24:AA AD):AA AD:=gd (0+a.AG.length<=lim) (gd (0+a.BC.length<=lim) (gd (0+a.A8.length<=lim) (alt (Hd a c) (alt (Ln a c) (alt (Ln a c) (alt (A2b a c) (Ci c c (ev6 a.Now a.Ap ([]++a.AG) ([]:List AY) ([]++a.BC) ([]++a.A8) (X24)))))))))
def A34(a:AD)(c:AZ)(X23:AA AD):AA AD:=gd (0+a.AG.length<=lim) (gd (0+a.BC.length<=lim) (gd (0+a.A8.length<=lim) (alt (Hd a c) (alt (Hd a c) (alt (A00 a c) (alt (A2c a c) (Ci c c (ev6 a.Now a.Ap ([]++a.AG) ([]:List AY) ([]++a.BC) ([]++a.A8) (X23)))))))))
def A33(a:AD)(c:AZ)(X20:AA AD):AA AD:=gd (0+a.AG.length<=lim) (gd (0+a.BC.length<=lim) (gd (0+a.A8.length<=lim) (alt (b5 a c) (alt (Hd a c) (alt (Hd a c) (alt (A0z a c) (alt (A2a a c) (alt (A34 a c) (Ci c c (ev6 a.Now a.Ap ([]++a.AG) ([]:List AY) ([]++a.BC) ([]++a.A8) (X20)))))))))))
def A31(a:AD)(c:AZ)(X17:AA AD):AA AD:=gd (0+a.AG.length<=lim) (gd (0+a.BC.length<=lim) (gd (0+a.A8.length<=lim) (alt (b5 a c) (alt (b5 a c) (alt (A0p a c) (alt (A1E a c) (alt (A2Z a c) (alt (A33 a c) (Ci c c (ev6 a.Now a.Ap ([]++a.AG) ([]:List AY) ([]++a.BC) ([]++a.A8) (X17)))))))))))
def gN(a:AD)(c:AZ)(X31:AA AD):AA AD:=bd (AQ0 a.AO) fun e=>gd (0+a.AG.length<=lim) (gd (0+a.BC.length<=lim) (gd (0+a.A8.length<=lim) (Ci c e (ev6 a.Now a.Ap ([]++a.AG) ([]:List AY) ([]++a.BC) ([]++a.A8) (X31)))))
def A37(a:AD)(e:AZ)(X33:AA AD):AA AD:=bd (AQ0 a.AO) fun c=>gd (0+a.AG.length<=lim) (gd (0+a.BC.length<=lim) (gd (0+a.A8.length<=lim) (alt (Hd a c) (alt (Ln a c) (alt (gN a c) (Ci e c (ev6 a.Now a.Ap ([]++a.AG) ([]:List AY) ([]++a.BC) ([]++a.A8) (X33))))))))
def A2d(a:AD)(e:AZ)(X29:AA AD):AA AD:=bd (AQ0 a.AO) fun c=>gd (0+a.AG.length<=lim) (gd (0+a.BC.length<=lim) (gd (0+a.A8.length<=lim) (alt (b5 a c) (alt (Hd a c) (alt (Ln a c) (alt (gN a c) (alt (A37 a c) (Ci e c (ev6 a.Now a.Ap ([]++a.AG) ([]:List AY) ([]++a.BC) ([]++a.A8) (X29))))))))))
def A2f(a:AD)(e:AZ)(X39:AA AD):AA AD:=bd (AQ0 a.AO) fun c=>gd (0+a.AG.length<=lim) (gd (0+a.BC.length<=lim) (gd (0+a.A8.length<=lim) (alt (Ln a c) (alt (gN a c) (Ci e c (ev6 a.Now a.Ap ([]++a.AG) ([]:List AY) ([]++a.BC) ([]++a.A8) (X39)))))))
def A2e(a:AD)(e:AZ)(X37:AA AD):AA AD:=bd (AQ0 a.AO) fun c=>gd (0+a.AG.length<=lim) (gd (0+a.BC.length<=lim) (gd (0+a.A8.length<=lim) (alt (b5 a c) (alt (Hd a c) (alt (Ln a c) (alt (gN a c) (alt (A2f a c) (Ci e c (ev6 a.Now a.Ap ([]++a.AG) ([]:List AY) ([]++a.BC) ([]++a.A8) (X37))))))))))
def A2g(a:AD)(e:AZ)(X43:AA AD):AA AD:=bd (AQ0 a.AO) fun c=>gd (0+a.AG.length<=lim) (gd (0+a.BC.length<=lim) (gd (0+a.A8.length<=lim) (alt (Hd a c) (alt (Ln a c) (alt (gN a c) (alt (A2f a c) (Ci e c (ev6 a.Now a.Ap ([]++a.AG) ([]:List AY) ([]++a.BC) ([]++a.A8) (X43)))))))))
def A39(a:AD)(e:AZ)(X41:AA AD):AA AD:=bd (AQ0 a.AO) fun c=>gd (0+a.AG.length<=lim) (gd (0+a.BC.length<=lim) (gd (0+a.A8.length<=lim) (alt (Hd a c) (alt (Hd a c) (alt (A00 a c) (alt (A2g a c) (Ci e c (ev6 a.Now a.Ap ([]++a.AG) ([]:List AY) ([]++a.BC) ([]++a.A8) (X41)))))))))
def A38(a:AD)(e:AZ)(X35:AA AD):AA AD:=bd (AQ0 a.AO) fun c=>gd (0+a.AG.length<=lim) (gd (0+a.BC.length<=lim) (gd (0+a.A8.length<=lim) (alt (b5 a c) (alt (Hd a c) (alt (Hd a c) (alt (A0z a c) (alt (A2e a c) (alt (A39 a c) (Ci e c (ev6 a.Now a.Ap ([]++a.AG) ([]:List AY) ([]++a.BC) ([]++a.A8) (X35)))))))))))
def A36(a:AD)(e:AZ)(X27:AA AD):AA AD:=bd (AQ0 a.AO) fun c=>gd (0+a.AG.length<=lim) (gd (0+a.BC.length<=lim) (gd (0+a.A8.length<=lim) (alt (b5 a c) (alt (b5 a c) (alt (A0p a c) (alt (A1E a c) (alt (A2d a c) (alt (A38 a c) (Ci e c (ev6 a.Now a.Ap ([]++a.AG) ([]:List AY) ([]++a.BC) ([]++a.A8) (X27)))))))))))
def A1V(a:AD)(e:AZ)(X53:AA AD):AA AD:=bd (AQ0 a.AO) fun c=>gd (0+a.AG.length<=lim) (gd (0+a.BC.length<=lim) (gd (0+a.A8.length<=lim) (alt (gN a c) (Ci e c (ev6 a.Now a.Ap ([]++a.AG) ([]:List AY) ([]++a.BC) ([]++a.A8) (X53))))))
def A2h(a:AD)(e:AZ)(X51:AA AD):AA AD:=bd (AQ0 a.AO) fun c=>gd (0+a.AG.length<=lim) (gd (0+a.BC.length<=lim) (gd (0+a.A8.length<=lim) (alt (b5 a c) (alt (Hd a c) (alt (Ln a c) (alt (gN a c) (alt (A1V a c) (Ci e c (ev6 a.Now a.Ap ([]++a.AG) ([]:List AY) ([]++a.BC) ([]++a.A8) (X51))))))))))
def A2i(a:AD)(e:AZ)(X57:AA AD):AA AD:=bd (AQ0 a.AO) fun c=>gd (0+a.AG.length<=lim) (gd (0+a.BC.length<=lim) (gd (0+a.A8.length<=lim) (alt (Hd a c) (alt (Ln a c) (alt (gN a c) (alt (A1V a c) (Ci e c (ev6 a.Now a.Ap ([]++a.AG) ([]:List AY) ([]++a.BC) ([]++a.A8) (X57)))))))))
def A4D(a:AD)(e:AZ)(X55:AA AD):AA AD:=bd (AQ0 a.AO) fun c=>gd (0+a.AG.length<=lim) (gd (0+a.BC.length<=lim) (gd (0+a.A8.length<=lim) (alt (Hd a c) (alt (Ln a c) (alt (Ln a c) (alt (A2i a c) (Ci e c (ev6 a.Now a.Ap ([]++a.AG) ([]:List AY) ([]++a.BC) ([]++a.A8) (X55)))))))))
def A4C(a:AD)(e:AZ)(X49:AA AD):AA AD:=bd (AQ0 a.AO) fun c=>gd (0+a.AG.length<=lim) (gd (0+a.BC.length<=lim) (gd (0+a.A8.length<=lim) (alt (b5 a c) (alt (Hd a c) (alt (Ln a c) (alt (Ln a c) (alt (A2h a c) (alt (A4D a c) (Ci e c (ev6 a.Now a.Ap ([]++a.AG) ([]:List AY) ([]++a.BC) ([]++a.A8) (X49)))))))))))
def A4B(a:AD)(e:AZ)(X47:AA AD):AA AD:=bd (AQ0 a.AO) fun c=>gd (0+a.AG.length<=lim) (gd (0+a.BC.length<=lim) (gd (0+a.A8.length<=lim) (alt (b5 a c) (alt (b5 a c) (alt (A0p a c) (alt (A1E a c) (alt (A2d a c) (alt (A4C a c) (Ci e c (ev6 a.Now a.Ap ([]++a.AG) ([]:List AY) ([]++a.BC) ([]++a.A8) (X47)))))))))))
def A4H(a:AD)(e:AZ)(X67:AA AD):AA AD:=bd (AQ0 a.AO) fun c=>gd (0+a.AG.length<=lim) (gd (0+a.BC.length<=lim) (gd (0+a.A8.length<=lim) (alt (Ln a c) (alt (gN a c) (alt (A1V a c) (Ci e c (ev6 a.Now a.Ap ([]++a.AG) ([]:List AY) ([]++a.BC) ([]++a.A8) (X67))))))))
def A2j(a:AD)(e:AZ)(X65:AA AD):AA AD:=bd (AQ0 a.AO) fun c=>gd (0+a.AG.length<=lim) (gd (0+a.BC.length<=lim) (gd (0+a.A8.length<=lim) (alt (Ln a c) (alt (Ln a c) (alt (A4H a c) (Ci e c (ev6 a.Now a.Ap ([]++a.AG) ([]:List AY) ([]++a.BC) ([]++a.A8) (X65))))))))
def A4G(a:AD)(e:AZ)(X63:AA AD):AA AD:=bd (AQ0 a.AO) fun c=>gd (0+a.AG.length<=lim) (gd (0+a.BC.length<=lim) (gd (0+a.A8.length<=lim) (alt (b5 a c) (alt (Hd a c) (alt (Ln a c) (alt (Ln a c) (alt (A2h a c) (alt (A2j a c) (Ci e c (ev6 a.Now a.Ap ([]++a.AG) ([]:List AY) ([]++a.BC) ([]++a.A8) (X63)))))))))))
def A4F(a:AD)(e:AZ)(X61:AA AD):AA AD:=bd (AQ0 a.AO) fun c=>gd (0+a.AG.length<=lim) (gd (0+a.BC.length<=lim) (gd (0+a.A8.length<=lim) (alt (b5 a c) (alt (Hd a c) (alt (Hd a c) (alt (A0z a c) (alt (A2e a c) (alt (A4G a c) (Ci e c (ev6 a.Now a.Ap ([]++a.AG) ([]:List AY) ([]++a.BC) ([]++a.A8) (X61)))))))))))
def A4K(a:AD)(e:AZ)(X73:AA AD):AA AD:=bd (AQ0 a.AO) fun c=>gd (0+a.AG.length<=lim) (gd (0+a.BC.length<=lim) (gd (0+a.A8.length<=lim) (alt (Hd a c) (alt (Ln a c) (alt (Ln a c) (alt (A2i a c) (alt (A2j a c) (Ci e c (ev6 a.Now a.Ap ([]++a.AG) ([]:List AY) ([]++a.BC) ([]++a.A8) (X73))))))))))
def A4J(a:AD)(e:AZ)(X71:AA AD):AA AD:=bd (AQ0 a.AO) fun c=>gd (0+a.AG.length<=lim) (gd (0+a.BC.length<=lim) (gd (0+a.A8.length<=lim) (alt (Hd a c) (alt (Hd a c) (alt (A00 a c) (alt (A2g a c) (alt (A4K a c) (Ci e c (ev6 a.Now a.Ap ([]++a.AG) ([]:List AY) ([]++a.BC) ([]++a.A8) (X71))))))))))
def A4I(a:AD)(e:AZ)(X69:AA AD):AA AD:=bd (AQ0 a.AO) fun c=>gd (0+a.AG.length<=lim) (gd (0+a.BC.length<=lim) (gd (0+a.A8.length<=lim) (alt (Hd a c) (alt (Hd a c) (alt (A00 a c) (alt (A2c a c) (alt (A4J a c) (Ci e c (ev6 a.Now a.Ap ([]++a.AG) ([]:List AY) ([]++a.BC) ([]++a.A8) (X69))))))))))
def A4E(c:AD)(e:AZ)(X59:AA AD):AA AD:=bd (AQ0 c.AO) fun a=>gd (0+c.AG.length<=lim) (gd (0+c.BC.length<=lim) (gd (0+c.A8.length<=lim) (alt (b5 c a) (alt (Hd c a) (alt (Hd c a) (alt (A0z c a) (alt (A2a c a) (alt (A4F c a) (alt (A4I c a) (Ci e a (ev6 c.Now c.Ap ([]++c.AG) ([]:List AY) ([]++c.BC) ([]++c.A8) (X59))))))))))))
def A4A(c:AD)(e:AZ)(X45:AA AD):AA AD:=bd (AQ0 c.AO) fun a=>gd (0+c.AG.length<=lim) (gd (0+c.BC.length<=lim) (gd (0+c.A8.length<=lim) (alt (b5 c a) (alt (b5 c a) (alt (A0p c a) (alt (A1E c a) (alt (A2Z c a) (alt (A4B c a) (alt (A4E c a) (Ci e a (ev6 c.Now c.Ap ([]++c.AG) ([]:List AY) ([]++c.BC) ([]++c.A8) (X45))))))))))))
def A35(c:AD)(e:AZ)(X25:AA AD):AA AD:=bd (AQ0 c.AO) fun a=>gd (0+c.AG.length<=lim) (gd (0+c.BC.length<=lim) (gd (0+c.A8.length<=lim) (alt (b5 c a) (alt (b5 c a) (alt (A0p c a) (alt (A3A c a) (alt (A3B c a) (alt (A36 c a) (alt (A4A c a) (Ci e a (ev6 c.Now c.Ap ([]++c.AG) ([]:List AY) ([]++c.BC) ([]++c.A8) (X25))))))))))))
def A4L(a:AD):AA AD:=some a
def A2k(j:AD)(g:(Int×AD)->AA AD)(q:(Int×AD)):AA AD:=match q with |(c,a)=>br (decide (c<(↑j.AI.length:Int))) (bd (at? j.AI c) fun h=>bd (AQw h) fun e=>gd (a.AI.length+[e].length<=lim) (g ((w64 (c+1),AD.mk a.AO a.Now a.Ap a.AG (a.AI++[e]) a.BC a.A8)))) (jn A4L a)
def Lf(a:AD):AA AD:=bd (AQ0 a.AO) fun c=>gd (0+a.AG.length<=lim) (gd (0+a.BC.length<=lim) (gd (0+a.A8.length<=lim) (alt (b5 a c) (alt (b5 a c) (alt (A0p a c) (alt (A3A a c) (alt (A3B a c) (alt (A31 a c) (alt (A35 a c) (A4 (A2k a) big ((0,AD.mk c a.Now a.Ap ([]++a.AG) [] ([]++a.BC) ([]++a.A8)))))))))))))
def Lk:GF:=A71.D2 (BL Lf)
def AA4(a:Ae):AA Ae:=bd (Lf a.BD) fun c=>gd (0+a.Laid.length<=lim) (bd (Lf a.BD) fun e=>gd (0+a.Laid.length<=lim) (NS c e (AGW a.BO a.BO (ev2 a.Seq ([]++a.Laid) (some (Ae.mk c a.BO a.Seq ([]++a.Laid)))))))
def SM:GF:=gZ AsE A5C A5G 0x36087b6f57f850765c25d6ddf2786e6709360544c2101a7af364f03a37fef79e1dd27b4bef3adbab9e6f9d027a8cec63e2031d63d966ddf84e21e115ab067f801e70b4fcdd3aeb55dbfce22caaec356e2960d7ee9b55811300 [Lk] (BL AA4)
def AQx(a:BX):AA (List UInt8):=bd (eS a) fun c=>br (!c) (some []) (br (a.Kind==1) (bd (AQg ([a.Kind,a.Id,a.Aa,w64 (a.Bl+1),a.A2,a.Cj])) fun e=>some e) (br (a.Kind==3) (bd (AQg ([a.Kind,a.Aa,a.A2])) fun g=>some g) (br (a.Kind==6) (bd (AQg [a.Kind]) fun h=>some h) (bd (AQg ([a.Kind,a.Id])) fun j=>some j))))
def AY9:GF:=gZ xZ xd b0 0x1e3f31f2ce02afdee04d68355d280ec04836397d940f189f0b5e3f2b378cb869b2318f674b792e63dff41248f5fa73527f1d48d4ac48b89f3bd7250bcc77ada69b5f4303381ef6539f1a95da40b1e7888d4da2f3f5a4f9c00100003746bcc185b4e40 [Mm,AY8] (BL AQx)
def A3C(h:Int)(a:List UInt8)(j:Bool):AA (List UInt8):=br j (some []) (bd (AQf h) fun c=>gd (List.length c+a.length<=On) (bd (AQh (c++a)) fun q=>bd (AII q) fun e=>gd (List.length e+(c++a).length<=On) (bd (AQf ((↑(e++(c++a)).length:Int))) fun g=>gd (List.length g+(e++(c++a)).length<=On) (some (g++(e++(c++a)))))))
def AQy(a:Int)(c:List UInt8):AA (List UInt8):=bd (Ee a 1 1000000) fun e=>br (!e) (jn (A3C a c) true) (bd (Ee (↑c.length:Int) 1 60) fun g=>jn (A3C a c) (!g))
def VE:GF:=gZ [.v .i,.v .s] xd Bz 0x122932d8cebe9a1574a99ba648febc1a9a370ef3d03237a741226ae521773d85558e86a4baa5d9f3b8ad09f3a205a51f13bce2ec5922d3ea73 [Fm,AY7,Xk,VF] (Ah AQy) [.OB 22 (.tmp 21)]
def AQz(c:Int)(e:BX):AA (List UInt8):=bd (AQx e) fun a=>br (a==[]) (some []) (bd (AQy c a) fun g=>some g)
def AZA:GF:=gZ [.v .i,.v (.st 0)] xd Bz 0xf5ca0529fc204467dbc5b4a076de4c374010833f6ad77ec0c [AY9,VE] (Ah AQz)
def Aip(a:Bu)(c:List UInt8)(e:Bool):AA (Bu×Bool):=br e (some (a,false)) (gd (a.Data.length+c.length<=On) (some ((Bu.mk (a.Data++c) a.Safe,true))))
def ARA(a:Bu)(c:List UInt8):AA (Bu×Bool):=bd (WU a) fun e=>br (!e) (jn (Aip a c) true) (jn (Aip a c) (decide ((↑c.length:Int)>w64 (20000-(↑a.Data.length:Int)))))
def AZC:GF:=gZ [.v (.st 9),.v .s] (.ret [(.st 9),.b]) [.cell 4 (some 2),.tmp 5] 0x9ac95d08ba304d8138bef05e7a14f0880c75fc61f70ccb61e4e19bbb0ef9af57099f29a05553ebc4f5f5406dff00286963330adc [KI] (Ah ARA)
def A3G(e:Ae)(c:BX)(a:Ae)(h:(Bu×Bool))(g:Bool):AA (Ae×Int):=br g (some (a,24)) (gd (a.Laid.length+[c].length<=lim) (some ((Ae.mk a.BD (Bb.mk h.fst a.BO.Dl a.BO.Odd) (w64 (e.Seq+1)) (a.Laid++[c]),0))))
def nG(a:Ae)(e:BX):AA (Ae×Int):=bd (AA4 a) fun g=>bd (bP a) fun y=>br (!y) (some (g,21)) (bd (eS e) fun B=>br (!B) (some (g,22)) (br (a.Seq==1000000) (some (g,23)) (bd (AQz (w64 (a.Seq+1)) e) fun h=>bd (ARA a.BO.Log h) fun c=>bd (ARA a.BO.Log h) fun j=>eqv c.snd j.snd (TN c.fst j.fst (bd (AQz (w64 (a.Seq+1)) e) fun E=>bd (ARA a.BO.Log E) fun q=>eqv c.snd q.snd (TN c.fst q.fst (br ((↑a.Laid.length:Int)==8) (jn (A3G a e g c) true) (jn (A3G a e g c) (!c.snd)))))))))
def cg:GF:=gZ Aoh (.ret [(.st 11),.i]) A6i 0x28a01652a8e42d76ab73b51a086a40a835e27c9f70548697e6fe6ad8368a4eac6116ef6473a4a86d03961e6b4faf56ab239a809b1ccd4866e7270033e095ae377a3372ee83f73af6c008557e954bbadbad5ffb7d2f68a74425173e792d0b33b33db9ff5e7c30dcfeee743435a3770de40adc872bfa485e2e4b11913b7c4c3a9fb49c3bf98767ea8967971485cd12ff497581ce771c72887919d963dcadbd070ad7cab76f02f62a2f0fb448721eeb71d47bbd69424da5bc08cb79ae27c219bf71d6644155dfdc412852041c146cddc8b6bcfda4ab9e80087a5bc647f5eec [SM,Mn,Mm,AZA,AZC] (Ah nG)
def ARB(a:List Ad):AA (List Ad):=gd (0+a.length<=lim) (some a)
def AZD:GF:=gZ AvR A3j b0 0x2ffb05d047a734968886 [] (BL ARB)
def AJB(a:An):AA An:=some a
def ft(g:An)(h:(Int×An)->AA An)(j:(Int×An)):AA An:=match j with |(a,c)=>br (decide (a<(↑g.Ak.length:Int))) (bd (at? g.Ak a) fun e=>gd (0+List.length e<=lim) (gd (c.Ak.length+[e].length<=lim) (h ((w64 (a+1),An.mk (c.Ak++[e])))))) (jn AJB c)
def ARC(a:An):AA An:=A4 (ft a) big (0,An.mk [])
def ANn:GF:=gZ Amw Aid A5E 0x1760931b13ab4d318bb18e5f03ad366d4beaa734df3ef1359b61c8501a050714d56bee38b95d89fe0154a3ff8f7d8b43f0cf124059e46867d3426394c95726e8a805 [] (BL ARC)
def ABB(a:AY):AA AY:=bd (ARB a.Row) fun c=>bd (ARC a.Bw) fun e=>some (AY.mk a.AV c e)
def AED:GF:=gZ AvT AvU A5F 0x4eef078408cadcf113dc0771b36032be5fcbe99a2a69dc2dd63634c574377002a [AZD,ANn] (BL ABB)
def Aj1(a:AD):AA AD:=some a
def A3H(j:AD)(g:(Int×AD)->AA AD)(q:(Int×AD)):AA AD:=match q with |(c,a)=>br (decide (c<(↑j.AI.length:Int))) (bd (at? j.AI c) fun h=>bd (ABB h) fun e=>gd (a.AI.length+[e].length<=lim) (g ((w64 (c+1),AD.mk a.AO a.Now a.Ap a.AG (a.AI++[e]) a.BC a.A8)))) (jn Aj1 a)
def AYO(a:AD):AA AD:=bd (AQ1 a.AO) fun c=>gd (0+a.AG.length<=lim) (bd (AA8 a.BC) fun e=>bd (AA8 a.A8) fun g=>bd (AA8 a.A8) fun q=>Ci c c (ev5 a.Now a.Ap a.AG ([]:List AY) e (eqv g q (bd (AA8 a.BC) fun y=>bd (AA8 a.A8) fun B=>Ci c c (ev4 a.Now a.Ap a.AG ([]:List AY) (eqv e y (eqv g B (gd (0+a.AG.length<=lim) (bd (AA8 a.BC) fun E=>bd (AA8 a.A8) fun G=>Ci c c (ev4 a.Now a.Ap a.AG ([]:List AY) (eqv e E (eqv g G (bd (AQ1 a.AO) fun H=>gd (0+a.AG.length<=lim) (bd (AA8 a.BC) fun h=>bd (AA8 a.A8) fun j=>Ci c H (ev4 a.Now a.Ap a.AG ([]:List AY) (eqv e h (eqv g j (A4 (A3H a) big (0,AD.mk c a.Now a.Ap a.AG [] e g)))))))))))))))))))
def AEE:GF:=gZ Aw0 A1A [.cell 2 (some 15)] 0x2052ad680e8444e342b1846709b762dc4e470fbe02ef5a38545bc2a63a357b51627728620bca582543d49c53703b13bc3248e632797e5dec6a98f85cbf9e7be4899e3a43069544ba45a33f47cf979c734ac6d57a90301381160c7156bf418d1904fec19e65607fa8941ebb7231e73b064fd391ea5bd98ba8858fe75a4ee530362cea9b79e3c35fbc3ec307d7fc9c9d39ef657527bc783a578d164fec759898599147b2bb5479e907c39b672c6f6778bfb34775ae300a64c19078f0700a33b386be48299ede677ad240a6675b18e075eebe107836615df48ae4b62bc3222a7d473c078dd50c377c4c63def36d21661fa693a9cef650c92335dd4c943ed32251f9bdeb57dec0be44f62b8334f1eb8b6720584bada876c434886af225eee0da48cb11d63647ed64a922663559a34a733ce2de8fb0f742415a5804 [Xp,AZB,AED] (BL AYO)
def ARD(a:Ae):AA Ae:=bd (AYO a.BD) fun c=>gd (0+a.Laid.length<=lim) (some (Ae.mk c a.BO a.Seq a.Laid))
def AEF:GF:=gZ AsE A5C A5G 0x13a63e4d5da4e5de000541f1e616d54d16816b657c92b36fe9443b5696ccd3831c4ea19c9212b19888 [AEE] (BL ARD)
def Ait(a:List Int):AA (List UInt8):=bd (nF a) fun c=>some c
def ARE(a:BX):AA (List UInt8):=bd (fP a) fun c=>br (!c) (some []) (br (a.Kind==1) (gd ([a.Kind].length+[a.Id,a.Aa,w64 (a.Bl+1),a.A2,a.Cj].length<=lim) (jn (Ait) ([a.Kind]++[a.Id,a.Aa,w64 (a.Bl+1),a.A2,a.Cj]))) (br (a.Kind==3) (gd ([a.Kind].length+[a.Aa,a.A2].length<=lim) (jn (Ait) ([a.Kind]++[a.Aa,a.A2]))) (br (a.Kind==6) (jn Ait [a.Kind]) (gd ([a.Kind].length+[a.Id].length<=lim) (jn (Ait) ([a.Kind]++[a.Id]))))))
def AEG:GF:=gZ xZ xd b0 0x1cc76a110c1e005fa2e2040f2b16e3d8feb0324dfa5404359b26997048154cef5c71c1a7fae3c2bf13a515d87064c55e09a136f618ad63ecdf259ca2b078e0337146bfff8981d5f445ab0adbf5842c2201982bf20d98f3e7c2685e542626e0711ce6763bfa93e1977 [OT,SO] (BL ARE)
def Aq2(h:Int)(c:List UInt8)(j:Bool):AA (List UInt8):=br j (some []) (bd (rr h) fun e=>gd (List.length e+c.length<=lim) (bd (AIN (e++c)) fun a=>gd ([toB (Dx a 24),toB (Dx a 16),toB (Dx a 8),toB a].length+(e++c).length<=lim) (bd (rr ((↑([toB (Dx a 24),toB (Dx a 16),toB (Dx a 8),toB a]++(e++c)).length:Int))) fun g=>gd (List.length g+([toB (Dx a 24),toB (Dx a 16),toB (Dx a 8),toB a]++(e++c)).length<=On) (some (g++([toB (Dx a 24),toB (Dx a 16),toB (Dx a 8),toB a]++(e++c)))))))
def ARF(a:Int)(c:List UInt8):AA (List UInt8):=bd (DE a 1 1000000) fun e=>br (!e) (jn (Aq2 a c) true) (bd (DE (↑c.length:Int) 1 60) fun g=>jn (Aq2 a c) (!g))
def AEH:GF:=gZ [.v .i,.v .s] xd Bz 0xa65f99fcc93df7ef4e63cf0a21faf88adbb23f121a40f71aac2f9001815da9217099f8f0d48efc25575d2f37f73bd1e94fbade29118f819fdbb01fa49d04255e5ff277ed6bfa57cc258ecc22d2418eac42ddef4d9c89c264574a70bbf377ee0b [EC,SN,SP] (Ah ARF)
def ARG(a:Int)(c:BX):AA (List UInt8):=bd (ARE c) fun e=>bd (ARF a e) fun g=>some g
def AEI:GF:=gZ [.v .i,.v (.st 0)] xd Bz 0x4245d3c4ba4daddb7704dfda8e45 [AEG,AEH] (Ah ARG)
def A3I(a:Bu)(c:List UInt8)(e:Bool):AA (Bu×Bool):=br e (some (a,false)) (some ((Bu.mk (a.Data++c) a.Safe,true)))
def ARH(a:Bu)(c:List UInt8):AA (Bu×Bool):=gd (a.Data.length+c.length<=On) (bd (Tj a) fun e=>br (!e) (jn (A3I a c) true) (bd (Tj (Bu.mk (a.Data++c) a.Safe)) fun g=>jn (A3I a c) (!g)))
def AEJ:GF:=gZ [.v (.st 9),.v .s] (.ret [(.st 9),.b]) [.cell 4 (some 2),.tmp 5] 0x4374be45dec2197ce6d4d1f6f97096f26977125a5eb8d15945fb3291bb52751e5cce8b78ceb6ee4657950e54a36b687c [Ku] (Ah ARH)
def ABC(c:Ae)(g:BX):AA (Ae×Int):=bd (ARD c) fun a=>bd (fQ c) fun y=>br (!y) (some (a,21)) (bd (fP g) fun B=>br (!B) (some (a,22)) (br (c.Seq==1000000) (some (a,23)) (br ((↑c.Laid.length:Int)==8) (some (a,24)) (bd (ARG (w64 (c.Seq+1)) g) fun h=>bd (ARH c.BO.Log h) fun e=>bd (ARH c.BO.Log h) fun j=>eqv e.snd j.snd (TN e.fst j.fst (bd (ARG (w64 (c.Seq+1)) g) fun E=>bd (ARH c.BO.Log E) fun q=>eqv e.snd q.snd (TN e.fst q.fst (br (!e.snd) (some (a,24)) (gd (a.Laid.length+[g].length<=lim) (some ((Ae.mk a.BD (Bb.mk e.fst a.BO.Dl a.BO.Odd) (w64 (a.Seq+1)) (a.Laid++[g]),0))))))))))))
def xK:GF:=gZ Aoh (.ret [(.st 11),.i]) A6i 0xd7fec7811e2eeac767efa801e34cbf29c68cd8a0d6bb7e4dcfeae28fa9c16c07b89445b72eca42982fc9f06a75ef55858cad2a3f48ce77166ac0183cd1c051183ccfefac566e4fd770239d121f5c5c198e0465b639337c3beaa6ef99f5ea04c2e976462c8feaa5490d03f51e7e20052d9a93b4f3840e25d0e5924a99da090986323b0aacd6e690f4599d1e023dc43cb8198e92e06a9df25abc5ac515da9d4d86b67332e28eccd7fb5a6042bc472b1fd896caf2d8388ad43d1c8e7b542403fbec60bd9225a457ea9ec5b570fb0b30b8595b87e4382775514bd765528f346a27b05ca575c51ecf31917bb5af975877dfc440a [AEF,SL,OT,AEI,AEJ] (Ah ABC)
end Lv
