/- Functions of the program as typed texts and as plain functions. -/
import Derived.Test.YtnjoipcemhflkaaGreatKAc
noncomputable section
set_option linter.unusedVariables false
set_option linter.unusedSimpArgs false
set_option linter.unusedSectionVars false
set_option maxRecDepth 100000
namespace Lv
open Go (IntKind BinOp UnOp)
open Y (YF qn qf qt qr q1 qd qm qa qo ql qL qb qi qx qp qq qc qz qe qk qK qB qw qu qj Kp wn wf wt w1 sw sq sr wm wM wo wO wl wL wk wK wz wZ wx wX wb wB wi wI wr wR wq wQ we wE wc wY wj wh cv ca cx cn ce bl)
def HD(a:Aa):AA (List Int):=bd (ZD a) fun c=>br (!c) (some []) (gd ([a.CK,a.Room,a.A5,a.CD,a.Bq,a.Rest,a.CP,a.Cr].length+a.AW.length<=lim) (some ([a.CK,a.Room,a.A5,a.CD,a.Bq,a.Rest,a.CP,a.Cr]++a.AW)))
def KU(a:List Int):AA (List Int):=some a
def HZ(h:AE)(g:((List Int)×Int)->AA (List Int))(j:((List Int)×Int)):AA (List Int):=match j with |(a,c)=>br (decide (c<(↑h.Ay.length:Int))) (bd (at? h.Ay c) fun e=>gd (List.length a+[w64 (e+1)].length<=lim) (g ((a++[w64 (e+1)],w64 (c+1))))) (jn KU a)
def FX(c:AE)(a:List Int):AA (List Int):=gd (a.length+[(↑c.Az.length:Int)].length<=lim) (gd ((a++[(↑c.Az.length:Int)]).length+c.Az.length<=lim) (A7 (HZ c) big ((a++[(↑c.Az.length:Int)]++c.Az,0))))
def HY(e:AE)(h:((List Int)×Int)->AA (List Int))(j:((List Int)×Int)):AA (List Int):=match j with |(g,a)=>br (decide (a<(↑e.AH.length:Int))) (bd (at? e.AH a) fun c=>gd (List.length g+[c.AW.DP].length<=lim) (h ((g++[c.AW.DP],w64 (a+1))))) (jn (FX e) g)
def FW(a:AE)(c:List Int):AA (List Int):=A7 (HY a) big (c,0)
def HX(c:AE)(h:((List Int)×Int)->AA (List Int))(j:((List Int)×Int)):AA (List Int):=match j with |(e,g)=>br (decide (g<(↑c.AG.length:Int))) (bd (at? c.AG g) fun a=>gd (List.length e+[a.Id,a.AX,w64 (a.BY+1),a.A5,a.Ci,a.Since,a.As,a.State,a.CW,a.Cn].length<=lim) (h ((e++[a.Id,a.AX,w64 (a.BY+1),a.A5,a.Ci,a.Since,a.As,a.State,a.CW,a.Cn],w64 (g+1))))) (jn (FW c) e)
def G1(a:AE):AA (List Int):=bd (T4 a) fun e=>br (!e) (none) (bd (HD a.AR) fun c=>gd ([(↑(List.length c):Int)].length+List.length c<=lim) (gd (([(↑(List.length c):Int)]++c).length+[a.Now,a.As,(↑a.AG.length:Int)].length<=lim) (A7 (HX a) big (([(↑(List.length c):Int)]++c++[a.Now,a.As,(↑a.AG.length:Int)],0)))))
def vT(e:(Int×(List UInt8))):AA (List UInt8):=match e with |(a,c)=>gd (c.length+[toB a].length<=lim) (some (c++[toB a]))
def vU(e:(Int×(List UInt8))->AA (List UInt8))(g:(Int×(List UInt8))):AA (List UInt8):=match g with |(a,c)=>br (decide (a>=128)) (gd (c.length+[toB (w64 (Int.tmod a 128+128))].length<=lim) (e ((w64 (Int.tdiv a 128),c++[toB (w64 (Int.tmod a 128+128))])))) (jn vT (a,c))
def Vq(a:Int):AA (List UInt8):=bd (Cq a 0 2147483647) fun c=>br (!c) (some []) (A7 (vU) big (a,[]))
def ABJ:GF:=gZ SR (.ret [(.l .u)]) DJ 0x1759685325eea34282129857acf717d7df86603dc5aa7865ca36a90bf93af9682071811519eed16bc276caa33a170fd130bd4766488c1bece907aa97 [Fv] (Bg Vq)
def uo(a:List UInt8):AA (List UInt8):=some a
def bn(e:List Int)(h:((List UInt8)×Int)->AA (List UInt8))(q:((List UInt8)×Int)):AA (List UInt8):=match q with |(a,c)=>br (decide (c<(↑e.length:Int))) (bd (at? e c) fun j=>bd (Vq j) fun g=>gd (List.length a+List.length g<=lim) (h ((a++g,w64 (c+1))))) (jn uo a)
def um(a:List Int):AA (List UInt8):=A7 (bn a) big ([],0)
def AK1:GF:=gZ gb Nx DJ 0xafc2dd78b7ac9c5f6fbb78c06d8fa4310a4fcff6eea87a71ac6a4c8c29b15ac470c785cd442e6761a5b773dc791ac636597d6 [ABJ] (Bg um)
def bq(a:(Int×Int)->AA Int)(c:Int)(e:Int):AA Int:=a ((e,w64 (c+1)))
def ur(a:(Int×Int)->AA Int)(c:Int)(e:Int):AA Int:=a ((e,w64 (c+1)))
def bu(g:(Int×Int)->AA Int)(h:Int)(e:(Int×Int)->AA Int)(j:(Int×Int)):AA Int:=match j with |(a,c)=>br (decide (c<8)) (br (bB a 1==1) (jn (bq e c) (T0 (DV a 1) 3988292384)) (jn (bq e c) (DV a 1))) (jn (ur g h) a)
def uu(a:Int):AA Int:=some (T0 a 4294967295)
def bt(c:List UInt8)(g:(Int×Int)->AA Int)(j:(Int×Int)):AA Int:=match j with |(e,a)=>br (decide (a<(↑c.length:Int))) (bd (at? c a) fun h=>A7 (bu g a) big ((T0 e (w64 (↑(UInt8.toNat h):Int)),0))) (jn uu e)
def uq(a:List UInt8):AA Int:=A7 (bt a) big (4294967295,0)
def AK2:GF:=gZ Uq DC DJ 0x1a2b02047193ca00a04dcce74290086cfe93ff194f4131818033ac7f49155100bf503c4f75f2d8f546412dea437f8b81aa4636fd4fae67be649f3d1c5382742b72a744ce0529c7885e84f469437c306b3bf472324a5a2d13fc300b11b568cfecf068b [] (Bg uq)
def Ft(j:AE)(g:Int):AA (List UInt8):=bd (G1 j) fun h=>gd (List.isEmpty h=false) (bd (Cq g 0 1000000) fun q=>br (!q) (some []) (bd (Vq g) fun c=>bd (um h) fun e=>gd (List.length c+List.length e<=OE) (bd (uq (c++e)) fun a=>gd ([toB (DV a 24),toB (DV a 16),toB (DV a 8),toB a].length+(c++e).length<=OE) (some ([toB (DV a 24),toB (DV a 16),toB (DV a 8),toB a]++(c++e))))))
def QZ(a:List Int):AA PUnit:=none
def Qc(h:AE)(g:((List Int)×Int)->AA PUnit)(j:((List Int)×Int)):AA PUnit:=match j with |(a,c)=>br (decide (c<(↑h.Ay.length:Int))) (bd (at? h.Ay c) fun e=>gd (List.length a+[w64 (e+1)].length<=lim) (g ((a++[w64 (e+1)],w64 (c+1))))) (jn QZ a)
def QY(c:AE)(a:List Int):AA PUnit:=gd (a.length+[(↑c.Az.length:Int)].length<=lim) (gd ((a++[(↑c.Az.length:Int)]).length+c.Az.length<=lim) (A7 (Qc c) big ((a++[(↑c.Az.length:Int)]++c.Az,0))))
def Qb(e:AE)(h:((List Int)×Int)->AA PUnit)(j:((List Int)×Int)):AA PUnit:=match j with |(g,a)=>br (decide (a<(↑e.AH.length:Int))) (bd (at? e.AH a) fun c=>gd (List.length g+[c.AW.DP].length<=lim) (h ((g++[c.AW.DP],w64 (a+1))))) (jn (QY e) g)
def QX(a:AE)(c:List Int):AA PUnit:=A7 (Qb a) big (c,0)
def Qa(c:AE)(h:((List Int)×Int)->AA PUnit)(j:((List Int)×Int)):AA PUnit:=match j with |(e,g)=>br (decide (g<(↑c.AG.length:Int))) (bd (at? c.AG g) fun a=>gd (List.length e+[a.Id,a.AX,w64 (a.BY+1),a.A5,a.Ci,a.Since,a.As,a.State,a.CW,a.Cn].length<=lim) (h ((e++[a.Id,a.AX,w64 (a.BY+1),a.A5,a.Ci,a.Since,a.As,a.State,a.CW,a.Cn],w64 (g+1))))) (jn (QX c) e)
def Mn(a:AE):AA PUnit:=bd (T4 a) fun e=>br (!e) (some ()) (bd (HD a.AR) fun c=>gd ([(↑(List.length c):Int)].length+List.length c<=lim) (gd (([(↑(List.length c):Int)]++c).length+[a.Now,a.As,(↑a.AG.length:Int)].length<=lim) (A7 (Qa a) big (([(↑(List.length c):Int)]++c++[a.Now,a.As,(↑a.AG.length:Int)],0)))))
def Nj(a:AE)(c:Int):AA (List UInt8):=bd (Mn a) fun e=>some []
def Jg(a:AE)(c:Int):AA (List UInt8):=orE (Ft a c) (Nj a c)
def Mo(a:List Int):AA (List Int):=some a
def JH(h:AE)(g:((List Int)×Int)->AA (List Int))(j:((List Int)×Int)):AA (List Int):=match j with |(a,c)=>br (decide (c<(↑h.Ay.length:Int))) (bd (at? h.Ay c) fun e=>gd (List.length a+[w64 (e+1)].length<=lim) (g ((a++[w64 (e+1)],w64 (c+1))))) (jn Mo a)
def G3(c:AE)(a:List Int):AA (List Int):=gd (a.length+[(↑c.Az.length:Int)].length<=lim) (gd ((a++[(↑c.Az.length:Int)]).length+c.Az.length<=lim) (A7 (JH c) big ((a++[(↑c.Az.length:Int)]++c.Az,0))))
def JG(e:AE)(h:((List Int)×Int)->AA (List Int))(j:((List Int)×Int)):AA (List Int):=match j with |(g,a)=>br (decide (a<(↑e.AH.length:Int))) (bd (at? e.AH a) fun c=>gd (List.length g+[c.AW.DP].length<=lim) (h ((g++[c.AW.DP],w64 (a+1))))) (jn (G3 e) g)
def G2(a:AE)(c:List Int):AA (List Int):=A7 (JG a) big (c,0)
def JF(c:AE)(h:((List Int)×Int)->AA (List Int))(j:((List Int)×Int)):AA (List Int):=match j with |(e,g)=>br (decide (g<(↑c.AG.length:Int))) (bd (at? c.AG g) fun a=>gd (List.length e+[a.Id,a.AX,w64 (a.BY+1),a.A5,a.Ci,a.Since,a.As,a.State,a.CW,a.Cn].length<=lim) (h ((e++[a.Id,a.AX,w64 (a.BY+1),a.A5,a.Ci,a.Since,a.As,a.State,a.CW,a.Cn],w64 (g+1))))) (jn (G2 c) e)
def LJ(a:AE):AA (List Int):=bd (T4 a) fun e=>br (!e) (some []) (bd (HD a.AR) fun c=>gd ([(↑(List.length c):Int)].length+List.length c<=lim) (gd (([(↑(List.length c):Int)]++c).length+[a.Now,a.As,(↑a.AG.length:Int)].length<=lim) (A7 (JF a) big (([(↑(List.length c):Int)]++c++[a.Now,a.As,(↑a.AG.length:Int)],0)))))
def GB(a:Aa):AA Aa:=gd (0+a.AW.length<=lim) (some (Aa.mk ([]++a.AW) a.CK a.Room a.A5 a.CD a.Bq a.Rest a.CP a.Cr))
def ABC:GF:=gZ ga ABz AB3 0x5f2167763e3513dba9559b67e26852d7b58 [] (Bg GB)
def ADw(a:Int):AA (A3×Bool):=bd (AAu (A3.mk a 0 0 a 0)) fun c=>br (!c) (some (A3.mk 0 0 0 0 0,false)) (some (A3.mk a 0 0 a 0,true))
def AK3:GF:=gZ SR SU [.cell 2 (some 5),.tmp 3] 0x138ce3885ec123097c3b2fdb29e0af306d8f73a8a6f966c6b7bff9770588c2534051 [AFv] (Bg ADw)
def AU5:YF:=⟨[],[],[],.ret [(.st 6)],[.cell 0 (some 1)],dY 0x1f61b4f1b142a2e93a28557601b3720ad04222503aaf3a51b6890db1afa1de0c89e0a91de8cdf5a39dbd2bea1487175583c14f []⟩
def uw(a:Aj):AA Aj:=some a
def ux(e:(Int×Aj)->AA Aj)(g:(Int×Aj)):AA Aj:=match g with |(c,a)=>br (decide (c<9)) (gd (a.Ag.length+1<=lim) (e ((w64 (c+1),Aj.mk (a.Ag++[[]]))))) (jn uw a)
def bw:AA Aj:=A7 (ux) big (0,Aj.mk [])
def gU:GF:=AU5.gf rfl rfl (fun a=>bw) (fun a=>by kernel_rfl)
def ADx(c:Int):AA (Ad×Bool):=bd (ADw c) fun a=>br (!a.snd) (some ((Ad.mk (A3.mk 0 0 0 0 0) [] (Aj.mk []),false))) (bd (bw) fun e=>some (Ad.mk a.fst [] e,true))
def AK4:GF:=gZ SR (.ret [(.st 7),.b]) [.cell 2 (some 7),.tmp 3] 0x2f7ceb695979e4369ae054112cc2ce2087d794a46c990d6069a377078e7acf5c559e3c42a35f9850639d2cc9b27d6cf47f4392 [AK3,gU] (Bg ADx)
def uz(a:AE):AA (AE×Bool):=some (a,true)
def vB(g:Aa)(e:(Int×AE)->AA (AE×Bool))(h:(Int×AE)):AA (AE×Bool):=match h with |(c,a)=>br (decide (c<g.Cr)) (gd (a.Ay.length+[-1].length<=lim) (e ((w64 (c+1),AE.mk a.AR a.Now a.As a.AG a.AH a.Az (a.Ay++[-1]))))) (jn uz a)
def uy(a:Aa)(c:AE):AA (AE×Bool):=A7 (vB a) big (0,c)
def vA(c:Aa)(h:(Int×AE)->AA (AE×Bool))(q:(Int×AE)):AA (AE×Bool):=match q with |(e,a)=>br (decide (e<(↑c.AW.length:Int))) (bd (at? c.AW e) fun j=>bd (ADx j) fun g=>gd (a.AH.length+[g.fst].length<=lim) (h ((w64 (e+1),AE.mk a.AR a.Now a.As a.AG (a.AH++[g.fst]) a.Az a.Ay)))) (jn (uy c) a)
def kq(a:Aa):AA (AE×Bool):=bd (oK a) fun c=>br (!c) (some ((AE.mk (Aa.mk [] 0 0 0 0 0 0 0 0) 0 0 [] [] [] [],false))) (bd (GB a) fun e=>A7 (vA a) big (0,AE.mk e 0 1 [] [] [] []))
def ABD:GF:=gZ ga (.ret [(.st 8),.b]) qv 0x46afa11bf453f74ef47092449008f88f1bbad079f9573078e756bca9f67720e512948c0ab5b0e38593aac0ab1ee5752e61ea7d0eb6dfd0563558ae8b3e96ead813f8ed82934b909d1daa5b03a1bf846264c18c80e747372c8c22dd42cce40c687e5eab46caa3274df1512a895b3aef56bfab69d8d3196a9f94fabfc79a6b2cff0960887f8177754 [gQ,ABC,AK4] (Bg kq)
def ADy(e:Aa):AA (Ap×Bool):=bd (kq e) fun a=>br (!a.snd) (some ((Ap.mk (AE.mk (Aa.mk [] 0 0 0 0 0 0 0 0) 0 0 [] [] [] []) (CN.mk (CH.mk [] 0) (CH.mk [] 0) (CH.mk [] 0)) 0 [],false))) (bd (kx a.fst 0) fun c=>some ((Ap.mk a.fst (CN.mk (CH.mk [] 0) (CH.mk c (↑(List.length c):Int)) (CH.mk [] 0)) 0 [],true)))
def AK5:GF:=gZ ga AB0 AB4 0x151e9e8a0af1dce80f14fa1918da4550801fc63f15590e2536e61f2d251ea2681406dade49fc02ede38ed1a436844992aa3114729ecc9e3f4897b0404f2aa3b275ab1b886 [ABD,ph] (Bg ADy)
def KZ(a:List Int):AA (List Int):=gd (0+a.length<=lim) (some a)
def pZ:GF:=gZ gb SS DJ 0x4897c7304f95f629210 [] (Bg KZ)
def vC(a:Aa):AA Aa:=bd (KZ a.AW) fun c=>some (Aa.mk c a.CK a.Room a.A5 a.CD a.Bq a.Rest a.CP a.Cr)
def AK6:GF:=gZ ga ABz AB3 0x1be6ff2063156b87977dedd7485992b6 [pZ] (Bg vC)
def RW:AA Aj:=some (Aj.mk (List.replicate (Int.toNat 9) []))
def ve(a:CH):AA CH:=bd (R6 a) fun c=>br (!c) (some a) (some (CH.mk a.Data (↑a.Data.length:Int)))
def ALN:GF:=gZ qU AB1 AB5 0x68ce54f9e683aad3b58082038ef2263c482017405d64ec33ac07 [pf] (Bg ve)
end Lv
set_option maxRecDepth 100000
namespace Lv
open Go (IntKind BinOp UnOp)
open Y (YF qn qf qt qr q1 qd qm qa qo ql qL qb qi qx qp qq qc qz qe qk qK qB qw qu qj Kp wn wf wt w1 sw sq sr wm wM wo wO wl wL wk wK wz wZ wx wX wb wB wi wI wr wR wq wQ we wE wc wY wj wh cv ca cx cn ce bl)
def vf(a:Aj):AA Aj:=some a
def vg(g:Aj)(h:(Int×Aj)->AA Aj)(j:(Int×Aj)):AA Aj:=match j with |(a,c)=>br (decide (a<(↑g.Ag.length:Int))) (bd (at? g.Ag a) fun e=>gd (0+List.length e<=lim) (gd (c.Ag.length+[[]++e].length<=lim) (h ((w64 (a+1),Aj.mk (c.Ag++[[]++e])))))) (jn vf c)
def cw(a:Aj):AA Aj:=A7 (vg a) big (0,Aj.mk [])
def pj:GF:=gZ YL qZ qy 0x2f629b673386f8772e1d863ac3bc21d14dd824908a356887441797efdb5078041ed1028b9ad97c95ded6f07d537ba90335cc3e7b728f29f699b1b1675d9cff6c32f7bc285c655918a [] (Bg cw)
def AD8(a:Ad):AA Ad:=bd (ju a.Row) fun c=>bd (cw a.Bl) fun e=>some (Ad.mk a.AW c e)
def ALO:GF:=gZ qS gi rA 0xd611b5b43a283e93e74179e01d8330023c722b80d3fc926ab23e4dbac9280c8 [ye,pj] (Bg AD8)
def aj:Y.YOp []:=.app 19 .i true (.tmp 16) (.tmp 18)
def Oi:Y.YOp []:=.app 15 (.st 2) true (.tmp 12) (.tmp 14)
def G6:Y.YOp []:=.call 7 ABC [] rfl [(.tmp 6)]
def AGN:Y.Bd []:=(.op 21 none [] (.st 15 (.tmp 3) (.tmp 24)) (.dr [5,6,7,8,9,10,11,12,13,14,15,16,17,18,19,20,21,22,23,24] .nil))
def AV7:=fun a=>((.op 20 none [5,8,10,13,17,21] (.alloc 3 Dz) (.nl [(.cell 3 0,.i),(.cell 3 11,(.st 2)),(.cell 3 12,(.st 7)),(.cell 3 13,.i),(.cell 3 14,.i)] a)):Y.Bd [])
def ARd:Y.Bd []:=AV7 AGN
def AV8:=fun a=>((.op 19 none [] (.build 24 Dz [(0,9,(.tmp 7)),(9,1,(.tmp 9)),(10,1,(.tmp 11)),(11,1,(.tmp 15)),(13,1,(.tmp 19)),(14,1,(.tmp 23))]) (.nl [(.tmp 24 12,(.st 7))] a)):Y.Bd [])
def ARe:Y.Bd []:=AV8 ARd
def ARf:Y.Bd []:=(.op 18 none [8,10] (.app 23 .i true (.tmp 20) (.tmp 22)) ARe)
def ARg:Y.Bd []:=AV8 AGN
def sW:Y.Bd []:=(.op 18 none [8,10] (.app 23 .i true (.tmp 20) (.tmp 22)) ARg)
def ARh:Y.Bd []:=AV7 sW
def AWA:=fun a b=>((.both 1 a b):Y.Bd [])
def AGO:Y.Bd []:=AWA ARf ARh
def AWB:=fun a b c=>((.op a none [5,8,10,13,17,21] (.Br b 0 .i []) c):Y.Bd [])
def ARi:Y.Bd []:=AWB 15 20 AGO
def AGP:Y.Bd []:=AWB 15 20 sW
def AOV:Y.Bd []:=AV7 AGP
def AOW:Y.Bd []:=AWA ARi AOV
def AOX:Y.Bd []:=(.op 14 none [8,10,21] aj AOW)
def AOY:Y.Bd []:=(.op 14 none [8,10,21] aj AGO)
def W7:Y.Bd []:=(.op 14 none [8,10,21] aj sW)
def AOZ:Y.Bd []:=AV7 W7
def ik:Y.Bd []:=AWA AOY AOZ
def AOa:Y.Bd []:=AWB 15 20 ik
def AOb:Y.Bd []:=(.op 14 none [8,10,21] aj AGP)
def AOc:Y.Bd []:=AWB 15 20 W7
def il:Y.Bd []:=AWA AOb AOc
def AOd:Y.Bd []:=AV7 il
def AOe:Y.Bd []:=AWA AOa AOd
def zV:Y.Bd []:=AWA AOX AOe
def AOf:Y.Bd []:=AWB 11 16 zV
def AOg:Y.Bd []:=AWB 11 16 ik
def iq:Y.Bd []:=AWB 11 16 W7
def AOh:Y.Bd []:=AV7 iq
def zW:Y.Bd []:=AWA AOg AOh
def AOi:Y.Bd []:=AWB 15 20 zW
def AOj:Y.Bd []:=AWB 11 16 il
def AOk:Y.Bd []:=AWB 15 20 iq
def zX:Y.Bd []:=AWA AOj AOk
def AOl:Y.Bd []:=AV7 zX
def AOm:Y.Bd []:=AWA AOi AOl
def AOn:Y.Bd []:=AWA AOf AOm
def AWD:=fun a=>((.op 10 none [8,10,17,21] Oi a):Y.Bd [])
def AOo:Y.Bd []:=AWD AOn
def AOp:Y.Bd []:=AWD zV
def AOq:Y.Bd []:=AWD ik
def Sq:Y.Bd []:=AWD W7
def AOr:Y.Bd []:=AV7 Sq
def W8:Y.Bd []:=AWA AOq AOr
def AOs:Y.Bd []:=AWB 15 20 W8
def AOt:Y.Bd []:=AWD il
def AOu:Y.Bd []:=AWB 15 20 Sq
def W9:Y.Bd []:=AWA AOt AOu
def AOv:Y.Bd []:=AV7 W9
def AOw:Y.Bd []:=AWA AOs AOv
def iu:Y.Bd []:=AWA AOp AOw
def AOx:Y.Bd []:=AWB 11 16 iu
def AOy:Y.Bd []:=AWD zW
def AOz:Y.Bd []:=AWB 11 16 W8
def AO0:Y.Bd []:=AWD iq
def AO1:Y.Bd []:=AWB 11 16 Sq
def XA:Y.Bd []:=AWA AO0 AO1
def AO2:Y.Bd []:=AV7 XA
def AO3:Y.Bd []:=AWA AOz AO2
def iv:Y.Bd []:=AWA AOy AO3
def AO4:Y.Bd []:=AWB 15 20 iv
def AO5:Y.Bd []:=AWD zX
def AO6:Y.Bd []:=AWB 11 16 W9
def AO7:Y.Bd []:=AWB 15 20 XA
def AO8:Y.Bd []:=AWA AO6 AO7
def iw:Y.Bd []:=AWA AO5 AO8
def AO9:Y.Bd []:=AV7 iw
def APA:Y.Bd []:=AWA AO4 AO9
def APB:Y.Bd []:=AWA AOx APA
def zY:Y.Bd []:=AWA AOo APB
def AWE:=fun a=>((.op 7 none [5,8,10,13,17,21] (.Br 12 0 (.st 2) []) a):Y.Bd [])
def APC:Y.Bd []:=AWE zY
def APD:Y.Bd []:=AWE iu
def APE:Y.Bd []:=AWE W8
def XB:Y.Bd []:=AWE Sq
def APF:Y.Bd []:=AV7 XB
def iy:Y.Bd []:=AWA APE APF
def APG:Y.Bd []:=AWB 15 20 iy
def APH:Y.Bd []:=AWE W9
def API:Y.Bd []:=AWB 15 20 XB
def iz:Y.Bd []:=AWA APH API
def APJ:Y.Bd []:=AV7 iz
def APK:Y.Bd []:=AWA APG APJ
def zZ:Y.Bd []:=AWA APD APK
def APL:Y.Bd []:=AWB 11 16 zZ
def APM:Y.Bd []:=AWE iv
def APN:Y.Bd []:=AWB 11 16 iy
def APO:Y.Bd []:=AWE XA
def APP:Y.Bd []:=AWB 11 16 XB
def i4:Y.Bd []:=AWA APO APP
def APQ:Y.Bd []:=AV7 i4
def APR:Y.Bd []:=AWA APN APQ
def za:Y.Bd []:=AWA APM APR
def APS:Y.Bd []:=AWB 15 20 za
def APT:Y.Bd []:=AWE iw
def APU:Y.Bd []:=AWB 11 16 iz
def APV:Y.Bd []:=AWB 15 20 i4
def APW:Y.Bd []:=AWA APU APV
def zb:Y.Bd []:=AWA APT APW
def APX:Y.Bd []:=AV7 zb
def APY:Y.Bd []:=AWA APS APX
def APZ:Y.Bd []:=AWA APL APY
def APa:Y.Bd []:=AWA APC APZ
def AWF:=fun a=>((.op 2 none [8,10,13,17,21] G6 a):Y.Bd [])
def AHh:Y.Bd []:=AWF APa
def AHi:Y.Bd []:=AWF zY
def AHj:Y.Bd []:=AWF iu
def AHk:Y.Bd []:=AWF W8
def Tn:Y.Bd []:=AWF Sq
def AHl:Y.Bd []:=AV7 Tn
def Yp:Y.Bd []:=AWA AHk AHl
def AHm:Y.Bd []:=AWB 15 20 Yp
def AHn:Y.Bd []:=AWF W9
def AHo:Y.Bd []:=AWB 15 20 Tn
def Yq:Y.Bd []:=AWA AHn AHo
def AHp:Y.Bd []:=AV7 Yq
def AHq:Y.Bd []:=AWA AHm AHp
def mj:Y.Bd []:=AWA AHj AHq
def AHr:Y.Bd []:=AWB 11 16 mj
def AHs:Y.Bd []:=AWF iv
def AHt:Y.Bd []:=AWB 11 16 Yp
def AHu:Y.Bd []:=AWF XA
def AHv:Y.Bd []:=AWB 11 16 Tn
def Yr:Y.Bd []:=AWA AHu AHv
def AHw:Y.Bd []:=AV7 Yr
def AHx:Y.Bd []:=AWA AHt AHw
def ml:Y.Bd []:=AWA AHs AHx
def AHy:Y.Bd []:=AWB 15 20 ml
def AHz:Y.Bd []:=AWF iw
def AH0:Y.Bd []:=AWB 11 16 Yq
def AH1:Y.Bd []:=AWB 15 20 Yr
def AH2:Y.Bd []:=AWA AH0 AH1
def mn:Y.Bd []:=AWA AHz AH2
def AH3:Y.Bd []:=AV7 mn
def AH4:Y.Bd []:=AWA AHy AH3
def AH5:Y.Bd []:=AWA AHr AH4
def AH6:Y.Bd []:=AWA AHi AH5
def AH7:Y.Bd []:=AWE AH6
def AH8:Y.Bd []:=AWF zZ
def AH9:Y.Bd []:=AWE mj
def AIA:Y.Bd []:=AWF iy
def AIB:Y.Bd []:=AWE Yp
def AIC:Y.Bd []:=AWF XB
def AID:Y.Bd []:=AWE Tn
def Ys:Y.Bd []:=AWA AIC AID
def AIE:Y.Bd []:=AV7 Ys
def AIF:Y.Bd []:=AWA AIB AIE
def mo:Y.Bd []:=AWA AIA AIF
def AIH:Y.Bd []:=AWB 15 20 mo
def AII:Y.Bd []:=AWF iz
def AIJ:Y.Bd []:=AWE Yq
def AIK:Y.Bd []:=AWB 15 20 Ys
def AIL:Y.Bd []:=AWA AIJ AIK
def mq:Y.Bd []:=AWA AII AIL
def AIM:Y.Bd []:=AV7 mq
def AIN:Y.Bd []:=AWA AIH AIM
def AIO:Y.Bd []:=AWA AH9 AIN
def AIP:Y.Bd []:=AWA AH8 AIO
def AIQ:Y.Bd []:=AWB 11 16 AIP
def AIR:Y.Bd []:=AWF za
def AIS:Y.Bd []:=AWE ml
def AIT:Y.Bd []:=AWB 11 16 mo
def AIU:Y.Bd []:=AWF i4
def AIV:Y.Bd []:=AWE Yr
def AIW:Y.Bd []:=AWB 11 16 Ys
def AIX:Y.Bd []:=AWA AIV AIW
def mr:Y.Bd []:=AWA AIU AIX
def AIY:Y.Bd []:=AV7 mr
def AIZ:Y.Bd []:=AWA AIT AIY
def AIa:Y.Bd []:=AWA AIS AIZ
def AIb:Y.Bd []:=AWA AIR AIa
def AIc:Y.Bd []:=AWB 15 20 AIb
def AId:Y.Bd []:=AWF zb
def AIe:Y.Bd []:=AWE mn
def AIf:Y.Bd []:=AWB 11 16 mq
def AIg:Y.Bd []:=AWB 15 20 mr
def AIh:Y.Bd []:=AWA AIf AIg
def AIi:Y.Bd []:=AWA AIe AIh
def AIj:Y.Bd []:=AWA AId AIi
def AIk:Y.Bd []:=AV7 AIj
def AIl:Y.Bd []:=AWA AIc AIk
def AIm:Y.Bd []:=AWA AIQ AIl
def AIn:Y.Bd []:=AWA AH7 AIm
def AIo:Y.Bd []:=AWA AHh AIn
def AIp:Y.Bd []:=(.op 17 none [] (.ld 22 none (.tmp 21)) AIo)
def AIq:Y.Bd []:=(.op 16 none [] (.fa 21 14 (.tmp 1)) AIp)
def AIr:Y.Bd []:=(.op 13 none [] (.ld 18 none (.tmp 17)) AIq)
def AIs:Y.Bd []:=(.op 12 none [] (.fa 17 13 (.tmp 1)) AIr)
def AIt:Y.Bd []:=(.op 9 none [] (.ld 14 none (.tmp 13)) AIs)
def AIu:Y.Bd []:=(.op 8 none [] (.fa 13 11 (.tmp 1)) AIt)
def AIv:Y.Bd []:=(.op 6 none [] (.ld 11 none (.tmp 10)) AIu)
def AIw:Y.Bd []:=(.op 5 none [] (.fa 10 10 (.tmp 1)) AIv)
def AIx:Y.Bd []:=(.op 4 none [] (.ld 9 none (.tmp 8)) AIw)
def AIy:Y.Bd []:=(.op 3 none [] (.fa 8 9 (.tmp 1)) AIx)
def AIz:Y.Bd []:=(.op 1 none [] (.ld 6 (some 9) (.tmp 5)) AIy)
def AI0:Y.Bd []:=(.op 0 none [] (.fa 5 0 (.tmp 1)) AIz)
def AVF:YF:=⟨[],[.v (.st 8)],[],.ret [(.st 8)],[.cell 2 (some 15)],sq [qu 1 0,.alloc 2 Dz,.Uz [(.cell 2 0,.i),(.cell 2 11,(.st 2)),(.cell 2 12,(.st 7)),(.cell 2 13,.i),(.cell 2 14,.i)]] [1,2] (.seq (.Pj AI0 [1,2,3]) (.join [cx 3 (.st 8)] (sq [qK 4 0] (Kp 30) (bl 0 [cv 4 .i,cx 3 (.st 8)] (.seq (sw 25 [wm 4,wo 12 1,wL,wZ,wB .lss 25] (Kp 536870942) (ce 29 (Kp 30) [2,3] 0)) (.seq (.block 1 (.Pj (qd 0 [wn 32 [wo 12 3,wL,wo 12 1,wL,wm 4,wE (.st 7) 35,wK 7]] (.op 7 none [32] (.call 39 ALO [] rfl [(.tmp 38)]) (.op 8 none [32] (.Br 40 1 (.st 7) [(0,(.tmp 39))]) (qd 9 [wn 41 [wh (.app · (.st 7) false (.tmp 33) (.tmp 40)),wo 12 3],qn [qw 1 42 41]] .nil)))) [1,2,3,4])) (qr [wn 30 [wm 4,wI .add 1],qn [qa 4 31]] (Kp 30)))))) (sq [qL 43 15 3,qw 15 2 43] [2] .ret)))⟩
def Cu(a:AE)(c:Aa)(X2:AA AE):AA AE:=gd (0+a.Ay.length<=lim) (CG c c (ev6 a.Now a.As ([]++a.AG) ([]:List Ad) ([]++a.Az) ([]++a.Ay) (X2)))
def CE(a:AE)(c:Aa)(X4:AA AE):AA AE:=gd (0+a.Az.length<=lim) (gd (0+a.Ay.length<=lim) (CG c c (ev6 a.Now a.As ([]++a.AG) ([]:List Ad) ([]++a.Az) ([]++a.Ay) (X4))))
def vi(a:AE)(c:Aa)(X5:AA AE):AA AE:=gd (0+a.Az.length<=lim) (gd (0+a.Ay.length<=lim) (alt (CE a c) (CG c c (ev6 a.Now a.As ([]++a.AG) ([]:List Ad) ([]++a.Az) ([]++a.Ay) (X5)))))
def Lt(a:AE)(c:Aa)(X3:AA AE):AA AE:=gd (0+a.Az.length<=lim) (gd (0+a.Ay.length<=lim) (alt (Cu a c) (alt (CE a c) (alt (vi a c) (CG c c (ev6 a.Now a.As ([]++a.AG) ([]:List Ad) ([]++a.Az) ([]++a.Ay) (X3)))))))
def vj(a:AE)(c:Aa)(X7:AA AE):AA AE:=gd (0+a.Az.length<=lim) (gd (0+a.Ay.length<=lim) (alt (CE a c) (alt (CE a c) (CG c c (ev6 a.Now a.As ([]++a.AG) ([]:List Ad) ([]++a.Az) ([]++a.Ay) (X7))))))
def dB(a:AE)(c:Aa)(X6:AA AE):AA AE:=gd (0+a.Az.length<=lim) (gd (0+a.Ay.length<=lim) (alt (Cu a c) (alt (CE a c) (alt (CE a c) (alt (vj a c) (CG c c (ev6 a.Now a.As ([]++a.AG) ([]:List Ad) ([]++a.Az) ([]++a.Ay) (X6))))))))
def Cj(a:AE)(c:Aa)(X10:AA AE):AA AE:=gd (0+a.AG.length<=lim) (gd (0+a.Az.length<=lim) (gd (0+a.Ay.length<=lim) (CG c c (ev6 a.Now a.As ([]++a.AG) ([]:List Ad) ([]++a.Az) ([]++a.Ay) (X10)))))
def ky(a:AE)(c:Aa)(X11:AA AE):AA AE:=gd (0+a.AG.length<=lim) (gd (0+a.Az.length<=lim) (gd (0+a.Ay.length<=lim) (alt (CE a c) (alt (Cj a c) (CG c c (ev6 a.Now a.As ([]++a.AG) ([]:List Ad) ([]++a.Az) ([]++a.Ay) (X11)))))))
def PZ(a:AE)(c:Aa)(X9:AA AE):AA AE:=gd (0+a.AG.length<=lim) (gd (0+a.Az.length<=lim) (gd (0+a.Ay.length<=lim) (alt (Cu a c) (alt (CE a c) (alt (Cj a c) (alt (ky a c) (CG c c (ev6 a.Now a.As ([]++a.AG) ([]:List Ad) ([]++a.Az) ([]++a.Ay) (X9)))))))))
def Xn(a:AE)(c:Aa)(X14:AA AE):AA AE:=gd (0+a.AG.length<=lim) (gd (0+a.Az.length<=lim) (gd (0+a.Ay.length<=lim) (alt (Cj a c) (CG c c (ev6 a.Now a.As ([]++a.AG) ([]:List Ad) ([]++a.Az) ([]++a.Ay) (X14))))))
def NL(a:AE)(c:Aa)(X13:AA AE):AA AE:=gd (0+a.AG.length<=lim) (gd (0+a.Az.length<=lim) (gd (0+a.Ay.length<=lim) (alt (Cu a c) (alt (CE a c) (alt (Cj a c) (alt (Xn a c) (CG c c (ev6 a.Now a.As ([]++a.AG) ([]:List Ad) ([]++a.Az) ([]++a.Ay) (X13)))))))))
def NM(a:AE)(c:Aa)(X16:AA AE):AA AE:=gd (0+a.AG.length<=lim) (gd (0+a.Az.length<=lim) (gd (0+a.Ay.length<=lim) (alt (CE a c) (alt (Cj a c) (alt (Xn a c) (CG c c (ev6 a.Now a.As ([]++a.AG) ([]:List Ad) ([]++a.Az) ([]++a.Ay) (X16))))))))
def lA(a:AE)(c:Aa)(X15:AA AE):AA AE:=gd (0+a.AG.length<=lim) (gd (0+a.Az.length<=lim) (gd (0+a.Ay.length<=lim) (alt (CE a c) (alt (CE a c) (alt (NM a c) (CG c c (ev6 a.Now a.As ([]++a.AG) ([]:List Ad) ([]++a.Az) ([]++a.Ay) (X15))))))))
def kz(a:AE)(c:Aa)(X12:AA AE):AA AE:=gd (0+a.AG.length<=lim) (gd (0+a.Az.length<=lim) (gd (0+a.Ay.length<=lim) (alt (Cu a c) (alt (CE a c) (alt (CE a c) (alt (NL a c) (alt (lA a c) (CG c c (ev6 a.Now a.As ([]++a.AG) ([]:List Ad) ([]++a.Az) ([]++a.Ay) (X12))))))))))
def dC(a:AE)(c:Aa)(X8:AA AE):AA AE:=gd (0+a.AG.length<=lim) (gd (0+a.Az.length<=lim) (gd (0+a.Ay.length<=lim) (alt (Cu a c) (alt (Cu a c) (alt (Lt a c) (alt (PZ a c) (alt (kz a c) (CG c c (ev6 a.Now a.As ([]++a.AG) ([]:List Ad) ([]++a.Az) ([]++a.Ay) (X8))))))))))
def lC(a:AE)(c:Aa)(X19:AA AE):AA AE:=gd (0+a.AG.length<=lim) (gd (0+a.Az.length<=lim) (gd (0+a.Ay.length<=lim) (alt (CE a c) (alt (Cj a c) (alt (Cj a c) (CG c c (ev6 a.Now a.As ([]++a.AG) ([]:List Ad) ([]++a.Az) ([]++a.Ay) (X19))))))))
def Xo(a:AE)(c:Aa)(X18:AA AE):AA AE:=gd (0+a.AG.length<=lim) (gd (0+a.Az.length<=lim) (gd (0+a.Ay.length<=lim) (alt (Cu a c) (alt (CE a c) (alt (Cj a c) (alt (Cj a c) (alt (lC a c) (CG c c (ev6 a.Now a.As ([]++a.AG) ([]:List Ad) ([]++a.Az) ([]++a.Ay) (X18))))))))))
def Xq(a:AE)(c:Aa)(X22:AA AE):AA AE:=gd (0+a.AG.length<=lim) (gd (0+a.Az.length<=lim) (gd (0+a.Ay.length<=lim) (alt (Cj a c) (alt (Cj a c) (CG c c (ev6 a.Now a.As ([]++a.AG) ([]:List Ad) ([]++a.Az) ([]++a.Ay) (X22)))))))
def Xp(a:AE)(c:Aa)(X21:AA AE):AA AE:=gd (0+a.AG.length<=lim) (gd (0+a.Az.length<=lim) (gd (0+a.Ay.length<=lim) (alt (Cu a c) (alt (CE a c) (alt (Cj a c) (alt (Cj a c) (alt (Xq a c) (CG c c (ev6 a.Now a.As ([]++a.AG) ([]:List Ad) ([]++a.Az) ([]++a.Ay) (X21))))))))))
def Xr(a:AE)(c:Aa)(X24:AA AE):AA AE:=gd (0+a.AG.length<=lim) (gd (0+a.Az.length<=lim) (gd (0+a.Ay.length<=lim) (alt (CE a c) (alt (Cj a c) (alt (Cj a c) (alt (Xq a c) (CG c c (ev6 a.Now a.As ([]++a.AG) ([]:List Ad) ([]++a.Az) ([]++a.Ay) (X24)))))))))
def lE(a:AE)(c:Aa)(X23:AA AE):AA AE:=gd (0+a.AG.length<=lim) (gd (0+a.Az.length<=lim) (gd (0+a.Ay.length<=lim) (alt (CE a c) (alt (CE a c) (alt (NM a c) (alt (Xr a c) (CG c c (ev6 a.Now a.As ([]++a.AG) ([]:List Ad) ([]++a.Az) ([]++a.Ay) (X23)))))))))
def lD(a:AE)(c:Aa)(X20:AA AE):AA AE:=gd (0+a.AG.length<=lim) (gd (0+a.Az.length<=lim) (gd (0+a.Ay.length<=lim) (alt (Cu a c) (alt (CE a c) (alt (CE a c) (alt (NL a c) (alt (Xp a c) (alt (lE a c) (CG c c (ev6 a.Now a.As ([]++a.AG) ([]:List Ad) ([]++a.Az) ([]++a.Ay) (X20)))))))))))
def lB(a:AE)(c:Aa)(X17:AA AE):AA AE:=gd (0+a.AG.length<=lim) (gd (0+a.Az.length<=lim) (gd (0+a.Ay.length<=lim) (alt (Cu a c) (alt (Cu a c) (alt (Lt a c) (alt (PZ a c) (alt (Xo a c) (alt (lD a c) (CG c c (ev6 a.Now a.As ([]++a.AG) ([]:List Ad) ([]++a.Az) ([]++a.Ay) (X17)))))))))))
def Hy(a:AE)(c:Aa)(X31:AA AE):AA AE:=bd (GB a.AR) fun e=>gd (0+a.AG.length<=lim) (gd (0+a.Az.length<=lim) (gd (0+a.Ay.length<=lim) (CG c e (ev6 a.Now a.As ([]++a.AG) ([]:List Ad) ([]++a.Az) ([]++a.Ay) (X31)))))
def lH(a:AE)(e:Aa)(X33:AA AE):AA AE:=bd (GB a.AR) fun c=>gd (0+a.AG.length<=lim) (gd (0+a.Az.length<=lim) (gd (0+a.Ay.length<=lim) (alt (CE a c) (alt (Cj a c) (alt (Hy a c) (CG e c (ev6 a.Now a.As ([]++a.AG) ([]:List Ad) ([]++a.Az) ([]++a.Ay) (X33))))))))
def Xs(a:AE)(e:Aa)(X29:AA AE):AA AE:=bd (GB a.AR) fun c=>gd (0+a.AG.length<=lim) (gd (0+a.Az.length<=lim) (gd (0+a.Ay.length<=lim) (alt (Cu a c) (alt (CE a c) (alt (Cj a c) (alt (Hy a c) (alt (lH a c) (CG e c (ev6 a.Now a.As ([]++a.AG) ([]:List Ad) ([]++a.Az) ([]++a.Ay) (X29))))))))))
def Xu(a:AE)(e:Aa)(X39:AA AE):AA AE:=bd (GB a.AR) fun c=>gd (0+a.AG.length<=lim) (gd (0+a.Az.length<=lim) (gd (0+a.Ay.length<=lim) (alt (Cj a c) (alt (Hy a c) (CG e c (ev6 a.Now a.As ([]++a.AG) ([]:List Ad) ([]++a.Az) ([]++a.Ay) (X39)))))))
def Xt(a:AE)(e:Aa)(X37:AA AE):AA AE:=bd (GB a.AR) fun c=>gd (0+a.AG.length<=lim) (gd (0+a.Az.length<=lim) (gd (0+a.Ay.length<=lim) (alt (Cu a c) (alt (CE a c) (alt (Cj a c) (alt (Hy a c) (alt (Xu a c) (CG e c (ev6 a.Now a.As ([]++a.AG) ([]:List Ad) ([]++a.Az) ([]++a.Ay) (X37))))))))))
def Xv(a:AE)(e:Aa)(X43:AA AE):AA AE:=bd (GB a.AR) fun c=>gd (0+a.AG.length<=lim) (gd (0+a.Az.length<=lim) (gd (0+a.Ay.length<=lim) (alt (CE a c) (alt (Cj a c) (alt (Hy a c) (alt (Xu a c) (CG e c (ev6 a.Now a.As ([]++a.AG) ([]:List Ad) ([]++a.Az) ([]++a.Ay) (X43)))))))))
def lJ(a:AE)(e:Aa)(X41:AA AE):AA AE:=bd (GB a.AR) fun c=>gd (0+a.AG.length<=lim) (gd (0+a.Az.length<=lim) (gd (0+a.Ay.length<=lim) (alt (CE a c) (alt (CE a c) (alt (NM a c) (alt (Xv a c) (CG e c (ev6 a.Now a.As ([]++a.AG) ([]:List Ad) ([]++a.Az) ([]++a.Ay) (X41)))))))))
def lI(a:AE)(e:Aa)(X35:AA AE):AA AE:=bd (GB a.AR) fun c=>gd (0+a.AG.length<=lim) (gd (0+a.Az.length<=lim) (gd (0+a.Ay.length<=lim) (alt (Cu a c) (alt (CE a c) (alt (CE a c) (alt (NL a c) (alt (Xt a c) (alt (lJ a c) (CG e c (ev6 a.Now a.As ([]++a.AG) ([]:List Ad) ([]++a.Az) ([]++a.Ay) (X35)))))))))))
def lG(a:AE)(e:Aa)(X27:AA AE):AA AE:=bd (GB a.AR) fun c=>gd (0+a.AG.length<=lim) (gd (0+a.Az.length<=lim) (gd (0+a.Ay.length<=lim) (alt (Cu a c) (alt (Cu a c) (alt (Lt a c) (alt (PZ a c) (alt (Xs a c) (alt (lI a c) (CG e c (ev6 a.Now a.As ([]++a.AG) ([]:List Ad) ([]++a.Az) ([]++a.Ay) (X27)))))))))))
def TT(a:AE)(e:Aa)(X53:AA AE):AA AE:=bd (GB a.AR) fun c=>gd (0+a.AG.length<=lim) (gd (0+a.Az.length<=lim) (gd (0+a.Ay.length<=lim) (alt (Hy a c) (CG e c (ev6 a.Now a.As ([]++a.AG) ([]:List Ad) ([]++a.Az) ([]++a.Ay) (X53))))))
def Xw(a:AE)(e:Aa)(X51:AA AE):AA AE:=bd (GB a.AR) fun c=>gd (0+a.AG.length<=lim) (gd (0+a.Az.length<=lim) (gd (0+a.Ay.length<=lim) (alt (Cu a c) (alt (CE a c) (alt (Cj a c) (alt (Hy a c) (alt (TT a c) (CG e c (ev6 a.Now a.As ([]++a.AG) ([]:List Ad) ([]++a.Az) ([]++a.Ay) (X51))))))))))
def Xx(a:AE)(e:Aa)(X57:AA AE):AA AE:=bd (GB a.AR) fun c=>gd (0+a.AG.length<=lim) (gd (0+a.Az.length<=lim) (gd (0+a.Ay.length<=lim) (alt (CE a c) (alt (Cj a c) (alt (Hy a c) (alt (TT a c) (CG e c (ev6 a.Now a.As ([]++a.AG) ([]:List Ad) ([]++a.Az) ([]++a.Ay) (X57)))))))))
def lN(a:AE)(e:Aa)(X55:AA AE):AA AE:=bd (GB a.AR) fun c=>gd (0+a.AG.length<=lim) (gd (0+a.Az.length<=lim) (gd (0+a.Ay.length<=lim) (alt (CE a c) (alt (Cj a c) (alt (Cj a c) (alt (Xx a c) (CG e c (ev6 a.Now a.As ([]++a.AG) ([]:List Ad) ([]++a.Az) ([]++a.Ay) (X55)))))))))
def lM(a:AE)(e:Aa)(X49:AA AE):AA AE:=bd (GB a.AR) fun c=>gd (0+a.AG.length<=lim) (gd (0+a.Az.length<=lim) (gd (0+a.Ay.length<=lim) (alt (Cu a c) (alt (CE a c) (alt (Cj a c) (alt (Cj a c) (alt (Xw a c) (alt (lN a c) (CG e c (ev6 a.Now a.As ([]++a.AG) ([]:List Ad) ([]++a.Az) ([]++a.Ay) (X49)))))))))))
def lL(a:AE)(e:Aa)(X47:AA AE):AA AE:=bd (GB a.AR) fun c=>gd (0+a.AG.length<=lim) (gd (0+a.Az.length<=lim) (gd (0+a.Ay.length<=lim) (alt (Cu a c) (alt (Cu a c) (alt (Lt a c) (alt (PZ a c) (alt (Xs a c) (alt (lM a c) (CG e c (ev6 a.Now a.As ([]++a.AG) ([]:List Ad) ([]++a.Az) ([]++a.Ay) (X47)))))))))))
def lR(a:AE)(e:Aa)(X67:AA AE):AA AE:=bd (GB a.AR) fun c=>gd (0+a.AG.length<=lim) (gd (0+a.Az.length<=lim) (gd (0+a.Ay.length<=lim) (alt (Cj a c) (alt (Hy a c) (alt (TT a c) (CG e c (ev6 a.Now a.As ([]++a.AG) ([]:List Ad) ([]++a.Az) ([]++a.Ay) (X67))))))))
def Xy(a:AE)(e:Aa)(X65:AA AE):AA AE:=bd (GB a.AR) fun c=>gd (0+a.AG.length<=lim) (gd (0+a.Az.length<=lim) (gd (0+a.Ay.length<=lim) (alt (Cj a c) (alt (Cj a c) (alt (lR a c) (CG e c (ev6 a.Now a.As ([]++a.AG) ([]:List Ad) ([]++a.Az) ([]++a.Ay) (X65))))))))
def lQ(a:AE)(e:Aa)(X63:AA AE):AA AE:=bd (GB a.AR) fun c=>gd (0+a.AG.length<=lim) (gd (0+a.Az.length<=lim) (gd (0+a.Ay.length<=lim) (alt (Cu a c) (alt (CE a c) (alt (Cj a c) (alt (Cj a c) (alt (Xw a c) (alt (Xy a c) (CG e c (ev6 a.Now a.As ([]++a.AG) ([]:List Ad) ([]++a.Az) ([]++a.Ay) (X63)))))))))))
def lP(a:AE)(e:Aa)(X61:AA AE):AA AE:=bd (GB a.AR) fun c=>gd (0+a.AG.length<=lim) (gd (0+a.Az.length<=lim) (gd (0+a.Ay.length<=lim) (alt (Cu a c) (alt (CE a c) (alt (CE a c) (alt (NL a c) (alt (Xt a c) (alt (lQ a c) (CG e c (ev6 a.Now a.As ([]++a.AG) ([]:List Ad) ([]++a.Az) ([]++a.Ay) (X61)))))))))))
def lU(a:AE)(e:Aa)(X73:AA AE):AA AE:=bd (GB a.AR) fun c=>gd (0+a.AG.length<=lim) (gd (0+a.Az.length<=lim) (gd (0+a.Ay.length<=lim) (alt (CE a c) (alt (Cj a c) (alt (Cj a c) (alt (Xx a c) (alt (Xy a c) (CG e c (ev6 a.Now a.As ([]++a.AG) ([]:List Ad) ([]++a.Az) ([]++a.Ay) (X73))))))))))
def lT(a:AE)(e:Aa)(X71:AA AE):AA AE:=bd (GB a.AR) fun c=>gd (0+a.AG.length<=lim) (gd (0+a.Az.length<=lim) (gd (0+a.Ay.length<=lim) (alt (CE a c) (alt (CE a c) (alt (NM a c) (alt (Xv a c) (alt (lU a c) (CG e c (ev6 a.Now a.As ([]++a.AG) ([]:List Ad) ([]++a.Az) ([]++a.Ay) (X71))))))))))
def lS(a:AE)(e:Aa)(X69:AA AE):AA AE:=bd (GB a.AR) fun c=>gd (0+a.AG.length<=lim) (gd (0+a.Az.length<=lim) (gd (0+a.Ay.length<=lim) (alt (CE a c) (alt (CE a c) (alt (NM a c) (alt (Xr a c) (alt (lT a c) (CG e c (ev6 a.Now a.As ([]++a.AG) ([]:List Ad) ([]++a.Az) ([]++a.Ay) (X69))))))))))
def lO(c:AE)(e:Aa)(X59:AA AE):AA AE:=bd (GB c.AR) fun a=>gd (0+c.AG.length<=lim) (gd (0+c.Az.length<=lim) (gd (0+c.Ay.length<=lim) (alt (Cu c a) (alt (CE c a) (alt (CE c a) (alt (NL c a) (alt (Xp c a) (alt (lP c a) (alt (lS c a) (CG e a (ev6 c.Now c.As ([]++c.AG) ([]:List Ad) ([]++c.Az) ([]++c.Ay) (X59))))))))))))
def lK(c:AE)(e:Aa)(X45:AA AE):AA AE:=bd (GB c.AR) fun a=>gd (0+c.AG.length<=lim) (gd (0+c.Az.length<=lim) (gd (0+c.Ay.length<=lim) (alt (Cu c a) (alt (Cu c a) (alt (Lt c a) (alt (PZ c a) (alt (Xo c a) (alt (lL c a) (alt (lO c a) (CG e a (ev6 c.Now c.As ([]++c.AG) ([]:List Ad) ([]++c.Az) ([]++c.Ay) (X45))))))))))))
def lF(c:AE)(e:Aa)(X25:AA AE):AA AE:=bd (GB c.AR) fun a=>gd (0+c.AG.length<=lim) (gd (0+c.Az.length<=lim) (gd (0+c.Ay.length<=lim) (alt (Cu c a) (alt (Cu c a) (alt (Lt c a) (alt (dB c a) (alt (dC c a) (alt (lG c a) (alt (lK c a) (CG e a (ev6 c.Now c.As ([]++c.AG) ([]:List Ad) ([]++c.Az) ([]++c.Ay) (X25))))))))))))
def lV(a:AE):AA AE:=some a
def Xz(j:AE)(g:(Int×AE)->AA AE)(q:(Int×AE)):AA AE:=match q with |(c,a)=>br (decide (c<(↑j.AH.length:Int))) (bd (at? j.AH c) fun h=>bd (AD8 h) fun e=>gd (a.AH.length+[e].length<=lim) (g ((w64 (c+1),AE.mk a.AR a.Now a.As a.AG (a.AH++[e]) a.Az a.Ay)))) (jn lV a)
def Np(a:AE):AA AE:=bd (GB a.AR) fun c=>gd (0+a.AG.length<=lim) (gd (0+a.Az.length<=lim) (gd (0+a.Ay.length<=lim) (alt (Cu a c) (alt (Cu a c) (alt (Lt a c) (alt (dB a c) (alt (dC a c) (alt (lB a c) (alt (lF a c) (A7 (Xz a) big ((0,AE.mk c a.Now a.As ([]++a.AG) [] ([]++a.Az) ([]++a.Ay)))))))))))))
def MU:GF:=AVF.ED (Bg Np)
def ZH(a:Ap):AA Ap:=bd (Np a.BU) fun c=>gd (0+a.Laid.length<=lim) (bd (Np a.BU) fun e=>gd (0+a.Laid.length<=lim) (D6 c e (tY a.Bi a.Bi (ev2 a.Seq ([]++a.Laid) (some (Ap.mk c a.Bi a.Seq ([]++a.Laid)))))))
def gX:GF:=gZ Up qg rB 0x4e1aa5bb009c63696e06ceab81b20ea37d896ddaea1a7350cddc92d007c1d8d46da283f0dfe5a064c283014076cf3318bac7b22491cc1b8b312fda0fa360beaa2546c9f3ba480454adbf30b7a0450f4b6a072823639487c [MU] (Bg ZH)
def AD9(a:B9):AA (List UInt8):=bd (oI a) fun c=>br (!c) (some []) (br (a.Kind==1) (bd (ZF ([a.Kind,a.Id,a.AX,w64 (a.BY+1),a.A5,a.Ci])) fun e=>some e) (br (a.Kind==3) (bd (ZF ([a.Kind,a.AX,a.A5])) fun g=>some g) (br (a.Kind==6) (bd (ZF [a.Kind]) fun h=>some h) (bd (ZF ([a.Kind,a.Id])) fun j=>some j))))
def ALP:GF:=gZ [.v (.st 0)] Nx DJ 0x1721299b6b87d136c774d047dfdd980a261300645b415ff6f178d9e34e108508b0908d868a3e2907da740e513524d728e180e06313856542601d8669e18910b6b7ae27169cf27f27496ed27352a9a0a0b8e6aaabafaa9bdd2b74f9f8867b8bccfab47b [yc,ABG] (Bg AD9)
def dE(h:Int)(a:List UInt8)(j:Bool):AA (List UInt8):=br j (some []) (bd (cR h) fun c=>gd (List.length c+a.length<=OE) (bd (vP (c++a)) fun q=>bd (vS q) fun e=>gd (List.length e+(c++a).length<=OE) (bd (cR ((↑(e++(c++a)).length:Int))) fun g=>gd (List.length g+(e++(c++a)).length<=OE) (some (g++(e++(c++a)))))))
def vk(a:Int)(c:List UInt8):AA (List UInt8):=bd (EC a 1 1000000) fun e=>br (!e) (jn (dE a c) true) (bd (EC (↑c.length:Int) 1 60) fun g=>jn (dE a c) (!g))
def ABM:GF:=gZ [.v .i,.v .s] Nx Ch 0x6d981225d6ad0b27634c45c3c13fd2383324e34c2c2467259b9d558f827e31ef843cc8dcbc0e7968cde72c591fc6cacf54c187fd9bcc88 [HN,ABF,ABH,ABI] (A8 vk) [.QW 22 (.tmp 21)]
def vm(c:Int)(e:B9):AA (List UInt8):=bd (AD9 e) fun a=>br (a==[]) (some []) (bd (vk c a) fun g=>some g)
def ALQ:GF:=gZ [.v .i,.v (.st 0)] Nx Ch 0x4dfec890d85e204244b6327eda82103ab8c264608202f98a10 [ALP,ABM] (A8 vm)
def dG(a:CH)(c:List UInt8)(e:Bool):AA (CH×Bool):=br e (some (a,false)) (gd (a.Data.length+c.length<=OE) (some ((CH.mk (a.Data++c) a.Safe,true))))
def dF(a:CH)(c:List UInt8):AA (CH×Bool):=bd (jr a) fun e=>br (!e) (jn (dG a c) true) (jn (dG a c) (decide ((↑c.length:Int)>w64 (20000-(↑a.Data.length:Int)))))
def ABN:GF:=gZ [.v (.st 9),.v .s] AB2 AB6 0x63366b0a6c969094df9edfd2399092b245462deedf92a97a7cabb6dc133a7cd6296b35009837389a6ff12e0851cfc99bf858ad [mJ] (A8 dF)
def dI(e:Ap)(c:B9)(a:Ap)(h:(CH×Bool))(g:Bool):AA (Ap×Int):=br g (some (a,24)) (gd (a.Laid.length+[c].length<=lim) (some ((Ap.mk a.BU (CN.mk h.fst a.Bi.GG a.Bi.Odd) (w64 (e.Seq+1)) (a.Laid++[c]),0))))
def dH(a:Ap)(e:B9):AA (Ap×Int):=bd (ZH a) fun g=>bd (AG0 a) fun y=>br (!y) (some (g,21)) (bd (oI e) fun B=>br (!B) (some (g,22)) (br (a.Seq==1000000) (some (g,23)) (bd (vm (w64 (a.Seq+1)) e) fun h=>bd (dF a.Bi.Log h) fun c=>bd (dF a.Bi.Log h) fun j=>eqv c.snd j.snd (Y0 c.fst j.fst (bd (vm (w64 (a.Seq+1)) e) fun E=>bd (dF a.Bi.Log E) fun q=>eqv c.snd q.snd (Y0 c.fst q.fst (br ((↑a.Laid.length:Int)==8) (jn (dI a e g c) true) (jn (dI a e g c) (!c.snd)))))))))
def pk:GF:=gZ qV (.ret [(.st 11),.i]) rC 0x153148984c8695184e8e859d49cd320c019e8160adbd4dcedd322755520ce638d5eabddfb27c2f6b0ed8923f98ef7a0bfd8859e65578cd9ca3f7496e522882dc443770a62a819908bfe6d0e4e7f4188a1e63a3341ddd35f45067bfe32ffed2913c5094013cdca7129167aa9406a8745c2c825a9dc871c8b5dcef410decae5e9d4f591f03cfb9f6f452bee79615dec8e672d86657f02d1e8fcffbde9c5ecfbe7b2ec42e6d1f352b5d892285d1fe6acc305f38318599e35ebf86ac5685370700bb6fbb386bd9870f2aa446c6f73b6ec4943e06c9791683223a38389cb60de8d1c00866aa [gX,AFt,yc,ALQ,ABN] (A8 dH)
def Vv(a:List Ae):AA (List Ae):=gd (0+a.length<=lim) (some a)
def pn:GF:=gZ qR YP DJ 0x9d342d66aced1a8e5d8 [] (Bg Vv)
def vn(a:Aj):AA Aj:=some a
def vq(g:Aj)(h:(Int×Aj)->AA Aj)(j:(Int×Aj)):AA Aj:=match j with |(a,c)=>br (decide (a<(↑g.Ag.length:Int))) (bd (at? g.Ag a) fun e=>gd (0+List.length e<=lim) (gd (c.Ag.length+[e].length<=lim) (h ((w64 (a+1),Aj.mk (c.Ag++[e])))))) (jn vn c)
def dJ(a:Aj):AA Aj:=A7 (vq a) big (0,Aj.mk [])
def po:GF:=gZ YL qZ qy 0x2a050ff90a623c935c2d797f613875c300de0feae98556f58d2e1d3be98d587e075a8b10117ec46ca1dc4c0fa1605aadfa0fc19e6e33285a462d01e774 [] (Bg dJ)
def AEA(a:Ad):AA Ad:=bd (Vv a.Row) fun c=>bd (dJ a.Bl) fun e=>some (Ad.mk a.AW c e)
def ALR:GF:=gZ qS gi rA 0xd611b5b43a283e93e74179e01d8330023c722b80d3fc926ab23e4dbac9280c8 [pn,po] (Bg AEA)
def vr(a:AE):AA AE:=some a
def dK(j:AE)(g:(Int×AE)->AA AE)(q:(Int×AE)):AA AE:=match q with |(c,a)=>br (decide (c<(↑j.AH.length:Int))) (bd (at? j.AH c) fun h=>bd (AEA h) fun e=>gd (a.AH.length+[e].length<=lim) (g ((w64 (c+1),AE.mk a.AR a.Now a.As a.AG (a.AH++[e]) a.Az a.Ay)))) (jn vr a)
def Nq(a:AE):AA AE:=bd (vC a.AR) fun c=>gd (0+a.AG.length<=lim) (bd (KZ a.Az) fun e=>bd (KZ a.Ay) fun g=>bd (KZ a.Ay) fun q=>CG c c (ev5 a.Now a.As a.AG ([]:List Ad) e (eqv g q (bd (KZ a.Az) fun y=>bd (KZ a.Ay) fun B=>CG c c (ev4 a.Now a.As a.AG ([]:List Ad) (eqv e y (eqv g B (gd (0+a.AG.length<=lim) (bd (KZ a.Az) fun E=>bd (KZ a.Ay) fun G=>CG c c (ev4 a.Now a.As a.AG ([]:List Ad) (eqv e E (eqv g G (bd (vC a.AR) fun H=>gd (0+a.AG.length<=lim) (bd (KZ a.Az) fun h=>bd (KZ a.Ay) fun j=>CG c H (ev4 a.Now a.As a.AG ([]:List Ad) (eqv e h (eqv g j (A7 (dK a) big (0,AE.mk c a.Now a.As a.AG [] e g)))))))))))))))))))
def LO:GF:=gZ ZV Ny AB7 0x243349917b32af009571c77a622f9afd0850ac2ce63f1483bafad7f80cecff364311e3157997ce486ca01b3e815efe18f4d58937028fa81caee3d60c3e5c98758b0abe42668b1b58f50b96706768a5937318645379a08eec39768cb6c3ca72b32fdb56eb231611a59e6212c82736af67187b84c087dd1b7bef0fb01806a46222bf026818b9e16b11e93b9688d017508218f5f081c45446013966a5690df61ec1a0cf2f705b6f700f9caab35ff64a568c4415bbc3384719f176cd247bf5df6a614e91cab277cb4f1c93a5b8fb5ea18a87b5c1e31a87a8e01d604ae5f6e9cb20c8e565974aa2e0c43146fd7d730a30348652e49fb4e309d4719017a13130243d4a2c9bb3574610e45fa334fbf03058d2c3472fb33b040222cce7efd5a04a6d451a1790cb497445375660c08129f0 [AK6,pZ,ALR] (Bg Nq)
def dL(a:Ap):AA Ap:=bd (Nq a.BU) fun c=>gd (0+a.Laid.length<=lim) (some (Ap.mk c a.Bi a.Seq a.Laid))
def pq:GF:=gZ Up qg rB 0x22dc2832dfb7e8ec338506441de4ada6b7f4b75a323dc253ef68be65aaaee7655bdb6654aefea2c24e [LO] (Bg dL)
def SA(a:List Int):AA (List UInt8):=bd (um a) fun c=>some c
def AEB(a:B9):AA (List UInt8):=bd (Vn a) fun c=>br (!c) (some []) (br (a.Kind==1) (gd ([a.Kind].length+[a.Id,a.AX,w64 (a.BY+1),a.A5,a.Ci].length<=lim) (jn (SA) ([a.Kind]++[a.Id,a.AX,w64 (a.BY+1),a.A5,a.Ci]))) (br (a.Kind==3) (gd ([a.Kind].length+[a.AX,a.A5].length<=lim) (jn (SA) ([a.Kind]++[a.AX,a.A5]))) (br (a.Kind==6) (jn SA [a.Kind]) (gd ([a.Kind].length+[a.Id].length<=lim) (jn (SA) ([a.Kind]++[a.Id]))))))
def ALS:GF:=gZ [.v (.st 0)] Nx DJ 0x12ceb283ab35e4265d99753638ba65e2e4ac8da0911d89c521c165364c66184d3776af8fecb707cd80941698236e62c3eb29c3d2306ccd5aa94db1224885eb5731f507d90c8d6ad9eafb70754adc0c683b0df5c0c539427892406dc9353d821f7f9efd713 [gV,AK1] (Bg AEB)
def dM(h:Int)(c:List UInt8)(j:Bool):AA (List UInt8):=br j (some []) (bd (Vq h) fun e=>gd (List.length e+c.length<=lim) (bd (uq (e++c)) fun a=>gd ([toB (DV a 24),toB (DV a 16),toB (DV a 8),toB a].length+(e++c).length<=lim) (bd (Vq ((↑([toB (DV a 24),toB (DV a 16),toB (DV a 8),toB a]++(e++c)).length:Int))) fun g=>gd (List.length g+([toB (DV a 24),toB (DV a 16),toB (DV a 8),toB a]++(e++c)).length<=OE) (some (g++([toB (DV a 24),toB (DV a 16),toB (DV a 8),toB a]++(e++c)))))))
def vt(a:Int)(c:List UInt8):AA (List UInt8):=bd (Cq a 1 1000000) fun e=>br (!e) (jn (dM a c) true) (bd (Cq (↑c.length:Int) 1 60) fun g=>jn (dM a c) (!g))
def ALT:GF:=gZ [.v .i,.v .s] Nx Ch 0xc4044f87f87596a5c547bd362328cbde8e10670debbbfae19173478f9ac1b3e12c6e556aa08944e5cef5deafb4c2b28de77443408d4d3ce2b36de0a740a5451a128166d553bde0f1575295ade6a37730adb2f1de3c9be89b4bb3cb065d [Fv,ABJ,AK2] (A8 vt)
def vu(a:Int)(c:B9):AA (List UInt8):=bd (AEB c) fun e=>bd (vt a e) fun g=>some g
def ALU:GF:=gZ [.v .i,.v (.st 0)] Nx Ch 0x32caa3d5a41dc2e2d3cd8d763a [ALS,ALT] (A8 vu)
def dO(a:CH)(c:List UInt8)(e:Bool):AA (CH×Bool):=br e (some (a,false)) (some ((CH.mk (a.Data++c) a.Safe,true)))
def dN(a:CH)(c:List UInt8):AA (CH×Bool):=gd (a.Data.length+c.length<=OE) (bd (R6 a) fun e=>br (!e) (jn (dO a c) true) (bd (R6 (CH.mk (a.Data++c) a.Safe)) fun g=>jn (dO a c) (!g)))
def ALV:GF:=gZ [.v (.st 9),.v .s] AB2 AB6 0xb597e450ba86f382889290532668e3b5291a9b771cfece88baa0c4d07197678063e5ebca8ec7e48ade6bc5fae68765ad [pf] (A8 dN)
def AEC(c:Ap)(g:B9):AA (Ap×Int):=bd (dL c) fun a=>bd (cL c) fun y=>br (!y) (some (a,21)) (bd (Vn g) fun B=>br (!B) (some (a,22)) (br (c.Seq==1000000) (some (a,23)) (br ((↑c.Laid.length:Int)==8) (some (a,24)) (bd (vu (w64 (c.Seq+1)) g) fun h=>bd (dN c.Bi.Log h) fun e=>bd (dN c.Bi.Log h) fun j=>eqv e.snd j.snd (Y0 e.fst j.fst (bd (vu (w64 (c.Seq+1)) g) fun E=>bd (dN c.Bi.Log E) fun q=>eqv e.snd q.snd (Y0 e.fst q.fst (br (!e.snd) (some (a,24)) (gd (a.Laid.length+[g].length<=lim) (some ((Ap.mk a.BU (CN.mk e.fst a.Bi.GG a.Bi.Odd) (w64 (a.Seq+1)) (a.Laid++[g]),0))))))))))))
def ALW:GF:=gZ qV (.ret [(.st 11),.i]) rC 0x174e968d0113de2aa3ce9eccc48bb4a3a720273ac1b58f05bbd20cc54e3235fe3d921b57340960e610dba2643be4b760a4eb4d9e62dcb8434ca7fd797248ebef915adf7b18a369dd92725acc4d35dabae44d119e1ff5e00ccef0a63cd46aaf4c8600a1910f6be81edeb0f27612901aef323ca5e41e9b3b08825008e26be6ff63d6ae3672267457fa891f619729b03ac0a7cf6d6b1d2f99746505ae388365eaddae7a674b18774d24162fa94816890e9a8b3c71216028828896ec086b629455c9122de0d8d12a79cd621f4daceb7a7ebd0155f4327e518ccaf37025f6bd12ed765bfa892644b2cada241db37c5521ef8585871 [pq,pg,gV,ALU,ALV] (A8 AEC)
end Lv
