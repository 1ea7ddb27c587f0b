/- Functions of the program as typed texts and as plain functions. -/
import Derived.Test.YtdmpkjjlnjchkaaGreatKE4
noncomputable section
set_option linter.unusedVariables false
set_option linter.unusedSimpArgs false
set_option linter.unusedSectionVars false
set_option maxRecDepth 100000
namespace Lv
open Go (IntKind BinOp UnOp)
open Y (YF qn qf qt qr q1 qd qm qa qo ql qL qb qi qx qp qq qc qz qe qk qK qB qw qu qj Kp wn wf wt w1 sw sq sr wm wM wo wO wl wL wk wK wz wZ wx wX wb wB wi wI wr wR wq wQ we wE wc wY wj wh cv ca cx cn ce bl)
def Nh(a:Bu):AA Bu:=some a
def AJX(a:Bu):AA Bu:=bd (AX7 a) fun c=>br c (jn Nh (Bu.mk a.Data (↑a.Data.length:Int))) (jn Nh a)
def ANp:GF:=gZ [.v (.st 9)] AiY Als 0x9bbdadfcacf4dc7b47c30a2e0f420a778298316348260 [ALY] (BL AJX)
def AJY(a:Ae):AA (Ae×(List CE)):=bd (fP a) fun c=>bd (ANV a) fun g=>br (!g) (some (c,[])) (bd (Ng a.BD a.Laid) fun e=>bd (AJX a.BO.Log) fun h=>some ((Ae.mk e.fst (Bb.mk h c.BO.Dl c.BO.Odd) c.Seq [],e.snd)))
def ANq:GF:=gZ A9G (.ret [(.st 11),(.l (.st 12))]) BE1 0x9426ef0b709172d74b0a9e856d2417ce62da503f6a5222e29db7090881280897cf6b6287f13d2c91ce866a05e8b0d9e9250f7249130e8483e04f80482ecfef6a22b0e119619265fd04f2aa957fdeb6fab9a6f1e24 [OT,T7,Lm,ANp] (BL AJY)
end Lv
set_option maxRecDepth 100000
namespace Lv
open Go (IntKind BinOp UnOp)
open Y (YF qn qf qt qr q1 qd qm qa qo ql qL qb qi qx qp qq qc qz qe qk qK qB qw qu qj Kp wn wf wt w1 sw sq sr wm wM wo wO wl wL wk wK wz wZ wx wX wb wB wi wI wr wR wq wQ we wE wc wY wj wh cv ca cx cn ce bl)
def AJb(e:Ae)(g:BX):AA (Ae×CE):=bd (AQl e g) fun c=>br (c.snd != 0) (some (c.fst,CE.mk c.snd [])) (bd (AJY c.fst) fun a=>bd (at? a.snd (w64 ((↑(List.length a.snd):Int)-1))) fun j=>bd (at? a.snd (w64 ((↑(List.length a.snd):Int)-1))) fun h=>some (a.fst,h))
def ANr:GF:=gZ Amz (.ret [(.st 11),(.st 12)]) [.cell 4 (some 23),.cell 5 (some 2)] 0x2fc866d767f9194d8d97a0c7194183a0fcffd48afa66d2660195f582a7bc557d67978bc9b2de2dc2331d52e5b35b957cf863fa5a7e550fe584b60890f13a56e0893db7d8dffb0cfaa7bd6f7e3e9cee1a54b3aa [lA,ANq] (Ah AJb)
def A9j(a:Bu)(c:Int)(e:Bool):AA (Bu×Bool):=br e (some (a,false)) (gd (0<=c/\c<=(↑a.Data.length:Int)) (some ((Bu.mk (List.drop c.toNat a.Data) (w64 ((↑a.Data.length:Int)-c)),true))))
def ARN(a:Bu)(c:Int):AA (Bu×Bool):=bd (AX7 a) fun e=>br (!e) (jn (A9j a c) true) (bd (AUr c 0 (↑a.Data.length:Int)) fun g=>br (!g) (jn (A9j a c) true) (jn (A9j a c) (decide (a.Safe<(↑a.Data.length:Int)))))
def dB:GF:=gZ [.v (.st 9),.v .i] AOR BDA 0x463cdeffbe43341248c902c69b4951e61beaf747b31fcdf65c2718157595ab08171cdcd00576da654c6aa2909c9b2fd42088249908d71b300adb23d96311f59de16abf6aa8c9d1 [ALY,ACO] (Ah ARN)
def tJ(a:Bb):AA Bb:=some a
def MO(a:Bb)(e:Int)(c:Bu):AA Bb:=br (e.tmod 2==0) (jn tJ (Bb.mk a.Log c a.Odd)) (jn tJ (Bb.mk a.Log a.Dl c))
def Xr:GF:=gZ [.v (.st 10),.v .i,.v (.st 9)] Ve [.cell 6 (some 6)] 0x6435118644379c2a74387ae33f71b630c195245dca3068fb731142a9f88a0e9ee641f8e [] (GX MO)
def AkG(e:Ae)(j:Int)(y:(Bool×Ae×Bu)):AA (Ae×Bool):=match y with |(g,a,h)=>br (!g) (bd (fP e) fun q=>some (q,false)) (bd (MO a.BO (w64 (1-j)) h) fun c=>some (Ae.mk a.BD c a.Seq a.Laid,true))
def Ata(a:Ae)(j:Int)(c:Ae)(H:Bool):AA (Ae×Bool):=br H (some (c,false)) (bd (nG a.BO) fun e=>br (decide (e<0)) (some (c,false)) (bd (AQy a.BO (w64 (1-e))) fun G=>br (j==0) (jn (AkG a e) (true,c,Bu.mk [] 0)) (br (j==1) (bd (AHn a.BD a.Seq) fun q=>bd (AQk G q) fun g=>jn (AkG a e) (g.snd,c,g.fst)) (br (j==2) (bd (AJX G) fun y=>jn (AkG a e) (true,c,y)) (bd (ARA a.BO e) fun B=>bd (AQh a.BO B.snd.fst) fun E=>bd (ARN a.BO.Log E) fun h=>jn (AkG a e) ((h.snd,Ae.mk c.BD (Bb.mk h.fst c.BO.Dl c.BO.Odd) c.Seq c.Laid,G)))))))
def ARO(a:Ae)(c:Int):AA (Ae×Bool):=bd (fP a) fun e=>bd (ANV a) fun h=>br (!h) (jn (Ata a c e) true) (br (decide ((↑a.Laid.length:Int)>0)) (jn (Ata a c e) true) (bd (AUr c 0 3) fun g=>jn (Ata a c e) (!g)))
def Xs:GF:=gZ [.v (.st 11),.v .i] Am2 xj 0x2e0b60c4af06df4ffdece596920df1820d390a40c26cb93e61eae2cf465dcaf60e5c6ae4d68d2d84c4ff1a73590f95c4e765faaf5b9a31a5c97b5d671a32190651b1c3c11aa68501df6f4827ac12735033d30ce96c1f5b9bd422986d7cff0dfe8f731b971ed07d4bb3e4e29d689087ef3164f7404947cd5365cf719b128c49855539ca6687efd36a89252cefff7478633f6c66362fe66b6d730886c64b2d0f4c15b94414e646be1be7d4ea8b6319ae735123fd6b2068e82c0eafa522aa2b44e6e8c5a9705bd99687a750e594ff3674b7b5a4388876ec4d934f46307cf10e20217449d700db10bc6ad77e02ff37d384f9cc3ed582b7f7a0a90f2b8c00c0fe72c9deb5fa04a3d63572afcaaf14032c7f6dfcbb4ff74 [OT,T7,ACO,cg,VE,QM,kz,ANp,AZC,Xk,dB,Xr] (Ah ARO)
def RP(a:Bb):AA Bb:=some a
def JU(a:Bb)(e:Int)(c:Bu):AA Bb:=br (e.tmod 2==0) (jn RP (Bb.mk a.Log c a.Odd)) (jn RP (Bb.mk a.Log a.Dl c))
def Lb(a:Bu)(c:Int)(e:Bool):AA (Bu×Bool):=br e (some (a,false)) (gd (0<=c/\c<=(↑a.Data.length:Int)) (some ((Bu.mk (List.drop c.toNat a.Data) (w64 ((↑a.Data.length:Int)-c)),true))))
def Wy(a:Bu)(c:Int):AA (Bu×Bool):=bd (W6 a) fun e=>br (!e) (jn (Lb a c) true) (bd (AQR c 0 (↑a.Data.length:Int)) fun g=>br (!g) (jn (Lb a c) true) (jn (Lb a c) (a.Safe != (↑a.Data.length:Int))))
def Gs(e:(Bool×Ae)):AA (Ae×Bool):=match e with |(a,c)=>some (c,a)
def Gr(c:Ae)(j:Int)(a:Ae)(h:Int)(I:Bool):AA (Ae×Bool):=br I (some (a,false)) (bd (ARB c.BO (w64 (1-h))) fun H=>br (j==0) (bd (JU c.BO (w64 (1-h)) (Bu.mk [] 0)) fun J=>jn (Gs) (true,Ae.mk a.BD J a.Seq a.Laid)) (br (j==1) (bd (AYA c.BD c.Seq) fun L=>bd (AQd H L) fun e=>bd (JU c.BO (w64 (1-h)) e.fst) fun q=>jn (Gs) (e.snd,Ae.mk a.BD q a.Seq a.Laid)) (br (j==2) (bd (A8u H) fun y=>bd (JU c.BO (w64 (1-h)) y) fun B=>jn (Gs) (true,Ae.mk a.BD B a.Seq a.Laid)) (bd (ABB c.BO h) fun E=>bd (Ps c.BO E.snd.fst) fun G=>bd (Wy c.BO.Log G) fun g=>jn (Gs) ((g.snd,Ae.mk a.BD (Bb.mk g.fst a.BO.Dl a.BO.Odd) a.Seq a.Laid))))))
def WS(a:Ae)(c:Int):AA (Ae×Bool):=bd (AQq a) fun g=>bd (AYO a.BO) fun e=>bd (AQa a) fun j=>br (!j) (jn (Gr a c g e) true) (br (decide ((↑a.Laid.length:Int)>0)) (jn (Gr a c g e) true) (bd (AQS c 4) fun h=>br (!h) (jn (Gr a c g e) true) (jn (Gr a c g e) (decide (e<0)))))
def AmZ(a:Ae):AA (Ae×Bool):=some (a,true)
def AkU(h:Int)(g:(Int×Ae)->AA (Ae×Bool))(q:(Int×Ae)):AA (Ae×Bool):=match q with |(a,c)=>bd (XA h 4) fun j=>br (decide (a<j)) (bd (ARO c a) fun e=>br (!e.snd) (some (c,false)) (g ((w64 (a+1),e.fst)))) (jn AmZ c)
def Ae1(a:Ae)(c:Int):AA (Ae×Bool):=bd (fP a) fun e=>A4 (AkU c) big (0,e)
def Jj:GF:=gZ [.v (.st 11),.v .i] Am2 xj 0x340e7b0f9045306ad8568e6b13a8d67f6877d23d5995fdf17ac9b70eba43ac91b9cbf488aff00ad0ef27036850d0d32f468a0aa9acc0c4ede93a17d7a2363526e91b7c8778a38c4a8455553d990336855cb6c9c0f0 [OT,Xj,Xs] (Ah Ae1)
end Lv
set_option maxRecDepth 100000
namespace Lv
open Go (IntKind BinOp UnOp)
open Y (YF qn qf qt qr q1 qd qm qa qo ql qL qb qi qx qp qq qc qz qe qk qK qB qw qu qj Kp wn wf wt w1 sw sq sr wm wM wo wO wl wL wk wK wz wZ wx wX wb wB wi wI wr wR wq wQ we wE wc wY wj wh cv ca cx cn ce bl)
def tu(e:(Int×AX×Ae)->AA (Ae×AX))(g:Int)(h:(AX×Ae)):AA (Ae×AX):=match h with |(a,c)=>e ((w64 (g+1),a,c))
def gX(q:(Int×AX×Ae)->AA (Ae×AX))(y:Int)(B:(AX×Ae)):AA (Ae×AX):=match B with |(g,c)=>bd (AA5 g 8) fun a=>br a.fst (bd (AJY c) fun h=>bd (AIN a.snd 5) fun e=>bd (Ae1 h.fst e.fst) fun j=>jn (tu q y) (e.snd,j.fst)) (jn (tu q y) (a.snd,c))
def Ama(j:(Int×AX×Ae)->AA (Ae×AX))(q:Int)(y:Ae)(B:(AX×BX)):AA (Ae×AX):=match B with |(e,c)=>bd (AA5 e 5) fun a=>br a.fst (bd (AQl y c) fun g=>jn (gX j q) (a.snd,g.fst)) (bd (AJb y c) fun h=>jn (gX j q) (a.snd,h.fst))
def BCv(e:(AX×Ae)):AA (Ae×AX):=match e with |(a,c)=>some (c,a)
def BBD(j:(Int×AX))(h:(Int×AX×Ae)->AA (Ae×AX))(y:(Int×AX×Ae)):AA (Ae×AX):=match y with |(c,e,a)=>br (decide (c<j.fst)) (bd (AA8 e a.BD) fun g=>bd (AQl a g.fst) fun q=>h ((w64 (c+1),g.snd,q.fst))) (jn BCv (e,a))
def BCu(g:(AX×Ae)):AA (Ae×AX):=match g with |(c,e)=>bd (AIN c 4) fun a=>A4 (BBD a) big (0,a.snd,e)
def AkV(y:(Int×AX))(h:(Int×AX×Ae)->AA (Ae×AX))(B:(Int×AX×Ae)):AA (Ae×AX):=match B with |(e,j,a)=>br (decide (e<y.fst)) (bd (AA8 j a.BD) fun q=>bd (AA5 q.snd 2) fun g=>br g.fst (bd (s6 g.snd a.BD) fun c=>jn (Ama h e a) (c.snd,c.fst)) (jn (Ama h e a) (g.snd,q.fst))) (jn BCu (j,a))
def AJ8(e:AX):AA (Ae×AX):=bd (AIQ e) fun a=>bd (AQi a.fst) fun g=>bd (AIN a.snd 14) fun c=>A4 (AkV c) big (0,c.snd,g.fst)
def SY:GF:=gZ ZG AsG AvV 0xb7c2c023434567cfbcfcb1ab65ff5c0befb701fda3fc741be62658dbfe78751399ce8403fef70bbf2aa5172b6c03a53e48a86acbb0fd49c7a0f83e3215920c537f83de694369eecf54da777a5879681b8cea090be54393b6a8e1335f896e3f76ef4cebdaaa60866ae761b393b009ed186f6b193aee7cf17f09ccdaea3f5eb37e6b01972d3c3a99d6cf49089ee8dc29a6815552a5eaaccba64acf66bd62730295dd2264a2dfb1c579a94929de4dfb8ec8f8cfd736316500e82445dbf3f14f264c0aee71ee1a8909768bcb29f98d53a64635d0d35a5bb0f0cb0e5ae0ea9aa826240368d2f5e38f [SQ,SI,SP,AZB,SR,xM,lA,ANr,ANq,Jj] (BL AJ8)
def AJ9(e:AX)(c:List UInt8):AA ((List UInt8)×AX):=bd (AQ1 e ([19989,19990,20000])) fun a=>gd (0<=a.fst/\a.fst<=(↑c.length:Int)) (some ((List.take (Int.toNat a.fst) c,a.snd)))
def AKA(e:AX)(c:(List UInt8)->AA ((List UInt8)×AX))(a:List UInt8):AA ((List UInt8)×AX):=br (decide ((↑a.length:Int)<20000)) (gd (a.length+a.length<=On) (c (a++a))) (jn (AJ9 e) a)
def ARY(a:AX):AA ((List UInt8)×AX):=A4 (AKA a) big ([48,49,50,51,52,53,54,55,56,57])
def Xv:GF:=gZ ZG xc A8H 0xa18f545e6b8ba4b5428acd59bd172ae69d55a237f03b7d1321a322d21e28b832dfbd9ba58b6379e83b07 [Xp] (BL ARY)
def A3b(e:(AX×Ae)):AA (Ae×AX):=match e with |(a,c)=>some (c,a)
def BCw(h:(Int×AX))(g:(Int×Ae)->AA (Ae×AX))(j:(Int×Ae)):AA (Ae×AX):=match j with |(a,c)=>br (decide (a<9)) (bd (AQl c (BX.mk 6 0 0 0 0 0)) fun e=>g ((w64 (a+1),e.fst))) (jn A3b (h.snd,c))
def tw(y:AX):AA (Ae×AX):=bd (AJ8 y) fun a=>bd (AIN a.snd 20) fun c=>br (c.fst==0) (bd (AQ1 c.snd ([-1,0,999999,1000000,1000001,9223372036854775807])) fun h=>jn (A3b) (h.snd,Ae.mk a.fst.BD a.fst.BO h.fst a.fst.Laid)) (br (c.fst==1) (bd (sO c.snd a.fst.BD) fun g=>gd (a.fst.Laid.length+[g.fst].length<=lim) (jn (A3b) ((g.snd,Ae.mk a.fst.BD a.fst.BO a.fst.Seq (a.fst.Laid++[g.fst]))))) (br (c.fst==2) (bd (AQ1 c.snd ([-1,0,30000])) fun j=>jn (A3b) ((j.snd,Ae.mk a.fst.BD (Bb.mk (Bu.mk a.fst.BO.Log.Data j.fst) a.fst.BO.Dl a.fst.BO.Odd) a.fst.Seq a.fst.Laid))) (br (c.fst==3) (bd (Px c.snd) fun q=>jn (A3b) (q.snd,Ae.mk q.fst a.fst.BO a.fst.Seq a.fst.Laid)) (br (c.fst==4) (A4 (BCw c) big (0,a.fst)) (br (c.fst==5) (bd (ARY c.snd) fun e=>jn (A3b) ((e.snd,Ae.mk a.fst.BD (Bb.mk (Bu.mk e.fst a.fst.BO.Log.Safe) a.fst.BO.Dl a.fst.BO.Odd) a.fst.Seq a.fst.Laid))) (jn A3b (c.snd,a.fst)))))))
def SZ:GF:=gZ ZG AsG AvV 0x9717f66cadea4b71e2b90e6f7f381cd0fe2f10f62795538c9bd19b9537c82a637558415d6721cc96be0b4cc54f58d102c4b02820e93877da4cbecbfe7de440863f4a3219f3f95239b093ba356c177cbf0f5d088f7a351e170511927da3bd51de539949c8405de445d1b5897aec69304df41b4d745c950d5559c80fb27340667b38d0453f76344f845cd3b2659baa1cd39883047142228754c5b176696756b984b87963b7bb2619ff317ced00329d14756c02ca128f93158 [SY,SP,Xp,lJ,JA,lA,Xv] (BL tw)
def AKD(e:List UInt8):AA (Ae×BX):=bd (rr e) fun g=>bd (tw g) fun a=>bd (AA5 a.snd 6) fun c=>br c.fst (bd (sO c.snd a.fst.BD) fun h=>some (a.fst,h.fst)) (bd (AA8 c.snd a.fst.BD) fun j=>some (a.fst,j.fst))
def Xw:GF:=gZ Aw1 AOT xk 0x1465474f8e50c4ac20f2055ab4ee91a5ac9590a07319f75482533422d780fa9dbc989d6ef3351709691406b49ce7e35a9210194243fe33 [SN,SZ,SR,lJ,AZB] (BL AKD)
def WT(c:List UInt8):AA (Ae×BX):=bd (AKD c) fun a=>some (a.fst,a.snd)
def nK(e:AX)(a:List (List UInt8)):AA ((List UInt8)×AX):=bd (AIN e (↑a.length:Int)) fun c=>bd (at? a c.fst) fun g=>some (g,c.snd)
def Sa:GF:=gZ [.b (.st 17),.v (.l .s)] xc A8I 0x55690d9007254b54e6a67bcb28e6df65 [SP] (Ah nK)
def Ath(g:((List UInt8)×Int×Int×AX)->AA ((List UInt8)×AX))(h:Int)(j:((List UInt8)×Int×AX)):AA ((List UInt8)×AX):=match j with |(a,c,e)=>g ((a,c,w64 (h+1),e))
def gp(j:((List UInt8)×AX)):AA ((List UInt8)×AX):=match j with |(a,h)=>bd (AIN h 4) fun c=>br (c.fst==0) (bd (AIN c.snd (w64 ((↑(List.length a):Int)+1))) fun e=>gd (0<=e.fst/\e.fst<=(↑(List.length a):Int)) (some ((List.take (Int.toNat e.fst) a,e.snd)))) (br (c.fst==1) (bd (AQ2 c.snd a) fun g=>some (g.fst,g.snd)) (some (a,c.snd)))
def BCx(G:(Int×AX))(j:((List UInt8)×Int×Int×AX)->AA ((List UInt8)×AX))(H:((List UInt8)×Int×Int×AX)):AA ((List UInt8)×AX):=match H with |(g,q,h,y)=>br (decide (h<G.fst)) (bd (AIN y 6) fun B=>bd (AYN B.snd (w64 (1+B.fst))) fun E=>bd (nE q E.fst) fun a=>gd (List.length g+List.length a<=On) (bd (AA5 E.snd 8) fun c=>br c.fst (bd (AIN c.snd 6) fun e=>jn (Ath j h) ((g++a,w64 (1+e.fst),e.snd))) (jn (Ath j h) ((g++a,w64 (q+1),c.snd))))) (jn gp (g,y))
def nL(e:AX):AA ((List UInt8)×AX):=bd (AIN e 5) fun a=>bd (AIN a.snd 4) fun c=>A4 (BCx a) big (([],w64 (1+c.fst),0,c.snd))
def Xx:GF:=gZ ZG xc A8H 0x6c0c0c4a0fba290a3041b3116896db1bb9170c697f22d36d2725044eb4b3e4c65e7ade49630f5bcc4413a100c34402a92ea116bc7f48bf6498fb0a7625eb0074d988047b9c125e3a8a9e6eb33fd797b023dae76c30e7c32da5e6e627281dc5a5fe00b87cd81b8f767cd3064a6873d340c098f11983104f4a5a4343f60dc52e02c1b9 [SP,AD6,VD,SR,AD7] (BL nL)
def A9l(g:((List UInt8)×AX)):AA (Bu×AX):=match g with |(a,e)=>bd (AIN e (w64 ((↑(List.length a):Int)+1))) fun c=>some (Bu.mk a c.fst,c.snd)
def nM(g:AX):AA (Bu×AX):=bd (nK g ([[],[97],[115,111,109,101,32,98,121,116,101,115],[0,1,2,3]])) fun c=>bd (AA5 c.snd 3) fun a=>br a.fst (bd (nL a.snd) fun e=>jn (A9l) (e.fst,e.snd)) (jn A9l (c.fst,a.snd))
def VM:GF:=gZ ZG AiY Als 0x107e4d91a2f6c47cd02e436c4a2034493ba9ab6e51add4085966e8f93f9b066b3b1aa7ebd3e80b4f77ec768635eaa0ce35 [Sa,SR,Xx,SP] (BL nM)
def A3d(e:(AX×Bu)):AA (Bu×AX):=match e with |(a,c)=>some (c,a)
def Awi(a:(Bu×AX))(c:(Int×AX))(e:Bool):AA (Bu×AX):=br e (jn A3d ((c.snd,Bu.mk a.fst.Data (↑a.fst.Data.length:Int)))) (jn A3d (c.snd,a.fst))
def ARZ(g:AX):AA (Bu×AX):=bd (nM g) fun c=>bd (AIN c.snd 12) fun a=>br (a.fst==0) (bd (AQ1 a.snd ([-1,w64 ((↑c.fst.Data.length:Int)+1),9223372036854775807,-9223372036854775808])) fun e=>jn (A3d) (e.snd,Bu.mk c.fst.Data e.fst)) (br (a.fst==1) (jn (Awi c a) (a.fst==1)) (br (a.fst==2) (jn (Awi c a) (a.fst==2)) (jn (Awi c a) (a.fst==3))))
def Xy:GF:=gZ ZG AiY Als 0xc390fc98214db4c63b551092507c4755e655e90d93405b5e915d5f2bed0a3b338319308fe249925fcdb53c80e0bde7e3bfebb465828c13ced7475977663fad42ede5266e3adc7d3ba5c2710f4069b470ce283 [VM,SP,Xp] (BL ARZ)
def ARa(g:AX):AA (Bb×AX):=bd (ARZ g) fun a=>bd (ARZ a.snd) fun c=>bd (ARZ c.snd) fun e=>some (Bb.mk a.fst c.fst e.fst,e.snd)
def Xz:GF:=gZ ZG Ve Ayv 0xdfdc76288a314c662612b5c9684ea1b78b43db2a3931063c [Xy] (BL ARa)
def A8Y(e:(AX×Bb)):AA (Bb×AX):=match e with |(a,c)=>some (c,a)
def ARb(j:AX):AA (Bb×AX):=bd (AJ8 j) fun a=>bd (AIN a.snd 8) fun c=>br (c.fst==0) (bd (AQ2 c.snd a.fst.BO.Dl.Data) fun e=>jn (A8Y) ((e.snd,Bb.mk a.fst.BO.Log (Bu.mk e.fst a.fst.BO.Dl.Safe) a.fst.BO.Odd))) (br (c.fst==1) (jn A8Y (c.snd,Bb.mk a.fst.BO.Log a.fst.BO.Dl a.fst.BO.Dl)) (br (c.fst==2) (bd (AIN c.snd (w64 ((↑a.fst.BO.Dl.Data.length:Int)+1))) fun g=>jn (A8Y) ((g.snd,Bb.mk a.fst.BO.Log (Bu.mk a.fst.BO.Dl.Data g.fst) a.fst.BO.Odd))) (br (c.fst==3) (bd (ARa c.snd) fun h=>jn (A8Y) (h.snd,h.fst)) (br (c.fst==4) (jn A8Y ((c.snd,Bb.mk a.fst.BO.Log a.fst.BO.Dl (Bu.mk a.fst.BO.Odd.Data (-1))))) (jn A8Y (c.snd,a.fst.BO))))))
def YA:GF:=gZ ZG Ve Ayv 0xa183d0a2892e7763dfd2a4555b6a1d2adab71693e28d07da5b138121343e16593c2035bd9c738fb0fb6cfef552dd427751ae481ce84a9ea54eec68096d09baed43d1649c523195db3ac5884146c97165699680b0cffe6bcd794b277cc013beb78181950c557ac413ed1af1071afff3a5b7d5dc440e130a4ccb [SY,SP,AD7,Xz] (BL ARb)
def uF(a:List UInt8):AA Bb:=bd (rr a) fun c=>bd (ARb c) fun e=>some e.fst
def QW:GF:=gZ Aw1 Ve Ayv 0x1a7d50c934f7bb72cd6eb05f9 [SN,YA] (BL uF)
def EA(a:Bool):AA Bool:=some a
def Lc(h:List UInt8):AA Bool:=bd (AII h) fun j=>br j (some true) (bd (uF h) fun e=>bd (AYO e) fun g=>bd (nG e) fun q=>br (g != q) (some false) (bd (ABB e 0) fun a=>bd (ABB e 1) fun c=>br (g==0) (br a.snd.snd (br (!c.snd.snd) (jn EA true) (jn EA (decide (a.snd.fst>=c.snd.fst)))) (jn EA false)) (br (g==1) (br c.snd.snd (br (!a.snd.snd) (jn EA true) (jn EA (decide (c.snd.fst>a.snd.fst)))) (jn EA false)) (br (!a.snd.snd) (jn EA (!c.snd.snd)) (jn EA false)))))
def Ix:GF:=gZ Aw1 A8J A8H 0x20e10827f7555ed817eb975f823ab128960f545725ebf3c2255765d5ff8be814758462b8b3bcc4975eccbebdaa6e3d1635399d82e6a10a868841b8459da290b25744d2efab9cbc9e6e5023c3103200044367e3b94dd2ad6a6eae72ea788cebf08c157992eb589e4cdb4dd87973a3a09a428e271dbd00fb174b63bca5c9c3c539bfeb8199432090ac7fee8a41864f219eaeedcdb164854317d047202f84040f66dba99c128 [VF,QW,AEE,cg,AED] (BL Lc)
end Lv
set_option maxRecDepth 100000
namespace Lv
open Go (IntKind BinOp UnOp)
open Y (YF qn qf qt qr q1 qd qm qa qo ql qL qb qi qx qp qq qc qz qe qk qK qB qw qu qj Kp wn wf wt w1 sw sq sr wm wM wo wO wl wL wk wK wz wZ wx wX wb wB wi wI wr wR wq wQ we wE wc wY wj wh cv ca cx cn ce bl)
end Lv
