/- Functions of the program as typed texts and as plain functions. -/
import Derived.Test.YtcmjfplpdjflnaaGreatKE
open Int renaming toNat->o4
open List renaming length->e9,take->e8,drop->g0,replicate->c5
noncomputable section
set_option linter.unusedVariables false
set_option linter.unusedSimpArgs false
set_option linter.unusedSectionVars false
set_option maxRecDepth 100000
namespace Lv
open Go (IntKind BinOp UnOp)
open Y (YF qn qf qt qr q1 qd qm qa qo ql qL qb qi qx qp qq qc qz qe qk qK qB qw qu qj Kp wn wf wt w1 sw sq sr wm wM wo wO wl wL wk wK wz wZ wx wX wb wB wi wI wr wR wq wQ we wE wc wY wj wh cv ca cx cn ce bl)
def AXw(a:(C.l (.st 2)).D)(c:Int)(e:(C.l (.st 2)).D):AA (C.l (.st 2)).D:=ln (.st 2) a c e
def AEa:GF:=AZO (.st 2) rfl
def AOj(a:(C.l (.st 4)).D)(c:Int)(e:(C.l (.st 4)).D):AA (C.l (.st 4)).D:=ln (.st 4) a c e
def AEb:GF:=AZO (.st 4) rfl
def AXx(a:(C.l (.st 4)).D)(c e:Int):AA (C.l (.st 4)).D:=AA7 (.st 4) a c e
def AEc:GF:=AZE (.st 4) rfl rfl
def AXy(a:(C.l (.st 5)).D)(c e:Int):AA (C.l (.st 5)).D:=AA7 (.st 5) a c e
def AEd:GF:=AZE (.st 5) rfl rfl
def AXz(a:(C.l (.st 2)).D)(c e:Int):AA (C.l (.st 2)).D:=AA7 (.st 2) a c e
def AEe:GF:=AZE (.st 2) rfl rfl
def gG(a:B3):AA B3:=some a
def nn(a:B3):AA B3:=bd (QL a) fun c=>br c (jn gG (B3.mk a.Data (↑a.Data.length:Int))) (jn gG a)
def sG:=gZ Xs Tw jJ ["D0URdWvnzjovEGP8n4pzfbzhePrlF"] [RF] (Be nn)
def AIq(a:BD):AA (BD×(List Bf)):=bd (Ss a) fun c=>bd (Y5 a) fun g=>br (!g) (some (c,[])) (bd (gD a.Az a.Laid) fun e=>bd (nn a.Bl.Log) fun h=>some (BD.mk e.fst (Br.mk h c.Bl.EJ c.Bl.Odd) c.Seq [],e.snd))
def ARd:=gZ Tt ASw si ["5vbrbhYC7HZnea9p2yfUH7cotPHfJAEQPu7L5R9jqETU3fQen2pHEdDHALTyHb55rm7xaNKVdW7iqYZL","iFlwcPWBgFAhvK5dGz585HVsAVjs"] [Xo,Xk,sF,sG] (Be AIq)
def AOk(a:AM)(c:Int):AA Bool:=some (a.Id==c)
def sH:=gZ [.v (.st 2),.p .i] CI [.tmp 3] ["3ec6hkqt7b2BpRr"] [] (Ah AOk)
def Abh:YF:=⟨[sH],[.v (.l (.st 2)),.f sH.x [(true,.i)]],[0],.ret [.i],[.tmp 4],dY ["jQk3YkUn7tQkIm2N9nlYkpBrYA77T32DupJRybErBJQXIm3ov931DgZLfu5dyHC"] [] [.Dm 16 (.tmp 11) [.v,.p] [.tmp 15]]⟩
def AAV(_:PUnit):AA Int:=some (-1)
def AAW(e:List AM)(a:Int)(g:Int->AA Int)(c:Int):AA Int:=br (decide (c<e.length)) (bd (at? e c) fun h=>bd (AOk h a) fun j=>br j (some c) (g (w64 (c+1)))) (jn AAV ())
def AOl(c:List AM)(a:Int):AA Int:=A3 (AAW c a) big 0
def ARe:GF:=Abh.gf rfl rfl (fun a=>AOl a.1 a.2.1.1) (fun a=>by kernel_rfl)
def Abi:YF:=⟨[sH],[.v (.l (.st 2)),.v .i],[],.ret [.i],[.tmp 4],dY ["1aHLTamSZobl8E"] [] [.MK 6 0 [.tmp 3],.call 7 ARe [0] rfl [.tmp 5,.tmp 6]]⟩
def nq(a:List AM)(c:Int):AA Int:=bd (AOl a c) fun e=>some e
def sI:GF:=Abi.EE (Ah nq)
def Lt(a:AF)(c:Int):AA Int:=bd (nq a.AG c) fun e=>some e
def To:=gZ HH CZ Bw ["1adH17Wn9CkemO"] [sI] (Ah Lt)
def nr(a:AF)(c:Int):AA Int:=bd (at? a.AH c) fun e=>bd (at? a.AH c) fun g=>some (w64 (e.AZ.FM-g.AZ.Fa))
def ARf:=gZ HH CZ Bw ["LWhOubCOvun817UpLK1QQQjVaS0iP9XGQ5I"] [] (Ah nr)
def gH(a:Bool):AA Bool:=some a
def AAX(a:AM)(c:Int):AA Bool:=br (a.State==2) (jn gH (decide (a.Cq<=c))) (jn gH false)
def ARg:=gZ sY CI Bw ["AU1JwiE1v1hoB8yJk7GAM6mQdg9Q"] [] (Ah AAX)
def IG(_:PUnit):AA Int:=some 0
def gJ(c:AF)(a:Bool):AA Int:=br a (some 10) (br (decide (c.Ay>1000000)) (some 11) (jn IG ()))
def LH(a:AF)(c:Bo)(g:Bool):AA Int:=br g (some 4) (bd (C0 c.BB 1 a.AQ.BB) fun h=>br (!h) (some 5) (br (decide (c.Cv>=a.AQ.Ce)) (some 6) (bd (C0 c.Id 1 999) fun j=>br (!j) (some 7) (bd (Lt a c.Id) fun q=>br (decide (q>=0)) (some 8) (bd (mj a.AG c.AY) fun y=>br (decide (y>=a.AQ.Room)) (some 9) (br (c.Bk != -1) (bd (nr a c.Bk) fun e=>jn (gJ a) (decide (e<c.BB))) (jn (gJ a) false)))))))
def gM(a:Bool):AA Int:=br a (some 17) (jn IG ())
def gK(a:AF)(e:Bo)(g:Bool):AA Int:=br g (bd (Lt a e.Id) fun c=>br (decide (c<0)) (some 7) (bd (at? a.AG c) fun h=>br (h.State != 2) (some 13) (bd (at? a.AG c) fun j=>bd (AAX j a.Now) fun q=>br q (some 14) (jn IG ())))) (br (e.Kind==6) (br (a.Now==1000000) (some 15) (jn IG ())) (br (e.Kind==7) (br (decide (e.Id>=a.AQ.C3)) (some 16) (bd (at? a.BC e.Id) fun y=>br (y == -1) (jn gM ((↑a.BE.length:Int)==0)) (jn gM false))) (jn IG ())))
def Q3(c:AF)(a:Bo):AA Int:=bd (Sr c) fun y=>br (!y) (some 1) (bd (C0 a.Kind 1 7) fun B=>br (!B) (some 2) (bd (U8 a) fun E=>br (!E) (some 3) (br (a.Kind==1) (bd (Lq a.AY (↑c.AH.length:Int)) fun G=>br (!G) (jn (LH c a) true) (bd (C0 a.Bk (-1) (w64 ((↑c.AH.length:Int)-1))) fun e=>br (!e) (jn (LH c a) true) (jn (LH c a) (a.Bk==a.AY)))) (br (a.Kind==2) (bd (Lt c a.Id) fun g=>br (decide (g<0)) (some 7) (jn IG ())) (br (a.Kind==3) (bd (Lq a.AY (↑c.AH.length:Int)) fun h=>br (!h) (some 4) (bd (C0 a.BB 1 60) fun j=>br (!j) (some 5) (bd (nr c a.AY) fun q=>br (decide (q<a.BB)) (some 12) (jn IG ())))) (br (a.Kind==4) (jn (gK c a) (a.Kind==4)) (jn (gK c a) (a.Kind==5))))))))
def Pl:=gZ jE CZ Bw ["6rw7OqdUFbcCQTCIPbBDPIliuCSlr7nOhSfQR1cYcMO0flJ8NOunh57IqzegJsFBV8b7PnYmuN6oNhZh","EtXCVfLrIjm36wgdRVCq08D115F4wYyPFMyEIPVNacPAI1Vx1LoHRi7i0EeVFubpoNp1n0tgU8dE4cfV","h1qmVGvGXpgDkuvtSRmXkKJIdfsy1qVx3N4lONLUqi7AMpPXbhJPBQQZWPw8BQdkt1T17nsnZZtiUlCt","DTTz6vi8047QSjXJXYZADi3TviV6MKdButjVC9E4DFuaMUuGbTXQQJCed9QlYxsgRREO04gn6YV0lMFS","t0TWDnHuHMWyv10Nc78Vo67l1vBQpyvzUtf7h9JiX4qfoYtvLy40cAKshOKA7zA13Ns8n70wom7TU5sc","KGsYuBpc3JVhnVflHXxE7HOF7Nsxmq7jDjlnzdw9bbdD2UXlwAh04BZlLYWS7QyCqwolp09ymDHXkvop","5NA4ExwqQqCfkwAgMeH1YERqEAOK8QiRMJSgFL8tT53yZs4gmp0ZLTE4SUUPFACxttN6pLNzMOABVdgP","r33pzXBmMxW0s9uoPYDCgXPAWmKdvkqhQRfJJoWQ0cCaMB0DDY6ZJnmWkh1I1ZvUYCazSpDlGuiQXHvh","zLKdl8sTd5y4rtpCKrkOpVsm5ngEsevGON"] [Tj,Eb,iy,Pj,To,rT,ARf,ARg] (Ah Q3)
def AOm(a c:AM):AA Bool:=some (decide (a.Id>c.Id))
def sJ:=gZ [.v (.st 2),.p (.st 2)] CI [.tmp 3] ["1xXWcPoUqjjXmy6"] [] (Ah AOm)
def Abj:YF:=⟨[sJ],[.v (.l (.st 2)),.f sJ.x [(true,(.st 2))]],[0],.ret [.i],[.tmp 4],dY ["jQk3YkUn7tQkIm2N9nlYkpBrYA77T32DupJRybErBJQXIm3ov931DgZLfu5dyHC"] [] [.Dm 16 (.tmp 11) [.v,.p] [.tmp 15]]⟩
def AAY(_:PUnit):AA Int:=some (-1)
def AAZ(e:List AM)(a:AM)(g:Int->AA Int)(c:Int):AA Int:=br (decide (c<e.length)) (bd (at? e c) fun h=>bd (AOm h a) fun j=>br j (some c) (g (w64 (c+1)))) (jn AAY ())
def AIr(c:List AM)(a:AM):AA Int:=A3 (AAZ c a) big 0
def ARh:GF:=Abj.gf rfl rfl (fun a=>AIr a.1 a.2.1.1) (fun a=>by kernel_rfl)
def Abk:YF:=⟨[sJ],[.v (.l (.st 2)),.v (.st 2)],[],.ret [(.l (.st 2))],[.tmp 4],dY ["8kfi3ctsMxGUxn8hzQFXLJjNcLIEJ1tbrChLhTzj5qyrXp9nkJkia7Z2jvi16zKGXs9rL9Sr2cQOahKr","9SaAZj"] [sI,AEa] [.MK 22 0 [.tmp 3],.call 23 ARh [0] rfl [.tmp 21,.tmp 22]]⟩
def gO(a:List AM)(c:AM)(e:Int):AA (List AM):=bd (AXw a e [c]) fun g=>some g
def nw(a:List AM)(c:AM):AA (List AM):=gd (0+a.length<=lim) (bd (nq a c.Id) fun e=>br (decide (e>=0)) (bd (at? a e) fun h=>bd (at? a e) fun j=>some (a.set (o4 e) c)) (bd (AIr a c) fun g=>br (decide (g<0)) (jn (gO a c) (↑a.length:Int)) (jn (gO a c) g)))
def sK:GF:=Abk.EE (Ah nw)
def gQ(c e:List Ad)(a:Bool):AA ((List Ad)×Bool):=br a (some (c,false)) (some (e,true))
def gP(c:List Ad)(q:Ad)(B:List Ad)(y:Int):AA ((List Ad)×Bool):=bd (VR c) fun E=>bd (AOj E y [q]) fun a=>bd (VR c) fun e=>bd (AOj e y [q]) fun g=>eqv a g (bd (mn c) fun h=>br (!h) (jn (gQ B a) true) (bd (mn a) fun j=>jn (gQ B a) (!j)))
def Vj(e:List Ad)(g:Ad)(j:List Ad)(c:Int->AA (List Ad×Bool))(a:Int)(h:Bool):AA ((List Ad)×Bool):=br h (c (w64 (a+1))) (jn (gP e g j) a)
def gR(a:List Ad)(e:Ad)(h:List Ad)(g:Int->AA (List Ad×Bool))(c:Int):AA ((List Ad)×Bool):=br (decide (c<a.length)) (bd (at? a c) fun j=>bd (xT j e) fun q=>jn (Vj a e h g c) q) (jn (Vj a e h g c) false)
def nx(a:List Ad)(c:Ad):AA ((List Ad)×Bool):=bd (VR a) fun e=>A3 (gR a c e) big 0
def AEf:=gZ ASl AE3 AE9 ["QCf3JVNqnLfyIg3zR3msPzxuGwrzixwb1dZIX6TryFkKRsFMgT0MeYDOGDp7sNIEAGfEWnkeLgWzjNYe","SKzg8SZaW4ZdOJrEpL49r6VQbWx5jmC0SIjXbLOYJiJ9eKhOdaNfZYKUnJHyzvZWymNfcMfx8gJwT0"] [rl,ADr,AEb,ADt] (Ah nx)
def AOn(a:BJ)(c:Int):AA BJ:=some (BJ.mk a.Total a.DY a.EZ a.FM (w64 (a.Fa+c)))
def sL:=gZ Xv Xz [] ["16SCZERG94aQo0J8tKqF5y"] [] (Ah AOn)
def Acw:=fun (a:GF)=>(⟨[a],[.v (.st 3),.v .i,.f a.x [(true,.i)]],[0],.ret [(.st 3),.b],[.cell 6 (some 5),.tmp 7],dY ["nDqEgTRQ2DY2uXpwHIDk4BsuBKKWmG24ozA9f8ionmqwPGBoKcKJn9z0kv2xP5LdV6eaaNn4Mf6MFhtH","o"] [RG,Eb] [.Dm 20 (.tmp 19) [.b,.p] [.tmp 8]]⟩:YF)
def Abl:YF:=Acw sL
def gT(c:BJ)(a:Int)(g:Bool):AA (BJ×Bool):=br g (some (c,false)) (bd (AOn c a) fun e=>bd (Lr e) fun h=>br (!h) (some (c,false)) (some (e,true)))
def AOo(c:BJ)(e a:Int):AA (BJ×Bool):=bd (Lr c) fun g=>br (!g) (jn (gT c a) true) (bd (C0 e 0 60) fun h=>jn (gT c a) (!h))
def ARi:GF:=Abl.gf rfl rfl (fun a=>AOo a.1 a.2.1 a.2.2.1.1) (fun a=>by kernel_rfl)
def Abe:YF:=⟨[sL],[.v (.st 3),.v .i],[],.ret [(.st 3),.b],[.cell 4 (some 5),.tmp 5],dY ["19GABa4Jy5OTtG0fVPxwhMZ28yD"] [] [.MK 8 0 [.tmp 3],.call 9 ARi [0] rfl [.tmp 6,.tmp 7,.tmp 8]]⟩
def AIh(e:BJ)(a:Int):AA (BJ×Bool):=bd (AOo e a a) fun c=>some (c.fst,c.snd)
def ARU:GF:=Abe.EE (Ah AIh)
def fz(a:List Int):AA (List Int):=some a
def Vh(e:List Int)(a:Int):AA (List Int):=bd (JX e) fun c=>bd (my e a) fun g=>br (!g) (gd (e9 c+[a].length<=lim) (jn fz (c++[a]))) (jn fz c)
def Tn:=gZ ZR M1 Bw ["RzCHLx6xie8STnEL0DRZqm0l2I5anHi6rY7f"] [Tl,rb] (Ah Vh)
def gA(e:Int)(a:AF):AA (AF×Int):=bd (Vh a.BE e) fun c=>some (AF.mk a.AQ a.Now a.Ay a.AG a.AH c a.BC,0)
def AIi(h:AF)(B c g y E:Int):AA (AF×Int):=bd (Mu h) fun a=>bd (Q3 h (Bo.mk 1 B c g y E)) fun I=>br (I != 0) (some (a,I)) (bd (nw a.AG (AM.mk B c g y E h.Now h.Ay 1 0 0)) fun J=>bd (mq a.AQ (AM.mk B c g y E h.Now h.Ay 1 0 0) a.Now) fun Q=>bd (at? a.AH c) fun X=>bd (at? a.AH c) fun S=>bd (nx S.Row Q.fst) fun j=>bd (at? a.AH c) fun Y=>bd (at? a.AH c) fun e=>br (g != -1) (bd (at? (a.AH.set c.toNat (AX.mk e.AZ j.fst e.Bq)) g) fun L=>bd (at? (a.AH.set c.toNat (AX.mk e.AZ j.fst e.Bq)) g) fun G=>bd (AIh G.AZ y) fun H=>bd (at? (a.AH.set c.toNat (AX.mk e.AZ j.fst e.Bq)) g) fun O=>bd (at? (a.AH.set c.toNat (AX.mk e.AZ j.fst e.Bq)) g) fun q=>jn (gA c) (AF.mk a.AQ a.Now (w64 (a.Ay+1)) J ((a.AH.set c.toNat (AX.mk e.AZ j.fst e.Bq)).set g.toNat (AX.mk H.fst q.Row q.Bq)) a.BE a.BC)) (jn (gA c) (AF.mk a.AQ a.Now (w64 (a.Ay+1)) J (a.AH.set c.toNat (AX.mk e.AZ j.fst e.Bq)) a.BE a.BC)))
def ARV:=gZ ASp Jx ASx ["Jha5CaryZ0rR724aSab1Xcc1Fnic5HH8rQ6B4FC3hvVExNSQziQncHZovADoXsC1HC957hlsk0LAQE3e","i9SJKbELZU7k21HmBmTeFML8pCwxQFUJUOpN6YwvgKmps42AEb5cn7LTBi1zKYwpzDIfUwHkcj6nsNDm","ACyVbDJHKCGrUKInrUaWP0UMPMRHkKj4Ppj9NdNOOxDB37Gu8LKJvpJvETh8QI0pozJxzkQYn53AgWGW","U84h6wzFFLeaVCAi0SU9nEH4WmyWAq4JkRvTOl7JhZsR3DvcBXPxmOLt3Pvps"] [Kf,Pl,sK,rW,AEf,ARU,Tn] (AGd AIi)
def AAQ(c:List Ad)(g:Int):AA ((List Ad)×Bool):=bd (VR c) fun e=>bd (ml c g) fun a=>br (decide (a<0)) (some (e,false)) (bd (AXx e a (w64 (a+1))) fun h=>some (h,true))
def AEY:=gZ ABS AE3 AE9 ["Bgb87KCSNRpVFoOO4zVhr9BNWRM2eKdsWKt7KfYAbOb6WTl1"] [rl,ADs,AEc] (Ah AAQ)
def AAR(_:PUnit):AA Int:=some (-1)
def AAS(c:List A7)(e:A7)(h:Int->AA Int)(a:Int):AA Int:=br (decide (a<c.length)) (bd (at? c a) fun g=>br (e.At==g.At&&(e.Id==g.Id&&true)) (some a) (h (w64 (a+1)))) (jn AAR ())
def AIj(a:List A7)(c:A7):AA Int:=A3 (AAS a c) big 0
def ARW:=gZ ASm CZ Bw ["4XEIE8bBdirvPVyAtCfsGAj4BvwWpgzoRAJebYvz1qEJxbUKNjcQEKMqTGCrSxL"] [] (Ah AIj)
def gB(a:A7)(c:Av)(h:Bool):AA (Av×Bool):=br h (some (c,false)) (bd (at? c.An (a.At.tmod 9)) fun q=>bd (at? c.An (a.At.tmod 9)) fun g=>bd (AIj g a) fun e=>br (decide (e<0)) (some (c,false)) (bd (AXy g e (w64 (e+1))) fun j=>bd (at? c.An (a.At.tmod 9)) fun y=>bd (at? c.An (a.At.tmod 9)) fun B=>gd (Y.Nw (a.At.tmod 9).toNat 0 1 [((a.At.tmod 9).toNat,0)]) (some (Av.mk (c.An.set (a.At.tmod 9).toNat j),true))))
def nk(e:Av)(a:A7):AA (Av×Bool):=bd (eF e) fun g=>bd (Sq e) fun h=>br (!h) (jn (gB a g) true) (bd (mo a) fun c=>jn (gB a g) (!c))
def sC:=gZ sX Xx sb ["36XEKMAv24vUOVljw4BP8N0VwnZ5BaQLrK0BAhMBXZgGvotEfj66CAEJnpYuukM36WWD6YcOpfND7AGy","faEFYuzkAmqeadRkiXrlZqAqvp2m0ohBxoJ66mKo9UMj3yIRYwue8Fc9x3y"] [rm,iw,rV,ARW,AEd] (Ah nk)
def AOg(a:BJ)(c:Int):AA BJ:=some (BJ.mk a.Total (w64 (a.DY+c)) (w64 (a.EZ-c)) a.FM a.Fa)
def sD:=gZ Xv Xz [] ["1om3jbDdGvNBUzDnLame5FvIU1de1caSr5nYeEaY5R"] [] (Ah AOg)
def Abf:YF:=Acw sD
def gC(c:BJ)(a:Int)(g:Bool):AA (BJ×Bool):=br g (some (c,false)) (bd (AOg c a) fun e=>bd (Lr e) fun h=>br (!h) (some (c,false)) (some (e,true)))
def AOh(c:BJ)(e a:Int):AA (BJ×Bool):=bd (Lr c) fun g=>br (!g) (jn (gC c a) true) (bd (C0 e 0 60) fun h=>jn (gC c a) (!h))
def ARX:GF:=Abf.gf rfl rfl (fun a=>AOh a.1 a.2.1 a.2.2.1.1) (fun a=>by kernel_rfl)
def Abg:YF:=⟨[sD],[.v (.st 3),.v .i],[],.ret [(.st 3),.b],[.cell 4 (some 5),.tmp 5],dY ["19GABa4Jy5OTtG0fVPxwhMZ28yD"] [] [.MK 8 0 [.tmp 3],.call 9 ARX [0] rfl [.tmp 6,.tmp 7,.tmp 8]]⟩
def AAT(e:BJ)(a:Int):AA (BJ×Bool):=bd (AOh e a a) fun c=>some (c.fst,c.snd)
def AEZ:GF:=Abg.EE (Ah AAT)
def AOi(a:BJ)(c:Int):AA BJ:=some (BJ.mk a.Total a.DY a.EZ a.FM (w64 (a.Fa-c)))
def sE:=gZ Xv Xz [] ["3PqgoIa4IaEun5gYYsbBkj"] [] (Ah AOi)
def Abo:YF:=Acw sE
def gX(c:BJ)(a:Int)(g:Bool):AA (BJ×Bool):=br g (some (c,false)) (bd (AOi c a) fun e=>bd (Lr e) fun h=>br (!h) (some (c,false)) (some (e,true)))
def AOq(c:BJ)(e a:Int):AA (BJ×Bool):=bd (Lr c) fun g=>br (!g) (jn (gX c a) true) (bd (C0 e 0 60) fun h=>jn (gX c a) (!h))
def ARs:GF:=Abo.gf rfl rfl (fun a=>AOq a.1 a.2.1 a.2.2.1.1) (fun a=>by kernel_rfl)
def Abp:YF:=⟨[sE],[.v (.st 3),.v .i],[],.ret [(.st 3),.b],[.cell 4 (some 5),.tmp 5],dY ["19GABa4Jy5OTtG0fVPxwhMZ28yD"] [] [.MK 8 0 [.tmp 3],.call 9 ARs [0] rfl [.tmp 6,.tmp 7,.tmp 8]]⟩
def ny(e:BJ)(a:Int):AA (BJ×Bool):=bd (AOq e a a) fun c=>some (c.fst,c.snd)
def sO:GF:=Abp.EE (Ah ny)
def gY(a:List AM):AA (List AM):=some a
def Vm(a:List AM)(e:Int):AA (List AM):=gd (0+a.length<=lim) (bd (nq a e) fun c=>br (decide (c>=0)) (bd (AXz a c (w64 (c+1))) fun g=>jn gY g) (jn gY a))
def sP:=gZ QO AEy Bw ["ep0OFdlRWexcnDfbdBf5U8ZWJ4sbXpHqVZ04rQk00fQ53VO"] [sI,AEe] (Ah Vm)
def ga(e:Int)(a:AF):AA (AF×Int):=bd (Vm a.AG e) fun c=>some (AF.mk a.AQ a.Now a.Ay c a.AH a.BE a.BC,0)
def Vn(j:Int)(c:AM)(a:AF):AA (AF×Int):=br (c.Bk != -1) (bd (at? a.AH c.Bk) fun q=>bd (at? a.AH c.Bk) fun g=>bd (ny g.AZ c.BB) fun h=>bd (at? a.AH c.Bk) fun y=>bd (at? a.AH c.Bk) fun e=>jn (ga j) (AF.mk a.AQ a.Now a.Ay a.AG (a.AH.set c.Bk.toNat (AX.mk h.fst e.Row e.Bq)) a.BE a.BC)) (jn (ga j) a)
def AI0(j:AF)(g:Int):AA (AF×Int):=bd (Mu j) fun a=>bd (Q3 j (Bo.mk 2 g 0 0 0 0)) fun I=>br (I != 0) (some (a,I)) (bd (Lt j g) fun J=>bd (at? j.AG J) fun c=>bd (Lt j g) fun L=>bd (at? j.AG L) fun O=>KB c O (bd (at? a.AH c.AY) fun X=>br (c.State==1) (bd (at? a.AH c.AY) fun Q=>bd (AAQ Q.Row g) fun S=>bd (at? a.AH c.AY) fun q=>jn (Vn g c) (AF.mk a.AQ a.Now a.Ay a.AG (a.AH.set c.AY.toNat (AX.mk q.AZ S.fst q.Bq)) a.BE a.BC)) (bd (at? a.AH c.AY) fun B=>bd (nk B.Bq (A7.mk c.Cq g)) fun h=>bd (at? a.AH c.AY) fun e=>bd (at? (a.AH.set c.AY.toNat (AX.mk e.AZ e.Row h.fst)) c.AY) fun E=>bd (AAT E.AZ c.BB) fun G=>bd (at? (a.AH.set c.AY.toNat (AX.mk e.AZ e.Row h.fst)) c.AY) fun y=>bd (Vh a.BE c.AY) fun H=>jn (Vn g c) (AF.mk a.AQ a.Now a.Ay a.AG ((a.AH.set c.AY.toNat (AX.mk e.AZ e.Row h.fst)).set c.AY.toNat (AX.mk G.fst y.Row y.Bq)) H a.BC))))
def ARt:=gZ HH Jx LY ["vq6HVKWDG8BdAG7soQMbqIjqFQVcd1k1qM2l3bi0heheiJZ6ciHrTYuH2uEthZGWIK5UJHXZLOm8RzQj","dHgwUZPdzqEwOWRJmFQUAKcsvuSHALFv7T4qwmJluplJJgodgfz1SiJ6aeNylNuBznYT43EJbX2ElXwy","V78S2gctB5DXmzgxNPoCWkeLfk3BUKiH3dUXeSSa9jFOLu9rvHwptbcsXhGDXdTzAYJwMJMYqySo6OxL","qPYsRBabnc4bwf9gzn6IK1himpiduhelipcK2rpIg21EoS4TI1H8JuWyoA6tLitTDHXrPemsxucmHygm","Z5qgVKpcH44vys98y"] [Kf,Pl,To,AEY,sC,AEZ,Tn,sO,sP] (Ah AI0)
def AOr(a:BJ)(c:Int):AA BJ:=some (BJ.mk a.Total (w64 (a.DY+c)) a.EZ (w64 (a.FM-c)) a.Fa)
def sQ:=gZ Xv Xz [] ["3oXrlMGD4l3siLxWxIXusE5K7ORmxViUv18zbdWuGz"] [] (Ah AOr)
def Abq:YF:=Acw sQ
def gb(c:BJ)(a:Int)(g:Bool):AA (BJ×Bool):=br g (some (c,false)) (bd (AOr c a) fun e=>bd (Lr e) fun h=>br (!h) (some (c,false)) (some (e,true)))
def AOs(c:BJ)(e a:Int):AA (BJ×Bool):=bd (Lr c) fun g=>br (!g) (jn (gb c a) true) (bd (C0 e 0 60) fun h=>jn (gb c a) (!h))
def ARu:GF:=Abq.gf rfl rfl (fun a=>AOs a.1 a.2.1 a.2.2.1.1) (fun a=>by kernel_rfl)
def Abr:YF:=⟨[sQ],[.v (.st 3),.v .i],[],.ret [(.st 3),.b],[.cell 4 (some 5),.tmp 5],dY ["19GABa4Jy5OTtG0fVPxwhMZ28yD"] [] [.MK 8 0 [.tmp 3],.call 9 ARu [0] rfl [.tmp 6,.tmp 7,.tmp 8]]⟩
def AAc(e:BJ)(a:Int):AA (BJ×Bool):=bd (AOs e a a) fun c=>some (c.fst,c.snd)
def AEg:GF:=Abr.EE (Ah AAc)
def AI1(e:AF)(c g:Int):AA (AF×Int):=bd (Mu e) fun a=>bd (Q3 e (Bo.mk 3 0 c 0 g 0)) fun h=>br (h != 0) (some (a,h)) (bd (at? a.AH c) fun E=>bd (at? a.AH c) fun q=>bd (AAc q.AZ g) fun y=>bd (at? a.AH c) fun G=>bd (at? a.AH c) fun j=>bd (Vh a.BE c) fun B=>some (AF.mk a.AQ a.Now a.Ay a.AG (a.AH.set c.toNat (AX.mk y.fst j.Row j.Bq)) B a.BC,0))
def ARv:=gZ [.v (.st 8),.v .i,.v .i] Jx ASy ["2mJZnTdITtFGRBxW8yGVZdxKdtplHPYNKflrm5695Vohda4gLqKmRASYd7FE8AwIbhEkkK0xKL1AkLhh","VfSwX9dT2wA7qG6am6DxY27wAdOqYQPMsFkXOssdLp"] [Kf,Pl,AEg,Tn] (GA AI1)
def AOt(a:BJ)(c:Int):AA BJ:=some (BJ.mk a.Total a.DY (w64 (a.EZ-c)) (w64 (a.FM+c)) a.Fa)
def sR:=gZ Xv Xz [] ["82yKeff62agT4BGLdfHCTScUfbqYGhpVMQT0dtpkqz"] [] (Ah AOt)
def Abs:YF:=Acw sR
def gh(c:BJ)(a:Int)(g:Bool):AA (BJ×Bool):=br g (some (c,false)) (bd (AOt c a) fun e=>bd (Lr e) fun h=>br (!h) (some (c,false)) (some (e,true)))
def AOu(c:BJ)(e a:Int):AA (BJ×Bool):=bd (Lr c) fun g=>br (!g) (jn (gh c a) true) (bd (C0 e 0 60) fun h=>jn (gh c a) (!h))
def ARw:GF:=Abs.gf rfl rfl (fun a=>AOu a.1 a.2.1 a.2.2.1.1) (fun a=>by kernel_rfl)
def Abt:YF:=⟨[sR],[.v (.st 3),.v .i],[],.ret [(.st 3),.b],[.cell 4 (some 5),.tmp 5],dY ["19GABa4Jy5OTtG0fVPxwhMZ28yD"] [] [.MK 8 0 [.tmp 3],.call 9 ARw [0] rfl [.tmp 6,.tmp 7,.tmp 8]]⟩
def AI2(e:BJ)(a:Int):AA (BJ×Bool):=bd (AOu e a a) fun c=>some (c.fst,c.snd)
def ARx:GF:=Abt.EE (Ah AI2)
def gi(a:AF):AA (AF×Int):=some (a,0)
def AI3(B:AF)(E:Int):AA (AF×Int):=bd (Mu B) fun g=>bd (Q3 B (Bo.mk 4 E 0 0 0 0)) fun S=>br (S != 0) (some (g,S)) (bd (Lt B E) fun Y=>bd (at? B.AG Y) fun c=>bd (Lt B E) fun Z=>bd (at? B.AG Z) fun x6=>KB c x6 (bd (at? g.AH c.AY) fun x7=>bd (at? g.AH c.AY) fun x8=>bd (AI2 x8.AZ c.BB) fun q=>bd (at? g.AH c.AY) fun a=>bd (at? (g.AH.set c.AY.toNat (AX.mk q.fst a.Row a.Bq)) c.AY) fun I=>bd (nk I.Bq (A7.mk c.Cq E)) fun h=>bd (at? (g.AH.set c.AY.toNat (AX.mk q.fst a.Row a.Bq)) c.AY) fun e=>bd (Vm g.AG E) fun G=>br (c.Bk != -1) (bd (at? ((g.AH.set c.AY.toNat (AX.mk q.fst a.Row a.Bq)).set c.AY.toNat (AX.mk e.AZ e.Row h.fst)) c.Bk) fun X=>bd (at? ((g.AH.set c.AY.toNat (AX.mk q.fst a.Row a.Bq)).set c.AY.toNat (AX.mk e.AZ e.Row h.fst)) c.Bk) fun J=>bd (ny J.AZ c.BB) fun y=>bd (at? ((g.AH.set c.AY.toNat (AX.mk q.fst a.Row a.Bq)).set c.AY.toNat (AX.mk e.AZ e.Row h.fst)) c.Bk) fun j=>bd (at? (((g.AH.set c.AY.toNat (AX.mk q.fst a.Row a.Bq)).set c.AY.toNat (AX.mk e.AZ e.Row h.fst)).set c.Bk.toNat (AX.mk y.fst j.Row j.Bq)) c.Bk) fun L=>bd (AAc L.AZ c.BB) fun O=>bd (at? (((g.AH.set c.AY.toNat (AX.mk q.fst a.Row a.Bq)).set c.AY.toNat (AX.mk e.AZ e.Row h.fst)).set c.Bk.toNat (AX.mk y.fst j.Row j.Bq)) c.Bk) fun H=>bd (Vh g.BE c.Bk) fun Q=>jn gi (AF.mk g.AQ g.Now g.Ay G ((((g.AH.set c.AY.toNat (AX.mk q.fst a.Row a.Bq)).set c.AY.toNat (AX.mk e.AZ e.Row h.fst)).set c.Bk.toNat (AX.mk y.fst j.Row j.Bq)).set c.Bk.toNat (AX.mk O.fst H.Row H.Bq)) Q g.BC)) (jn gi (AF.mk g.AQ g.Now g.Ay G ((g.AH.set c.AY.toNat (AX.mk q.fst a.Row a.Bq)).set c.AY.toNat (AX.mk e.AZ e.Row h.fst)) g.BE g.BC))))
def ARy:=gZ HH Jx LY ["25xBKFT9wYvZXTLd5qdIFRXdgJCR1xqWo8O9UjHFPRXHHpIguDcrBUt8UhUPMC1pBTonUI73x80OFq84","06Li3b2ELHMlluGZSsrXQwNOYSksD0jccpmB76XaBWHGl95iuoJBMXdbZxFuFWghTPmur0Iv1CuguQO9","8kKq2y12GNntHPMpGW29Y6wAdKkVmtOimQ2avIrQyYsSYVQeEvLoIikHXC1n6qbcBrr8VmyO7OUPRkgw","38pavGYxYB50P38L0EFIe0tbIg4bgXMtkVXJf3jdmuwJe2I8TGairUxrCbLBiYgnNyTPXBdVZhiAuXDo","07Mx7po"] [Kf,Pl,To,ARx,sC,sP,sO,AEg,Tn] (Ah AI3)
def Vo(c:Ae)(a:AM)(e:Int)(g:Bool):AA (AM×Bool):=br g (some (AM.mk 0 0 0 0 0 0 0 0 0 0,false)) (some (AM.mk a.Id a.AY a.Bk a.BB a.Cv a.Since a.Ay 1 (w64 (e+c.Rest)) (w64 (a.DB+1)),true))
def AI4(c:Ae)(a:AM)(e:Int):AA (AM×Bool):=bd (cD c a e) fun g=>br (!g) (jn (Vo c a e) true) (br (a.State != 2) (jn (Vo c a e) true) (jn (Vo c a e) (w64 (a.DB+1)==c.Cd)))
def ARz:=gZ RJ (.ret [(.st 2),.b]) ASz ["3Ns3Rk94n6AY9fVHyBgEotfmjaRydLJCySUQaiE7zkINLbgmLe6Z8CqZEUjukhHeh4an7LBIJC34tH2L","IwoMuRD0Dn7veC51BGS2Ca1WQ3"] [iv] (GA AI4)
def gj(a:AF):AA AF:=some a
def AAd(c:AF)(G:Int):AA AF:=bd (Lt c G) fun X=>bd (at? c.AG X) fun x2=>bd (at? c.AG X) fun e=>bd (Lt c G) fun Y=>bd (at? c.AG Y) fun x5=>bd (at? c.AG Y) fun x6=>KB e x6 (bd (at? c.AH e.AY) fun x7=>bd (at? c.AH e.AY) fun x8=>bd (AAT x8.AZ e.BB) fun j=>bd (at? c.AH e.AY) fun a=>bd (at? (c.AH.set e.AY.toNat (AX.mk j.fst a.Row a.Bq)) e.AY) fun H=>bd (nk H.Bq (A7.mk e.Cq G)) fun h=>bd (at? (c.AH.set e.AY.toNat (AX.mk j.fst a.Row a.Bq)) e.AY) fun g=>bd (AI4 c.AQ e c.Now) fun q=>br q.snd (bd (nw c.AG q.fst) fun I=>bd (mq c.AQ q.fst c.Now) fun J=>bd (at? ((c.AH.set e.AY.toNat (AX.mk j.fst a.Row a.Bq)).set e.AY.toNat (AX.mk g.AZ g.Row h.fst)) e.AY) fun L=>bd (nx L.Row J.fst) fun O=>bd (at? ((c.AH.set e.AY.toNat (AX.mk j.fst a.Row a.Bq)).set e.AY.toNat (AX.mk g.AZ g.Row h.fst)) e.AY) fun y=>some (AF.mk c.AQ c.Now c.Ay I (((c.AH.set e.AY.toNat (AX.mk j.fst a.Row a.Bq)).set e.AY.toNat (AX.mk g.AZ g.Row h.fst)).set e.AY.toNat (AX.mk y.AZ O.fst y.Bq)) c.BE c.BC)) (bd (Vm c.AG G) fun B=>br (e.Bk != -1) (bd (at? ((c.AH.set e.AY.toNat (AX.mk j.fst a.Row a.Bq)).set e.AY.toNat (AX.mk g.AZ g.Row h.fst)) e.Bk) fun Z=>bd (at? ((c.AH.set e.AY.toNat (AX.mk j.fst a.Row a.Bq)).set e.AY.toNat (AX.mk g.AZ g.Row h.fst)) e.Bk) fun Q=>bd (ny Q.AZ e.BB) fun S=>bd (at? ((c.AH.set e.AY.toNat (AX.mk j.fst a.Row a.Bq)).set e.AY.toNat (AX.mk g.AZ g.Row h.fst)) e.Bk) fun x24=>bd (at? ((c.AH.set e.AY.toNat (AX.mk j.fst a.Row a.Bq)).set e.AY.toNat (AX.mk g.AZ g.Row h.fst)) e.Bk) fun E=>jn gj (AF.mk c.AQ c.Now c.Ay B (((c.AH.set e.AY.toNat (AX.mk j.fst a.Row a.Bq)).set e.AY.toNat (AX.mk g.AZ g.Row h.fst)).set e.Bk.toNat (AX.mk S.fst E.Row E.Bq)) c.BE c.BC)) (jn gj (AF.mk c.AQ c.Now c.Ay B ((c.AH.set e.AY.toNat (AX.mk j.fst a.Row a.Bq)).set e.AY.toNat (AX.mk g.AZ g.Row h.fst)) c.BE c.BC))))
def AEh:=gZ AEw Nt Ty ["1c2OjwLA2NmBfKcgXgIQrJYOTGBumvXNeDRoyPFcYdRGml7oGdVBXMvDRISRHVUbA3daEWdXoFBLgMUM","j2bgWgWgBHHEBfF8CsXCDpb5on0X64cqRqQDgKgKdWVrDOy6ku7JJEssYCqVNurP3FE089ZUK5qt08q7","ryrpMLHH5Or0Ww3xh8VDhXVFNCqPh5DGuqG7CPTulRlOOpVkGuay9UwDszSatIhPAQvLX8FhUSkVqHvJ","iZhxUjkaqer4d6QwCduUlwKk7v0iDJxSpzfNAaD0R4FTzUsiNwHoEZemn4vxmAMWb5gmSxrAqCCHPiLQ","6bOuuactzfOlVllADmjI5cDgFPdZcPFQax2k8JcLqvkr"] [To,AEZ,sC,ARz,sK,rW,AEf,sP,sO] (Ah AAd)
def AI5(c:AF)(e:Int):AA (AF×Int):=bd (Mu c) fun g=>bd (Q3 c (Bo.mk 5 e 0 0 0 0)) fun h=>br (h != 0) (some (g,h)) (bd (Lt c e) fun j=>bd (at? c.AG j) fun q=>bd (AAd g e) fun a=>bd (Vh a.BE q.AY) fun y=>some (AF.mk a.AQ a.Now a.Ay a.AG a.AH y a.BC,0))
def AR0:=gZ HH Jx LY ["22TRm3gIaeCiuAPqeTBYKMNKOG5Imi5ep8NeKkOCmCs0DvYjMhjhYBKu4N6jjdUeSX2s2dG11aUBVrV9","TZn6KiFKm6INGdMpv0orXlcG7"] [Kf,Pl,To,AEh,Tn] (Ah AI5)
def gk(c:Int×AF->AA (AF×Int))(e:Int)(a:AF):AA (AF×Int):=c (w64 (e+1),a)
def AOv(a:AF):AA (AF×Int):=some (a,0)
def Vp(q:AF)(h:Int×AF->AA (AF×Int))(B:Int×AF):AA (AF×Int):=let (c,a):=B;br (decide (c<q.AH.length)) (bd (Y8 a.AQ a.AG c a.Now) fun j=>bd (at? a.AH c) fun E=>bd (at? a.AH c) fun e=>bd (mj a.AG c) fun y=>br (decide (y>0)) (bd (Vh a.BE c) fun g=>jn (gk h c) (AF.mk a.AQ a.Now a.Ay a.AG (a.AH.set (o4 c) (AX.mk e.AZ j e.Bq)) g a.BC)) (jn (gk h c) (AF.mk a.AQ a.Now a.Ay a.AG (a.AH.set (o4 c) (AX.mk e.AZ j e.Bq)) a.BE a.BC))) (jn AOv a)
def AI6(c:AF):AA (AF×Int):=bd (Mu c) fun a=>bd (Q3 c (Bo.mk 6 0 0 0 0 0)) fun e=>br (e != 0) (some (a,e)) (A3 (Vp a) big (0,AF.mk a.AQ (w64 (a.Now+1)) a.Ay a.AG a.AH a.BE a.BC))
def AR1:=gZ Ns Jx AE8 ["Xivb5LZO2uInmOvE83GUxPJONrJrvLlznzsFNx2bmR0PVyIFH3CubnuQ5BkvbdxzfCK4buGb7tD4HQIr","VH5xJ2l65RLQ1Ekf5SxbMpdUUah4j9YcBoEoe2Av1pDQ4QOHsy5i0JXtM6yyZ3AdOD5FDPHlPKpNftjc","Kfe2Xlqwy6"] [Kf,Pl,ra,rT,Tn] (Be AI6)
def gl(a:Bool):AA Bool:=some a
def AAe(a:AF)(c:Int):AA Bool:=bd (Sr a) fun e=>br e (bd (Lq c (↑a.AH.length:Int)) fun g=>jn gl g) (jn gl false)
def AEi:=gZ HH CI Bw ["1Po2T0IZQGmj53WSfamRodHJGuPNGv"] [Tj,Pj] (Ah AAe)
def gm(a:List A7×Int->AA (List A7))(c:Int)(e:List A7):AA (List A7):=a (e,w64 (c+1))
def AAf(a:List A7):AA (List A7):=some a
def gn(j:Int)(e:List A7)(h:List A7×Int->AA (List A7))(q:List A7×Int):AA (List A7):=let (c,a):=q;br (decide (a<(e9 e))) (bd (at? e a) fun y=>bd (at? e a) fun g=>br (decide (g.At<=j)) (gd (e9 c+[g].length<=lim) (jn (gm h a) (c++[g]))) (jn (gm h a) c)) (jn AAf c)
def AI7(a:Av)(c:Int):AA (List A7):=bd (xP a) fun e=>A3 (gn c e) big ([],0)
def AR2:=gZ ASo Tv Bw ["7xdtw4SHg3e3T6CvwZe0pO8Wklds6mMzoS54EatqtruQE1idvQtSUh8QYdrPfQcDKCBoZRVM5E5oUtO3","aKPJYM8J"] [ADp] (Ah AI7)
def AAg(a:List Int):AA (List Int):=some a
def gp(e:List A7)(h:List Int×Int->AA (List Int))(j:List Int×Int):AA (List Int):=let (c,a):=j;br (decide (a<(e9 e))) (bd (at? e a) fun q=>bd (at? e a) fun g=>gd (e9 c+[g.Id].length<=lim) (h (c++[g.Id],w64 (a+1)))) (jn AAg c)
def AI8(a:AF)(c:Int):AA (List Int):=bd (AAe a c) fun e=>br (!e) (some []) (bd (at? a.AH c) fun g=>bd (AI7 g.Bq a.Now) fun h=>A3 (gp h) big ([],0))
def AR3:=gZ HH M1 Bw ["8HyL7Rqh6eXb4NN192iGuCaoHN5qA8N6zphbSKyITyODZpqi8KJ3RgpAXgOXiHAJJYqP9Du8hjH3lpKh","b8loIyydcp9WKCnlZOij87hkff"] [AEi,AR2] (Ah AI8)
def AAh(a:AF):AA AF:=some a
def gq(c:List Int)(g:Int×AF->AA AF)(q:Int×AF):AA AF:=let (a,e):=q;br (decide (a<(e9 c))) (bd (at? c a) fun y=>bd (at? c a) fun h=>bd (AAd e h) fun j=>g (w64 (a+1),j)) (jn AAh e)
def AI9(a:AF)(c:Int):AA AF:=bd (Mu a) fun e=>bd (AI8 a c) fun g=>A3 (gq g) big (0,e)
def AR4:=gZ HH Nt Ty ["8Y0VxFYPC0xpee7SD99hZxgo73DoZSanYT6oth4qaf2S9mfgSqhJq1WrPYvSIxN2XL6HONXEERzaUmcD"] [Kf,AR3,AEh] (Ah AI9)
def gv(a:Bool):AA Bool:=some a
def AJA(a:AM)(c:Int):AA Bool:=br (a.State==1) (jn gv (decide (a.Cq>c))) (jn gv false)
def AR5:=gZ sY CI Bw ["KkDASEwnTqmXEP8p35frKkIAwpj"] [] (Ah AJA)
def gw(a:Bool):AA Bool:=some a
def AOw(a:Ad)(c:Int)(e:List Int):AA Bool:=br (decide (a.BB<=c)) (bd (my e a.Id) fun g=>jn gw (!g)) (jn gw false)
def sS:=gZ [.v (.st 4),.p .i,.p (.l .i)] CI Bw ["cmfKaE20a9825Xe5rgsOH2IrJYPx2ehOB"] [rb] (GA AOw)
def Abu:YF:=⟨[sS],[.v (.l (.st 4)),.f sS.x [(true,.i),(true,(.l .i))]],[0],.ret [.i],[.tmp 4],dY ["2Kb7FzvzL1n5nN5Yt2X42cMvl6jWf6S9GHqFAEiIgb19BXP4kfY3pTDwHlESX2t4"] [] [.Dm 16 (.tmp 11) [.v,.p,.p] [.tmp 15]]⟩
def AAi(_:PUnit):AA Int:=some (-1)
def gx(g:List Ad)(a:Int)(c:List Int)(h:Int->AA Int)(e:Int):AA Int:=br (decide (e<g.length)) (bd (at? g e) fun j=>bd (AOw j a c) fun q=>br q (some e) (h (w64 (e+1)))) (jn AAi ())
def AOx(e:List Ad)(a:Int)(c:List Int):AA Int:=A3 (gx e a c) big 0
def AR6:GF:=Abu.gf rfl rfl (fun a=>AOx a.1 a.2.1.1 a.2.1.2.1) (fun a=>by kernel_rfl)
def Abv:YF:=⟨[sS],[.v (.l (.st 4)),.v .i,.v (.l .i)],[],.ret [.i],[.tmp 6],dY ["6xqqcBHQgOjq37QWt"] [] [.MK 8 0 [.tmp 4,.tmp 5],.call 9 AR6 [0] rfl [.tmp 7,.tmp 8]]⟩
def AJB(a:List Ad)(c:Int)(e:List Int):AA Int:=bd (AOx a c e) fun g=>some g
def AR7:GF:=Abv.EE (GA AJB)
def gy(a:List Int×Int->AA Int)(c:Int)(e:List Int):AA Int:=a (e,w64 (c+1))
def gz(g:AF)(h:Int)(j:List Int):AA Int:=bd (at? g.AH h) fun e=>bd (AJB e.Row e.AZ.DY j) fun a=>br (decide (a<0)) (some 0) (bd (at? e.Row a) fun c=>some c.Id)
def g9(a:AF)(j:Int)(h:List Int×Int->AA Int)(y:List Int×Int):AA Int:=let (c,e):=y;br (decide (e<a.AG.length)) (bd (at? a.AG e) fun g=>bd (AJA g a.Now) fun q=>br q (gd (e9 c+[g.Id].length<=lim) (jn (gy h e) (c++[g.Id]))) (jn (gy h e) c)) (jn (gz a j) c)
def AJC(a:AF)(c:Int):AA Int:=bd (AAe a c) fun e=>br (!e) (some 0) (A3 (g9 a c) big ([],0))
def AR8:=gZ HH CZ Bw ["6w2nVSa61d0JgUG3yVIfmHN93mowOcZZK1m9DsQlbyce1B8bwt24KAq6dItWFJKn6CgfVS16HNzOCkyo","RvAaUW12a2aXouAfJs185h5eq9LOou8XflrIpm45emW6R6eQUlZoMEaJ6uomCXK7vb3A8krTS"] [AEi,AR5,AR7] (Ah AJC)
def AOy(a:BJ)(c:Int):AA BJ:=some (BJ.mk a.Total (w64 (a.DY-c)) (w64 (a.EZ+c)) a.FM a.Fa)
def sT:=gZ Xv Xz [] ["1om3jbECMs5Osonn0jGfuhD3lQY3DsYxeiJIgFaniG"] [] (Ah AOy)
def Abm:YF:=Acw sT
def gU(c:BJ)(a:Int)(g:Bool):AA (BJ×Bool):=br g (some (c,false)) (bd (AOy c a) fun e=>bd (Lr e) fun h=>br (!h) (some (c,false)) (some (e,true)))
def AOp(c:BJ)(e a:Int):AA (BJ×Bool):=bd (Lr c) fun g=>br (!g) (jn (gU c a) true) (bd (C0 e 0 60) fun h=>jn (gU c a) (!h))
def ARj:GF:=Abm.gf rfl rfl (fun a=>AOp a.1 a.2.1 a.2.2.1.1) (fun a=>by kernel_rfl)
def Abn:YF:=⟨[sT],[.v (.st 3),.v .i],[],.ret [(.st 3),.b],[.cell 4 (some 5),.tmp 5],dY ["19GABa4Jy5OTtG0fVPxwhMZ28yD"] [] [.MK 8 0 [.tmp 3],.call 9 ARj [0] rfl [.tmp 6,.tmp 7,.tmp 8]]⟩
def AIs(e:BJ)(a:Int):AA (BJ×Bool):=bd (AOp e a a) fun c=>some (c.fst,c.snd)
def ARk:GF:=Abn.EE (Ah AIs)
def AIt(h:AF)(c:Int):AA (AF×Int):=bd (Mu h) fun e=>bd (AJC h c) fun y=>br (y==0) (some (e,0)) (bd (Lt h y) fun L=>bd (at? h.AG L) fun j=>bd (Lt h y) fun O=>bd (at? h.AG O) fun Q=>KB j Q (bd (at? e.AH c) fun X=>bd (at? e.AH c) fun S=>bd (AIs S.AZ j.BB) fun E=>bd (at? e.AH c) fun a=>bd (at? (e.AH.set c.toNat (AX.mk E.fst a.Row a.Bq)) c) fun G=>bd (AAQ G.Row y) fun q=>bd (at? (e.AH.set c.toNat (AX.mk E.fst a.Row a.Bq)) c) fun g=>bd (nw e.AG (AM.mk j.Id j.AY j.Bk j.BB j.Cv j.Since j.Ay 2 (w64 (h.Now+h.AQ.B0)) j.DB)) fun H=>bd (at? ((e.AH.set c.toNat (AX.mk E.fst a.Row a.Bq)).set c.toNat (AX.mk g.AZ q.fst g.Bq)) c) fun I=>bd (z7 I.Bq (A7.mk (w64 (h.Now+h.AQ.B0)) y)) fun J=>bd (at? ((e.AH.set c.toNat (AX.mk E.fst a.Row a.Bq)).set c.toNat (AX.mk g.AZ q.fst g.Bq)) c) fun B=>some (AF.mk e.AQ e.Now e.Ay H (((e.AH.set c.toNat (AX.mk E.fst a.Row a.Bq)).set c.toNat (AX.mk g.AZ q.fst g.Bq)).set c.toNat (AX.mk B.AZ B.Row J.fst)) e.BE e.BC,y)))
def ARl:=gZ HH Jx LY ["4Sta0Tfvw0SMlKnRfwYJ9trRgbJXs6vqI1keM5oMVSV9h9d71NQViJI1BB9K8FcD7V6N6nappZ4Ps6UL","g0kdhuCAzboWbcM8AhqdJb1vunvuw8V1WaaorDVkKw3p6Oodg0O9UgWsBcwb8DohtUJDbMLydJy4hco9","V7C6j7ZTGMsoitbqxXGTFACEHileiKARoVigRv1YPJUsjQII6HEOIHSopdud0WLIv4Ghw08FpqG5dT5E","J7tQnPuzqleOIycdVSLoSu6dPqf1"] [Kf,AR8,To,ARk,AEY,sK,AEO] (Ah AIt)
def Vk(h:Int)(g:List Int×AF->AA (AF×List Int))(j:List Int×AF):AA (AF×(List Int)):=let (c,e):=j;bd (AIt e h) fun a=>br (a.snd==0) (some (e,c)) (gd (e9 c+[a.snd].length<=lim) (g (c++[a.snd],a.fst)))
def AIu(c:AF)(a:Int):AA (AF×(List Int)):=bd (AI9 c a) fun e=>A3 (Vk a) big ([],e)
def ARm:=gZ HH ASs LY ["84G4TnMszKYAk0X4Cj5ehX0slXGxOZxD5C9525oLKyWDgdadtHbrEiQY4yDIjuOU3Ybe2jRD4So8UBTA","Xz4m23SZWFbA"] [AR4,ARl] (Ah AIu)
def AIv(h:AF)(e:Int):AA (AF×Int×(List Int)):=bd (Mu h) fun c=>bd (Q3 h (Bo.mk 7 e 0 0 0 0)) fun j=>br (j != 0) (some (c,j,[])) (bd (at? c.BC e) fun G=>bd (at? c.BC e) fun B=>br (B == -1) (bd (at? c.BE 0) fun H=>bd (at? c.BE 0) fun E=>bd (at? c.BC e) fun I=>bd (at? c.BC e) fun J=>gd ((0:Int)<=1/\1<=(↑c.BE.length:Int)) (some (AF.mk c.AQ c.Now c.Ay c.AG c.AH (e8 (c.BE.length-o4 1) (g0 (o4 1) c.BE)) (c.BC.set e.toNat E),0,[]))) (bd (at? c.BC e) fun L=>bd (at? c.BC e) fun g=>bd (AIu c g) fun a=>bd (at? a.fst.BC e) fun q=>bd (at? a.fst.BC e) fun y=>some (AF.mk a.fst.AQ a.fst.Now a.fst.Ay a.fst.AG a.fst.AH a.fst.BE (a.fst.BC.set e.toNat (-1)),0,a.snd)))
def ARn:=gZ HH ASt sg ["9m9NmQwfkoSZtFWxZxPnf51eT7bwqXl9f5Gjq1WiqpeBuTcvwZDkDKmuhhGvT0t9ysj1NPLbrtMiwmvl","sNXcaVqNdeZG5oLjBlFN38guzoNBVWEdJgbD59KlImLo00gCtSN0AI6JPnQQ2XdtLFscnIPjK7ASrneZ","z2IVZxsN8udcxCiE5OPL5"] [Kf,Pl,ARm] (Ah AIv)
def LI(e:AF×Bf):AA (AF×Bf):=let (a,c):=e;some (a,c)
def AIw(c:AF)(a:Bo):AA (AF×Bf):=bd (Q3 c a) fun h=>br (h != 0) (bd (Mu c) fun G=>some (G,Bf.mk h [])) (br (a.Kind==1) (bd (AIi c a.Id a.AY a.Bk a.BB a.Cv) fun j=>jn LI (j.fst,Bf.mk j.snd [])) (br (a.Kind==2) (bd (AI0 c a.Id) fun q=>jn LI (q.fst,Bf.mk q.snd [])) (br (a.Kind==3) (bd (AI1 c a.AY a.BB) fun y=>jn LI (y.fst,Bf.mk y.snd [])) (br (a.Kind==4) (bd (AI3 c a.Id) fun B=>jn LI (B.fst,Bf.mk B.snd [])) (br (a.Kind==5) (bd (AI5 c a.Id) fun E=>jn LI (E.fst,Bf.mk E.snd [])) (br (a.Kind==6) (bd (AI6 c) fun g=>jn LI (g.fst,Bf.mk g.snd [])) (bd (AIv c a.Id) fun e=>jn LI (e.fst,Bf.mk e.snd.fst e.snd.snd))))))))
def ARo:=gZ jE ASu AS0 ["E6eQH0MBkWpiUI68v4oX7KTpjw7zKqodJPsyHVcVegv0EnVHLzr8IueKfL5KLbFav6xJl9JkseJOHkv1","Ov1Bx8kPhoghxLk5bOSmScGTM59OiZ7ZEvYBNVLNCzw2EgSkKN9w5wx4mOyj39kt3EYRgFeW8g8LZLdJ","Vs7pMbTV2xCynLqLIdSylB4iNQWNkmGD0Wx8hNxLtcHrd5qVPNaEP9hsqbbAGd0E0VFiTYhEQGLqEsdj","QNv70KGPg1hwqNO7OpU2DBIifBCzWPLsEeUK9junnWcYqkZm6rrY9n2LE3ObUw573o7ylUDI6QdBFDiE","CvYM6L5s9XUlMvgi9j9JQHItiwNYnKFQgXcWHC9xiAdOM7oqDeXVFVvE3iFqXB"] [Pl,Kf,ARV,ARt,ARv,ARy,AR0,AR1,ARn] (Ah AIw)
def AAa(e:List Bf×AF):AA (AF×(List Bf)):=let (a,c):=e;some (c,a)
def gW(g:List Bo)(j:List Bf×Int×AF->AA (AF×List Bf))(y:List Bf×Int×AF):AA (AF×(List Bf)):=let (a,c,h):=y;br (decide (c<g.length)) (bd (at? g c) fun q=>bd (AIw h q) fun e=>gd (e9 a+[e.snd].length<=lim) (j (a++[e.snd],w64 (c+1),e.fst))) (jn AAa (a,h))
def gV(a:AF)(c:List Bo):AA (AF×(List Bf)):=bd (Mu a) fun e=>A3 (gW c) big ([],0,e)
def sM:=gZ ASq ASv LY ["HYGI78nqkpvaaH7x6icg8MZI9ZXCQlFIfbGla1CfbjnCLHn1bBEyEfa06x0dJh0RubmNAs0EXMq8kgKa","unWbZrBmbR3L449FPyGJE3O7RZjoN4eU9Vii2aqB1quhpMcAoeN8z0HxiHGggfzY"] [Kf,ARo] (Ah gV)
end Lv
set_option maxRecDepth 100000
namespace Lv
open Go (IntKind BinOp UnOp)
open Y (YF qn qf qt qr q1 qd qm qa qo ql qL qb qi qx qp qq qc qz qe qk qK qB qw qu qj Kp wn wf wt w1 sw sq sr wm wM wo wO wl wL wk wK wz wZ wx wX wb wB wi wI wr wR wq wQ we wE wc wY wj wh cv ca cx cn ce bl)
def AIx(a:BD):AA (BD×(List Bf)):=bd (ZE a) fun c=>bd (ZA a) fun g=>br (!g) (some (c,[])) (bd (m0 a.Bl.Log) fun h=>bd (gV a.Az a.Laid) fun e=>some (BD.mk e.fst (Br.mk h c.Bl.EJ c.Bl.Odd) c.Seq [],e.snd))
def ARp:=gZ Tt ASw si ["PumXHvf80UDgz5B0W8yeUtOijd7zjCgZnpQB3QQFu8BLtwgQsZaFGOne4iCRWLeOilqaG2mKN4lI2pp4","lgvsiA7m9y3FHYXFmQDdlIiqbIqFKp3ZNyT"] [Xp,Xm,re,sM] (Be AIx)
def Vl(a:B3)(c:Int)(e:Bool):AA (B3×Bool):=br e (some (a,false)) (gd (0<=c/\c<=a.Data.length) (some (B3.mk (g0 c.toNat a.Data) (w64 ((↑a.Data.length:Int)-c)),true)))
def AIy(a:B3)(c:Int):AA (B3×Bool):=bd (QL a) fun e=>br (!e) (jn (Vl a c) true) (bd (ED c 0 (↑a.Data.length:Int)) fun g=>br (!g) (jn (Vl a c) true) (jn (Vl a c) (decide (a.Safe<a.Data.length))))
def ARq:=gZ jF Xw YB ["AGtrib6ZHeRJHqZLEbdBi7YuyYumHWNgWEIGJqm1qwzi2Jh4JNLCxal8SOSEonRStG77KiSuAgR7S3SY","a1CU7fI8JpF"] [RF,Gx] (Ah AIy)
def AAb(a:Br):AA Br:=some a
def AIz(a:Br)(e:Int)(c:B3):AA Br:=br (e.tmod 2==0) (jn AAb (Br.mk a.Log c a.Odd)) (jn AAb (Br.mk a.Log a.EJ c))
def ARr:=gZ ASr jI [.cell 6 (some 6)] ["Na3G715MPszABYuuJ4eiTJIAXsv6l0XVHOw2l8lH3VMYUPu"] [] (GA AIz)
def Q5(e:BD)(j:Int)(y:Bool×BD×B3):AA (BD×Bool):=let (g,a,h):=y;br (!g) (bd (Ss e) fun q=>some (q,false)) (bd (AIz a.Bl (w64 (1-j)) h) fun c=>some (BD.mk a.Az c a.Seq a.Laid,true))
def Vq(a:BD)(j:Int)(c:BD)(H:Bool):AA (BD×Bool):=br H (some (c,false)) (bd (eP a.Bl) fun e=>br (decide (e<0)) (some (c,false)) (bd (zl a.Bl (w64 (1-e))) fun G=>br (j==0) (jn (Q5 a e) (true,c,B3.mk [] 0)) (br (j==1) (bd (yT a.Az a.Seq) fun q=>bd (eC G q) fun g=>jn (Q5 a e) (g.snd,c,g.fst)) (br (j==2) (bd (nn G) fun y=>jn (Q5 a e) (true,c,y)) (bd (Qx a.Bl e) fun B=>bd (AID a.Bl B.snd.fst) fun E=>bd (AIy a.Bl.Log E) fun h=>jn (Q5 a e) (h.snd,BD.mk c.Az (Br.mk h.fst c.Bl.EJ c.Bl.Odd) c.Seq c.Laid,G))))))
def AJF(a:BD)(c:Int):AA (BD×Bool):=bd (Ss a) fun e=>bd (Y5 a) fun h=>br (!h) (jn (Vq a c e) true) (br (decide ((↑a.Laid.length:Int)>0)) (jn (Vq a c e) true) (bd (ED c 0 3) fun g=>jn (Vq a c e) (!g)))
def ASG:=gZ Xr YA YC ["179q5VvQ6o1yNSwBHkaeknnmb9gtDreEP5XnTKMm7VJ48iWZ6hTbCuSJFKCq3QgXF2R1E0IFeYrpfEBg","L5MUs5zWdp1FGcY09RG1S5LEmFtuWfBFkPhlhXHzWI7ynyL9lhy8M4xzleUZPd5EVarTpZWeuNq6wuY4","BGtHXsxDH2NJHjEKjmRWJz9cQb8lNzzeLFBarjYmm3qQIYpAxHMJHs0jBhANQm3SeoMeuDNxtIwijy06","p9A69Ei5WvhGul8yb0SF645MvrO7v89wUu265iYVU3O3pFe4ZHejunsiwnBb9pLjJ97UuCB46vGNLGWb","9eUnqYAMVBReNcB4WoxOd046ptxKaq86xoQXDnFysERH42nf"] [Xo,Xk,Gx,rq,AEL,AD7,AEJ,sG,i6,AQu,ARq,ARr] (Ah AJF)
def AAp(a:Br):AA Br:=some a
def n7(a:Br)(e:Int)(c:B3):AA Br:=br (e.tmod 2==0) (jn AAp (Br.mk a.Log c a.Odd)) (jn AAp (Br.mk a.Log a.EJ c))
def ASH:=gZ ASr jI [.cell 6 (some 6)] ["Na3G715MPszABYuuJ4eiTJIAXsv6l0XVHOw2l8lH3VMYUPu"] [] (GA n7)
def Vr(a:B3)(c:Int)(e:Bool):AA (B3×Bool):=br e (some (a,false)) (gd (0<=c/\c<=a.Data.length) (some (B3.mk (g0 c.toNat a.Data) (w64 ((↑a.Data.length:Int)-c)),true)))
def AJG(a:B3)(c:Int):AA (B3×Bool):=bd (OT a) fun e=>br (!e) (jn (Vr a c) true) (bd (C0 c 0 (↑a.Data.length:Int)) fun g=>br (!g) (jn (Vr a c) true) (jn (Vr a c) (a.Safe != a.Data.length)))
def ASI:=gZ jF Xw YB ["KHkEuI34YKzE7dD0ForwYVbhDpl00DPPc7O58SfhmMQs7tCgi7OjnXNrQV9zEVXLkHgl8zMM6KHQYJQE","BfOb4XUEjFj"] [RI,Eb] (Ah AJG)
def Q7(e:Bool×BD):AA (BD×Bool):=let (a,c):=e;some (c,a)
def Q6(c:BD)(j:Int)(a:BD)(h:Int)(I:Bool):AA (BD×Bool):=br I (some (a,false)) (bd (zn c.Bl (w64 (1-h))) fun H=>br (j==0) (bd (n7 c.Bl (w64 (1-h)) (B3.mk [] 0)) fun J=>jn Q7 (true,BD.mk a.Az J a.Seq a.Laid)) (br (j==1) (bd (ye c.Az c.Seq) fun L=>bd (de H L) fun e=>bd (n7 c.Bl (w64 (1-h)) e.fst) fun q=>jn Q7 (e.snd,BD.mk a.Az q a.Seq a.Laid)) (br (j==2) (bd (m0 H) fun y=>bd (n7 c.Bl (w64 (1-h)) y) fun B=>jn Q7 (true,BD.mk a.Az B a.Seq a.Laid)) (bd (Qy c.Bl h) fun E=>bd (AIE c.Bl E.snd.fst) fun G=>bd (AJG c.Bl.Log G) fun g=>jn Q7 (g.snd,BD.mk a.Az (Br.mk g.fst a.Bl.EJ a.Bl.Odd) a.Seq a.Laid)))))
def AJH(a:BD)(c:Int):AA (BD×Bool):=bd (ZE a) fun g=>bd (ZI a.Bl) fun e=>bd (ZA a) fun j=>br (!j) (jn (Q6 a c g e) true) (br (decide ((↑a.Laid.length:Int)>0)) (jn (Q6 a c g e) true) (bd (Lq c 4) fun h=>br (!h) (jn (Q6 a c g e) true) (jn (Q6 a c g e) (decide (e<0)))))
def ASJ:=gZ Xr YA YC ["75RX1L3mD1PjctJdKe7XE5Fg0AAg3hEtjZFjrxgbvBMLOkmAS7ml4sZdxpdjkoiJWdHLT1zOWErzQQEz","GFN8a5mj4muSv3cOQBgw3p7JaFBM2nVwSaNIMCvQiHeTVLYopkE0qhRMU44iCiOzg1jyx9IzYp1cDfyG","6FQepzRomyuPHPzgPakrRDJ6AStV2BGVmvFRdPU470Bce69dogAKU92fSUpZKb0vNc8DwBC3TQRultjv","mm1OcuVLlVMh8DGbCp3gMCaYumEWDHhAeTUshAW91W3JMHohlf2eYjkb4XNdPmVmqWNPOfgM6qZLqqYf","pUre23mMuw2AlSuYRJSeJ8p1GfAlv49AsAx8xWNi9W2C2FLrL"] [Xp,r8,Xm,Pj,AEM,ASH,AQM,AEA,re,i7,AQw,ASI] (Ah AJH)
def AAr(a:BD):AA (BD×Bool):=some (a,true)
def Vt(h:Int)(g:Int×BD->AA (BD×Bool))(q:Int×BD):AA (BD×Bool):=let (a,c):=q;bd (eR h 4) fun j=>br (decide (a<j)) (bd (AJF c a) fun e=>br (!e.snd) (some (c,false)) (g (w64 (a+1),e.fst))) (jn AAr c)
def AAq(a:BD)(c:Int):AA (BD×Bool):=bd (Ss a) fun e=>A3 (Vt c) big (0,e)
def ASK:=gZ Xr YA YC ["R8OF5yNfpDU1Zy0kp7crZhvme1NoH6WcsNEvayWDiQhd1BTHXlURHiNDqBxHI0I7haVIU5DPEH3Tlvqb","700eOA96sd7Z7V1apQgOAUtUJiHQVViEWAd"] [Xo,jA,ASG] (Ah AAq)
def iA(a c e:Int):AA Int:=some (if false=true then if e>if true=true then if c>a then c else a else if c<a then c else a then e else if true=true then if c>a then c else a else if c<a then c else a else if e<if true=true then if c>a then c else a else if c<a then c else a then e else if true=true then if c>a then c else a else if c<a then c else a)
def AEm:=gZ AEr CZ Nv ["42CGAFIByDXXVMwC"] [] (GA iA) [.mm 9 true (.tmp 7) (.tmp 8),.mm 11 false (.tmp 9) (.tmp 10)]
def AAs(a:BD):AA (BD×Bool):=some (a,true)
def Vu(h:Int)(g:Int×BD->AA (BD×Bool))(q:Int×BD):AA (BD×Bool):=let (a,c):=q;bd (iA h 0 4) fun j=>br (decide (a<j)) (bd (AJH c a) fun e=>br (!e.snd) (some (c,false)) (g (w64 (a+1),e.fst))) (jn AAs c)
def AJI(a:BD)(c:Int):AA (BD×Bool):=bd (ZE a) fun e=>A3 (Vu c) big (0,e)
def ASL:=gZ Xr YA YC ["Pg5yMphCVoZMFUg5ZKUi61r1XigjNLBumsF8vKFxvEaPPdppkAGidBpdv4Ze9SvEUDmdbwfQSmVmbG7H","cEMfbPutmcqkBTWGr8wMd7z3dp6kRnBHcikL"] [Xp,AEm,ASJ] (Ah AJI)
def iB(a:Int×List Bu×Int->AA (List Bu))(c:Int)(h:Int×List Bu):AA (List Bu):=let (e,g):=h;a (e,g,w64 (c+1))
def iC(a:List Bu):AA (List Bu):=some a
def AAt(c:List Bu)(q:Int×List Bu×Int->AA (List Bu))(E:Int×List Bu×Int):AA (List Bu):=let (h,e,a):=E;br (decide (a<c.length)) (bd (at? c a) fun y=>br (decide (y.Seq<=h)) (jn (iB q a) (h,e)) (bd (at? c a) fun B=>br (w64 (B.Seq-1) != h) (jn iC e) (bd (at? c a) fun j=>bd (at? c a) fun g=>gd (e9 e+[g].length<=lim) (jn (iB q a) (j.Seq,e++[g]))))) (jn iC e)
def AJJ(a:List Bu)(c:Int):AA (List Bu):=A3 (AAt a) big (c,[],0)
def ASM:=gZ [.v (.l (.st 15)),.v .i] sa Bw ["a3fRew50jJmPoWoTgrEBybQxVb4TI2SWiel0fpGY15jLSstGARjFdTMkCZSWVW0E4zzIhZOyba7N8XfW","iuArsC9UpciWG7dC36vrMnTFrNPwdPXNzO"] [] (Ah AJJ)
def iD(c:Br)(h:Int)(g:Bool):AA (AF×Int×Bool):=br g (some (AF.mk (Ae.mk [] 0 0 0 0 0 0 0 0) 0 0 [] [] [] [],0,false)) (bd (Qx c h) fun a=>bd (nc c.Log.Data) fun j=>bd (AJJ j a.snd.fst) fun q=>bd (AIF q) fun e=>bd (gD a.fst e) fun y=>some (y.fst,w64 (a.snd.fst+(↑(e9 e):Int)),true))
def AJK(a:Br):AA (AF×Int×Bool):=bd (eP a) fun c=>bd (mW a) fun e=>br (!e) (jn (iD a c) true) (jn (iD a c) (decide (c<0)))
def ASN:=gZ Kg Xy se ["YXTHl8cbt9spHugv0FnIv9dk4KtNCcu2Ozre1EDzJW3LApNeaeTgV5t42tWrelkAnGJG2YH2UebhKRWr","t6SlbnNoNWn3C5yQvA9JsEHuvy1CWXKt37P4JXtwbDuaLIdodSfo63"] [rq,rK,i6,rr,ASM,AQx,sF] (Be AJK)
def AAu(a:B3):AA Bool:=some (a.Safe==a.Data.length)
def ASO:=gZ Xs CI Ca ["3ACiIFBLZ6nBYcuW"] [] (Be AAu)
def Vv(a:Bool):AA Bool:=some a
def AJL(a:Br):AA Bool:=bd (AAu a.Log) fun c=>br c (bd (AAu a.EJ) fun e=>br e (bd (AAu a.Odd) fun g=>jn Vv g) (jn Vv false)) (jn Vv false)
def ASP:=gZ Kg CI Ca ["2cgVae2BYRtd8C6GYLZOcxXNHJD2K5b4MQJ"] [ASO] (Be AJL)
def iF(g:List Bu)(h:Int×Int×Int->AA Int)(c a:Int):AA Int:=bd (at? g c) fun j=>bd (at? g c) fun e=>h (a,e.Next,w64 (c+1))
def AAw(a:Int):AA Int:=some a
def iG(c:List Bu)(B:Int×Int×Int->AA Int)(I:Int×Int×Int):AA Int:=let (e,g,a):=I;br (decide (a<(e9 c))) (bd (at? c a) fun E=>bd (at? c a) fun h=>br (decide (h.Seq>w64 (e+1))) (some g) (bd (at? c a) fun G=>bd (at? c a) fun j=>br (j.Seq==w64 (e+1)) (bd (at? c a) fun H=>bd (at? c a) fun q=>bd (nB q.Body) fun y=>br (!y.snd) (some g) (jn (iF c B a) (w64 (e+1)))) (jn (iF c B a) e))) (jn AAw g)
def iE(a:Br)(e:Int)(c:Bool):AA Int:=br c (some 0) (bd (Qx a e) fun g=>bd (nc a.Log.Data) fun h=>A3 (iG h) big (g.snd.fst,0,0))
def AAv(a:Br):AA Int:=bd (eP a) fun c=>bd (mW a) fun e=>br (!e) (jn (iE a c) true) (jn (iE a c) (decide (c<0)))
def ASQ:=gZ Kg CZ Ca ["tWl3O4hzTw9oUzsXg6EL19ZocNaz4YYtiBY8jE8GOxxj2AOvBCHCN6TvjV5NSr019DT87YfUXO9UWZVm","UhLFyspXiWYyHWVDpK2JJHZDvpiaiMy20733PjK6wHSp90SZGBXfk6N67NfUIUdNmrANOLrlnD2ozJKX","VcvnI57BQa2RrBvQ6cvAGP3U8Y2BEfteOlCGrtBhE4atiZT3kzwO2KZHnaeSDpqeOERB"] [rq,rK,i6,rr,AED] (Be AAv)
def iH(a:B3)(c:Int)(e:Bool):AA (B3×Bool):=br e (some (a,false)) (gd (0<=c/\c<=a.Data.length) (bd (eR a.Safe c) fun g=>some (B3.mk (e8 c.toNat a.Data) g,true)))
def n8(a:B3)(c:Int):AA (B3×Bool):=bd (QL a) fun e=>br (!e) (jn (iH a c) true) (bd (ED c 0 (↑a.Data.length:Int)) fun g=>jn (iH a c) (!g))
def ASR:=gZ jF Xw YB ["FsqXloc1Uhf0KtgYaizVY8WntGlRlushis1Z2y5g4s55axvSQbqPhB2rfXqel8a5hXWvht"] [RF,Gx,jA] (Ah n8)
def iI(a:Br)(e:AF×Int×Bool)(h:Bool):AA (BD×Bool):=br h (some (BD.mk (AF.mk (Ae.mk [] 0 0 0 0 0 0 0 0) 0 0 [] [] [] []) (Br.mk (B3.mk [] 0) (B3.mk [] 0) (B3.mk [] 0)) 0 [],false)) (bd (AAv a) fun g=>bd (n8 a.Log g) fun c=>bd (n8 a.Log g) fun j=>N8 c.fst j.fst (bd (AAv a) fun q=>bd (n8 a.Log q) fun y=>N8 c.fst y.fst (bd (nn c.fst) fun B=>some (BD.mk e.fst (Br.mk B a.EJ a.Odd) e.snd.fst [],true))))
def AAx(a:Br):AA (BD×Bool):=bd (AJK a) fun c=>br (!c.snd.snd) (jn (iI a c) true) (bd (AJL a) fun e=>jn (iI a c) (!e))
def AEn:=gZ Kg YA si ["SF5firZtejL3EccC9q5UChwpQtxNVpNYtCUNy6U0shxwsBwcf9ZfotnnJZmasVRJXUC5YabkDzv0Bj4z","ADacuGtNzc20JADQJVg6YbmPUozMGmbWp2ROiY1rVQJMnS4KY5IR7E4E66QM47Z2hHcDrazkvXtTYIjY","8wEDiq5g92VqFxpv7jnlDE2r4EPGRp4Li4DFFxPme0fQQlGhCDjx4rBtRWndwkCfsNNIW"] [ASN,ASP,ASQ,ASR,sG] (Be AAx)
def iJ(c:Br)(h:Int)(g:Bool):AA (AF×Int×Bool):=br g (some (AF.mk (Ae.mk [] 0 0 0 0 0 0 0 0) 0 0 [] [] [] [],0,false)) (bd (Qy c h) fun a=>bd (nd c.Log.Data) fun j=>bd (AII j a.snd.fst) fun q=>bd (AIH q) fun e=>bd (gV a.fst e) fun y=>some (y.fst,w64 (a.snd.fst+(↑(e9 e):Int)),true))
def AAy(a:Br):AA (AF×Int×Bool):=bd (ZI a) fun c=>bd (xn a) fun e=>br (!e) (jn (iJ a c) true) (jn (iJ a c) (decide (c<0)))
def AEo:=gZ Kg Xy se ["1Xy5sGmgZjbEbbzMvoS48KXc8hJYXODcNGa61dJajK2mLUHapI2p3RGySf7U6J5Nw2EIsboFprsy1RPJ","joeCiRaefGkq6ldbo6z0Ltkov4hczUWucC826Hgrduo6rzHW3X8GK5Kf4LeEBTC2"] [r8,AD2,i7,rz,AQz,AQy,sM] (Be AAy)
def Vw(a:Bool):AA Bool:=some a
def AJM(a:Br):AA Bool:=br (a.Log.Safe==a.Log.Data.length) (br (a.EJ.Safe==a.EJ.Data.length) (jn Vw (a.Odd.Safe==a.Odd.Data.length)) (jn Vw false)) (jn Vw false)
def ASS:=gZ Kg CI Ca ["aPknxzFvcoCeteVFNOYytb7KfmwQXsodfXDBujcJPiZ3THygwf7h3Q8ADAOL9FU43z1OjJLQOr6XdC"] [] (Be AJM)
def iL(a:Int):AA Int:=some a
def iM(g:Int×Int×Int->AA Int)(a:Int)(e:Bu)(c:Int):AA Int:=g (c,e.Next,w64 (a+1))
def iK(h:Int×Int×Int->AA Int)(j a c:Int)(g:Bu)(e:Bool):AA Int:=br e (jn iL a) (jn (iM h c g) (w64 (j+1)))
def AA0(q:AF×Int×Bool)(j:List Bu)(h:Int×Int×Int->AA Int)(B:Int×Int×Int):AA Int:=let (g,e,a):=B;br (decide (a<(e9 j))) (bd (at? j a) fun y=>bd (at? j a) fun c=>br (decide (c.Seq>g)) (br (c.Seq != w64 (g+1)) (jn (iK h g e a c) true) (jn (iK h g e a c) (decide (c.Seq>q.snd.fst)))) (jn (iM h a c) g)) (jn iL e)
def AAz(a:Br):AA Int:=bd (AAy a) fun e=>br (!e.snd.snd) (some 0) (bd (ZI a) fun g=>bd (Qy a g) fun c=>bd (Qy a g) fun h=>eqv c.snd.fst h.snd.fst (JG c.fst h.fst (bd (ZI a) fun q=>bd (Qy a q) fun j=>eqv c.snd.fst j.snd.fst (JG c.fst j.fst (bd (nd a.Log.Data) fun y=>A3 (AA0 e y) big (c.snd.fst,0,0))))))
def AST:=gZ Kg CZ Ca ["5IpXzu0K97zhhHsyqjmKJnTVLzh4zX05077M6KoOoY2pqg59N7XopnaS5ngDrUZ6KfiLU6cliHlvlhGb","TmNRtKGHD9PG7ym8gDfn7Ernt7ZUMfe82SbgNuaWuTwqeqPFW4ywzFriqDuoL49egb4EY2BtuIUD3rQB","7jBcSQerBZUi3CRbKdOiAAguvYiVo4L94GiPnnkguRuKT1l970tmA7e4d32VQZ8ORqKWvZWJOQKhe3m6","uXFFYV05ABZVnyKgrUuTKboJNC4yn8yTCsEQa4pFOwBbSxqgs3qBQPFOX0JeNJx"] [AEo,r8,i7,rz] (Be AAz)
def iN(a:B3)(c:Int)(e:Bool):AA (B3×Bool):=br e (some (a,false)) (gd (0<=c/\c<=a.Data.length) (some (B3.mk (e8 c.toNat a.Data) (if false=true then if c>a.Safe then c else a.Safe else if c<a.Safe then c else a.Safe),true)))
def n9(a:B3)(c:Int):AA (B3×Bool):=bd (OT a) fun e=>br (!e) (jn (iN a c) true) (bd (C0 c 0 (↑a.Data.length:Int)) fun g=>jn (iN a c) (!g))
def ASU:=gZ jF Xw YB ["2i1BdUWre72UzERAVrNoHc5QQgvrj0MhIVdt6VFHcvIQ7CXllto5Tack1AZNxj9rPWj84"] [RI,Eb] (Ah n9) [.mm 25 false (.tmp 23) (.tmp 24)]
def iO(a:Br)(e:AF×Int×Bool)(h:Bool):AA (BD×Bool):=br h (some (BD.mk (AF.mk (Ae.mk [] 0 0 0 0 0 0 0 0) 0 0 [] [] [] []) (Br.mk (B3.mk [] 0) (B3.mk [] 0) (B3.mk [] 0)) 0 [],false)) (bd (AAz a) fun g=>bd (n9 a.Log g) fun c=>bd (n9 a.Log g) fun j=>N8 c.fst j.fst (bd (AAz a) fun q=>bd (n9 a.Log q) fun y=>N8 c.fst y.fst (bd (m0 c.fst) fun B=>some (BD.mk e.fst (Br.mk B a.EJ a.Odd) e.snd.fst [],true))))
def AA1(a:Br):AA (BD×Bool):=bd (AAy a) fun c=>br (!c.snd.snd) (jn (iO a c) true) (bd (AJM a) fun e=>jn (iO a c) (!e))
def AEp:=gZ Kg YA si ["1VHejWGfVh7GsevaC3CBHcXd7ohYT2Vt7TNKUUg7nXnsOqjxR1jOYx6WLHWBDdtyvVD0zozfG8DcNk2t","be1Xcy1cx1Pw73IPbIOl6AtQQ42bwK2zsXXAlCIay1kXvIvL7u7cM011KmDBQyGfw8tlMh0nWNUXcMTA","5ekXGBhOKAXZsYPRkh7Hs6XFnjKjDRT372U4GvKxOdYCWO"] [AEo,ASS,AST,ASU,re] (Be AA1)
end Lv
set_option maxRecDepth 100000
namespace Lv
open Go (IntKind BinOp UnOp)
open Y (YF qn qf qt qr q1 qd qm qa qo ql qL qb qi qx qp qq qc qz qe qk qK qB qw qu qj Kp wn wf wt w1 sw sq sr wm wM wo wO wl wL wk wK wz wZ wx wX wb wB wi wI wr wR wq wQ we wE wc wY wj wh cv ca cx cn ce bl)
def AO0(c:Bf)(e:Int):AA Int:=bd (ADQ c.Ids e) fun a=>br (decide (a<0)) (some (-1)) (some a)
def ASV:=gZ [.v (.st 12),.v .i] CZ Bw ["bgFag9DV1hxIAlv1UO6U6exu6l"] [ABQ] (Ah AO0)
def AA2(a:Int):AA Int:=some a
def AA3(c:List Bf)(h:Int×Int->AA Int)(q:Int×Int):AA Int:=let (e,a):=q;br (decide (a<c.length)) (bd (at? c a) fun j=>bd (AO0 j e) fun g=>br (decide (g<0)) (some (-1)) (h (g,w64 (a+1)))) (jn AA2 e)
def AJN(a:List Bf)(c:Int):AA Int:=br (decide (w64 (c-(↑a.length:Int))<0)) (some (-1)) (A3 (AA3 a) big (w64 (c-(↑a.length:Int)),0))
def ASW:=gZ [.v (.l (.st 12)),.v .i] CZ Bw ["2BLHTpFCWRa3vbV9HlNysBQop3hZWnKegpiuCBi8AOBfr6nSAD85xOUqk2q39F0znUaiwUU5f"] [ASV] (Ah AJN)
def AJO(a:CB)(h:Int):AA Int:=bd (AWW a.Ac h) fun c=>br (decide (c<0)) (some (-1)) (bd (AWV a.GG c) fun e=>br (decide (e<0)) (some (-1)) (bd (AJN a.Cx e) fun g=>br (decide (g<0)) (some (-1)) (some g)))
def ASX:=gZ [.v (.st 13),.v .i] CZ Bw ["2NhpFrhoX4yLEwa1hPMkrkmwoBp76bb6iIgvLcpV778s0pdxzkDH5nOpq3FNO3yx"] [AYI,ASj,ASW] (Ah AJO)
def AJP(a:Bf):AA Bf:=bd (AA6 a.Ids) fun c=>some (Bf.mk a.Code c)
def ASY:=gZ [.v (.st 12)] (.ret [(.st 12)]) jJ ["zoqx3H2EBsW1xvegO6YcjCYItfr27J0"] [ABR] (Be AJP)
def AA4(a:List Bf):AA (List Bf):=some a
def iP(e:List Bf)(g:List Bf×Int->AA (List Bf))(q:List Bf×Int):AA (List Bf):=let (c,a):=q;br (decide (a<e.length)) (bd (at? e a) fun h=>bd (AJP h) fun j=>bd (at? c a) fun y=>bd (at? c a) fun B=>g (List.set c a.toNat j,w64 (a+1))) (jn AA4 c)
def AJQ(a:List Bf):AA (List Bf):=gd (0<=(↑a.length:Int)/\(↑a.length:Int)<=lim) (A3 (iP a) big (c5 (↑a.length:Int).toNat (Bf.mk 0 []),0))
def ASZ:=gZ [.v (.l (.st 12))] (.ret [(.l (.st 12))]) Ca ["12q6fh5UOhICfom87QlT8ZrMBlItHLrx8xtD7Hw0Fcyz8Oil0QZuEoaiujsKIuT"] [ASY] (Be AJQ) [.LM 7 (.st 12) (.tmp 6)]
def Vx(a:CB):AA CB:=bd (AWQ a.Ac) fun c=>bd (AOL a.GG) fun e=>bd (AJQ a.Cx) fun g=>some (CB.mk c e g a.GH)
def ASa:=gZ [.v (.st 13)] (.ret [(.st 13)]) [.cell 2 (some 26)] ["GB2OfBnObteDzCT7Vx4GkZrpUZ9KrGUJ1iUbTLRMSB99dJRZANp"] [AX6,APQ,ASZ] (Be Vx)
def Vy(a:List Int)(c:Int):AA Int:=br (decide (c<a.length)) (bd (at? a c) fun e=>some e) (some 0)
def ASb:=gZ ZR CZ Bw ["1NTHcPxJ4IiF5Mt7xelp1g"] [] (Ah Vy)
def nz(a:B3)(e:Int):AA B3:=bd (QL a) fun g=>br (!g) (some a) (bd (eR e (w64 ((↑a.Data.length:Int)-a.Safe))) fun h=>bd (Uq 0 h) fun c=>gd (0<=w64 (a.Safe+c)/\w64 (a.Safe+c)<=a.Data.length) (some (B3.mk (e8 (w64 (a.Safe+c)).toNat a.Data) (w64 (a.Safe+c)))))
def AR9:=gZ jF Tw sd ["eUnz9xTWzbn2x6fhpyHIB3SdpGxOWCGxmwtc220Hi0AOkCQoOJXDIEih9t8NYt2VK7fDbi"] [RF,jA,iu] (Ah nz)
def AAj(a:Br)(c:List Int):AA Br:=bd (Vy c 0) fun e=>bd (nz a.Log e) fun g=>bd (Vy c 1) fun h=>bd (nz a.EJ h) fun j=>bd (Vy c 2) fun q=>bd (nz a.Odd q) fun y=>some (Br.mk g j y)
def AEj:=gZ [.v (.st 10),.v (.l .i)] jI [.cell 4 (some 6)] ["AKizykNbqxxwdhq50YFGljFkJi2Arc41L6w9sCbgvKeNkGeju30RiphZnD4Qfuy6wkP8XOuxvve"] [ASb,AR9] (Ah AAj)
def AJD(a:CB)(e:List Int):AA Int:=bd (Y5 a.Ac) fun g=>br (!g) (some (-1)) (bd (AAj a.Ac.Bl e) fun h=>bd (AAx h) fun c=>br (!c.snd) (some (-1)) (some (w64 (w64 (c.fst.Seq-a.Ac.Seq)+(↑a.Ac.Laid.length:Int)))))
def ASA:=gZ [.v (.st 13),.v (.l .i)] CZ Bw ["3HzbUpghTPXuSMXXe0iWxiPojPfnx1GySp3PasSB6zrenQSyjVB5Rbl9lL9ZCZuZXZKbrb3XJtVdIf"] [Xk,AEj,AEn] (Ah AJD)
def n0(a:B3)(e:Int):AA B3:=bd (OT a) fun g=>br (!g) (some a) (bd (iA e 0 (w64 ((↑a.Data.length:Int)-a.Safe))) fun c=>gd (0<=w64 (a.Safe+c)/\w64 (a.Safe+c)<=a.Data.length) (some (B3.mk (e8 (w64 (a.Safe+c)).toNat a.Data) (w64 (a.Safe+c)))))
def ASB:=gZ jF Tw sd ["1NlOO6QCv5TlM9gHNLkkdY5NZybNKQflOl7L44zVTOojYgbtQKL3S6e0vf1JBRxykVzuh"] [RI,AEm] (Ah n0)
def AAk(c:Br)(a:List Int):AA Br:=bd (at? (e8 (c5 (o4 3) 0).length a++g0 a.length (c5 (o4 3) 0)) 0) fun B=>bd (at? (e8 (c5 (o4 3) 0).length a++g0 a.length (c5 (o4 3) 0)) 0) fun e=>bd (at? (e8 (c5 (o4 3) 0).length a++g0 a.length (c5 (o4 3) 0)) 1) fun E=>bd (at? (e8 (c5 (o4 3) 0).length a++g0 a.length (c5 (o4 3) 0)) 1) fun g=>bd (at? (e8 (c5 (o4 3) 0).length a++g0 a.length (c5 (o4 3) 0)) 2) fun G=>bd (at? (e8 (c5 (o4 3) 0).length a++g0 a.length (c5 (o4 3) 0)) 2) fun h=>bd (n0 c.Log e) fun j=>bd (n0 c.EJ g) fun q=>bd (n0 c.Odd h) fun y=>some (Br.mk j q y)
def AEk:=gZ [.v (.st 10),.v (.l .i)] jI [.cell 4 (some 6)] ["1j0eFljabieumFoT1YS4CWhlTFsoN28RICcSnmxMqUFz27PI7quaJFD7E9Zm6fM3DykNtUJvZdS4LYA6","GgJAO"] [ASB] (Ah AAk) [.LM 6 .i (.k (.int .i64 3)),.cpy 9 .i (.tmp 7) (.tmp 8)]
def AAl(a:CB)(e:List Int):AA Int:=bd (ZA a.Ac) fun g=>br (!g) (some (-1)) (bd (AAk a.Ac.Bl e) fun h=>bd (AA1 h) fun c=>br (!c.snd) (some (-1)) (some (w64 (w64 (c.fst.Seq-a.Ac.Seq)+(↑a.Ac.Laid.length:Int)))))
def ASC:=gZ [.v (.st 13),.v (.l .i)] CZ Bw ["3HzbUpghTPXuSMXXe0iWxiPojPfnx1GySp3PasSB6zrenQSyjVB5Rbl9lL9ZCZuZXZKbrb3XJtVdIf"] [Xm,AEk,AEp] (Ah AAl)
end Lv
set_option maxRecDepth 100000
namespace Lv
open Go (IntKind BinOp UnOp)
open Y (YF qn qf qt qr q1 qd qm qa qo ql qL qb qi qx qp qq qc qz qe qk qK qB qw qu qj Kp wn wf wt w1 sw sq sr wm wM wo wO wl wL wk wK wz wZ wx wX wb wB wi wI wr wR wq wQ we wE wc wY wj wh cv ca cx cn ce bl)
end Lv
