/- Functions of the program as typed texts and as plain functions. -/
import Derived.Test.YtcmjfplpdjflnaaGreatKIb
open List renaming length->e8,take->c5,drop->e9,set->an
open Int renaming toNat->n6
noncomputable section
set_option linter.unusedVariables false
set_option linter.unusedSimpArgs false
set_option linter.unusedSectionVars false
set_option maxRecDepth 100000
namespace Lv
open Go (IntKind BinOp UnOp)
open Y (YF qn qf qt qr q1 qd qm qa qo ql qL qb qi qx qp qq qc qz qe qk qK qB qw qu qj Kp wn wf wt w1 sw sq sr wm wM wo wO wl wL wk wK wz wZ wx wX wb wB wi wI wr wR wq wQ we wE wc wY wj wh cv ca cx cn ce bl)
def Aav:YF:=⟨[],[.v (.st 14),.v .i],[],.ret [.i],[.tmp 4],dY ["6jO5Clig3G6po6nNFCPLxPDglQ7F"] [AOq]⟩
def AIg(c:Cw)(e:Int):AA Int:=bd (AVq c.GS e) fun a=>br (decide (a<0)) (some (-1)) (some a)
def ARo:GF:=Aav.gf rfl rfl (fun a=>AIg a.1 a.2.1) (fun a=>by kernel_rfl)
def Aaw:YF:=⟨[],[.v (.st 14)],[],.ret [(.st 14)],[.cell 2 (some 9)],dY ["czpohWrvbLVV6KwhomEnqlyMfQUFJqzj6dBJRouxE05XK5LWG"] [AXV,AO2]⟩
def AIh(a:Cw):AA Cw:=bd (AYB a.Req) fun c=>bd (ANn a.GS) fun e=>some (Cw.mk a.Kind c a.N_ e)
def ARp:GF:=Aaw.gf rfl rfl (fun a=>AIh a.1) (fun a=>by kernel_rfl)
def Aax:YF:=⟨[],[.v (.l (.st 12))],[],.ret [(.l (.st 12))],[.tmp 2],dY ["1tQePY3f9jrvz4xc7HMKNhze64xAPOOcCOnAoL83212zwM6kwxHsbXx1WlH21d0UR8PLUr1d0fQbNG9v","Xk0NkNVGUZfZE8u"] []⟩
def AAW(a:List Bz):AA (List Bz):=some a
def gX(c:List Bz)(j:List Bz×Int->AA (List Bz))(q:List Bz×Int):AA (List Bz):=let (e,a):=q;br (decide (a<c.length)) (bd (at? c a) fun h=>bd (at? c a) fun g=>gd (0+g.Ids.length<=lim) (gd (e8 e+[Bz.mk h.Code ([]++g.Ids)].length<=lim) (j (e++[Bz.mk h.Code ([]++g.Ids)],w64 (a+1))))) (jn AAW e)
def AAV(a:List Bz):AA (List Bz):=A3 (gX a) big ([],0)
def ARq:GF:=Aax.gf rfl rfl (fun a=>AAV a.1) (fun a=>by kernel_rfl)
def Aay:YF:=⟨[],[.v (.st 13)],[],.ret [(.st 13)],[.cell 2 (some 26)],dY ["NayJYva6cCLBWg4FQSWDZ6NYA7N2oCg1y9947DTee8s1ALMNf6OaMZ9mpv4K1hAQChlwpfkuYJTflXFj","hRjaaCXy6sAMQ6NJORe2FVSE5sSffmiWJ8kX9f4QATrf0bl5kKc"] [Xj,ARq]⟩
def AAX(a:Bu):AA Bu:=bd (TE a.Ac) fun c=>gd (0+a.GL.length<=lim) (bd (AAV a.Cy) fun e=>bd (TE a.Ac) fun g=>gd (0+a.GL.length<=lim) (bd (AAV a.Cy) fun h=>kP c g (eqv ([]++a.GL) ([]++a.GL) (eqv e h (eqv a.G0 a.G0 (some (Bu.mk c ([]++a.GL) e a.G0)))))))
def AER:GF:=Aay.gf rfl rfl (fun a=>AAX a.1) (fun a=>by kernel_rfl)
def Aaz:YF:=⟨[],[.v (.st 13),.v (.l .i)],[],.ret [(.st 13),.i],[.cell 4 (some 26),.tmp 5],dY ["1o8qq9IGNVbIUW5XGBRLQl4xmskwSAZ8SMumROMAcx1AsmV8VxTgWcpBw51la69QOvjEyZEwJQGvW6Wf","9DnLKa5yhnezTjKNBZdvpZcyX6n1ydbpb7lDibv8w7J73vsUX7egHRH5ilW3MMarCeueG6e6zT4uzDL5","8hu4BITyuuLmVeapSlAdGTYc3dbXojBUvPmLAS06YysUh3kfQw0DcNThBSzuhKV7xGh361QUbTBQ2Oxl","BoNJsjr0NTEQai"] [AER,ARl,G3,AEP,AEL,rb]⟩
def AOK(a:Bu)(h:List Int):AA (Bu×Int):=bd (AAX a) fun e=>bd (AIf a h) fun c=>bd (EE c 0 (↑a.Ac.Laid.length:Int)) fun q=>br (!q) (some (e,21)) (bd (AAS a.Ac.Bg h) fun y=>bd (AAF y) fun B=>gd (0<=c/\c<=a.Ac.Laid.length) (bd (fE a.Ac.A2 (c5 (n6 c) a.Ac.Laid)) fun g=>bd (fE a.Ac.A2 (c5 (n6 c) a.Ac.Laid)) fun j=>eqv g.snd j.snd (JR g.fst j.fst (gd (0<=c/\c<=a.Ac.Laid.length) (gd (e.GL.length+(c5 (n6 c) a.Ac.Laid).length<=lim) (gd (e.Cy.length+e8 g.snd<=lim) (some (Bu.mk B.fst (e.GL++c5 (n6 c) a.Ac.Laid) (e.Cy++g.snd) (w64 (a.G0+1)),0))))))))
def ARr:GF:=Aaz.gf rfl rfl (fun a=>AOK a.1 a.2.1) (fun a=>by kernel_rfl)
def Aa0:YF:=⟨[],[.v (.st 13),.v (.st 14)],[],.ret [(.st 13),.i],[.cell 4 (some 26),.tmp 5],dY ["9ieMUJC2FAXWM63Pp20ssFTb1cqgMrS8w70F5ONXYQJkdPWct8EwZACSkdd3uUv1586VeW9WxhxI3J3b","EbmgkfBUM96gVzrp9bdPaVHDiQxny5wk8LSULx4aD5mNGwohFMEjaoWUMTe5ngA1h5aQPTYuI3s9iqgp","WengEwLAU5bJIUE7y459eKnOUhHMCQnuX5qFPwcfdA2IrbpKT1hwRBOVXZi8IxSiQtTMVxGnaTRKM3lv","wAnD3xeX6lRxeUzSwOnnSSiKmOnM3UYRDMDIdaXKGJde"] [AER,G3,Xe,AP8,AQb,ARg,ARr]⟩
def RM(e:Int×Bu):AA (Bu×Int):=let (a,c):=e;some (c,a)
def AAY(c:Bu)(e:Cw):AA (Bu×Int):=bd (AAX c) fun a=>bd (EE e.Kind 1 4) fun y=>br (!y) (some (a,26)) (bd (Y1 c.Ac) fun B=>br (!B) (some (a,21)) (br (e.Kind==1) (bd (AHR c.Ac e.Req) fun j=>jn RM (j.snd,Bu.mk j.fst a.GL a.Cy a.G0)) (br (e.Kind==2) (bd (AHn c.Ac) fun g=>gd (a.GL.length+c.Ac.Laid.length<=lim) (gd (a.Cy.length+e8 g.snd<=lim) (jn RM (0,Bu.mk g.fst (a.GL++c.Ac.Laid) (a.Cy++g.snd) a.G0)))) (br (e.Kind==3) (bd (gQ c.Ac e.N_) fun h=>br (!h.snd) (jn RM (25,Bu.mk h.fst a.GL a.Cy a.G0)) (jn RM (0,Bu.mk h.fst a.GL a.Cy a.G0))) (bd (AOK c e.GS) fun q=>some (q.fst,q.snd))))))
def ARs:GF:=Aa0.gf rfl rfl (fun a=>AAY a.1 a.2.1) (fun a=>by kernel_rfl)
def Aa1:YF:=⟨[],[.v (.l (.st 12))],[],.ret [(.l (.st 12))],[.tmp 2],dY ["KRDjx5GY2N5gZ6QBAkYLSSMKvzEt1BifErSYCmrtDcK6TfsCckGA3XqOYct5WmOvZOAi2zSm75kWa6IK","85DZONI0Q"] [Tx]⟩
def AAZ(a:List Bz):AA (List Bz):=some a
def gY(g:List Bz)(j:List Bz×Int->AA (List Bz))(q:List Bz×Int):AA (List Bz):=let (a,c):=q;br (decide (c<g.length)) (bd (at? g c) fun e=>bd (Jh e.Ids) fun h=>gd (e8 a+[Bz.mk e.Code h].length<=lim) (j (a++[Bz.mk e.Code h],w64 (c+1)))) (jn AAZ a)
def AIi(a:List Bz):AA (List Bz):=A3 (gY a) big ([],0)
def ARt:GF:=Aa1.gf rfl rfl (fun a=>AIi a.1) (fun a=>by kernel_rfl)
def Aa2:YF:=⟨[],[.v (.st 13)],[],.ret [(.st 13)],[.cell 2 (some 26)],dY ["qbtRW619l279JNA5XDv0BWXWasPq9Qs16j2qg5DHYBu3HDhj0QO3jMykHXUE07rI"] [Xl,ARt]⟩
def AIj(a:Bu):AA Bu:=bd (Y6 a.Ac) fun c=>gd (0+a.GL.length<=lim) (bd (AIi a.Cy) fun e=>some (Bu.mk c a.GL e a.G0))
def ARu:GF:=Aa2.gf rfl rfl (fun a=>AIj a.1) (fun a=>by kernel_rfl)
def Aa3:YF:=⟨[],[.v (.st 13),.v (.st 14)],[],.ret [(.st 13),.i],[.cell 4 (some 26),.tmp 5],dY ["1KKDEX9kzY413PfwMEI7e3IeSS0WLPwvqxQkiGthg2gqYJoauRY0VsuumooaBFDI4Gp5tWnSUMN5nuqU","puZGfeQJZe4gaFuok0dKlmzoifJcleD0LjFELWiPYZ2naFvinmmH65kY1fsX6MEpk8DEBTLrAgonZgpM","K5wGFxHXYBbpPEmTHXo9mA7H2YqG6qrnNvdcAiMYKxXNCcIzfLnP3DSuhk4ZjoWTOB0LXEkt5p1f3KUC","wK5QkI1DkRWTJj9vNQWp624mxaot6R8naw5Uwc32Vi5mg0c6yJ9LybtokhlUuON0oafHEU3yI2tBHIVb","CXCBZLVO0N5484wLimeqSwdJukArxgvoIk8ellCHHW3W1YzPQEx6kvOeIYYKe8wmXT6TYZDHpyTfKTxM","MOQCOws80VWJvzolnSfbyqLnToYPbdvONAddmoOwxI7lXYyOyWH0e84FnObVinfhmEaS5o8fbBxSrKm4","0MloghK1bDOd9I9Cb4N7kD5vM3iBhqL6JDmuDHpjakLV9szUXk7kIMsjMTIGyzpkYGXzhD50"] [ARu,Eb,Xf,ARn,AQB,ARZ,ARh,r7,AEQ,AEO]⟩
def Vp(a:Bu):AA (Bu×Int):=some (a,0)
def Vo(g:Bu)(h:Cw)(a:Bu)(H:Bool):AA (Bu×Int):=br H (some (a,21)) (br (h.Kind==1) (bd (AHT g.Ac h.Req) fun G=>some (Bu.mk G.fst a.GL a.Cy a.G0,G.snd)) (br (h.Kind==2) (bd (AIX g.Ac) fun B=>gd (a.GL.length+a.Ac.Laid.length<=lim) (gd (a.Cy.length+e8 B.snd<=lim) (jn Vp (Bu.mk B.fst (a.GL++a.Ac.Laid) (a.Cy++B.snd) a.G0)))) (br (h.Kind==3) (bd (AIc g.Ac h.N_) fun E=>br (!E.snd) (some (Bu.mk E.fst a.GL a.Cy a.G0,25)) (jn Vp (Bu.mk E.fst a.GL a.Cy a.G0))) (bd (AAU g h.GS) fun e=>gd (0<=e/\e<=a.Ac.Laid.length) (bd (gO g.Ac.A2 (c5 (n6 e-0) (e9 0 a.Ac.Laid))) fun c=>bd (gO g.Ac.A2 (c5 (n6 e-0) (e9 0 a.Ac.Laid))) fun j=>eqv c.snd j.snd (JR c.fst j.fst (bd (AAT g.Ac.Bg h.GS) fun q=>bd (AAR q) fun y=>gd (0<=e/\e<=a.Ac.Laid.length) (gd (a.GL.length+(c5 (n6 e-0) (e9 0 a.Ac.Laid)).length<=lim) (gd (a.Cy.length+e8 c.snd<=lim) (jn Vp (Bu.mk y.fst (a.GL++c5 (n6 e-0) (e9 0 a.Ac.Laid)) (a.Cy++c.snd) (w64 (a.G0+1)))))))))))))
def AIk(a:Bu)(c:Cw):AA (Bu×Int):=bd (AIj a) fun e=>bd (C3 c.Kind 1 4) fun j=>br (!j) (some (e,26)) (bd (Y3 a.Ac) fun q=>br (!q) (jn (Vo a c e) true) (br (c.Kind==4) (bd (AAU a c.GS) fun g=>bd (C3 g 0 (↑e.Ac.Laid.length:Int)) fun h=>jn (Vo a c e) (!h)) (jn (Vo a c e) false)))
def ARv:GF:=Aa3.gf rfl rfl (fun a=>AIk a.1 a.2.1) (fun a=>by kernel_rfl)
def Aa4:YF:=⟨[],[.v (.st 14),.v (.st 14)],[],.ret [.b],[.tmp 4],dY ["D59AnbvG9Y9LeKt7llma9NJ34GC1vj5EK4OvudWETObDRMPoiDdCmHdBw"] [ADY,Xg]⟩
def AIl(a c:Cw):AA Bool:=br (a.Kind != c.Kind) (some false) (bd (b7 a.Req c.Req) fun e=>br (!e) (some false) (br (a.N_ != c.N_) (some false) (bd (Qd a.GS c.GS) fun g=>br (!g) (some false) (some true))))
def ARw:GF:=Aa4.gf rfl rfl (fun a=>AIl a.1 a.2.1) (fun a=>by kernel_rfl)
def Aa5:YF:=⟨[],[.v (.l (.st 14)),.v .i],[],.ret [.i],[.tmp 4],dY ["19Jw5d8JFqDte4Tw8gVcr6EBO7UnZQ1o1lK0I2KVkVR7f3SQuEOPDQjCe34BYm1a6xocdvw2zs"] [ARo]⟩
def AAa(a:Int):AA Int:=some a
def AAb(c:List Cw)(h:Int×Int->AA Int)(q:Int×Int):AA Int:=let (e,a):=q;br (decide (a<c.length)) (bd (at? c a) fun j=>bd (AIg j e) fun g=>br (decide (g<0)) (some (-1)) (h (g,w64 (a+1)))) (jn AAa e)
def AIm(a:List Cw)(c:Int):AA Int:=br (decide (w64 (c-(↑a.length:Int))<0)) (some (-1)) (A3 (AAb a) big (w64 (c-(↑a.length:Int)),0))
def ARx:GF:=Aa5.gf rfl rfl (fun a=>AIm a.1 a.2.1) (fun a=>by kernel_rfl)
def Aa6:YF:=⟨[],[.v (.l (.st 14))],[],.ret [(.l (.st 14))],[.tmp 2],dY ["XcvHa6R7xXXj94h4raoA2b6rJPKDJzRcqZyHMnAgFfuK80ymJftX56vSJMjEnzc4D1ziE"] [ARp] [.O1 7 (.st 14) (.tmp 6)]⟩
def AAc(a:List Cw):AA (List Cw):=some a
def gb(e:List Cw)(g:List Cw×Int->AA (List Cw))(q:List Cw×Int):AA (List Cw):=let (c,a):=q;br (decide (a<e.length)) (bd (at? e a) fun h=>bd (AIh h) fun j=>bd (at? c a) fun y=>bd (at? c a) fun B=>g (an c a.toNat j,w64 (a+1))) (jn AAc c)
def ga(a:List Cw):AA (List Cw):=gd (0<=(↑a.length:Int)/\(↑a.length:Int)<=lim) (A3 (gb a) big (List.replicate (↑a.length:Int).toNat (Cw.mk 0 (Bp.mk 0 0 0 0 0 0) 0 []),0))
def ARy:GF:=Aa6.gf rfl rfl (fun a=>ga a.1) (fun a=>by kernel_rfl)
def Aa7:YF:=⟨[],[.v (.st 1),.v (.l (.st 14))],[],.ret [(.st 13),(.l .i),.b],[.cell 4 (some 26),.tmp 5,.tmp 6],dY ["AVa8DA5fKQ3Vq5ugjKdXGiKsIABGDZHlrQJeUHFF5fuwpizBmm7RAim8MD6RK011JMXquHhxFVJErPFz","hybZOipVeDtaTpZIziuZZ7B5RQIMg95T0gaLVsyV20zmvpnDWUsAOxl8s3XGUJeuut2N910YnBVoyLhf","gc8t2UTe0dwbxsPaIuNpdxm5hFyhMF2DfBqPfCuS4bjxrmbP2exSafQHzkrTTGGpdBvbO2TQgH23p"] [APy,ARs]⟩
def AAd(e:List Int×Bu):AA (Bu×(List Int)×Bool):=let (a,c):=e;some (c,a,true)
def Vq(h:List Cw)(y:List Int×Int×Bu->AA (Bu×List Int×Bool))(B:List Int×Int×Bu):AA (Bu×(List Int)×Bool):=let (c,e,g):=B;br (decide (e<h.length)) (bd (at? h e) fun j=>bd (AAY g j) fun a=>bd (AAY g j) fun q=>eqv a.snd q.snd (uo a.fst q.fst (gd (e8 c+[a.snd].length<=lim) (y (c++[a.snd],w64 (e+1),a.fst))))) (jn AAd (c,g))
def gh(a:List Cw)(e:Bu×Bool)(c:Bool):AA (Bu×(List Int)×Bool):=br c (some (Bu.mk (A7.mk (AE.mk (Aa.mk [] 0 0 0 0 0 0 0 0) 0 0 [] [] [] []) (Bk.mk (Bl.mk [] 0) (Bl.mk [] 0) (Bl.mk [] 0)) 0 []) [] [] 0,[],false)) (A3 (Vq a) big ([],0,e.fst))
def AIn(e:Aa)(a:List Cw):AA (Bu×(List Int)×Bool):=bd (AHJ e) fun c=>br (!c.snd) (jn (gh a c) true) (jn (gh a c) (decide ((↑a.length:Int)>60)))
def ARz:GF:=Aa7.gf rfl rfl (fun a=>AIn a.1 a.2.1) (fun a=>by kernel_rfl)
def Aa8:YF:=⟨[],[.v (.st 1),.v (.l (.st 14))],[],.ret [(.st 13),(.l .i),.b],[.cell 4 (some 26),.tmp 5,.tmp 6],dY ["BlumzNfEhayciDeVmvpIbHLJ1MNi2ptZqt2VyFTNhLkAy1jnVqhsk2l7OJvQXqK8VtNWpKJPIfeC1tNX","CdcXvSYw5W8rHUEHyjKYLKVSV8BUjwbDl8woFv9ieAjLHY5kM5pyfZByWrKH6EBIejkuXo0lX6lSwKxr","qg6p0jP8XkT2dZQRSe2ykrtVBMYnusFppoi"] [APz,ARv]⟩
def AAf(e:List Int×Bu):AA (Bu×(List Int)×Bool):=let (c,a):=e;some (a,c,true)
def Vr(g:List Cw)(j:List Int×Int×Bu->AA (Bu×List Int×Bool))(y:List Int×Int×Bu):AA (Bu×(List Int)×Bool):=let (a,c,h):=y;br (decide (c<g.length)) (bd (at? g c) fun q=>bd (AIk h q) fun e=>gd (e8 a+[e.snd].length<=lim) (j (a++[e.snd],w64 (c+1),e.fst))) (jn AAf (a,h))
def gi(a:List Cw)(e:Bu×Bool)(c:Bool):AA (Bu×(List Int)×Bool):=br c (some (Bu.mk (A7.mk (AE.mk (Aa.mk [] 0 0 0 0 0 0 0 0) 0 0 [] [] [] []) (Bk.mk (Bl.mk [] 0) (Bl.mk [] 0) (Bl.mk [] 0)) 0 []) [] [] 0,[],false)) (A3 (Vr a) big ([],0,e.fst))
def AAe(e:Aa)(a:List Cw):AA (Bu×(List Int)×Bool):=bd (AHK e) fun c=>br (!c.snd) (jn (gi a c) true) (jn (gi a c) (decide ((↑a.length:Int)>60)))
def AR0:GF:=Aa8.gf rfl rfl (fun a=>AAe a.1 a.2.1) (fun a=>by kernel_rfl)
def Aa9:YF:=⟨[],[.v (.l (.st 14)),.v (.l (.st 14))],[],.ret [.b],[.tmp 4],dY ["9U85EtNN8y78nyrUMM4x3CERXpArquDadiBclnmZjw4oTBW6xSGFgMkVZbTleW"] [ARw]⟩
def AAg(_:PUnit):AA Bool:=some true
def gj(c g:List Cw)(e:Int->AA Bool)(a:Int):AA Bool:=br (decide (a<c.length)) (bd (at? c a) fun h=>bd (at? g a) fun j=>bd (AIl h j) fun q=>br (!q) (some false) (e (w64 (a+1)))) (jn AAg ())
def AIo(a c:List Cw):AA Bool:=br ((↑a.length:Int) != c.length) (some false) (A3 (gj a c) big 0)
def AR1:GF:=Aa9.gf rfl rfl (fun a=>AIo a.1 a.2.1) (fun a=>by kernel_rfl)
def AbA:YF:=⟨[],[.m (.l (.st 14)),.v .i],[],.ret [.i],[.tmp 4],dY ["Hr2tlBiVlTk3pAVEu6GZXWJTzuGvZVw1zptaDuQQ5ZZ8SSSFkzz72S44koIzwn5jx9g8oJfr3LgDM3fp","y4xRL3aWdIMkhPWWZFB55RmETzQe2ydfrWybtFG5K0TUhDtKwOaqm4NaEknngcgmo4gMrKKZknRqCycA","LzrnBrPws7cwocTavGHdUN54d4ugDl9xy8LFZRX4QDuYaDNCndA4cqgAR1DKsWo8ZsNDOEmNyAt5pKos","bg7qeUzma4mmElvRL7vuRDg89dUx"] [Xi]⟩
def AAo(q:List Cw×Int×Int->AA (Int×List Cw))(B:List Cw×Int×Int):AA (Int×(List Cw)):=let (c,h,a):=B;bd (at? c a) fun y=>bd (at? c a) fun j=>bd (U8 j.GS (w64 (h+1))) fun g=>gd (a.toNat=a.toNat) (bd (c[a.toNat]?) fun e=>q (an c a.toNat (Cw.mk e.Kind e.Req e.N_ g.snd),g.fst,w64 (a+1)))
def AAn(h:List Cw×Int×Int->AA (Int×List Cw))(q:List Cw×Int×Int):AA (Int×(List Cw)):=let (c,g,a):=q;bd (at? c a) fun j=>bd (at? c a) fun e=>jn (AAo h) (an c a.toNat (Cw.mk e.Kind e.Req (w64 (g+1)) e.GS),w64 (g+1),a)
def AAm(h:List Cw×Int×Int->AA (Int×List Cw))(q:List Cw×Int×Int):AA (Int×(List Cw)):=let (e,g,c):=q;bd (at? e c) fun j=>bd (at? e c) fun a=>jn (AAn h) (an e c.toNat (Cw.mk a.Kind (Bp.mk a.Req.Kind a.Req.Id a.Req.AY a.Req.Bi a.Req.BA (w64 (g+1))) a.N_ a.GS),w64 (g+1),c)
def AAl(h:List Cw×Int×Int->AA (Int×List Cw))(q:List Cw×Int×Int):AA (Int×(List Cw)):=let (e,g,c):=q;bd (at? e c) fun j=>bd (at? e c) fun a=>jn (AAm h) (an e c.toNat (Cw.mk a.Kind (Bp.mk a.Req.Kind a.Req.Id a.Req.AY a.Req.Bi (w64 (g+1)) a.Req.Co) a.N_ a.GS),w64 (g+1),c)
def AAk(h:List Cw×Int×Int->AA (Int×List Cw))(q:List Cw×Int×Int):AA (Int×(List Cw)):=let (e,g,c):=q;bd (at? e c) fun j=>bd (at? e c) fun a=>jn (AAl h) (an e c.toNat (Cw.mk a.Kind (Bp.mk a.Req.Kind a.Req.Id a.Req.AY (w64 (g+1)) a.Req.BA a.Req.Co) a.N_ a.GS),w64 (g+1),c)
def AAj(h:List Cw×Int×Int->AA (Int×List Cw))(q:List Cw×Int×Int):AA (Int×(List Cw)):=let (e,g,c):=q;bd (at? e c) fun j=>bd (at? e c) fun a=>jn (AAk h) (an e c.toNat (Cw.mk a.Kind (Bp.mk a.Req.Kind a.Req.Id (w64 (g+1)) a.Req.Bi a.Req.BA a.Req.Co) a.N_ a.GS),w64 (g+1),c)
def AAi(h:List Cw×Int×Int->AA (Int×List Cw))(q:List Cw×Int×Int):AA (Int×(List Cw)):=let (e,g,c):=q;bd (at? e c) fun j=>bd (at? e c) fun a=>jn (AAj h) (an e c.toNat (Cw.mk a.Kind (Bp.mk a.Req.Kind (w64 (g+1)) a.Req.AY a.Req.Bi a.Req.BA a.Req.Co) a.N_ a.GS),w64 (g+1),c)
def AAh(h:List Cw×Int×Int->AA (Int×List Cw))(q:List Cw×Int×Int):AA (Int×(List Cw)):=let (e,g,c):=q;bd (at? e c) fun j=>bd (at? e c) fun a=>jn (AAi h) (an e c.toNat (Cw.mk a.Kind (Bp.mk (w64 (g+1)) a.Req.Id a.Req.AY a.Req.Bi a.Req.BA a.Req.Co) a.N_ a.GS),w64 (g+1),c)
def nA(e:List Cw×Int):AA (Int×(List Cw)):=let (a,c):=e;some (c,a)
def Vt(h:List Cw×Int×Int->AA (Int×List Cw))(j:List Cw×Int×Int):AA (Int×(List Cw)):=let (a,e,c):=j;br (decide (c<(e8 a))) (bd (at? a c) fun q=>bd (at? a c) fun g=>jn (AAh h) (an a c.toNat (Cw.mk e g.Req g.N_ g.GS),e,c)) (jn nA (a,e))
def AIp(a:List Cw)(c:Int):AA (Int×(List Cw)):=A3 Vt big (a,c,0)
def AR2:GF:=AbA.gf rfl rfl (fun a=>AIp a.1 a.2.1) (fun a=>by kernel_rfl)
def SF:YF:=⟨[],[.v (.st 1),.v (.l (.st 14))],[],.ret [.b],[.tmp 4],dY ["v48nXymFxFw0EAWXDs3Bj8agOl9dDkJG5FCcCT1FyRpdKXg4laiYbKkXD6oaa6PMZZejJlZImshuPZEs","L7Xgr1l34bJFN19vBXsERGrS2q3OHzQ0c3XR93gFT6VM03yAPIRtBbAtSwXQEEwpNHIUeZyZ4qnC4iJZ","ysX9PwCFLXmwn5MKG5QvrWgr0QEkgEJ2wTrJF1MG83kkUDrpCd3HxLbcLI5hrRt81VEwyH35AAwIiCA2","AV0s5Nmc7p3JuqTQZLpNwVLoTn9XidXhZ1yM4M7bpj6mBxmspyGOxz67t1M7h3X2Am2D90hpIR4mZ3j3","9E5iX9PxKZhwqhkklecos8opsCy1HxvWLFe4BZxxRIbG3wXUAodOr7gGmoDxFW4N1n00mRK5DEZZVGu8","LEy7tqEORmsNbp2P6HlsPI6mvQ4h26cCDg9Oi8hZCbnj6hkUQgfE77TJ6SroMochNQfjyqwQovjo9QgS","HbqNMYYFIIYEUZfSkIljcsRlQpbsCjeBSdU5dNgDh47ruWU9ZuxT0rlUq3lY1BdJU8Ev5Rme5nfA6SFS","Agmt61JDwc54nlD2lSBb27R2GwBvQ0LFGUTqBIZXp5Aj3OKe8Q"] [AXT,ARx,AXU,ARy,ARz,AR0,AP2,Xg,ADV,AR1,ADh,AR2,APf,Xi,APh,iH]⟩
def FU(c:Bu×List Int×Bool)(a:Int×Bu)(e:Int×List Int)(j:Bool):AA Bool:=br j (some false) (bd (yP (Bu.mk (A7.mk (AE.mk (Aa.mk a.snd.Ac.A2.AQ.AW c.fst.Ac.A2.AQ.Cb c.fst.Ac.A2.AQ.Room c.fst.Ac.A2.AQ.BA c.fst.Ac.A2.AQ.CG c.fst.Ac.A2.AQ.B1 c.fst.Ac.A2.AQ.Rest c.fst.Ac.A2.AQ.Ca c.fst.Ac.A2.AQ.Cx) c.fst.Ac.A2.Now c.fst.Ac.A2.Az a.snd.Ac.A2.AG a.snd.Ac.A2.AH a.snd.Ac.A2.BF a.snd.Ac.A2.BC) c.fst.Ac.Bg c.fst.Ac.Seq a.snd.Ac.Laid) a.snd.GL a.snd.Cy c.fst.G0) 1) fun g=>br (decide (g<0)) (some false) (bd (U0 e.snd g) fun h=>br (decide (h<0)) (some false) (br (h != e.fst) (some false) (some true))))
def ET(I:Aa)(J:List Cw)(H c:Bu×List Int×Bool)(q:Bool):AA Bool:=br q (some false) (bd (AG2 c.fst 1) fun a=>bd (U8 c.snd.fst a.fst) fun e=>bd (yP (Bu.mk (A7.mk (AE.mk (Aa.mk a.snd.Ac.A2.AQ.AW c.fst.Ac.A2.AQ.Cb c.fst.Ac.A2.AQ.Room c.fst.Ac.A2.AQ.BA c.fst.Ac.A2.AQ.CG c.fst.Ac.A2.AQ.B1 c.fst.Ac.A2.AQ.Rest c.fst.Ac.A2.AQ.Ca c.fst.Ac.A2.AQ.Cx) c.fst.Ac.A2.Now c.fst.Ac.A2.Az a.snd.Ac.A2.AG a.snd.Ac.A2.AH a.snd.Ac.A2.BF a.snd.Ac.A2.BC) c.fst.Ac.Bg c.fst.Ac.Seq a.snd.Ac.Laid) a.snd.GL a.snd.Cy c.fst.G0) 1) fun h=>br (decide (h<0)) (some false) (bd (U0 e.snd h) fun j=>br (decide (j<0)) (some false) (br (j != e.fst) (some false) (bd (AC4 I) fun y=>bd (ga J) fun B=>bd (AAe y B) fun g=>bd (mZ g.fst H.fst) fun E=>br (!E) (jn (FU c a e) true) (bd (Qd g.snd.fst H.snd.fst) fun G=>br (!G) (jn (FU c a e) true) (jn (FU c a e) (!g.snd.snd==H.snd.snd)))))))
def FT(e:Aa)(g:List Cw)(a:Bu×List Int×Bool)(J:Aa)(L:List Cw)(c:Bu×List Int×Bool)(h:Bool):AA Bool:=br h (some false) (bd (AC4 e) fun j=>bd (xF J j) fun q=>br (!q) (some false) (bd (ga g) fun y=>bd (AIo L y) fun B=>br (!B) (some false) (bd (yB J 1) fun E=>bd (AIp L E.fst) fun G=>br (decide (G.fst<0)) (jn (ET e g a c) true) (bd (mZ c.fst a.fst) fun H=>br (!H) (jn (ET e g a c) true) (bd (Qd c.snd.fst a.snd.fst) fun I=>br (!I) (jn (ET e g a c) true) (jn (ET e g a c) (!c.snd.snd==a.snd.snd)))))))
def Ge(a:Aa)(c:List Cw):AA Bool:=bd (AVr a 1048576) fun y=>br (decide (y<0)) (some true) (bd (AIm c y) fun B=>br (decide (B<0)) (some true) (bd (AC4 a) fun E=>bd (ga c) fun G=>bd (AIn E G) fun e=>bd (AC4 a) fun h=>bd (ga c) fun j=>bd (AAe h j) fun g=>bd (mZ g.fst e.fst) fun H=>br (!H) (jn (FT a c e h j g) true) (bd (Qd g.snd.fst e.snd.fst) fun q=>br (!q) (jn (FT a c e h j g) true) (jn (FT a c e h j g) (!g.snd.snd==e.snd.snd)))))
def Ew:GF:=SF.gf rfl rfl (fun a=>Ge a.1 a.2.1) (fun a=>by kernel_rfl)
end Lv
