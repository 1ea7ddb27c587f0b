/- Functions of the program as typed texts and as plain functions. -/
import Derived.Test.YtfokjgkkeobaiaaGreatTC
set_option linter.all false
open List renaming take->an,length->g0,drop->n6,set->r9,replicate->v8
open Int renaming tmod->s3,toNat->It
open UInt8 renaming toNat->s4
noncomputable section
set_option maxRecDepth 100000
namespace Lv
open Go (IntKind BinOp UnOp)
open Y (YF qn qf qt qr q1 qd qm qa qo ql qL qb qi qx qp qq qc qz qe qk qK qB qw qu qj Kp wn wf wt w1 sw sq sr wm wM wo wO wl wL wk wK wz wZ wx wX wb wB wi wI wr wR wq wQ we wE wc wY wj wh cv ca cx cn ce bl)
def cj(a:Bool):AA Bool:=some a
def Et(a c e:Int):AA Bool:=br (decide (a>=c)) (jn cj (decide (a<=e))) (jn cj false)
def Hk:=gZ ARo DL TY ["1G2DaGIiqxlAK3sVkpdEHqQuc"] [] (GQ Et)
def Wd(a:Bool):AA Bool:=some a
def AHh(a:AY)(_:PUnit):AA Bool:=bd (Et a.B6 1 8) λe=>br e (bd (Et a.Rest 0 8) λg=>br g (bd (Et a.Cg 1 4) λh=>br h (bd (Et a.C4 1 3) λc=>jn Wd c) (jn Wd false)) (jn Wd false)) (jn Wd false)
def tk(a:AY)(e:Int->AA Bool)(c:Int):AA Bool:=br (decide (c<a.AX.length)) (bd (at? a.AX c) λg=>bd (Et g 1 60) λh=>br (!h) (some false) (e (w64 (c+1)))) (jn (AHh a) ())
def RM(a:AY)(c:Bool):AA Bool:=br c (some false) (BE (tk a) big 0)
def tj(a:AY):AA Bool:=bd (Et (↑a.AX.length:Int) 1 4) λj=>br (!j) (jn (RM a) true) (bd (Et a.CZ 1 5) λc=>br (!c) (jn (RM a) true) (bd (Et a.Room 1 10) λe=>br (!e) (jn (RM a) true) (bd (Et a.BK 1 6) λg=>br (!g) (jn (RM a) true) (bd (Et a.CI 1 12) λh=>jn (RM a) (!h)))))
def kb:=gZ TW DL DV ["3cuoeRAOeQunHya83jPXNWwYjnmAHuuvv9AWPf94hdfP65YoWi1Hy8DPVwW9IwGKGH5U09Hp4pyrB6va","YuBIMiWFlzlmbbvRGcrOxPMvZ6Jd8uKHEtk3V46C2dpBZNvFp5JRl9sfIShoT6flKf3FXtbgMqKNRb6X","cD1Wv08mbcdIKekI"] [Hk] (Bm tj)
def UO(a:Bool):AA Bool:=some a
def RN(c:AY)(a:AU)(e:Int)(g:Bool):AA Bool:=br g (some false) (br (a.State==1) (bd (Et a.DM 0 (w64 (e+c.Rest))) λh=>br h (jn UO true) (br (a.State==2) (bd (Et a.DM 1 (w64 (e+c.B6))) λj=>jn UO j) (jn UO false))) (br (a.State==2) (bd (Et a.DM 1 (w64 (e+c.B6))) λq=>jn UO q) (jn UO false)))
def PE(c:AY)(a:AU)(e:Int)(q:Bool):AA Bool:=br q (some false) (bd (Et a.BK 1 c.BK) λy=>br (!y) (jn (RN c a e) true) (bd (Et a.DS 0 (w64 (c.CZ-1))) λB=>br (!B) (jn (RN c a e) true) (bd (Et a.Since 0 e) λg=>br (!g) (jn (RN c a e) true) (bd (Et a.A4 1 1000000) λh=>br (!h) (jn (RN c a e) true) (bd (Et a.Dm 0 (w64 (c.Cg-1))) λj=>jn (RN c a e) (!j))))))
def AEf(c:AY)(a:AU)(e:Int):AA Bool:=bd (tj c) λy=>br (!y) (jn (PE c a e) true) (bd (Et e 0 1000000) λg=>br (!g) (jn (PE c a e) true) (bd (Et a.Id 1 999) λh=>br (!h) (jn (PE c a e) true) (bd (Et a.AZ 0 (w64 ((↑c.AX.length:Int)-1))) λj=>br (!j) (jn (PE c a e) true) (bd (Et a.Bz (-1) (w64 ((↑c.AX.length:Int)-1))) λq=>br (!q) (jn (PE c a e) true) (jn (PE c a e) (a.Bz==a.AZ))))))
def ACj:=gZ bO DL TY ["3j8kHngcznFZ7gF9PbuYIAiIjTbkRL1IWIr1wo3DrpiQeeFvPI4G1mFagI2zaxxGgZBnH14FyBqljvh5","l5zpeo6a33cisx9f1SVcWYK7XjnP2IrA9QRNO5ygec5hcFdkEU9nsQPC7wG94639vF3OQl8oeI6tKNtr","DLP3nhTnSY4M5MrPGRDBrMpwmVAwQxU4WRrBJ9MY4AiTzC0UKYGWVQr2wl2peCJCPFzC7Dk86JAKBKMy","KWPMkNWOji5lRfqYkLg9gYaXuFo14g1ld9ABU2s6CCBxEj4"] [kb,Hk] (GQ AEf)
def PF(a:Int->AA Bool)(c:Int)(e:Bool):AA Bool:=br e (some false) (a (w64 (c+1)))
def AHv(a:Int->AA Bool)(c:Int)(_:PUnit):AA Bool:=a (w64 (c+1))
def tn(q:AE)(j:Int->AA Bool)(h:Int)(c:AU)(g:Int->AA Bool)(a:Int):AA Bool:=br (decide (a<h)) (bd (at? q.AG a) λe=>br (e.A4==c.A4) (jn (PF g a) true) (br (decide (e.A4<c.A4)) (br (decide (e.Since>c.Since)) (jn (PF g a) true) (br (decide (e.A4>c.A4)) (jn (PF g a) (decide (e.Since<c.Since))) (jn (PF g a) false))) (br (decide (e.A4>c.A4)) (jn (PF g a) (decide (e.Since<c.Since))) (jn (PF g a) false)))) (jn (AHv j h) ())
def UR(c:AE)(a:Int->AA Bool)(e:Int)(h:AU)(g:Bool):AA Bool:=br g (some false) (BE (tn c a e h) big 0)
def AHw(_:PUnit):AA Bool:=some true
def tl(a:AE)(g:Int->AA Bool)(c:Int):AA Bool:=br (decide (c<a.AG.length)) (bd (at? a.AG c) λe=>bd (AEf a.AQ e a.Now) λj=>br (!j) (jn (UR a g c e) true) (br (decide (e.A4>=a.A4)) (jn (UR a g c e) true) (br (decide (c>0)) (bd (at? a.AG (w64 (c-1))) λh=>jn (UR a g c e) (decide (h.Id>=e.Id))) (jn (UR a g c e) false)))) (jn AHw ())
def AVa(a:AE):AA Bool:=BE (tl a) big 0
def AW8:=gZ Xo DL DV ["DkkyU3vc6Nr2aRkYjEGaQztzns8LRz9SjfRhVG3kWeDHnygCpsVv3JPG49vTwOj3VKpIS4RxlCE7fKS3","hR3bX0elSWZtWAnfpjt7QXNF6Fehv7KHc6IQbRFbfRezS0KqG3UZrgYavdzTiOlZ75PIYGKdaOu8whch","YuDerIXoMKptzDLwHLx0gUZfNdYo9WdEXdkzLkYlEfW9hlm4WfD72N0jCFVyssSBIApznfsf32S2AThk","HIK3ha1l2sFDxs8QXPO0sONVjiaO4zst"] [ACj] (Bm AVa)
def AIC(_:PUnit):AA Bool:=some false
def AID(c:List Int)(g:Int)(e:Int->AA Bool)(a:Int):AA Bool:=br (decide (a<c.length)) (bd (at? c a) λh=>br (h==g) (some true) (e (w64 (a+1)))) (jn AIC ())
def AK9(a:List Int)(c:Int):AA Bool:=BE (AID a c) big 0
def AJs:=gZ rK DL Cv ["Mg3HhNGrCbgM7zYN6sjRLbKP3jNWokmiLChwcYTXJPz"] [] (BF AK9)
def tp(a:Int->AA Bool)(c:Int)(e:Bool):AA Bool:=br e (some false) (a (w64 (c+1)))
def AIQ(a:AE)(_:PUnit):AA Bool:=some ((↑a.BB.length:Int)==a.AQ.C4)
def tt(a:AE)(h:Int->AA Bool)(c:Int):AA Bool:=br (decide (c<a.BB.length)) (bd (at? a.BB c) λe=>bd (Et e (-1) (w64 ((↑a.AH.length:Int)-1))) λg=>br (!g) (some false) (h (w64 (c+1)))) (jn (AIQ a) ())
def cq(a:AE)(_:PUnit):AA Bool:=BE (tt a) big 0
def tq(c:AE)(e:Int->AA Bool)(a:Int):AA Bool:=br (decide (a<c.BD.length)) (bd (at? c.BD a) λg=>bd (Et g 0 (w64 ((↑c.AH.length:Int)-1))) λh=>br (!h) (jn (tp e a) true) (gd (0<=a/\a<=c.BD.length) (bd (at? c.BD a) λj=>bd (AK9 (an a.toNat c.BD) j) λq=>jn (tp e a) q))) (jn (cq c) ())
def AVb(a:AE):AA Bool:=BE (tq a) big 0
def AW9:=gZ Xo DL DV ["9C9k2WujLN2leNEqH5gAS5lr7LFDOWR9brAWC1Z9vElLobCjbZYkVy69htvthI7EqtE2d1DoUR2UfPZb","wjj6YiAYYq096mS7xEPY0bNxH10xQs5ICuWyVcMGsaNprZgRSX7wojg3eFE3AsdAeSqUcU950YRnEBh"] [Hk,AJs] (Bm AVb)
def RO(a:Bool):AA Bool:=some a
def AEg(a:BN):AA Bool:=bd (Et a.Total 1 60) λc=>br c (bd (Et a.D1 0 a.Total) λe=>br e (bd (Et a.FL 0 a.Total) λg=>br g (bd (Et a.GA 0 a.Total) λh=>br h (br (w64 (w64 (a.D1+a.FL)+a.GA)==a.Total) (bd (Et a.GZ 0 a.GA) λj=>jn RO j) (jn RO false)) (jn RO false)) (jn RO false)) (jn RO false)) (jn RO false)
def AJt:=gZ [.v (.st 3)] DL DV ["RpKRZNSiedeHZOgNcsokF9JMipCT7bqUfM0ZQ7ZO3SSeNRFyDbNYir2sTbq2i2BXc4le3iO92Ki4gQX8","JDwQ9okMBcot5j77rGZySViNFXaWxlC"] [Hk] (Bm AEg)
def dB(a:Bool):AA Bool:=some a
def AOQ(a c:A0):AA Bool:=br (decide (a.Level<c.Level)) (jn dB true) (br (a.Level==c.Level) (jn dB (decide (a.A4<c.A4))) (jn dB false))
def AQf:=gZ ARx DL Cv ["afJljOGmateIaGAO2OEScZIheTNIkJrYrTe5HjLNnZJVOkOrPw"] [] (BF AOQ)
def AI2(_:PUnit):AA Int:=some (-1)
def AI3(c:List A0)(g:Int)(e:Int->AA Int)(a:Int):AA Int:=br (decide (a<c.length)) (bd (at? c a) λh=>br (h.Id==g) (some a) (e (w64 (a+1)))) (jn AI2 ())
def ALA(a:List A0)(c:Int):AA Int:=BE (AI3 a c) big 0
def AQz:=gZ AFt DO Cv ["efbef5KFSh88pdoyp47iKhKWZ990oRlJcfIZILa1d1qBCY6q"] [] (BF ALA)
def XZ(a:Int->AA Bool)(c:Int)(e:Bool):AA Bool:=br e (some false) (a (w64 (c+1)))
def UU(e:List A0)(c:Int->AA Bool)(a:Int)(h:A0)(j:Bool):AA Bool:=br j (some false) (br (decide (a>0)) (bd (at? e (w64 (a-1))) λq=>bd (AOQ q h) λy=>br (!y) (jn (XZ c a) true) (bd (ALA e h.Id) λB=>jn (XZ c a) (B != a))) (bd (ALA e h.Id) λg=>jn (XZ c a) (g != a)))
def AJI(_:PUnit):AA Bool:=some true
def tu(c:List A0)(g:Int->AA Bool)(e:Int):AA Bool:=br (decide (e<c.length)) (bd (at? c e) λa=>bd (Et a.Level 0 4) λy=>br (!y) (jn (UU c g e a) true) (bd (Et a.A4 1 1000000) λh=>br (!h) (jn (UU c g e a) true) (bd (Et a.Id 1 999) λj=>br (!j) (jn (UU c g e a) true) (bd (Et a.BK 1 6) λq=>jn (UU c g e a) (!q))))) (jn AJI ())
def AVc(a:List A0):AA Bool:=br (decide ((↑a.length:Int)>10)) (some false) (BE (tu a) big 0)
def AXA:=gZ vq DL DV ["iDAxGCLsaZnWzKJUe1wn7HeMXa0c4JFCsCGaBUTj5Z6sGoRQhRsnn9euaDmK4W1Z55YyJrI3dwDXvejD","IwpfjhTrE5oPyCfzydkhB3128sb2nTXjNyHdRUZlbQHCuTU2rE36SEQ10hqQZNteEEdYPIXFQN6xRzYa","UXYfnhGxqIsvU5UhfACVyHQaL6pU1"] [Hk,AQf,AQz] (Bm AVc)
def AJR(a:List Bc):AA (List Bc):=some a
def AJS(e:A2)(h:List Bc×Int->AA (List Bc))(j:List Bc×Int):AA (List Bc):=let (a,c):=j;br (decide (c<e.Au.length)) (bd (at? e.Au c) λg=>gd (g0 a+g0 g<=lim) (h (a++g,w64 (c+1)))) (jn AJR a)
def AOh(a:A2):AA (List Bc):=BE (AJS a) big ([],0)
def ARg:=gZ Za Zf DV ["4QRHuBzaM804EZ0MvBONzcOskADxGiaQPnhJYvtCB9vPl0LosOXnZDW75Iw7"] [] (Bm AOh)
def dC(a:Bool):AA Bool:=some a
def AOi(a c:Bc):AA Bool:=br (decide (a.At<c.At)) (jn dC true) (br (a.At==c.At) (jn dC (decide (a.Id<c.Id))) (jn dC false))
def ARh:=gZ [.v (.st 5),.v (.st 5)] DL Cv ["afJljOGmateIaGAO2OEScZIheTNIkJrYrTe5HjLNnZJVOkOrPw"] [] (BF AOi)
def AJT(a:Int->AA Bool)(c:Int)(_:PUnit):AA Bool:=a (w64 (c+1))
def tz(e:List Bc)(j:Int->AA Bool)(c:Int)(q:Int->AA Bool)(a:Int):AA Bool:=br (decide (a<c)) (bd (at? e a) λy=>bd (at? e a) λg=>bd (at? e c) λB=>bd (at? e c) λh=>br (g.Id==h.Id) (some false) (q (w64 (a+1)))) (jn (AJT j c) ())
def dF(g:List Bc)(a:Int->AA Bool)(c:Int)(e:Bool):AA Bool:=br e (some false) (BE (tz g a c) big 0)
def dH(a:Int->AA Bool)(c:Int)(e:Bool):AA Bool:=br e (some false) (a (w64 (c+1)))
def ACO(a:Int->AA Bool)(c:Int)(_:PUnit):AA Bool:=a (w64 (c+1))
def uB(g:A2)(h:Int->AA Bool)(c:Int)(e:Int->AA Bool)(a:Int):AA Bool:=bd (at? g.Au c) λj=>br (decide (a<(g0 j))) (bd (at? g.Au c) λq=>bd (at? q a) λy=>br (y.At.tmod 9 != c) (jn (dH e a) true) (br (decide (a>0)) (bd (at? g.Au c) λB=>bd (at? B (w64 (a-1))) λE=>bd (at? g.Au c) λG=>bd (at? G a) λH=>bd (AOi E H) λI=>jn (dH e a) (!I)) (jn (dH e a) false))) (jn (ACO h c) ())
def ACP(_:PUnit):AA Bool:=some true
def uA(e:A2)(c:Int->AA Bool)(a:Int):AA Bool:=br (decide (a<e.Au.length)) (BE (uB e c a) big 0) (jn ACP ())
def dG(a:A2)(_:PUnit):AA Bool:=BE (uA a) big 0
def tx(j:A2)(c:List Bc)(h:Int->AA Bool)(a:Int):AA Bool:=br (decide (a<(g0 c))) (bd (at? c a) λE=>bd (at? c a) λy=>bd (Et y.At 1 1000008) λB=>br (!B) (jn (dF c h a) true) (bd (at? c a) λq=>bd (at? c a) λe=>bd (Et e.Id 1 999) λg=>jn (dF c h a) (!g))) (jn (dG j) ())
def dE(a:A2)(e:List Bc)(c:Bool):AA Bool:=br c (some false) (BE (tx a e) big 0)
def ny(a:A2):AA Bool:=bd (AOh a) λc=>br ((↑a.Au.length:Int) != 9) (jn (dE a c) true) (jn (dE a c) (decide ((↑(g0 c):Int)>10)))
def rI:=gZ Za DL DV ["sRE5y29UQDfEiFlgPVZNSXcfoFWvdlu7Z6amNvuo5y5NsbLPit1bGiAZyysXIIMkDUJwtoN9FIoEVhTD","QXUmIN9T3uEb1avf905kmh0w251imgUsxFoGuc9m54n2yuwE4NQEngLPj3wED7Wy3kEn64RYLUJWx72a","2YQSAO3b02bYLHM15c69fLPZczNh8WjayscCSJNRrCy5LJ41ZQuRTKeJE6B1KF0YdXylNZ1iKzoX1xop","shgUr80ZpOvdXnbGbfF59hvwfxniNDrfKMLCDCsL9FAbm2aHC5pZOEJ9dZOBC6hOCzLjHannKTmfPxCe","yhyFIhmEIkNfiMZH6q8aIMyCKhLATAlM"] [ARg,Hk,ARh] (Bm ny)
def dI(a:Bool):AA Bool:=some a
def ALB(a:Ag):AA Bool:=bd (AEg a.AX) λc=>br c (bd (AVc a.Row) λe=>br e (bd (ny a.B5) λg=>jn dI g) (jn dI false)) (jn dI false)
def ARi:=gZ vr DL DV ["nEkK1Vgf385bkN14qawrBtyxSLOo6vBB2"] [AJt,AXA,rI] (Bm ALB)
def O0(a c:Int):AA Int:=br (decide (a>c)) (some a) (some c)
def kr:=gZ vt DO Cv ["1NddwYSDZAg0yixMT3IX4q"] [] (BF O0)
def AVd(a:AY)(c e:Int):AA Int:=gd (a.CI≠0) (bd (O0 0 (w64 (c-w64 (e.tdiv a.CI)))) λg=>some g)
def AXB:=gZ [.v (.st 1),.v .i,.v .i] DO TY ["9r2mVV8b9xaCmnM09X3c4i"] [kr] (GQ AVd)
def AVe(c:AY)(a:AU)(e:Int):AA Int:=bd (AEf c a e) λg=>br (!g) (some (-1)) (bd (AVd c a.DS (w64 (e-a.Since))) λh=>some h)
def AXC:=gZ bO DO TY ["1NhIzwE6X3lmecl5FySvkylxNYumYEKI3UE2ao1pQoPx"] [ACj,AXB] (GQ AVe)
def uC(a:AU)(e:Int)(c:Bool):AA (A0×Bool):=br c (some (A0.mk 0 0 0 0,false)) (some (A0.mk e a.A4 a.Id a.BK,true))
def ALC(e:AY)(a:AU)(g:Int):AA (A0×Bool):=bd (AVe e a g) λc=>br (decide (c<0)) (jn (uC a c) true) (jn (uC a c) (a.State != 1))
def ARj:=gZ bO (.ret [(.st 4),.b]) [.cell 6 (some 4),.tmp 7] ["2fyXLhs9uHNygrzDyqMbZOHkKOhcBB0jx9CUA5jMAzWGSMWj7Gnmprtshvi9LObVKHmUBfipjg1V"] [AXC] (GQ ALC)
def uD(a:List A0):AA (List A0):=gd (0+a.length<=lim) (some ([]++a))
def AJu:=gZ vq wF DV ["8dBL8LOCWjGKV63L"] [] (Bm uD)
def uE(c:List A0)(e:A0)(a:Int):AA (List A0):=gd (0<=a/\a<=c.length) (bd (uD (an a.toNat c)) λg=>gd (g0 g+[e].length<=lim) (bd (uD (an a.toNat c)) λh=>gd (g0 h+[e].length<=lim) (eqv (g++[e]) (h++[e]) (gd (0<=a/\a<=c.length) (gd ((g++[e]).length+(n6 a.toNat c).length<=lim) (some (g++[e]++n6 a.toNat c)))))))
def dJ(e:List A0)(g:A0)(c:Int->AA (List A0))(a:Int)(h:Bool):AA (List A0):=br h (c (w64 (a+1))) (jn (uE e g) a)
def uF(a:List A0)(e:A0)(g:Int->AA (List A0))(c:Int):AA (List A0):=br (decide (c<a.length)) (bd (at? a c) λh=>bd (AOQ h e) λj=>jn (dJ a e g c) j) (jn (dJ a e g c) false)
def AEh(a:List A0)(c:A0):AA (List A0):=BE (uF a c) big 0
def ARk:=gZ ARp wF Cv ["6iZNlGLTvNrBSuKyedTqvtCm6bnyuvDxNEKuQ6OeMdjWEpSMC2UqQlFG4po2J2IXXQqCcQvpwsdqTAgp","t5X3tBXvyTWA5zWmx1LpLvLU0aFgpSe6PoH8nROAXjS"] [AQf,AJu] (BF AEh)
def uH(c:List A0×Int->AA (List A0))(e:Int)(a:List A0):AA (List A0):=c (a,w64 (e-1))
def uG(a:List A0×Int->AA (List A0))(c:List A0)(e:Int)(h:A0×Bool)(g:Bool):AA (List A0):=br g (bd (AEh c h.fst) λj=>jn (uH a e) j) (jn (uH a e) c)
def AJU(a:List A0):AA (List A0):=some a
def AJV(h:AY)(j:List AU)(E q:Int)(g:List A0×Int->AA (List A0))(H:List A0×Int):AA (List A0):=let (e,a):=H;br (decide (a>=0)) (bd (at? j a) λy=>bd (ALC h y q) λc=>bd (ALC h y q) λB=>eqv c.snd B.snd (yn c.fst B.fst (br c.snd (bd (at? j a) λG=>jn (uG g e a c) (G.AZ==E)) (jn (uG g e a c) false)))) (jn AJU e)
def ALD(c:AY)(a:List AU)(e g:Int):AA (List A0):=BE (AJV c a e g) big ([],w64 ((↑a.length:Int)-1))
def AJv:=gZ [.v (.st 1),.v (.l (.st 2)),.v .i,.v .i] wF [.tmp 8] ["E1uiDl7rxBUFKQR73XNDtIFujEc9OUfq2wqVIhMf00xGMKTa23GDvdeeUyrRZsMVsfJ4jBXbmylFl1Vg","8IJ4UAK3C3M2RqLd5AzoQi9gRER2L0fm0ezpP8O1JCU7YzlnWaSWyVeFVGvqkBfrQ13ncSVH0E9OX1ae","I4cKb10uwpvKth2jDL5HI"] [ARj,ARk] (WE ALD)
def AJW(_:PUnit):AA Bool:=some true
def uI(g j:List A0)(h:Int->AA Bool)(a:Int):AA Bool:=br (decide (a<g.length)) (bd (at? g a) λc=>bd (at? j a) λe=>br (!(c.Level==e.Level&&(c.A4==e.A4&&(c.Id==e.Id&&(c.BK==e.BK&&true))))) (some false) (h (w64 (a+1)))) (jn AJW ())
def AOj(a c:List A0):AA Bool:=br ((↑a.length:Int) != c.length) (some false) (BE (uI a c) big 0)
def ARl:=gZ ARq DL Cv ["PLGOvDrJp6A1DprFatVY8r7W7qB22XfIfgkOS92zlT9dKiDxvWAeIWLHru6umYxYmk"] [] (BF AOj)
def uJ(c:List Bc)(e:Bc)(a:Int):AA (List Bc):=gd (0<=a/\a<=c.length) (gd (0+(an a.toNat c).length<=lim) (gd (([]++an a.toNat c).length+[e].length<=lim) (gd (0<=a/\a<=c.length) (gd (([]++an a.toNat c++[e]).length+(n6 a.toNat c).length<=lim) (some ([]++an a.toNat c++[e]++n6 a.toNat c))))))
def dK(e:List Bc)(g:Bc)(c:Int->AA (List Bc))(a:Int)(h:Bool):AA (List Bc):=br h (c (w64 (a+1))) (jn (uJ e g) a)
def uK(a:List Bc)(e:Bc)(g:Int->AA (List Bc))(c:Int):AA (List Bc):=br (decide (c<a.length)) (bd (at? a c) λh=>bd (AOi h e) λj=>jn (dK a e g c) j) (jn (dK a e g c) false)
def ALE(a:List Bc)(c:Bc):AA (List Bc):=BE (uK a c) big 0
def AJw:=gZ ARr Zf Cv ["N0erMvilNPcsLjHKm6JyrR4KztsvJkJqM0WiXMvBQwkChHXuWjSHVVOxzV95hXvcjgkjuiSmR4xgCJCb","OJYogAPU5oyN0"] [ARh] (BF ALE)
def AJX(a:List Bc):AA (List Bc):=some a
def uL(c:List Bc)(g:List Bc×Int->AA (List Bc))(q:List Bc×Int):AA (List Bc):=let (e,a):=q;br (decide (a<(g0 c))) (bd (at? c a) λy=>bd (at? c a) λh=>bd (ALE e h) λj=>g (j,w64 (a+1))) (jn AJX e)
def AEi(a:A2):AA (List Bc):=bd (ny a) λc=>br (!c) (some []) (bd (AOh a) λe=>BE (uL e) big ([],0))
def AJx:=gZ Za Zf DV ["9ei4IWaILxBcGaLHkcGk7TphJosvfYDBw1TbsXCrCIUQzTEesHSk6tD5MXhzAxSXY9dGkXxUKZRSXyp"] [rI,ARg,AJw] (Bm AEi)
def uN(c:List Bc×Int->AA (List Bc))(e:Int)(a:List Bc):AA (List Bc):=c (a,w64 (e+1))
def uM(e:List AU)(c:List Bc×Int->AA (List Bc))(g:List Bc)(a:Int)(h:Bool):AA (List Bc):=br h (bd (at? e a) λj=>bd (at? e a) λq=>bd (ALE g (Bc.mk j.DM q.Id)) λy=>jn (uN c a) y) (jn (uN c a) g)
def AJY(a:List Bc):AA (List Bc):=some a
def uO(a:List AU)(h:Int)(g:List Bc×Int->AA (List Bc))(y:List Bc×Int):AA (List Bc):=let (e,c):=y;br (decide (c<a.length)) (bd (at? a c) λj=>br (j.State==2) (bd (at? a c) λq=>jn (uM a g e c) (q.AZ==h)) (jn (uM a g e c) false)) (jn AJY e)
def AOk(a:List AU)(c:Int):AA (List Bc):=BE (uO a c) big ([],0)
def ARm:=gZ Po Zf Cv ["qLdfLaqAl0dJq7ay2j9VhRxm7xEy9rZ5qX8XYyfjs3OtDHNkZk2f28yL3BhtaoM2tLsWAqEyDEi2Y8Ks","KYXSXiQE8ANCHFMdWfjIoUgWaC9Tgr8rAHjn"] [AJw] (BF AOk)
def AJZ(_:PUnit):AA Bool:=some true
def uP(c j:List Bc)(h:Int->AA Bool)(a:Int):AA Bool:=br (decide (a<c.length)) (bd (at? c a) λe=>bd (at? j a) λg=>br (!(e.At==g.At&&(e.Id==g.Id&&true))) (some false) (h (w64 (a+1)))) (jn AJZ ())
def AOl(a c:List Bc):AA Bool:=br ((↑a.length:Int) != c.length) (some false) (BE (uP a c) big 0)
def ARn:=gZ ARs DL Cv ["1pNP6PXEeTN7fSaUddU1choMBjSGfOsd3wwAL1c2mvcsoWb0iwrfWwLJnGHGm4OOMl"] [] (BF AOl)
def tQ(c:Int×Int->AA Int)(e a:Int):AA Int:=c (a,w64 (e+1))
def cZ(g:List AU)(c:Int×Int->AA Int)(e a:Int)(h:Bool):AA Int:=br h (bd (at? g a) λj=>jn (tQ c a) (w64 (e+j.BK))) (jn (tQ c a) e)
def AHa(a:Int):AA Int:=some a
def tT(a:List AU)(h:Int)(g:Int×Int->AA Int)(E:Int×Int):AA Int:=let (e,c):=E;br (decide (c<a.length)) (bd (at? a c) λj=>br (j.State==2) (bd (at? a c) λq=>br (q.AZ==h) (bd (at? a c) λy=>bd (Et y.BK 1 6) λB=>jn (cZ a g e c) B) (jn (cZ a g e c) false)) (jn (cZ a g e c) false)) (jn AHa e)
def AN3(a:List AU)(c:Int):AA Int:=BE (tT a c) big (0,0)
def AO6:=gZ Po DO Cv ["fXKs2ohCOhsyPggBVWeYvBWWKIA3coNhEeX0fAGv6bQhigaL3L4pbkXQTg1m8qpoAGcffnyGUzUnt5Sx","049ScCtQzSxY1jpYaAOPnbTFYRobWaPz9ZIX7"] [Hk] (BF AN3)
def tV(a:Int×Int->AA Int)(c e:Int):AA Int:=a (e,w64 (c+1))
def tU(g:List AU)(c:Int×Int->AA Int)(e a:Int)(h:Bool):AA Int:=br h (bd (at? g a) λj=>jn (tV c a) (w64 (e+j.BK))) (jn (tV c a) e)
def AHb(a:Int):AA Int:=some a
def tW(a:List AU)(h:Int)(g:Int×Int->AA Int)(B:Int×Int):AA Int:=let (e,c):=B;br (decide (c<a.length)) (bd (at? a c) λj=>br (j.Bz==h) (bd (at? a c) λq=>bd (Et q.BK 1 6) λy=>jn (tU a g e c) y) (jn (tU a g e c) false)) (jn AHb e)
def AK4(a:List AU)(c:Int):AA Int:=BE (tW a c) big (0,0)
def AO7:=gZ Po DO Cv ["1Y8mrZWQATXjlGj1b1xdfVA1bBo92IVRW2566deFMGoBQ5WOcCEOjne4KL3mCx7fxEagTbkyRbMXXPBI","Wr1B4DrMhTua3zD"] [Hk] (BF AK4)
def UL(a:Bool):AA Bool:=some a
def AVZ(g:AY)(a:Ag)(c:List AU)(e h:Int):AA Bool:=bd (ALB a) λj=>br j (bd (ALD g c e h) λq=>bd (AOj a.Row q) λy=>br y (bd (AEi a.B5) λB=>bd (AOk c e) λE=>bd (AOl B E) λG=>br G (bd (AN3 c e) λH=>br (a.AX.FL==H) (bd (AK4 c e) λI=>jn UL (a.AX.GZ==I)) (jn UL false)) (jn UL false)) (jn UL false)) (jn UL false)
def AW6:=gZ ARt DL [.tmp 10] ["HEvtzWexJCNm0vuUAHxJmOeQE7slwwRxdijTQTYcQF8Km1WZoi5qzdCVbgZRkhEzWPkLcwJi5rJ8hJtS","S1Lr9avXoOTHlB33QBlTB4bV8fXjpwL44AQaCPNu9P0FEAJGuFJ8gfSNGC7O2tN"] [ARi,AJv,ARl,AJx,ARm,ARn,AO6,AO7] (AUw AVZ)
def tX(a:Int×Int->AA Int)(c e:Int):AA Int:=a (e,w64 (c+1))
def AHc(a:Int):AA Int:=some a
def tY(g:List AU)(h:Int)(e:Int×Int->AA Int)(q:Int×Int):AA Int:=let (c,a):=q;br (decide (a<g.length)) (bd (at? g a) λj=>br (j.AZ==h) (jn (tX e a) (w64 (c+1))) (jn (tX e a) c)) (jn AHc c)
def AK5(a:List AU)(c:Int):AA Int:=BE (tY a c) big (0,0)
def AJq:=gZ Po DO Cv ["1q3bU2x6M3dJcjI471OqtmXmoxbzHtepW4WjEurL69VRvNYEXEq1jQFUKF"] [] (BF AK5)
def Wa(a:Int->AA Bool)(c:Int)(e:Bool):AA Bool:=br e (some false) (a (w64 (c+1)))
def AHd(_:PUnit):AA Bool:=some true
def tZ(a:AE)(e:Int->AA Bool)(c:Int):AA Bool:=br (decide (c<a.AH.length)) (bd (at? a.AH c) λq=>bd (at? a.AQ.AX c) λy=>br (q.AX.Total != y) (jn (Wa e c) true) (bd (at? a.AH c) λg=>bd (AVZ a.AQ g a.AG c a.Now) λh=>br (!h) (jn (Wa e c) true) (bd (AK5 a.AG c) λj=>jn (Wa e c) (decide (j>a.AQ.Room))))) (jn AHd ())
def cg(a:AE)(c:Bool):AA Bool:=br c (some false) (BE (tZ a) big 0)
def PD(a:AE)(e:Bool):AA Bool:=br e (some false) (bd (AVa a) λg=>br (!g) (jn (cg a) true) (bd (AVb a) λc=>jn (cg a) (!c)))
def eM(a:AE):AA Bool:=bd (tj a.AQ) λg=>br (!g) (jn (PD a) true) (bd (Et a.Now 0 1000000) λc=>br (!c) (jn (PD a) true) (bd (Et a.A4 1 1000001) λe=>br (!e) (jn (PD a) true) (br (decide ((↑a.AG.length:Int)>40)) (jn (PD a) true) (jn (PD a) ((↑a.AH.length:Int) != a.AQ.AX.length)))))
def bM:=gZ Xo DL DV ["4FWUIjsBIE7XeWEdCONTXC6xxqmxOjoOuuKSeCR75OcdKhLmhYm7MKvcIXx6fkSO8sD4mI64EHCF29yH","AuJOMOQbHLBEzRtQTkQIaVUY5MpS5LMZPxGjU0IhGplPWeX8bYbMQpvyELk7frIg6nNG7aVEIQQJXoJ8","GE1Ymu5V7AbFl9yGiOtoWdGZFX8UF3Wd6b5CVCxrRmvZ4xh0iusO5tH2kjpEZzxkm0S6p4n6HiYs9o6h","cIxDGkmUzf97F1rYbf9aYNdA17wLcGVaZ6VB"] [kb,Hk,AW8,AW9,AW6,AJq] (Bm eM)
def ta(a:Bool):AA Bool:=some a
def cJ(a:B4):AA Bool:=br (decide ((↑a.Data.length:Int)<=20000)) (bd (Et a.Safe 0 (↑a.Data.length:Int)) λc=>jn ta c) (jn ta false)
def bN:=gZ ku DL DV ["eZWVAT3l1BilAzYH35wh3l6ysWlRcVth5QX5"] [Hk] (Bm cJ)
def ch(a:Bool):AA Bool:=some a
def AK6(a:Bo):AA Bool:=bd (cJ a.Log) λc=>br c (bd (cJ a.Eo) λe=>br e (bd (cJ a.Odd) λg=>jn ch g) (jn ch false)) (jn ch false)
def AJr:=gZ Pp DL DV ["IgdtQkfax5tb0UM1D80xgPLTrCbBNTQfJ"] [bN] (Bm AK6)
def cK(a:Int):AA Bool:=bd (Et a 0 9999) λc=>some c
def AW7:=gZ Pq DL DV ["6Hw4W43B2njF7B"] [Hk] (Bm cK)
def I3(a:Bool):AA Bool:=some a
def UM(a:Bp)(e:Bool):AA Bool:=br e (bd (cK a.Id) λg=>br g (jn I3 (a.Kind==a.Kind&&(a.Id==a.Id&&(a.AZ==0&&(a.Bz==0&&(a.BK==0&&(a.DS==0&&true))))))) (jn I3 false)) (br (a.Kind==3) (bd (cK a.AZ) λh=>br h (bd (cK a.BK) λc=>br c (jn I3 (a.Kind==a.Kind&&(a.Id==0&&(a.AZ==a.AZ&&(a.Bz==0&&(a.BK==a.BK&&(a.DS==0&&true))))))) (jn I3 false)) (jn I3 false)) (br (a.Kind==6) (some (a.Kind==a.Kind&&(a.Id==0&&(a.AZ==0&&(a.Bz==0&&(a.BK==0&&(a.DS==0&&true))))))) (some false)))
def te(a:Bp):AA Bool:=br (a.Kind==1) (bd (cK a.Id) λc=>br c (bd (cK a.AZ) λe=>br e (bd (Et a.Bz (-1) 9999) λg=>br g (bd (cK a.BK) λh=>br h (bd (cK a.DS) λj=>jn I3 j) (jn I3 false)) (jn I3 false)) (jn I3 false)) (jn I3 false)) (br (a.Kind==2) (jn (UM a) (a.Kind==2)) (br (a.Kind==4) (jn (UM a) (a.Kind==4)) (br (a.Kind==5) (jn (UM a) (a.Kind==5)) (jn (UM a) (a.Kind==7)))))
def ACi:=gZ [.v (.st 0)] DL DV ["BQpIgujhjaAMj0VrNgDIbnKTnoPXXBwi6g0j1Udm70kpbjo17wXDF6HU43kwzTIQTafx2Z9qXphzqsbk","lS86MUASSbKLIk47uYHLRpQA06LdvvbAh12NM2k9ZDrUyjYHYBMX7zZLIWmtDUYvA7bRiC3OXnwHML6d","AdLme7NM9aUO8F04kfixxxycPF25H7pdqVxwuneWUojeOr9Wf3v1tGyYtJvAgPCnpVVQMW7iiyhWufC8","e1OcDELYLTRGAepp3CaQHcHruZ"] [AW7,Hk] (Bm te)
def AHe(_:PUnit):AA Bool:=some true
def th(c:A6)(e:Int->AA Bool)(a:Int):AA Bool:=br (decide (a<c.Laid.length)) (bd (at? c.Laid a) λg=>bd (te g) λh=>br (!h) (some false) (e (w64 (a+1)))) (jn AHe ())
def UN(a:A6)(c:Bool):AA Bool:=br c (some false) (BE (th a) big 0)
def tf(a:A6):AA Bool:=bd (eM a.Av) λc=>br (!c) (jn (UN a) true) (bd (AK6 a.An) λe=>br (!e) (jn (UN a) true) (br (decide ((↑a.Laid.length:Int)>8)) (jn (UN a) true) (bd (Et a.Seq (↑a.Laid.length:Int) 1000000) λg=>jn (UN a) (!g))))
def ka:=gZ TV DL DV ["E6K53Rsu1e9MzrQWX3nJJtpdgdXcsaL17MdN0iEw1BaKhH3M1BAj2rqW0rp0vCZIizhDK8ihu5syZ7S7","2KweHTtD6Yet5uRHwAbUAyJgV7l0HYq"] [bM,AJr,Hk,ACi] (Bm tf)
def We(a:Bool):AA Bool:=some a
def DP(a c e:Int):AA Bool:=br (decide (a>=c)) (jn We (decide (a<=e))) (jn We false)
def Fa:=gZ ARo DL TY ["1G2DaGIiqxlAK3sVkpdEHqQuc"] [] (GQ DP)
def Kz(a:Bool):AA Bool:=some a
def zl(a:AY)(_:PUnit):AA Bool:=bd (DP a.CZ 1 5) λj=>br j (bd (DP a.Room 1 10) λq=>br q (bd (DP a.BK 1 6) λy=>br y (bd (DP a.CI 1 12) λB=>br B (bd (DP a.B6 1 8) λc=>br c (bd (DP a.Cg 1 4) λe=>br e (bd (DP a.C4 1 3) λg=>br g (bd (DP a.Rest 0 8) λh=>jn Kz h) (jn Kz false)) (jn Kz false)) (jn Kz false)) (jn Kz false)) (jn Kz false)) (jn Kz false)) (jn Kz false)
def eT(a:AY)(e:Int->AA Bool)(c:Int):AA Bool:=br (decide (c<a.AX.length)) (bd (at? a.AX c) λg=>bd (DP g 1 60) λh=>br (!h) (some false) (e (w64 (c+1)))) (jn (zl a) ())
def Wf(a:AY):AA Bool:=bd (DP (↑a.AX.length:Int) 1 4) λc=>br (!c) (some false) (BE (eT a) big 0)
def Vi:=gZ TW DL DV ["14mWcOfhj3GKGuDMpDRmhlYOAKJPNNKbNhBJqvfhMdquF4MpPjkKwPH3pgZKGnVfbkd8JG9Wb9vUndNz","k5i3egcWCKBDj2yvisEilpWvC4Sq67PJWmSgGuuGDYKLAXT2Qnc4wKYJR54CZVFUeeuuLfQYTamC5PFm","QZYMwbCDa4ux"] [Fa] (Bm Wf)
def NL(a c:Int):AA Bool:=bd (DP a 0 (w64 (c-1))) λe=>some e
def RZ:=gZ vt DL Cv ["Wv6DB3dcTds4XAE"] [Fa] (BF NL)
def QH(a:Bool):AA Bool:=some a
def OJ(c:AY)(a:AU)(e:Int)(g:Bool):AA Bool:=br g (some false) (br (a.State==1) (bd (DP a.DM 0 (w64 (e+c.Rest))) λh=>br h (jn QH true) (br (a.State==2) (bd (DP a.DM 1 (w64 (e+c.B6))) λj=>jn QH j) (jn QH false))) (br (a.State==2) (bd (DP a.DM 1 (w64 (e+c.B6))) λq=>jn QH q) (jn QH false)))
def Mb(c:AY)(a:AU)(e:Int)(q:Bool):AA Bool:=br q (some false) (bd (DP a.BK 1 c.BK) λy=>br (!y) (jn (OJ c a e) true) (bd (NL a.DS c.CZ) λB=>br (!B) (jn (OJ c a e) true) (bd (DP a.Since 0 e) λg=>br (!g) (jn (OJ c a e) true) (bd (DP a.A4 1 1000000) λh=>br (!h) (jn (OJ c a e) true) (bd (NL a.Dm c.Cg) λj=>jn (OJ c a e) (!j))))))
def eU(c:AY)(a:AU)(e:Int):AA Bool:=bd (Wf c) λy=>br (!y) (jn (Mb c a e) true) (bd (DP e 0 1000000) λg=>br (!g) (jn (Mb c a e) true) (bd (DP a.Id 1 999) λh=>br (!h) (jn (Mb c a e) true) (bd (NL a.AZ (↑c.AX.length:Int)) λj=>br (!j) (jn (Mb c a e) true) (bd (DP a.Bz (-1) (w64 ((↑c.AX.length:Int)-1))) λq=>br (!q) (jn (Mb c a e) true) (jn (Mb c a e) (a.Bz==a.AZ))))))
def kf:=gZ bO DL TY ["1Xl5nGcfK3BamudsbiU26XzHDwGne91MSkPMIz6nfxiR17zMeQnQepPkADRhuTBKPK7ltHpohsmG6zSH","0ZZe5hBo7w4johEXT91BBpsBFZxumC9ApETEEG7VJ3ExxPbJn9uNIN7Bf0ifaFDcr8kc24pL6sF51C6h","jcGTGoSNi75K0uJjEdOGOaQSspnBo314JgFEOTqUmppGWjW463aGpUFIdgCEmoc8WyGPrcoFzXumFfqe","5uNkBmVmQPolyP2CXx9MQO2fOLJq0O06K"] [Vi,Fa,RZ] (GQ eU)
def eV(a:Int×Int->AA Int)(c e:Int):AA Int:=a (e,w64 (c+1))
def zm(a:Int):AA Int:=some a
def eW(g:List AU)(h:Int)(e:Int×Int->AA Int)(q:Int×Int):AA Int:=let (c,a):=q;br (decide (a<g.length)) (bd (at? g a) λj=>br (j.AZ==h) (jn (eV e a) (w64 (c+1))) (jn (eV e a) c)) (jn zm c)
def oz(a:List AU)(c:Int):AA Int:=BE (eW a c) big (0,0)
def uh:=gZ Po DO Cv ["68HzPkSfwpXSt1WhGRwmbrYWq4MVVQsoKX12wYpmyEJ11HwnCsFT2uHVpcmCegGmjbfv"] [] (BF oz)
def OK(a:Bool):AA Bool:=some a
def Mc(a:BN):AA Bool:=bd (DP a.Total 1 60) λc=>br c (bd (DP a.D1 0 a.Total) λe=>br e (bd (DP a.FL 0 a.Total) λg=>br g (bd (DP a.GA 0 a.Total) λh=>br h (br (w64 (w64 (a.D1+a.FL)+a.GA)==a.Total) (bd (DP a.GZ 0 a.GA) λj=>jn OK j) (jn OK false)) (jn OK false)) (jn OK false)) (jn OK false)) (jn OK false)
def Ra:=gZ [.v (.st 3)] DL DV ["RpKRZNSiedeHZOgNcsokF9JMipCT7bqUfM0ZQ7ZO3SSeNRFyDbNYir2sTbq2i2BXc4le3iO92Ki4gQX8","JDwQ9okMBcot5j77rGZySViNFXaWxlC"] [Fa] (Bm Mc)
def AHi(a:Int):AA Bool:=some (a != a)
def APD:=gZ Pq DL DV ["2iG7lyGo4Z5b"] [] (Bm AHi)
def eX(a c:Int):AA Int:=bd (AHi a) λg=>bd (AHi c) λe=>br g (br e (some 0) (some (-1))) (br e (some 1) (br (decide (a<c)) (some (-1)) (br (decide (a>c)) (some 1) (some 0))))
def AEp:=gZ vt DO Cv ["908iK8GYJWDoMRUc8fsNfC3fxeWJBZD8kjz6rSTrqHhvUDc9U9nvyW6HMdqu7Rmqr"] [APD] (BF eX)
def U2(a c:A0):AA Int:=bd (eX a.Level c.Level) λe=>br (e != 0) (some e) (bd (eX a.A4 c.A4) λg=>some g)
def J4:=gZ ARx DO Cv ["2RHUNjlSy89jHXsvrIlpEbucVdz5HLzBBxKj5j"] [AEp] (BF U2)
def zn(a c:A0):AA Bool:=bd (U2 a c) λe=>some (decide (e<0))
def AEq:=gZ ARx DL Cv ["dhPg0o7z0hEbNPi2w8a"] [J4] (BF zn)
def AN6(a:A0)(c:Int):AA Bool:=some (a.Id==c)
def ui:=gZ [.v (.st 4),.p .i] DL [.tmp 3] ["cQMbUtKBoJHC4t0"] [] (BF AN6)
def AZy:YF:=⟨[ui],[.v (.l (.st 4)),.f ui.x [(true,.i)]],[0],.ret [.i],[.tmp 4],dY ["1vt7Y0EnRyP6A6QLN2zuLW1Qzwu0XWN8W768VBekm4VlCoQ5FKTGa1QeUJCGZZxHqJ"] [] [.ED 16 (.tmp 11) [.v,.p] [.tmp 15]]⟩
def zp(_:PUnit):AA Int:=some (-1)
def zq(e:List A0)(a:Int)(g:Int->AA Int)(c:Int):AA Int:=br (decide (c<e.length)) (bd (at? e c) λh=>bd (AN6 h a) λj=>br j (some c) (g (w64 (c+1)))) (jn zp ())
def AN7(c:List A0)(a:Int):AA Int:=BE (zq c a) big 0
def APE:GF:=AZy.gf rfl rfl (λa=>AN7 a.1 a.2.1.1) (λa=>by kernel_rfl)
def AZz:YF:=⟨[ui],[.v (.l (.st 4)),.v .i],[],.ret [.i],[.tmp 4],dY ["2fOdpfgu4sxo5Q"] [] [.Ng 6 0 [.tmp 3],.call 7 APE [0] rfl [.tmp 5,.tmp 6]]⟩
def o6(a:List A0)(c:Int):AA Int:=bd (AN7 a c) λe=>some e
def AEr:GF:=AZz.EW (BF o6)
def QI(a:Int->AA Bool)(c:Int)(e:Bool):AA Bool:=br e (some false) (a (w64 (c+1)))
def Sq(a:Int->AA Bool)(c:Int)(e:A0)(j:Bool):AA Bool:=br j (some false) (bd (NL e.Level 5) λq=>br (!q) (jn (QI a c) true) (bd (DP e.A4 1 1000000) λy=>br (!y) (jn (QI a c) true) (bd (DP e.Id 1 999) λg=>br (!g) (jn (QI a c) true) (bd (DP e.BK 1 6) λh=>jn (QI a c) (!h)))))
def zr(_:PUnit):AA Bool:=some true
def eY(c:List A0)(g:Int->AA Bool)(a:Int):AA Bool:=br (decide (a<c.length)) (bd (at? c a) λe=>br (decide (a>0)) (bd (at? c (w64 (a-1))) λq=>bd (zn q e) λy=>br (!y) (jn (Sq g a e) true) (gd (0<=a/\a<=c.length) (bd (o6 (an a.toNat c) e.Id) λh=>jn (Sq g a e) (decide (h>=0))))) (gd (0<=a/\a<=c.length) (bd (o6 (an a.toNat c) e.Id) λj=>jn (Sq g a e) (decide (j>=0))))) (jn zr ())
def o7(a:List A0):AA Bool:=br (decide ((↑a.length:Int)>10)) (some false) (BE (eY a) big 0)
def AEs:=gZ vq DL DV ["dtb1PPUyVLOlI7OCHbY3oEyFoPo9VIeAqinXvPY6fE01ZPvbhgCxEkcWw5YIytRojYjWxYplwvs42hXh","XNRmZzpvEwpWXILxfqCI7SacJSYF9LOB69dQNpQEq0man1aQmqW5ydwYOkTyUWxvJP6Dwnh5VZgzueTZ","7tQRpl3BmT9FTY1xuC6lkWdwrBQyKFPne5Vg"] [AEq,AEr,RZ,Fa] (Bm o7)
def eZ(a:Bool):AA Bool:=some a
def o8(a:Bc):AA Bool:=bd (DP a.At 1 1000008) λc=>br c (bd (DP a.Id 1 999) λe=>jn eZ e) (jn eZ false)
def uj:=gZ [.v (.st 5)] DL DV ["AA6ZsEKXk9uQSlPZXB5qKXGS4tmaR"] [Fa] (Bm o8)
def Sr(a c:Bc):AA Int:=bd (eX a.At c.At) λe=>br (e != 0) (some e) (bd (eX a.Id c.Id) λg=>some g)
def HK:=gZ [.v (.st 5),.v (.st 5)] DO Cv ["2RHUNjlSy89jHXsvrIlpEbucVdz5HLzBBxKj5j"] [AEp] (BF Sr)
def Ss(g:((List (Int×Int))×Int×Int)->AA Bool)(e:List (Int×Int))(h j:Int)(a:Bc)(c:Bool):AA Bool:=br c (some false) (g (KA e a.Id (w64 (NA e a.Id+1)),w64 (h+1),w64 (j+1)))
def zt(e:((List (Int×Int))×Int×Int)->AA Bool)(g:Int)(h:((List (Int×Int))×Int)):AA Bool:=let (a,c):=h;e (a,c,w64 (g+1))
def fB(G:((List (Int×Int))×Int×Int)->AA Bool)(E:Int)(B:List Bc)(h:((List (Int×Int))×Int×Int)->AA Bool)(H:((List (Int×Int))×Int×Int)):AA Bool:=let (e,g,c):=H;br (decide (c<(g0 B))) (bd (at? B c) λa=>bd (o8 a) λj=>br (!j) (jn (Ss h e g c a) true) (br (a.At.tmod 9 != E) (jn (Ss h e g c a) true) (br (decide (c>0)) (bd (at? B (w64 (c-1))) λq=>bd (Sr q a) λy=>jn (Ss h e g c a) (decide (y>0))) (jn (Ss h e g c a) false)))) (jn (zt G E) (e,g))
def eu(a:Bool):AA Bool:=some a
def Wg(e:((List (Int×Int))×Int)):AA Bool:=let (c,a):=e;br (decide (a<=10)) (jn eu ((↑(g0 c):Int)==a)) (jn eu false)
def fA(c:A2)(h:((List (Int×Int))×Int×Int)->AA Bool)(q:((List (Int×Int))×Int×Int)):AA Bool:=let (e,g,a):=q;br (decide (a<c.Au.length)) (bd (at? c.Au a) λj=>BE (fB h a j) big (e,g,0)) (jn Wg (e,g))
def SQ(a:A2):AA Bool:=br ((↑a.Au.length:Int) != 9) (some false) (BE (fA a) big ([],0,0))
def ZU:=gZ Za DL DV ["Yv4hdQwSia76mJVxptu9hIJ3ISm1YaZpDNDgukAveAYusKJPRkscG0ZRkiPyRr3V9GnZJMEsx8Qwvx7K","xSAzUorTJ9xTd2a7ibLEWIdiZIHFEAplrnvTwOPy3zFZozV4YtlZgRjIk5DzG5o7hKDwoDnorR4oc4fe","vTyKpgzV7yMWIcfdn5fuqvarK42gtQlw7IKpA8dJH6IPUtna81uyNKdsyHOd4fwzWQjEoAUaiaPohbtf","ayLaqnKOBMTEu9d7625eojU1KEznn"] [uj,HK] (Bm SQ) [.mmk 13,.Uv 56 (.tmp 53) (.tmp 55),.Tl (.tmp 53) (.tmp 55) (.tmp 57),.Uw 66 (.tmp 65)]
def Wh(a:Bool):AA Bool:=some a
def o9(a:Ag):AA Bool:=bd (Mc a.AX) λc=>br c (bd (o7 a.Row) λe=>br e (bd (SQ a.B5) λg=>jn Wh g) (jn Wh false)) (jn Wh false)
def AEt:=gZ vr DL DV ["nEkK1Vgf385bkN14qawrBtyxSLOo6vBB2"] [Ra,AEs,ZU] (Bm o9)
def Wi(a:AY)(c e:Int)(g:Bool):AA Int:=br g (some (-1)) (gd (a.CI≠0) (some (if true=true then if w64 (c-w64 (e.tdiv a.CI))>0 then w64 (c-w64 (e.tdiv a.CI)) else 0 else if w64 (c-w64 (e.tdiv a.CI))<0 then w64 (c-w64 (e.tdiv a.CI)) else 0)))
def AN8(a:AY)(c e:Int):AA Int:=bd (Wf a) λg=>br (!g) (jn (Wi a c e) true) (bd (NL c a.CZ) λh=>br (!h) (jn (Wi a c e) true) (jn (Wi a c e) (decide (e<0))))
def APF:=gZ [.v (.st 1),.v .i,.v .i] DO TY ["uCUtyH6zjlVyoy3qnStw1Nf3eI2rPBTtK7rLGMsYXOAb77TpNKLtacYJA"] [Vi,RZ] (GQ AN8) [.mm 27 true (.k (.int .i64 0)) (.tmp 26)]
def AHj(c:AY)(a:AU)(e:Int):AA Int:=bd (eU c a e) λg=>br (!g) (some (-1)) (bd (AN8 c a.DS (w64 (e-a.Since))) λh=>some h)
def APG:=gZ bO DO TY ["1NhIzwE6X3lmecl5FySvkylxNYumYEKI3UE2ao1pQoPx"] [kf,APF] (GQ AHj)
def fC(c:AY)(a:AU)(e:Int)(g:Bool):AA (A0×Bool):=br g (some (A0.mk 0 0 0 0,false)) (bd (AHj c a e) λh=>some (A0.mk h a.A4 a.Id a.BK,true))
def pA(c:AY)(a:AU)(e:Int):AA (A0×Bool):=bd (eU c a e) λg=>br (!g) (jn (fC c a e) true) (jn (fC c a e) (a.State != 1))
def uk:=gZ bO (.ret [(.st 4),.b]) [.cell 6 (some 4),.tmp 7] ["J9ZFwC54xijGvRJL0I309MFeekgsQNWHumdIlMzVnjde5guxGSVzSbu8igWGXy4pJmC9PcbF5wvZd2Nt","8tacixteS0O9"] [kf,APG] (GQ pA)
def EU{α:Type}(cmp:α->α->AA Int)(c:((List α)×Int)->AA (List α))(e:Int)(a:List α):AA (List α):=c ((a,w64 (e+1)))
def Dp{α:Type}(cmp:α->α->AA Int)(j:((List α)×Int)->AA (List α))(y:Int)(q:((List α)×Int)->AA (List α))(c:List α)(a:Int)(g:Bool):AA (List α):=br g (bd (at? c (w64 (a-1))) λB=>bd (at? c (w64 (a-1))) λe=>bd (at? c a) λE=>bd (at? c a) λh=>bd (at? c a) λG=>bd (at? c a) λH=>bd (at? (r9 c a.toNat e) (w64 (a-1))) λI=>bd (at? (r9 c a.toNat e) (w64 (a-1))) λJ=>q (((r9 c a.toNat e).set (w64 (a-1)).toNat h,w64 (a-1)))) (jn (EU cmp j y) c)
def Dr{α:Type}(cmp:α->α->AA Int)(y:Int)(h:((List α)×Int)->AA (List α))(q:Int)(j:((List α)×Int)->AA (List α))(E:((List α)×Int)):AA (List α):=match E with |(c,a)=>br (decide (a>y)) (bd (at? c a) λG=>bd (at? c a) λB=>bd (at? c (w64 (a-1))) λH=>bd (at? c (w64 (a-1))) λe=>bd (cmp B e) λg=>jn (Dp cmp h q j c a) (decide (g<0))) (jn (Dp cmp h q j c a) false)
def Dq{α:Type}(cmp:α->α->AA Int)(g:Int)(h:Int)(e:((List α)×Int)->AA (List α))(j:((List α)×Int)):AA (List α):=match j with |(c,a)=>br (decide (a<h)) (BE (Dr cmp g e a) big (c,a)) (some c)
def DT{α:Type}(cmp:α->α->AA Int)(c:List α)(a:Int)(e:Int):AA (List α):=BE (Dq cmp a e) big ((c,w64 (a+1)))
def K3{α:Type}(cmp:α->α->AA Int)(e:Int)(g:Int)(q:Int)(j:((List α)×Int)->AA (List α))(G:((List α)×Int)):AA (List α):=match G with |(c,a)=>br (decide (a<q)) (bd (at? c (w64 (g+a))) λH=>bd (at? c (w64 (g+a))) λh=>bd (at? c (w64 (e+a))) λI=>bd (at? c (w64 (e+a))) λE=>bd (at? c (w64 (e+a))) λJ=>bd (at? c (w64 (e+a))) λL=>bd (at? (r9 c (w64 (e+a)).toNat h) (w64 (g+a))) λy=>bd (at? (r9 c (w64 (e+a)).toNat h) (w64 (g+a))) λB=>j (((r9 c (w64 (e+a)).toNat h).set (w64 (g+a)).toNat E,w64 (a+1)))) (some c)
def Eh{α:Type}(cmp:α->α->AA Int)(a:List α)(c:Int)(e:Int)(g:Int):AA (List α):=BE (K3 cmp c e g) big (a,0)
def NN{α:Type}(cmp:α->α->AA Int)(a:Int)(h:((List α)×Int)):AA (List α):=match h with |(e,c)=>bd (Eh cmp e (w64 (a-c)) a c) λg=>some g
def NO{α:Type}(cmp:α->α->AA Int)(e:Int)(h:((List α)×Int×Int)->AA (List α))(y:((List α)×Int×Int)):AA (List α):=match y with |(g,a,c)=>br (a != c) (br (decide (a>c)) (bd (Eh cmp g (w64 (e-a)) e c) λj=>h ((j,w64 (a-c),c))) (bd (Eh cmp g (w64 (e-a)) (w64 (w64 (e+c)-a)) a) λq=>h ((q,a,w64 (c-a))))) (jn (NN cmp e) (g,a))
def IB{α:Type}(cmp:α->α->AA Int)(c:List α)(e:Int)(a:Int)(g:Int):AA (List α):=BE (NO cmp a) big ((c,w64 (a-e),w64 (g-a)))
def HB{α:Type}(cmp:α->α->AA Int)(a:List α):AA (List α):=some a
def LY{α:Type}(cmp:α->α->AA Int)(j:Int)(g:((List α)×Int)->AA (List α))(I:((List α)×Int)):AA (List α):=match I with |(c,a)=>br (decide (a<w64 (j-1))) (bd (at? c (w64 (a+1))) λq=>bd (at? c (w64 (a+1))) λe=>bd (at? c a) λy=>bd (at? c a) λh=>bd (at? c a) λB=>bd (at? c a) λE=>bd (at? (r9 c a.toNat e) (w64 (a+1))) λG=>bd (at? (r9 c a.toNat e) (w64 (a+1))) λH=>g (((r9 c a.toNat e).set (w64 (a+1)).toNat h,w64 (a+1)))) (jn (HB cmp) c)
def LS{α:Type}(cmp:α->α->AA Int)(a:List α)(c:Int)(e:Int):AA (List α):=BE (LY cmp e) big (a,c)
def LX{α:Type}(cmp:α->α->AA Int)(e:List α)(g:Int)(h:(Int×Int)->AA (List α))(B:(Int×Int)):AA (List α):=match B with |(a,c)=>br (decide (a<c)) (bd (at? e (w64 (EB (Go.IntKind.u64.wrap (w64 (a+c))) 1))) λE=>bd (at? e (w64 (EB (Go.IntKind.u64.wrap (w64 (a+c))) 1))) λj=>bd (at? e g) λG=>bd (at? e g) λq=>bd (cmp j q) λy=>br (decide (y<0)) (h ((w64 (w64 (EB (Go.IntKind.u64.wrap (w64 (a+c))) 1)+1),c))) (h ((a,w64 (EB (Go.IntKind.u64.wrap (w64 (a+c))) 1))))) (jn (LS cmp e g) a)
def La{α:Type}(cmp:α->α->AA Int)(h:Int)(g:((List α)×Int)->AA (List α))(I:((List α)×Int)):AA (List α):=match I with |(c,a)=>br (decide (a>h)) (bd (at? c (w64 (a-1))) λq=>bd (at? c (w64 (a-1))) λe=>bd (at? c a) λy=>bd (at? c a) λj=>bd (at? c a) λB=>bd (at? c a) λE=>bd (at? (r9 c a.toNat e) (w64 (a-1))) λG=>bd (at? (r9 c a.toNat e) (w64 (a-1))) λH=>g (((r9 c a.toNat e).set (w64 (a-1)).toNat j,w64 (a-1)))) (jn (HB cmp) c)
def LV{α:Type}(cmp:α->α->AA Int)(c:List α)(e:Int)(a:Int):AA (List α):=BE (La cmp a) big (c,e)
def LZ{α:Type}(cmp:α->α->AA Int)(g:List α)(h:Int)(e:(Int×Int)->AA (List α))(G:(Int×Int)):AA (List α):=match G with |(a,c)=>br (decide (a<c)) (bd (at? g h) λB=>bd (at? g h) λj=>bd (at? g (w64 (EB (Go.IntKind.u64.wrap (w64 (a+c))) 1))) λE=>bd (at? g (w64 (EB (Go.IntKind.u64.wrap (w64 (a+c))) 1))) λq=>bd (cmp j q) λy=>br (!decide (y<0)) (e ((w64 (w64 (EB (Go.IntKind.u64.wrap (w64 (a+c))) 1)+1),c))) (e ((a,w64 (EB (Go.IntKind.u64.wrap (w64 (a+c))) 1))))) (jn (LV cmp g h) a)
def IW{α:Type}(cmp:α->α->AA Int)(rE:List α->Int->Int->Int->AA (List α))(j:Int)(q:Int)(c:Int)(e:Int)(a:List α)(g:Bool):AA (List α):=br g (bd (rE a (w64 (EB (Go.IntKind.u64.wrap (w64 (j+c))) 1)) (w64 (w64 (w64 (EB (Go.IntKind.u64.wrap (w64 (j+c))) 1)+q)-e)) c) λh=>some h) (some a)
def Gj{α:Type}(cmp:α->α->AA Int)(rE:List α->Int->Int->Int->AA (List α))(e:Int)(h:Int)(c:Int)(a:Int)(g:List α):AA (List α):=br (decide (w64 (EB (Go.IntKind.u64.wrap (w64 (e+c))) 1)<w64 (w64 (w64 (EB (Go.IntKind.u64.wrap (w64 (e+c))) 1)+h)-a))) (jn (IW cmp rE e h c a g) (decide (w64 (w64 (w64 (EB (Go.IntKind.u64.wrap (w64 (e+c))) 1)+h)-a)<c))) (jn (IW cmp rE e h c a g) false)
def IV{α:Type}(cmp:α->α->AA Int)(rE:List α->Int->Int->Int->AA (List α))(e:Int)(q:Int)(g:Int)(a:Int)(c:List α)(h:Bool):AA (List α):=br h (bd (rE c e a (w64 (EB (Go.IntKind.u64.wrap (w64 (e+g))) 1))) λj=>jn (Gj cmp rE e q g a) j) (jn (Gj cmp rE e q g a) c)
def Gi{α:Type}(cmp:α->α->AA Int)(rE:List α->Int->Int->Int->AA (List α))(e:Int)(h:Int)(g:Int)(a:Int)(c:List α):AA (List α):=br (decide (e<a)) (jn (IV cmp rE e h g a c) (decide (a<w64 (EB (Go.IntKind.u64.wrap (w64 (e+g))) 1)))) (jn (IV cmp rE e h g a c) false)
def IU{α:Type}(cmp:α->α->AA Int)(rE:List α->Int->Int->Int->AA (List α))(q:List α)(e:Int)(c:Int)(g:Int)(a:Int)(h:Bool):AA (List α):=br h (bd (IB cmp q a c (w64 (w64 (w64 (EB (Go.IntKind.u64.wrap (w64 (e+g))) 1)+c)-a))) λj=>jn (Gi cmp rE e c g a) j) (jn (Gi cmp rE e c g a) q)
def IT{α:Type}(cmp:α->α->AA Int)(rE:List α->Int->Int->Int->AA (List α))(h:List α)(e:Int)(c:Int)(g:Int)(a:Int):AA (List α):=br (decide (a<c)) (jn (IU cmp rE h e c g a) (decide (c<w64 (w64 (w64 (EB (Go.IntKind.u64.wrap (w64 (e+g))) 1)+c)-a)))) (jn (IU cmp rE h e c g a) false)
def K4{α:Type}(cmp:α->α->AA Int)(rE:List α->Int->Int->Int->AA (List α))(g:List α)(h:Int)(j:Int)(q:Int)(e:(Int×Int)->AA (List α))(I:(Int×Int)):AA (List α):=match I with |(a,c)=>br (decide (a<c)) (bd (at? g (w64 (w64 (w64 (w64 (EB (Go.IntKind.u64.wrap (w64 (h+q))) 1)+j)-1)-w64 (EB (Go.IntKind.u64.wrap (w64 (a+c))) 1)))) λG=>bd (at? g (w64 (w64 (w64 (w64 (EB (Go.IntKind.u64.wrap (w64 (h+q))) 1)+j)-1)-w64 (EB (Go.IntKind.u64.wrap (w64 (a+c))) 1)))) λy=>bd (at? g (w64 (EB (Go.IntKind.u64.wrap (w64 (a+c))) 1))) λH=>bd (at? g (w64 (EB (Go.IntKind.u64.wrap (w64 (a+c))) 1))) λB=>bd (cmp y B) λE=>br (!decide (E<0)) (e ((w64 (w64 (EB (Go.IntKind.u64.wrap (w64 (a+c))) 1)+1),c))) (e ((a,w64 (EB (Go.IntKind.u64.wrap (w64 (a+c))) 1))))) (jn (IT cmp rE g h j q) a)
def Gg{α:Type}(cmp:α->α->AA Int)(rE:List α->Int->Int->Int->AA (List α))(e:List α)(g:Int)(h:Int)(j:Int)(q:(Int×Int)):AA (List α):=match q with |(a,c)=>BE (K4 cmp rE e g h j) big (a,c)
def LW{α:Type}(cmp:α->α->AA Int)(rE:List α->Int->Int->Int->AA (List α))(g:List α)(a:Int)(e:Int)(c:Int)(_:PUnit):AA (List α):=br (decide (e>w64 (EB (Go.IntKind.u64.wrap (w64 (a+c))) 1))) (jn (Gg cmp rE g a e c) ((w64 (w64 (w64 (EB (Go.IntKind.u64.wrap (w64 (a+c))) 1)+e)-c),w64 (EB (Go.IntKind.u64.wrap (w64 (a+c))) 1)))) (jn (Gg cmp rE g a e c) (a,e))
def LU{α:Type}(cmp:α->α->AA Int)(rE:List α->Int->Int->Int->AA (List α))(c:List α)(e:Int)(a:Int)(g:Int)(_:PUnit):AA (List α):=br (w64 (g-a)==1) (BE (LZ cmp c a) big (e,a)) (jn (LW cmp rE c e a g) ())
def F6{α:Type}(cmp:α->α->AA Int)(rE:List α->Int->Int->Int->AA (List α))(e:List α)(a:Int)(c:Int)(g:Int):AA (List α):=br (w64 (c-a)==1) (BE (LX cmp e a) big (c,g)) (jn (LU cmp rE e a c g) ())
def Hv{α:Type}(cmp:α->α->AA Int)(mrg:List α->Int->Int->Int->AA (List α))(e:((List α)×Int)->AA (List α))(a:Int)(c:List α):AA (List α):=e ((c,w64 (a*2)))
def NP{α:Type}(cmp:α->α->AA Int)(mrg:List α->Int->Int->Int->AA (List α))(j:Int)(h:((List α)×Int)->AA (List α))(a:Int)(q:((List α)×Int)):AA (List α):=match q with |(e,c)=>br (decide (w64 (c+a)<j)) (bd (mrg e c (w64 (c+a)) j) λg=>jn (Hv cmp mrg h a) g) (jn (Hv cmp mrg h a) e)
def NQ{α:Type}(cmp:α->α->AA Int)(mrg:List α->Int->Int->Int->AA (List α))(q:Int)(y:((List α)×Int)->AA (List α))(c:Int)(h:((List α)×Int×Int)->AA (List α))(B:((List α)×Int×Int)):AA (List α):=match B with |(g,e,a)=>br (decide (a<=q)) (bd (mrg g e (w64 (e+c)) a) λj=>h ((j,a,w64 (a+w64 (2*c))))) (jn (NP cmp mrg q y c) (g,e))
def GV{α:Type}(cmp:α->α->AA Int)(mrg:List α->Int->Int->Int->AA (List α))(e:Int)(g:((List α)×Int)->AA (List α))(h:((List α)×Int)):AA (List α):=match h with |(c,a)=>br (decide (a<e)) (BE (NQ cmp mrg e g a) big ((c,0,w64 (2*a)))) (some c)
def Hu{α:Type}(cmp:α->α->AA Int)(mrg:List α->Int->Int->Int->AA (List α))(a:Int)(h:((List α)×Int)):AA (List α):=match h with |(c,e)=>bd (DT cmp c e a) λg=>BE (GV cmp mrg a) big (g,20)
def GU{α:Type}(cmp:α->α->AA Int)(mrg:List α->Int->Int->Int->AA (List α))(c:Int)(h:((List α)×Int×Int)->AA (List α))(q:((List α)×Int×Int)):AA (List α):=match q with |(e,g,a)=>br (decide (a<=c)) (bd (DT cmp e g a) λj=>h ((j,a,w64 (a+20)))) (jn (Hu cmp mrg c) (e,g))
def Gw{α:Type}(cmp:α->α->AA Int)(mrg:List α->Int->Int->Int->AA (List α))(a:List α)(c:Int):AA (List α):=BE (GU cmp mrg c) big (a,0,20)
def AZ0:YF:=⟨[J4],[.m (.l (.st 4)),.v .i,.v .i,.f J4.x []],[0],.ret [],[],dY ["BOyWm3R8CDBqMPGCX5aSB2iNRabPMr24g3NmgOepXjLzPkVMiIo2aYa3K9ODdLX2lYjyERTncTmr3SQM","oh6Zcd1D0t2E81jkrPunJTKm7wUpQmUlUXXKNR5qiO559Q2p1VBN36XACOIQhsvjsBp"] [] [.ED 32 (.tmp 22) [.v,.v] [.tmp 26,.tmp 31]]⟩
def AHk(a:List A0)(c e:Int):AA (List A0):=DT U2 a c e
def AEu:GF:=AZ0.EW (GQ AHk)
def AZ1:YF:=⟨[J4],[.m (.l (.st 4)),.v .i,.v .i,.v .i,.f J4.x []],[0],.ret [],[],dY ["1EkWkpX1hXw2UEEaRCrcUu0TazHC5oB0T26c5GZvQRGw8kKclxRTt6KGlSJelJhRsKBWgO4QksDPH1"] []⟩
def AYw(a:List A0)(c e g:Int):AA (List A0):=Eh U2 a c e g
def um:GF:=AZ1.EW (WE AYw)
def AZ2:YF:=⟨[J4],[.m (.l (.st 4)),.v .i,.v .i,.v .i,.f J4.x []],[0],.ret [],[],dY ["LJovsiZLmZ2uUiIa96AhDrNSaRzzhqa3LSRSatBEQvJnix2SReJWlH2liPdo17d2fIPSwy9G5YCvvaw0","2oqVQDQfdaQ3bOW5BXJdoORqABFqGMQ"] [] [.call 31 um [0] rfl [.tmp 24,.tmp 27,.tmp 28,.tmp 29,.tmp 30],.call 46 um [0] rfl [.tmp 35,.tmp 38,.tmp 43,.tmp 44,.tmp 45],.call 57 um [0] rfl [.tmp 50,.tmp 53,.tmp 54,.tmp 55,.tmp 56]]⟩
def AYx(a:List A0)(c e g:Int):AA (List A0):=IB U2 a c e g
def uo:GF:=AZ2.EW (WE AYx)
abbrev nO:=y7 [.m (.l (.st 4)),.v .i,.v .i,.v .i,.f J4.x []] (.ret [])
def AK7(rE:nO)(a:List A0)(c e g:Int):AA (List A0):=rE.d (a,c,e,g,(),())
def AZ3(rE:nO):YF:=⟨[J4],[.m (.l (.st 4)),.v .i,.v .i,.v .i,.f J4.x []],[0],.ret [],[],dY ["R9OF9hEQ12XNyTSLAt2ST9VFDOVl9M83vfuChjJBaj54PacqU2ky4mDC1qtHLG7CkYk4Xe91mhaxlYAY","63azr2eDGXdtitN4u1SaL54ALCi1rwiRAjFWlADimycJVUX8dWX4njZ1jvjoAkEHssPo2qWQJheBT8Tp","3B4qm287Zc3PnbxpoIYIJ0H6cdvMsYwa66nA32xGUUlZiyGKpz7mFKKkNL3xMAKHzYQUiWGUOqCsy7Qy","9BtRcXTULsxsCuhxQzkLsPvHc07Iep8SgPoIqB7cXG9aICsH0ytJa3WB5pLARgnyeNhT1k6gL9Kjo0W1","GRABxN8r4H3JhkNFMgkAmBaiYeVymm3CfTXlYqCtlSlUnBYNsRqeGfLj1KUiBtClSeVvaStwyfSfZu6S","FoOARPmLNm2BzcO0LARYUizSBuT3JhYGhPUGSfZufgBtcxavNVnfKiPCEDJE2SjBjDINFcB6mk1kVLtF","iyLiR6ZjIanPkEitGaScOqWZJqo2zMbescps5IrqzgJRilTpbIzpQ4UzusiszQlKpBfOuaimwDb1zjph","SEATsChvQwkYiv1U7S8fAsUdUx2Jdoq8hnlGoLJe9QWLx00boKICSeT0jALQWwvCaJmLQ82Owvx9q8EN","N30wAqp4NG0ykq5xG2ivO4n6tgwrZWRRBZx"] [] [.ED 49 (.tmp 40) [.v,.v] [.tmp 44,.tmp 48],.ED 101 (.tmp 92) [.v,.v] [.tmp 96,.tmp 100],.ED 169 (.tmp 158) [.v,.v] [.tmp 164,.tmp 168],.call 191 uo [0] rfl [.tmp 186,.tmp 187,.tmp 188,.tmp 189,.tmp 190],.call 205 rE.gf [0] rfl [.tmp 200,.tmp 201,.tmp 202,.tmp 203,.tmp 204],.call 219 rE.gf [0] rfl [.tmp 214,.tmp 215,.tmp 216,.tmp 217,.tmp 218]]⟩
def AXp(rE:nO)(a:List A0)(c e g:Int):AA (List A0):=F6 U2 (AK7 rE) a c e g
def AO1(rE:nO):GF:=(AZ3 rE).gf rfl rfl (λa=>AXp rE a.1 a.2.1 a.2.2.1 a.2.2.2.1) (λa=>by kernel_rfl)
def bt:Nat->nO|0=>.nil _ _|k+1=>.of (AO1 (bt k))
def AN9(a:List A0)(c e g:Int):AA (List A0):=(bt 7).d (a,c,e,g,(),())
def uq:GF:=(bt 7).gf
def AZ4:YF:=⟨[J4],[.m (.l (.st 4)),.v .i,.f J4.x []],[0],.ret [],[],dY ["bzkXk2RWCDvBDCKe9We0McghGC1e9Nq45mTyhwPVdq94HXrlhGAQXnqnl8vBzD3M0xQYBLlkfzQ3tB3F","cU2HsoHIiLtYzKMaEYk3g74T3YB5vsl19inNwe3Na8CWz1yFi1PeuFtQiiUAKlXGUiGbQTIidObBddLT","HAHXstvwrfvGkHQjSCpg"] [] [.call 18 AEu [0] rfl [.tmp 14,.tmp 15,.tmp 16,.tmp 17],.call 27 AEu [0] rfl [.tmp 23,.tmp 24,.tmp 25,.tmp 26],.call 43 uq [0] rfl [.tmp 36,.tmp 37,.tmp 40,.tmp 41,.tmp 42],.call 60 uq [0] rfl [.tmp 55,.tmp 56,.tmp 57,.tmp 58,.tmp 59]]⟩
def AHl(a:List A0)(c:Int):AA (List A0):=Gw U2 AN9 a c
def APH:GF:=AZ4.EW (BF AHl)
def AZr:YF:=⟨[J4],[.m (.l (.st 4)),.f J4.x []],[0],.ret [],[],dY ["6SWkkwmxttF6"] [] [.call 8 APH [0] rfl [.tmp 4,.tmp 6,.tmp 7]]⟩
def ou(a:List A0):AA (List A0):=bd (AHl a (↑a.length:Int)) λc=>some c
def AO8:GF:=AZr.EW (Bm ou)
def AZs:YF:=⟨[J4],[.v (.st 1),.v (.l (.st 2)),.v .i,.v .i],[],.ret [(.l (.st 4))],[.tmp 8],dY ["6nqnjSB31Wkwjqs7YYVgGHjQBIFv3xvzbbeJtdWwpqBoumMiw0fQe5T7wt4aqvL16yl7s1NpQr12pgBH","GO02P9PyjXdKZGnyjgrmPftSmje8HpJ2ilUUXjgVH0hgFEX9qDoJQpzAN4IZV"] [uk] [.call 40 AO8 [0] rfl [.tmp 39,.fn 0]]⟩
def Wc(a:List A0×Int->AA (List A0))(c:Int)(e:List A0):AA (List A0):=a (e,w64 (c+1))
def Wb(c:List A0×Int->AA (List A0))(a:List A0)(e:Int)(g:A0×Bool)(h:Bool):AA (List A0):=br h (gd (g0 a+[g.fst].length<=lim) (jn (Wc c e) (a++[g.fst]))) (jn (Wc c e) a)
def So(a:List A0):AA (List A0):=bd (ou a) λc=>some c
def Sp(q:AY)(h:List AU)(y B:Int)(g:List A0×Int->AA (List A0))(E:List A0×Int):AA (List A0):=let (c,a):=E;br (decide (a<h.length)) (bd (at? h a) λj=>bd (pA q j B) λe=>br e.snd (jn (Wb g c a e) (j.AZ==y)) (jn (Wb g c a e) false)) (jn So c)
def ak(a:AY)(c:List AU)(e g:Int):AA (List A0):=BE (Sp a c e g) big ([],0)
def ud:GF:=AZs.EW (WE ak)
def zg(_:PUnit):AA Bool:=some true
def eO(g j:List A0)(h:Int->AA Bool)(a:Int):AA Bool:=br (decide (a<g.length)) (bd (at? g a) λc=>bd (at? j a) λe=>br (!(c.Level==e.Level&&(c.A4==e.A4&&(c.Id==e.Id&&(c.BK==e.BK&&true))))) (some false) (h (w64 (a+1)))) (jn zg ())
def zf(a c:List A0):AA Bool:=br ((↑a.length:Int) != c.length) (some false) (BE (eO a c) big 0)
def AEo:=gZ ARq DL Cv ["MEe8EalzF3dRGHyzyRGbsSDzGULr2SEtxIRNwH4uKBSroG3BKHkV5niG9Vy7IhSrezneuU0Md4lL"] [] (BF zf)
def eR(g:Int×Int):AA Int:=let (a,c):=g;bd (α:=UInt8) (at? [0,1,2,2,3,3,3,3,4,4,4,4,4,4,4,4,5,5,5,5,5,5,5,5,5,5,5,5,5,5,5,5,6,6,6,6,6,6,6,6,6,6,6,6,6,6,6,6,6,6,6,6,6,6,6,6,6,6,6,6,6,6,6,6,7,7,7,7,7,7,7,7,7,7,7,7,7,7,7,7,7,7,7,7,7,7,7,7,7,7,7,7,7,7,7,7,7,7,7,7,7,7,7,7,7,7,7,7,7,7,7,7,7,7,7,7,7,7,7,7,7,7,7,7,7,7,7,7,8,8,8,8,8,8,8,8,8,8,8,8,8,8,8,8,8,8,8,8,8,8,8,8,8,8,8,8,8,8,8,8,8,8,8,8,8,8,8,8,8,8,8,8,8,8,8,8,8,8,8,8,8,8,8,8,8,8,8,8,8,8,8,8,8,8,8,8,8,8,8,8,8,8,8,8,8,8,8,8,8,8,8,8,8,8,8,8,8,8,8,8,8,8,8,8,8,8,8,8,8,8,8,8,8,8,8,8,8,8,8,8,8,8,8,8,8,8,8,8,8,8,8,8,8,8,8,8] (↑(toB a).toNat:Int)) λe=>some (w64 (c+w64 (↑e.toNat:Int)))
def eQ(e:Int×Int):AA Int:=let (a,c):=e;br (decide (a>=256)) (jn eR (EB a 8,w64 (c+8))) (jn eR (a,c))
def eP(e:Int×Int):AA Int:=let (a,c):=e;br (decide (a>=65536)) (jn eQ (EB a 16,w64 (c+16))) (jn eQ (a,c))
def AN4(a:Int):AA Int:=br (decide (a>=4294967296)) (jn eP (EB a 32,32)) (jn eP (a,0))
def AO9:=gZ [.v (.ki .u64)] DO DV ["1T4P7KSqFBbZEI0xlSESSNyozvMf2IBwHc5SEP8xcRuS5EzgJQCCUqLAXxFexpiRyEX192rQ74S5ktxn","pSuuBqHcLpKRniLwMMyZKRK6dNT"] [] (Bm AN4) [.ix 22 (.k (.str [0,1,2,2,3,3,3,3,4,4,4,4,4,4,4,4,5,5,5,5,5,5,5,5,5,5,5,5,5,5,5,5,6,6,6,6,6,6,6,6,6,6,6,6,6,6,6,6,6,6,6,6,6,6,6,6,6,6,6,6,6,6,6,6,7,7,7,7,7,7,7,7,7,7,7,7,7,7,7,7,7,7,7,7,7,7,7,7,7,7,7,7,7,7,7,7,7,7,7,7,7,7,7,7,7,7,7,7,7,7,7,7,7,7,7,7,7,7,7,7,7,7,7,7,7,7,7,7,8,8,8,8,8,8,8,8,8,8,8,8,8,8,8,8,8,8,8,8,8,8,8,8,8,8,8,8,8,8,8,8,8,8,8,8,8,8,8,8,8,8,8,8,8,8,8,8,8,8,8,8,8,8,8,8,8,8,8,8,8,8,8,8,8,8,8,8,8,8,8,8,8,8,8,8,8,8,8,8,8,8,8,8,8,8,8,8,8,8,8,8,8,8,8,8,8,8,8,8,8,8,8,8,8,8,8,8,8,8,8,8,8,8,8,8,8,8,8,8,8,8,8,8,8,8,8,8])) (.tmp 21)]
def AHf(a:Int):AA Int:=bd (AN4 a) λc=>some c
def APA:=gZ [.v (.ki .u64)] DO DV ["3yu1cnXO0zi26B71jK"] [AO9] (Bm AHf)
def AZt:YF:=⟨[HK],[.m (.l (.st 5)),.v .i,.v .i,.f HK.x []],[0],.ret [],[],dY ["37AOhfZQhAxiCFkIsip6bdqgkZJKpx8uUQMpp4q79XrpSy6V6ciduslKHdwq5P3IZmFHvd4b0JIW4w8q","ZktQECzgU1ZH3A6H313s6To2rF8gCNdIKBwMgZAmuuSN5fBrroyRMNRzGHR0taag8"] [] [.ED 32 (.tmp 22) [.v,.v] [.tmp 26,.tmp 31]]⟩
def zh(a:List Bc)(c e:Int):AA (List Bc):=DT Sr a c e
def ue:GF:=AZt.EW (GQ zh)
def AZu:YF:=⟨[HK],[.m (.l (.st 5)),.v .i,.v .i,.v .i,.f HK.x []],[0],.ret [],[],dY ["7XCqfQuLoJB1EwtCImiysOba1KtmZfJPieh7Mrs7ePFKCa3l1yHHniiU6MWF5yLkZvbRVXjnHzFTX3rR","r9aVclpri0QZeIx9N7UJQDOj7Km9fZ6Q1wmeK06SG1rAPGZzMSVlnUSBVDvImevy0mK5SzBEBG3OfRmP","j5RdLCLIt6D8fuuXPiol9JCvT6bZkGDSwMM2SK9N419BPAwN1hwSA0a16tb5BjQsHDSo72I3ZqxtHhym","ypBnRnn5WAe7gmgZhQpNo5un0F750JhRQZu68vOW56MXjf7WomK9drvj0EpQ7nSQg7blYybnYVekg7It","vytnwmsO4NKgPKiXErLaNicoxE2JRn2SvUIO6IdDcCI0v5Q23cmF0UFwKToKsVMsjS9Sqyn3sSOrr8du","P0CWeuA6DSfd2RaYxQzFDOjY"] [] [.call 30 ue [0] rfl [.tmp 26,.tmp 27,.tmp 28,.tmp 29],.bad (some 37),.bad (some 44),.bad (some 52),.bad (some 61),.bad (some 80),.bad (some 94),.bad (some 103),.bad (some 111),.bad (some 134),.bad (some 146)]⟩
def zi(e:List Bc)(a c g:Int)(j:PUnit->AA (List Bc))(_:PUnit):AA (List Bc):=br (decide (w64 (c-a)<=12)) (bd (zh e a c) λh=>some h) (br (g==0) none none)
def AN5(a:List Bc)(c e g:Int):AA (List Bc):=BE (zi a c e g) big ()
def APB:GF:=AZu.EW (WE AN5)
def AZv:YF:=⟨[HK],[.m (.l (.st 5)),.f HK.x []],[0],.ret [],[],dY ["2Mfc8SV6QdDOvphMQFsXJXS"] [APA] [.call 13 APB [0] rfl [.tmp 7,.k (.int .i64 0),.tmp 8,.tmp 11,.tmp 12]]⟩
def AHg(a:List Bc):AA (List Bc):=bd (AHf (Go.IntKind.u64.wrap (↑a.length:Int))) λc=>bd (AN5 a 0 (↑a.length:Int) c) λe=>some e
def APC:GF:=AZv.EW (Bm AHg)
def AZw:YF:=⟨[HK],[.v (.st 6)],[],.ret [(.l (.st 5))],[.tmp 2],dY ["16CaoI5boDszk0X6GSIM4rVIuk8tR8RnnMYnBCAIPkQJugAPGW9vCrLtizv3tGvDNQnjNKAalkQmvm4P","3vE"] [ZU] [.call 21 APC [0] rfl [.tmp 20,.fn 0]]⟩
def zj(a:List Bc):AA (List Bc):=bd (AHg a) λc=>some c
def zk(e:A2)(h:List Bc×Int->AA (List Bc))(j:List Bc×Int):AA (List Bc):=let (a,c):=j;br (decide (c<e.Au.length)) (bd (at? e.Au c) λg=>gd (g0 a+g0 g<=lim) (h (a++g,w64 (c+1)))) (jn zj a)
def eS(a:A2):AA (List Bc):=bd (SQ a) λc=>br (!c) (some []) (BE (zk a) big ([],0))
def uf:GF:=AZw.EW (Bm eS)
def AZx:YF:=⟨[HK],[.m (.l (.st 5)),.v .i,.v .i,.v .i,.f HK.x []],[0],.ret [],[],dY ["An1Ysdf4BSQzejKS2o2CqR6q2Q1rhxXQqpOZSSvBdNk69Fm7moVuSHP6KNdciLZKPAWAVganlSt0"] []⟩
def AYv(a:List Bc)(c e g:Int):AA (List Bc):=Eh Sr a c e g
def ug:GF:=AZx.EW (WE AYv)
def AZ8:YF:=⟨[HK],[.m (.l (.st 5)),.v .i,.v .i,.v .i,.f HK.x []],[0],.ret [],[],dY ["9GCQATjiOuHN8DXgvF0ftgsjktiRnVCOVhppaSKDbRWaUVjMDfwlFTX4CbCq7P7dkNOteHbq6xTBiGWY","nW8ybEeMH3XOHNi2waYhSGc83Rf5V9d"] [] [.call 31 ug [0] rfl [.tmp 24,.tmp 27,.tmp 28,.tmp 29,.tmp 30],.call 46 ug [0] rfl [.tmp 35,.tmp 38,.tmp 43,.tmp 44,.tmp 45],.call 57 ug [0] rfl [.tmp 50,.tmp 53,.tmp 54,.tmp 55,.tmp 56]]⟩
def AYy(a:List Bc)(c e g:Int):AA (List Bc):=IB Sr a c e g
def uw:GF:=AZ8.EW (WE AYy)
abbrev nP:=y7 [.m (.l (.st 5)),.v .i,.v .i,.v .i,.f HK.x []] (.ret [])
def AK8(rE:nP)(a:List Bc)(c e g:Int):AA (List Bc):=rE.d (a,c,e,g,(),())
def AZ9(rE:nP):YF:=⟨[HK],[.m (.l (.st 5)),.v .i,.v .i,.v .i,.f HK.x []],[0],.ret [],[],dY ["94EESWB8qB6dUGUSTFqBNV878etutDnhpgZNqQAm6jlDI92EopioSCTZM7UqDlWozBhAbDM5QlDG82np","Wy3ieM3v78qmQxbRmzAthynN3wizTnv31GEkqY7La31aVEwevf21DptjLta9dgZ6AiP240jqCjOpvPz6","ycC4aj5hWzeX4rBTqhnO3MQ45WnTlm9RXagYRxHgLxYdSWJTrvCTOS7lR2l7Khv6vvlBJvlGhDS86eIc","MI3oV5TOPny8a5Xfl45ukw9jGhpZU0CzlNHfZZ9qpwwla7s9oR9Di1nmTtWn4vtKwSSfA9LS7Y2PeUT5","PqS1vV1HVx8QpV1o8TVI3wFfFN2HH9TxUg60onAt9tYoYXnCPOT6lNbVtDb3X2bxl3JLLSK0NajKVwnn","Wqe8rkZ31NNeQCiFI26qJzOk4F6FLxvXMsmrOP6BJsn0U4U9fmnTUMhOc8F3PM9aDh5UIhzuXDSI4aBm","O5L4eht4qXWdfFx10CmnDzDQ2nTHUtWBBWB402yfQCH4bhYxKzHPBfW8NcIa73bEoxgZVv9Sd6pyf7y8","9Uq9rASCADCcTiIm2iX4vR3tbK1ZJHEF2bMl3AvnuGuqwCmYbKXDYYOWI9UYrK34rGbskQXGDgFGKVY4","0x1Iyy7dWRVjAfmnti1ZmpKEFgkRJY"] [] [.ED 49 (.tmp 40) [.v,.v] [.tmp 44,.tmp 48],.ED 101 (.tmp 92) [.v,.v] [.tmp 96,.tmp 100],.ED 169 (.tmp 158) [.v,.v] [.tmp 164,.tmp 168],.call 191 uw [0] rfl [.tmp 186,.tmp 187,.tmp 188,.tmp 189,.tmp 190],.call 205 rE.gf [0] rfl [.tmp 200,.tmp 201,.tmp 202,.tmp 203,.tmp 204],.call 219 rE.gf [0] rfl [.tmp 214,.tmp 215,.tmp 216,.tmp 217,.tmp 218]]⟩
def AXq(rE:nP)(a:List Bc)(c e g:Int):AA (List Bc):=F6 Sr (AK8 rE) a c e g
def AO2(rE:nP):GF:=(AZ9 rE).gf rfl rfl (λa=>AXq rE a.1 a.2.1 a.2.2.1 a.2.2.2.1) (λa=>by kernel_rfl)
def bu:Nat->nP|0=>.nil _ _|k+1=>.of (AO2 (bu k))
def AOH(a:List Bc)(c e g:Int):AA (List Bc):=(bu 7).d (a,c,e,g,(),())
def ux:GF:=(bu 7).gf
def AaA:YF:=⟨[HK],[.m (.l (.st 5)),.v .i,.f HK.x []],[0],.ret [],[],dY ["376iqkHcCdn7WULsSEh92Vau27NFThXOUWGccR4YI6DtCngigj1iciwjJNNVcZH9WNOHxKRxRMRDPPoW","Dg0tx4MhtQVbDzykrE6VzwzBAk8oItymD2Edaq4rJgTmAXcslpBrK8EQvMoneWWYh7EictwWZ9pDABwh","SIyymhmEFxYtBYjOkvEk"] [] [.call 18 ue [0] rfl [.tmp 14,.tmp 15,.tmp 16,.tmp 17],.call 27 ue [0] rfl [.tmp 23,.tmp 24,.tmp 25,.tmp 26],.call 43 ux [0] rfl [.tmp 36,.tmp 37,.tmp 40,.tmp 41,.tmp 42],.call 60 ux [0] rfl [.tmp 55,.tmp 56,.tmp 57,.tmp 58,.tmp 59]]⟩
def AHp(a:List Bc)(c:Int):AA (List Bc):=Gw Sr AOH a c
def APN:GF:=AaA.EW (BF AHp)
def AaB:YF:=⟨[HK],[.m (.l (.st 5)),.f HK.x []],[0],.ret [],[],dY ["6SWkkwmxttF6"] [] [.call 8 APN [0] rfl [.tmp 4,.tmp 6,.tmp 7]]⟩
def pD(a:List Bc):AA (List Bc):=bd (AHp a (↑a.length:Int)) λc=>some c
def APO:GF:=AaB.EW (Bm pD)
def AaC:YF:=⟨[HK],[.v (.l (.st 2)),.v .i],[],.ret [(.l (.st 5))],[.tmp 4],dY ["FIs0MS8dKIF5wkIx95gDUcWNh88LitdEH1750A126zgl7zxrjUAS5z3yc5AsPzGZdfAC84lTEaycMIUS","ngHWMTGcPbmxtD5EgIVXtTatFIxm"] [] [.call 33 APO [0] rfl [.tmp 32,.fn 0]]⟩
def Wn(a:List Bc×Int->AA (List Bc))(c:Int)(e:List Bc):AA (List Bc):=a (e,w64 (c+1))
def Wm(e:List Bc×Int->AA (List Bc))(c:List Bc)(g:Int)(a:AU)(h:Bool):AA (List Bc):=br h (gd (g0 c+[Bc.mk a.DM a.Id].length<=lim) (jn (Wn e g) (c++[Bc.mk a.DM a.Id]))) (jn (Wn e g) c)
def Su(a:List Bc):AA (List Bc):=bd (pD a) λc=>some c
def Sv(h:List AU)(j:Int)(g:List Bc×Int->AA (List Bc))(q:List Bc×Int):AA (List Bc):=let (e,a):=q;br (decide (a<h.length)) (bd (at? h a) λc=>br (c.State==2) (jn (Wm g e a c) (c.AZ==j)) (jn (Wm g e a c) false)) (jn Su e)
def fK(a:List AU)(c:Int):AA (List Bc):=BE (Sv a c) big ([],0)
def AEx:GF:=AaC.EW (BF fK)
def AAD(_:PUnit):AA Bool:=some true
def fL(c j:List Bc)(h:Int->AA Bool)(a:Int):AA Bool:=br (decide (a<c.length)) (bd (at? c a) λe=>bd (at? j a) λg=>br (!(e.At==g.At&&(e.Id==g.Id&&true))) (some false) (h (w64 (a+1)))) (jn AAD ())
def AAC(a c:List Bc):AA Bool:=br ((↑a.length:Int) != c.length) (some false) (BE (fL a c) big 0)
def AEy:=gZ ARs DL Cv ["1bTgg9S6lIwQBsn2K4GBH7V3oVS0e3hU9bgd8NSGAwN5XerikIxzSP6ELMe5vsDNfAdv0XgJuzmT"] [] (BF AAC)
def fN(a:Int×Int->AA Int)(c e:Int):AA Int:=a (e,w64 (c+1))
def Wo(a:Int×Int->AA Int)(c e:Int)(h:AU)(g:Bool):AA Int:=br g (jn (fN a e) (w64 (c+h.BK))) (jn (fN a e) c)
def AAE(a:Int):AA Int:=some a
def fO(h:List AU)(j:Int)(g:Int×Int->AA Int)(y:Int×Int):AA Int:=let (e,c):=y;br (decide (c<h.length)) (bd (at? h c) λa=>br (a.State==2) (br (a.AZ==j) (bd (DP a.BK 1 6) λq=>jn (Wo g e c a) q) (jn (Wo g e c a) false)) (jn (Wo g e c a) false)) (jn AAE e)
def fM(a:List AU)(c:Int):AA Int:=BE (fO a c) big (0,0)
def AEz:=gZ Po DO Cv ["10S9QwTxNmF6a8KqXURFYbFdGNTlOsImMIXMXcSR8wB6uUzC1b0Uhuw8nykUUbIWUnDihluiPrdIKgbk","An0BMnZNxSeZ6yBEyZu7510wq"] [Fa] (BF fM)
def fQ(a:Int×Int->AA Int)(c e:Int):AA Int:=a (e,w64 (c+1))
def fP(a:Int×Int->AA Int)(c e:Int)(h:AU)(g:Bool):AA Int:=br g (jn (fQ a e) (w64 (c+h.BK))) (jn (fQ a e) c)
def AAF(a:Int):AA Int:=some a
def fR(h:List AU)(j:Int)(g:Int×Int->AA Int)(y:Int×Int):AA Int:=let (e,a):=y;br (decide (a<h.length)) (bd (at? h a) λc=>br (c.Bz==j) (bd (DP c.BK 1 6) λq=>jn (fP g e a c) q) (jn (fP g e a c) false)) (jn AAF e)
def aq(a:List AU)(c:Int):AA Int:=BE (fR a c) big (0,0)
def AE0:=gZ Po DO Cv ["U9sihoNZdJIAHLmoY0kJ1jgAqKWfh8y4ZEC6dhKNJGJTfYN4bv9layN9esIxIIUdWuj6QqDM1DQYh0tc","gEiH3PFb"] [Fa] (BF aq)
def QJ(a:Bool):AA Bool:=some a
def AHq(g:AY)(a:Ag)(c:List AU)(e h:Int):AA Bool:=bd (o9 a) λj=>br j (bd (ak g c e h) λq=>bd (zf a.Row q) λy=>br y (bd (eS a.B5) λB=>bd (fK c e) λE=>bd (AAC B E) λG=>br G (bd (fM c e) λH=>br (a.AX.FL==H) (bd (aq c e) λI=>jn QJ (a.AX.GZ==I)) (jn QJ false)) (jn QJ false)) (jn QJ false)) (jn QJ false)
def APP:=gZ ARt DL [.tmp 10] ["HEvtzWexJCNm0vuUAHxJmOeQE7slwwRxdijTQTYcQF8Km1WZoi5qzdCVbgZRkhEzWPkLcwJi5rJ8hJtS","S1Lr9avXoOTHlB33QBlTB4bV8fXjpwL44AQaCPNu9P0FEAJGuFJ8gfSNGC7O2tN"] [AEt,ud,AEo,uf,AEx,AEy,AEz,AE0] (AUw AHq)
def AAG(_:PUnit):AA Int:=some (-1)
def fS(c:List Int)(g:Int)(e:Int->AA Int)(a:Int):AA Int:=br (decide (a<c.length)) (bd (at? c a) λh=>br (g==h) (some a) (e (w64 (a+1)))) (jn AAG ())
def AOI(a:List Int)(c:Int):AA Int:=BE (fS a c) big 0
def APQ:=gZ rK DO Cv ["GhEfVJj8ATC5OcNTyF0YkUxX6gDHfPEP5nxKfQB2b2APTYqUlPvkYlurD"] [] (BF AOI)
def pE(a:List Int)(c:Int):AA Bool:=bd (AOI a c) λe=>some (decide (e>=0))
def uy:=gZ rK DL Cv ["35Jh6TDEOoFLEUv"] [APQ] (BF pE)
def Mf(c:Int->AA Bool)(e:Int)(a:Bool):AA Bool:=br a (some false) (c (w64 (e+1)))
def AAH(a:Int->AA Bool)(c:Int)(_:PUnit):AA Bool:=a (w64 (c+1))
def fU(j:AE)(q:Int->AA Bool)(h:Int)(e:AU)(g:Int->AA Bool)(c:Int):AA Bool:=br (decide (c<(an h.toNat j.AG).length)) (bd (at? (an h.toNat j.AG) c) λa=>br (e.A4==a.A4) (jn (Mf g c) true) (br (decide (e.A4<a.A4)) (br (decide (e.Since>a.Since)) (jn (Mf g c) true) (br (decide (a.A4<e.A4)) (jn (Mf g c) (decide (a.Since>e.Since))) (jn (Mf g c) false))) (br (decide (a.A4<e.A4)) (jn (Mf g c) (decide (a.Since>e.Since))) (jn (Mf g c) false)))) (jn (AAH q h) ())
def QK(c:AE)(e:Int->AA Bool)(a:Int)(h:AU)(g:Bool):AA Bool:=br g (some false) (gd (0<=a/\a<=c.AG.length) (BE (fU c e a h) big 0))
def Sw(a:Int->AA Bool)(c:Int)(e:Bool):AA Bool:=br e (some false) (a (w64 (c+1)))
def Y7(a:Int->AA Bool)(c:Int)(e:Bool):AA Bool:=br e (some false) (a (w64 (c+1)))
def pF(_:PUnit):AA Bool:=some true
def Y9(e:AE)(c:Int->AA Bool)(a:Int):AA Bool:=br (decide (a<e.BB.length)) (bd (at? e.BB a) λg=>bd (DP g (-1) (w64 ((↑e.AQ.AX.length:Int)-1))) λh=>br (!h) (some false) (c (w64 (a+1)))) (jn pF ())
def UQ(a:AE)(_:PUnit):AA Bool:=BE (Y9 a) big 0
def Y8(c:AE)(e:Int->AA Bool)(a:Int):AA Bool:=br (decide (a<c.BD.length)) (bd (at? c.BD a) λg=>bd (NL g (↑c.AQ.AX.length:Int)) λh=>br (!h) (jn (Y7 e a) true) (gd (0<=a/\a<=c.BD.length) (bd (pE (an a.toNat c.BD) g) λj=>jn (Y7 e a) j))) (jn (UQ c) ())
def UP(a:AE)(_:PUnit):AA Bool:=BE (Y8 a) big 0
def fV(c:AE)(e:Int->AA Bool)(a:Int):AA Bool:=br (decide (a<c.AH.length)) (bd (at? c.AH a) λg=>bd (at? c.AQ.AX a) λh=>br (g.AX.Total != h) (jn (Sw e a) true) (bd (oz c.AG a) λj=>br (decide (j>c.AQ.Room)) (jn (Sw e a) true) (bd (AHq c.AQ g c.AG a c.Now) λq=>jn (Sw e a) (!q)))) (jn (UP c) ())
def Wp(a:AE)(_:PUnit):AA Bool:=BE (fV a) big 0
def fT(a:AE)(g:Int->AA Bool)(c:Int):AA Bool:=br (decide (c<a.AG.length)) (bd (at? a.AG c) λe=>bd (eU a.AQ e a.Now) λj=>br (!j) (jn (QK a g c e) true) (br (decide (e.A4>=a.A4)) (jn (QK a g c e) true) (br (decide (c>0)) (bd (at? a.AG (w64 (c-1))) λh=>jn (QK a g c e) (decide (h.Id>=e.Id))) (jn (QK a g c e) false)))) (jn (Wp a) ())
def Me(a:AE)(c:Bool):AA Bool:=br c (some false) (br (decide ((↑a.AG.length:Int)>40)) (some false) (BE (fT a) big 0))
def SR(a:AE):AA Bool:=bd (Wf a.AQ) λg=>br (!g) (jn (Me a) true) (bd (DP a.Now 0 1000000) λc=>br (!c) (jn (Me a) true) (bd (DP a.A4 1 1000001) λe=>br (!e) (jn (Me a) true) (br ((↑a.AH.length:Int) != a.AQ.AX.length) (jn (Me a) true) (jn (Me a) ((↑a.BB.length:Int) != a.AQ.C4)))))
def TU:=gZ Xo DL DV ["1RCx6G4w3wYTb6nISXG6fNEoQp3LNXaU4peCkpA76A3fra4QmDok2vQyN8HNK2b9lR8Vot9ISQygddUI","tEldKVuMvsYpFgrumkZpce9wPZJzRTuS6wK5QCzStjFrlFBkfgHSk70cs5pvSjQMxinzZe88AJ4TbYcb","876RvxQ4SDkpq42w3etwFHgSP5eDmjMHmpu7JEkVoHxfaJnxkaY16xQsdJYl3aVJTETYzcOaAqsjpgti","3D7MLj8SM58lz98K9eB1Lj5w4AVsvzplyT7KreKBM4oKdc7MdJdHpw8BRRjmK36WXF09uPEa9pMBbmmZ","G9sxHWsHA3X1jzd75g7V1YzaZP1aInKUW2RHaFnqzQ90as4bUxMfUA4POZQHW3aIx847lW2jmbaltZFQ","Lu6J7zeVSFLbohi5jhnZJN03NrWDpAEUGoYkzISBQ8vqZ7CV8WAbuyg0Y7kfX2XQ8EyuVC3Wx5fhAgx9","qw8X4nhn3O7cs0aUiUsmb6XRd6CIphmrWRlEPkZTjhVymh9TbsBAYRRxBRjwWaH3ajCK9fr3ONNcpvRG","jTvTfYYAGjvkuLWnnZGQd0fhgO6SxXKUS8QavA3voUPQsIZjf8OfsU1vg9vSEkDLesXSqpNEzA83Fx5h","YJd2BLnXkmo4BebSn1dkMFV8FO3GViRPdpbXyaqHiDgI5cOB8qH5L7xZ36GJhmDpb6iHhg3fREQlhOLB","OuW5VThVJl6tQqPX"] [Vi,Fa,kf,uh,APP,RZ,uy] (Bm SR) [.as 10 (.tmp 182),.as 11 (.tmp 184),.as 13 (.tmp 204)]
def fW(a:Bool):AA Bool:=some a
def SS(a:B4):AA Bool:=br (decide ((↑a.Data.length:Int)<=20000)) (bd (DP a.Safe 0 (↑a.Data.length:Int)) λc=>jn fW c) (jn fW false)
def Vj:=gZ ku DL DV ["eZWVAT3l1BilAzYH35wh3l6ysWlRcVth5QX5"] [Fa] (Bm SS)
def Wq(a:Bool):AA Bool:=some a
def AAI(a:Bo):AA Bool:=bd (SS a.Log) λc=>br c (bd (SS a.Eo) λe=>br e (bd (SS a.Odd) λg=>jn Wq g) (jn Wq false)) (jn Wq false)
def AE1:=gZ Pp DL DV ["IgdtQkfax5tb0UM1D80xgPLTrCbBNTQfJ"] [Vj] (Bm AAI)
def SU(a:Int):AA Bool:=bd (DP a 0 9999) λc=>some c
def APR:=gZ Pq DL DV ["6Hw4W43B2njF7B"] [Fa] (Bm SU)
def AaD:YF:=⟨[APR],[.v (.st 0)],[],.ret [.b],[.tmp 2],dY ["S4UmElFMkEdsJ10ssu2dcGK8OM8XvLb9c7tPzLMq0PDUE1UsxwdU4pqDmVNlU9S3j9PpZZvZEheZCg3y","lxAovwpWpNIBb0dQlEEjCrc0ElCFNKDkRuGWURc4AJCWy150BucKemiXllVlbqs6TB9unnTaWWXPpuLB","z10iH6xbeIK04WOxJYLWUtMwVIS6KKRqIrNI5C0FpwqE4a3t9Q9kTbyT16TPmBqsABcrJtJCvtCxQvHW","JE6LVa6NAsscw3IfdKUwLRsP59i6zf5VbIanFJrYGv737cAG6t5sGQWt52wURy"] [Fa] [.as 3 (.fn 0),.ED 11 (.tmp 8) [.v] [.tmp 10],.ED 16 (.tmp 13) [.v] [.tmp 15],.ED 27 (.tmp 24) [.v] [.tmp 26],.ED 33 (.tmp 30) [.v] [.tmp 32],.ED 43 (.tmp 40) [.v] [.tmp 42],.ED 58 (.tmp 55) [.v] [.tmp 57],.ED 63 (.tmp 60) [.v] [.tmp 62]]⟩
def HO(a:Bool):AA Bool:=some a
def QL(a:Bp)(e:Bool):AA Bool:=br e (bd (SU a.Id) λg=>br g (jn HO (a.Kind==a.Kind&&(a.Id==a.Id&&(a.AZ==0&&(a.Bz==0&&(a.BK==0&&(a.DS==0&&true))))))) (jn HO false)) (br (a.Kind==3) (bd (SU a.AZ) λh=>br h (bd (SU a.BK) λc=>br c (jn HO (a.Kind==a.Kind&&(a.Id==0&&(a.AZ==a.AZ&&(a.Bz==0&&(a.BK==a.BK&&(a.DS==0&&true))))))) (jn HO false)) (jn HO false)) (br (a.Kind==6) (some (a.Kind==6&&(a.Id==0&&(a.AZ==0&&(a.Bz==0&&(a.BK==0&&(a.DS==0&&true))))))) (some false)))
def ar(a:Bp):AA Bool:=br (a.Kind==1) (bd (SU a.Id) λc=>br c (bd (SU a.AZ) λe=>br e (bd (DP a.Bz (-1) 9999) λg=>br g (bd (SU a.BK) λh=>br h (bd (SU a.DS) λj=>jn HO j) (jn HO false)) (jn HO false)) (jn HO false)) (jn HO false)) (br (a.Kind==2) (jn (QL a) (a.Kind==2)) (br (a.Kind==4) (jn (QL a) (a.Kind==4)) (br (a.Kind==5) (jn (QL a) (a.Kind==5)) (jn (QL a) (a.Kind==7)))))
def uz:GF:=AaD.EW (Bm ar)
def AAJ(_:PUnit):AA Bool:=some true
def fY(c:A6)(e:Int->AA Bool)(a:Int):AA Bool:=br (decide (a<c.Laid.length)) (bd (at? c.Laid a) λg=>bd (ar g) λh=>br (!h) (some false) (e (w64 (a+1)))) (jn AAJ ())
def QM(a:A6)(c:Bool):AA Bool:=br c (some false) (BE (fY a) big 0)
def pG(a:A6):AA Bool:=bd (SR a.Av) λc=>br (!c) (jn (QM a) true) (bd (AAI a.An) λe=>br (!e) (jn (QM a) true) (br (decide ((↑a.Laid.length:Int)>8)) (jn (QM a) true) (bd (DP a.Seq (↑a.Laid.length:Int) 1000000) λg=>jn (QM a) (!g))))
def vA:=gZ TV DL DV ["6QCjsn11Yb5BfrlcWYJsWYPEf0JRaQIAWvSu004sogg1ABPb2d3qjKzYT2kzRFf4wqOADWQ4ZpQys8Tp","qvAB0IEA455RzDfulkJAmq1pT3zLHgSMVQtMefEnvhOzff"] [TU,AE1,Fa,uz] (Bm pG)
def WZ(a c:Bp):AA Bool:=br (a.Kind != c.Kind) (some false) (br (a.Id != c.Id) (some false) (br (a.AZ != c.AZ) (some false) (br (a.Bz != c.Bz) (some false) (br (a.BK != c.BK) (some false) (br (a.DS != c.DS) (some false) (some true))))))
def AHr(a:AY):AA (List Int):=bd (tj a) λc=>br (!c) (some []) (gd ([a.CZ,a.Room,a.BK,a.CI,a.B6,a.Rest,a.Cg,a.C4].length+a.AX.length<=lim) (some ([a.CZ,a.Room,a.BK,a.CI,a.B6,a.Rest,a.Cg,a.C4]++a.AX)))
def APS:=gZ TW OV DV ["5cwz2kcA0nwv2oENKy836Zvf0rAfKhuvHnhhZErofDXGjADd6Mavk6yJ8ayE"] [kb] (Bm AHr)
def AAL(a:List Int):AA (List Int):=some a
def fc(h:AE)(g:List Int×Int->AA (List Int))(j:List Int×Int):AA (List Int):=let (a,c):=j;br (decide (c<h.BB.length)) (bd (at? h.BB c) λe=>gd (g0 a+[w64 (e+1)].length<=lim) (g (a++[w64 (e+1)],w64 (c+1)))) (jn AAL a)
def Ws(c:AE)(a:List Int):AA (List Int):=gd (a.length+[(↑c.BD.length:Int)].length<=lim) (gd ((a++[(↑c.BD.length:Int)]).length+c.BD.length<=lim) (BE (fc c) big (a++[(↑c.BD.length:Int)]++c.BD,0)))
def fb(e:AE)(h:List Int×Int->AA (List Int))(j:List Int×Int):AA (List Int):=let (g,a):=j;br (decide (a<e.AH.length)) (bd (at? e.AH a) λc=>gd (g0 g+[c.AX.D1].length<=lim) (h (g++[c.AX.D1],w64 (a+1)))) (jn (Ws e) g)
def Wr(a:AE)(c:List Int):AA (List Int):=BE (fb a) big (c,0)
def fZ(c:AE)(h:List Int×Int->AA (List Int))(j:List Int×Int):AA (List Int):=let (e,g):=j;br (decide (g<c.AG.length)) (bd (at? c.AG g) λa=>gd (g0 e+[a.Id,a.AZ,w64 (a.Bz+1),a.BK,a.DS,a.Since,a.A4,a.State,a.DM,a.Dm].length<=lim) (h (e++[a.Id,a.AZ,w64 (a.Bz+1),a.BK,a.DS,a.Since,a.A4,a.State,a.DM,a.Dm],w64 (g+1)))) (jn (Wr c) e)
def AAK(a:AE):AA (List Int):=bd (eM a) λe=>br (!e) (some []) (bd (AHr a.AQ) λc=>gd ([(↑(g0 c):Int)].length+g0 c<=lim) (gd (([(↑(g0 c):Int)]++c).length+[a.Now,a.A4,(↑a.AG.length:Int)].length<=lim) (BE (fZ a) big ([(↑(g0 c):Int)]++c++[a.Now,a.A4,(↑a.AG.length:Int)],0))))
def AE2:=gZ Xo OV DV ["1cCY3ju6qU1bU45E5FB20SUqeMWGA6h3kIxO6IMsF3J7GOFM0KM85fMQe9qZomoKA8CWQ5zQ7aUN1GSE","j1u4bNdYvqpT5bRDlnUIbjL14tJaGmGmwaCVsaqDeLNZqOEDMBN6SHNsTS38aZa9g481nj1jBncU3x4K","3rpKQK9LcT9IUBvqdFn7y0uRDYpvKjqmDl1AQe3vee32GAYQUpY91IoYUrMkLNp12UW8KLUrUuJq4irI","BO6wlnqukQyzmiYhrGfEK2MybzIsF6D0eWyp5rsaPMN0kVF8m7eMckvF4TrqQK7p1hX"] [bM,APS] (Bm AAK)
def AAM(e:Int×List UInt8):AA (List UInt8):=let (a,c):=e;gd (c.length+[toB a].length<=lim) (some (c++[toB a]))
def AAN(e:Int×List UInt8->AA (List UInt8))(g:Int×List UInt8):AA (List UInt8):=let (a,c):=g;br (decide (a>127)) (gd (c.length+[toB (w64 (s3 a 128+128))].length<=lim) (e (w64 (Int.tdiv a 128),c++[toB (w64 (s3 a 128+128))]))) (jn AAM (a,c))
def fh(a:Int):AA (List UInt8):=bd (Et a 0 2147483647) λc=>br (!c) (some []) (BE AAN big (a,[]))
def AE3:=gZ Pq (.ret [(.l .u)]) DV ["WG3l2Gyu1MSxzUWWiw3sFsZ1AIIIcvzW6HTYiwRAaJyBqXdQ4eHmks5dQbdkvAd9oh7Y5GnPYTleCwPG","bWCNO"] [Hk] (Bm fh)
def AAO(a:List UInt8):AA (List UInt8):=some a
def fj(e:List Int)(h:List UInt8×Int->AA (List UInt8))(q:List UInt8×Int):AA (List UInt8):=let (a,c):=q;br (decide (c<e.length)) (bd (at? e c) λj=>bd (fh j) λg=>gd (g0 a+g0 g<=lim) (h (a++g,w64 (c+1)))) (jn AAO a)
def au(a:List Int):AA (List UInt8):=BE (fj a) big ([],0)
def AE4:=gZ Zb Rf DV ["Rq660pMakkhUakeul7CbWdaN3OY8lORYzHvxlofIi8ON5nG3voAlAGm1Bh5MaY"] [AE3] (Bm au)
def fk(a:Int×Int->AA Int)(c e:Int):AA Int:=a (e,w64 (c+1))
def AAQ(a:Int×Int->AA Int)(c e:Int):AA Int:=a (e,w64 (c+1))
def fq(g:Int×Int->AA Int)(h:Int)(e:Int×Int->AA Int)(j:Int×Int):AA Int:=let (a,c):=j;br (decide (c<8)) (br (s3 a 2==1) (jn (fk e c) (Uz (w64 (Int.tdiv a 2)) 3988292384)) (jn (fk e c) (w64 (Int.tdiv a 2)))) (jn (AAQ g h) a)
def AAR(a:Int):AA Int:=some (Uz a 4294967295)
def fm(c:List UInt8)(g:Int×Int->AA Int)(j:Int×Int):AA Int:=let (e,a):=j;br (decide (a<c.length)) (bd (at? c a) λh=>BE (fq g a) big (Uz e (w64 (↑(s4 h):Int)),0)) (jn AAR e)
def AAP(a:List UInt8):AA Int:=BE (fm a) big (4294967295,0)
def AE5:=gZ Vo DO DV ["uezQFD0TKJwyHuZHAkEFaQpnl1TaQof3m8oEYphaDX08wbAFjgOy6Mk5RH9LUIJKiO2gD6By3syRyiXT","5tPcz7L8jo0jLisBNw9ZEinvNesqDdN87yqI46w"] [] (Bm AAP)
def AAS(a:Int):AA (List UInt8):=some ([toB (EB a 24),toB (EB a 16),toB (EB a 8),toB a])
def AE6:=gZ Pq Rf DV ["5nviCJYQrz4aJA5kfZHrWFQamBiujQIEX72jcUwqpIF"] [] (Bm AAS)
def ft(h:AE)(c:Int)(j:Bool):AA (List UInt8):=br j (some []) (bd (AAK h) λe=>gd ([c].length+g0 e<=lim) (bd (au ([c]++e)) λa=>bd (AAP a) λq=>bd (AAS q) λg=>gd (g0 g+g0 a<=P1) (some (g++a))))
def pH(a:AE)(c:Int):AA (List UInt8):=bd (eM a) λe=>br (!e) (jn (ft a c) true) (bd (Et c 0 1000000) λg=>jn (ft a c) (!g))
def vB:=gZ GL Rf Cv ["eCL3gVkXLovi2JTIKvA1cSA3qNiW4brlVhBNXAmHaBNYbsCtY3lPOkIEhsgoX"] [bM,Hk,AE2,AE4,AE5,AE6] (BF pH) [.NW 21 (.tmp 20)]
def pI(a:AY):AA (List Int):=bd (Wf a) λc=>br (!c) (some []) (gd ([a.CZ,a.Room,a.BK,a.CI,a.B6,a.Rest,a.Cg,a.C4].length+a.AX.length<=lim) (some ([a.CZ,a.Room,a.BK,a.CI,a.B6,a.Rest,a.Cg,a.C4]++a.AX)))
def AE7:=gZ TW OV DV ["29wBAEXmgmh7CnjM8eRTkZAH70jYmRjWoWISwiC0whehwDhEiGlZTJamlXO"] [Vi] (Bm pI)
def AZq(c:C):YF:=⟨[],[.v (.st 8)],[],.ret [c],[.tmp 2],sq [qu 1 0,.as 2 (.k .nil)] [1] (.seq (sw 11 [wk 15 1,wY TU rfl,wX] [1,13] (cn 13 [1] (sq [.as 2 (.k .nil)] [2] .ret))) (sr [wn 14 [wo 0 1,wK 9,wY AE7 rfl],qn [qa 3 16]] [1,3] (sr [wn 17 [wm 3,wZ,wh (.CA · 1 .i [(0,(.tmp 18))]),wm 3,wh (.app · .i true (.tmp 19) (.tmp 20))],qn [qa 4 21]] [1,4] (sr [wn 22 [wm 4,wo 9 1,wL,wo 10 1,wL,wo 11 1,wL,wZ,wh (.CA · 3 .i [(0,(.tmp 24)),(1,(.tmp 26)),(2,(.tmp 29))]),wh (.app · .i true (.tmp 22) (.tmp 30))],qn [qa 4 31]] [1,4] (.join [cv 4 (.l .i)] (sw 32 [wo 11 1,wL,wZ,wj 0] (Kp 60129542162) (bl 0 [cv 4 (.l .i),cv 35 .i] (sq [qb 36 .lss 35 34] (Kp 128849018898) (.seq (ce 36 (Kp 60129542162) [1,4] 0) (.seq (.block 1 (sr [wn 37 [we (.st 2) 33 35,wK 10],qn [.alloc 6 AWr,qw 10 6 38]] (Kp 60129542226) (qr [wn 39 [wm 4,wo 0 6,wL,wo 1 6,wL,wo 2 6,wL,wI .add 1,wo 3 6,wL,wo 4 6,wL,wo 5 6,wL,wo 6 6,wL,wo 7 6,wL,wo 8 6,wL,wo 9 6,wL,wh (.CA · 10 .i [(0,(.tmp 41)),(1,(.tmp 43)),(2,(.tmp 46)),(3,(.tmp 48)),(4,(.tmp 50)),(5,(.tmp 52)),(6,(.tmp 54)),(7,(.tmp 56)),(8,(.tmp 58)),(9,(.tmp 60))]),wh (.app · .i true (.tmp 39) (.tmp 61))],qn [qa 4 62]] (Kp 60129542162)))) (q1 [qi 63 .add 35 1,qm 35 63] (Kp 60129542162))))))) (.join [cv 4 (.l .i)] (sw 64 [wo 12 1,wL,wZ,wj 0] [1,4,65,66,67] (bl 2 [cv 4 (.l .i),cv 67 .i] (sq [qb 68 .lss 67 66] [1,4,65,66,67,68] (.seq (ce 68 [1,4,65,66,67] [1,4] 2) (.seq (.block 3 (sr [wn 69 [we (.st 7) 65 67,wK 7],qn [.alloc 8 AWq,.Qn [(.cell 8 5,(.st 4)),(.cell 8 6,(.l (.st 5)))],qw 7 8 70]] [1,4,8,65,66,67] (qr [wn 71 [wm 4,wo 0 8,wO 1,wL,wh (.CA · 1 .i [(0,(.tmp 74))]),wh (.app · .i true (.tmp 71) (.tmp 75))],qn [qa 4 76]] [1,4,65,66,67]))) (q1 [qi 77 .add 67 1,qm 67 77] [1,4,65,66,67])))))) (sr [wn 78 [wm 4,wo 13 1,wL,wZ,wh (.CA · 1 .i [(0,(.tmp 81))]),wh (.app · .i true (.tmp 78) (.tmp 82))],qn [qa 4 83]] [1,4] (sr [wn 84 [wm 4,wo 13 1,wL,wh (.app · .i true (.tmp 84) (.tmp 86))],qn [qa 4 87]] [1,4] (.join [cv 4 (.l .i)] (sw 88 [wo 14 1,wL,wZ,wj 0] [4,89,90,91] (bl 4 [cv 4 (.l .i),cv 91 .i] (sq [qb 92 .lss 91 90] [4,89,90,91,92] (.seq (ce 92 [4,89,90,91] [4] 4) (.seq (.block 5 (sr [wn 93 [we .i 89 91,wL],qn [qa 10 94]] [4,10,89,90,91] (qr [wn 95 [wm 4,wm 10,wI .add 1,wh (.CA · 1 .i [(0,(.tmp 97))]),wh (.app · .i true (.tmp 95) (.tmp 98))],qn [qa 4 99]] [4,89,90,91]))) (q1 [qi 100 .add 91 1,qm 91 100] [4,89,90,91])))))) (sq [qm 101 4,qa 2 101] [2] .ret))))))))))⟩
def AaE:YF:=AZq (.l .i)
def AAU(a:List Int):AA (List Int):=some a
def fw(h:AE)(g:List Int×Int->AA (List Int))(j:List Int×Int):AA (List Int):=let (a,c):=j;br (decide (c<h.BB.length)) (bd (at? h.BB c) λe=>gd (g0 a+[w64 (e+1)].length<=lim) (g (a++[w64 (e+1)],w64 (c+1)))) (jn AAU a)
def Wu(c:AE)(a:List Int):AA (List Int):=gd (a.length+[(↑c.BD.length:Int)].length<=lim) (gd ((a++[(↑c.BD.length:Int)]).length+c.BD.length<=lim) (BE (fw c) big (a++[(↑c.BD.length:Int)]++c.BD,0)))
def fv(e:AE)(h:List Int×Int->AA (List Int))(j:List Int×Int):AA (List Int):=let (g,a):=j;br (decide (a<e.AH.length)) (bd (at? e.AH a) λc=>gd (g0 g+[c.AX.D1].length<=lim) (h (g++[c.AX.D1],w64 (a+1)))) (jn (Wu e) g)
def Wt(a:AE)(c:List Int):AA (List Int):=BE (fv a) big (c,0)
def fu(c:AE)(h:List Int×Int->AA (List Int))(j:List Int×Int):AA (List Int):=let (e,g):=j;br (decide (g<c.AG.length)) (bd (at? c.AG g) λa=>gd (g0 e+[a.Id,a.AZ,w64 (a.Bz+1),a.BK,a.DS,a.Since,a.A4,a.State,a.DM,a.Dm].length<=lim) (h (e++[a.Id,a.AZ,w64 (a.Bz+1),a.BK,a.DS,a.Since,a.A4,a.State,a.DM,a.Dm],w64 (g+1)))) (jn (Wt c) e)
def AAT(a:AE):AA (List Int):=bd (SR a) λe=>br (!e) none (bd (pI a.AQ) λc=>gd ([(↑(g0 c):Int)].length+g0 c<=lim) (gd (([(↑(g0 c):Int)]++c).length+[a.Now,a.A4,(↑a.AG.length:Int)].length<=lim) (BE (fu a) big ([(↑(g0 c):Int)]++c++[a.Now,a.A4,(↑a.AG.length:Int)],0))))
def APT:GF:=AaE.EW (Bm AAT)
def zu(e:Int×List UInt8):AA (List UInt8):=let (a,c):=e;gd (c.length+[toB a].length<=lim) (some (c++[toB a]))
def zw(e:Int×List UInt8->AA (List UInt8))(g:Int×List UInt8):AA (List UInt8):=let (a,c):=g;br (decide (a>=128)) (gd (c.length+[toB (w64 (s3 a 128+128))].length<=lim) (e (w64 (Int.tdiv a 128),c++[toB (w64 (s3 a 128+128))]))) (jn zu (a,c))
def Wj(a:Int):AA (List UInt8):=bd (DP a 0 2147483647) λc=>br (!c) (some []) (BE zw big (a,[]))
def ZV:=gZ Pq (.ret [(.l .u)]) DV ["J99LMELrmBYEEDeI7eRxNoge1VMoV8wwgzcfpVpxkIqOTUUHte3gYUOyRvyCmuUpjZFI6rGu3aC4MiRS"] [Fa] (Bm Wj)
def zy(a:List UInt8):AA (List UInt8):=some a
def fD(e:List Int)(h:List UInt8×Int->AA (List UInt8))(q:List UInt8×Int):AA (List UInt8):=let (a,c):=q;br (decide (c<e.length)) (bd (at? e c) λj=>bd (Wj j) λg=>gd (g0 a+g0 g<=lim) (h (a++g,w64 (c+1)))) (jn zy a)
def zx(a:List Int):AA (List UInt8):=BE (fD a) big ([],0)
def ur:=gZ Zb Rf DV ["5u1EksyZGhK7cEyhjMBxeQnFpGVqKoNbuNyezq7vHkdhkFdcqdeUFzFbDRi1BCB1ARUsP"] [ZV] (Bm zx)
def fE(a:Int×Int->AA Int)(c e:Int):AA Int:=a (e,w64 (c+1))
def z8(a:Int×Int->AA Int)(c e:Int):AA Int:=a (e,w64 (c+1))
def fG(g:Int×Int->AA Int)(h:Int)(e:Int×Int->AA Int)(j:Int×Int):AA Int:=let (a,c):=j;br (decide (c<8)) (br (dq a 1==1) (jn (fE e c) (Uz (EB a 1) 3988292384)) (jn (fE e c) (EB a 1))) (jn (z8 g h) a)
def AAA(a:Int):AA Int:=some (Uz a 4294967295)
def fF(c:List UInt8)(g:Int×Int->AA Int)(j:Int×Int):AA Int:=let (e,a):=j;br (decide (a<c.length)) (bd (at? c a) λh=>BE (fG g a) big (Uz e (w64 (↑(s4 h):Int)),0)) (jn AAA e)
def z7(a:List UInt8):AA Int:=BE (fF a) big (4294967295,0)
def uu:=gZ Vo DO DV ["609CwM6EhdioO1PxP3YLCN0LcVEYPzf3wjqEB3cdsBF2rwiCr3UF73CXcr8g3a9oAPbngRjQFnrnb9SO","UhZCmReqYVexQDGbcebiyQYkOHUWHjPSJOgqnNFYX0x5bIueGm"] [] (Bm z7)
def AZ5:YF:=⟨[],[.v (.st 8),.v .i],[],.ret [.s],[.tmp 4],sq [qu 2 0,.as 4 (.k (.str []))] [1,2] (sr [wn 8 [wk 15 2,wY APT rfl],qn [qa 5 9]] [1,5] (.seq (sr [wn 10 [wm 5,wh (.bin · .sl .eql (.tmp 10) (.k .nil)),wM],wf 12 13 [wm 1,wc Fa rfl [13,qj 0,qj 1000000],wX],qn [qp 16 12 15]] [1,5,16] (cn 16 [1,5] (sq [.as 4 (.k (.str []))] [4] .ret))) (.seq (.Va (.op 0 none [] (.mv 17 (.tmp 1)) (.op 3 none [] (.mv 20 (.tmp 5)) (qd 1 [wn 18 [wY ZV rfl,wh (.Pj · (.tmp 18))]] (.op 4 none [18] (.call 21 ur [] rfl [(.tmp 20)]) (qd 5 [qn [qb 22 .add 19 21,qa 6 22]] .nil))))) [6]) (sr [wn 23 [wm 6,wh (.NW · (.tmp 23)),wY uu rfl],qn [qa 7 25]] [6,7] (sr [wn 26 [wm 7,wh (.bin · .num .shr (.tmp 26) (.k (.int .u64 24))),wh (.cvI · .u8 (.tmp 27)),wm 7,wh (.bin · .num .shr (.tmp 29) (.k (.int .u64 16))),wh (.cvI · .u8 (.tmp 30)),wm 7,wh (.bin · .num .shr (.tmp 32) (.k (.int .u64 8))),wh (.cvI · .u8 (.tmp 33)),wm 7,wh (.cvI · .u8 (.tmp 35)),wh (.CA · 4 .u [(0,(.tmp 28)),(1,(.tmp 31)),(2,(.tmp 34)),(3,(.tmp 36))]),wh (.Pj · (.tmp 37)),wm 6,wB .add 38],qn [qa 4 40]] [4] .ret)))))⟩
def pB(j:AE)(g:Int):AA (List UInt8):=bd (AAT j) λh=>gd (List.isEmpty h=false) (bd (DP g 0 1000000) λq=>br (!q) (some []) (bd (Wj g) λc=>bd (zx h) λe=>gd (g0 c+g0 e<=P1) (bd (z7 (c++e)) λa=>gd ([toB (EB a 24),toB (EB a 16),toB (EB a 8),toB a].length+(c++e).length<=P1) (some ([toB (EB a 24),toB (EB a 16),toB (EB a 8),toB a]++(c++e))))))
def API:GF:=AZ5.EW (BF pB)
def AZ6:YF:=AZq .z
def AOD(a:List Int):AA PUnit:=none
def AOG(h:AE)(g:List Int×Int->AA PUnit)(j:List Int×Int):AA PUnit:=let (a,c):=j;br (decide (c<h.BB.length)) (bd (at? h.BB c) λe=>gd (g0 a+[w64 (e+1)].length<=lim) (g (a++[w64 (e+1)],w64 (c+1)))) (jn AOD a)
def AOC(c:AE)(a:List Int):AA PUnit:=gd (a.length+[(↑c.BD.length:Int)].length<=lim) (gd ((a++[(↑c.BD.length:Int)]).length+c.BD.length<=lim) (BE (AOG c) big (a++[(↑c.BD.length:Int)]++c.BD,0)))
def AOF(e:AE)(h:List Int×Int->AA PUnit)(j:List Int×Int):AA PUnit:=let (g,a):=j;br (decide (a<e.AH.length)) (bd (at? e.AH a) λc=>gd (g0 g+[c.AX.D1].length<=lim) (h (g++[c.AX.D1],w64 (a+1)))) (jn (AOC e) g)
def AOB(a:AE)(c:List Int):AA PUnit:=BE (AOF a) big (c,0)
def AOE(c:AE)(h:List Int×Int->AA PUnit)(j:List Int×Int):AA PUnit:=let (e,g):=j;br (decide (g<c.AG.length)) (bd (at? c.AG g) λa=>gd (g0 e+[a.Id,a.AZ,w64 (a.Bz+1),a.BK,a.DS,a.Since,a.A4,a.State,a.DM,a.Dm].length<=lim) (h (e++[a.Id,a.AZ,w64 (a.Bz+1),a.BK,a.DS,a.Since,a.A4,a.State,a.DM,a.Dm],w64 (g+1)))) (jn (AOB c) e)
def AOA(a:AE):AA PUnit:=bd (SR a) λe=>br (!e) (some ()) (bd (pI a.AQ) λc=>gd ([(↑(g0 c):Int)].length+g0 c<=lim) (gd (([(↑(g0 c):Int)]++c).length+[a.Now,a.A4,(↑a.AG.length:Int)].length<=lim) (BE (AOE a) big ([(↑(g0 c):Int)]++c++[a.Now,a.A4,(↑a.AG.length:Int)],0))))
def APJ:GF:=AZ6.EW (Bm AOA)
def AZ7:YF:=⟨[],[.v (.st 8),.v .i],[],.ret [.s],[.tmp 4],sq [qu 2 0,.as 4 (.k (.str []))] [1,2] (sr [wn 8 [wk 15 2,wY APJ rfl],qn [qa 5 9]] [1,5] (.seq (sr [wn 10 [wm 5,wh (.bin · .sl .eql (.tmp 10) (.k .nil)),wM],wf 12 13 [wm 1,wc Fa rfl [13,qj 0,qj 1000000],wX],qn [qp 16 12 15]] [1,5,16] (cn 16 [1,5] (sq [.as 4 (.k (.str []))] [4] .ret))) (.seq (.Va (.op 0 none [] (.mv 17 (.tmp 1)) (.op 3 none [] (.mv 20 (.tmp 5)) (qd 1 [wn 18 [wY ZV rfl,wh (.Pj · (.tmp 18))]] (.op 4 none [18] (.call 21 ur [] rfl [(.tmp 20)]) (qd 5 [qn [qb 22 .add 19 21,qa 6 22]] .nil))))) [6]) (sr [wn 23 [wm 6,wh (.NW · (.tmp 23)),wY uu rfl],qn [qa 7 25]] [6,7] (sr [wn 26 [wm 7,wh (.bin · .num .shr (.tmp 26) (.k (.int .u64 24))),wh (.cvI · .u8 (.tmp 27)),wm 7,wh (.bin · .num .shr (.tmp 29) (.k (.int .u64 16))),wh (.cvI · .u8 (.tmp 30)),wm 7,wh (.bin · .num .shr (.tmp 32) (.k (.int .u64 8))),wh (.cvI · .u8 (.tmp 33)),wm 7,wh (.cvI · .u8 (.tmp 35)),wh (.CA · 4 .u [(0,(.tmp 28)),(1,(.tmp 31)),(2,(.tmp 34)),(3,(.tmp 36))]),wh (.Pj · (.tmp 37)),wm 6,wB .add 38],qn [qa 4 40]] [4] .ret)))))⟩
def AHm(a:AE)(c:Int):AA (List UInt8):=bd (AOA a) λe=>some []
def APK:GF:=AZ7.EW (BF AHm)
def pC(a:AE)(c:Int):AA (List UInt8):=orE (pB a c) (AHm a c)
def AEv:GF:=API.orE (λa=>pC a.1 a.2.1) (λa=>AHm a.1 a.2.1) (λa=>by kernel_rfl) (λa r h=>Eq.mp (by kernel_rfl) (APK.ok a r h))
def AAB(a:List Int):AA (List Int):=some a
def fJ(h:AE)(g:List Int×Int->AA (List Int))(j:List Int×Int):AA (List Int):=let (a,c):=j;br (decide (c<h.BB.length)) (bd (at? h.BB c) λe=>gd (g0 a+[w64 (e+1)].length<=lim) (g (a++[w64 (e+1)],w64 (c+1)))) (jn AAB a)
def Wl(c:AE)(a:List Int):AA (List Int):=gd (a.length+[(↑c.BD.length:Int)].length<=lim) (gd ((a++[(↑c.BD.length:Int)]).length+c.BD.length<=lim) (BE (fJ c) big (a++[(↑c.BD.length:Int)]++c.BD,0)))
def fI(e:AE)(h:List Int×Int->AA (List Int))(j:List Int×Int):AA (List Int):=let (g,a):=j;br (decide (a<e.AH.length)) (bd (at? e.AH a) λc=>gd (g0 g+[c.AX.D1].length<=lim) (h (g++[c.AX.D1],w64 (a+1)))) (jn (Wl e) g)
def Wk(a:AE)(c:List Int):AA (List Int):=BE (fI a) big (c,0)
def fH(c:AE)(h:List Int×Int->AA (List Int))(j:List Int×Int):AA (List Int):=let (e,g):=j;br (decide (g<c.AG.length)) (bd (at? c.AG g) λa=>gd (g0 e+[a.Id,a.AZ,w64 (a.Bz+1),a.BK,a.DS,a.Since,a.A4,a.State,a.DM,a.Dm].length<=lim) (h (e++[a.Id,a.AZ,w64 (a.Bz+1),a.BK,a.DS,a.Since,a.A4,a.State,a.DM,a.Dm],w64 (g+1)))) (jn (Wk c) e)
def AHn(a:AE):AA (List Int):=bd (SR a) λe=>br (!e) (some []) (bd (pI a.AQ) λc=>gd ([(↑(g0 c):Int)].length+g0 c<=lim) (gd (([(↑(g0 c):Int)]++c).length+[a.Now,a.A4,(↑a.AG.length:Int)].length<=lim) (BE (fH a) big ([(↑(g0 c):Int)]++c++[a.Now,a.A4,(↑a.AG.length:Int)],0))))
def APL:=gZ Xo OV DV ["DAaUA3Lk0SRrsB6WL3E2aryhBuekmsRCg7RUCnR2eo615aWtpDGoOzjAXaSOjP89j04CIl47m5CzkTlf","KhLitNK8SFJNzYgzFsgmc52hOjWuXQaKmxmxwgbwquSInOOrygCUGmpNtpJYaKceCVRjh0Dy92B1uM0R","qFSxza2sFGdkKjdHKJPJ5AFlxHf5G6EZFmqF7nzzRIBZ1yHG1CQ4PTLI5j0RAXzMpgALKFs7RzCe0InW","VhABOBtHwoWXcIXvuN0MjgmXi51DUwhoH0lHVcfppomE1yOQhHc8FgHsuZho3lceEl16bBMMKsPpF5jI","tQkbtatTm"] [TU,AE7] (Bm AHn)
def HH(a:AY):AA AY:=gd (0+a.AX.length<=lim) (some (AY.mk ([]++a.AX) a.CZ a.Room a.BK a.CI a.B6 a.Rest a.Cg a.C4))
def AEw:=gZ TW ky lA ["107jVSrzOOwASnnU011lKkc9M"] [] (Bm HH)
def AHo(a:Int):AA (BN×Bool):=bd (AEg (BN.mk a 0 0 a 0)) λc=>br (!c) (some (BN.mk 0 0 0 0 0,false)) (some (BN.mk a 0 0 a 0,true))
def APM:=gZ Pq Rg [.cell 2 (some 5),.tmp 3] ["3VYw8NA999WmI9CKFMRusFSlkPNu0UMSrNiIMIE2Ds2H"] [AJt] (Bm AHo)
def AaF:YF:=⟨[],[],[],.ret [(.st 6)],[.cell 0 (some 1)],dY ["DakwOOWET0vFFalq9mRUrYQ6qKazJvOUtVjWtBbtC05sASxNKOjD3M8ibsKwBX35d7WJ"] []⟩
def AAd(a:A2):AA A2:=some a
def AAe(e:Int×A2->AA A2)(g:Int×A2):AA A2:=let (c,a):=g;br (decide (c<9)) (gd (a.Au.length+1<=lim) (e (w64 (c+1),A2.mk (a.Au++[[]])))) (jn AAd a)
def AAc:AA A2:=BE AAe big (0,A2.mk [])
def AFE:GF:=AaF.gf rfl rfl (λa=>AAc) (λa=>by kernel_rfl)
def AHx(c:Int):AA (Ag×Bool):=bd (AHo c) λa=>br (!a.snd) (some (Ag.mk (BN.mk 0 0 0 0 0) [] (A2.mk []),false)) (bd AAc λe=>some (Ag.mk a.fst [] e,true))
def APY:=gZ Pq (.ret [(.st 7),.b]) [.cell 2 (some 7),.tmp 3] ["DDqyC4tb71oTeVpoRyNOcLLzwObnrBIIXhp1uefhUJzdRIax8GO7IhjXiuT7pqox"] [APM,AFE] (Bm AHx)
def AAg(a:AE):AA (AE×Bool):=some (a,true)
def AAi(g:AY)(e:Int×AE->AA (AE×Bool))(h:Int×AE):AA (AE×Bool):=let (c,a):=h;br (decide (c<g.C4)) (gd (a.BB.length+[-1].length<=lim) (e (w64 (c+1),AE.mk a.AQ a.Now a.A4 a.AG a.AH a.BD (a.BB++[-1])))) (jn AAg a)
def AAf(a:AY)(c:AE):AA (AE×Bool):=BE (AAi a) big (0,c)
def AAh(c:AY)(h:Int×AE->AA (AE×Bool))(q:Int×AE):AA (AE×Bool):=let (e,a):=q;br (decide (e<c.AX.length)) (bd (at? c.AX e) λj=>bd (AHx j) λg=>gd (a.AH.length+[g.fst].length<=lim) (h (w64 (e+1),AE.mk a.AQ a.Now a.A4 a.AG (a.AH++[g.fst]) a.BD a.BB))) (jn (AAf c) a)
def AHy(a:AY):AA (AE×Bool):=bd (tj a) λc=>br (!c) (some (AE.mk (AY.mk [] 0 0 0 0 0 0 0 0) 0 0 [] [] [] [],false)) (bd (HH a) λe=>BE (AAh a) big (0,AE.mk e 0 1 [] [] [] []))
def APZ:=gZ TW AFw lB ["nwSbLQ3bhGVuKY4vXNWovUUV20EOneI6E0u3AE05sw1trt0kEmCj6JFmypsa1o23pPsLJe4DzC2IpqZa","MiV8TSI1tjBAqBkPCT7R8IlDNYaJIQOT9m2PnWhWwfciPzqAmNPfWGCTZfl72Kim5vboOs4hI1kNLPyh","zFlLxYsmmsIO9dmv"] [kb,AEw,APY] (Bm AHy)
def AHz(e:AY):AA (A6×Bool):=bd (AHy e) λa=>br (!a.snd) (some (A6.mk (AE.mk (AY.mk [] 0 0 0 0 0 0 0 0) 0 0 [] [] [] []) (Bo.mk (B4.mk [] 0) (B4.mk [] 0) (B4.mk [] 0)) 0 [],false)) (bd (pH a.fst 0) λc=>some (A6.mk a.fst (Bo.mk (B4.mk [] 0) (B4.mk c (↑(g0 c):Int)) (B4.mk [] 0)) 0 [],true))
def APa:=gZ TW Zg lC ["5y4VxafGYc1JX3MOkroteYA3R6LIkPBggvwOzOxwHwQg95YtA0bzr57RxNc7aF37x2rqTyvl3F5udMyF","JCnzufo"] [APZ,vB] (Bm AHz)
def K0(a:List Int):AA (List Int):=gd (0+a.length<=lim) (some a)
def ZW:=gZ Zb OV DV ["B1sOs2dzlkKyv"] [] (Bm K0)
def pK(a:AY):AA AY:=bd (K0 a.AX) λc=>some (AY.mk c a.CZ a.Room a.BK a.CI a.B6 a.Rest a.Cg a.C4)
def AFF:=gZ TW ky lA ["FU7z0SF9TTSGY4dWHl1RsO"] [ZW] (Bm pK)
def AH0(a:Int):AA (BN×Bool):=bd (Mc (BN.mk a 0 0 a 0)) λc=>br (!c) (some (BN.mk 0 0 0 0 0,false)) (some (BN.mk a 0 0 a 0,true))
def APb:=gZ Pq Rg [.cell 2 (some 5),.tmp 3] ["3VYw8NA999WmI9CKFMRusFSlkPNu0UMSrNiIMIE2Ds2H"] [Ra] (Bm AH0)
def AaG:YF:=⟨[],[],[],.ret [(.st 6)],[.cell 0 (some 1)],dY ["k3CCM8T8G7WZvSE1tpX"] [] [.Sb 1 (.l (.st 5)) (.k (.int .i64 9))]⟩
def AH1:AA A2:=some (A2.mk (v8 (It 9) []))
def AFG:GF:=AaG.gf rfl rfl (λa=>AH1) (λa=>by kernel_rfl)
def AH2(c:Int):AA (Ag×Bool):=bd (AH0 c) λa=>br (!a.snd) (some (Ag.mk (BN.mk 0 0 0 0 0) [] (A2.mk []),false)) (bd AH1 λe=>some (Ag.mk a.fst [] e,true))
def APc:=gZ Pq (.ret [(.st 7),.b]) [.cell 2 (some 7),.tmp 3] ["DDqyC4tb71oTeVpoRyNOcLLzwObnrBIIXhp1uefhUJzdRIax8GO7IhjXiuT7pqox"] [APb,AFG] (Bm AH2)
def AAk(a:AE):AA (AE×Bool):=some (a,true)
def AAm(g:AY)(e:Int×AE->AA (AE×Bool))(h:Int×AE):AA (AE×Bool):=let (c,a):=h;br (decide (c<g.C4)) (gd (a.BB.length+[-1].length<=lim) (e (w64 (c+1),AE.mk a.AQ a.Now a.A4 a.AG a.AH a.BD (a.BB++[-1])))) (jn AAk a)
def AAj(a:AY)(c:AE):AA (AE×Bool):=BE (AAm a) big (0,c)
def AAl(c:AY)(h:Int×AE->AA (AE×Bool))(q:Int×AE):AA (AE×Bool):=let (e,a):=q;br (decide (e<c.AX.length)) (bd (at? c.AX e) λj=>bd (AH2 j) λg=>gd (a.AH.length+[g.fst].length<=lim) (h (w64 (e+1),AE.mk a.AQ a.Now a.A4 a.AG (a.AH++[g.fst]) a.BD a.BB))) (jn (AAj c) a)
def AH3(a:AY):AA (AE×Bool):=bd (Wf a) λc=>br (!c) (some (AE.mk (AY.mk [] 0 0 0 0 0 0 0 0) 0 0 [] [] [] [],false)) (bd (pK a) λe=>BE (AAl a) big (0,AE.mk e 0 1 [] [] [] []))
def APd:=gZ TW AFw lB ["1A4C6VS5JfyNpMgysyuRgtotr86ACGZS3MYJBlqRKQ0Edo6udSe2KaWR8v78PtZrl3ZoCS6NGI8rYium","c8bd8u5q87Y62hJm6may8AHUwdVJgUpZU6A2j06P5xy41VRICmm5qMZTvt8QwFtzXfIywpVN3cyJomfz","u2lU91W8m2o3SRqgOultVnWn"] [Vi,AFF,APc] (Bm AH3)
def gJ(a:B4):AA B4:=bd (SS a) λc=>br (!c) (some a) (some (B4.mk a.Data (↑a.Data.length:Int)))
def vC:=gZ ku Zh [.cell 2 (some 2)] ["34xz8jyiNcA00stvwtYlt17PBAklvcXq74D"] [Vj] (Bm gJ)
def AH4(c:AY):AA (A6×Bool):=bd (AH3 c) λa=>br (!a.snd) (some (A6.mk (AE.mk (AY.mk [] 0 0 0 0 0 0 0 0) 0 0 [] [] [] []) (Bo.mk (B4.mk [] 0) (B4.mk [] 0) (B4.mk [] 0)) 0 [],false)) (bd (pC a.fst 0) λe=>bd (gJ (B4.mk e 0)) λg=>some (A6.mk a.fst (Bo.mk (B4.mk [] 0) g (B4.mk [] 0)) 0 [],true))
def APe:=gZ TW Zg lC ["228rg3tt4LqTGJdDAMM3XAOJz0ORJXIAXb84uNa5zUUQ63Em9H2O6B1LhxZ9EFs0u4SFK5YBPJZo0C"] [APd,AEv,vC] (Bm AH4)
def AAn(c:AY):AA (CQ×Bool):=bd (AHz c) λa=>br (!a.snd) (some (CQ.mk (A6.mk (AE.mk (AY.mk [] 0 0 0 0 0 0 0 0) 0 0 [] [] [] []) (Bo.mk (B4.mk [] 0) (B4.mk [] 0) (B4.mk [] 0)) 0 []) [] [] 0,false)) (some (CQ.mk a.fst [] [] 0,true))
def AFH:=gZ TW (.ret [(.st 13),.b]) [.cell 2 (some 26),.tmp 3] ["Jjdmdv1AuJIT0tnWjZc1guZ8EGBQkK9HFCLbMRbkZgXQTMJBz6X6xQzwvZxf"] [APa] (Bm AAn)
def AAo(a:A2):AA A2:=some a
def AAp(g:A2)(h:Int×A2->AA A2)(j:Int×A2):AA A2:=let (a,c):=j;br (decide (a<g.Au.length)) (bd (at? g.Au a) λe=>gd (0+g0 e<=lim) (gd (c.Au.length+[[]++e].length<=lim) (h (w64 (a+1),A2.mk (c.Au++[[]++e]))))) (jn AAo c)
def gK(a:A2):AA A2:=BE (AAp a) big (0,A2.mk [])
def vD:=gZ Za (.ret [(.st 6)]) [.cell 2 (some 1)] ["2CFgXIJJ5a3mUfOjMCRDiEmJ4uU54gTbpKdQVJmRjr5VdtiKbSF1WM3Bzbf2LFXlEDIkUp8HxHrkmYFN","4wy1EmcSoZPDpULi"] [] (Bm gK)
def AH5(a:Ag):AA Ag:=bd (uD a.Row) λc=>bd (gK a.B5) λe=>some (Ag.mk a.AX c e)
def APf:=gZ vr (.ret [(.st 7)]) [.cell 2 (some 7)] ["g8PY5XNgINCQgJhnFpqHe8KUY5O2OLhvJFjh50lUkN"] [AJu,vD] (Bm AH5)
def db:Y.YOp []:=.app 19 .i true (.tmp 16) (.tmp 18)
def PT:Y.YOp []:=.app 15 (.st 2) true (.tmp 12) (.tmp 14)
def Hw:Y.YOp []:=.call 7 AEw [] rfl [(.tmp 6)]
def AKO:Y.B2 []:=(.op 21 none [] (.st 15 (.tmp 3) (.tmp 24)) (.dr [5,6,7,8,9,10,11,12,13,14,15,16,17,18,19,20,21,22,23,24] .nil))
def AbL:=λa=>((.op 20 none [5,8,10,13,17,21] (.alloc 3 Em) (.nl [(.cell 3 0,.i),(.cell 3 11,(.st 2)),(.cell 3 12,(.st 7)),(.cell 3 13,.i),(.cell 3 14,.i)] a)):Y.B2 [])
def AWQ:Y.B2 []:=AbL AKO
def AbM:=λa=>((.op 19 none [] (.build 24 Em [(0,9,(.tmp 7)),(9,1,(.tmp 9)),(10,1,(.tmp 11)),(11,1,(.tmp 15)),(13,1,(.tmp 19)),(14,1,(.tmp 23))]) (.nl [(.tmp 24 12,(.st 7))] a)):Y.B2 [])
def AWR:Y.B2 []:=AbM AWQ
def AWS:Y.B2 []:=(.op 18 none [8,10] (.app 23 .i true (.tmp 20) (.tmp 22)) AWR)
def AWT:Y.B2 []:=AbM AKO
def yA:Y.B2 []:=(.op 18 none [8,10] (.app 23 .i true (.tmp 20) (.tmp 22)) AWT)
def AWU:Y.B2 []:=AbL yA
def AbO:=λa b=>((.both 1 a b):Y.B2 [])
def AKP:Y.B2 []:=AbO AWS AWU
def AbP:=λa b c=>((.op a none [5,8,10,13,17,21] (.CA b 0 .i []) c):Y.B2 [])
def AWV:Y.B2 []:=AbP 15 20 AKP
def AKQ:Y.B2 []:=AbP 15 20 yA
def AS6:Y.B2 []:=AbL AKQ
def AS7:Y.B2 []:=AbO AWV AS6
def AS8:Y.B2 []:=(.op 14 none [8,10,21] db AS7)
def AS9:Y.B2 []:=(.op 14 none [8,10,21] db AKP)
def YS:Y.B2 []:=(.op 14 none [8,10,21] db yA)
def ATA:Y.B2 []:=AbL YS
def mQ:Y.B2 []:=AbO AS9 ATA
def ATB:Y.B2 []:=AbP 15 20 mQ
def ATC:Y.B2 []:=(.op 14 none [8,10,21] db AKQ)
def ATD:Y.B2 []:=AbP 15 20 YS
def mR:Y.B2 []:=AbO ATC ATD
def ATE:Y.B2 []:=AbL mR
def ATF:Y.B2 []:=AbO ATB ATE
def ADY:Y.B2 []:=AbO AS8 ATF
def ATG:Y.B2 []:=AbP 11 16 ADY
def ATH:Y.B2 []:=AbP 11 16 mQ
def mS:Y.B2 []:=AbP 11 16 YS
def ATI:Y.B2 []:=AbL mS
def ADZ:Y.B2 []:=AbO ATH ATI
def ATJ:Y.B2 []:=AbP 15 20 ADZ
def ATK:Y.B2 []:=AbP 11 16 mR
def ATL:Y.B2 []:=AbP 15 20 mS
def ADa:Y.B2 []:=AbO ATK ATL
def ATM:Y.B2 []:=AbL ADa
def ATN:Y.B2 []:=AbO ATJ ATM
def ATO:Y.B2 []:=AbO ATG ATN
def AbR:=λa=>((.op 10 none [8,10,17,21] PT a):Y.B2 [])
def ATP:Y.B2 []:=AbR ATO
def ATQ:Y.B2 []:=AbR ADY
def ATR:Y.B2 []:=AbR mQ
def Ty:Y.B2 []:=AbR YS
def ATS:Y.B2 []:=AbL Ty
def YT:Y.B2 []:=AbO ATR ATS
def ATT:Y.B2 []:=AbP 15 20 YT
def ATU:Y.B2 []:=AbR mR
def ATV:Y.B2 []:=AbP 15 20 Ty
def YU:Y.B2 []:=AbO ATU ATV
def ATW:Y.B2 []:=AbL YU
def ATX:Y.B2 []:=AbO ATT ATW
def mT:Y.B2 []:=AbO ATQ ATX
def ATY:Y.B2 []:=AbP 11 16 mT
def ATZ:Y.B2 []:=AbR ADZ
def ATa:Y.B2 []:=AbP 11 16 YT
def ATb:Y.B2 []:=AbR mS
def ATc:Y.B2 []:=AbP 11 16 Ty
def YV:Y.B2 []:=AbO ATb ATc
def ATd:Y.B2 []:=AbL YV
def ATe:Y.B2 []:=AbO ATa ATd
def mU:Y.B2 []:=AbO ATZ ATe
def ATf:Y.B2 []:=AbP 15 20 mU
def ATg:Y.B2 []:=AbR ADa
def ATh:Y.B2 []:=AbP 11 16 YU
def ATi:Y.B2 []:=AbP 15 20 YV
def ATj:Y.B2 []:=AbO ATh ATi
def mV:Y.B2 []:=AbO ATg ATj
def ATk:Y.B2 []:=AbL mV
def ATl:Y.B2 []:=AbO ATf ATk
def ATm:Y.B2 []:=AbO ATY ATl
def ADb:Y.B2 []:=AbO ATP ATm
def AbS:=λa=>((.op 7 none [5,8,10,13,17,21] (.CA 12 0 (.st 2) []) a):Y.B2 [])
def ATn:Y.B2 []:=AbS ADb
def ATo:Y.B2 []:=AbS mT
def ATp:Y.B2 []:=AbS YT
def YW:Y.B2 []:=AbS Ty
def ATq:Y.B2 []:=AbL YW
def mW:Y.B2 []:=AbO ATp ATq
def ATr:Y.B2 []:=AbP 15 20 mW
def ATs:Y.B2 []:=AbS YU
def ATt:Y.B2 []:=AbP 15 20 YW
def mX:Y.B2 []:=AbO ATs ATt
def ATu:Y.B2 []:=AbL mX
def ATv:Y.B2 []:=AbO ATr ATu
def ADc:Y.B2 []:=AbO ATo ATv
def ATw:Y.B2 []:=AbP 11 16 ADc
def ATx:Y.B2 []:=AbS mU
def ATy:Y.B2 []:=AbP 11 16 mW
def ATz:Y.B2 []:=AbS YV
def AT0:Y.B2 []:=AbP 11 16 YW
def mY:Y.B2 []:=AbO ATz AT0
def AT1:Y.B2 []:=AbL mY
def AT2:Y.B2 []:=AbO ATy AT1
def ADd:Y.B2 []:=AbO ATx AT2
def AT3:Y.B2 []:=AbP 15 20 ADd
def AT4:Y.B2 []:=AbS mV
def AT5:Y.B2 []:=AbP 11 16 mX
def AT6:Y.B2 []:=AbP 15 20 mY
def AT7:Y.B2 []:=AbO AT5 AT6
def ADe:Y.B2 []:=AbO AT4 AT7
def AT8:Y.B2 []:=AbL ADe
def AT9:Y.B2 []:=AbO AT3 AT8
def AUA:Y.B2 []:=AbO ATw AT9
def AUB:Y.B2 []:=AbO ATn AUA
def AbT:=λa=>((.op 2 none [8,10,13,17,21] Hw a):Y.B2 [])
def ALp:Y.B2 []:=AbT AUB
def ALq:Y.B2 []:=AbT ADb
def ALr:Y.B2 []:=AbT mT
def ALs:Y.B2 []:=AbT YT
def Ul:Y.B2 []:=AbT Ty
def ALt:Y.B2 []:=AbL Ul
def aD:Y.B2 []:=AbO ALs ALt
def ALu:Y.B2 []:=AbP 15 20 aD
def ALv:Y.B2 []:=AbT YU
def ALw:Y.B2 []:=AbP 15 20 Ul
def aF:Y.B2 []:=AbO ALv ALw
def ALx:Y.B2 []:=AbL aF
def ALy:Y.B2 []:=AbO ALu ALx
def sA:Y.B2 []:=AbO ALr ALy
def ALz:Y.B2 []:=AbP 11 16 sA
def AL0:Y.B2 []:=AbT mU
def AL1:Y.B2 []:=AbP 11 16 aD
def AL2:Y.B2 []:=AbT YV
def AL3:Y.B2 []:=AbP 11 16 Ul
def aG:Y.B2 []:=AbO AL2 AL3
def AL4:Y.B2 []:=AbL aG
def AL5:Y.B2 []:=AbO AL1 AL4
def sC:Y.B2 []:=AbO AL0 AL5
def AL6:Y.B2 []:=AbP 15 20 sC
def AL7:Y.B2 []:=AbT mV
def AL8:Y.B2 []:=AbP 11 16 aF
def AL9:Y.B2 []:=AbP 15 20 aG
def AMA:Y.B2 []:=AbO AL8 AL9
def sD:Y.B2 []:=AbO AL7 AMA
def AMB:Y.B2 []:=AbL sD
def AMC:Y.B2 []:=AbO AL6 AMB
def AMD:Y.B2 []:=AbO ALz AMC
def AME:Y.B2 []:=AbO ALq AMD
def AMF:Y.B2 []:=AbS AME
def AMG:Y.B2 []:=AbT ADc
def AMH:Y.B2 []:=AbS sA
def AMI:Y.B2 []:=AbT mW
def AMJ:Y.B2 []:=AbS aD
def AMK:Y.B2 []:=AbT YW
def AML:Y.B2 []:=AbS Ul
def aH:Y.B2 []:=AbO AMK AML
def AMM:Y.B2 []:=AbL aH
def AMN:Y.B2 []:=AbO AMJ AMM
def sE:Y.B2 []:=AbO AMI AMN
def AMO:Y.B2 []:=AbP 15 20 sE
def AMP:Y.B2 []:=AbT mX
def AMQ:Y.B2 []:=AbS aF
def AMR:Y.B2 []:=AbP 15 20 aH
def AMS:Y.B2 []:=AbO AMQ AMR
def sF:Y.B2 []:=AbO AMP AMS
def AMT:Y.B2 []:=AbL sF
def AMU:Y.B2 []:=AbO AMO AMT
def AMV:Y.B2 []:=AbO AMH AMU
def AMW:Y.B2 []:=AbO AMG AMV
def AMX:Y.B2 []:=AbP 11 16 AMW
def AMY:Y.B2 []:=AbT ADd
def AMZ:Y.B2 []:=AbS sC
def AMa:Y.B2 []:=AbP 11 16 sE
def AMb:Y.B2 []:=AbT mY
def AMc:Y.B2 []:=AbS aG
def AMd:Y.B2 []:=AbP 11 16 aH
def AMe:Y.B2 []:=AbO AMc AMd
def sG:Y.B2 []:=AbO AMb AMe
def AMf:Y.B2 []:=AbL sG
def AMg:Y.B2 []:=AbO AMa AMf
def AMh:Y.B2 []:=AbO AMZ AMg
def AMi:Y.B2 []:=AbO AMY AMh
def AMj:Y.B2 []:=AbP 15 20 AMi
def AMk:Y.B2 []:=AbT ADe
def AMl:Y.B2 []:=AbS sD
def AMm:Y.B2 []:=AbP 11 16 sF
def AMn:Y.B2 []:=AbP 15 20 sG
def AMo:Y.B2 []:=AbO AMm AMn
def AMp:Y.B2 []:=AbO AMl AMo
def AMq:Y.B2 []:=AbO AMk AMp
def AMr:Y.B2 []:=AbL AMq
def AMs:Y.B2 []:=AbO AMj AMr
def AMt:Y.B2 []:=AbO AMX AMs
def AMu:Y.B2 []:=AbO AMF AMt
def AMv:Y.B2 []:=AbO ALp AMu
def AMw:Y.B2 []:=(.op 17 none [] (.ld 22 none (.tmp 21)) AMv)
def AMx:Y.B2 []:=(.op 16 none [] (.fa 21 14 (.tmp 1)) AMw)
def AMy:Y.B2 []:=(.op 13 none [] (.ld 18 none (.tmp 17)) AMx)
def AMz:Y.B2 []:=(.op 12 none [] (.fa 17 13 (.tmp 1)) AMy)
def AM0:Y.B2 []:=(.op 9 none [] (.ld 14 none (.tmp 13)) AMz)
def AM1:Y.B2 []:=(.op 8 none [] (.fa 13 11 (.tmp 1)) AM0)
def AM2:Y.B2 []:=(.op 6 none [] (.ld 11 none (.tmp 10)) AM1)
def AM3:Y.B2 []:=(.op 5 none [] (.fa 10 10 (.tmp 1)) AM2)
def AM4:Y.B2 []:=(.op 4 none [] (.ld 9 none (.tmp 8)) AM3)
def AM5:Y.B2 []:=(.op 3 none [] (.fa 8 9 (.tmp 1)) AM4)
def AM6:Y.B2 []:=(.op 1 none [] (.ld 6 (some 9) (.tmp 5)) AM5)
def AM7:Y.B2 []:=(.op 0 none [] (.fa 5 0 (.tmp 1)) AM6)
def AaH:YF:=⟨[],[.v (.st 8)],[],.ret [(.st 8)],[.cell 2 (some 15)],sq [qu 1 0,.alloc 2 Em,.Qn [(.cell 2 0,.i),(.cell 2 11,(.st 2)),(.cell 2 12,(.st 7)),(.cell 2 13,.i),(.cell 2 14,.i)]] [1,2] (.seq (.Va AM7 [1,2,3]) (.join [cx 3 (.st 8)] (sq [qK 4 0] (Kp 30) (bl 0 [cv 4 .i,cx 3 (.st 8)] (.seq (sw 25 [wm 4,wo 12 1,wL,wZ,wB .lss 25] (Kp 536870942) (ce 29 (Kp 30) [2,3] 0)) (.seq (.block 1 (.Va (qd 0 [wn 32 [wo 12 3,wL,wo 12 1,wL,wm 4,wE (.st 7) 35,wK 7]] (.op 7 none [32] (.call 39 APf [] rfl [(.tmp 38)]) (.op 8 none [32] (.CA 40 1 (.st 7) [(0,(.tmp 39))]) (qd 9 [wn 41 [wh (.app · (.st 7) false (.tmp 33) (.tmp 40)),wo 12 3],qn [qw 1 42 41]] .nil)))) [1,2,3,4])) (qr [wn 30 [wm 4,wI .add 1],qn [qa 4 31]] (Kp 30)))))) (sq [qL 43 15 3,qw 15 2 43] [2] .ret)))⟩
def DR(a:AE)(c:AY)(X2:AA AE):AA AE:=gd (0+a.BB.length<=lim) (Cc c c (ev6 a.Now a.A4 ([]++a.AG) ([]:List Ag) ([]++a.BD) ([]++a.BB) X2))
def Cb(a:AE)(c:AY)(X4:AA AE):AA AE:=gd (0+a.BD.length<=lim) (gd (0+a.BB.length<=lim) (Cc c c (ev6 a.Now a.A4 ([]++a.AG) ([]:List Ag) ([]++a.BD) ([]++a.BB) X4)))
def AAq(a:AE)(c:AY)(X5:AA AE):AA AE:=gd (0+a.BD.length<=lim) (gd (0+a.BB.length<=lim) (alt (Cb a c) (Cc c c (ev6 a.Now a.A4 ([]++a.AG) ([]:List Ag) ([]++a.BD) ([]++a.BB) X5))))
def Mg(a:AE)(c:AY)(X3:AA AE):AA AE:=gd (0+a.BD.length<=lim) (gd (0+a.BB.length<=lim) (alt (DR a c) (alt (Cb a c) (alt (AAq a c) (Cc c c (ev6 a.Now a.A4 ([]++a.AG) ([]:List Ag) ([]++a.BD) ([]++a.BB) X3))))))
def AAr(a:AE)(c:AY)(X7:AA AE):AA AE:=gd (0+a.BD.length<=lim) (gd (0+a.BB.length<=lim) (alt (Cb a c) (alt (Cb a c) (Cc c c (ev6 a.Now a.A4 ([]++a.AG) ([]:List Ag) ([]++a.BD) ([]++a.BB) X7)))))
def gM(a:AE)(c:AY)(X6:AA AE):AA AE:=gd (0+a.BD.length<=lim) (gd (0+a.BB.length<=lim) (alt (DR a c) (alt (Cb a c) (alt (Cb a c) (alt (AAr a c) (Cc c c (ev6 a.Now a.A4 ([]++a.AG) ([]:List Ag) ([]++a.BD) ([]++a.BB) X6)))))))
def DF(a:AE)(c:AY)(X10:AA AE):AA AE:=gd (0+a.AG.length<=lim) (gd (0+a.BD.length<=lim) (gd (0+a.BB.length<=lim) (Cc c c (ev6 a.Now a.A4 ([]++a.AG) ([]:List Ag) ([]++a.BD) ([]++a.BB) X10))))
def pM(a:AE)(c:AY)(X11:AA AE):AA AE:=gd (0+a.AG.length<=lim) (gd (0+a.BD.length<=lim) (gd (0+a.BB.length<=lim) (alt (Cb a c) (alt (DF a c) (Cc c c (ev6 a.Now a.A4 ([]++a.AG) ([]:List Ag) ([]++a.BD) ([]++a.BB) X11))))))
def QQ(a:AE)(c:AY)(X9:AA AE):AA AE:=gd (0+a.AG.length<=lim) (gd (0+a.BD.length<=lim) (gd (0+a.BB.length<=lim) (alt (DR a c) (alt (Cb a c) (alt (DF a c) (alt (pM a c) (Cc c c (ev6 a.Now a.A4 ([]++a.AG) ([]:List Ag) ([]++a.BD) ([]++a.BB) X9))))))))
def ZA(a:AE)(c:AY)(X14:AA AE):AA AE:=gd (0+a.AG.length<=lim) (gd (0+a.BD.length<=lim) (gd (0+a.BB.length<=lim) (alt (DF a c) (Cc c c (ev6 a.Now a.A4 ([]++a.AG) ([]:List Ag) ([]++a.BD) ([]++a.BB) X14)))))
def Nu(a:AE)(c:AY)(X13:AA AE):AA AE:=gd (0+a.AG.length<=lim) (gd (0+a.BD.length<=lim) (gd (0+a.BB.length<=lim) (alt (DR a c) (alt (Cb a c) (alt (DF a c) (alt (ZA a c) (Cc c c (ev6 a.Now a.A4 ([]++a.AG) ([]:List Ag) ([]++a.BD) ([]++a.BB) X13))))))))
def Nv(a:AE)(c:AY)(X16:AA AE):AA AE:=gd (0+a.AG.length<=lim) (gd (0+a.BD.length<=lim) (gd (0+a.BB.length<=lim) (alt (Cb a c) (alt (DF a c) (alt (ZA a c) (Cc c c (ev6 a.Now a.A4 ([]++a.AG) ([]:List Ag) ([]++a.BD) ([]++a.BB) X16)))))))
def pP(a:AE)(c:AY)(X15:AA AE):AA AE:=gd (0+a.AG.length<=lim) (gd (0+a.BD.length<=lim) (gd (0+a.BB.length<=lim) (alt (Cb a c) (alt (Cb a c) (alt (Nv a c) (Cc c c (ev6 a.Now a.A4 ([]++a.AG) ([]:List Ag) ([]++a.BD) ([]++a.BB) X15)))))))
def pO(a:AE)(c:AY)(X12:AA AE):AA AE:=gd (0+a.AG.length<=lim) (gd (0+a.BD.length<=lim) (gd (0+a.BB.length<=lim) (alt (DR a c) (alt (Cb a c) (alt (Cb a c) (alt (Nu a c) (alt (pP a c) (Cc c c (ev6 a.Now a.A4 ([]++a.AG) ([]:List Ag) ([]++a.BD) ([]++a.BB) X12)))))))))
def gO(a:AE)(c:AY)(X8:AA AE):AA AE:=gd (0+a.AG.length<=lim) (gd (0+a.BD.length<=lim) (gd (0+a.BB.length<=lim) (alt (DR a c) (alt (DR a c) (alt (Mg a c) (alt (QQ a c) (alt (pO a c) (Cc c c (ev6 a.Now a.A4 ([]++a.AG) ([]:List Ag) ([]++a.BD) ([]++a.BB) X8)))))))))
def pR(a:AE)(c:AY)(X19:AA AE):AA AE:=gd (0+a.AG.length<=lim) (gd (0+a.BD.length<=lim) (gd (0+a.BB.length<=lim) (alt (Cb a c) (alt (DF a c) (alt (DF a c) (Cc c c (ev6 a.Now a.A4 ([]++a.AG) ([]:List Ag) ([]++a.BD) ([]++a.BB) X19)))))))
def ZB(a:AE)(c:AY)(X18:AA AE):AA AE:=gd (0+a.AG.length<=lim) (gd (0+a.BD.length<=lim) (gd (0+a.BB.length<=lim) (alt (DR a c) (alt (Cb a c) (alt (DF a c) (alt (DF a c) (alt (pR a c) (Cc c c (ev6 a.Now a.A4 ([]++a.AG) ([]:List Ag) ([]++a.BD) ([]++a.BB) X18)))))))))
def ZD(a:AE)(c:AY)(X22:AA AE):AA AE:=gd (0+a.AG.length<=lim) (gd (0+a.BD.length<=lim) (gd (0+a.BB.length<=lim) (alt (DF a c) (alt (DF a c) (Cc c c (ev6 a.Now a.A4 ([]++a.AG) ([]:List Ag) ([]++a.BD) ([]++a.BB) X22))))))
def ZC(a:AE)(c:AY)(X21:AA AE):AA AE:=gd (0+a.AG.length<=lim) (gd (0+a.BD.length<=lim) (gd (0+a.BB.length<=lim) (alt (DR a c) (alt (Cb a c) (alt (DF a c) (alt (DF a c) (alt (ZD a c) (Cc c c (ev6 a.Now a.A4 ([]++a.AG) ([]:List Ag) ([]++a.BD) ([]++a.BB) X21)))))))))
def ZE(a:AE)(c:AY)(X24:AA AE):AA AE:=gd (0+a.AG.length<=lim) (gd (0+a.BD.length<=lim) (gd (0+a.BB.length<=lim) (alt (Cb a c) (alt (DF a c) (alt (DF a c) (alt (ZD a c) (Cc c c (ev6 a.Now a.A4 ([]++a.AG) ([]:List Ag) ([]++a.BD) ([]++a.BB) X24))))))))
def pU(a:AE)(c:AY)(X23:AA AE):AA AE:=gd (0+a.AG.length<=lim) (gd (0+a.BD.length<=lim) (gd (0+a.BB.length<=lim) (alt (Cb a c) (alt (Cb a c) (alt (Nv a c) (alt (ZE a c) (Cc c c (ev6 a.Now a.A4 ([]++a.AG) ([]:List Ag) ([]++a.BD) ([]++a.BB) X23))))))))
def pS(a:AE)(c:AY)(X20:AA AE):AA AE:=gd (0+a.AG.length<=lim) (gd (0+a.BD.length<=lim) (gd (0+a.BB.length<=lim) (alt (DR a c) (alt (Cb a c) (alt (Cb a c) (alt (Nu a c) (alt (ZC a c) (alt (pU a c) (Cc c c (ev6 a.Now a.A4 ([]++a.AG) ([]:List Ag) ([]++a.BD) ([]++a.BB) X20))))))))))
def pQ(a:AE)(c:AY)(X17:AA AE):AA AE:=gd (0+a.AG.length<=lim) (gd (0+a.BD.length<=lim) (gd (0+a.BB.length<=lim) (alt (DR a c) (alt (DR a c) (alt (Mg a c) (alt (QQ a c) (alt (ZB a c) (alt (pS a c) (Cc c c (ev6 a.Now a.A4 ([]++a.AG) ([]:List Ag) ([]++a.BD) ([]++a.BB) X17))))))))))
def Iq(a:AE)(c:AY)(X31:AA AE):AA AE:=bd (HH a.AQ) λe=>gd (0+a.AG.length<=lim) (gd (0+a.BD.length<=lim) (gd (0+a.BB.length<=lim) (Cc c e (ev6 a.Now a.A4 ([]++a.AG) ([]:List Ag) ([]++a.BD) ([]++a.BB) X31))))
def pX(a:AE)(e:AY)(X33:AA AE):AA AE:=bd (HH a.AQ) λc=>gd (0+a.AG.length<=lim) (gd (0+a.BD.length<=lim) (gd (0+a.BB.length<=lim) (alt (Cb a c) (alt (DF a c) (alt (Iq a c) (Cc e c (ev6 a.Now a.A4 ([]++a.AG) ([]:List Ag) ([]++a.BD) ([]++a.BB) X33)))))))
def ZF(a:AE)(e:AY)(X29:AA AE):AA AE:=bd (HH a.AQ) λc=>gd (0+a.AG.length<=lim) (gd (0+a.BD.length<=lim) (gd (0+a.BB.length<=lim) (alt (DR a c) (alt (Cb a c) (alt (DF a c) (alt (Iq a c) (alt (pX a c) (Cc e c (ev6 a.Now a.A4 ([]++a.AG) ([]:List Ag) ([]++a.BD) ([]++a.BB) X29)))))))))
def ZH(a:AE)(e:AY)(X39:AA AE):AA AE:=bd (HH a.AQ) λc=>gd (0+a.AG.length<=lim) (gd (0+a.BD.length<=lim) (gd (0+a.BB.length<=lim) (alt (DF a c) (alt (Iq a c) (Cc e c (ev6 a.Now a.A4 ([]++a.AG) ([]:List Ag) ([]++a.BD) ([]++a.BB) X39))))))
def ZG(a:AE)(e:AY)(X37:AA AE):AA AE:=bd (HH a.AQ) λc=>gd (0+a.AG.length<=lim) (gd (0+a.BD.length<=lim) (gd (0+a.BB.length<=lim) (alt (DR a c) (alt (Cb a c) (alt (DF a c) (alt (Iq a c) (alt (ZH a c) (Cc e c (ev6 a.Now a.A4 ([]++a.AG) ([]:List Ag) ([]++a.BD) ([]++a.BB) X37)))))))))
def ZI(a:AE)(e:AY)(X43:AA AE):AA AE:=bd (HH a.AQ) λc=>gd (0+a.AG.length<=lim) (gd (0+a.BD.length<=lim) (gd (0+a.BB.length<=lim) (alt (Cb a c) (alt (DF a c) (alt (Iq a c) (alt (ZH a c) (Cc e c (ev6 a.Now a.A4 ([]++a.AG) ([]:List Ag) ([]++a.BD) ([]++a.BB) X43))))))))
def pZ(a:AE)(e:AY)(X41:AA AE):AA AE:=bd (HH a.AQ) λc=>gd (0+a.AG.length<=lim) (gd (0+a.BD.length<=lim) (gd (0+a.BB.length<=lim) (alt (Cb a c) (alt (Cb a c) (alt (Nv a c) (alt (ZI a c) (Cc e c (ev6 a.Now a.A4 ([]++a.AG) ([]:List Ag) ([]++a.BD) ([]++a.BB) X41))))))))
def pY(a:AE)(e:AY)(X35:AA AE):AA AE:=bd (HH a.AQ) λc=>gd (0+a.AG.length<=lim) (gd (0+a.BD.length<=lim) (gd (0+a.BB.length<=lim) (alt (DR a c) (alt (Cb a c) (alt (Cb a c) (alt (Nu a c) (alt (ZG a c) (alt (pZ a c) (Cc e c (ev6 a.Now a.A4 ([]++a.AG) ([]:List Ag) ([]++a.BD) ([]++a.BB) X35))))))))))
def pW(a:AE)(e:AY)(X27:AA AE):AA AE:=bd (HH a.AQ) λc=>gd (0+a.AG.length<=lim) (gd (0+a.BD.length<=lim) (gd (0+a.BB.length<=lim) (alt (DR a c) (alt (DR a c) (alt (Mg a c) (alt (QQ a c) (alt (ZF a c) (alt (pY a c) (Cc e c (ev6 a.Now a.A4 ([]++a.AG) ([]:List Ag) ([]++a.BD) ([]++a.BB) X27))))))))))
def US(a:AE)(e:AY)(X53:AA AE):AA AE:=bd (HH a.AQ) λc=>gd (0+a.AG.length<=lim) (gd (0+a.BD.length<=lim) (gd (0+a.BB.length<=lim) (alt (Iq a c) (Cc e c (ev6 a.Now a.A4 ([]++a.AG) ([]:List Ag) ([]++a.BD) ([]++a.BB) X53)))))
def ZJ(a:AE)(e:AY)(X51:AA AE):AA AE:=bd (HH a.AQ) λc=>gd (0+a.AG.length<=lim) (gd (0+a.BD.length<=lim) (gd (0+a.BB.length<=lim) (alt (DR a c) (alt (Cb a c) (alt (DF a c) (alt (Iq a c) (alt (US a c) (Cc e c (ev6 a.Now a.A4 ([]++a.AG) ([]:List Ag) ([]++a.BD) ([]++a.BB) X51)))))))))
def ZK(a:AE)(e:AY)(X57:AA AE):AA AE:=bd (HH a.AQ) λc=>gd (0+a.AG.length<=lim) (gd (0+a.BD.length<=lim) (gd (0+a.BB.length<=lim) (alt (Cb a c) (alt (DF a c) (alt (Iq a c) (alt (US a c) (Cc e c (ev6 a.Now a.A4 ([]++a.AG) ([]:List Ag) ([]++a.BD) ([]++a.BB) X57))))))))
def pe(a:AE)(e:AY)(X55:AA AE):AA AE:=bd (HH a.AQ) λc=>gd (0+a.AG.length<=lim) (gd (0+a.BD.length<=lim) (gd (0+a.BB.length<=lim) (alt (Cb a c) (alt (DF a c) (alt (DF a c) (alt (ZK a c) (Cc e c (ev6 a.Now a.A4 ([]++a.AG) ([]:List Ag) ([]++a.BD) ([]++a.BB) X55))))))))
def pd(a:AE)(e:AY)(X49:AA AE):AA AE:=bd (HH a.AQ) λc=>gd (0+a.AG.length<=lim) (gd (0+a.BD.length<=lim) (gd (0+a.BB.length<=lim) (alt (DR a c) (alt (Cb a c) (alt (DF a c) (alt (DF a c) (alt (ZJ a c) (alt (pe a c) (Cc e c (ev6 a.Now a.A4 ([]++a.AG) ([]:List Ag) ([]++a.BD) ([]++a.BB) X49))))))))))
def pc(a:AE)(e:AY)(X47:AA AE):AA AE:=bd (HH a.AQ) λc=>gd (0+a.AG.length<=lim) (gd (0+a.BD.length<=lim) (gd (0+a.BB.length<=lim) (alt (DR a c) (alt (DR a c) (alt (Mg a c) (alt (QQ a c) (alt (ZF a c) (alt (pd a c) (Cc e c (ev6 a.Now a.A4 ([]++a.AG) ([]:List Ag) ([]++a.BD) ([]++a.BB) X47))))))))))
def pj(a:AE)(e:AY)(X67:AA AE):AA AE:=bd (HH a.AQ) λc=>gd (0+a.AG.length<=lim) (gd (0+a.BD.length<=lim) (gd (0+a.BB.length<=lim) (alt (DF a c) (alt (Iq a c) (alt (US a c) (Cc e c (ev6 a.Now a.A4 ([]++a.AG) ([]:List Ag) ([]++a.BD) ([]++a.BB) X67)))))))
def ZL(a:AE)(e:AY)(X65:AA AE):AA AE:=bd (HH a.AQ) λc=>gd (0+a.AG.length<=lim) (gd (0+a.BD.length<=lim) (gd (0+a.BB.length<=lim) (alt (DF a c) (alt (DF a c) (alt (pj a c) (Cc e c (ev6 a.Now a.A4 ([]++a.AG) ([]:List Ag) ([]++a.BD) ([]++a.BB) X65)))))))
def ph(a:AE)(e:AY)(X63:AA AE):AA AE:=bd (HH a.AQ) λc=>gd (0+a.AG.length<=lim) (gd (0+a.BD.length<=lim) (gd (0+a.BB.length<=lim) (alt (DR a c) (alt (Cb a c) (alt (DF a c) (alt (DF a c) (alt (ZJ a c) (alt (ZL a c) (Cc e c (ev6 a.Now a.A4 ([]++a.AG) ([]:List Ag) ([]++a.BD) ([]++a.BB) X63))))))))))
def pg(a:AE)(e:AY)(X61:AA AE):AA AE:=bd (HH a.AQ) λc=>gd (0+a.AG.length<=lim) (gd (0+a.BD.length<=lim) (gd (0+a.BB.length<=lim) (alt (DR a c) (alt (Cb a c) (alt (Cb a c) (alt (Nu a c) (alt (ZG a c) (alt (ph a c) (Cc e c (ev6 a.Now a.A4 ([]++a.AG) ([]:List Ag) ([]++a.BD) ([]++a.BB) X61))))))))))
def pq(a:AE)(e:AY)(X73:AA AE):AA AE:=bd (HH a.AQ) λc=>gd (0+a.AG.length<=lim) (gd (0+a.BD.length<=lim) (gd (0+a.BB.length<=lim) (alt (Cb a c) (alt (DF a c) (alt (DF a c) (alt (ZK a c) (alt (ZL a c) (Cc e c (ev6 a.Now a.A4 ([]++a.AG) ([]:List Ag) ([]++a.BD) ([]++a.BB) X73)))))))))
def pn(a:AE)(e:AY)(X71:AA AE):AA AE:=bd (HH a.AQ) λc=>gd (0+a.AG.length<=lim) (gd (0+a.BD.length<=lim) (gd (0+a.BB.length<=lim) (alt (Cb a c) (alt (Cb a c) (alt (Nv a c) (alt (ZI a c) (alt (pq a c) (Cc e c (ev6 a.Now a.A4 ([]++a.AG) ([]:List Ag) ([]++a.BD) ([]++a.BB) X71)))))))))
def pk(a:AE)(e:AY)(X69:AA AE):AA AE:=bd (HH a.AQ) λc=>gd (0+a.AG.length<=lim) (gd (0+a.BD.length<=lim) (gd (0+a.BB.length<=lim) (alt (Cb a c) (alt (Cb a c) (alt (Nv a c) (alt (ZE a c) (alt (pn a c) (Cc e c (ev6 a.Now a.A4 ([]++a.AG) ([]:List Ag) ([]++a.BD) ([]++a.BB) X69)))))))))
def pf(c:AE)(e:AY)(X59:AA AE):AA AE:=bd (HH c.AQ) λa=>gd (0+c.AG.length<=lim) (gd (0+c.BD.length<=lim) (gd (0+c.BB.length<=lim) (alt (DR c a) (alt (Cb c a) (alt (Cb c a) (alt (Nu c a) (alt (ZC c a) (alt (pg c a) (alt (pk c a) (Cc e a (ev6 c.Now c.A4 ([]++c.AG) ([]:List Ag) ([]++c.BD) ([]++c.BB) X59)))))))))))
def pb(c:AE)(e:AY)(X45:AA AE):AA AE:=bd (HH c.AQ) λa=>gd (0+c.AG.length<=lim) (gd (0+c.BD.length<=lim) (gd (0+c.BB.length<=lim) (alt (DR c a) (alt (DR c a) (alt (Mg c a) (alt (QQ c a) (alt (ZB c a) (alt (pc c a) (alt (pf c a) (Cc e a (ev6 c.Now c.A4 ([]++c.AG) ([]:List Ag) ([]++c.BD) ([]++c.BB) X45)))))))))))
def pV(c:AE)(e:AY)(X25:AA AE):AA AE:=bd (HH c.AQ) λa=>gd (0+c.AG.length<=lim) (gd (0+c.BD.length<=lim) (gd (0+c.BB.length<=lim) (alt (DR c a) (alt (DR c a) (alt (Mg c a) (alt (gM c a) (alt (gO c a) (alt (pW c a) (alt (pb c a) (Cc e a (ev6 c.Now c.A4 ([]++c.AG) ([]:List Ag) ([]++c.BD) ([]++c.BB) X25)))))))))))
def pt(a:AE):AA AE:=some a
def ZM(j:AE)(g:Int×AE->AA AE)(q:Int×AE):AA AE:=let (c,a):=q;br (decide (c<j.AH.length)) (bd (at? j.AH c) λh=>bd (AH5 h) λe=>gd (a.AH.length+[e].length<=lim) (g (w64 (c+1),AE.mk a.AQ a.Now a.A4 a.AG (a.AH++[e]) a.BD a.BB))) (jn pt a)
def OL(a:AE):AA AE:=bd (HH a.AQ) λc=>gd (0+a.AG.length<=lim) (gd (0+a.BD.length<=lim) (gd (0+a.BB.length<=lim) (alt (DR a c) (alt (DR a c) (alt (Mg a c) (alt (gM a c) (alt (gO a c) (alt (pQ a c) (alt (pV a c) (BE (ZM a) big (0,AE.mk c a.Now a.A4 ([]++a.AG) [] ([]++a.BD) ([]++a.BB))))))))))))
def M3:GF:=AaH.EW (Bm OL)
def U3(a:A6):AA A6:=bd (OL a.Av) λc=>gd (0+a.Laid.length<=lim) (bd (OL a.Av) λe=>gd (0+a.Laid.length<=lim) (LL c e (yq a.An a.An (ev2 a.Seq ([]++a.Laid) (some (A6.mk c a.An a.Seq ([]++a.Laid)))))))
def ZX:=gZ TV (.ret [(.st 11)]) [.cell 2 (some 23)] ["2VY2AQPk6ffZ5GmOsUCenNWYG1O8Zu9Xas8AWP6PlWrtjgSCyeP2DgHEwDtayCwsUcqzg5JqcdWxBIub","Jz9ePUpZsNBBAll6drT9D8h2IkUNzSLSslYMaX"] [M3] (Bm U3)
def AAs(a:Bp):AA (List UInt8):=bd (te a) λc=>br (!c) (some []) (br (a.Kind==1) (bd (au ([a.Kind,a.Id,a.AZ,w64 (a.Bz+1),a.BK,a.DS])) λe=>some e) (br (a.Kind==3) (bd (au ([a.Kind,a.AZ,a.BK])) λg=>some g) (br (a.Kind==6) (bd (au [a.Kind]) λh=>some h) (bd (au ([a.Kind,a.Id])) λj=>some j))))
def AFI:=gZ [.v (.st 0)] Rf DV ["28cS3OA382O7PpYDrRAnRv86uC7x57AJYB63Zwdxd4JtzWNHNERTXOgaZh4WymMvArEMlAmXXd33Ba3m","9hg6GQX2YSpMoEHQ7641QKVsVVViGg5KQvo31Zs2DKcxOVws3"] [ACi,AE4] (Bm AAs)
def gP(h:Int)(a:List UInt8)(j:Bool):AA (List UInt8):=br j (some []) (bd (fh h) λc=>gd (g0 c+a.length<=P1) (bd (AAP (c++a)) λq=>bd (AAS q) λe=>gd (g0 e+(c++a).length<=P1) (bd (fh (↑(e++(c++a)).length:Int)) λg=>gd (g0 g+(e++(c++a)).length<=P1) (some (g++(e++(c++a)))))))
def AAt(a:Int)(c:List UInt8):AA (List UInt8):=bd (Et a 1 1000000) λe=>br (!e) (jn (gP a c) true) (bd (Et (↑c.length:Int) 1 60) λg=>jn (gP a c) (!g))
def AFJ:=gZ [.v .i,.v .s] Rf Cv ["6E96NiwPNOmU9lZGAar4oRFwOSahQ9Tbcz7RnNT3xkhFFQmfgYNA43ojZOoEPKTltrt4BlFbl"] [Hk,AE3,AE5,AE6] (BF AAt) [.NW 22 (.tmp 21)]
def AAu(c:Int)(e:Bp):AA (List UInt8):=bd (AAs e) λa=>br (a==[]) (some []) (bd (AAt c a) λg=>some g)
def APg:=gZ [.v .i,.v (.st 0)] Rf Cv ["C3bzb8rsZA70RECF6ug3ZjA3zQxkB3PfJWO"] [AFI,AFJ] (BF AAu)
def gT(a:B4)(c:List UInt8)(e:Bool):AA (B4×Bool):=br e (some (a,false)) (gd (a.Data.length+c.length<=P1) (some (B4.mk (a.Data++c) a.Safe,true)))
def gQ(a:B4)(c:List UInt8):AA (B4×Bool):=bd (cJ a) λe=>br (!e) (jn (gT a c) true) (jn (gT a c) (decide ((↑c.length:Int)>w64 (20000-(↑a.Data.length:Int)))))
def AFK:=gZ [.v (.st 9),.v .s] kz lD ["4wS6dfzD1hctwYoLM7PkA35Yh9LeL3MghzsV9qi5U4fbcGfXEQFwsVSlBUiV5QdVdS"] [bN] (BF gQ)
def gU(e:A6)(c:Bp)(a:A6)(h:B4×Bool)(g:Bool):AA (A6×Int):=br g (some (a,24)) (gd (a.Laid.length+[c].length<=lim) (some (A6.mk a.Av (Bo.mk h.fst a.An.Eo a.An.Odd) (w64 (e.Seq+1)) (a.Laid++[c]),0)))
def AH6(a:A6)(e:Bp):AA (A6×Int):=bd (U3 a) λg=>bd (tf a) λy=>br (!y) (some (g,21)) (bd (te e) λB=>br (!B) (some (g,22)) (br (a.Seq==1000000) (some (g,23)) (bd (AAu (w64 (a.Seq+1)) e) λh=>bd (gQ a.An.Log h) λc=>bd (gQ a.An.Log h) λj=>eqv c.snd j.snd (aW c.fst j.fst (bd (AAu (w64 (a.Seq+1)) e) λE=>bd (gQ a.An.Log E) λq=>eqv c.snd q.snd (aW c.fst q.fst (br ((↑a.Laid.length:Int)==8) (jn (gU a e g c) true) (jn (gU a e g c) (!c.snd)))))))))
def APh:=gZ [.v (.st 11),.v (.st 0)] (.ret [(.st 11),.i]) wJ ["78Tm5MiAuFXzbUHDGezVmjdflQPgGbzwFE4Qe1ejdiXW3iprdAvx1Su3paPje6k21gnHEak5fuEKnWKA","5Uomgky8xsXAiKZ8JmrJowmzO2v6pFD65G3R9PndaWdXxUiBmNn0F2nTtlrcocKL4g8Si37JqiqnP8by","Puw2uYXYV0oyKadSSFWScATrgLt88TsY62a7dfsrHgfQEey1xiNDfYGTYqNJb890hnGouzgA516rBwa9","w78BCLp4gJLlhgxiQq3eqdCI29T9ZdjtPgvHceOLRIi3cqX66GISmetHZK7aQz"] [ZX,ka,ACi,APg,AFK] (BF AH6)
def W0(a:List A0):AA (List A0):=gd (0+a.length<=lim) (some a)
def vE:=gZ vq wF DV ["1dEuKNSoibLNQv"] [] (Bm W0)
def AAv(a:A2):AA A2:=some a
def AAw(g:A2)(h:Int×A2->AA A2)(j:Int×A2):AA A2:=let (a,c):=j;br (decide (a<g.Au.length)) (bd (at? g.Au a) λe=>gd (0+g0 e<=lim) (gd (c.Au.length+[e].length<=lim) (h (w64 (a+1),A2.mk (c.Au++[e]))))) (jn AAv c)
def gV(a:A2):AA A2:=BE (AAw a) big (0,A2.mk [])
def vF:=gZ Za (.ret [(.st 6)]) [.cell 2 (some 1)] ["1OzBxykQdnukzxwtJOTpP28NXI5veuW4obSbj4anx35p8qd9ipk6jEGLuQ4mhgvEgnNLXSnKdeU6JUxm","lI51"] [] (Bm gV)
def AH7(a:Ag):AA Ag:=bd (W0 a.Row) λc=>bd (gV a.B5) λe=>some (Ag.mk a.AX c e)
def APi:=gZ vr (.ret [(.st 7)]) [.cell 2 (some 7)] ["g8PY5XNgINCQgJhnFpqHe8KUY5O2OLhvJFjh50lUkN"] [vE,vF] (Bm AH7)
def AAx(a:AE):AA AE:=some a
def gW(j:AE)(g:Int×AE->AA AE)(q:Int×AE):AA AE:=let (c,a):=q;br (decide (c<j.AH.length)) (bd (at? j.AH c) λh=>bd (AH7 h) λe=>gd (a.AH.length+[e].length<=lim) (g (w64 (c+1),AE.mk a.AQ a.Now a.A4 a.AG (a.AH++[e]) a.BD a.BB))) (jn AAx a)
def OM(a:AE):AA AE:=bd (pK a.AQ) λc=>gd (0+a.AG.length<=lim) (bd (K0 a.BD) λe=>bd (K0 a.BB) λg=>bd (K0 a.BB) λq=>Cc c c (ev5 a.Now a.A4 a.AG ([]:List Ag) e (eqv g q (bd (K0 a.BD) λy=>bd (K0 a.BB) λB=>Cc c c (ev4 a.Now a.A4 a.AG ([]:List Ag) (eqv e y (eqv g B (gd (0+a.AG.length<=lim) (bd (K0 a.BD) λE=>bd (K0 a.BB) λG=>Cc c c (ev4 a.Now a.A4 a.AG ([]:List Ag) (eqv e E (eqv g G (bd (pK a.AQ) λH=>gd (0+a.AG.length<=lim) (bd (K0 a.BD) λh=>bd (K0 a.BB) λj=>Cc c H (ev4 a.Now a.A4 a.AG ([]:List Ag) (eqv e h (eqv g j (BE (gW a) big (0,AE.mk c a.Now a.A4 a.AG [] e g)))))))))))))))))))
def Lw:=gZ Xo Rh [.cell 2 (some 15)] ["EtH2sfiS03u28t7gJ2XZdfwTNdknhAvDyypdxFYUmS6X9Gt2uaGMJ57saxyMipadzCjedw47402Fq3Dp","wRGun3joviZjnlN4rtK6uBa0dXrTdbXbXa3yVUZUcUSjZVGJNzFlcMDQ8NYdhv0Kc5hKHQDv7eJXEuWP","QC1ZsyEZSXgUlknn5TmV1ZJ9yTv2DW1nhBrZ7FlhpqrEoqQxk4rIhLs2Os2vnV0ZRdZgJlBCWjjsgCQi","kmYB3cSBcPC9g3vBRIbBtEFOjGXDngKjuFS9xAe5ASbulD1Gmx8iTT8jOh1Gc48WfqxqCxDRsaqzwWcF","V2KjYg7EWSB92iQnuxP0AjH57svcf8IVOwVlGmGUDefQxGTbm4UrGpqo7BRfpWuAKVeoKcRqsyKQfAhD","GYEQSeU5PY8"] [AFF,ZW,APi] (Bm OM)
def AAV(a:A6):AA A6:=bd (OM a.Av) λc=>gd (0+a.Laid.length<=lim) (some (A6.mk c a.An a.Seq a.Laid))
def AE8:=gZ TV (.ret [(.st 11)]) [.cell 2 (some 23)] ["MzEkDzct6leACK09R1Z9gaKE5wvR9srlo6FLRFgqBLakY026nfr493"] [Lw] (Bm AAV)
def Sx(a:List Int):AA (List UInt8):=bd (zx a) λc=>some c
def AHs(a:Bp):AA (List UInt8):=bd (ar a) λc=>br (!c) (some []) (br (a.Kind==1) (gd ([a.Kind].length+[a.Id,a.AZ,w64 (a.Bz+1),a.BK,a.DS].length<=lim) (jn Sx ([a.Kind]++[a.Id,a.AZ,w64 (a.Bz+1),a.BK,a.DS]))) (br (a.Kind==3) (gd ([a.Kind].length+[a.AZ,a.BK].length<=lim) (jn Sx ([a.Kind]++[a.AZ,a.BK]))) (br (a.Kind==6) (jn Sx [a.Kind]) (gd ([a.Kind].length+[a.Id].length<=lim) (jn Sx ([a.Kind]++[a.Id]))))))
def APU:=gZ [.v (.st 0)] Rf DV ["45dVfx0afpPklAr0JKj6chmQSrdp02zyWmBiOfHBqJApwPqVAb5YUmAUYNDbhfAdQuVxv5jj17TESLPK","61vLeJqBPcfeaXi3nUs3ulvhZ6YSYIXvVg29jv27utQrURHCx5EhLh"] [uz,ur] (Bm AHs)
def fx(h:Int)(c:List UInt8)(j:Bool):AA (List UInt8):=br j (some []) (bd (Wj h) λe=>gd (g0 e+c.length<=lim) (bd (z7 (e++c)) λa=>gd ([toB (EB a 24),toB (EB a 16),toB (EB a 8),toB a].length+(e++c).length<=lim) (bd (Wj (↑([toB (EB a 24),toB (EB a 16),toB (EB a 8),toB a]++(e++c)).length:Int)) λg=>gd (g0 g+([toB (EB a 24),toB (EB a 16),toB (EB a 8),toB a]++(e++c)).length<=P1) (some (g++([toB (EB a 24),toB (EB a 16),toB (EB a 8),toB a]++(e++c)))))))
def AHt(a:Int)(c:List UInt8):AA (List UInt8):=bd (DP a 1 1000000) λe=>br (!e) (jn (fx a c) true) (bd (DP (↑c.length:Int) 1 60) λg=>jn (fx a c) (!g))
def APV:=gZ [.v .i,.v .s] Rf Cv ["1G3n96MEpPtjM3Lm5I3kHCt91LgZPRGu9JsTJfzwS8jlK0P5Het9EdO0TYhZ7OT1Bk3Cn0dwSq3n07pG","Nx85rQlNGlWNQL32Ai4CILhsRNqBXB6AWVqrbtahkPjn"] [Fa,ZV,uu] (BF AHt)
def fy(a:B4)(c:List UInt8)(e:Bool):AA (B4×Bool):=br e (some (a,false)) (some (B4.mk (a.Data++c) a.Safe,true))
def AHu(a:B4)(c:List UInt8):AA (B4×Bool):=gd (a.Data.length+c.length<=P1) (bd (SS a) λe=>br (!e) (jn (fy a c) true) (bd (SS (B4.mk (a.Data++c) a.Safe)) λg=>jn (fy a c) (!g)))
def APW:=gZ [.v (.st 9),.v .s] kz lD ["22lGuyxekB93ls6zJYlXQKsaPYYfymAgWb10fEDq0F7yXFuPyhG17bwQfZQ90wKa"] [Vj] (BF AHu)
def Ww(c e a:Int)(h:UInt8)(g:Bool):AA (Int×Int×Bool):=br g (some (0,0,false)) (some (orI e (oG ((w64 (↑(s4 h):Int)).tmod 128) (w64 (7*a))),w64 (w64 (c+a)+1),true))
def Wv(j:List UInt8)(g:Int)(h:Int×Int->AA (Int×Int×Bool))(e a:Int)(q:Bool):AA (Int×Int×Bool):=br q (some (0,0,false)) (bd (at? j (w64 (g+a))) λc=>gd (¬w64 (7*a)<0) (br (decide (w64 (↑(s4 c):Int)<128)) (br (decide (a>0)) (br (w64 (↑(s4 c):Int)==0) (jn (Ww g e a c) true) (jn (Ww g e a c) (decide (orI e (oG ((w64 (↑(s4 c):Int)).tmod 128) (w64 (7*a)))>2147483647)))) (jn (Ww g e a c) (decide (orI e (oG ((w64 (↑(s4 c):Int)).tmod 128) (w64 (7*a)))>2147483647)))) (h (orI e (oG ((w64 (↑(s4 c):Int)).tmod 128) (w64 (7*a))),w64 (a+1)))))
def AAW(_:PUnit):AA (Int×Int×Bool):=some (0,0,false)
def QN(e:List UInt8)(a:Int)(g:Int×Int->AA (Int×Int×Bool))(j:Int×Int):AA (Int×Int×Bool):=let (h,c):=j;br (decide (c<5)) (br (decide (a<0)) (jn (Wv e a g h c) true) (jn (Wv e a g h c) (decide (a>=w64 ((↑e.length:Int)-c))))) (jn AAW ())
def fz(a:List UInt8)(c:Int):AA (Int×Int×Bool):=BE (QN a c) big (0,0)
def AE9:=gZ [.v (.l .u),.v .i] (.ret [.i,.i,.b]) [.tmp 4,.tmp 5,.tmp 6] ["9RFrBSZSRloAzKiOum9hS0uIvRVLp9FRV9wcYLQBKhRtWA5AatAK288BGM2IUDx0NDdbZM2c3q3ydti1","fO24h2JcJZHNXjznpDVOgAX6ZerkMMDQTnuFGI91wkf7I6iK3txzmH3DpdO0fE7DkMxynNvEmiPy4sbX","PXThGRPYxasfDJFnsr8zbx"] [] (BF fz)
def AAY(a:List Int):AA ((List Int)×Bool):=some (a,true)
def gC(e:List UInt8)(h:List Int×Int->AA (List Int×Bool))(j:List Int×Int):AA ((List Int)×Bool):=let (c,g):=j;br (decide (g<e.length)) (bd (fz e g) λa=>br (!a.snd.snd) (some ([],false)) (gd (g0 c+[a.fst].length<=lim) (h (c++[a.fst],a.snd.fst)))) (jn AAY c)
def AAX(a:List UInt8):AA ((List Int)×Bool):=BE (gC a) big ([],0)
def AFA:=gZ TX (.ret [(.l .i),.b]) [.tmp 2,.tmp 3] ["1jrf7s5Dhymx6Bxssxlzmh6YscpX3aFy1Xem1m7Q5I9ZuPHQ4uDrkWMOxADkcOCKDtmb1w08GatmqmEK","9aC2C0EoEUt3VqoOQUrZpWAT"] [AE9] (Bm AAX) [.NW 11 (.tmp 10)]
def QO(c:List UInt8)(a:Bp):AA (Bp×Bool):=bd (AAs a) λe=>br (e != c) (some (Bp.mk 0 0 0 0 0 0,false)) (some (a,true))
def Wx(c:List UInt8)(a:List Int×Bool)(H:Bool):AA (Bp×Bool):=br H (some (Bp.mk 0 0 0 0 0 0,false)) (bd (at? a.fst 0) λZ=>bd (at? a.fst 0) λG=>br ((↑(g0 a.fst):Int)==2) (bd (at? a.fst 1) λx5=>bd (at? a.fst 1) λY=>jn (QO c) (Bp.mk G Y 0 0 0 0)) (br ((↑(g0 a.fst):Int)==3) (bd (at? a.fst 1) λx9=>bd (at? a.fst 1) λe=>bd (at? a.fst 2) λI=>bd (at? a.fst 2) λg=>jn (QO c) (Bp.mk G 0 e 0 g 0)) (br ((↑(g0 a.fst):Int)==6) (bd (at? a.fst 0) λJ=>bd (at? a.fst 0) λh=>bd (at? a.fst 1) λL=>bd (at? a.fst 1) λj=>bd (at? a.fst 2) λO=>bd (at? a.fst 2) λq=>bd (at? a.fst 3) λQ=>bd (at? a.fst 3) λy=>bd (at? a.fst 4) λS=>bd (at? a.fst 4) λB=>bd (at? a.fst 5) λX=>bd (at? a.fst 5) λE=>jn (QO c) (Bp.mk h j q (w64 (y-1)) B E)) (jn (QO c) (Bp.mk G 0 0 0 0 0)))))
def pJ(a:List UInt8):AA (Bp×Bool):=br (decide ((↑a.length:Int)>60)) (some (Bp.mk 0 0 0 0 0 0,false)) (bd (AAX a) λc=>br (!c.snd) (jn (Wx a c) true) (jn (Wx a c) ((↑(g0 c.fst):Int)==0)))
def AFB:=gZ TX (.ret [(.st 0),.b]) [.cell 2 (some 6),.tmp 3] ["6fbYTtdjvaUp0vNEznQLkP71f9aKA4Qrktnw2UW5xedhoW5a1ExzpOumPOp6vBIzt5tAMFMdTC5BV14d","RZN8OJuU8ugfFS2OunR17gTOQHihn6MlqzvBBGz9mnkFLcHrloXFmWXZtL2wepb3bG5LgHcLDM0y9mWF","ydBJs6lOcQeWs6YLNr4IxTR47VpH8DlLBuMlamt35NsAL6oMZIFiQfjKOq7vJ1KOwti2197PXUI"] [AFA,AFI] (Bm pJ)
def gF(_:PUnit):AA (Int×Int×Bool):=some (0,0,false)
def Wy(j:List UInt8)(g:Int)(h:Int×Int->AA (Int×Int×Bool))(e a:Int)(q:Bool):AA (Int×Int×Bool):=br q (bd (at? j (w64 (g+a))) λc=>gd (¬w64 (7*a)<0) (br (decide (w64 (↑(s4 c):Int)<128)) (bd (Wj (w64 (e+oG ((w64 (↑(s4 c):Int)).tmod 128) (w64 (7*a))))) λy=>br ((↑(g0 y):Int) != w64 (a+1)) (some (0,0,false)) (some (w64 (e+oG ((w64 (↑(s4 c):Int)).tmod 128) (w64 (7*a))),w64 (w64 (g+a)+1),true))) (h (w64 (e+oG ((w64 (↑(s4 c):Int)).tmod 128) (w64 (7*a))),w64 (a+1))))) (jn gF ())
def Sy(c:List UInt8)(e:Int)(g:Int×Int->AA (Int×Int×Bool))(j:Int×Int):AA (Int×Int×Bool):=let (h,a):=j;br (decide (a<5)) (jn (Wy c e g h a) (decide (w64 (e+a)<c.length))) (jn (Wy c e g h a) false)
def gD(a:List UInt8)(c:Int):AA (Int×Int×Bool):=bd (DP c 0 (w64 ((↑a.length:Int)-1))) λe=>br (!e) (some (0,0,false)) (BE (Sy a c) big (0,0))
def AFC:=gZ [.v (.l .u),.v .i] (.ret [.i,.i,.b]) [.tmp 4,.tmp 5,.tmp 6] ["2nJmNwt3i7UpXotSbXpEQXzYv08nugx8955oPsRDdSs25kyK4OaTSCOgamIAn041FCvGHmqwRUnJzZLE","DN9d9J48AlTBO7MMyCR4dfEFYybQOBYu4kjDxKPMeC2TJbloY43ZtsdnP3QzQUtm0AbbkJo50Lkfde47","7P8L51Q7"] [Fa,ZV] (BF gD)
def AAa(a:List Int):AA ((List Int)×Bool):=some (a,true)
def gG(e:List UInt8)(h:List Int×Int->AA (List Int×Bool))(j:List Int×Int):AA ((List Int)×Bool):=let (c,g):=j;br (decide (g<e.length)) (bd (gD e g) λa=>br (!a.snd.snd) (some ([],false)) (gd (g0 c+[a.fst].length<=lim) (h (c++[a.fst],a.snd.fst)))) (jn AAa c)
def AAZ(a:List UInt8):AA ((List Int)×Bool):=BE (gG a) big ([],0)
def AFD:=gZ TX (.ret [(.l .i),.b]) [.tmp 2,.tmp 3] ["9N4CnuoQcvmFunBcuL6h7erG9OYHMPLMGU0KaCsaG9YxbKz5hFUXnl6RDHopm8ibKUrFF6GPP48DmJhM","9cFtpf7Y0yHfLYaZg1"] [AFC] (Bm AAZ) [.NW 11 (.tmp 10)]
def gH(a:Bp)(c:Bool):AA (Bp×Bool):=br c (some (Bp.mk 0 0 0 0 0 0,false)) (some (a,true))
def QP(e:List UInt8)(a:Bp):AA (Bp×Bool):=bd (AHs a) λc=>br (c==[]) (jn (gH a) true) (jn (gH a) (c != e))
def Wz(e:List UInt8)(a:List Int×Bool)(E:Bool):AA (Bp×Bool):=br E (some (Bp.mk 0 0 0 0 0 0,false)) (bd (at? a.fst 0) λS=>bd (at? a.fst 0) λc=>gd ((0:Int)<=1/\1<=(↑(g0 a.fst):Int)) (gd (It 1+(g0 a.fst-It 1)=g0 a.fst) (gd ((an (g0 a.fst-It 1) (n6 (It 1) a.fst)).length+It 5<=lim) (br (c==1) (bd (at? (an (g0 a.fst-It 1) (n6 (It 1) a.fst)++v8 (It 5) 0) 0) λX=>bd (at? (an (g0 a.fst-It 1) (n6 (It 1) a.fst)++v8 (It 5) 0) 0) λO=>bd (at? (an (g0 a.fst-It 1) (n6 (It 1) a.fst)++v8 (It 5) 0) 1) λY=>bd (at? (an (g0 a.fst-It 1) (n6 (It 1) a.fst)++v8 (It 5) 0) 1) λQ=>bd (at? (an (g0 a.fst-It 1) (n6 (It 1) a.fst)++v8 (It 5) 0) 2) λZ=>bd (at? (an (g0 a.fst-It 1) (n6 (It 1) a.fst)++v8 (It 5) 0) 2) λg=>bd (at? (an (g0 a.fst-It 1) (n6 (It 1) a.fst)++v8 (It 5) 0) 3) λG=>bd (at? (an (g0 a.fst-It 1) (n6 (It 1) a.fst)++v8 (It 5) 0) 3) λh=>bd (at? (an (g0 a.fst-It 1) (n6 (It 1) a.fst)++v8 (It 5) 0) 4) λH=>bd (at? (an (g0 a.fst-It 1) (n6 (It 1) a.fst)++v8 (It 5) 0) 4) λj=>jn (QP e) (Bp.mk c O Q (w64 (g-1)) h j)) (br (c==3) (bd (at? (an (g0 a.fst-It 1) (n6 (It 1) a.fst)++v8 (It 5) 0) 0) λI=>bd (at? (an (g0 a.fst-It 1) (n6 (It 1) a.fst)++v8 (It 5) 0) 0) λq=>bd (at? (an (g0 a.fst-It 1) (n6 (It 1) a.fst)++v8 (It 5) 0) 1) λJ=>bd (at? (an (g0 a.fst-It 1) (n6 (It 1) a.fst)++v8 (It 5) 0) 1) λy=>jn (QP e) (Bp.mk c 0 q 0 y 0)) (br (c==6) (jn (QP e) (Bp.mk c 0 0 0 0 0)) (bd (at? (an (g0 a.fst-It 1) (n6 (It 1) a.fst)++v8 (It 5) 0) 0) λL=>bd (at? (an (g0 a.fst-It 1) (n6 (It 1) a.fst)++v8 (It 5) 0) 0) λB=>jn (QP e) (Bp.mk c B 0 0 0 0))))))))
def AAb(c:List UInt8):AA (Bp×Bool):=bd (AAZ c) λa=>br (!a.snd) (jn (Wz c a) true) (jn (Wz c a) ((↑(g0 a.fst):Int)==0))
def APX:=gZ TX (.ret [(.st 0),.b]) [.cell 2 (some 6),.tmp 3] ["1PYqqX75IyB7OzuRaFsEU8RQm0sDRxdIf5pFvpLn0xV3XXTr1A1CmF3DynBLRSJRc0AGwsscydUdqrYb","mXNSn9FJGDSsuUCssE98ryLnCX3NV6U4ti1F32UQTlCb1wHLNBDaIE6F0d86sFM7eSo9QDKJbBE8tO26","5GZZ091l81zhMHcy2v0ADPpKZGd1aNEQYcIFN6x54j6JUXm4AIMCad5xJput4tJzkUJYDzrwk9J20yMJ","hTpjtrGC1RIJUiQRb0Gmh7UZfOQ4hOX10WkYLDaMFl"] [AFD,APU] (Bm AAb) [.Sg 28 .i (.tmp 27) (.k (.int .i64 5))]
def gm(a c:Int):AA Int:=br (decide (a<c)) (some a) (some c)
def kg:=gZ vt DO Cv ["rIPBhrpyTOpOdZAPvJI5V"] [] (BF gm)
def gq(g:List UInt8)(c j:Int)(a e:Int×Int×Bool)(h:Bool):AA (B3×Bool):=br h (some (B3.mk 0 [] 0,false)) (some (B3.mk e.fst (an ((w64 (a.snd.fst+a.fst)).toNat-It e.snd.fst) (n6 (It e.snd.fst) (an (It j-c.toNat) (n6 c.toNat g)))) (w64 (w64 (c+a.snd.fst)+a.fst)),true))
def gn(g:List UInt8)(c h:Int)(a e:Int×Int×Bool)(j:Bool):AA (B3×Bool):=br j (some (B3.mk 0 [] 0,false)) (gd (0<=e.snd.fst/\e.snd.fst<=w64 (a.snd.fst+a.fst)/\w64 (a.snd.fst+a.fst)<=(↑(an (It h-c.toNat) (n6 c.toNat g)).length:Int)) (gd (0<=w64 (a.snd.fst+a.fst)/\w64 (a.snd.fst+a.fst)<=(↑(an (It h-c.toNat) (n6 c.toNat g)).length:Int)) (bd (AAt e.fst (an ((w64 (a.snd.fst+a.fst)).toNat-It e.snd.fst) (n6 (It e.snd.fst) (an (It h-c.toNat) (n6 c.toNat g))))) λq=>br (q != an ((w64 (a.snd.fst+a.fst)).toNat-0) (n6 0 (an (It h-c.toNat) (n6 c.toNat g)))) (jn (gq g c h a e) true) (jn (gq g c h a e) (an ((w64 (a.snd.fst+a.fst)).toNat-It e.snd.fst) (n6 (It e.snd.fst) (an (It h-c.toNat) (n6 c.toNat g)))==[])))))
def W4(g:List UInt8)(c h:Int)(a:Int×Int×Bool)(j:Bool):AA (B3×Bool):=br j (some (B3.mk 0 [] 0,false)) (bd (fz (an (It h-c.toNat) (n6 c.toNat g)) (w64 (a.snd.fst+4))) λe=>br (!e.snd.snd) (jn (gn g c h a e) true) (jn (gn g c h a e) (decide (e.snd.fst>w64 (a.snd.fst+a.fst)))))
def AA8(c:List UInt8)(a:Int):AA (B3×Bool):=bd (Et a 0 (↑c.length:Int)) λh=>br (!h) (some (B3.mk 0 [] 0,false)) (bd (gm (↑c.length:Int) (w64 (a+80))) λe=>gd (0<=a/\a<=e/\e<=c.length) (bd (fz (an (It e-a.toNat) (n6 a.toNat c)) 0) λg=>br (!g.snd.snd) (jn (W4 c a e g) true) (br (decide (g.fst>w64 ((↑(an (It e-a.toNat) (n6 a.toNat c)).length:Int)-g.snd.fst))) (jn (W4 c a e g) true) (jn (W4 c a e g) (decide (g.fst<5))))))
def APp:=gZ [.v .s,.v .i] (.ret [(.st 15),.b]) [.cell 4 (some 3),.tmp 5] ["JRKA0vs2OKZGiC3iZBCOsUY7j1tV4nri9J67nUswg2lngSQclojHZSeQMtA3dSZb9vntri0EboYY8xvu","S8eVhW20LtWT3uHtwVNBwoYx81x3oWcMdjl6CodbUdZGRJZ6HzmNeKerMgg0o0MBGvZOVNvcVymwdsfv","4sRkRvBYZr5CT0odw42HprEykzwuupH72HQjzQS6xn8U4WfhfpI9QLUMxxCZ0vJuvl4V3DWWtJfpN1Xg","A2UWlJc8lAHQpAuMQz1SgKMC7VhBUnwNtEsHKRNNqOHd68zfP2k43bQhSzeWW7ZWv"] [Hk,kg,AE9,AFJ] (BF AA8) [.NW 28 (.tmp 27)]
def gv(g:List UInt8)(e:List B3×Int->AA (List B3))(j:List B3×Int):AA (List B3):=let (c,h):=j;bd (AA8 g h) λa=>br (!a.snd) (some c) (gd (g0 c+[a.fst].length<=lim) (e (c++[a.fst],a.fst.Next)))
def pw(a:List UInt8):AA (List B3):=BE (gv a) big ([],0)
def vJ:=gZ TX wG DV ["PcXDhD3ONCZ3a0xtQ6F2x1T9IvIaIBT2tm9XJF6XjpZ9RACoZ48lggakVHNiyQGn0QCsyXmG4FRul9"] [APp] (Bm pw)
def AA9(a:Int):AA Int:=some a
def gw(c:List B3)(e:Int×Int->AA Int)(g a:Int)(h:Bool):AA Int:=br h (bd (at? c a) λq=>bd (at? c a) λj=>e (j.Next,w64 (a+1))) (jn AA9 g)
def ABA(h:Int)(c:List B3)(e:Int×Int->AA Int)(q:Int×Int):AA Int:=let (g,a):=q;br (decide (a<(g0 c))) (bd (at? c a) λy=>bd (at? c a) λj=>jn (gw c e g a) (decide (j.Seq<=h))) (jn (gw c e g a) false)
def AIE(a:Bo)(c:Int):AA Int:=bd (pw a.Log.Data) λe=>BE (ABA c e) big (0,0)
def APq:=gZ Zc DO Cv ["7tBcJFappjU2Vjj44C2aoJPD5EGsXhrgKV3IAJi8sw0JCsvEBKRg669vB2hkPf97It7KUEUwCbtyOncI","h1PCm1YYkE"] [vJ] (BF AIE)
def gx(g:List UInt8)(c:Int)(a e:Int×Int×Bool)(h:Bool):AA (B3×Bool):=br h (some (B3.mk 0 [] 0,false)) (some (B3.mk e.fst (an ((an ((w64 (w64 (c+a.snd.fst)+a.fst)).toNat-(w64 (c+a.snd.fst)).toNat) (n6 (w64 (c+a.snd.fst)).toNat g)).length-It e.snd.fst) (n6 (It e.snd.fst) (an ((w64 (w64 (c+a.snd.fst)+a.fst)).toNat-(w64 (c+a.snd.fst)).toNat) (n6 (w64 (c+a.snd.fst)).toNat g)))) (w64 (w64 (c+a.snd.fst)+a.fst)),true))
def W5(e:List UInt8)(c:Int)(a:Int×Int×Bool)(j:Bool):AA (B3×Bool):=br j (some (B3.mk 0 [] 0,false)) (gd (0<=w64 (c+a.snd.fst)/\w64 (c+a.snd.fst)<=w64 (w64 (c+a.snd.fst)+a.fst)/\w64 (w64 (c+a.snd.fst)+a.fst)<=e.length) (bd (gD (an ((w64 (w64 (c+a.snd.fst)+a.fst)).toNat-(w64 (c+a.snd.fst)).toNat) (n6 (w64 (c+a.snd.fst)).toNat e)) 4) λg=>br (!g.snd.snd) (some (B3.mk 0 [] 0,false)) (gd (0<=g.snd.fst/\g.snd.fst<=(↑(an ((w64 (w64 (c+a.snd.fst)+a.fst)).toNat-(w64 (c+a.snd.fst)).toNat) (n6 (w64 (c+a.snd.fst)).toNat e)).length:Int)) (bd (AHt g.fst (an ((an ((w64 (w64 (c+a.snd.fst)+a.fst)).toNat-(w64 (c+a.snd.fst)).toNat) (n6 (w64 (c+a.snd.fst)).toNat e)).length-It g.snd.fst) (n6 (It g.snd.fst) (an ((w64 (w64 (c+a.snd.fst)+a.fst)).toNat-(w64 (c+a.snd.fst)).toNat) (n6 (w64 (c+a.snd.fst)).toNat e))))) λh=>br (h==[]) (jn (gx e c a g) true) (gd (0<=c/\c<=w64 (w64 (c+a.snd.fst)+a.fst)/\w64 (w64 (c+a.snd.fst)+a.fst)<=e.length) (jn (gx e c a g) (h != an ((w64 (w64 (c+a.snd.fst)+a.fst)).toNat-c.toNat) (n6 c.toNat e))))))))
def ABB(c:List UInt8)(a:Int):AA (B3×Bool):=bd (NL a (↑c.length:Int)) λg=>br (!g) (some (B3.mk 0 [] 0,false)) (gd (0<=a/\(a<=if false=true then if w64 (a+5)>c.length then w64 (a+5) else (↑c.length:Int) else if w64 (a+5)<c.length then w64 (a+5) else (↑c.length:Int))/\(if false=true then if w64 (a+5)>c.length then w64 (a+5) else (↑c.length:Int) else if w64 (a+5)<c.length then w64 (a+5) else (↑c.length:Int))<=c.length) (bd (gD (an ((if false=true then if w64 (a+5)>c.length then w64 (a+5) else (↑c.length:Int) else if w64 (a+5)<c.length then w64 (a+5) else (↑c.length:Int)).toNat-a.toNat) (n6 a.toNat c)) 0) λe=>br (!e.snd.snd) (jn (W5 c a e) true) (br (decide (e.fst<6)) (jn (W5 c a e) true) (jn (W5 c a e) (decide (e.fst>w64 (w64 ((↑c.length:Int)-a)-e.snd.fst)))))))
def APr:=gZ [.v .s,.v .i] (.ret [(.st 15),.b]) [.cell 4 (some 3),.tmp 5] ["13cXSuBDsoJ2m0WllzTbpiOuSFfziLclanKoJPw0hndBaT5NLg8kiFQWbWfgSi7QlUVAXPSanN7op9J0","EosbovXPWJjAgIMlI4OiYLBrftUTEwkjqpsRBEBBQ0jgZHNkp71KQTi51c8e501JZiHySYf90UBbKrQJ","z4DVRROSQwAoPk5YnzeXEq3GpGNG99aElP8mX2Z5pQYwVTV2FzkyjmRtqXnGHxdY7bSWkoKZbIBm3CCQ","CPPSHLi37ky811bNAukUOIsHRCCEb0D5AAbPMJ1bwUP9MxzVpQwZrk9ktGa1rT4dTXh9CWbuArZUxqD"] [RZ,AFC,APV] (BF ABB) [.mm 27 false (.tmp 24) (.tmp 26),.NW 29 (.tmp 28),.NW 63 (.tmp 62)]
def gy(g:List UInt8)(e:List B3×Int->AA (List B3))(j:List B3×Int):AA (List B3):=let (c,h):=j;bd (ABB g h) λa=>br (!a.snd) (some c) (gd (g0 c+[a.fst].length<=lim) (e (c++[a.fst],a.fst.Next)))
def px(a:List UInt8):AA (List B3):=BE (gy a) big ([],0)
def vK:=gZ TX wG DV ["ATRqXpbMcv6DlE4gf695zqZGobz9hOobpusjKsmeyqtlVZaqZynJw6BXZOzv9jhm6VWaOOhWtwt"] [APr] (Bm px)
def gz(a:Int):AA Int:=some a
def ABC(j:Int)(c:List B3)(h:Int×Int->AA Int)(q:Int×Int):AA Int:=let (e,a):=q;br (decide (a<(g0 c))) (bd (at? c a) λy=>bd (at? c a) λg=>br (decide (g.Seq>j)) (jn gz e) (h (g.Next,w64 (a+1)))) (jn gz e)
def AIF(a:Bo)(c:Int):AA Int:=bd (px a.Log.Data) λe=>BE (ABC c e) big (0,0)
def APs:=gZ Zc DO Cv ["Ct1qjBI7qak1BCFzBm7IHUE29LjRnZzB3YLtlWcAgg7LlDzA0cUeQhkBvGtmfhOUwTdD13z34lobIzt9","LOU"] [vK] (BF AIF)
def g9(a:List Bp):AA (List Bp):=some a
def ABD(g:List B3)(h:List Bp×Int->AA (List Bp))(q:List Bp×Int):AA (List Bp):=let (a,c):=q;br (decide (c<g.length)) (bd (at? g c) λj=>bd (pJ j.Body) λe=>br (!e.snd) (jn g9 a) (gd (g0 a+[e.fst].length<=lim) (h (a++[e.fst],w64 (c+1))))) (jn g9 a)
def AIH(a:List B3):AA (List Bp):=BE (ABD a) big ([],0)
def APt:=gZ [.v (.l (.st 15))] (.ret [(.l (.st 0))]) DV ["2B393TRPyJqZGfJ9q7j8C6PEygZvv8iePCNblwPK0bartMFwlYKu7RYA9fvOY4wHxaqWRBaboW793NXE","9NjrZ8JORVC49WeW"] [AFB] (Bm AIH)
def iA(a:List Bp):AA (List Bp):=some a
def ABE(g:List B3)(h:List Bp×Int->AA (List Bp))(q:List Bp×Int):AA (List Bp):=let (a,c):=q;br (decide (c<g.length)) (bd (at? g c) λj=>bd (AAb j.Body) λe=>br (!e.snd) (jn iA a) (gd (g0 a+[e.fst].length<=lim) (h (a++[e.fst],w64 (c+1))))) (jn iA a)
def AII(a:List B3):AA (List Bp):=BE (ABE a) big ([],0)
def APu:=gZ [.v (.l (.st 15))] (.ret [(.l (.st 0))]) DV ["XaG2IcutetbzK8opmGbclwu3NczWdsYb6Ivb39su64UsnbdCzv5WrD8ILAf61wYcSPZrFhKHkq5okBJa","1ieTewMT31key16W1VbfDbdSsgO5"] [APX] (Bm AII)
def AOJ(a:List UInt8):AA Bool:=some (decide ((↑a.length:Int)>1048576))
def APv:=gZ Vo DL DV ["127Q4AgRWVziXs"] [] (Bm AOJ)
def ABG(a:List UInt8)(c:Int):AA BS:=some (BS.mk a 0 c)
def iB(a:List UInt8)(g:Int×Int->AA BS)(c e:Int)(h:Bool):AA BS:=br h (bd (at? a e) λj=>g (dq (w64 (w64 (w64 (c*131)+w64 (↑(s4 j):Int))+7)) 1073741823,w64 (e+1))) (jn (ABG a) c)
def ABH(c:List UInt8)(e:Int×Int->AA BS)(h:Int×Int):AA BS:=let (g,a):=h;br (decide (a<c.length)) (jn (iB c e g a) (decide (a<4000))) (jn (iB c e g a) false)
def ABF(a:List UInt8):AA BS:=BE (ABH a) big (w64 (28285+(↑a.length:Int)),0)
def AFM:=gZ Vo (.ptr 0 (.st 17)) [.bx 2] ["9q7Z6ctJcOiRUvux6Qg3hhHA2WqMo2PS3oOjmzsRgMYYm1i6h0ifd6O7VR6SGfJOMHcVuOcjsllPiFhm","2aiXKh2jMTWcLf34"] [] (Bm ABF)
def iC(e:Int×BS):AA (Int×BS):=let (a,c):=e;some (a,c)
def ay(a:BS):AA (Int×BS):=br (decide (a.i_<a.b_.length)) (bd (at? a.b_ a.i_) λc=>jn iC (dq (w64 (dq (Uz (EB (w64 (w64 (a.h_*6364136223846793005)+1442695040888963407)) 33) (EB (w64 (w64 (a.h_*6364136223846793005)+1442695040888963407)) 45)) 255+w64 (↑(s4 c):Int))) 255,BS.mk a.b_ (w64 (a.i_+1)) (w64 (w64 (a.h_*6364136223846793005)+1442695040888963407)))) (jn iC (dq (Uz (EB (w64 (w64 (a.h_*6364136223846793005)+1442695040888963407)) 33) (EB (w64 (w64 (a.h_*6364136223846793005)+1442695040888963407)) 45)) 255,BS.mk a.b_ a.i_ (w64 (w64 (a.h_*6364136223846793005)+1442695040888963407))))
def APw:=gZ vu DO DV ["2zxGxeqwLokYkUFamZAadXjtcetNXbvwqX27j0W4fFiQfYzRCCcuGVZrcWA23oyPPWq2txB3UGcbW2Cv","8gm4Ar4Q8p99vXLLe4txx0qI1LOeaLgyUkH9V4ypf2Q7JEzVko7ga3qZZWY8vacQSPLrIETHk"] [] (Bm ay)
def EE(c:BS)(a:Int):AA (Int×BS):=br (decide (a<=0)) (some (0,c)) (br (decide (a<=256)) (bd (ay c) λe=>gd (a≠0) (some (s3 e.fst a,e.snd))) (bd (ay c) λg=>bd (ay g.snd) λh=>bd (ay h.snd) λj=>bd (ay j.snd) λq=>gd (a≠0) (some ((w64 (w64 (w64 (w64 (g.fst*16777216)+w64 (h.fst*65536))+w64 (j.fst*256))+q.fst)).tmod a,q.snd))))
def M4:=gZ [.b (.st 17),.v .i] DO Cv ["1drNPWG7sH2juDkkMcycKtpdWUH2lcaGVkiNfynjMl7UShS4SdOiUvpH52lSNTMXgeQLONmR5WmigAlm","5dOAee1HeZw"] [APw] (BF EE)
def ABJ(e:BS×AY):AA (AY×BS):=let (a,c):=e;some (c,a)
def ABK(j:Int×BS)(h:Int×BS×AY->AA (AY×BS))(q:Int×BS×AY):AA (AY×BS):=let (e,g,a):=q;br (decide (e<w64 (1+j.fst))) (bd (EE g 12) λc=>gd (a.AX.length+[w64 (2+c.fst)].length<=lim) (h (w64 (e+1),c.snd,AY.mk (a.AX++[w64 (2+c.fst)]) a.CZ a.Room a.BK a.CI a.B6 a.Rest a.Cg a.C4))) (jn ABJ (g,a))
def ABI(E:BS):AA (AY×BS):=bd (EE E 5) λa=>bd (EE a.snd 9) λc=>bd (EE c.snd 6) λe=>bd (EE e.snd 5) λg=>bd (EE g.snd 4) λh=>bd (EE h.snd 4) λj=>bd (EE j.snd 4) λq=>bd (EE q.snd 3) λy=>bd (EE y.snd 3) λB=>BE (ABK B) big (0,B.snd,AY.mk [] (w64 (1+a.fst)) (w64 (2+c.fst)) (w64 (1+e.fst)) (w64 (1+g.fst)) (w64 (1+h.fst)) j.fst (w64 (1+q.fst)) (w64 (1+y.fst)))
def AFN:=gZ vu ky lA ["K7JhnmOy1yUEbUcEDkfvOAfPWaUAmmFxZscs0qLL8OywkxBYbRBc7J5mGLKuJN8KdF9zq9aETJEYyOyr","qa5DKJ0I1FwXyXVbYBfhrcMmJ1YzPEG7OWcbFj3vIBkvbaNU1v20CV80Ddz65OkeH5KVHca61tXKuztI","e8hgQRMioPE6i5RG"] [M4] (Bm ABI)
def S7(c:BS)(e:Int):AA (Bool×BS):=bd (EE c e) λa=>some (a.fst==0,a.snd)
def kh:=gZ [.b (.st 17),.v .i] DL Cv ["czg3cI64GVaCQM"] [M4] (BF S7)
def ABL(_:PUnit):AA Int:=some (-1)
def ABM(c:List AU)(g:Int)(e:Int->AA Int)(a:Int):AA Int:=br (decide (a<c.length)) (bd (at? c a) λh=>br (h.Id==g) (some a) (e (w64 (a+1)))) (jn ABL ())
def py(a:List AU)(c:Int):AA Int:=BE (ABM a c) big 0
def vL:=gZ Po DO Cv ["7MFQvXZKT1shHNi3hbnuyDZB0E7UyITLx1xItjnD0YsqZ4Et"] [] (BF py)
def AaJ:YF:=⟨[],[.v (.l (.st 2)),.v (.st 2)],[],.ret [(.l (.st 2))],[.tmp 4],dY ["EZKIXWTHIcIx8itlrBUVnldiUrfZT3P5uq1ZOwy1QWPV1tKvQw8RLYufXAgkF3aCXd67b1OAfxPvcH0M","FHqiKFBr5Bo1dEF0yL2j3jaq6QoZcHToECWh6oRtNZwK7wlCHwOJembuadnQE8iFmsIoQ99VDfQLZlPV","vWA2Kb5XuwwmvPfnToKcHhwjJf97DgbIDCEJ61M25IIUNR4qnfVsvI7Dd2"] [vL]⟩
def iE(c:List AU)(e:AU)(a:Int):AA (List AU):=gd (0<=a/\a<=c.length) (gd (0+(an a.toNat c).length<=lim) (gd (([]++an a.toNat c).length+[e].length<=lim) (gd (0+(an a.toNat c).length<=lim) (gd (([]++an a.toNat c).length+[e].length<=lim) (eqv ([]++an a.toNat c++[e]) ([]++an a.toNat c++[e]) (gd (0+(an a.toNat c).length<=lim) (gd (([]++an a.toNat c).length+[e].length<=lim) (eqv ([]++an a.toNat c++[e]) ([]++an a.toNat c++[e]) (gd (0<=a/\a<=c.length) (gd (([]++an a.toNat c++[e]).length+(n6 a.toNat c).length<=lim) (some ([]++an a.toNat c++[e]++n6 a.toNat c))))))))))))
def W6(e:List AU)(g:AU)(c:Int->AA (List AU))(a:Int)(h:Bool):AA (List AU):=br h (c (w64 (a+1))) (jn (iE e g) a)
def iF(a:List AU)(e:AU)(g:Int->AA (List AU))(c:Int):AA (List AU):=br (decide (c<a.length)) (bd (at? a c) λh=>jn (W6 a e g c) (decide (h.Id<e.Id))) (jn (W6 a e g c) false)
def iD(a:List AU)(e:AU):AA (List AU):=bd (py a e.Id) λc=>gd (0+a.length<=lim) (br (decide (c>=0)) (bd (at? ([]++a) c) λg=>bd (at? ([]++a) c) λh=>some (([]++a).set (It c) e)) (BE (iF a e) big 0))
def kj:GF:=AaJ.gf rfl rfl (λa=>iD a.1 a.2.1) (λa=>by kernel_rfl)
def iH(h:A2)(a:Bc)(c:A2)(j:Bool):AA (A2×Bool):=br j (some (c,false)) (bd (at? c.Au (a.At.tmod 9)) λB=>bd (at? c.Au (a.At.tmod 9)) λq=>bd (ALE q a) λg=>bd (at? c.Au (a.At.tmod 9)) λE=>bd (at? c.Au (a.At.tmod 9)) λG=>bd (ny (A2.mk (c.Au.set (a.At.tmod 9).toNat g))) λy=>br (!y) (bd (gK h) λe=>some (e,false)) (some (A2.mk (c.Au.set (a.At.tmod 9).toNat g),true)))
def iG(a:A2)(c:Bc):AA (A2×Bool):=bd (gK a) λe=>bd (ny a) λg=>br (!g) (jn (iH a c e) true) (jn (iH a c e) (decide (c.At<1)))
def vM:=gZ vz Zi wN ["4EdfsBoodJeZQLINZuQJOFtvHbfzn4T0fdQyy4YagREPerqWrjXYYOBfZ3wgjgEsh671E5T3PPnYrD2q","e5SMQq6qAabY5QleEv80ktyzhUUcITq5E2Yyvw"] [vD,rI,AJw] (BF iG)
def W7(a:List Int)(c:Int):AA (List Int):=gd (0+a.length<=lim) (bd (AK9 a c) λe=>br e (some ([]++a)) (gd (([]++a).length+[c].length<=lim) (some ([]++a++[c]))))
def ZY:=gZ rK OV Cv ["IiSHYdJnIscOM67zAPZRU2vUtsiKkMu7NuVJDmL"] [AJs] (BF W7)
def AaK:YF:=⟨[],[.b (.st 17),.v (.st 8)],[],.ret [(.st 0)],[.cell 4 (some 6)],dY ["68ciPYY9E1tjeMiS6uPWrCRcwLvtvBgPm5jMdMgvGNx5q9oaqdaP4BKBEtKzfqLUotA9s7EdlsW22yf3","kTfqJ67bq5LA6hNpsHS7BZABSCdcM4wuT9Aw1cGCUfNWpV5bmFLifX21hHgj2CP1SxOSDxKaT0DDnxzS","pGijQ0eRVktg14MAhZkf0ZFPgJd94nzDl6MVO0rR54T9TXLj9mzq7Xp6iqV13gsXDQlnjZxkhf8by87e","lB4ZTkjDzVzpAsWUGFZTNlRvdZ4jRdnkp8WEzYk1BQz3IcPRl3iYYRCf3efeQf9sVqlcyLYo4S1993bX","Maw6WFPLSqs9RRwo9ghfTxMYeQq566WGOSbDSCpnDXMlOPKm5w0EvI3Ir4hILS7vXtMkvdjCXOUuJFwE","VgdmVcNZJpkFpc0jtuY95lVYuwZ8Y4AFea8pr8jKTReDSG5uHOmwpg0WK8JmdLA631GVT7ehXk5YkyGi","QjR08omQVXlMQFO5lzaoClUC8SwiO3C8SMumLN4EWwp6qF954g5SBybjfbSGjQLTDLNywWkafa2vjwbv","cNI1hYjcLfraocTeWFDpMN2oJwTNf3UYtcbpQbfVxF8e2GGin87ALpDRa6IRBKwS6R5OnCw9iK0nWtwU","qgHNbJJgHEWCdh22iJvtZijoTswIm52L8CMzQ6S5vHcL8r0dDpyzV6WpBt4ZAPWGkTojetlbXoEfDVAL","eWMhFBFS5pdMvgiCHiptkg8dv1D2mF"] [M4,kh,kr]⟩
def iI(e:BS×Bp):AA (Bp×BS):=let (a,c):=e;some (c,a)
def XA(y:AE)(q B:Int)(a:Int×BS)(h:Bool):AA (Bp×BS):=br h (bd (EE a.snd B) λc=>bd (EE c.snd 4) λe=>some (Bp.mk 3 0 c.fst 0 (w64 (1+e.fst)) 0,e.snd)) (br (a.fst==7) (some (Bp.mk 4 q 0 0 0 0,a.snd)) (br (a.fst==8) (some (Bp.mk 5 q 0 0 0 0,a.snd)) (br (a.fst==9) (some (Bp.mk 6 0 0 0 0 0,a.snd)) (bd (O0 1 y.AQ.C4) λj=>bd (EE a.snd j) λg=>some (Bp.mk 7 g.fst 0 0 0 0,g.snd)))))
def QR(j:AE)(v7 y:Int)(h:Int×BS)(v11:Bool):AA (Bp×BS):=br v11 (bd (EE h.snd 14) λg=>bd (EE g.snd y) λc=>bd (O0 1 j.AQ.BK) λB=>bd (EE c.snd B) λe=>bd (O0 1 j.AQ.CZ) λE=>bd (EE e.snd E) λa=>bd (EE e.snd E) λG=>Pc a.snd G.snd (ev5 (1:Int) (w64 (1+g.fst)) c.fst ((-1):Int) (w64 (1+e.fst)) (eqv a.fst G.fst (bd (O0 1 j.AQ.CZ) λx19=>bd (EE e.snd x19) λH=>Pc a.snd H.snd (ev5 (1:Int) (w64 (1+g.fst)) c.fst ((-1):Int) (w64 (1+e.fst)) (eqv a.fst H.fst (bd (EE c.snd B) λI=>bd (O0 1 j.AQ.CZ) λx22=>bd (EE I.snd x22) λJ=>Pc a.snd J.snd (ev4 (1:Int) (w64 (1+g.fst)) c.fst ((-1):Int) (eqv (w64 (1+e.fst)) (w64 (1+I.fst)) (eqv a.fst J.fst (bd (O0 1 j.AQ.BK) λx24=>bd (EE c.snd x24) λL=>bd (O0 1 j.AQ.CZ) λx26=>bd (EE L.snd x26) λO=>Pc a.snd O.snd (ev4 (1:Int) (w64 (1+g.fst)) c.fst ((-1):Int) (eqv (w64 (1+e.fst)) (w64 (1+L.fst)) (eqv a.fst O.fst (bd (EE g.snd y) λQ=>bd (O0 1 j.AQ.BK) λx29=>bd (EE Q.snd x29) λS=>bd (O0 1 j.AQ.CZ) λx31=>bd (EE S.snd x31) λX=>Pc a.snd X.snd (ev2 (1:Int) (w64 (1+g.fst)) (eqv c.fst Q.fst (eqv (α:=Int) (-1) (-1) (eqv (w64 (1+e.fst)) (w64 (1+S.fst)) (eqv a.fst X.fst (bd (EE h.snd 14) λY=>bd (EE Y.snd y) λZ=>bd (O0 1 j.AQ.BK) λx35=>bd (EE Z.snd x35) λx36=>bd (O0 1 j.AQ.CZ) λx37=>bd (EE x36.snd x37) λx38=>Pc a.snd x38.snd (eqv (α:=Int) 1 1 (eqv (w64 (1+g.fst)) (w64 (1+Y.fst)) (eqv c.fst Z.fst (eqv (α:=Int) (-1) (-1) (eqv (w64 (1+e.fst)) (w64 (1+x36.fst)) (eqv a.fst x38.fst (bd (S7 a.snd 3) λq=>br q.fst (bd (EE q.snd y) λx40=>jn iI (x40.snd,Bp.mk 1 (w64 (1+g.fst)) c.fst x40.fst (w64 (1+e.fst)) a.fst)) (jn iI (q.snd,Bp.mk 1 (w64 (1+g.fst)) c.fst (-1) (w64 (1+e.fst)) a.fst)))))))))))))))))))))))))))))) (br (h.fst==4) (some (Bp.mk 2 v7 0 0 0 0,h.snd)) (br (h.fst==5) (jn (XA j v7 y h) (h.fst==5)) (jn (XA j v7 y h) (h.fst==6))))
def W9(c:AE)(j:Int×BS):AA (Bp×BS):=let (e,h):=j;bd (O0 1 (↑c.AQ.AX.length:Int)) λg=>bd (EE h 12) λa=>br (a.fst==0) (jn (QR c e g a) (a.fst==0)) (br (a.fst==1) (jn (QR c e g a) (a.fst==1)) (br (a.fst==2) (jn (QR c e g a) (a.fst==2)) (jn (QR c e g a) (a.fst==3))))
def W8(a:AE)(h:Int×BS)(q:Bool×BS):AA (Bp×BS):=let (g,c):=q;br g (bd (EE c (↑a.AG.length:Int)) λe=>bd (at? a.AG e.fst) λj=>jn (W9 a) (j.Id,e.snd)) (jn (W9 a) (w64 (1+h.fst),c))
def ABN(g:BS)(c:AE):AA (Bp×BS):=bd (EE g 12) λa=>br (decide ((↑c.AG.length:Int)>0)) (bd (S7 a.snd 3) λe=>jn (W8 c a) (!e.fst,e.snd)) (jn (W8 c a) (false,a.snd))
def APx:GF:=AaK.gf rfl rfl (λa=>ABN a.1 a.2.1) (λa=>by kernel_rfl)
def pz(e:BS)(a:List Int):AA (Int×BS):=bd (EE e (↑a.length:Int)) λc=>bd (at? a c.fst) λg=>some (g,c.snd)
def vN:=gZ [.b (.st 17),.v (.l .i)] DO Cv ["34c0WBaVPuZmaUeoXJOg"] [M4] (BF pz)
def iJ(a:List B3×Int×Int->AA (List B3))(c:Int)(h:List B3×Int):AA (List B3):=let (e,g):=h;a (e,g,w64 (c+1))
def iK(a:List B3):AA (List B3):=some a
def ABO(j:List B3)(h:List B3×Int×Int->AA (List B3))(q:List B3×Int×Int):AA (List B3):=let (a,c,e):=q;br (decide (e<j.length)) (bd (at? j e) λg=>br (decide (g.Seq<=c)) (jn (iJ h e) (a,c)) (br (g.Seq != w64 (c+1)) (jn iK a) (gd (g0 a+[g].length<=lim) (jn (iJ h e) (a++[g],w64 (c+1)))))) (jn iK a)
def AIJ(a:List B3)(c:Int):AA (List B3):=BE (ABO a) big ([],c,0)
def APy:=gZ [.v (.l (.st 15)),.v .i] wG Cv ["dV4bHs7sl35LR417BexE6dBGCA22h16HfCq2DL4NS9xGq2C43Gkwi2eDhKtULUfZizzqP5gv9t7z46wU","4tqF6k5kYJDNEO7CqF90Nf7SxVPVScuwYNFPSgg"] [] (BF AIJ)
end Lv
