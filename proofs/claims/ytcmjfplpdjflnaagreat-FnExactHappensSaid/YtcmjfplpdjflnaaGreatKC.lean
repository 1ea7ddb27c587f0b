/- Functions of the program as typed texts and as plain functions. -/
import Derived.Test.YtcmjfplpdjflnaaGreatKB
open UInt8 renaming toNat->n6
open List renaming length->e9,take->e8,drop->g0,replicate->c5
open Int renaming toNat->o4
noncomputable section
set_option linter.unusedVariables false
set_option linter.unusedSimpArgs false
set_option linter.unusedSectionVars false
set_option maxRecDepth 100000
namespace Lv
open Go (IntKind BinOp UnOp)
open Y (YF qn qf qt qr q1 qd qm qa qo ql qL qb qi qx qp qq qc qz qe qk qK qB qw qu qj Kp wn wf wt w1 sw sq sr wm wM wo wO wl wL wk wK wz wZ wx wX wb wB wi wI wr wR wq wQ we wE wc wY wj wh cv ca cx cn ce bl)
def VM(c e a:Int)(h:UInt8)(g:Bool):AA (Int×Int×Bool):=br g (some (0,0,false)) (some (orI e (lu ((w64 (↑(n6 h):Int)).tmod 128) (w64 (7*a))),w64 (w64 (c+a)+1),true))
def VL(j:List UInt8)(g:Int)(h:Int×Int->AA (Int×Int×Bool))(e a:Int)(q:Bool):AA (Int×Int×Bool):=br q (some (0,0,false)) (bd (at? j (w64 (g+a))) fun c=>gd (¬w64 (7*a)<0) (br (decide (w64 (↑(n6 c):Int)<128)) (br (decide (a>0)) (br (w64 (↑(n6 c):Int)==0) (jn (VM g e a c) true) (jn (VM g e a c) (decide (orI e (lu ((w64 (↑(n6 c):Int)).tmod 128) (w64 (7*a)))>2147483647)))) (jn (VM g e a c) (decide (orI e (lu ((w64 (↑(n6 c):Int)).tmod 128) (w64 (7*a)))>2147483647)))) (h (orI e (lu ((w64 (↑(n6 c):Int)).tmod 128) (w64 (7*a))),w64 (a+1)))))
def zF(_:PUnit):AA (Int×Int×Bool):=some (0,0,false)
def OW(e:List UInt8)(a:Int)(g:Int×Int->AA (Int×Int×Bool))(j:Int×Int):AA (Int×Int×Bool):=let (h,c):=j;br (decide (c<5)) (br (decide (a<0)) (jn (VL e a g h c) true) (jn (VL e a g h c) (decide (a>=w64 ((↑e.length:Int)-c))))) (jn zF ())
def dh(a:List UInt8)(c:Int):AA (Int×Int×Bool):=A3 (OW a c) big (0,0)
def AEB:=gZ [.v (.l .u),.v .i] (.ret [.i,.i,.b]) [.tmp 4,.tmp 5,.tmp 6] ["EUFg4fnL50fOEu4X1EQRplqfYWmVOIDypr5KmdN1rqu2d8aEARzr2WRML1rTj01e2fo7ye4qoE40i2kZ","UwpVe8Uzq7LWMtHWtKuVm7VQVAdcfNMn2jttthk6xmyLevCiFZdfQPKcxfwfYO37LjExrNW91bGwgi43","BSZZIE5ot9gWdqJb9cnghB86"] [] (Ah dh)
def zH(a:List Int):AA ((List Int)×Bool):=some (a,true)
def di(e:List UInt8)(h:List Int×Int->AA (List Int×Bool))(j:List Int×Int):AA ((List Int)×Bool):=let (c,g):=j;br (decide (g<e.length)) (bd (dh e g) fun a=>br (!a.snd.snd) (some ([],false)) (gd (e9 c+[a.fst].length<=lim) (h (c++[a.fst],a.snd.fst)))) (jn zH c)
def zG(a:List UInt8):AA ((List Int)×Bool):=A3 (di a) big ([],0)
def AEC:=gZ RL (.ret [(.l .i),.b]) [.tmp 2,.tmp 3] ["3PmJEpTM4EpCbRbk90RkCeX2PdNgo4bXrr8t2VWpl3rmehgtWJjrAmSmRi4rR7mgmDPV9P17LZmhkbzb","JGFxRq0p6SBIouotldJldH"] [AEB] (Be zG) [.MF 11 (.tmp 10)]
def OX(c:List UInt8)(a:Bo):AA (Bo×Bool):=bd (zZ a) fun e=>br (e != c) (some (Bo.mk 0 0 0 0 0 0,false)) (some (a,true))
def VN(c:List UInt8)(a:List Int×Bool)(H:Bool):AA (Bo×Bool):=br H (some (Bo.mk 0 0 0 0 0 0,false)) (bd (at? a.fst 0) fun Z=>bd (at? a.fst 0) fun G=>br ((↑(e9 a.fst):Int)==2) (bd (at? a.fst 1) fun x5=>bd (at? a.fst 1) fun Y=>jn (OX c) (Bo.mk G Y 0 0 0 0)) (br ((↑(e9 a.fst):Int)==3) (bd (at? a.fst 1) fun x9=>bd (at? a.fst 1) fun e=>bd (at? a.fst 2) fun I=>bd (at? a.fst 2) fun g=>jn (OX c) (Bo.mk G 0 e 0 g 0)) (br ((↑(e9 a.fst):Int)==6) (bd (at? a.fst 0) fun J=>bd (at? a.fst 0) fun h=>bd (at? a.fst 1) fun L=>bd (at? a.fst 1) fun j=>bd (at? a.fst 2) fun O=>bd (at? a.fst 2) fun q=>bd (at? a.fst 3) fun Q=>bd (at? a.fst 3) fun y=>bd (at? a.fst 4) fun S=>bd (at? a.fst 4) fun B=>bd (at? a.fst 5) fun X=>bd (at? a.fst 5) fun E=>jn (OX c) (Bo.mk h j q (w64 (y-1)) B E)) (jn (OX c) (Bo.mk G 0 0 0 0 0)))))
def nB(a:List UInt8):AA (Bo×Bool):=br (decide ((↑a.length:Int)>60)) (some (Bo.mk 0 0 0 0 0 0,false)) (bd (zG a) fun c=>br (!c.snd) (jn (VN a c) true) (jn (VN a c) ((↑(e9 c.fst):Int)==0)))
def AED:=gZ RL (.ret [(.st 0),.b]) [.cell 2 (some 6),.tmp 3] ["2EXEMPA7BddjVRC6LXPyfesKxIm3WkvhxLAoDRso1TK2PDxLJ70mNNN62iYCupaCKtX8ZHyUqostzUOj","mDUJviq0Uq6mIAyM76qcC8VWndjlDKqZfAxYNbwVNUPuLRbzkmTzrffJIqbdQOln7nPIdbBLVY6ai8WN","mf9RSW20L45betIt2hFf2iqGxkymBZFZb8iYQqfJsBUMPzBd92ke6ebeIY4fHMUaEvBOdF0r6OWqv8"] [AEC,AEH] (Be nB)
def dk(_:PUnit):AA (Int×Int×Bool):=some (0,0,false)
def VO(j:List UInt8)(g:Int)(h:Int×Int->AA (Int×Int×Bool))(e a:Int)(q:Bool):AA (Int×Int×Bool):=br q (bd (at? j (w64 (g+a))) fun c=>gd (¬w64 (7*a)<0) (br (decide (w64 (↑(n6 c):Int)<128)) (bd (VC (w64 (e+lu ((w64 (↑(n6 c):Int)).tmod 128) (w64 (7*a))))) fun y=>br ((↑(e9 y):Int) != w64 (a+1)) (some (0,0,false)) (some (w64 (e+lu ((w64 (↑(n6 c):Int)).tmod 128) (w64 (7*a))),w64 (w64 (g+a)+1),true))) (h (w64 (e+lu ((w64 (↑(n6 c):Int)).tmod 128) (w64 (7*a))),w64 (a+1))))) (jn dk ())
def Qu(c:List UInt8)(e:Int)(g:Int×Int->AA (Int×Int×Bool))(j:Int×Int):AA (Int×Int×Bool):=let (h,a):=j;br (decide (a<5)) (jn (VO c e g h a) (decide (w64 (e+a)<c.length))) (jn (VO c e g h a) false)
def dj(a:List UInt8)(c:Int):AA (Int×Int×Bool):=bd (C0 c 0 (w64 ((↑a.length:Int)-1))) fun e=>br (!e) (some (0,0,false)) (A3 (Qu a c) big (0,0))
def AEE:=gZ [.v (.l .u),.v .i] (.ret [.i,.i,.b]) [.tmp 4,.tmp 5,.tmp 6] ["46XHTP4DINUe0ywsHREfbcF1GW5gCCdMPEszjLDXyGkvENjMUK5JNQjgzK6Q017YJFv6LM5iWVzNv43b","KhJRgdrr7cMErV55qj0LeftRDx4gN8KVrFUVhUjbtMFSppSaEjEgOM8lfoQGui43AAnLlbWmLMS6fUwR","O1kVNyi"] [Eb,Xn] (Ah dj)
def zJ(a:List Int):AA ((List Int)×Bool):=some (a,true)
def dm(e:List UInt8)(h:List Int×Int->AA (List Int×Bool))(j:List Int×Int):AA ((List Int)×Bool):=let (c,g):=j;br (decide (g<e.length)) (bd (dj e g) fun a=>br (!a.snd.snd) (some ([],false)) (gd (e9 c+[a.fst].length<=lim) (h (c++[a.fst],a.snd.fst)))) (jn zJ c)
def zI(a:List UInt8):AA ((List Int)×Bool):=A3 (dm a) big ([],0)
def AEF:=gZ RL (.ret [(.l .i),.b]) [.tmp 2,.tmp 3] ["7G95XFJU6fcFpv1jlBfhQqhzPmHmlmCXcUFbzZ5J6kDELLBrMelz2261f88JcX6DtHapNlVk3AXR4D0W","6YYqn0xg3eMHUKJFkp"] [AEE] (Be zI) [.MF 11 (.tmp 10)]
def dp(a:Bo)(c:Bool):AA (Bo×Bool):=br c (some (Bo.mk 0 0 0 0 0 0,false)) (some (a,true))
def OY(e:List UInt8)(a:Bo):AA (Bo×Bool):=bd (zf a) fun c=>br (c==[]) (jn (dp a) true) (jn (dp a) (c != e))
def VP(e:List UInt8)(a:List Int×Bool)(E:Bool):AA (Bo×Bool):=br E (some (Bo.mk 0 0 0 0 0 0,false)) (bd (at? a.fst 0) fun S=>bd (at? a.fst 0) fun c=>gd ((0:Int)<=1/\1<=(↑(e9 a.fst):Int)) (gd (o4 1+(e9 a.fst-o4 1)=e9 a.fst) (gd ((e8 (e9 a.fst-o4 1) (g0 (o4 1) a.fst)).length+o4 5<=lim) (br (c==1) (bd (at? (e8 (e9 a.fst-o4 1) (g0 (o4 1) a.fst)++c5 (o4 5) 0) 0) fun X=>bd (at? (e8 (e9 a.fst-o4 1) (g0 (o4 1) a.fst)++c5 (o4 5) 0) 0) fun O=>bd (at? (e8 (e9 a.fst-o4 1) (g0 (o4 1) a.fst)++c5 (o4 5) 0) 1) fun Y=>bd (at? (e8 (e9 a.fst-o4 1) (g0 (o4 1) a.fst)++c5 (o4 5) 0) 1) fun Q=>bd (at? (e8 (e9 a.fst-o4 1) (g0 (o4 1) a.fst)++c5 (o4 5) 0) 2) fun Z=>bd (at? (e8 (e9 a.fst-o4 1) (g0 (o4 1) a.fst)++c5 (o4 5) 0) 2) fun g=>bd (at? (e8 (e9 a.fst-o4 1) (g0 (o4 1) a.fst)++c5 (o4 5) 0) 3) fun G=>bd (at? (e8 (e9 a.fst-o4 1) (g0 (o4 1) a.fst)++c5 (o4 5) 0) 3) fun h=>bd (at? (e8 (e9 a.fst-o4 1) (g0 (o4 1) a.fst)++c5 (o4 5) 0) 4) fun H=>bd (at? (e8 (e9 a.fst-o4 1) (g0 (o4 1) a.fst)++c5 (o4 5) 0) 4) fun j=>jn (OY e) (Bo.mk c O Q (w64 (g-1)) h j)) (br (c==3) (bd (at? (e8 (e9 a.fst-o4 1) (g0 (o4 1) a.fst)++c5 (o4 5) 0) 0) fun I=>bd (at? (e8 (e9 a.fst-o4 1) (g0 (o4 1) a.fst)++c5 (o4 5) 0) 0) fun q=>bd (at? (e8 (e9 a.fst-o4 1) (g0 (o4 1) a.fst)++c5 (o4 5) 0) 1) fun J=>bd (at? (e8 (e9 a.fst-o4 1) (g0 (o4 1) a.fst)++c5 (o4 5) 0) 1) fun y=>jn (OY e) (Bo.mk c 0 q 0 y 0)) (br (c==6) (jn (OY e) (Bo.mk c 0 0 0 0 0)) (bd (at? (e8 (e9 a.fst-o4 1) (g0 (o4 1) a.fst)++c5 (o4 5) 0) 0) fun L=>bd (at? (e8 (e9 a.fst-o4 1) (g0 (o4 1) a.fst)++c5 (o4 5) 0) 0) fun B=>jn (OY e) (Bo.mk c B 0 0 0 0))))))))
def zK(c:List UInt8):AA (Bo×Bool):=bd (zI c) fun a=>br (!a.snd) (jn (VP c a) true) (jn (VP c a) ((↑(e9 a.fst):Int)==0))
def AQZ:=gZ RL (.ret [(.st 0),.b]) [.cell 2 (some 6),.tmp 3] ["6uzj828QcXTKmZUuRrr0Y4hLrNfUcLdcdDQXy8tmnVTJepcMrH6rr1JX3RJOLx0oDTGsqnAaFk6Yqwlo","AxwDjZm2vWynjARzKLCi78QZVRaAn44OxGo8z8RQ9kSYYU3yQvbplKHO0QOQXE7Ua3XkFoqgG0118Hgo","2uRShwCX9FINqAD01wHWiALkUMbMWDAX3Ojz3XwYqglWpJmMHqKLMFD73WURiFyZHOHdPXBAtwNl9fX1","N1OCrqtBdLQ024vpGgv2S7yavox5HK5m2B2ct6XFB"] [AEF,AEK] (Be zK) [.Qd 28 .i (.tmp 27) (.k (.int .i64 5))]
def eR(a c:Int):AA Int:=br (decide (a<c)) (some a) (some c)
def jA:=gZ sW CZ Bw ["IrSfXkAt8rnTsAgc5cAq"] [] (Ah eR)
def eT(g:List UInt8)(c j:Int)(a e:Int×Int×Bool)(h:Bool):AA (Bu×Bool):=br h (some (Bu.mk 0 [] 0,false)) (some (Bu.mk e.fst (e8 ((w64 (a.snd.fst+a.fst)).toNat-o4 e.snd.fst) (g0 (o4 e.snd.fst) (e8 (o4 j-c.toNat) (g0 c.toNat g)))) (w64 (w64 (c+a.snd.fst)+a.fst)),true))
def eS(g:List UInt8)(c h:Int)(a e:Int×Int×Bool)(j:Bool):AA (Bu×Bool):=br j (some (Bu.mk 0 [] 0,false)) (gd (0<=e.snd.fst/\e.snd.fst<=w64 (a.snd.fst+a.fst)/\w64 (a.snd.fst+a.fst)<=(↑(e8 (o4 h-c.toNat) (g0 c.toNat g)).length:Int)) (gd (0<=w64 (a.snd.fst+a.fst)/\w64 (a.snd.fst+a.fst)<=(↑(e8 (o4 h-c.toNat) (g0 c.toNat g)).length:Int)) (bd (za e.fst (e8 ((w64 (a.snd.fst+a.fst)).toNat-o4 e.snd.fst) (g0 (o4 e.snd.fst) (e8 (o4 h-c.toNat) (g0 c.toNat g))))) fun q=>br (q != e8 ((w64 (a.snd.fst+a.fst)).toNat-0) (g0 0 (e8 (o4 h-c.toNat) (g0 c.toNat g)))) (jn (eT g c h a e) true) (jn (eT g c h a e) (e8 ((w64 (a.snd.fst+a.fst)).toNat-o4 e.snd.fst) (g0 (o4 e.snd.fst) (e8 (o4 h-c.toNat) (g0 c.toNat g)))==[])))))
def VV(g:List UInt8)(c h:Int)(a:Int×Int×Bool)(j:Bool):AA (Bu×Bool):=br j (some (Bu.mk 0 [] 0,false)) (bd (dh (e8 (o4 h-c.toNat) (g0 c.toNat g)) (w64 (a.snd.fst+4))) fun e=>br (!e.snd.snd) (jn (eS g c h a e) true) (jn (eS g c h a e) (decide (e.snd.fst>w64 (a.snd.fst+a.fst)))))
def zp(c:List UInt8)(a:Int):AA (Bu×Bool):=bd (ED a 0 (↑c.length:Int)) fun h=>br (!h) (some (Bu.mk 0 [] 0,false)) (bd (eR (↑c.length:Int) (w64 (a+80))) fun e=>gd (0<=a/\a<=e/\e<=c.length) (bd (dh (e8 (o4 e-a.toNat) (g0 a.toNat c)) 0) fun g=>br (!g.snd.snd) (jn (VV c a e g) true) (br (decide (g.fst>w64 ((↑(e8 (o4 e-a.toNat) (g0 a.toNat c)).length:Int)-g.snd.fst))) (jn (VV c a e g) true) (jn (VV c a e g) (decide (g.fst<5))))))
def AQt:=gZ [.v .s,.v .i] (.ret [(.st 15),.b]) [.cell 4 (some 3),.tmp 5] ["1b3MiKhA0i4Go84SxZFZHnxENW4JeY95v9zTKMTPAS41ZQem7LEGlC89mgzsmqV3I8nrqQaBu8X7OWJK","3jSgFYJ3PAsu07Eft0oNo12ykNx2wL9IAklOGlHCkiS3UZU4Kj4IMdFlJphWKbHvMLbnij1aEq7b2Pwc","A0IaR1Ed909TunQ05nrMXDMLVHpnP0DURqI7cbjezHMsekZK8CBcwI07yhGoGDq05lRqNcWxSeuaxmaY","0Lp1QOdU48CUWEDe2TQpDnwTOYrsGZNyEFcysu8rfPwtO0GVrIpwUW8oPn7WFnYBniLyRXiBi"] [Gx,jA,AEB,AEI] (Ah zp) [.MF 28 (.tmp 27)]
def eU(g:List UInt8)(e:List Bu×Int->AA (List Bu))(j:List Bu×Int):AA (List Bu):=let (c,h):=j;bd (zp g h) fun a=>br (!a.snd) (some c) (gd (e9 c+[a.fst].length<=lim) (e (c++[a.fst],a.fst.Next)))
def nc(a:List UInt8):AA (List Bu):=A3 (eU a) big ([],0)
def rr:=gZ RL sa Ca ["jtlce0DEKBJhfngQivoT4ZtG5Wzt2AZFYBZlJMq0QNjAciHnHhwqhW2Gbzw2FgCaKY5yIFhxsbB1sx"] [AQt] (Be nc)
def zq(a:Int):AA Int:=some a
def eV(c:List Bu)(e:Int×Int->AA Int)(g a:Int)(h:Bool):AA Int:=br h (bd (at? c a) fun q=>bd (at? c a) fun j=>e (j.Next,w64 (a+1))) (jn zq g)
def zr(h:Int)(c:List Bu)(e:Int×Int->AA Int)(q:Int×Int):AA Int:=let (g,a):=q;br (decide (a<(e9 c))) (bd (at? c a) fun y=>bd (at? c a) fun j=>jn (eV c e g a) (decide (j.Seq<=h))) (jn (eV c e g a) false)
def AID(a:Br)(c:Int):AA Int:=bd (nc a.Log.Data) fun e=>A3 (zr c e) big (0,0)
def AQu:=gZ jG CZ Bw ["4wxwEoQ0fXfmtZUm4C8lSxT0TvU8siUFgDDbM86UzCTdFWVGLxdsIRyNA9G64xTyMKT982lGY57Yf6b4","FCIlUNKi"] [rr] (Ah AID)
def eW(g:List UInt8)(c:Int)(a e:Int×Int×Bool)(h:Bool):AA (Bu×Bool):=br h (some (Bu.mk 0 [] 0,false)) (some (Bu.mk e.fst (e8 ((e8 ((w64 (w64 (c+a.snd.fst)+a.fst)).toNat-(w64 (c+a.snd.fst)).toNat) (g0 (w64 (c+a.snd.fst)).toNat g)).length-o4 e.snd.fst) (g0 (o4 e.snd.fst) (e8 ((w64 (w64 (c+a.snd.fst)+a.fst)).toNat-(w64 (c+a.snd.fst)).toNat) (g0 (w64 (c+a.snd.fst)).toNat g)))) (w64 (w64 (c+a.snd.fst)+a.fst)),true))
def VW(e:List UInt8)(c:Int)(a:Int×Int×Bool)(j:Bool):AA (Bu×Bool):=br j (some (Bu.mk 0 [] 0,false)) (gd (0<=w64 (c+a.snd.fst)/\w64 (c+a.snd.fst)<=w64 (w64 (c+a.snd.fst)+a.fst)/\w64 (w64 (c+a.snd.fst)+a.fst)<=e.length) (bd (dj (e8 ((w64 (w64 (c+a.snd.fst)+a.fst)).toNat-(w64 (c+a.snd.fst)).toNat) (g0 (w64 (c+a.snd.fst)).toNat e)) 4) fun g=>br (!g.snd.snd) (some (Bu.mk 0 [] 0,false)) (gd (0<=g.snd.fst/\g.snd.fst<=(↑(e8 ((w64 (w64 (c+a.snd.fst)+a.fst)).toNat-(w64 (c+a.snd.fst)).toNat) (g0 (w64 (c+a.snd.fst)).toNat e)).length:Int)) (bd (zD g.fst (e8 ((e8 ((w64 (w64 (c+a.snd.fst)+a.fst)).toNat-(w64 (c+a.snd.fst)).toNat) (g0 (w64 (c+a.snd.fst)).toNat e)).length-o4 g.snd.fst) (g0 (o4 g.snd.fst) (e8 ((w64 (w64 (c+a.snd.fst)+a.fst)).toNat-(w64 (c+a.snd.fst)).toNat) (g0 (w64 (c+a.snd.fst)).toNat e))))) fun h=>br (h==[]) (jn (eW e c a g) true) (gd (0<=c/\c<=w64 (w64 (c+a.snd.fst)+a.fst)/\w64 (w64 (c+a.snd.fst)+a.fst)<=e.length) (jn (eW e c a g) (h != e8 ((w64 (w64 (c+a.snd.fst)+a.fst)).toNat-c.toNat) (g0 c.toNat e))))))))
def zt(c:List UInt8)(a:Int):AA (Bu×Bool):=bd (Lq a (↑c.length:Int)) fun g=>br (!g) (some (Bu.mk 0 [] 0,false)) (gd (0<=a/\(a<=if false=true then if w64 (a+5)>c.length then w64 (a+5) else (↑c.length:Int) else if w64 (a+5)<c.length then w64 (a+5) else (↑c.length:Int))/\(if false=true then if w64 (a+5)>c.length then w64 (a+5) else (↑c.length:Int) else if w64 (a+5)<c.length then w64 (a+5) else (↑c.length:Int))<=c.length) (bd (dj (e8 ((if false=true then if w64 (a+5)>c.length then w64 (a+5) else (↑c.length:Int) else if w64 (a+5)<c.length then w64 (a+5) else (↑c.length:Int)).toNat-a.toNat) (g0 a.toNat c)) 0) fun e=>br (!e.snd.snd) (jn (VW c a e) true) (br (decide (e.fst<6)) (jn (VW c a e) true) (jn (VW c a e) (decide (e.fst>w64 (w64 ((↑c.length:Int)-a)-e.snd.fst)))))))
def AQv:=gZ [.v .s,.v .i] (.ret [(.st 15),.b]) [.cell 4 (some 3),.tmp 5] ["8mW5GN8EviQxHeG8QEjp7A0eU78bhu0Fy4vZmTVWPoMuz2yXj5z3JrECWMc4MILIK108deaNT83Vj0Dl","UGaXZw5EriA2ezv17XwlyCkWzhsEMTP3Rma23schgpGEUyY2GiTkh9nkVZNSvXDXJjjWfk6a1cXWHxjs","W9p7UGu8j9E36OFXQgdYpNazsbEMtmolQwEDxxPaLESnloeXqEWE4o5kl1kll12ieTdvuPpiiWMi5idf","0BubbBzsAM003MPyp1wYvettoU94owSnpKCLCbkbBaj7zSAoonOmWCHPrldmjux0ZkYtQXy3ryb2BO62","7"] [Pj,AEE,AD9] (Ah zt) [.mm 27 false (.tmp 24) (.tmp 26),.MF 29 (.tmp 28),.MF 63 (.tmp 62)]
def eX(g:List UInt8)(e:List Bu×Int->AA (List Bu))(j:List Bu×Int):AA (List Bu):=let (c,h):=j;bd (zt g h) fun a=>br (!a.snd) (some c) (gd (e9 c+[a.fst].length<=lim) (e (c++[a.fst],a.fst.Next)))
def nd(a:List UInt8):AA (List Bu):=A3 (eX a) big ([],0)
def rz:=gZ RL sa Ca ["BchniYzXDHODL11TvM8pazkIyDGHQpN7d6PyJRAn9DHqLhdxazm6wCsLfz8Q4BMD92XUInkph1"] [AQv] (Be nd)
def eY(a:Int):AA Int:=some a
def zu(j:Int)(c:List Bu)(h:Int×Int->AA Int)(q:Int×Int):AA Int:=let (e,a):=q;br (decide (a<(e9 c))) (bd (at? c a) fun y=>bd (at? c a) fun g=>br (decide (g.Seq>j)) (jn eY e) (h (g.Next,w64 (a+1)))) (jn eY e)
def AIE(a:Br)(c:Int):AA Int:=bd (nd a.Log.Data) fun e=>A3 (zu c e) big (0,0)
def AQw:=gZ jG CZ Bw ["1ePolvwIAgD6D3lbiDpoih6F9wCSLmeK9Ni4rjU5cWZW65cdDjWE5teMpl2iGJ5Wjs2oZeDz4Fag4yps","7N9"] [rz] (Ah AIE)
def eZ(a:List Bo):AA (List Bo):=some a
def zw(g:List Bu)(h:List Bo×Int->AA (List Bo))(q:List Bo×Int):AA (List Bo):=let (a,c):=q;br (decide (c<g.length)) (bd (at? g c) fun j=>bd (nB j.Body) fun e=>br (!e.snd) (jn eZ a) (gd (e9 a+[e.fst].length<=lim) (h (a++[e.fst],w64 (c+1))))) (jn eZ a)
def AIF(a:List Bu):AA (List Bo):=A3 (zw a) big ([],0)
def AQx:=gZ [.v (.l (.st 15))] AE1 Ca ["Wu0LwmW7sYt5azO9YsDkDDIKWdo5Oq7aIAgkcObikNUj2xyLdKUXXsG5J9Sa1FIVcBnYcgtp53LYyOpB","BkwUaBDIYSy"] [AED] (Be AIF)
def eo(a:List Bo):AA (List Bo):=some a
def zx(g:List Bu)(h:List Bo×Int->AA (List Bo))(q:List Bo×Int):AA (List Bo):=let (a,c):=q;br (decide (c<g.length)) (bd (at? g c) fun j=>bd (zK j.Body) fun e=>br (!e.snd) (jn eo a) (gd (e9 a+[e.fst].length<=lim) (h (a++[e.fst],w64 (c+1))))) (jn eo a)
def AIH(a:List Bu):AA (List Bo):=A3 (zx a) big ([],0)
def AQy:=gZ [.v (.l (.st 15))] AE1 Ca ["6nFqlBj0iHhZGoG1ZJv0azZEj9rQbyRgrXk2aSUuoyQLsC6iKapeMXqj2PlRRMdCjQ0xBz1fNPtjDlYV","yOi29YWmti4KWaTbKCegoz1pMB"] [AQZ] (Be AIH)
def zy(_:PUnit):AA Int:=some (-1)
def z5(c:List AM)(g:Int)(e:Int->AA Int)(a:Int):AA Int:=br (decide (a<c.length)) (bd (at? c a) fun h=>br (h.Id==g) (some a) (e (w64 (a+1)))) (jn zy ())
def ng(a:List AM)(c:Int):AA Int:=A3 (z5 a c) big 0
def r5:=gZ QO CZ Bw ["3wy0iNurRf9JF75PrYP4emyRXoYUzaQHL7nWemrtUp00Q"] [] (Ah ng)
def Abc:YF:=⟨[],[.v (.l (.st 2)),.v (.st 2)],[],.ret [(.l (.st 2))],[.tmp 4],dY ["az7Oyb51A9Q5l9OxuLMWr0jWIaNmhbXeUY5rydTb0s0k6SxEIkaJsX8ruyqYGmeso808wwCuy0ElzmVr","sVzfUPyCrTLIv5mWBVmcTYn8qXdKCxV1RMs3P7qEfhvnrnFs5BkY4FKjQXgz7FGA4fbUQe6C75uDA5zT","NN2JSev9p8yoKwTVNkzPYTeOSd4TQENui2JjI5LiJEKe3CWNjPlo"] [r5]⟩
def fA(c:List AM)(e:AM)(a:Int):AA (List AM):=gd (0<=a/\a<=c.length) (gd (0+(e8 a.toNat c).length<=lim) (gd (([]++e8 a.toNat c).length+[e].length<=lim) (gd (0+(e8 a.toNat c).length<=lim) (gd (([]++e8 a.toNat c).length+[e].length<=lim) (eqv ([]++e8 a.toNat c++[e]) ([]++e8 a.toNat c++[e]) (gd (0+(e8 a.toNat c).length<=lim) (gd (([]++e8 a.toNat c).length+[e].length<=lim) (eqv ([]++e8 a.toNat c++[e]) ([]++e8 a.toNat c++[e]) (gd (0<=a/\a<=c.length) (gd (([]++e8 a.toNat c++[e]).length+(g0 a.toNat c).length<=lim) (some ([]++e8 a.toNat c++[e]++g0 a.toNat c))))))))))))
def VX(e:List AM)(g:AM)(c:Int->AA (List AM))(a:Int)(h:Bool):AA (List AM):=br h (c (w64 (a+1))) (jn (fA e g) a)
def fB(a:List AM)(e:AM)(g:Int->AA (List AM))(c:Int):AA (List AM):=br (decide (c<a.length)) (bd (at? a c) fun h=>jn (VX a e g c) (decide (h.Id<e.Id))) (jn (VX a e g c) false)
def eu(a:List AM)(e:AM):AA (List AM):=bd (ng a e.Id) fun c=>gd (0+a.length<=lim) (br (decide (c>=0)) (bd (at? ([]++a) c) fun g=>bd (at? ([]++a) c) fun h=>some (([]++a).set (o4 c) e)) (A3 (fB a e) big 0))
def jB:GF:=Abc.gf rfl rfl (fun a=>eu a.1 a.2.1) (fun a=>by kernel_rfl)
def fD(h:Av)(a:A7)(c:Av)(j:Bool):AA (Av×Bool):=br j (some (c,false)) (bd (at? c.An (a.At.tmod 9)) fun B=>bd (at? c.An (a.At.tmod 9)) fun q=>bd (mg q a) fun g=>bd (at? c.An (a.At.tmod 9)) fun E=>bd (at? c.An (a.At.tmod 9)) fun G=>bd (Y7 (Av.mk (c.An.set (a.At.tmod 9).toNat g))) fun y=>br (!y) (bd (dx h) fun e=>some (e,false)) (some (Av.mk (c.An.set (a.At.tmod 9).toNat g),true)))
def fC(a:Av)(c:A7):AA (Av×Bool):=bd (dx a) fun e=>bd (Y7 a) fun g=>br (!g) (jn (fD a c e) true) (jn (fD a c e) (decide (c.At<1)))
def r6:=gZ sX Xx sb ["EcTc3iGXG16dmX22jf68SplN8obaJ2dxMSW3Yqa1wlVMeXYTU5flyx4YKvuljURa0i0yo15wEIJefuXy","bjvjLYuQNbYRjXVqhZq1d395Y6wYU2HAwwk2RM7a"] [rj,iq,rO] (Ah fC)
def VY(a:List Int)(c:Int):AA (List Int):=gd (0+a.length<=lim) (bd (mX a c) fun e=>br e (some ([]++a)) (gd (([]++a).length+[c].length<=lim) (some ([]++a++[c]))))
def Xq:=gZ ZR M1 Bw ["4bnaqmptdL5JAVsU2caVwCmbH33DiBhmPsSNPT"] [rL] (Ah VY)
end Lv
set_option maxRecDepth 100000
namespace Lv
open Go (IntKind BinOp UnOp)
open Y (YF qn qf qt qr q1 qd qm qa qo ql qL qb qi qx qp qq qc qz qe qk qK qB qw qu qj Kp wn wf wt w1 sw sq sr wm wM wo wO wl wL wk wK wz wZ wx wX wb wB wi wI wr wR wq wQ we wE wc wY wj wh cv ca cx cn ce bl)
def fE(a:List Bu×Int×Int->AA (List Bu))(c:Int)(h:List Bu×Int):AA (List Bu):=let (e,g):=h;a (e,g,w64 (c+1))
def fF(a:List Bu):AA (List Bu):=some a
def z6(j:List Bu)(h:List Bu×Int×Int->AA (List Bu))(q:List Bu×Int×Int):AA (List Bu):=let (a,c,e):=q;br (decide (e<j.length)) (bd (at? j e) fun g=>br (decide (g.Seq<=c)) (jn (fE h e) (a,c)) (br (g.Seq != w64 (c+1)) (jn fF a) (gd (e9 a+[g].length<=lim) (jn (fE h e) (a++[g],w64 (c+1)))))) (jn fF a)
def AII(a:List Bu)(c:Int):AA (List Bu):=A3 (z6 a) big ([],c,0)
def AQz:=gZ [.v (.l (.st 15)),.v .i] sa Bw ["6K60zuPQwJkuw3W0Ibzl2IC9pzpUNuvRj58zf0B2THzb9usJFRir9zzpwkgkohDUVJNeYnuRTeqAwxXC","uSpAziywHg6tv1UoYUBc4KUmbEfrIJZmrISRMIg"] [] (Ah AII)
end Lv
