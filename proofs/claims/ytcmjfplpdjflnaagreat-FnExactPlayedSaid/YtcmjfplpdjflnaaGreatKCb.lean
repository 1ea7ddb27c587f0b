/- Functions of the program as typed texts and as plain functions. -/
import Derived.Test.YtcmjfplpdjflnaaGreatKBb
open UInt8 renaming toNat->g0
open List renaming length->e8,take->c5,drop->e9,replicate->so
open Int renaming toNat->n6
noncomputable section
set_option linter.unusedVariables false
set_option linter.unusedSimpArgs false
set_option linter.unusedSectionVars false
set_option maxRecDepth 100000
namespace Lv
open Go (IntKind BinOp UnOp)
open Y (YF qn qf qt qr q1 qd qm qa qo ql qL qb qi qx qp qq qc qz qe qk qK qB qw qu qj Kp wn wf wt w1 sw sq sr wm wM wo wO wl wL wk wK wz wZ wx wX wb wB wi wI wr wR wq wQ we wE wc wY wj wh cv ca cx cn ce bl)
def VK(c e a:Int)(h:UInt8)(g:Bool):AA (Int×Int×Bool):=br g (some (0,0,false)) (some (orI e (kv ((w64 (↑(g0 h):Int)).tmod 128) (w64 (7*a))),w64 (w64 (c+a)+1),true))
def VJ(j:List UInt8)(g:Int)(h:Int×Int->AA (Int×Int×Bool))(e a:Int)(q:Bool):AA (Int×Int×Bool):=br q (some (0,0,false)) (bd (at? j (w64 (g+a))) fun c=>gd (¬w64 (7*a)<0) (br (decide (w64 (↑(g0 c):Int)<128)) (br (decide (a>0)) (br (w64 (↑(g0 c):Int)==0) (jn (VK g e a c) true) (jn (VK g e a c) (decide (orI e (kv ((w64 (↑(g0 c):Int)).tmod 128) (w64 (7*a)))>2147483647)))) (jn (VK g e a c) (decide (orI e (kv ((w64 (↑(g0 c):Int)).tmod 128) (w64 (7*a)))>2147483647)))) (h (orI e (kv ((w64 (↑(g0 c):Int)).tmod 128) (w64 (7*a))),w64 (a+1)))))
def zB(_:PUnit):AA (Int×Int×Bool):=some (0,0,false)
def Oe(e:List UInt8)(a:Int)(g:Int×Int->AA (Int×Int×Bool))(j:Int×Int):AA (Int×Int×Bool):=let (h,c):=j;br (decide (c<5)) (br (decide (a<0)) (jn (VJ e a g h c) true) (jn (VJ e a g h c) (decide (a>=w64 ((↑e.length:Int)-c))))) (jn zB ())
def dS(a:List UInt8)(c:Int):AA (Int×Int×Bool):=A3 (Oe a c) big (0,0)
def ADu:=gZ [.v (.l .u),.v .i] (.ret [.i,.i,.b]) [.tmp 4,.tmp 5,.tmp 6] ["MWHlbUtAreMueLZt8ZpIqo7mdBf7Vz8DgAsbBnjMYiAe7INOwuVp7F9W6LnGt7tGTWujSaeHp7Q8rKtq","kBKFm0lImzfLXgVQ9THB7hYzpC5n6K4YepKptLs5viBmclBiiRcUD2BLKu7SBXQk6cxS7wd7bZ9qzrFH","mb6BQBsaTnKodMq5I07Ow"] [] (Aq dS)
def zD(a:List Int):AA ((List Int)×Bool):=some (a,true)
def dT(e:List UInt8)(h:List Int×Int->AA (List Int×Bool))(j:List Int×Int):AA ((List Int)×Bool):=let (c,g):=j;br (decide (g<e.length)) (bd (dS e g) fun a=>br (!a.snd.snd) (some ([],false)) (gd (e8 c+[a.fst].length<=lim) (h (c++[a.fst],a.snd.fst)))) (jn zD c)
def zC(a:List UInt8):AA ((List Int)×Bool):=A3 (dT a) big ([],0)
def ADv:=gZ RV (.ret [(.l .i),.b]) [.tmp 2,.tmp 3] ["fIenbx6yfmEyuVPRiJI5HIRdmY7y6LIKODsb6kK1QEVNX20H3PMQT0ebl125gbHQw0dUjDzEK2zUxhXm","EkuWsStlND2GtfQMoSOuM"] [ADu] (Bm zC) [.ML 11 (.tmp 10)]
def Of(c:List UInt8)(a:Bp):AA (Bp×Bool):=bd (yU a) fun e=>br (e != c) (some (Bp.mk 0 0 0 0 0 0,false)) (some (a,true))
def VL(c:List UInt8)(a:List Int×Bool)(H:Bool):AA (Bp×Bool):=br H (some (Bp.mk 0 0 0 0 0 0,false)) (bd (at? a.fst 0) fun Z=>bd (at? a.fst 0) fun G=>br ((↑(e8 a.fst):Int)==2) (bd (at? a.fst 1) fun x5=>bd (at? a.fst 1) fun Y=>jn (Of c) (Bp.mk G Y 0 0 0 0)) (br ((↑(e8 a.fst):Int)==3) (bd (at? a.fst 1) fun x9=>bd (at? a.fst 1) fun e=>bd (at? a.fst 2) fun I=>bd (at? a.fst 2) fun g=>jn (Of c) (Bp.mk G 0 e 0 g 0)) (br ((↑(e8 a.fst):Int)==6) (bd (at? a.fst 0) fun J=>bd (at? a.fst 0) fun h=>bd (at? a.fst 1) fun L=>bd (at? a.fst 1) fun j=>bd (at? a.fst 2) fun O=>bd (at? a.fst 2) fun q=>bd (at? a.fst 3) fun Q=>bd (at? a.fst 3) fun y=>bd (at? a.fst 4) fun S=>bd (at? a.fst 4) fun B=>bd (at? a.fst 5) fun X=>bd (at? a.fst 5) fun E=>jn (Of c) (Bp.mk h j q (w64 (y-1)) B E)) (jn (Of c) (Bp.mk G 0 0 0 0 0)))))
def mb(a:List UInt8):AA (Bp×Bool):=br (decide ((↑a.length:Int)>60)) (some (Bp.mk 0 0 0 0 0 0,false)) (bd (zC a) fun c=>br (!c.snd) (jn (VL a c) true) (jn (VL a c) ((↑(e8 c.fst):Int)==0)))
def ADw:=gZ RV (.ret [(.st 0),.b]) [.cell 2 (some 6),.tmp 3] ["CWOgry5i5liFh1fTvXzB0qVj7vsAG4bJsTKmZNTHGZOKSs0wem3yETezeb2v8UaM8IH5vRXtMIIL23La","VLtjHIoOzy1EYaTkL0oNhGY2CilSKu2lwURthEl8GV1etaghqE3kmHG56aMHsWOl12qjVgIzZvEMdWEq","kzRvC84CNmdZKmc34PM7ei5raNUCC5h70SSRgxsgryxpcsxxm392iPFPYWxv5u2M2RTBDjXP663FZ"] [ADv,ADi] (Bm mb)
def dV(_:PUnit):AA (Int×Int×Bool):=some (0,0,false)
def VM(j:List UInt8)(g:Int)(h:Int×Int->AA (Int×Int×Bool))(e a:Int)(q:Bool):AA (Int×Int×Bool):=br q (bd (at? j (w64 (g+a))) fun c=>gd (¬w64 (7*a)<0) (br (decide (w64 (↑(g0 c):Int)<128)) (bd (U5 (w64 (e+kv ((w64 (↑(g0 c):Int)).tmod 128) (w64 (7*a))))) fun y=>br ((↑(e8 y):Int) != w64 (a+1)) (some (0,0,false)) (some (w64 (e+kv ((w64 (↑(g0 c):Int)).tmod 128) (w64 (7*a))),w64 (w64 (g+a)+1),true))) (h (w64 (e+kv ((w64 (↑(g0 c):Int)).tmod 128) (w64 (7*a))),w64 (a+1))))) (jn dV ())
def Q7(c:List UInt8)(e:Int)(g:Int×Int->AA (Int×Int×Bool))(j:Int×Int):AA (Int×Int×Bool):=let (h,a):=j;br (decide (a<5)) (jn (VM c e g h a) (decide (w64 (e+a)<c.length))) (jn (VM c e g h a) false)
def dU(a:List UInt8)(c:Int):AA (Int×Int×Bool):=bd (C3 c 0 (w64 ((↑a.length:Int)-1))) fun e=>br (!e) (some (0,0,false)) (A3 (Q7 a c) big (0,0))
def ADx:=gZ [.v (.l .u),.v .i] (.ret [.i,.i,.b]) [.tmp 4,.tmp 5,.tmp 6] ["3zKGHYxbcgvRbldmXKbzAlvClTz3TT4sApGbF1yyauF7Nknbr0tUJTtcJJXBCNyxF6r1EHimKFO4UiTt","lm9aCk9la7pFYJE3o9v0QBTujm8uYUtZ56eOG6zqh5ixG3GIHTGzEdlfXIxvbgb4UlnJk82TKwOgvajp","Pmryv"] [Eb,Xh] (Aq dU)
def zF(a:List Int):AA ((List Int)×Bool):=some (a,true)
def dW(e:List UInt8)(h:List Int×Int->AA (List Int×Bool))(j:List Int×Int):AA ((List Int)×Bool):=let (c,g):=j;br (decide (g<e.length)) (bd (dU e g) fun a=>br (!a.snd.snd) (some ([],false)) (gd (e8 c+[a.fst].length<=lim) (h (c++[a.fst],a.snd.fst)))) (jn zF c)
def zE(a:List UInt8):AA ((List Int)×Bool):=A3 (dW a) big ([],0)
def ADy:=gZ RV (.ret [(.l .i),.b]) [.tmp 2,.tmp 3] ["1lBdrtHnNHTbfoB2P6bQUpRonfMfyU4KBfrTc9bS4ksY5NOpYYejc3uKh1hLIbVrt3w8e51PSekgMRQQ","CKMG9xo5EDjHJ0pAnC"] [ADx] (Bm zE) [.ML 11 (.tmp 10)]
def dX(a:Bp)(c:Bool):AA (Bp×Bool):=br c (some (Bp.mk 0 0 0 0 0 0,false)) (some (a,true))
def Og(e:List UInt8)(a:Bp):AA (Bp×Bool):=bd (y8 a) fun c=>br (c==[]) (jn (dX a) true) (jn (dX a) (c != e))
def VN(e:List UInt8)(a:List Int×Bool)(E:Bool):AA (Bp×Bool):=br E (some (Bp.mk 0 0 0 0 0 0,false)) (bd (at? a.fst 0) fun S=>bd (at? a.fst 0) fun c=>gd ((0:Int)<=1/\1<=(↑(e8 a.fst):Int)) (gd (n6 1+(e8 a.fst-n6 1)=e8 a.fst) (gd ((c5 (e8 a.fst-n6 1) (e9 (n6 1) a.fst)).length+n6 5<=lim) (br (c==1) (bd (at? (c5 (e8 a.fst-n6 1) (e9 (n6 1) a.fst)++so (n6 5) 0) 0) fun X=>bd (at? (c5 (e8 a.fst-n6 1) (e9 (n6 1) a.fst)++so (n6 5) 0) 0) fun O=>bd (at? (c5 (e8 a.fst-n6 1) (e9 (n6 1) a.fst)++so (n6 5) 0) 1) fun Y=>bd (at? (c5 (e8 a.fst-n6 1) (e9 (n6 1) a.fst)++so (n6 5) 0) 1) fun Q=>bd (at? (c5 (e8 a.fst-n6 1) (e9 (n6 1) a.fst)++so (n6 5) 0) 2) fun Z=>bd (at? (c5 (e8 a.fst-n6 1) (e9 (n6 1) a.fst)++so (n6 5) 0) 2) fun g=>bd (at? (c5 (e8 a.fst-n6 1) (e9 (n6 1) a.fst)++so (n6 5) 0) 3) fun G=>bd (at? (c5 (e8 a.fst-n6 1) (e9 (n6 1) a.fst)++so (n6 5) 0) 3) fun h=>bd (at? (c5 (e8 a.fst-n6 1) (e9 (n6 1) a.fst)++so (n6 5) 0) 4) fun H=>bd (at? (c5 (e8 a.fst-n6 1) (e9 (n6 1) a.fst)++so (n6 5) 0) 4) fun j=>jn (Og e) (Bp.mk c O Q (w64 (g-1)) h j)) (br (c==3) (bd (at? (c5 (e8 a.fst-n6 1) (e9 (n6 1) a.fst)++so (n6 5) 0) 0) fun I=>bd (at? (c5 (e8 a.fst-n6 1) (e9 (n6 1) a.fst)++so (n6 5) 0) 0) fun q=>bd (at? (c5 (e8 a.fst-n6 1) (e9 (n6 1) a.fst)++so (n6 5) 0) 1) fun J=>bd (at? (c5 (e8 a.fst-n6 1) (e9 (n6 1) a.fst)++so (n6 5) 0) 1) fun y=>jn (Og e) (Bp.mk c 0 q 0 y 0)) (br (c==6) (jn (Og e) (Bp.mk c 0 0 0 0 0)) (bd (at? (c5 (e8 a.fst-n6 1) (e9 (n6 1) a.fst)++so (n6 5) 0) 0) fun L=>bd (at? (c5 (e8 a.fst-n6 1) (e9 (n6 1) a.fst)++so (n6 5) 0) 0) fun B=>jn (Og e) (Bp.mk c B 0 0 0 0))))))))
def zG(c:List UInt8):AA (Bp×Bool):=bd (zE c) fun a=>br (!a.snd) (jn (VN c a) true) (jn (VN c a) ((↑(e8 a.fst):Int)==0))
def AQC:=gZ RV (.ret [(.st 0),.b]) [.cell 2 (some 6),.tmp 3] ["6EmefUo1AKy5rh4LtbCwnXV6NepN7bjjHh93Hns9rCzGOiSfAA8qG2EA5FR0KRXqCjQQ85gcJa4PqnqK","61tXcdeCd7sk00smAdn8pnaiCDI3LskrfFzH24dpuIr8yl34wMNBWDaLeYlQUFM734QWFgKMByXGypfL","hViQMawHW7NEYJfnfFIkeaNuIY66fci6vNz8cfWHdBxgwnR4AiGKq2IM14gVCFlP7Wkijy3k1DySXWof","XA0b9VzPzo1I52ydvMmnQATjoOiyjq2QV8ZbvM2wPs"] [ADy,ADr] (Bm zG) [.Qr 28 .i (.tmp 27) (.k (.int .i64 5))]
def dZ(a c:Int):AA Int:=br (decide (a<c)) (some a) (some c)
def iK:=gZ sD Cv B5 ["1AMZa55FgbKtUsYVNrtgs"] [] (Aq dZ)
def db(g:List UInt8)(c j:Int)(a e:Int×Int×Bool)(h:Bool):AA (Bv×Bool):=br h (some (Bv.mk 0 [] 0,false)) (some (Bv.mk e.fst (c5 ((w64 (a.snd.fst+a.fst)).toNat-n6 e.snd.fst) (e9 (n6 e.snd.fst) (c5 (n6 j-c.toNat) (e9 c.toNat g)))) (w64 (w64 (c+a.snd.fst)+a.fst)),true))
def da(g:List UInt8)(c h:Int)(a e:Int×Int×Bool)(j:Bool):AA (Bv×Bool):=br j (some (Bv.mk 0 [] 0,false)) (gd (0<=e.snd.fst/\e.snd.fst<=w64 (a.snd.fst+a.fst)/\w64 (a.snd.fst+a.fst)<=(↑(c5 (n6 h-c.toNat) (e9 c.toNat g)).length:Int)) (gd (0<=w64 (a.snd.fst+a.fst)/\w64 (a.snd.fst+a.fst)<=(↑(c5 (n6 h-c.toNat) (e9 c.toNat g)).length:Int)) (bd (yV e.fst (c5 ((w64 (a.snd.fst+a.fst)).toNat-n6 e.snd.fst) (e9 (n6 e.snd.fst) (c5 (n6 h-c.toNat) (e9 c.toNat g))))) fun q=>br (q != c5 ((w64 (a.snd.fst+a.fst)).toNat-0) (e9 0 (c5 (n6 h-c.toNat) (e9 c.toNat g)))) (jn (db g c h a e) true) (jn (db g c h a e) (c5 ((w64 (a.snd.fst+a.fst)).toNat-n6 e.snd.fst) (e9 (n6 e.snd.fst) (c5 (n6 h-c.toNat) (e9 c.toNat g)))==[])))))
def VO(g:List UInt8)(c h:Int)(a:Int×Int×Bool)(j:Bool):AA (Bv×Bool):=br j (some (Bv.mk 0 [] 0,false)) (bd (dS (c5 (n6 h-c.toNat) (e9 c.toNat g)) (w64 (a.snd.fst+4))) fun e=>br (!e.snd.snd) (jn (da g c h a e) true) (jn (da g c h a e) (decide (e.snd.fst>w64 (a.snd.fst+a.fst)))))
def zH(c:List UInt8)(a:Int):AA (Bv×Bool):=bd (EE a 0 (↑c.length:Int)) fun h=>br (!h) (some (Bv.mk 0 [] 0,false)) (bd (dZ (↑c.length:Int) (w64 (a+80))) fun e=>gd (0<=a/\a<=e/\e<=c.length) (bd (dS (c5 (n6 e-a.toNat) (e9 a.toNat c)) 0) fun g=>br (!g.snd.snd) (jn (VO c a e g) true) (br (decide (g.fst>w64 ((↑(c5 (n6 e-a.toNat) (e9 a.toNat c)).length:Int)-g.snd.fst))) (jn (VO c a e g) true) (jn (VO c a e g) (decide (g.fst<5))))))
def AQD:=gZ [.v .s,.v .i] (.ret [(.st 15),.b]) [.cell 4 (some 3),.tmp 5] ["L1ZuY4XgrE28qzzeyYBFG2BbLWTsRxzEyEZJxXZI1j7Ld3VOmRifzFqFshqdnLpe5JJHvmDxxliN9ujT","9KRcIdL55jPSRNbfl5okZZPrrwH0ZpEMFSEriyEEt9qwVgjBpPPbL5vKVbMb3o2BWD9FqRMHPAISh9DR","VF6FwlEFO8C7tHp5WEFY8mH3QCgiBSHz7dl24WHJF4Otn7OvJJOOsHFvmI0H7cGx1zsAk3I51N3jWVyV","RMwmaj9wdYQK1edsOONxYFdmLOHSruEloFCeFkt0CUYfqP1S5EWRWXsurFrkFF85mDIv9Up"] [G3,iK,ADu,ADj] (Aq zH) [.ML 28 (.tmp 27)]
def de(g:List UInt8)(e:List Bv×Int->AA (List Bv))(j:List Bv×Int):AA (List Bv):=let (c,h):=j;bd (zH g h) fun a=>br (!a.snd) (some c) (gd (e8 c+[a.fst].length<=lim) (e (c++[a.fst],a.fst.Next)))
def mc(a:List UInt8):AA (List Bv):=A3 (de a) big ([],0)
def rR:=gZ RV sI DM ["2Osei28a0K6F0f4ntxeIwxv9uxDf7FDMAMqO87vSHaztnVEkvYjtyOx3Ghgkvwd3YTwPjc23UIZomfHY","E"] [AQD] (Bm mc)
def zI(a:Int):AA Int:=some a
def dg(c:List Bv)(e:Int×Int->AA Int)(g a:Int)(h:Bool):AA Int:=br h (bd (at? c a) fun q=>bd (at? c a) fun j=>e (j.Next,w64 (a+1))) (jn zI g)
def zJ(h:Int)(c:List Bv)(e:Int×Int->AA Int)(q:Int×Int):AA Int:=let (g,a):=q;br (decide (a<(e8 c))) (bd (at? c a) fun y=>bd (at? c a) fun j=>jn (dg c e g a) (decide (j.Seq<=h))) (jn (dg c e g a) false)
def AHU(a:Bk)(c:Int):AA Int:=bd (mc a.Log.Data) fun e=>A3 (zJ c e) big (0,0)
def AQE:=gZ Xo Cv B5 ["9k7xlDaXbwAeEc62hQbXn4TTmTrdu2CfnD8z98dyg5vmccn6b6C4PX8bRfy4OXlk3Eh33nFVtNkrclNN","63JXzXIa"] [rR] (Aq AHU)
def dh(g:List UInt8)(c:Int)(a e:Int×Int×Bool)(h:Bool):AA (Bv×Bool):=br h (some (Bv.mk 0 [] 0,false)) (some (Bv.mk e.fst (c5 ((c5 ((w64 (w64 (c+a.snd.fst)+a.fst)).toNat-(w64 (c+a.snd.fst)).toNat) (e9 (w64 (c+a.snd.fst)).toNat g)).length-n6 e.snd.fst) (e9 (n6 e.snd.fst) (c5 ((w64 (w64 (c+a.snd.fst)+a.fst)).toNat-(w64 (c+a.snd.fst)).toNat) (e9 (w64 (c+a.snd.fst)).toNat g)))) (w64 (w64 (c+a.snd.fst)+a.fst)),true))
def VP(e:List UInt8)(c:Int)(a:Int×Int×Bool)(j:Bool):AA (Bv×Bool):=br j (some (Bv.mk 0 [] 0,false)) (gd (0<=w64 (c+a.snd.fst)/\w64 (c+a.snd.fst)<=w64 (w64 (c+a.snd.fst)+a.fst)/\w64 (w64 (c+a.snd.fst)+a.fst)<=e.length) (bd (dU (c5 ((w64 (w64 (c+a.snd.fst)+a.fst)).toNat-(w64 (c+a.snd.fst)).toNat) (e9 (w64 (c+a.snd.fst)).toNat e)) 4) fun g=>br (!g.snd.snd) (some (Bv.mk 0 [] 0,false)) (gd (0<=g.snd.fst/\g.snd.fst<=(↑(c5 ((w64 (w64 (c+a.snd.fst)+a.fst)).toNat-(w64 (c+a.snd.fst)).toNat) (e9 (w64 (c+a.snd.fst)).toNat e)).length:Int)) (bd (y9 g.fst (c5 ((c5 ((w64 (w64 (c+a.snd.fst)+a.fst)).toNat-(w64 (c+a.snd.fst)).toNat) (e9 (w64 (c+a.snd.fst)).toNat e)).length-n6 g.snd.fst) (e9 (n6 g.snd.fst) (c5 ((w64 (w64 (c+a.snd.fst)+a.fst)).toNat-(w64 (c+a.snd.fst)).toNat) (e9 (w64 (c+a.snd.fst)).toNat e))))) fun h=>br (h==[]) (jn (dh e c a g) true) (gd (0<=c/\c<=w64 (w64 (c+a.snd.fst)+a.fst)/\w64 (w64 (c+a.snd.fst)+a.fst)<=e.length) (jn (dh e c a g) (h != c5 ((w64 (w64 (c+a.snd.fst)+a.fst)).toNat-c.toNat) (e9 c.toNat e))))))))
def zK(c:List UInt8)(a:Int):AA (Bv×Bool):=bd (Ly a (↑c.length:Int)) fun g=>br (!g) (some (Bv.mk 0 [] 0,false)) (gd (0<=a/\(a<=if false=true then if w64 (a+5)>c.length then w64 (a+5) else (↑c.length:Int) else if w64 (a+5)<c.length then w64 (a+5) else (↑c.length:Int))/\(if false=true then if w64 (a+5)>c.length then w64 (a+5) else (↑c.length:Int) else if w64 (a+5)<c.length then w64 (a+5) else (↑c.length:Int))<=c.length) (bd (dU (c5 ((if false=true then if w64 (a+5)>c.length then w64 (a+5) else (↑c.length:Int) else if w64 (a+5)<c.length then w64 (a+5) else (↑c.length:Int)).toNat-a.toNat) (e9 a.toNat c)) 0) fun e=>br (!e.snd.snd) (jn (VP c a e) true) (br (decide (e.fst<6)) (jn (VP c a e) true) (jn (VP c a e) (decide (e.fst>w64 (w64 ((↑c.length:Int)-a)-e.snd.fst)))))))
def AQF:=gZ [.v .s,.v .i] (.ret [(.st 15),.b]) [.cell 4 (some 3),.tmp 5] ["2Gs3RGOFKwTh3Afehtj4Wa58TintHCFkz1I6igOEpL9iMZ60CmoTZh9CU5NvZhGeIsQwZwASY1jZXYYa","PtDNOSSo2JtjaEyrxrCD56onOdxgW3UnDys4Va1HmeKNcLGWZins00UI6HAlSYRImZZKUD17QlaBk4IW","Gn4nyHB1YJQAZIArBONTUYi3l51PO7ay0fOpoBFNEVY2gPvP32CHP4OL6H71TN50qmL6WaMlsMtcyJoG","6U8r011PIU4VCVcZfezDFnbNziNn9oJgIuK2BJsR6z8YC5oFkVh9oFMvFRdnkGwcNPcfWMmdPK8b6dtC"] [Pt,ADx,ADs] (Aq zK) [.mm 27 false (.tmp 24) (.tmp 26),.ML 29 (.tmp 28),.ML 63 (.tmp 62)]
def di(g:List UInt8)(e:List Bv×Int->AA (List Bv))(j:List Bv×Int):AA (List Bv):=let (c,h):=j;bd (zK g h) fun a=>br (!a.snd) (some c) (gd (e8 c+[a.fst].length<=lim) (e (c++[a.fst],a.fst.Next)))
def me(a:List UInt8):AA (List Bv):=A3 (di a) big ([],0)
def rS:=gZ RV sI DM ["LcBx0aPHw5nJ1R3JAmoincfjwFMZQexc7QXUmJy018KhOHDSpmdka5XDgnNkX5CpzmbdpIodHEeh4h"] [AQF] (Bm me)
def dj(a:Int):AA Int:=some a
def zL(j:Int)(c:List Bv)(h:Int×Int->AA Int)(q:Int×Int):AA Int:=let (e,a):=q;br (decide (a<(e8 c))) (bd (at? c a) fun y=>bd (at? c a) fun g=>br (decide (g.Seq>j)) (jn dj e) (h (g.Next,w64 (a+1)))) (jn dj e)
def AHV(a:Bk)(c:Int):AA Int:=bd (me a.Log.Data) fun e=>A3 (zL c e) big (0,0)
def AQG:=gZ Xo Cv B5 ["M3c82NvgNmfuOSHxsOyxYVNwkyloYHrSCpvt9mHSKw7pnr20Lef4ALJwPRvJORoK7n4ud7boHdPbZWEj","9KAf"] [rS] (Aq AHV)
def dk(a:List Bp):AA (List Bp):=some a
def zM(g:List Bv)(h:List Bp×Int->AA (List Bp))(q:List Bp×Int):AA (List Bp):=let (a,c):=q;br (decide (c<g.length)) (bd (at? g c) fun j=>bd (mb j.Body) fun e=>br (!e.snd) (jn dk a) (gd (e8 a+[e.fst].length<=lim) (h (a++[e.fst],w64 (c+1))))) (jn dk a)
def AHW(a:List Bv):AA (List Bp):=A3 (zM a) big ([],0)
def AQH:=gZ [.v (.l (.st 15))] (.ret [(.l (.st 0))]) DM ["2E70CEthyC2aUZhXsZG8CVYiUKTvb8vplwca4F4vfHnpQLaucL1SulRAtQ3ttuT4ALqRrLQ9yTUo6k8K","fkO8uRH36gU2"] [ADw] (Bm AHW)
def cy(a:List Bp):AA (List Bp):=some a
def yw(g:List Bv)(h:List Bp×Int->AA (List Bp))(q:List Bp×Int):AA (List Bp):=let (a,c):=q;br (decide (c<g.length)) (bd (at? g c) fun j=>bd (zG j.Body) fun e=>br (!e.snd) (jn cy a) (gd (e8 a+[e.fst].length<=lim) (h (a++[e.fst],w64 (c+1))))) (jn cy a)
def AHO(a:List Bv):AA (List Bp):=A3 (yw a) big ([],0)
def AP4:=gZ [.v (.l (.st 15))] (.ret [(.l (.st 0))]) DM ["5zDhb3klvPaEbT5iawiA27pUEwiONX7DLuOENHEB1BOtWOBcEJAVnwUOecxuAySmDXqBnOdTcPmN1kr5","CopGGZc2Z2YX3gCZvuL1kAEuEk"] [AQC] (Bm AHO)
def yx(_:PUnit):AA Int:=some (-1)
def yy(c:List AN)(g:Int)(e:Int->AA Int)(a:Int):AA Int:=br (decide (a<c.length)) (bd (at? c a) fun h=>br (h.Id==g) (some a) (e (w64 (a+1)))) (jn yx ())
def ma(a:List AN)(c:Int):AA Int:=A3 (yy a c) big 0
def rN:=gZ M8 Cv B5 ["E0wYqpDzu7ScHZ8qIYrZEST56jIkvZwQzt08dJIMVSEV4"] [] (Aq ma)
def Aab:YF:=⟨[],[.v (.l (.st 2)),.v (.st 2)],[],.ret [(.l (.st 2))],[.tmp 4],dY ["M1By8C5loc0YEYVTA2mpY3Gmzajb6s6qYPyzUHIQR3xEI74Y3xfXQUgt5G9K0ezTopGXxJGLxqQNbZbQ","PdlBM24NlJuIlE6BGjBQYuELgMY4xZZKzZrDZ8KE77us55OaiozsHP9Dy8mZXpzMBrCXfOR84Y9fNls7","ew3ECJ1aKQIpmMd5zsckJIikfsYqnFr7sBzM91WOspNbYh7mnYmx5E"] [rN]⟩
def c9(c:List AN)(e:AN)(a:Int):AA (List AN):=gd (0<=a/\a<=c.length) (gd (0+(c5 a.toNat c).length<=lim) (gd (([]++c5 a.toNat c).length+[e].length<=lim) (gd (0+(c5 a.toNat c).length<=lim) (gd (([]++c5 a.toNat c).length+[e].length<=lim) (eqv ([]++c5 a.toNat c++[e]) ([]++c5 a.toNat c++[e]) (gd (0+(c5 a.toNat c).length<=lim) (gd (([]++c5 a.toNat c).length+[e].length<=lim) (eqv ([]++c5 a.toNat c++[e]) ([]++c5 a.toNat c++[e]) (gd (0<=a/\a<=c.length) (gd (([]++c5 a.toNat c++[e]).length+(e9 a.toNat c).length<=lim) (some ([]++c5 a.toNat c++[e]++e9 a.toNat c))))))))))))
def VE(e:List AN)(g:AN)(c:Int->AA (List AN))(a:Int)(h:Bool):AA (List AN):=br h (c (w64 (a+1))) (jn (c9 e g) a)
def dB(a:List AN)(e:AN)(g:Int->AA (List AN))(c:Int):AA (List AN):=br (decide (c<a.length)) (bd (at? a c) fun h=>jn (VE a e g c) (decide (h.Id<e.Id))) (jn (VE a e g c) false)
def cz(a:List AN)(e:AN):AA (List AN):=bd (ma a e.Id) fun c=>gd (0+a.length<=lim) (br (decide (c>=0)) (bd (at? ([]++a) c) fun g=>bd (at? ([]++a) c) fun h=>some (([]++a).set (n6 c) e)) (A3 (dB a e) big 0))
def iJ:GF:=Aab.gf rfl rfl (fun a=>cz a.1 a.2.1) (fun a=>by kernel_rfl)
def dE(h:A0)(a:BH)(c:A0)(j:Bool):AA (A0×Bool):=br j (some (c,false)) (bd (at? c.Ao (a.At.tmod 9)) fun B=>bd (at? c.Ao (a.At.tmod 9)) fun q=>bd (AKT q a) fun g=>bd (at? c.Ao (a.At.tmod 9)) fun E=>bd (at? c.Ao (a.At.tmod 9)) fun G=>bd (AAp (A0.mk (c.Ao.set (a.At.tmod 9).toNat g))) fun y=>br (!y) (bd (cW h) fun e=>some (e,false)) (some (A0.mk (c.Ao.set (a.At.tmod 9).toNat g),true)))
def dC(a:A0)(c:BH):AA (A0×Bool):=bd (cW a) fun e=>bd (AAp a) fun g=>br (!g) (jn (dE a c e) true) (jn (dE a c e) (decide (c.At<1)))
def rO:=gZ sE Xv sK ["247czmwK8Ye7AALbVHl3eUVvPUCBqMR36EAjqiZPt72YdqFnGEpUJaB6L3lVh7rION02j3qsji2R7fB5","EMsVLUYnHXGx1Lt9IMjN8Y9fxMCFFEySTSbV6"] [rM,AA9,AJD] (Aq dC)
def VF(a:List Int)(c:Int):AA (List Int):=gd (0+a.length<=lim) (bd (AKY a c) fun e=>br e (some ([]++a)) (gd (([]++a).length+[c].length<=lim) (some ([]++a++[c]))))
def Xk:=gZ ZH RW B5 ["5YWgaRAH4jT3bOlmvbkun047dtAFZWkvSEieIs"] [AJF] (Aq VF)
end Lv
set_option maxRecDepth 100000
namespace Lv
open Go (IntKind BinOp UnOp)
open Y (YF qn qf qt qr q1 qd qm qa qo ql qL qb qi qx qp qq qc qz qe qk qK qB qw qu qj Kp wn wf wt w1 sw sq sr wm wM wo wO wl wL wk wK wz wZ wx wX wb wB wi wI wr wR wq wQ we wE wc wY wj wh cv ca cx cn ce bl)
def dF(a:List Bv×Int×Int->AA (List Bv))(c:Int)(h:List Bv×Int):AA (List Bv):=let (e,g):=h;a (e,g,w64 (c+1))
def dG(a:List Bv):AA (List Bv):=some a
def yz(j:List Bv)(h:List Bv×Int×Int->AA (List Bv))(q:List Bv×Int×Int):AA (List Bv):=let (a,c,e):=q;br (decide (e<j.length)) (bd (at? j e) fun g=>br (decide (g.Seq<=c)) (jn (dF h e) (a,c)) (br (g.Seq != w64 (c+1)) (jn dG a) (gd (e8 a+[g].length<=lim) (jn (dF h e) (a++[g],w64 (c+1)))))) (jn dG a)
def AHP(a:List Bv)(c:Int):AA (List Bv):=A3 (yz a) big ([],c,0)
def AP5:=gZ [.v (.l (.st 15)),.v .i] sI B5 ["1ZGsVdahx8yx1I6pcfCqaGspWZ4599gDP8OXWzKYyoyFH92URBIADTSkcQZhxCgvttYMw9cp8Wq9pVMe","aMdilwLm4tseItK6ZfMPTA1SVM38nA3m5JE3E7jEMqS7"] [] (Aq AHP)
end Lv
