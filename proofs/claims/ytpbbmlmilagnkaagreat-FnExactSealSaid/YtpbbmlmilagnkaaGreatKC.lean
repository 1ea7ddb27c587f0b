/-
  Printed: functions of the program as texts of the typed machine, as plain functions, and that the one is the other.
-/
import Derived.Test.YtpbbmlmilagnkaaGreatKB
import Derived.KernelRfl
noncomputable section
set_option linter.unusedVariables false
set_option linter.unusedSimpArgs false
set_option linter.unusedSectionVars false
set_option maxRecDepth 100000
namespace Lv
open Go (IntKind BinOp UnOp)
open Y (YF qn qf qt qr q1 qd qm qa qo ql qL qb qi qx qp qq qc qz qe qk qK qB qw qu qj Kp wn wf wt w1 sw sq sr wm wM wo wO wl wL wk wK wz wZ wx wX wb wB wi wI wr wR wq wQ we wE wc wY wj wh cv ca cx cn ce bl)
def JA(p1:Int)(v2:Int)(v3:Int)(x5:UInt8)(v6:Bool):AA (Int×Int×Bool):=br v6 (some (0,0,false)) (some ((orI v2 (AC3 ((w64 (↑(UInt8.toNat x5):Int)).tmod 128) (w64 (7*v3))),w64 (w64 (p1+v3)+1),true)))
def Mc(p0:List UInt8)(p1:Int)(L1:(Int×Int)->AA (Int×Int×Bool))(v2:Int)(v3:Int)(v4:Bool):AA (Int×Int×Bool):=br v4 (some (0,0,false)) (bd (at? p0 (w64 (p1+v3))) fun x5=>gd (¬w64 (7*v3)<0) (br (decide (w64 (↑(UInt8.toNat x5):Int)<128)) (br (decide (v3>0)) (br (w64 (↑(UInt8.toNat x5):Int)==0) (jn (JA p1 v2 v3 x5) true) (jn (JA p1 v2 v3 x5) (decide (orI v2 (AC3 ((w64 (↑(UInt8.toNat x5):Int)).tmod 128) (w64 (7*v3)))>2147483647)))) (jn (JA p1 v2 v3 x5) (decide (orI v2 (AC3 ((w64 (↑(UInt8.toNat x5):Int)).tmod 128) (w64 (7*v3)))>2147483647)))) (L1 ((orI v2 (AC3 ((w64 (↑(UInt8.toNat x5):Int)).tmod 128) (w64 (7*v3))),w64 (v3+1))))))
def VR(_:PUnit):AA (Int×Int×Bool):=some (0,0,false)
def VS(p0:List UInt8)(p1:Int)(L1:(Int×Int)->AA (Int×Int×Bool))(x_:(Int×Int)):AA (Int×Int×Bool):=match x_ with |(v2,v3)=>br (decide (v3<5)) (br (decide (p1<0)) (jn (Mc p0 p1 L1 v2 v3) true) (jn (Mc p0 p1 L1 v2 v3) (decide (p1>=w64 ((↑p0.length:Int)-v3))))) (jn VR ())
def iS(p0:List UInt8)(p1:Int):AA (Int×Int×Bool):=Aw (VS p0 p1) big (0,0)
def S8(v5:List Int):AA ((List Int)×Bool):=some (v5,true)
def S9(p0:List UInt8)(L1:((List Int)×Int)->AA ((List Int)×Bool))(x_:((List Int)×Int)):AA ((List Int)×Bool):=match x_ with |(v2,v3)=>br (decide (v3<(↑p0.length:Int))) (bd (iS p0 v3) fun x4=>br (!x4.snd.snd) (some ([],false)) (gd (List.length v2+[x4.fst].length<=lim) (L1 (v2++[x4.fst],x4.snd.fst)))) (jn S8 v2)
def Yi(p0:List UInt8):AA ((List Int)×Bool):=Aw (S9 p0) big ([],0)
def VO(_:PUnit):AA (Int×Int×Bool):=some (0,0,false)
def MZ(p0:List UInt8)(p1:Int)(L2:(Int×Int)->AA (Int×Int×Bool))(v3:Int)(v4:Int)(v5:Bool):AA (Int×Int×Bool):=br v5 (bd (at? p0 (w64 (p1+v4))) fun x6=>gd (¬w64 (7*v4)<0) (br (decide (w64 (↑(UInt8.toNat x6):Int)<128)) (bd (Hm (w64 (v3+AC3 ((w64 (↑(UInt8.toNat x6):Int)).tmod 128) (w64 (7*v4))))) fun x7=>br ((↑(List.length x7):Int) != w64 (v4+1)) (some (0,0,false)) (some ((w64 (v3+AC3 ((w64 (↑(UInt8.toNat x6):Int)).tmod 128) (w64 (7*v4))),w64 (w64 (p1+v4)+1),true)))) (L2 ((w64 (v3+AC3 ((w64 (↑(UInt8.toNat x6):Int)).tmod 128) (w64 (7*v4))),w64 (v4+1)))))) (jn VO ())
def VP(p0:List UInt8)(p1:Int)(L2:(Int×Int)->AA (Int×Int×Bool))(x_:(Int×Int)):AA (Int×Int×Bool):=match x_ with |(v3,v4)=>br (decide (v4<5)) (jn (MZ p0 p1 L2 v3 v4) (decide (w64 (p1+v4)<(↑p0.length:Int)))) (jn (MZ p0 p1 L2 v3 v4) false)
def iM(p0:List UInt8)(p1:Int):AA (Int×Int×Bool):=bd (Ck p1 0 (w64 ((↑p0.length:Int)-1))) fun x1=>br (!x1) (some (0,0,false)) (Aw (VP p0 p1) big (0,0))
def So(v5:List Int):AA ((List Int)×Bool):=some (v5,true)
def Sp(p0:List UInt8)(L1:((List Int)×Int)->AA ((List Int)×Bool))(x_:((List Int)×Int)):AA ((List Int)×Bool):=match x_ with |(v2,v3)=>br (decide (v3<(↑p0.length:Int))) (bd (iM p0 v3) fun x4=>br (!x4.snd.snd) (some ([],false)) (gd (List.length v2+[x4.fst].length<=lim) (L1 (v2++[x4.fst],x4.snd.fst)))) (jn So v2)
def Yc(p0:List UInt8):AA ((List Int)×Bool):=Aw (Sp p0) big ([],0)
def TD(p0:Int)(p1:Int):AA Int:=br (decide (p0<p1)) (some p0) (some p1)
def vJ(_:PUnit):AA Int:=some (-1)
def vK(p0:List AJ)(p1:Int)(L1:Int->AA Int)(v2:Int):AA Int:=br (decide (v2<(↑p0.length:Int))) (bd (at? p0 v2) fun x3=>br (x3.Id==p1) (some v2) (L1 (w64 (v2+1)))) (jn vJ ())
def ka(p0:List AJ)(p1:Int):AA Int:=Aw (vK p0 p1) big 0
def dT:GF:=gZ Oi CS BY 0xa105f9831a8768fdf402cacd2b966ef40cab673d4758bce637ed48b11aeaaf5c04 [] (Ak ka)
def AUp:YF:=⟨[],[.v (.l (.st 2)),.v (.st 2)],[],.ret [(.l (.st 2))],[.tmp 4],sq [qu 3 1,.as 4 (.k .nil),.UU [(.tmp 4 0,(.st 2))]] [0,3] (sr [wn 7 [wm 0,wo 0 3,wL,wc dT rfl [7,9]],qn [qa 5 10]] (Kp 41) (sr [wn 11 [wh (.Bu · 0 (.st 2) []),wm 0,wh (.app · (.st 2) true (.tmp 11) (.tmp 12))],qn [qa 6 13]] (Kp 105) (.seq (sw 14 [wm 5,wI .geq 0] (Kp 32873) (.cond 15 (Kp 104) [0,3] (sr [wn 16 [wm 6,wm 5,wk 10 3,we (.st 2) 16 17],qn [qw 10 19 18]] [6] (sq [qm 20 6,qa 4 20] [4] .ret)) .skip)) (sq [qK 5 0] (Kp 41) (.join [cv 5 .i] (bl 0 [cv 5 .i] (.seq (.join [cv 34 .b] (.Vm (qd 0 [wn 21 [wm 5,wm 0,wZ,wB .lss 21,wM],wt 25 26 [wm 0,wm 5,wE (.st 2) 26,wO 0,wL,wo 0 3,wL,wB .lss 30],qn [qq 34 25 33]] .nil) [0,3,5,34]) (ce 34 [0,3,5] (Kp 41) 0)) (.block 1 (qr [wn 35 [wm 5,wI .add 1],qn [qa 5 36]] (Kp 41))))) (.seq (.Vm (qd 1 [wn 38 [wm 0,wm 5,wh (.sub · (.st 2) (.tmp 38) none (some (.tmp 39)))]] (.op 5 none [] (.ld 42 (some 10) (.tmp 3)) (.both 0 (.op 0 none [3] (.Bu 37 0 (.st 2) []) (.both 0 (.op 4 none [3] (.app 41 (.st 2) true (.tmp 37) (.tmp 40)) (qd 6 [wn 43 [wh (.Bu · 1 (.st 2) [(0,(.tmp 42))]),wh (.app · (.st 2) true (.tmp 41) (.tmp 43))],qn [qa 6 44]] .nil)) (.op 6 none [] (.Bu 43 1 (.st 2) [(0,(.tmp 42))]) (.op 4 none [3] (.app 41 (.st 2) true (.tmp 37) (.tmp 40)) (qd 7 [qn [.app 44 (.st 2) true (.tmp 41) (.tmp 43),qa 6 44]] .nil))))) (.op 6 none [] (.Bu 43 1 (.st 2) [(0,(.tmp 42))]) (.op 0 none [3] (.Bu 37 0 (.st 2) []) (.op 4 none [3] (.app 41 (.st 2) true (.tmp 37) (.tmp 40)) (qd 7 [qn [.app 44 (.st 2) true (.tmp 41) (.tmp 43),qa 6 44]] .nil))))))) [0,5,6]) (sr [wn 45 [wm 6,wm 0,wm 5,wh (.sub · (.st 2) (.tmp 46) (some (.tmp 47)) none),wh (.app · (.st 2) true (.tmp 45) (.tmp 48))],qn [qa 4 49]] [4] .ret)))))))⟩
def aa(p0:List AJ)(p1:AJ)(v8:Int):AA (List AJ):=gd (0<=v8/\v8<=(↑p0.length:Int)) (gd (0+(List.take v8.toNat p0).length<=lim) (gd (([]++List.take v8.toNat p0).length+[p1].length<=lim) (gd (0+(List.take v8.toNat p0).length<=lim) (gd (([]++List.take v8.toNat p0).length+[p1].length<=lim) (ev2 ([]++List.take v8.toNat p0++[p1]) [p1] (gd (0+(List.take v8.toNat p0).length<=lim) (gd (([]++List.take v8.toNat p0).length+[p1].length<=lim) (ev2 ([]++List.take v8.toNat p0++[p1]) [p1] (gd (0<=v8/\v8<=(↑p0.length:Int)) (gd (([]++List.take v8.toNat p0++[p1]).length+(List.drop v8.toNat p0).length<=lim) (some ([]++List.take v8.toNat p0++[p1]++List.drop v8.toNat p0))))))))))))
def To(p0:List AJ)(p1:AJ)(L4:Int->AA (List AJ))(v5:Int)(v7:Bool):AA (List AJ):=br v7 (L4 (w64 (v5+1))) (jn (aa p0 p1) v5)
def ae(p0:List AJ)(p1:AJ)(L4:Int->AA (List AJ))(v5:Int):AA (List AJ):=br (decide (v5<(↑p0.length:Int))) (bd (at? p0 v5) fun x6=>jn (To p0 p1 L4 v5) (decide (x6.Id<p1.Id))) (jn (To p0 p1 L4 v5) false)
def aZ(p0:List AJ)(p1:AJ):AA (List AJ):=bd (ka p0 p1.Id) fun x1=>gd (0+p0.length<=lim) (br (decide (x1>=0)) (bd (at? ([]++p0) x1) fun x2=>bd (at? ([]++p0) x1) fun x3=>some (([]++p0).set (Int.toNat x1) p1)) (Aw (ae p0 p1) big 0))
def V7:GF:=AUp.Dx (Ak aZ)
def ag(p0:Ah)(p1:AY)(x1:Ah)(v3:Bool):AA (Ah×Bool):=br v3 (some (x1,false)) (bd (at? x1.Aa (p1.At.tmod 9)) fun x4=>bd (at? x1.Aa (p1.At.tmod 9)) fun x5=>bd (jV x5 p1) fun x6=>bd (at? x1.Aa (p1.At.tmod 9)) fun x7=>bd (at? x1.Aa (p1.At.tmod 9)) fun x8=>bd (Qw (Ah.mk (x1.Aa.set (p1.At.tmod 9).toNat x6))) fun x9=>br (!x9) (bd (aC p0) fun x10=>some (x10,false)) (some ((Ah.mk (x1.Aa.set (p1.At.tmod 9).toNat x6),true))))
def af(p0:Ah)(p1:AY):AA (Ah×Bool):=bd (aC p0) fun x1=>bd (Qw p0) fun x2=>br (!x2) (jn (ag p0 p1 x1) true) (jn (ag p0 p1 x1) (decide (p1.At<1)))
def n6:GF:=gZ oS oW oY 0x5d3a6ee63f1b2fc93df49b81a39c8187a199746f9ab8ac51240a0765f4aee489d330e9b83d9a3a08199e1d1a40f8d2515a8b74da66563fb102d36abf8f3f84f55c90505d4b0175b244a6249fc1ed1092d0d7d1390ce1e4edb [dN,Rc,AUn] (Ak af)
def Tp(p0:List Int)(p1:Int):AA (List Int):=gd (0+p0.length<=lim) (bd (jN p0 p1) fun x1=>br x1 (some ([]++p0)) (gd (([]++p0).length+[p1].length<=lim) (some ([]++p0++[p1]))))
def Rh:GF:=gZ dw lE BY 0x2cb28be7ea1b1214297f031a0ef9d5c0fbf698d29b06936739e96e9e361d5 [cy] (Ak Tp)
end Lv
set_option maxRecDepth 100000
namespace Lv
open Go (IntKind BinOp UnOp)
open Y (YF qn qf qt qr q1 qd qm qa qo ql qL qb qi qx qp qq qc qz qe qk qK qB qw qu qj Kp wn wf wt w1 sw sq sr wm wM wo wO wl wL wk wK wz wZ wx wX wb wB wi wI wr wR wq wQ we wE wc wY wj wh cv ca cx cn ce bl)
end Lv
