/-
  Printed: functions of the program as texts of the typed machine, as plain functions, and that the one is the other.
-/
import Derived.Test.YthnbolemafdhfaaGreatKA
import Derived.KernelRfl
set_option linter.unusedVariables false
set_option linter.unusedSimpArgs false
set_option linter.unusedSectionVars false
set_option maxRecDepth 100000
namespace Lv
open Go (IntKind BinOp UnOp)
open Y (YF qn qf qt qr q1 qd qm qa qo ql qL qb qi qx qp qq qc qz qe qk qK qB qw qu qj Kp wn wf wt w1 sw sq sr wm wM wo wO wl wL wk wK wz wZ wx wX wb wB wi wI wr wR wq wQ we wE wc wY wj wh cv ca cx cn ce bl)
noncomputable def IC(x_:(Int×(List UInt8))):Option (List UInt8):=
 match x_ with
 |(v5,v6)=>gd (v6.length+[toB v5].length<=lim) (
 some (v6++[toB v5]))
noncomputable def ID(L2:(Int×(List UInt8))->Option (List UInt8))(x_:(Int×(List UInt8))):Option (List UInt8):=
 match x_ with
 |(v3,v4)=>br (decide (v3>=128))
  (gd (v4.length+[toB (w64 (Int.tmod v3 128+128))].length<=lim) (
  L2 ((w64 (Int.tdiv v3 128),v4++[toB (w64 (Int.tmod v3 128+128))]))))
  (jn (IC) (v3,v4))
noncomputable def MO(p0:Int):Option (List UInt8):=
 bd (Fo p0 0 2147483647) fun x1=>
 br (!x1)
  (some [])
  (Ap (ID) big (p0,[]))
noncomputable def AB0:YF:=⟨[],[.v (.st 1)],[],.ret [(.st 1)],[.cell 2 (some 9)],
 sq [qu 1 0,.alloc 2 On,.A6 [(.cell 2 0,.i)]] [1,2] (sr [wn 3 [wh (.AR · 0 .i []),wo 0 1,wL,wh (.app · .i true (.tmp 3) (.tmp 5)),wo 0 1],
 qn [qw 1 7 6]] [1,2] (sq [qL 8 9 1,qw 9 2 8] [2] .ret))⟩
noncomputable def Ew(p0:AN):Option AN:=
 gd (0+p0.AM.length<=lim) (
 some (AN.mk ([]++p0.AM) p0.Bq p0.Room p0.AY p0.CI p0.BI p0.Rest p0.BF p0.Cc))
noncomputable def QH:GF:=AB0.gf rfl rfl (fun a=>Ew a.1) (fun a=>by kernel_rfl)
noncomputable def AB1:YF:=⟨[],[.v .i],[],.ret [(.st 3),.b],[.cell 2 (some 5),.tmp 3],
 sq [.alloc 2 By,qB 3 false] [0,2] (sr [wn 5 [wm 0,wm 0,wh (.build · By [(0,1,(.tmp 5)),(3,1,(.tmp 6))])],
 qn [.alloc 4 By,qw 5 4 7]] [2,4] (.seq (sw 8 [wk 5 4,wY He rfl,wX] (Kp 1044) (.cond 10 [2] [2,4] (sq [.build 11 By [],qw 5 2 11,qB 3 false] [2,3] .ret) .skip)) (sq [qL 12 5 4,qw 5 2 12,qB 3 true] [2,3] .ret)))⟩
noncomputable def wJ(p0:Int):Option (Am×Bool):=
 bd (fe (Am.mk p0 0 0 p0 0)) fun x1=>
 br (!x1)
  (some (Am.mk 0 0 0 0 0,false))
  (some (Am.mk p0 0 0 p0 0,true))
noncomputable def cI:GF:=AB1.gf rfl rfl (fun a=>wJ a.1) (fun a=>by kernel_rfl)
noncomputable def AB2:YF:=⟨[],[],[],.ret [(.st 6)],[.cell 0 (some 1)],
 sq [.alloc 0 [.nil],.A6 [(.cell 0 0,(.l (.st 5)))]] [0] (sq [.build 3 [.nil] [],.A6 [(.tmp 3 0,(.l (.st 5)))],.alloc 1 [.nil],.A6 [(.cell 1 0,(.l (.st 5)))],qw 1 1 3] [0,1] (.join [cx 1 (.st 6)] (sq [qK 2 0] (Kp 7) (bl 0 [cv 2 .i,cx 1 (.st 6)] (.seq (sw 4 [wm 2,wI .lss 9] (Kp 39) (ce 5 (Kp 7) [0,1] 0)) (.seq (.block 1 (qr [wn 8 [wo 0 1,wL,wh (.AR · 0 (.st 5) []),wh (.AR · 1 (.l (.st 5)) [(0,(.tmp 10))]),wh (.app · (.l (.st 5)) false (.tmp 9) (.tmp 11)),wo 0 1],
 qn [qw 1 13 12]] (Kp 7))) (qr [wn 6 [wm 2,wI .add 1],
 qn [qa 2 7]] (Kp 7)))))) (sq [qL 14 1 1,qw 1 0 14] [0] .ret)))⟩
noncomputable def ju(v4:AU):Option AU:=
 some v4
noncomputable def jv(L1:(Int×AU)->Option AU)(x_:(Int×AU)):Option AU:=
 match x_ with
 |(v2,v3)=>br (decide (v2<9))
  (gd (v3.AP.length+1<=lim) (
  L1 ((w64 (v2+1),AU.mk (v3.AP++[[]])))))
  (jn (ju) v3)
noncomputable def mz:Option AU:=
 Ap (jv) big (0,AU.mk [])
noncomputable def KU:GF:=AB2.gf rfl rfl (fun a=>mz) (fun a=>by kernel_rfl)
noncomputable def AAU:YF:=⟨[],[.v .i],[],.ret [(.st 7),.b],[.cell 2 (some 7),.tmp 3],
 sq [.alloc 2 C6,.A6 [(.cell 2 5,(.st 4)),(.cell 2 6,(.l (.st 5)))],qB 3 false] [0,2] (sr [wn 7 [wm 0,wY cI rfl],
 qn [qm 6 8],
 wn 9 [wh (.ext · (.tmp 6) 0),wh (.ext · (.tmp 6) 1)],
 qn [.alloc 4 By,qw 5 4 9,qa 5 10]] (Kp 52) (.seq (sw 11 [wm 5,wX] (Kp 4116) (.cond 12 [2] [2,4] (sq [.build 13 C6 [],.A6 [(.tmp 13 5,(.st 4)),(.tmp 13 6,(.l (.st 5)))],qw 7 2 13,qB 3 false] [2,3] .ret) .skip)) (.seq (.BW (.op 0 none [] (.ld 14 (some 5) (.tmp 4))
 (.op 1 none [4] (.call 15 KU [] rfl [])
 (.op 2 none [] (.build 16 C6 [(0,5,(.tmp 14)),(6,1,(.tmp 15))])
 (.nl [(.tmp 16 5,(.st 4))] (qd 3 [qn [qw 7 2 16,qB 3 true]] .nil))))) [2,3]) .ret)))⟩
noncomputable def j8(p0:Int):Option (AZ×Bool):=
 bd (wJ p0) fun x1=>
 br (!x1.snd)
  (some ((AZ.mk (Am.mk 0 0 0 0 0) [] (AU.mk []),false)))
  (bd (mz) fun x2=>
  some (AZ.mk x1.fst [] x2,true))
noncomputable def Ss:GF:=AAU.gf rfl rfl (fun a=>j8 a.1) (fun a=>by kernel_rfl)
noncomputable def AAV:YF:=⟨[],[.v (.st 1)],[],.ret [(.st 8),.b],[.cell 2 (some 15),.tmp 3],
 sq [qu 1 0,.alloc 2 Ae,.A6 [(.cell 2 0,.i),(.cell 2 11,(.st 2)),(.cell 2 12,(.st 7)),(.cell 2 13,.i),(.cell 2 14,.i)],qB 3 false] [1,2] (.seq (sw 9 [wk 9 1,wY Hd rfl,wX] (Kp 2054) (.cond 11 [2] [1,2] (sq [.build 12 Ae [],.A6 [(.tmp 12 0,.i),(.tmp 12 11,(.st 2)),(.tmp 12 12,(.st 7)),(.tmp 12 13,.i),(.tmp 12 14,.i)],qw 15 2 12,qB 3 false] [2,3] .ret) .skip)) (sr [wn 13 [wk 9 1,wY QH rfl,wh (.build · Ae [(0,9,(.tmp 14)),(10,1,(.k (.int .i64 1)))])],
 qn [.A6 [(.tmp 15 11,(.st 2)),(.tmp 15 12,(.st 7)),(.tmp 15 13,.i),(.tmp 15 14,.i)],.alloc 4 Ae,.A6 [(.cell 4 0,.i),(.cell 4 11,(.st 2)),(.cell 4 12,(.st 7)),(.cell 4 13,.i),(.cell 4 14,.i)],qw 15 4 15]] (Kp 22) (.join [cx 4 (.st 8)] (sq [qK 5 0] (Kp 54) (bl 0 [cv 5 .i,cx 4 (.st 8)] (.seq (sw 16 [wm 5,wo 0 1,wL,wZ,wB .lss 16] (Kp 1048630) (ce 20 [1,2,4,5] (Kp 22) 0)) (.seq (.block 1 (sr [wn 24 [wo 0 1,wL,wm 5,wE .i 25,wL,wY Ss rfl],
 qn [qm 23 29],
 wn 30 [wh (.ext · (.tmp 23) 0),wh (.ext · (.tmp 23) 1)],
 qn [.alloc 6 C6,.A6 [(.cell 6 5,(.st 4)),(.cell 6 6,(.l (.st 5)))],qw 7 6 30,qa 7 31]] (Kp 118) (qr [wn 32 [wo 12 4,wL,wk 7 6,wh (.AR · 1 (.st 7) [(0,(.tmp 34))]),wh (.app · (.st 7) false (.tmp 33) (.tmp 35)),wo 12 4],
 qn [qw 1 37 36]] (Kp 54)))) (qr [wn 21 [wm 5,wI .add 1],
 qn [qa 5 22]] (Kp 54)))))) (.join [cx 4 (.st 8)] (sq [qK 8 0] (Kp 278) (bl 2 [cv 8 .i,cx 4 (.st 8)] (.seq (sw 38 [wm 8,wo 8 1,wL,wB .lss 38] [1,2,4,8,41] (ce 41 (Kp 278) [2,4] 2)) (.seq (.block 3 (qr [wn 44 [wo 14 4,wL,wh (.AR · 1 .i [(0,(.k (.int .i64 (-1))))]),wh (.app · .i true (.tmp 45) (.tmp 46)),wo 14 4],
 qn [qw 1 48 47]] (Kp 278))) (qr [wn 42 [wm 8,wI .add 1],
 qn [qa 8 43]] (Kp 278)))))) (sq [qL 49 15 4,qw 15 2 49,qB 3 true] [2,3] .ret)))))⟩
noncomputable def aa(v12:AA):Option (AA×Bool):=
 some (v12,true)
noncomputable def ae(p0:AN)(L9:(Int×AA)->Option (AA×Bool))(x_:(Int×AA)):Option (AA×Bool):=
 match x_ with
 |(v10,v11)=>br (decide (v10<p0.Cc))
  (gd (v11.AS.length+[-1].length<=lim) (
  L9 ((w64 (v10+1),AA.mk v11.AG v11.Now v11.AQ v11.AB v11.AE v11.AW (v11.AS++[-1])))))
  (jn (aa) v11)
noncomputable def aZ(p0:AN)(v8:AA):Option (AA×Bool):=
 Ap (ae p0) big (0,v8)
noncomputable def ab(p0:AN)(L3:(Int×AA)->Option (AA×Bool))(x_:(Int×AA)):Option (AA×Bool):=
 match x_ with
 |(v4,v5)=>br (decide (v4<(↑p0.AM.length:Int)))
  (bd (at? p0.AM v4) fun x6=>
  bd (j8 x6) fun x7=>
  gd (v5.AE.length+[x7.fst].length<=lim) (
  L3 ((w64 (v4+1),AA.mk v5.AG v5.Now v5.AQ v5.AB (v5.AE++[x7.fst]) v5.AW v5.AS))))
  (jn (aZ p0) v5)
noncomputable def Vx(p0:AN):Option (AA×Bool):=
 bd (fc p0) fun x1=>
 br (!x1)
  (some ((AA.mk (AN.mk [] 0 0 0 0 0 0 0 0) 0 0 [] [] [] [],false)))
  (bd (Ew p0) fun x2=>
  Ap (ab p0) big (0,AA.mk x2 0 1 [] [] [] []))
noncomputable def KZ:GF:=AAV.gf rfl rfl (fun a=>Vx a.1) (fun a=>by kernel_rfl)
end Lv
set_option maxRecDepth 100000
namespace Lv
open Go (IntKind BinOp UnOp)
open Y (YF qn qf qt qr q1 qd qm qa qo ql qL qb qi qx qp qq qc qz qe qk qK qB qw qu qj Kp wn wf wt w1 sw sq sr wm wM wo wO wl wL wk wK wz wZ wx wX wb wB wi wI wr wR wq wQ we wE wc wY wj wh cv ca cx cn ce bl)
noncomputable def AAW:YF:=⟨[],[.v (.st 6)],[],.ret [(.st 6)],[.cell 2 (some 1)],
 sq [qu 1 0,.alloc 2 [.nil],.A6 [(.cell 2 0,(.l (.st 5)))]] [1,2] (sq [.build 5 [.nil] [],.A6 [(.tmp 5 0,(.l (.st 5)))],.alloc 3 [.nil],.A6 [(.cell 3 0,(.l (.st 5)))],qw 1 3 5] (Kp 14) (.join [cx 3 (.st 6)] (sq [qK 4 0] (Kp 30) (bl 0 [cv 4 .i,cx 3 (.st 6)] (.seq (sw 6 [wm 4,wo 0 1,wL,wZ,wB .lss 6] (Kp 1054) (ce 10 (Kp 30) [2,3] 0)) (.seq (.block 1 (.BW (qd 0 [wn 13 [wo 0 3,wL]] (qd 3 [wn 16 [wo 0 1,wL,wm 4,wE (.l (.st 5)) 17,wL]] (.op 2 none [13,16,19] (.AR 15 0 (.st 5) [])
 (.op 8 none [13] (.app 21 (.st 5) true (.tmp 15) (.tmp 20))
 (.op 9 none [13] (.AR 22 1 (.l (.st 5)) [(0,(.tmp 21))])
 (qd 10 [wn 23 [wh (.app · (.l (.st 5)) false (.tmp 14) (.tmp 22)),wo 0 3],
 qn [qw 1 24 23]] .nil)))))) [1,2,3,4])) (qr [wn 11 [wm 4,wI .add 1],
 qn [qa 4 12]] (Kp 30)))))) (sq [qL 25 1 3,qw 1 2 25] [2] .ret)))⟩
noncomputable def af(v5:AU):Option AU:=
 some v5
noncomputable def Re(p0:AU)(L1:(Int×AU)->Option AU)(x_:(Int×AU)):Option AU:=
 match x_ with
 |(v2,v3)=>br (decide (v2<(↑p0.AP.length:Int)))
  (bd (at? p0.AP v2) fun x4=>
  gd (0+List.length x4<=lim) (
  gd (v3.AP.length+[[]++x4].length<=lim) (
  L1 ((w64 (v2+1),AU.mk (v3.AP++[[]++x4]))))))
  (jn (af) v3)
noncomputable def Rc(p0:AU):Option AU:=
 Ap (Re p0) big (0,AU.mk [])
noncomputable def E2:GF:=AAW.gf rfl rfl (fun a=>Rc a.1) (fun a=>by kernel_rfl)
noncomputable def AAX:YF:=⟨[],[.v (.st 7)],[],.ret [(.st 7)],[.cell 2 (some 7)],
 sq [qu 1 0,.alloc 2 C6,.A6 [(.cell 2 5,(.st 4)),(.cell 2 6,(.l (.st 5)))]] [1,2] (.seq (.BW (qd 0 [wn 3 [wo 0 1,wK 5,wo 5 1,wL]] (qd 5 [wn 8 [wo 6 1,wK 1]] (.op 4 none [3,8] (.call 7 Es [] rfl [(.tmp 6)])
 (.op 7 none [3] (.call 10 E2 [] rfl [(.tmp 9)])
 (qd 8 [qn [.build 11 C6 [(0,5,(.tmp 4)),(5,1,(.tmp 7)),(6,1,(.tmp 10))],qw 7 2 11]] .nil))))) [2]) .ret)⟩
noncomputable def j9(p0:AZ):Option AZ:=
 bd (VX p0.Row) fun x1=>
 bd (Rc p0.BL) fun x2=>
 some (AZ.mk p0.AM x1 x2)
noncomputable def Su:GF:=AAX.gf rfl rfl (fun a=>j9 a.1) (fun a=>by kernel_rfl)
noncomputable def RB:Y.YOp []:=.app 19 .i true (.tmp 16) (.tmp 18)
noncomputable def Hi:Y.YOp []:=.app 15 (.st 2) true (.tmp 12) (.tmp 14)
noncomputable def DP:Y.YOp []:=.call 7 QH [] rfl [(.tmp 6)]
noncomputable def mF:Y.Ad []:=(.op 21 none [] (.st 15 (.tmp 3) (.tmp 24))
 (.dr [5,6,7,8,9,10,11,12,13,14,15,16,17,18,19,20,21,22,23,24] .nil))
noncomputable def xb:Y.Ad []:=(.op 20 none [5,8,10,13,17,21] (.alloc 3 Ae)
 (.nl [(.cell 3 0,.i),(.cell 3 11,(.st 2)),(.cell 3 12,(.st 7)),(.cell 3 13,.i),(.cell 3 14,.i)] mF))
noncomputable def xc:Y.Ad []:=(.op 19 none [] (.build 24 Ae [(0,9,(.tmp 7)),(9,1,(.tmp 9)),(10,1,(.tmp 11)),(11,1,(.tmp 15)),(13,1,(.tmp 19)),(14,1,(.tmp 23))])
 (.nl [(.tmp 24 12,(.st 7))] xb))
noncomputable def xd:Y.Ad []:=(.op 18 none [8,10] (.app 23 .i true (.tmp 20) (.tmp 22))
 xc)
noncomputable def xe:Y.Ad []:=(.op 19 none [] (.build 24 Ae [(0,9,(.tmp 7)),(9,1,(.tmp 9)),(10,1,(.tmp 11)),(11,1,(.tmp 15)),(13,1,(.tmp 19)),(14,1,(.tmp 23))])
 (.nl [(.tmp 24 12,(.st 7))] mF))
noncomputable def ZI:Y.Ad []:=(.op 18 none [8,10] (.app 23 .i true (.tmp 20) (.tmp 22))
 xe)
noncomputable def xg:Y.Ad []:=(.op 20 none [5,8,10,13,17,21] (.alloc 3 Ae)
 (.nl [(.cell 3 0,.i),(.cell 3 11,(.st 2)),(.cell 3 12,(.st 7)),(.cell 3 13,.i),(.cell 3 14,.i)] ZI))
noncomputable def mG:Y.Ad []:=(.both 1 xd xg)
noncomputable def xh:Y.Ad []:=(.op 15 none [5,8,10,13,17,21] (.AR 20 0 .i [])
 mG)
noncomputable def mH:Y.Ad []:=(.op 15 none [5,8,10,13,17,21] (.AR 20 0 .i [])
 ZI)
noncomputable def sx:Y.Ad []:=(.op 20 none [5,8,10,13,17,21] (.alloc 3 Ae)
 (.nl [(.cell 3 0,.i),(.cell 3 11,(.st 2)),(.cell 3 12,(.st 7)),(.cell 3 13,.i),(.cell 3 14,.i)] mH))
noncomputable def sy:Y.Ad []:=(.both 1 xh sx)
noncomputable def sz:Y.Ad []:=(.op 14 none [8,10,21] RB
 sy)
noncomputable def s4:Y.Ad []:=(.op 14 none [8,10,21] RB
 mG)
noncomputable def OQ:Y.Ad []:=(.op 14 none [8,10,21] RB
 ZI)
noncomputable def s5:Y.Ad []:=(.op 20 none [5,8,10,13,17,21] (.alloc 3 Ae)
 (.nl [(.cell 3 0,.i),(.cell 3 11,(.st 2)),(.cell 3 12,(.st 7)),(.cell 3 13,.i),(.cell 3 14,.i)] OQ))
noncomputable def Uk:Y.Ad []:=(.both 1 s4 s5)
noncomputable def s6:Y.Ad []:=(.op 15 none [5,8,10,13,17,21] (.AR 20 0 .i [])
 Uk)
noncomputable def s7:Y.Ad []:=(.op 14 none [8,10,21] RB
 mH)
noncomputable def s8:Y.Ad []:=(.op 15 none [5,8,10,13,17,21] (.AR 20 0 .i [])
 OQ)
noncomputable def Ul:Y.Ad []:=(.both 1 s7 s8)
noncomputable def s9:Y.Ad []:=(.op 20 none [5,8,10,13,17,21] (.alloc 3 Ae)
 (.nl [(.cell 3 0,.i),(.cell 3 11,(.st 2)),(.cell 3 12,(.st 7)),(.cell 3 13,.i),(.cell 3 14,.i)] Ul))
noncomputable def tA:Y.Ad []:=(.both 1 s6 s9)
noncomputable def da:Y.Ad []:=(.both 1 sz tA)
noncomputable def tB:Y.Ad []:=(.op 11 none [5,8,10,13,17,21] (.AR 16 0 .i [])
 da)
noncomputable def tC:Y.Ad []:=(.op 11 none [5,8,10,13,17,21] (.AR 16 0 .i [])
 Uk)
noncomputable def Um:Y.Ad []:=(.op 11 none [5,8,10,13,17,21] (.AR 16 0 .i [])
 OQ)
noncomputable def tE:Y.Ad []:=(.op 20 none [5,8,10,13,17,21] (.alloc 3 Ae)
 (.nl [(.cell 3 0,.i),(.cell 3 11,(.st 2)),(.cell 3 12,(.st 7)),(.cell 3 13,.i),(.cell 3 14,.i)] Um))
noncomputable def db:Y.Ad []:=(.both 1 tC tE)
noncomputable def tF:Y.Ad []:=(.op 15 none [5,8,10,13,17,21] (.AR 20 0 .i [])
 db)
noncomputable def tG:Y.Ad []:=(.op 11 none [5,8,10,13,17,21] (.AR 16 0 .i [])
 Ul)
noncomputable def tH:Y.Ad []:=(.op 15 none [5,8,10,13,17,21] (.AR 20 0 .i [])
 Um)
noncomputable def dc:Y.Ad []:=(.both 1 tG tH)
noncomputable def tI:Y.Ad []:=(.op 20 none [5,8,10,13,17,21] (.alloc 3 Ae)
 (.nl [(.cell 3 0,.i),(.cell 3 11,(.st 2)),(.cell 3 12,(.st 7)),(.cell 3 13,.i),(.cell 3 14,.i)] dc))
noncomputable def tJ:Y.Ad []:=(.both 1 tF tI)
noncomputable def tK:Y.Ad []:=(.both 1 tB tJ)
noncomputable def tL:Y.Ad []:=(.op 10 none [8,10,17,21] Hi
 tK)
noncomputable def tM:Y.Ad []:=(.op 10 none [8,10,17,21] Hi
 da)
noncomputable def tN:Y.Ad []:=(.op 10 none [8,10,17,21] Hi
 Uk)
noncomputable def LG:Y.Ad []:=(.op 10 none [8,10,17,21] Hi
 OQ)
noncomputable def tO:Y.Ad []:=(.op 20 none [5,8,10,13,17,21] (.alloc 3 Ae)
 (.nl [(.cell 3 0,.i),(.cell 3 11,(.st 2)),(.cell 3 12,(.st 7)),(.cell 3 13,.i),(.cell 3 14,.i)] LG))
noncomputable def OR:Y.Ad []:=(.both 1 tN tO)
noncomputable def tP:Y.Ad []:=(.op 15 none [5,8,10,13,17,21] (.AR 20 0 .i [])
 OR)
noncomputable def tQ:Y.Ad []:=(.op 10 none [8,10,17,21] Hi
 Ul)
noncomputable def tR:Y.Ad []:=(.op 15 none [5,8,10,13,17,21] (.AR 20 0 .i [])
 LG)
noncomputable def OS:Y.Ad []:=(.both 1 tQ tR)
noncomputable def tS:Y.Ad []:=(.op 20 none [5,8,10,13,17,21] (.alloc 3 Ae)
 (.nl [(.cell 3 0,.i),(.cell 3 11,(.st 2)),(.cell 3 12,(.st 7)),(.cell 3 13,.i),(.cell 3 14,.i)] OS))
noncomputable def tT:Y.Ad []:=(.both 1 tP tS)
noncomputable def Un:Y.Ad []:=(.both 1 tM tT)
noncomputable def tU:Y.Ad []:=(.op 11 none [5,8,10,13,17,21] (.AR 16 0 .i [])
 Un)
noncomputable def tV:Y.Ad []:=(.op 10 none [8,10,17,21] Hi
 db)
noncomputable def tW:Y.Ad []:=(.op 11 none [5,8,10,13,17,21] (.AR 16 0 .i [])
 OR)
noncomputable def tX:Y.Ad []:=(.op 10 none [8,10,17,21] Hi
 Um)
noncomputable def tY:Y.Ad []:=(.op 11 none [5,8,10,13,17,21] (.AR 16 0 .i [])
 LG)
noncomputable def OT:Y.Ad []:=(.both 1 tX tY)
noncomputable def tZ:Y.Ad []:=(.op 20 none [5,8,10,13,17,21] (.alloc 3 Ae)
 (.nl [(.cell 3 0,.i),(.cell 3 11,(.st 2)),(.cell 3 12,(.st 7)),(.cell 3 13,.i),(.cell 3 14,.i)] OT))
noncomputable def ta:Y.Ad []:=(.both 1 tW tZ)
noncomputable def Uo:Y.Ad []:=(.both 1 tV ta)
noncomputable def te:Y.Ad []:=(.op 15 none [5,8,10,13,17,21] (.AR 20 0 .i [])
 Uo)
noncomputable def tf:Y.Ad []:=(.op 10 none [8,10,17,21] Hi
 dc)
noncomputable def th:Y.Ad []:=(.op 11 none [5,8,10,13,17,21] (.AR 16 0 .i [])
 OS)
noncomputable def tj:Y.Ad []:=(.op 15 none [5,8,10,13,17,21] (.AR 20 0 .i [])
 OT)
noncomputable def tk:Y.Ad []:=(.both 1 th tj)
noncomputable def Up:Y.Ad []:=(.both 1 tf tk)
noncomputable def tl:Y.Ad []:=(.op 20 none [5,8,10,13,17,21] (.alloc 3 Ae)
 (.nl [(.cell 3 0,.i),(.cell 3 11,(.st 2)),(.cell 3 12,(.st 7)),(.cell 3 13,.i),(.cell 3 14,.i)] Up))
noncomputable def tn:Y.Ad []:=(.both 1 te tl)
noncomputable def tp:Y.Ad []:=(.both 1 tU tn)
noncomputable def de:Y.Ad []:=(.both 1 tL tp)
noncomputable def tq:Y.Ad []:=(.op 7 none [5,8,10,13,17,21] (.AR 12 0 (.st 2) [])
 de)
noncomputable def tt:Y.Ad []:=(.op 7 none [5,8,10,13,17,21] (.AR 12 0 (.st 2) [])
 Un)
noncomputable def tu:Y.Ad []:=(.op 7 none [5,8,10,13,17,21] (.AR 12 0 (.st 2) [])
 OR)
noncomputable def OU:Y.Ad []:=(.op 7 none [5,8,10,13,17,21] (.AR 12 0 (.st 2) [])
 LG)
noncomputable def tw:Y.Ad []:=(.op 20 none [5,8,10,13,17,21] (.alloc 3 Ae)
 (.nl [(.cell 3 0,.i),(.cell 3 11,(.st 2)),(.cell 3 12,(.st 7)),(.cell 3 13,.i),(.cell 3 14,.i)] OU))
noncomputable def Uq:Y.Ad []:=(.both 1 tu tw)
noncomputable def tx:Y.Ad []:=(.op 15 none [5,8,10,13,17,21] (.AR 20 0 .i [])
 Uq)
noncomputable def tz:Y.Ad []:=(.op 7 none [5,8,10,13,17,21] (.AR 12 0 (.st 2) [])
 OS)
noncomputable def uA:Y.Ad []:=(.op 15 none [5,8,10,13,17,21] (.AR 20 0 .i [])
 OU)
noncomputable def Ur:Y.Ad []:=(.both 1 tz uA)
noncomputable def uB:Y.Ad []:=(.op 20 none [5,8,10,13,17,21] (.alloc 3 Ae)
 (.nl [(.cell 3 0,.i),(.cell 3 11,(.st 2)),(.cell 3 12,(.st 7)),(.cell 3 13,.i),(.cell 3 14,.i)] Ur))
noncomputable def uC:Y.Ad []:=(.both 1 tx uB)
noncomputable def dg:Y.Ad []:=(.both 1 tt uC)
noncomputable def uD:Y.Ad []:=(.op 11 none [5,8,10,13,17,21] (.AR 16 0 .i [])
 dg)
noncomputable def uE:Y.Ad []:=(.op 7 none [5,8,10,13,17,21] (.AR 12 0 (.st 2) [])
 Uo)
noncomputable def uF:Y.Ad []:=(.op 11 none [5,8,10,13,17,21] (.AR 16 0 .i [])
 Uq)
noncomputable def uG:Y.Ad []:=(.op 7 none [5,8,10,13,17,21] (.AR 12 0 (.st 2) [])
 OT)
noncomputable def uH:Y.Ad []:=(.op 11 none [5,8,10,13,17,21] (.AR 16 0 .i [])
 OU)
noncomputable def Ut:Y.Ad []:=(.both 1 uG uH)
noncomputable def uI:Y.Ad []:=(.op 20 none [5,8,10,13,17,21] (.alloc 3 Ae)
 (.nl [(.cell 3 0,.i),(.cell 3 11,(.st 2)),(.cell 3 12,(.st 7)),(.cell 3 13,.i),(.cell 3 14,.i)] Ut))
noncomputable def uJ:Y.Ad []:=(.both 1 uF uI)
noncomputable def dh:Y.Ad []:=(.both 1 uE uJ)
noncomputable def uK:Y.Ad []:=(.op 15 none [5,8,10,13,17,21] (.AR 20 0 .i [])
 dh)
noncomputable def uL:Y.Ad []:=(.op 7 none [5,8,10,13,17,21] (.AR 12 0 (.st 2) [])
 Up)
noncomputable def uM:Y.Ad []:=(.op 11 none [5,8,10,13,17,21] (.AR 16 0 .i [])
 Ur)
noncomputable def uN:Y.Ad []:=(.op 15 none [5,8,10,13,17,21] (.AR 20 0 .i [])
 Ut)
noncomputable def uO:Y.Ad []:=(.both 1 uM uN)
noncomputable def di:Y.Ad []:=(.both 1 uL uO)
noncomputable def uP:Y.Ad []:=(.op 20 none [5,8,10,13,17,21] (.alloc 3 Ae)
 (.nl [(.cell 3 0,.i),(.cell 3 11,(.st 2)),(.cell 3 12,(.st 7)),(.cell 3 13,.i),(.cell 3 14,.i)] di))
noncomputable def uQ:Y.Ad []:=(.both 1 uK uP)
noncomputable def uR:Y.Ad []:=(.both 1 uD uQ)
noncomputable def uS:Y.Ad []:=(.both 1 tq uR)
noncomputable def nX:Y.Ad []:=(.op 2 none [8,10,13,17,21] DP
 uS)
noncomputable def nY:Y.Ad []:=(.op 2 none [8,10,13,17,21] DP
 de)
noncomputable def nZ:Y.Ad []:=(.op 2 none [8,10,13,17,21] DP
 Un)
noncomputable def na:Y.Ad []:=(.op 2 none [8,10,13,17,21] DP
 OR)
noncomputable def Lx:Y.Ad []:=(.op 2 none [8,10,13,17,21] DP
 LG)
noncomputable def nc:Y.Ad []:=(.op 20 none [5,8,10,13,17,21] (.alloc 3 Ae)
 (.nl [(.cell 3 0,.i),(.cell 3 11,(.st 2)),(.cell 3 12,(.st 7)),(.cell 3 13,.i),(.cell 3 14,.i)] Lx))
noncomputable def Pq:Y.Ad []:=(.both 1 na nc)
noncomputable def nd:Y.Ad []:=(.op 15 none [5,8,10,13,17,21] (.AR 20 0 .i [])
 Pq)
noncomputable def ng:Y.Ad []:=(.op 2 none [8,10,13,17,21] DP
 OS)
noncomputable def nh:Y.Ad []:=(.op 15 none [5,8,10,13,17,21] (.AR 20 0 .i [])
 Lx)
noncomputable def Pr:Y.Ad []:=(.both 1 ng nh)
noncomputable def ni:Y.Ad []:=(.op 20 none [5,8,10,13,17,21] (.alloc 3 Ae)
 (.nl [(.cell 3 0,.i),(.cell 3 11,(.st 2)),(.cell 3 12,(.st 7)),(.cell 3 13,.i),(.cell 3 14,.i)] Pr))
noncomputable def nj:Y.Ad []:=(.both 1 nd ni)
noncomputable def W1:Y.Ad []:=(.both 1 nZ nj)
noncomputable def nm:Y.Ad []:=(.op 11 none [5,8,10,13,17,21] (.AR 16 0 .i [])
 W1)
noncomputable def nn:Y.Ad []:=(.op 2 none [8,10,13,17,21] DP
 Uo)
noncomputable def nq:Y.Ad []:=(.op 11 none [5,8,10,13,17,21] (.AR 16 0 .i [])
 Pq)
noncomputable def nr:Y.Ad []:=(.op 2 none [8,10,13,17,21] DP
 OT)
noncomputable def nt:Y.Ad []:=(.op 11 none [5,8,10,13,17,21] (.AR 16 0 .i [])
 Lx)
noncomputable def Ps:Y.Ad []:=(.both 1 nr nt)
noncomputable def nu:Y.Ad []:=(.op 20 none [5,8,10,13,17,21] (.alloc 3 Ae)
 (.nl [(.cell 3 0,.i),(.cell 3 11,(.st 2)),(.cell 3 12,(.st 7)),(.cell 3 13,.i),(.cell 3 14,.i)] Ps))
noncomputable def nw:Y.Ad []:=(.both 1 nq nu)
noncomputable def W2:Y.Ad []:=(.both 1 nn nw)
noncomputable def nx:Y.Ad []:=(.op 15 none [5,8,10,13,17,21] (.AR 20 0 .i [])
 W2)
noncomputable def ny:Y.Ad []:=(.op 2 none [8,10,13,17,21] DP
 Up)
noncomputable def nz:Y.Ad []:=(.op 11 none [5,8,10,13,17,21] (.AR 16 0 .i [])
 Pr)
noncomputable def n0:Y.Ad []:=(.op 15 none [5,8,10,13,17,21] (.AR 20 0 .i [])
 Ps)
noncomputable def n6:Y.Ad []:=(.both 1 nz n0)
noncomputable def W3:Y.Ad []:=(.both 1 ny n6)
noncomputable def n7:Y.Ad []:=(.op 20 none [5,8,10,13,17,21] (.alloc 3 Ae)
 (.nl [(.cell 3 0,.i),(.cell 3 11,(.st 2)),(.cell 3 12,(.st 7)),(.cell 3 13,.i),(.cell 3 14,.i)] W3))
noncomputable def n8:Y.Ad []:=(.both 1 nx n7)
noncomputable def n9:Y.Ad []:=(.both 1 nm n8)
noncomputable def oA:Y.Ad []:=(.both 1 nY n9)
noncomputable def oB:Y.Ad []:=(.op 7 none [5,8,10,13,17,21] (.AR 12 0 (.st 2) [])
 oA)
noncomputable def oC:Y.Ad []:=(.op 2 none [8,10,13,17,21] DP
 dg)
noncomputable def oD:Y.Ad []:=(.op 7 none [5,8,10,13,17,21] (.AR 12 0 (.st 2) [])
 W1)
noncomputable def oE:Y.Ad []:=(.op 2 none [8,10,13,17,21] DP
 Uq)
noncomputable def oF:Y.Ad []:=(.op 7 none [5,8,10,13,17,21] (.AR 12 0 (.st 2) [])
 Pq)
noncomputable def oG:Y.Ad []:=(.op 2 none [8,10,13,17,21] DP
 OU)
noncomputable def oH:Y.Ad []:=(.op 7 none [5,8,10,13,17,21] (.AR 12 0 (.st 2) [])
 Lx)
noncomputable def Pt:Y.Ad []:=(.both 1 oG oH)
noncomputable def oI:Y.Ad []:=(.op 20 none [5,8,10,13,17,21] (.alloc 3 Ae)
 (.nl [(.cell 3 0,.i),(.cell 3 11,(.st 2)),(.cell 3 12,(.st 7)),(.cell 3 13,.i),(.cell 3 14,.i)] Pt))
noncomputable def oJ:Y.Ad []:=(.both 1 oF oI)
noncomputable def W4:Y.Ad []:=(.both 1 oE oJ)
noncomputable def oK:Y.Ad []:=(.op 15 none [5,8,10,13,17,21] (.AR 20 0 .i [])
 W4)
noncomputable def oL:Y.Ad []:=(.op 2 none [8,10,13,17,21] DP
 Ur)
noncomputable def oM:Y.Ad []:=(.op 7 none [5,8,10,13,17,21] (.AR 12 0 (.st 2) [])
 Pr)
noncomputable def oN:Y.Ad []:=(.op 15 none [5,8,10,13,17,21] (.AR 20 0 .i [])
 Pt)
noncomputable def oO:Y.Ad []:=(.both 1 oM oN)
noncomputable def W5:Y.Ad []:=(.both 1 oL oO)
noncomputable def oP:Y.Ad []:=(.op 20 none [5,8,10,13,17,21] (.alloc 3 Ae)
 (.nl [(.cell 3 0,.i),(.cell 3 11,(.st 2)),(.cell 3 12,(.st 7)),(.cell 3 13,.i),(.cell 3 14,.i)] W5))
noncomputable def oQ:Y.Ad []:=(.both 1 oK oP)
noncomputable def oR:Y.Ad []:=(.both 1 oD oQ)
noncomputable def oS:Y.Ad []:=(.both 1 oC oR)
noncomputable def oT:Y.Ad []:=(.op 11 none [5,8,10,13,17,21] (.AR 16 0 .i [])
 oS)
noncomputable def oU:Y.Ad []:=(.op 2 none [8,10,13,17,21] DP
 dh)
noncomputable def oV:Y.Ad []:=(.op 7 none [5,8,10,13,17,21] (.AR 12 0 (.st 2) [])
 W2)
noncomputable def oW:Y.Ad []:=(.op 11 none [5,8,10,13,17,21] (.AR 16 0 .i [])
 W4)
noncomputable def oX:Y.Ad []:=(.op 2 none [8,10,13,17,21] DP
 Ut)
noncomputable def oY:Y.Ad []:=(.op 7 none [5,8,10,13,17,21] (.AR 12 0 (.st 2) [])
 Ps)
noncomputable def oZ:Y.Ad []:=(.op 11 none [5,8,10,13,17,21] (.AR 16 0 .i [])
 Pt)
noncomputable def od:Y.Ad []:=(.both 1 oY oZ)
noncomputable def W6:Y.Ad []:=(.both 1 oX od)
noncomputable def oe:Y.Ad []:=(.op 20 none [5,8,10,13,17,21] (.alloc 3 Ae)
 (.nl [(.cell 3 0,.i),(.cell 3 11,(.st 2)),(.cell 3 12,(.st 7)),(.cell 3 13,.i),(.cell 3 14,.i)] W6))
noncomputable def og:Y.Ad []:=(.both 1 oW oe)
noncomputable def oh:Y.Ad []:=(.both 1 oV og)
noncomputable def oo:Y.Ad []:=(.both 1 oU oh)
noncomputable def oq:Y.Ad []:=(.op 15 none [5,8,10,13,17,21] (.AR 20 0 .i [])
 oo)
noncomputable def ot:Y.Ad []:=(.op 2 none [8,10,13,17,21] DP
 di)
noncomputable def ou:Y.Ad []:=(.op 7 none [5,8,10,13,17,21] (.AR 12 0 (.st 2) [])
 W3)
noncomputable def oz:Y.Ad []:=(.op 11 none [5,8,10,13,17,21] (.AR 16 0 .i [])
 W5)
noncomputable def o0:Y.Ad []:=(.op 15 none [5,8,10,13,17,21] (.AR 20 0 .i [])
 W6)
noncomputable def o6:Y.Ad []:=(.both 1 oz o0)
noncomputable def o7:Y.Ad []:=(.both 1 ou o6)
noncomputable def o8:Y.Ad []:=(.both 1 ot o7)
noncomputable def o9:Y.Ad []:=(.op 20 none [5,8,10,13,17,21] (.alloc 3 Ae)
 (.nl [(.cell 3 0,.i),(.cell 3 11,(.st 2)),(.cell 3 12,(.st 7)),(.cell 3 13,.i),(.cell 3 14,.i)] o8))
noncomputable def pA:Y.Ad []:=(.both 1 oq o9)
noncomputable def pB:Y.Ad []:=(.both 1 oT pA)
noncomputable def pC:Y.Ad []:=(.both 1 oB pB)
noncomputable def pD:Y.Ad []:=(.both 1 nX pC)
noncomputable def pE:Y.Ad []:=(.op 17 none [] (.ld 22 none (.tmp 21))
 pD)
noncomputable def pF:Y.Ad []:=(.op 16 none [] (.fa 21 14 (.tmp 1))
 pE)
noncomputable def pG:Y.Ad []:=(.op 13 none [] (.ld 18 none (.tmp 17))
 pF)
noncomputable def pH:Y.Ad []:=(.op 12 none [] (.fa 17 13 (.tmp 1))
 pG)
noncomputable def pI:Y.Ad []:=(.op 9 none [] (.ld 14 none (.tmp 13))
 pH)
noncomputable def pJ:Y.Ad []:=(.op 8 none [] (.fa 13 11 (.tmp 1))
 pI)
noncomputable def pK:Y.Ad []:=(.op 6 none [] (.ld 11 none (.tmp 10))
 pJ)
noncomputable def pM:Y.Ad []:=(.op 5 none [] (.fa 10 10 (.tmp 1))
 pK)
noncomputable def pO:Y.Ad []:=(.op 4 none [] (.ld 9 none (.tmp 8))
 pM)
noncomputable def pP:Y.Ad []:=(.op 3 none [] (.fa 8 9 (.tmp 1))
 pO)
noncomputable def pQ:Y.Ad []:=(.op 1 none [] (.ld 6 (some 9) (.tmp 5))
 pP)
noncomputable def pR:Y.Ad []:=(.op 0 none [] (.fa 5 0 (.tmp 1))
 pQ)
noncomputable def AAY:YF:=⟨[],[.v (.st 8)],[],.ret [(.st 8)],[.cell 2 (some 15)],
 sq [qu 1 0,.alloc 2 Ae,.A6 [(.cell 2 0,.i),(.cell 2 11,(.st 2)),(.cell 2 12,(.st 7)),(.cell 2 13,.i),(.cell 2 14,.i)]] [1,2] (.seq (.BW pR [1,2,3]) (.join [cx 3 (.st 8)] (sq [qK 4 0] (Kp 30) (bl 0 [cv 4 .i,cx 3 (.st 8)] (.seq (sw 25 [wm 4,wo 12 1,wL,wZ,wB .lss 25] (Kp 536870942) (ce 29 (Kp 30) [2,3] 0)) (.seq (.block 1 (.BW (qd 0 [wn 32 [wo 12 3,wL,wo 12 1,wL,wm 4,wE (.st 7) 35,wK 7]] (.op 7 none [32] (.call 39 Su [] rfl [(.tmp 38)])
 (.op 8 none [32] (.AR 40 1 (.st 7) [(0,(.tmp 39))])
 (qd 9 [wn 41 [wh (.app · (.st 7) false (.tmp 33) (.tmp 40)),wo 12 3],
 qn [qw 1 42 41]] .nil)))) [1,2,3,4])) (qr [wn 30 [wm 4,wI .add 1],
 qn [qa 4 31]] (Kp 30)))))) (sq [qL 43 15 3,qw 15 2 43] [2] .ret)))⟩
noncomputable def BK(p0:AA)(x1:AN)(X2:Option AA):Option AA:=
 gd (0+p0.AS.length<=lim) (
 A1 x1 x1 (
 ev6 p0.Now p0.AQ ([]++p0.AB) ([]:List AZ) ([]++p0.AW) ([]++p0.AS) (
 X2)))
noncomputable def Aw(p0:AA)(x1:AN)(X4:Option AA):Option AA:=
 gd (0+p0.AW.length<=lim) (
 gd (0+p0.AS.length<=lim) (
 A1 x1 x1 (
 ev6 p0.Now p0.AQ ([]++p0.AB) ([]:List AZ) ([]++p0.AW) ([]++p0.AS) (
 X4))))
noncomputable def ag(p0:AA)(x1:AN)(X5:Option AA):Option AA:=
 gd (0+p0.AW.length<=lim) (
 gd (0+p0.AS.length<=lim) (
 alt (Aw p0 x1) (
 A1 x1 x1 (
 ev6 p0.Now p0.AQ ([]++p0.AB) ([]:List AZ) ([]++p0.AW) ([]++p0.AS) (
 X5)))))
noncomputable def Fv(p0:AA)(x1:AN)(X3:Option AA):Option AA:=
 gd (0+p0.AW.length<=lim) (
 gd (0+p0.AS.length<=lim) (
 alt (BK p0 x1) (
 alt (Aw p0 x1) (
 alt (ag p0 x1) (
 A1 x1 x1 (
 ev6 p0.Now p0.AQ ([]++p0.AB) ([]:List AZ) ([]++p0.AW) ([]++p0.AS) (
 X3)))))))
noncomputable def ah(p0:AA)(x1:AN)(X7:Option AA):Option AA:=
 gd (0+p0.AW.length<=lim) (
 gd (0+p0.AS.length<=lim) (
 alt (Aw p0 x1) (
 alt (Aw p0 x1) (
 A1 x1 x1 (
 ev6 p0.Now p0.AQ ([]++p0.AB) ([]:List AZ) ([]++p0.AW) ([]++p0.AS) (
 X7))))))
noncomputable def Rf(p0:AA)(x1:AN)(X6:Option AA):Option AA:=
 gd (0+p0.AW.length<=lim) (
 gd (0+p0.AS.length<=lim) (
 alt (BK p0 x1) (
 alt (Aw p0 x1) (
 alt (Aw p0 x1) (
 alt (ah p0 x1) (
 A1 x1 x1 (
 ev6 p0.Now p0.AQ ([]++p0.AB) ([]:List AZ) ([]++p0.AW) ([]++p0.AS) (
 X6))))))))
noncomputable def BA(p0:AA)(x1:AN)(X10:Option AA):Option AA:=
 gd (0+p0.AB.length<=lim) (
 gd (0+p0.AW.length<=lim) (
 gd (0+p0.AS.length<=lim) (
 A1 x1 x1 (
 ev6 p0.Now p0.AQ ([]++p0.AB) ([]:List AZ) ([]++p0.AW) ([]++p0.AS) (
 X10)))))
noncomputable def Vy(p0:AA)(x1:AN)(X11:Option AA):Option AA:=
 gd (0+p0.AB.length<=lim) (
 gd (0+p0.AW.length<=lim) (
 gd (0+p0.AS.length<=lim) (
 alt (Aw p0 x1) (
 alt (BA p0 x1) (
 A1 x1 x1 (
 ev6 p0.Now p0.AQ ([]++p0.AB) ([]:List AZ) ([]++p0.AW) ([]++p0.AS) (
 X11)))))))
noncomputable def II(p0:AA)(x1:AN)(X9:Option AA):Option AA:=
 gd (0+p0.AB.length<=lim) (
 gd (0+p0.AW.length<=lim) (
 gd (0+p0.AS.length<=lim) (
 alt (BK p0 x1) (
 alt (Aw p0 x1) (
 alt (BA p0 x1) (
 alt (Vy p0 x1) (
 A1 x1 x1 (
 ev6 p0.Now p0.AQ ([]++p0.AB) ([]:List AZ) ([]++p0.AW) ([]++p0.AS) (
 X9)))))))))
noncomputable def O2(p0:AA)(x1:AN)(X14:Option AA):Option AA:=
 gd (0+p0.AB.length<=lim) (
 gd (0+p0.AW.length<=lim) (
 gd (0+p0.AS.length<=lim) (
 alt (BA p0 x1) (
 A1 x1 x1 (
 ev6 p0.Now p0.AQ ([]++p0.AB) ([]:List AZ) ([]++p0.AW) ([]++p0.AS) (
 X14))))))
noncomputable def Gg(p0:AA)(x1:AN)(X13:Option AA):Option AA:=
 gd (0+p0.AB.length<=lim) (
 gd (0+p0.AW.length<=lim) (
 gd (0+p0.AS.length<=lim) (
 alt (BK p0 x1) (
 alt (Aw p0 x1) (
 alt (BA p0 x1) (
 alt (O2 p0 x1) (
 A1 x1 x1 (
 ev6 p0.Now p0.AQ ([]++p0.AB) ([]:List AZ) ([]++p0.AW) ([]++p0.AS) (
 X13)))))))))
noncomputable def Gi(p0:AA)(x1:AN)(X16:Option AA):Option AA:=
 gd (0+p0.AB.length<=lim) (
 gd (0+p0.AW.length<=lim) (
 gd (0+p0.AS.length<=lim) (
 alt (Aw p0 x1) (
 alt (BA p0 x1) (
 alt (O2 p0 x1) (
 A1 x1 x1 (
 ev6 p0.Now p0.AQ ([]++p0.AB) ([]:List AZ) ([]++p0.AW) ([]++p0.AS) (
 X16))))))))
noncomputable def V1(p0:AA)(x1:AN)(X15:Option AA):Option AA:=
 gd (0+p0.AB.length<=lim) (
 gd (0+p0.AW.length<=lim) (
 gd (0+p0.AS.length<=lim) (
 alt (Aw p0 x1) (
 alt (Aw p0 x1) (
 alt (Gi p0 x1) (
 A1 x1 x1 (
 ev6 p0.Now p0.AQ ([]++p0.AB) ([]:List AZ) ([]++p0.AW) ([]++p0.AS) (
 X15))))))))
noncomputable def Vz(p0:AA)(x1:AN)(X12:Option AA):Option AA:=
 gd (0+p0.AB.length<=lim) (
 gd (0+p0.AW.length<=lim) (
 gd (0+p0.AS.length<=lim) (
 alt (BK p0 x1) (
 alt (Aw p0 x1) (
 alt (Aw p0 x1) (
 alt (Gg p0 x1) (
 alt (V1 p0 x1) (
 A1 x1 x1 (
 ev6 p0.Now p0.AQ ([]++p0.AB) ([]:List AZ) ([]++p0.AW) ([]++p0.AS) (
 X12))))))))))
noncomputable def Rg(p0:AA)(x1:AN)(X8:Option AA):Option AA:=
 gd (0+p0.AB.length<=lim) (
 gd (0+p0.AW.length<=lim) (
 gd (0+p0.AS.length<=lim) (
 alt (BK p0 x1) (
 alt (BK p0 x1) (
 alt (Fv p0 x1) (
 alt (II p0 x1) (
 alt (Vz p0 x1) (
 A1 x1 x1 (
 ev6 p0.Now p0.AQ ([]++p0.AB) ([]:List AZ) ([]++p0.AW) ([]++p0.AS) (
 X8))))))))))
noncomputable def V3(p0:AA)(x1:AN)(X19:Option AA):Option AA:=
 gd (0+p0.AB.length<=lim) (
 gd (0+p0.AW.length<=lim) (
 gd (0+p0.AS.length<=lim) (
 alt (Aw p0 x1) (
 alt (BA p0 x1) (
 alt (BA p0 x1) (
 A1 x1 x1 (
 ev6 p0.Now p0.AQ ([]++p0.AB) ([]:List AZ) ([]++p0.AW) ([]++p0.AS) (
 X19))))))))
noncomputable def O3(p0:AA)(x1:AN)(X18:Option AA):Option AA:=
 gd (0+p0.AB.length<=lim) (
 gd (0+p0.AW.length<=lim) (
 gd (0+p0.AS.length<=lim) (
 alt (BK p0 x1) (
 alt (Aw p0 x1) (
 alt (BA p0 x1) (
 alt (BA p0 x1) (
 alt (V3 p0 x1) (
 A1 x1 x1 (
 ev6 p0.Now p0.AQ ([]++p0.AB) ([]:List AZ) ([]++p0.AW) ([]++p0.AS) (
 X18))))))))))
noncomputable def O5(p0:AA)(x1:AN)(X22:Option AA):Option AA:=
 gd (0+p0.AB.length<=lim) (
 gd (0+p0.AW.length<=lim) (
 gd (0+p0.AS.length<=lim) (
 alt (BA p0 x1) (
 alt (BA p0 x1) (
 A1 x1 x1 (
 ev6 p0.Now p0.AQ ([]++p0.AB) ([]:List AZ) ([]++p0.AW) ([]++p0.AS) (
 X22)))))))
noncomputable def O4(p0:AA)(x1:AN)(X21:Option AA):Option AA:=
 gd (0+p0.AB.length<=lim) (
 gd (0+p0.AW.length<=lim) (
 gd (0+p0.AS.length<=lim) (
 alt (BK p0 x1) (
 alt (Aw p0 x1) (
 alt (BA p0 x1) (
 alt (BA p0 x1) (
 alt (O5 p0 x1) (
 A1 x1 x1 (
 ev6 p0.Now p0.AQ ([]++p0.AB) ([]:List AZ) ([]++p0.AW) ([]++p0.AS) (
 X21))))))))))
noncomputable def O6(p0:AA)(x1:AN)(X24:Option AA):Option AA:=
 gd (0+p0.AB.length<=lim) (
 gd (0+p0.AW.length<=lim) (
 gd (0+p0.AS.length<=lim) (
 alt (Aw p0 x1) (
 alt (BA p0 x1) (
 alt (BA p0 x1) (
 alt (O5 p0 x1) (
 A1 x1 x1 (
 ev6 p0.Now p0.AQ ([]++p0.AB) ([]:List AZ) ([]++p0.AW) ([]++p0.AS) (
 X24)))))))))
noncomputable def V5(p0:AA)(x1:AN)(X23:Option AA):Option AA:=
 gd (0+p0.AB.length<=lim) (
 gd (0+p0.AW.length<=lim) (
 gd (0+p0.AS.length<=lim) (
 alt (Aw p0 x1) (
 alt (Aw p0 x1) (
 alt (Gi p0 x1) (
 alt (O6 p0 x1) (
 A1 x1 x1 (
 ev6 p0.Now p0.AQ ([]++p0.AB) ([]:List AZ) ([]++p0.AW) ([]++p0.AS) (
 X23)))))))))
noncomputable def V4(p0:AA)(x1:AN)(X20:Option AA):Option AA:=
 gd (0+p0.AB.length<=lim) (
 gd (0+p0.AW.length<=lim) (
 gd (0+p0.AS.length<=lim) (
 alt (BK p0 x1) (
 alt (Aw p0 x1) (
 alt (Aw p0 x1) (
 alt (Gg p0 x1) (
 alt (O4 p0 x1) (
 alt (V5 p0 x1) (
 A1 x1 x1 (
 ev6 p0.Now p0.AQ ([]++p0.AB) ([]:List AZ) ([]++p0.AW) ([]++p0.AS) (
 X20)))))))))))
noncomputable def V2(p0:AA)(x1:AN)(X17:Option AA):Option AA:=
 gd (0+p0.AB.length<=lim) (
 gd (0+p0.AW.length<=lim) (
 gd (0+p0.AS.length<=lim) (
 alt (BK p0 x1) (
 alt (BK p0 x1) (
 alt (Fv p0 x1) (
 alt (II p0 x1) (
 alt (O3 p0 x1) (
 alt (V4 p0 x1) (
 A1 x1 x1 (
 ev6 p0.Now p0.AQ ([]++p0.AB) ([]:List AZ) ([]++p0.AW) ([]++p0.AS) (
 X17)))))))))))
noncomputable def Dw(p0:AA)(x30:AN)(X31:Option AA):Option AA:=
 bd (Ew p0.AG) fun x32=>
 gd (0+p0.AB.length<=lim) (
 gd (0+p0.AW.length<=lim) (
 gd (0+p0.AS.length<=lim) (
 A1 x30 x32 (
 ev6 p0.Now p0.AQ ([]++p0.AB) ([]:List AZ) ([]++p0.AW) ([]++p0.AS) (
 X31)))))
noncomputable def V8(p0:AA)(x30:AN)(X33:Option AA):Option AA:=
 bd (Ew p0.AG) fun x34=>
 gd (0+p0.AB.length<=lim) (
 gd (0+p0.AW.length<=lim) (
 gd (0+p0.AS.length<=lim) (
 alt (Aw p0 x34) (
 alt (BA p0 x34) (
 alt (Dw p0 x34) (
 A1 x30 x34 (
 ev6 p0.Now p0.AQ ([]++p0.AB) ([]:List AZ) ([]++p0.AW) ([]++p0.AS) (
 X33))))))))
noncomputable def O7(p0:AA)(x28:AN)(X29:Option AA):Option AA:=
 bd (Ew p0.AG) fun x30=>
 gd (0+p0.AB.length<=lim) (
 gd (0+p0.AW.length<=lim) (
 gd (0+p0.AS.length<=lim) (
 alt (BK p0 x30) (
 alt (Aw p0 x30) (
 alt (BA p0 x30) (
 alt (Dw p0 x30) (
 alt (V8 p0 x30) (
 A1 x28 x30 (
 ev6 p0.Now p0.AQ ([]++p0.AB) ([]:List AZ) ([]++p0.AW) ([]++p0.AS) (
 X29))))))))))
noncomputable def O9(p0:AA)(x38:AN)(X39:Option AA):Option AA:=
 bd (Ew p0.AG) fun x40=>
 gd (0+p0.AB.length<=lim) (
 gd (0+p0.AW.length<=lim) (
 gd (0+p0.AS.length<=lim) (
 alt (BA p0 x40) (
 alt (Dw p0 x40) (
 A1 x38 x40 (
 ev6 p0.Now p0.AQ ([]++p0.AB) ([]:List AZ) ([]++p0.AW) ([]++p0.AS) (
 X39)))))))
noncomputable def O8(p0:AA)(x36:AN)(X37:Option AA):Option AA:=
 bd (Ew p0.AG) fun x38=>
 gd (0+p0.AB.length<=lim) (
 gd (0+p0.AW.length<=lim) (
 gd (0+p0.AS.length<=lim) (
 alt (BK p0 x38) (
 alt (Aw p0 x38) (
 alt (BA p0 x38) (
 alt (Dw p0 x38) (
 alt (O9 p0 x38) (
 A1 x36 x38 (
 ev6 p0.Now p0.AQ ([]++p0.AB) ([]:List AZ) ([]++p0.AW) ([]++p0.AS) (
 X37))))))))))
noncomputable def PA(p0:AA)(x42:AN)(X43:Option AA):Option AA:=
 bd (Ew p0.AG) fun x44=>
 gd (0+p0.AB.length<=lim) (
 gd (0+p0.AW.length<=lim) (
 gd (0+p0.AS.length<=lim) (
 alt (Aw p0 x44) (
 alt (BA p0 x44) (
 alt (Dw p0 x44) (
 alt (O9 p0 x44) (
 A1 x42 x44 (
 ev6 p0.Now p0.AQ ([]++p0.AB) ([]:List AZ) ([]++p0.AW) ([]++p0.AS) (
 X43)))))))))
noncomputable def WA(p0:AA)(x36:AN)(X41:Option AA):Option AA:=
 bd (Ew p0.AG) fun x42=>
 gd (0+p0.AB.length<=lim) (
 gd (0+p0.AW.length<=lim) (
 gd (0+p0.AS.length<=lim) (
 alt (Aw p0 x42) (
 alt (Aw p0 x42) (
 alt (Gi p0 x42) (
 alt (PA p0 x42) (
 A1 x36 x42 (
 ev6 p0.Now p0.AQ ([]++p0.AB) ([]:List AZ) ([]++p0.AW) ([]++p0.AS) (
 X41)))))))))
noncomputable def V9(p0:AA)(x28:AN)(X35:Option AA):Option AA:=
 bd (Ew p0.AG) fun x36=>
 gd (0+p0.AB.length<=lim) (
 gd (0+p0.AW.length<=lim) (
 gd (0+p0.AS.length<=lim) (
 alt (BK p0 x36) (
 alt (Aw p0 x36) (
 alt (Aw p0 x36) (
 alt (Gg p0 x36) (
 alt (O8 p0 x36) (
 alt (WA p0 x36) (
 A1 x28 x36 (
 ev6 p0.Now p0.AQ ([]++p0.AB) ([]:List AZ) ([]++p0.AW) ([]++p0.AS) (
 X35)))))))))))
noncomputable def V7(p0:AA)(x26:AN)(X27:Option AA):Option AA:=
 bd (Ew p0.AG) fun x28=>
 gd (0+p0.AB.length<=lim) (
 gd (0+p0.AW.length<=lim) (
 gd (0+p0.AS.length<=lim) (
 alt (BK p0 x28) (
 alt (BK p0 x28) (
 alt (Fv p0 x28) (
 alt (II p0 x28) (
 alt (O7 p0 x28) (
 alt (V9 p0 x28) (
 A1 x26 x28 (
 ev6 p0.Now p0.AQ ([]++p0.AB) ([]:List AZ) ([]++p0.AW) ([]++p0.AS) (
 X27)))))))))))
noncomputable def La(p0:AA)(x52:AN)(X53:Option AA):Option AA:=
 bd (Ew p0.AG) fun x54=>
 gd (0+p0.AB.length<=lim) (
 gd (0+p0.AW.length<=lim) (
 gd (0+p0.AS.length<=lim) (
 alt (Dw p0 x54) (
 A1 x52 x54 (
 ev6 p0.Now p0.AQ ([]++p0.AB) ([]:List AZ) ([]++p0.AW) ([]++p0.AS) (
 X53))))))
noncomputable def PB(p0:AA)(x50:AN)(X51:Option AA):Option AA:=
 bd (Ew p0.AG) fun x52=>
 gd (0+p0.AB.length<=lim) (
 gd (0+p0.AW.length<=lim) (
 gd (0+p0.AS.length<=lim) (
 alt (BK p0 x52) (
 alt (Aw p0 x52) (
 alt (BA p0 x52) (
 alt (Dw p0 x52) (
 alt (La p0 x52) (
 A1 x50 x52 (
 ev6 p0.Now p0.AQ ([]++p0.AB) ([]:List AZ) ([]++p0.AW) ([]++p0.AS) (
 X51))))))))))
noncomputable def PC(p0:AA)(x56:AN)(X57:Option AA):Option AA:=
 bd (Ew p0.AG) fun x58=>
 gd (0+p0.AB.length<=lim) (
 gd (0+p0.AW.length<=lim) (
 gd (0+p0.AS.length<=lim) (
 alt (Aw p0 x58) (
 alt (BA p0 x58) (
 alt (Dw p0 x58) (
 alt (La p0 x58) (
 A1 x56 x58 (
 ev6 p0.Now p0.AQ ([]++p0.AB) ([]:List AZ) ([]++p0.AW) ([]++p0.AS) (
 X57)))))))))
noncomputable def WE(p0:AA)(x50:AN)(X55:Option AA):Option AA:=
 bd (Ew p0.AG) fun x56=>
 gd (0+p0.AB.length<=lim) (
 gd (0+p0.AW.length<=lim) (
 gd (0+p0.AS.length<=lim) (
 alt (Aw p0 x56) (
 alt (BA p0 x56) (
 alt (BA p0 x56) (
 alt (PC p0 x56) (
 A1 x50 x56 (
 ev6 p0.Now p0.AQ ([]++p0.AB) ([]:List AZ) ([]++p0.AW) ([]++p0.AS) (
 X55)))))))))
noncomputable def WD(p0:AA)(x48:AN)(X49:Option AA):Option AA:=
 bd (Ew p0.AG) fun x50=>
 gd (0+p0.AB.length<=lim) (
 gd (0+p0.AW.length<=lim) (
 gd (0+p0.AS.length<=lim) (
 alt (BK p0 x50) (
 alt (Aw p0 x50) (
 alt (BA p0 x50) (
 alt (BA p0 x50) (
 alt (PB p0 x50) (
 alt (WE p0 x50) (
 A1 x48 x50 (
 ev6 p0.Now p0.AQ ([]++p0.AB) ([]:List AZ) ([]++p0.AW) ([]++p0.AS) (
 X49)))))))))))
noncomputable def WC(p0:AA)(x46:AN)(X47:Option AA):Option AA:=
 bd (Ew p0.AG) fun x48=>
 gd (0+p0.AB.length<=lim) (
 gd (0+p0.AW.length<=lim) (
 gd (0+p0.AS.length<=lim) (
 alt (BK p0 x48) (
 alt (BK p0 x48) (
 alt (Fv p0 x48) (
 alt (II p0 x48) (
 alt (O7 p0 x48) (
 alt (WD p0 x48) (
 A1 x46 x48 (
 ev6 p0.Now p0.AQ ([]++p0.AB) ([]:List AZ) ([]++p0.AW) ([]++p0.AS) (
 X47)))))))))))
noncomputable def WJ(p0:AA)(x66:AN)(X67:Option AA):Option AA:=
 bd (Ew p0.AG) fun x68=>
 gd (0+p0.AB.length<=lim) (
 gd (0+p0.AW.length<=lim) (
 gd (0+p0.AS.length<=lim) (
 alt (BA p0 x68) (
 alt (Dw p0 x68) (
 alt (La p0 x68) (
 A1 x66 x68 (
 ev6 p0.Now p0.AQ ([]++p0.AB) ([]:List AZ) ([]++p0.AW) ([]++p0.AS) (
 X67))))))))
noncomputable def PD(p0:AA)(x64:AN)(X65:Option AA):Option AA:=
 bd (Ew p0.AG) fun x66=>
 gd (0+p0.AB.length<=lim) (
 gd (0+p0.AW.length<=lim) (
 gd (0+p0.AS.length<=lim) (
 alt (BA p0 x66) (
 alt (BA p0 x66) (
 alt (WJ p0 x66) (
 A1 x64 x66 (
 ev6 p0.Now p0.AQ ([]++p0.AB) ([]:List AZ) ([]++p0.AW) ([]++p0.AS) (
 X65))))))))
noncomputable def WI(p0:AA)(x62:AN)(X63:Option AA):Option AA:=
 bd (Ew p0.AG) fun x64=>
 gd (0+p0.AB.length<=lim) (
 gd (0+p0.AW.length<=lim) (
 gd (0+p0.AS.length<=lim) (
 alt (BK p0 x64) (
 alt (Aw p0 x64) (
 alt (BA p0 x64) (
 alt (BA p0 x64) (
 alt (PB p0 x64) (
 alt (PD p0 x64) (
 A1 x62 x64 (
 ev6 p0.Now p0.AQ ([]++p0.AB) ([]:List AZ) ([]++p0.AW) ([]++p0.AS) (
 X63)))))))))))
noncomputable def WH(p0:AA)(x60:AN)(X61:Option AA):Option AA:=
 bd (Ew p0.AG) fun x62=>
 gd (0+p0.AB.length<=lim) (
 gd (0+p0.AW.length<=lim) (
 gd (0+p0.AS.length<=lim) (
 alt (BK p0 x62) (
 alt (Aw p0 x62) (
 alt (Aw p0 x62) (
 alt (Gg p0 x62) (
 alt (O8 p0 x62) (
 alt (WI p0 x62) (
 A1 x60 x62 (
 ev6 p0.Now p0.AQ ([]++p0.AB) ([]:List AZ) ([]++p0.AW) ([]++p0.AS) (
 X61)))))))))))
noncomputable def WM(p0:AA)(x72:AN)(X73:Option AA):Option AA:=
 bd (Ew p0.AG) fun x74=>
 gd (0+p0.AB.length<=lim) (
 gd (0+p0.AW.length<=lim) (
 gd (0+p0.AS.length<=lim) (
 alt (Aw p0 x74) (
 alt (BA p0 x74) (
 alt (BA p0 x74) (
 alt (PC p0 x74) (
 alt (PD p0 x74) (
 A1 x72 x74 (
 ev6 p0.Now p0.AQ ([]++p0.AB) ([]:List AZ) ([]++p0.AW) ([]++p0.AS) (
 X73))))))))))
noncomputable def WL(p0:AA)(x70:AN)(X71:Option AA):Option AA:=
 bd (Ew p0.AG) fun x72=>
 gd (0+p0.AB.length<=lim) (
 gd (0+p0.AW.length<=lim) (
 gd (0+p0.AS.length<=lim) (
 alt (Aw p0 x72) (
 alt (Aw p0 x72) (
 alt (Gi p0 x72) (
 alt (PA p0 x72) (
 alt (WM p0 x72) (
 A1 x70 x72 (
 ev6 p0.Now p0.AQ ([]++p0.AB) ([]:List AZ) ([]++p0.AW) ([]++p0.AS) (
 X71))))))))))
noncomputable def WK(p0:AA)(x60:AN)(X69:Option AA):Option AA:=
 bd (Ew p0.AG) fun x70=>
 gd (0+p0.AB.length<=lim) (
 gd (0+p0.AW.length<=lim) (
 gd (0+p0.AS.length<=lim) (
 alt (Aw p0 x70) (
 alt (Aw p0 x70) (
 alt (Gi p0 x70) (
 alt (O6 p0 x70) (
 alt (WL p0 x70) (
 A1 x60 x70 (
 ev6 p0.Now p0.AQ ([]++p0.AB) ([]:List AZ) ([]++p0.AW) ([]++p0.AS) (
 X69))))))))))
noncomputable def WG(p0:AA)(x46:AN)(X59:Option AA):Option AA:=
 bd (Ew p0.AG) fun x60=>
 gd (0+p0.AB.length<=lim) (
 gd (0+p0.AW.length<=lim) (
 gd (0+p0.AS.length<=lim) (
 alt (BK p0 x60) (
 alt (Aw p0 x60) (
 alt (Aw p0 x60) (
 alt (Gg p0 x60) (
 alt (O4 p0 x60) (
 alt (WH p0 x60) (
 alt (WK p0 x60) (
 A1 x46 x60 (
 ev6 p0.Now p0.AQ ([]++p0.AB) ([]:List AZ) ([]++p0.AW) ([]++p0.AS) (
 X59))))))))))))
noncomputable def WB(p0:AA)(x26:AN)(X45:Option AA):Option AA:=
 bd (Ew p0.AG) fun x46=>
 gd (0+p0.AB.length<=lim) (
 gd (0+p0.AW.length<=lim) (
 gd (0+p0.AS.length<=lim) (
 alt (BK p0 x46) (
 alt (BK p0 x46) (
 alt (Fv p0 x46) (
 alt (II p0 x46) (
 alt (O3 p0 x46) (
 alt (WC p0 x46) (
 alt (WG p0 x46) (
 A1 x26 x46 (
 ev6 p0.Now p0.AQ ([]++p0.AB) ([]:List AZ) ([]++p0.AW) ([]++p0.AS) (
 X45))))))))))))
noncomputable def V6(p0:AA)(x1:AN)(X25:Option AA):Option AA:=
 bd (Ew p0.AG) fun x26=>
 gd (0+p0.AB.length<=lim) (
 gd (0+p0.AW.length<=lim) (
 gd (0+p0.AS.length<=lim) (
 alt (BK p0 x26) (
 alt (BK p0 x26) (
 alt (Fv p0 x26) (
 alt (Rf p0 x26) (
 alt (Rg p0 x26) (
 alt (V7 p0 x26) (
 alt (WB p0 x26) (
 A1 x1 x26 (
 ev6 p0.Now p0.AQ ([]++p0.AB) ([]:List AZ) ([]++p0.AW) ([]++p0.AS) (
 X25))))))))))))
noncomputable def WN(v80:AA):Option AA:=
 some v80
noncomputable def PE(p0:AA)(L75:(Int×AA)->Option AA)(x_:(Int×AA)):Option AA:=
 match x_ with
 |(v76,v77)=>br (decide (v76<(↑p0.AE.length:Int)))
  (bd (at? p0.AE v76) fun x78=>
  bd (j9 x78) fun x79=>
  gd (v77.AE.length+[x79].length<=lim) (
  L75 ((w64 (v76+1),AA.mk v77.AG v77.Now v77.AQ v77.AB (v77.AE++[x79]) v77.AW v77.AS))))
  (jn (WN) v77)
noncomputable def IH(p0:AA):Option AA:=
 bd (Ew p0.AG) fun x1=>
 gd (0+p0.AB.length<=lim) (
 gd (0+p0.AW.length<=lim) (
 gd (0+p0.AS.length<=lim) (
 alt (BK p0 x1) (
 alt (BK p0 x1) (
 alt (Fv p0 x1) (
 alt (Rf p0 x1) (
 alt (Rg p0 x1) (
 alt (V2 p0 x1) (
 alt (V6 p0 x1) (
 Ap (PE p0) big ((0,AA.mk x1 p0.Now p0.AQ ([]++p0.AB) [] ([]++p0.AW) ([]++p0.AS)))))))))))))
noncomputable def Bu:GF:=AAY.gf rfl rfl (fun a=>IH a.1) (fun a=>by kernel_rfl)
end Lv
