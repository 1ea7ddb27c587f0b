/-
  Printed: functions of the program as texts of the typed machine, as plain functions, and that the one is the other.
-/
import Derived.Test.YtifcpnfmfagidaaGreatTB
import Derived.KernelRfl
set_option linter.unusedVariables false
set_option linter.unusedSimpArgs false
set_option maxRecDepth 100000
namespace Lv
open Go (IntKind BinOp UnOp)
noncomputable section
open Y (YF qn qf qt qr q1 qd qm qa qo ql qL qb qi qx qp qq qc qz qe qk qK qB qw qu qj Kp wn wf wt w1 sw sq sr wm wM wo wO wl wL wk wK wz wZ wx wX wb wB wi wI wr wR wq wQ we wE wc wY wj wh cv ca cx cn ce bl)
def y_xa : YF := ⟨[], [.v (.l .i), .v .i], [], .ret [.i], [.tmp 4],
 sq [qK 4 0] [0, 1] (sr [wn 5 [wm 1, wm 0, wZ, wB .sub 5],
 qn [qa 1 8]] [1] (.seq (sw 9 [wm 1, wI .lss 0] [1, 10] (cn 10 [1] (sq [qK 4 (-1)] [4] .ret))) (sq [qm 11 1, qa 4 11] [4] .ret)))⟩
def d_xa (p0 : (List Int)) (p1 : Int) : Option Int :=
 br (decide (w64 (p1 - (↑p0.length : Int)) < 0))
  (some (-1))
  (some (w64 (p1 - (↑p0.length : Int))))
def gf_xa : GF := y_xa.gf rfl rfl (fun a => d_xa a.1 a.2.1) (fun a => by kernel_rfl)
def y_xb : YF := ⟨[], [.v (.st 1), .v .i], [], .ret [.i], [.tmp 4],
 sq [qu 2 0, qK 4 0] [1, 2] (sr [wn 5 [wo 0 2, wL, wm 1, wc gf_xa rfl [6, 7]],
 qn [qa 1 8]] [1] (.seq (sw 9 [wm 1, wI .lss 0] [1, 10] (cn 10 [1] (sq [qK 4 (-1)] [4] .ret))) (sq [qm 11 1, qa 4 11] [4] .ret)))⟩
def d_xb (p0 : GRules) (p1 : Int) : Option Int :=
 bd (d_xa p0.Seats p1) fun x1 =>
 br (decide (x1 < 0))
  (some (-1))
  (some x1)
def gf_xb : GF := y_xb.gf rfl rfl (fun a => d_xb a.1 a.2.1) (fun a => by kernel_rfl)
def y_xc : YF := ⟨[], [.v (.l (.st 2)), .v .i], [], .ret [.i], [.tmp 4],
 sq [qK 4 0] [0, 1] (sr [wn 5 [wm 1, wm 0, wZ, wB .sub 5],
 qn [qa 1 8]] [1] (.seq (sw 9 [wm 1, wI .lss 0] [1, 10] (cn 10 [1] (sq [qK 4 (-1)] [4] .ret))) (sq [qm 11 1, qa 4 11] [4] .ret)))⟩
def d_xc (p0 : (List GParty)) (p1 : Int) : Option Int :=
 br (decide (w64 (p1 - (↑p0.length : Int)) < 0))
  (some (-1))
  (some (w64 (p1 - (↑p0.length : Int))))
def gf_xc : GF := y_xc.gf rfl rfl (fun a => d_xc a.1 a.2.1) (fun a => by kernel_rfl)
def y_xd : YF := ⟨[], [.v (.l (.st 4)), .v .i], [], .ret [.i], [.tmp 4],
 sq [qK 4 0] [0, 1] (sr [wn 5 [wm 1, wm 0, wZ, wB .sub 5],
 qn [qa 1 8]] [1] (.seq (sw 9 [wm 1, wI .lss 0] [1, 10] (cn 10 [1] (sq [qK 4 (-1)] [4] .ret))) (sq [qm 11 1, qa 4 11] [4] .ret)))⟩
def d_xd (p0 : (List GEntry)) (p1 : Int) : Option Int :=
 br (decide (w64 (p1 - (↑p0.length : Int)) < 0))
  (some (-1))
  (some (w64 (p1 - (↑p0.length : Int))))
def gf_xd : GF := y_xd.gf rfl rfl (fun a => d_xd a.1 a.2.1) (fun a => by kernel_rfl)
def y_xe : YF := ⟨[], [.v (.l (.st 5)), .v .i], [], .ret [.i], [.tmp 4],
 sq [qK 4 0] [0, 1] (sr [wn 5 [wm 1, wm 0, wZ, wB .sub 5],
 qn [qa 1 8]] [1] (.seq (sw 9 [wm 1, wI .lss 0] [1, 10] (cn 10 [1] (sq [qK 4 (-1)] [4] .ret))) (sq [qm 11 1, qa 4 11] [4] .ret)))⟩
def d_xe (p0 : (List GPin)) (p1 : Int) : Option Int :=
 br (decide (w64 (p1 - (↑p0.length : Int)) < 0))
  (some (-1))
  (some (w64 (p1 - (↑p0.length : Int))))
def gf_xe : GF := y_xe.gf rfl rfl (fun a => d_xe a.1 a.2.1) (fun a => by kernel_rfl)
def y_xf : YF := ⟨[], [.v (.l (.l (.st 5))), .v .i], [], .ret [.i], [.tmp 4],
 sq [qK 4 0] [0, 1] (sr [wn 6 [wm 1, wm 0, wZ, wB .sub 6],
 qn [qa 1 9]] [0, 1] (.seq (sw 10 [wm 1, wI .lss 0] (Kp 2051) (cn 11 [0, 1] (sq [qK 4 (-1)] [4] .ret))) (.join [cv 1 .i] (sq [qK 5 0] (Kp 35) (bl 0 [cv 1 .i, cv 5 .i] (.seq (sw 12 [wm 5, wm 0, wZ, wB .lss 12] (Kp 32803) (ce 15 (Kp 35) [1] 0)) (.seq (.block 1 (sr [wn 18 [wm 0, wm 5, wE (.l (.st 5)) 18, wL, wm 1, wc gf_xe rfl [21, 22]],
 qn [qa 1 23]] (Kp 35) (sw 24 [wm 1, wI .lss 0] [0, 1, 5, 25] (cn 25 (Kp 35) (sq [qK 4 (-1)] [4] .ret))))) (qr [wn 16 [wm 5, wI .add 1],
 qn [qa 5 17]] (Kp 35)))))) (sq [qm 26 1, qa 4 26] [4] .ret))))⟩
def d_xf_j2 (v6 : Int) : Option Int :=
 some v6
def d_xf_l1 (p0 : (List (List GPin))) (L1 : (Int × Int) -> Option Int) (x_ : (Int × Int)) : Option Int :=
 match x_ with
 | (v2, v3) => br (decide (v3 < (↑p0.length : Int)))
  (bd (at? p0 v3) fun x4 =>
  bd (d_xe x4 v2) fun x5 =>
  br (decide (x5 < 0))
   (some (-1))
   (L1 ((x5, w64 (v3 + 1)))))
  (jn (d_xf_j2) v2)
def d_xf (p0 : (List (List GPin))) (p1 : Int) : Option Int :=
 br (decide (w64 (p1 - (↑p0.length : Int)) < 0))
  (some (-1))
  (loopN (d_xf_l1 p0) big ((w64 (p1 - (↑p0.length : Int)), 0)))
def gf_xf : GF := y_xf.gf rfl rfl (fun a => d_xf a.1 a.2.1) (fun a => by kernel_rfl)
def y_xg : YF := ⟨[], [.v (.st 6), .v .i], [], .ret [.i], [.tmp 4],
 sq [qu 2 0, qK 4 0] [1, 2] (sr [wn 5 [wo 0 2, wL, wm 1, wc gf_xf rfl [6, 7]],
 qn [qa 1 8]] [1] (.seq (sw 9 [wm 1, wI .lss 0] [1, 10] (cn 10 [1] (sq [qK 4 (-1)] [4] .ret))) (sq [qm 11 1, qa 4 11] [4] .ret)))⟩
def d_xg (p0 : GWheel) (p1 : Int) : Option Int :=
 bd (d_xf p0.Spoke p1) fun x1 =>
 br (decide (x1 < 0))
  (some (-1))
  (some x1)
def gf_xg : GF := y_xg.gf rfl rfl (fun a => d_xg a.1 a.2.1) (fun a => by kernel_rfl)
def y_xh : YF := ⟨[], [.v (.st 7), .v .i], [], .ret [.i], [.tmp 4],
 sq [qu 2 0, qK 4 0] [1, 2] (sr [wn 5 [wo 5 2, wL, wm 1, wc gf_xd rfl [6, 7]],
 qn [qa 1 8]] [1, 2] (.seq (sw 9 [wm 1, wI .lss 0] (Kp 1030) (cn 10 [1, 2] (sq [qK 4 (-1)] [4] .ret))) (sr [wn 11 [wo 6 2, wK 1, wm 1, wc gf_xg rfl [12, 13]],
 qn [qa 1 14]] [1] (.seq (sw 15 [wm 1, wI .lss 0] [1, 16] (cn 16 [1] (sq [qK 4 (-1)] [4] .ret))) (sq [qm 17 1, qa 4 17] [4] .ret)))))⟩
def d_xh (p0 : GCabin) (p1 : Int) : Option Int :=
 bd (d_xd p0.Row p1) fun x1 =>
 br (decide (x1 < 0))
  (some (-1))
  (bd (d_xg p0.Wheel x1) fun x2 =>
  br (decide (x2 < 0))
   (some (-1))
   (some x2))
def gf_xh : GF := y_xh.gf rfl rfl (fun a => d_xh a.1 a.2.1) (fun a => by kernel_rfl)
def y_xi : YF := ⟨[], [.v (.l (.st 7)), .v .i], [], .ret [.i], [.tmp 4],
 sq [qK 4 0] [0, 1] (sr [wn 6 [wm 1, wm 0, wZ, wB .sub 6],
 qn [qa 1 9]] [0, 1] (.seq (sw 10 [wm 1, wI .lss 0] (Kp 2051) (cn 11 [0, 1] (sq [qK 4 (-1)] [4] .ret))) (.join [cv 1 .i] (sq [qK 5 0] (Kp 35) (bl 0 [cv 1 .i, cv 5 .i] (.seq (sw 12 [wm 5, wm 0, wZ, wB .lss 12] (Kp 32803) (ce 15 (Kp 35) [1] 0)) (.seq (.block 1 (sr [wn 18 [wm 0, wm 5, wE (.st 7) 18, wK 7, wm 1, wc gf_xh rfl [21, 22]],
 qn [qa 1 23]] (Kp 35) (sw 24 [wm 1, wI .lss 0] [0, 1, 5, 25] (cn 25 (Kp 35) (sq [qK 4 (-1)] [4] .ret))))) (qr [wn 16 [wm 5, wI .add 1],
 qn [qa 5 17]] (Kp 35)))))) (sq [qm 26 1, qa 4 26] [4] .ret))))⟩
def d_xi_j2 (v6 : Int) : Option Int :=
 some v6
def d_xi_l1 (p0 : (List GCabin)) (L1 : (Int × Int) -> Option Int) (x_ : (Int × Int)) : Option Int :=
 match x_ with
 | (v2, v3) => br (decide (v3 < (↑p0.length : Int)))
  (bd (at? p0 v3) fun x4 =>
  bd (d_xh x4 v2) fun x5 =>
  br (decide (x5 < 0))
   (some (-1))
   (L1 ((x5, w64 (v3 + 1)))))
  (jn (d_xi_j2) v2)
def d_xi (p0 : (List GCabin)) (p1 : Int) : Option Int :=
 br (decide (w64 (p1 - (↑p0.length : Int)) < 0))
  (some (-1))
  (loopN (d_xi_l1 p0) big ((w64 (p1 - (↑p0.length : Int)), 0)))
def gf_xi : GF := y_xi.gf rfl rfl (fun a => d_xi a.1 a.2.1) (fun a => by kernel_rfl)
def y_xj : YF := ⟨[], [.v (.st 8), .v .i], [], .ret [.i], [.tmp 4],
 sq [qu 2 0, qK 4 0] [1, 2] (sr [wn 5 [wo 0 2, wK 9, wm 1, wc gf_xb rfl [6, 7]],
 qn [qa 1 8]] [1, 2] (.seq (sw 9 [wm 1, wI .lss 0] (Kp 1030) (cn 10 [1, 2] (sq [qK 4 (-1)] [4] .ret))) (sr [wn 11 [wo 11 2, wL, wm 1, wc gf_xc rfl [12, 13]],
 qn [qa 1 14]] [1, 2] (.seq (sw 15 [wm 1, wI .lss 0] [1, 2, 16] (cn 16 [1, 2] (sq [qK 4 (-1)] [4] .ret))) (sr [wn 17 [wo 12 2, wL, wm 1, wc gf_xi rfl [18, 19]],
 qn [qa 1 20]] [1, 2] (.seq (sw 21 [wm 1, wI .lss 0] [1, 2, 22] (cn 22 [1, 2] (sq [qK 4 (-1)] [4] .ret))) (sr [wn 23 [wo 13 2, wL, wm 1, wc gf_xa rfl [24, 25]],
 qn [qa 1 26]] [1, 2] (.seq (sw 27 [wm 1, wI .lss 0] [1, 2, 28] (cn 28 [1, 2] (sq [qK 4 (-1)] [4] .ret))) (sr [wn 29 [wo 14 2, wL, wm 1, wc gf_xa rfl [30, 31]],
 qn [qa 1 32]] [1] (.seq (sw 33 [wm 1, wI .lss 0] [1, 34] (cn 34 [1] (sq [qK 4 (-1)] [4] .ret))) (sq [qm 35 1, qa 4 35] [4] .ret)))))))))))⟩
def d_xj (p0 : GHouse) (p1 : Int) : Option Int :=
 bd (d_xb p0.Rules p1) fun x1 =>
 br (decide (x1 < 0))
  (some (-1))
  (bd (d_xc p0.Parties x1) fun x2 =>
  br (decide (x2 < 0))
   (some (-1))
   (bd (d_xi p0.Cabins x2) fun x3 =>
   br (decide (x3 < 0))
    (some (-1))
    (bd (d_xa p0.Todo x3) fun x4 =>
    br (decide (x4 < 0))
     (some (-1))
     (bd (d_xa p0.Jobs x4) fun x5 =>
     br (decide (x5 < 0))
      (some (-1))
      (some x5)))))
def gf_xj : GF := y_xj.gf rfl rfl (fun a => d_xj a.1 a.2.1) (fun a => by kernel_rfl)
def y_xk : YF := ⟨[], [.v (.st 9), .v .i], [], .ret [.i], [.tmp 4],
 sq [qu 2 0, qK 4 0] [1, 2] (sr [wn 5 [wm 1, wo 0 2, wL, wh (.lens · (.tmp 7)), wB .sub 5],
 qn [qa 1 9]] [1] (.seq (sw 10 [wm 1, wI .lss 0] [1, 11] (cn 11 [1] (sq [qK 4 (-1)] [4] .ret))) (sq [qm 12 1, qa 4 12] [4] .ret)))⟩
def d_xk (p0 : GArea) (p1 : Int) : Option Int :=
 br (decide (w64 (p1 - (↑p0.Data.length : Int)) < 0))
  (some (-1))
  (some (w64 (p1 - (↑p0.Data.length : Int))))
def gf_xk : GF := y_xk.gf rfl rfl (fun a => d_xk a.1 a.2.1) (fun a => by kernel_rfl)
def y_xl : YF := ⟨[], [.v (.st 10), .v .i], [], .ret [.i], [.tmp 4],
 sq [qu 2 0, qK 4 0] [1, 2] (sr [wn 5 [wo 0 2, wK 2, wm 1, wc gf_xk rfl [6, 7]],
 qn [qa 1 8]] [1, 2] (.seq (sw 9 [wm 1, wI .lss 0] (Kp 1030) (cn 10 [1, 2] (sq [qK 4 (-1)] [4] .ret))) (sr [wn 11 [wo 2 2, wK 2, wm 1, wc gf_xk rfl [12, 13]],
 qn [qa 1 14]] [1, 2] (.seq (sw 15 [wm 1, wI .lss 0] [1, 2, 16] (cn 16 [1, 2] (sq [qK 4 (-1)] [4] .ret))) (sr [wn 17 [wo 4 2, wK 2, wm 1, wc gf_xk rfl [18, 19]],
 qn [qa 1 20]] [1] (.seq (sw 21 [wm 1, wI .lss 0] [1, 22] (cn 22 [1] (sq [qK 4 (-1)] [4] .ret))) (sq [qm 23 1, qa 4 23] [4] .ret)))))))⟩
def d_xl (p0 : GStore) (p1 : Int) : Option Int :=
 bd (d_xk p0.Log p1) fun x1 =>
 br (decide (x1 < 0))
  (some (-1))
  (bd (d_xk p0.Even x1) fun x2 =>
  br (decide (x2 < 0))
   (some (-1))
   (bd (d_xk p0.Odd x2) fun x3 =>
   br (decide (x3 < 0))
    (some (-1))
    (some x3)))
def gf_xl : GF := y_xl.gf rfl rfl (fun a => d_xl a.1 a.2.1) (fun a => by kernel_rfl)
def y_xm : YF := ⟨[], [.v (.l (.st 0)), .v .i], [], .ret [.i], [.tmp 4],
 sq [qK 4 0] [0, 1] (sr [wn 5 [wm 1, wm 0, wZ, wB .sub 5],
 qn [qa 1 8]] [1] (.seq (sw 9 [wm 1, wI .lss 0] [1, 10] (cn 10 [1] (sq [qK 4 (-1)] [4] .ret))) (sq [qm 11 1, qa 4 11] [4] .ret)))⟩
def d_xm (p0 : (List GReq)) (p1 : Int) : Option Int :=
 br (decide (w64 (p1 - (↑p0.length : Int)) < 0))
  (some (-1))
  (some (w64 (p1 - (↑p0.length : Int))))
def gf_xm : GF := y_xm.gf rfl rfl (fun a => d_xm a.1 a.2.1) (fun a => by kernel_rfl)
def y_xn : YF := ⟨[], [.v (.st 11), .v .i], [], .ret [.i], [.tmp 4],
 sq [qu 2 0, qK 4 0] [1, 2] (sr [wn 5 [wo 0 2, wK 15, wm 1, wc gf_xj rfl [6, 7]],
 qn [qa 1 8]] [1, 2] (.seq (sw 9 [wm 1, wI .lss 0] (Kp 1030) (cn 10 [1, 2] (sq [qK 4 (-1)] [4] .ret))) (sr [wn 11 [wo 15 2, wK 6, wm 1, wc gf_xl rfl [12, 13]],
 qn [qa 1 14]] [1, 2] (.seq (sw 15 [wm 1, wI .lss 0] [1, 2, 16] (cn 16 [1, 2] (sq [qK 4 (-1)] [4] .ret))) (sr [wn 17 [wo 22 2, wL, wm 1, wc gf_xm rfl [18, 19]],
 qn [qa 1 20]] [1] (.seq (sw 21 [wm 1, wI .lss 0] [1, 22] (cn 22 [1] (sq [qK 4 (-1)] [4] .ret))) (sq [qm 23 1, qa 4 23] [4] .ret)))))))⟩
def d_xn (p0 : GEngine) (p1 : Int) : Option Int :=
 bd (d_xj p0.House p1) fun x1 =>
 br (decide (x1 < 0))
  (some (-1))
  (bd (d_xl p0.Store x1) fun x2 =>
  br (decide (x2 < 0))
   (some (-1))
   (bd (d_xm p0.Laid x2) fun x3 =>
   br (decide (x3 < 0))
    (some (-1))
    (some x3)))
def gf_xn : GF := y_xn.gf rfl rfl (fun a => d_xn a.1 a.2.1) (fun a => by kernel_rfl)
def y_xo : YF := ⟨[], [.v (.l .i)], [], .ret [(.l .i)], [.tmp 2],
 sq [.as 2 (.k .nil), .nils [(.tmp 2 0, .i)]] [0] (sr [wn 5 [wm 0, wZ, wh (.mksl · .i (.tmp 6))],
 qn [qa 3 7]] [0, 3] (.join [cv 3 (.l .i)] (sq [qK 4 0] (Kp 25) (bl 0 [cv 3 (.l .i), cv 4 .i] (.seq (sw 8 [wm 4, wm 0, wZ, wB .lss 8] (Kp 2073) (ce 11 (Kp 25) [3] 0)) (.seq (.block 1 (qr [wn 14 [wm 3, wm 4, wm 0, wm 4, wE .i 16, wL, we .i 14 15],
 qn [qw 1 20 19]] (Kp 25))) (qr [wn 12 [wm 4, wI .add 1],
 qn [qa 4 13]] (Kp 25)))))) (sq [qm 21 3, qa 2 21] [2] .ret)))⟩
def d_xo_j2 (v7 : (List Int)) : Option (List Int) :=
 some v7
def d_xo_l1 (p0 : (List Int)) (L1 : ((List Int) × Int) -> Option (List Int)) (x_ : ((List Int) × Int)) : Option (List Int) :=
 match x_ with
 | (v2, v3) => br (decide (v3 < (↑p0.length : Int)))
  (bd (at? p0 v3) fun x4 =>
  bd (at? v2 v3) fun x5 =>
  bd (at? v2 v3) fun x6 =>
  L1 ((List.set v2 v3.toNat x4, w64 (v3 + 1))))
  (jn (d_xo_j2) v2)
def d_xo (p0 : (List Int)) : Option (List Int) :=
 gd (0 <= (↑p0.length : Int) /\ (↑p0.length : Int) <= (↑lim : Int)) (
 loopN (d_xo_l1 p0) big ((List.replicate (↑p0.length : Int).toNat 0, 0)))
def gf_xo : GF := y_xo.gf rfl rfl (fun a => d_xo a.1) (fun a => by kernel_rfl)
def y_xp : YF := ⟨[], [.v (.st 1)], [], .ret [(.st 1)], [.cell 2 (some 9)],
 sq [qu 1 0, .alloc 2 zGRules, .nils [(.cell 2 0, .i)]] [1, 2] (sq [.alloc 3 zGRules, .nils [(.cell 3 0, .i)]] (Kp 14) (sr [wn 4 [wo 0 1, wL, wY gf_xo rfl, wo 0 3],
 qn [qw 1 7 6]] (Kp 14) (sr [wn 8 [wo 1 1, wL, wo 1 3],
 qn [qw 1 10 9]] (Kp 14) (sr [wn 11 [wo 2 1, wL, wo 2 3],
 qn [qw 1 13 12]] (Kp 14) (sr [wn 14 [wo 3 1, wL, wo 3 3],
 qn [qw 1 16 15]] (Kp 14) (sr [wn 17 [wo 4 1, wL, wo 4 3],
 qn [qw 1 19 18]] (Kp 14) (sr [wn 20 [wo 5 1, wL, wo 5 3],
 qn [qw 1 22 21]] (Kp 14) (sr [wn 23 [wo 6 1, wL, wo 6 3],
 qn [qw 1 25 24]] (Kp 14) (sr [wn 26 [wo 7 1, wL, wo 7 3],
 qn [qw 1 28 27]] (Kp 14) (sr [wn 29 [wo 8 1, wL, wo 8 3],
 qn [qw 1 31 30]] [2, 3] (sq [qL 32 9 3, qw 9 2 32] [2] .ret)))))))))))⟩
def d_xp (p0 : GRules) : Option GRules :=
 bd (d_xo p0.Seats) fun x1 =>
 some (GRules.mk x1 p0.Tiers p0.Room p0.Size p0.Period p0.Window p0.Rest p0.Tries p0.Crew)
def gf_xp : GF := y_xp.gf rfl rfl (fun a => d_xp a.1) (fun a => by kernel_rfl)
def y_xq : YF := ⟨[], [.v (.st 2)], [], .ret [(.st 2)], [.cell 2 (some 10)],
 sq [qu 1 0, .alloc 2 zGParty] [1, 2] (sq [.alloc 3 zGParty] (Kp 14) (sr [wn 4 [wo 0 1, wL, wo 0 3],
 qn [qw 1 6 5]] (Kp 14) (sr [wn 7 [wo 1 1, wL, wo 1 3],
 qn [qw 1 9 8]] (Kp 14) (sr [wn 10 [wo 2 1, wL, wo 2 3],
 qn [qw 1 12 11]] (Kp 14) (sr [wn 13 [wo 3 1, wL, wo 3 3],
 qn [qw 1 15 14]] (Kp 14) (sr [wn 16 [wo 4 1, wL, wo 4 3],
 qn [qw 1 18 17]] (Kp 14) (sr [wn 19 [wo 5 1, wL, wo 5 3],
 qn [qw 1 21 20]] (Kp 14) (sr [wn 22 [wo 6 1, wL, wo 6 3],
 qn [qw 1 24 23]] (Kp 14) (sr [wn 25 [wo 7 1, wL, wo 7 3],
 qn [qw 1 27 26]] (Kp 14) (sr [wn 28 [wo 8 1, wL, wo 8 3],
 qn [qw 1 30 29]] (Kp 14) (sr [wn 31 [wo 9 1, wL, wo 9 3],
 qn [qw 1 33 32]] [2, 3] (sq [qL 34 10 3, qw 10 2 34] [2] .ret))))))))))))⟩
def d_xq (p0 : GParty) : Option GParty :=
 some p0
def gf_xq : GF := y_xq.gf rfl rfl (fun a => d_xq a.1) (fun a => by kernel_rfl)
def y_xr : YF := ⟨[], [.v (.l (.st 2))], [], .ret [(.l (.st 2))], [.tmp 2],
 sq [.as 2 (.k .nil), .nils [(.tmp 2 0, (.st 2))]] [0] (sr [wn 5 [wm 0, wZ, wh (.mksl · (.st 2) (.tmp 6))],
 qn [qa 3 7]] [0, 3] (.join [cv 3 (.l (.st 2))] (sq [qK 4 0] (Kp 25) (bl 0 [cv 3 (.l (.st 2)), cv 4 .i] (.seq (sw 8 [wm 4, wm 0, wZ, wB .lss 8] (Kp 2073) (ce 11 (Kp 25) [3] 0)) (.seq (.block 1 (qr [wn 14 [wm 3, wm 4, wm 0, wm 4, wE (.st 2) 16, wK 10, wY gf_xq rfl, we (.st 2) 14 15],
 qn [qw 10 21 20]] (Kp 25))) (qr [wn 12 [wm 4, wI .add 1],
 qn [qa 4 13]] (Kp 25)))))) (sq [qm 22 3, qa 2 22] [2] .ret)))⟩
def d_xr_j2 (v8 : (List GParty)) : Option (List GParty) :=
 some v8
def d_xr_l1 (p0 : (List GParty)) (L1 : ((List GParty) × Int) -> Option (List GParty)) (x_ : ((List GParty) × Int)) : Option (List GParty) :=
 match x_ with
 | (v2, v3) => br (decide (v3 < (↑p0.length : Int)))
  (bd (at? p0 v3) fun x4 =>
  bd (d_xq x4) fun x5 =>
  bd (at? v2 v3) fun x6 =>
  bd (at? v2 v3) fun x7 =>
  L1 ((List.set v2 v3.toNat x5, w64 (v3 + 1))))
  (jn (d_xr_j2) v2)
def d_xr (p0 : (List GParty)) : Option (List GParty) :=
 gd (0 <= (↑p0.length : Int) /\ (↑p0.length : Int) <= (↑lim : Int)) (
 loopN (d_xr_l1 p0) big ((List.replicate (↑p0.length : Int).toNat (GParty.mk 0 0 0 0 0 0 0 0 0 0), 0)))
def gf_xr : GF := y_xr.gf rfl rfl (fun a => d_xr a.1) (fun a => by kernel_rfl)
def y_xs : YF := ⟨[], [.v (.st 3)], [], .ret [(.st 3)], [.cell 2 (some 5)],
 sq [qu 1 0, .alloc 2 zGLedger] [1, 2] (sq [.alloc 3 zGLedger] (Kp 14) (sr [wn 4 [wo 0 1, wL, wo 0 3],
 qn [qw 1 6 5]] (Kp 14) (sr [wn 7 [wo 1 1, wL, wo 1 3],
 qn [qw 1 9 8]] (Kp 14) (sr [wn 10 [wo 2 1, wL, wo 2 3],
 qn [qw 1 12 11]] (Kp 14) (sr [wn 13 [wo 3 1, wL, wo 3 3],
 qn [qw 1 15 14]] (Kp 14) (sr [wn 16 [wo 4 1, wL, wo 4 3],
 qn [qw 1 18 17]] [2, 3] (sq [qL 19 5 3, qw 5 2 19] [2] .ret)))))))⟩
def d_xs (p0 : GLedger) : Option GLedger :=
 some p0
def gf_xs : GF := y_xs.gf rfl rfl (fun a => d_xs a.1) (fun a => by kernel_rfl)
def y_xt : YF := ⟨[], [.v (.st 4)], [], .ret [(.st 4)], [.cell 2 (some 4)],
 sq [qu 1 0, .alloc 2 zGEntry] [1, 2] (sq [.alloc 3 zGEntry] (Kp 14) (sr [wn 4 [wo 0 1, wL, wo 0 3],
 qn [qw 1 6 5]] (Kp 14) (sr [wn 7 [wo 1 1, wL, wo 1 3],
 qn [qw 1 9 8]] (Kp 14) (sr [wn 10 [wo 2 1, wL, wo 2 3],
 qn [qw 1 12 11]] (Kp 14) (sr [wn 13 [wo 3 1, wL, wo 3 3],
 qn [qw 1 15 14]] [2, 3] (sq [qL 16 4 3, qw 4 2 16] [2] .ret))))))⟩
def d_xt (p0 : GEntry) : Option GEntry :=
 some p0
def gf_xt : GF := y_xt.gf rfl rfl (fun a => d_xt a.1) (fun a => by kernel_rfl)
def y_xu : YF := ⟨[], [.v (.l (.st 4))], [], .ret [(.l (.st 4))], [.tmp 2],
 sq [.as 2 (.k .nil), .nils [(.tmp 2 0, (.st 4))]] [0] (sr [wn 5 [wm 0, wZ, wh (.mksl · (.st 4) (.tmp 6))],
 qn [qa 3 7]] [0, 3] (.join [cv 3 (.l (.st 4))] (sq [qK 4 0] (Kp 25) (bl 0 [cv 3 (.l (.st 4)), cv 4 .i] (.seq (sw 8 [wm 4, wm 0, wZ, wB .lss 8] (Kp 2073) (ce 11 (Kp 25) [3] 0)) (.seq (.block 1 (qr [wn 14 [wm 3, wm 4, wm 0, wm 4, wE (.st 4) 16, wK 4, wY gf_xt rfl, we (.st 4) 14 15],
 qn [qw 4 21 20]] (Kp 25))) (qr [wn 12 [wm 4, wI .add 1],
 qn [qa 4 13]] (Kp 25)))))) (sq [qm 22 3, qa 2 22] [2] .ret)))⟩
def d_xu_j2 (v8 : (List GEntry)) : Option (List GEntry) :=
 some v8
def d_xu_l1 (p0 : (List GEntry)) (L1 : ((List GEntry) × Int) -> Option (List GEntry)) (x_ : ((List GEntry) × Int)) : Option (List GEntry) :=
 match x_ with
 | (v2, v3) => br (decide (v3 < (↑p0.length : Int)))
  (bd (at? p0 v3) fun x4 =>
  bd (d_xt x4) fun x5 =>
  bd (at? v2 v3) fun x6 =>
  bd (at? v2 v3) fun x7 =>
  L1 ((List.set v2 v3.toNat x5, w64 (v3 + 1))))
  (jn (d_xu_j2) v2)
def d_xu (p0 : (List GEntry)) : Option (List GEntry) :=
 gd (0 <= (↑p0.length : Int) /\ (↑p0.length : Int) <= (↑lim : Int)) (
 loopN (d_xu_l1 p0) big ((List.replicate (↑p0.length : Int).toNat (GEntry.mk 0 0 0 0), 0)))
def gf_xu : GF := y_xu.gf rfl rfl (fun a => d_xu a.1) (fun a => by kernel_rfl)
def y_xv : YF := ⟨[], [.v (.st 5)], [], .ret [(.st 5)], [.cell 2 (some 2)],
 sq [qu 1 0, .alloc 2 [.int .i64 0, .int .i64 0]] [1, 2] (sq [.alloc 3 [.int .i64 0, .int .i64 0]] (Kp 14) (sr [wn 4 [wo 0 1, wL, wo 0 3],
 qn [qw 1 6 5]] (Kp 14) (sr [wn 7 [wo 1 1, wL, wo 1 3],
 qn [qw 1 9 8]] [2, 3] (sq [qL 10 2 3, qw 2 2 10] [2] .ret))))⟩
def d_xv (p0 : GPin) : Option GPin :=
 some p0
def gf_xv : GF := y_xv.gf rfl rfl (fun a => d_xv a.1) (fun a => by kernel_rfl)
def y_xw : YF := ⟨[], [.v (.l (.st 5))], [], .ret [(.l (.st 5))], [.tmp 2],
 sq [.as 2 (.k .nil), .nils [(.tmp 2 0, (.st 5))]] [0] (sr [wn 5 [wm 0, wZ, wh (.mksl · (.st 5) (.tmp 6))],
 qn [qa 3 7]] [0, 3] (.join [cv 3 (.l (.st 5))] (sq [qK 4 0] (Kp 25) (bl 0 [cv 3 (.l (.st 5)), cv 4 .i] (.seq (sw 8 [wm 4, wm 0, wZ, wB .lss 8] (Kp 2073) (ce 11 (Kp 25) [3] 0)) (.seq (.block 1 (qr [wn 14 [wm 3, wm 4, wm 0, wm 4, wE (.st 5) 16, wK 2, wY gf_xv rfl, we (.st 5) 14 15],
 qn [qw 2 21 20]] (Kp 25))) (qr [wn 12 [wm 4, wI .add 1],
 qn [qa 4 13]] (Kp 25)))))) (sq [qm 22 3, qa 2 22] [2] .ret)))⟩
def d_xw_j2 (v8 : (List GPin)) : Option (List GPin) :=
 some v8
def d_xw_l1 (p0 : (List GPin)) (L1 : ((List GPin) × Int) -> Option (List GPin)) (x_ : ((List GPin) × Int)) : Option (List GPin) :=
 match x_ with
 | (v2, v3) => br (decide (v3 < (↑p0.length : Int)))
  (bd (at? p0 v3) fun x4 =>
  bd (d_xv x4) fun x5 =>
  bd (at? v2 v3) fun x6 =>
  bd (at? v2 v3) fun x7 =>
  L1 ((List.set v2 v3.toNat x5, w64 (v3 + 1))))
  (jn (d_xw_j2) v2)
def d_xw (p0 : (List GPin)) : Option (List GPin) :=
 gd (0 <= (↑p0.length : Int) /\ (↑p0.length : Int) <= (↑lim : Int)) (
 loopN (d_xw_l1 p0) big ((List.replicate (↑p0.length : Int).toNat (GPin.mk 0 0), 0)))
def gf_xw : GF := y_xw.gf rfl rfl (fun a => d_xw a.1) (fun a => by kernel_rfl)
def y_xx : YF := ⟨[], [.v (.l (.l (.st 5)))], [], .ret [(.l (.l (.st 5)))], [.tmp 2],
 sq [.as 2 (.k .nil), .nils [(.tmp 2 0, (.l (.st 5)))]] [0] (sr [wn 5 [wm 0, wZ, wh (.mksl · (.l (.st 5)) (.tmp 6))],
 qn [qa 3 7]] [0, 3] (.join [cv 3 (.l (.l (.st 5)))] (sq [qK 4 0] (Kp 25) (bl 0 [cv 3 (.l (.l (.st 5))), cv 4 .i] (.seq (sw 8 [wm 4, wm 0, wZ, wB .lss 8] (Kp 2073) (ce 11 (Kp 25) [3] 0)) (.seq (.block 1 (qr [wn 14 [wm 3, wm 4, wm 0, wm 4, wE (.l (.st 5)) 16, wL, wY gf_xw rfl, we (.l (.st 5)) 14 15],
 qn [qw 1 21 20]] (Kp 25))) (qr [wn 12 [wm 4, wI .add 1],
 qn [qa 4 13]] (Kp 25)))))) (sq [qm 22 3, qa 2 22] [2] .ret)))⟩
def d_xx_j2 (v8 : (List (List GPin))) : Option (List (List GPin)) :=
 some v8
def d_xx_l1 (p0 : (List (List GPin))) (L1 : ((List (List GPin)) × Int) -> Option (List (List GPin))) (x_ : ((List (List GPin)) × Int)) : Option (List (List GPin)) :=
 match x_ with
 | (v2, v3) => br (decide (v3 < (↑p0.length : Int)))
  (bd (at? p0 v3) fun x4 =>
  bd (d_xw x4) fun x5 =>
  bd (at? v2 v3) fun x6 =>
  bd (at? v2 v3) fun x7 =>
  L1 ((List.set v2 v3.toNat x5, w64 (v3 + 1))))
  (jn (d_xx_j2) v2)
def d_xx (p0 : (List (List GPin))) : Option (List (List GPin)) :=
 gd (0 <= (↑p0.length : Int) /\ (↑p0.length : Int) <= (↑lim : Int)) (
 loopN (d_xx_l1 p0) big ((List.replicate (↑p0.length : Int).toNat [], 0)))
def gf_xx : GF := y_xx.gf rfl rfl (fun a => d_xx a.1) (fun a => by kernel_rfl)
def y_xy : YF := ⟨[], [.v (.st 6)], [], .ret [(.st 6)], [.cell 2 (some 1)],
 sq [qu 1 0, .alloc 2 [.nil], .nils [(.cell 2 0, (.l (.st 5)))]] [1, 2] (sq [.alloc 3 [.nil], .nils [(.cell 3 0, (.l (.st 5)))]] (Kp 14) (sr [wn 4 [wo 0 1, wL, wY gf_xx rfl, wo 0 3],
 qn [qw 1 7 6]] [2, 3] (sq [qL 8 1 3, qw 1 2 8] [2] .ret)))⟩
def d_xy (p0 : GWheel) : Option GWheel :=
 bd (d_xx p0.Spoke) fun x1 =>
 some (GWheel.mk x1)
def gf_xy : GF := y_xy.gf rfl rfl (fun a => d_xy a.1) (fun a => by kernel_rfl)
def y_xz : YF := ⟨[], [.v (.st 7)], [], .ret [(.st 7)], [.cell 2 (some 7)],
 sq [qu 1 0, .alloc 2 zGCabin, .nils [(.cell 2 5, (.st 4)), (.cell 2 6, (.l (.st 5)))]] [1, 2] (sq [.alloc 3 zGCabin, .nils [(.cell 3 5, (.st 4)), (.cell 3 6, (.l (.st 5)))]] (Kp 14) (sr [wn 4 [wo 0 1, wK 5, wY gf_xs rfl, wo 0 3],
 qn [qw 5 7 6]] (Kp 14) (sr [wn 8 [wo 5 1, wL, wY gf_xu rfl, wo 5 3],
 qn [qw 1 11 10]] (Kp 14) (sr [wn 12 [wo 6 1, wK 1, wY gf_xy rfl, wo 6 3],
 qn [qw 1 15 14]] [2, 3] (sq [qL 16 7 3, qw 7 2 16] [2] .ret)))))⟩
def d_xz (p0 : GCabin) : Option GCabin :=
 bd (d_xs p0.Seats) fun x1 =>
 bd (d_xu p0.Row) fun x2 =>
 bd (d_xy p0.Wheel) fun x3 =>
 some (GCabin.mk x1 x2 x3)
def gf_xz : GF := y_xz.gf rfl rfl (fun a => d_xz a.1) (fun a => by kernel_rfl)
def y_x0 : YF := ⟨[], [.v (.l (.st 7))], [], .ret [(.l (.st 7))], [.tmp 2],
 sq [.as 2 (.k .nil), .nils [(.tmp 2 0, (.st 7))]] [0] (sr [wn 5 [wm 0, wZ, wh (.mksl · (.st 7) (.tmp 6))],
 qn [qa 3 7]] [0, 3] (.join [cv 3 (.l (.st 7))] (sq [qK 4 0] (Kp 25) (bl 0 [cv 3 (.l (.st 7)), cv 4 .i] (.seq (sw 8 [wm 4, wm 0, wZ, wB .lss 8] (Kp 2073) (ce 11 (Kp 25) [3] 0)) (.seq (.block 1 (qr [wn 14 [wm 3, wm 4, wm 0, wm 4, wE (.st 7) 16, wK 7, wY gf_xz rfl, we (.st 7) 14 15],
 qn [qw 7 21 20]] (Kp 25))) (qr [wn 12 [wm 4, wI .add 1],
 qn [qa 4 13]] (Kp 25)))))) (sq [qm 22 3, qa 2 22] [2] .ret)))⟩
def d_x0_j2 (v8 : (List GCabin)) : Option (List GCabin) :=
 some v8
def d_x0_l1 (p0 : (List GCabin)) (L1 : ((List GCabin) × Int) -> Option (List GCabin)) (x_ : ((List GCabin) × Int)) : Option (List GCabin) :=
 match x_ with
 | (v2, v3) => br (decide (v3 < (↑p0.length : Int)))
  (bd (at? p0 v3) fun x4 =>
  bd (d_xz x4) fun x5 =>
  bd (at? v2 v3) fun x6 =>
  bd (at? v2 v3) fun x7 =>
  L1 ((List.set v2 v3.toNat x5, w64 (v3 + 1))))
  (jn (d_x0_j2) v2)
def d_x0 (p0 : (List GCabin)) : Option (List GCabin) :=
 gd (0 <= (↑p0.length : Int) /\ (↑p0.length : Int) <= (↑lim : Int)) (
 loopN (d_x0_l1 p0) big ((List.replicate (↑p0.length : Int).toNat (GCabin.mk (GLedger.mk 0 0 0 0 0) [] (GWheel.mk [])), 0)))
def gf_x0 : GF := y_x0.gf rfl rfl (fun a => d_x0 a.1) (fun a => by kernel_rfl)
def y_x1 : YF := ⟨[], [.v (.st 8)], [], .ret [(.st 8)], [.cell 2 (some 15)],
 sq [qu 1 0, .alloc 2 zGHouse, .nils [(.cell 2 0, .i), (.cell 2 11, (.st 2)), (.cell 2 12, (.st 7)), (.cell 2 13, .i), (.cell 2 14, .i)]] [1, 2] (sq [.alloc 3 zGHouse, .nils [(.cell 3 0, .i), (.cell 3 11, (.st 2)), (.cell 3 12, (.st 7)), (.cell 3 13, .i), (.cell 3 14, .i)]] (Kp 14) (sr [wn 4 [wo 0 1, wK 9, wY gf_xp rfl, wo 0 3],
 qn [qw 9 7 6]] (Kp 14) (sr [wn 8 [wo 9 1, wL, wo 9 3],
 qn [qw 1 10 9]] (Kp 14) (sr [wn 11 [wo 10 1, wL, wo 10 3],
 qn [qw 1 13 12]] (Kp 14) (sr [wn 14 [wo 11 1, wL, wY gf_xr rfl, wo 11 3],
 qn [qw 1 17 16]] (Kp 14) (sr [wn 18 [wo 12 1, wL, wY gf_x0 rfl, wo 12 3],
 qn [qw 1 21 20]] (Kp 14) (sr [wn 22 [wo 13 1, wL, wY gf_xo rfl, wo 13 3],
 qn [qw 1 25 24]] (Kp 14) (sr [wn 26 [wo 14 1, wL, wY gf_xo rfl, wo 14 3],
 qn [qw 1 29 28]] [2, 3] (sq [qL 30 15 3, qw 15 2 30] [2] .ret)))))))))⟩
def d_x1 (p0 : GHouse) : Option GHouse :=
 bd (d_xp p0.Rules) fun x1 =>
 bd (d_xr p0.Parties) fun x2 =>
 bd (d_x0 p0.Cabins) fun x3 =>
 bd (d_xo p0.Todo) fun x4 =>
 bd (d_xo p0.Jobs) fun x5 =>
 some (GHouse.mk x1 p0.Now p0.Turn x2 x3 x4 x5)
def gf_x1 : GF := y_x1.gf rfl rfl (fun a => d_x1 a.1) (fun a => by kernel_rfl)
def y_x2 : YF := ⟨[], [.v (.st 9)], [], .ret [(.st 9)], [.cell 2 (some 2)],
 sq [qu 1 0, .alloc 2 [.str [], .int .i64 0]] [1, 2] (sq [.alloc 3 [.str [], .int .i64 0]] (Kp 14) (sr [wn 4 [wo 0 1, wL, wo 0 3],
 qn [qw 1 6 5]] (Kp 14) (sr [wn 7 [wo 1 1, wL, wo 1 3],
 qn [qw 1 9 8]] [2, 3] (sq [qL 10 2 3, qw 2 2 10] [2] .ret))))⟩
def d_x2 (p0 : GArea) : Option GArea :=
 some p0
def gf_x2 : GF := y_x2.gf rfl rfl (fun a => d_x2 a.1) (fun a => by kernel_rfl)
def y_x3 : YF := ⟨[], [.v (.st 10)], [], .ret [(.st 10)], [.cell 2 (some 6)],
 sq [qu 1 0, .alloc 2 zGStore] [1, 2] (sq [.alloc 3 zGStore] (Kp 14) (sr [wn 4 [wo 0 1, wK 2, wY gf_x2 rfl, wo 0 3],
 qn [qw 2 7 6]] (Kp 14) (sr [wn 8 [wo 2 1, wK 2, wY gf_x2 rfl, wo 2 3],
 qn [qw 2 11 10]] (Kp 14) (sr [wn 12 [wo 4 1, wK 2, wY gf_x2 rfl, wo 4 3],
 qn [qw 2 15 14]] [2, 3] (sq [qL 16 6 3, qw 6 2 16] [2] .ret)))))⟩
def d_x3 (p0 : GStore) : Option GStore :=
 bd (d_x2 p0.Log) fun x1 =>
 bd (d_x2 p0.Even) fun x2 =>
 bd (d_x2 p0.Odd) fun x3 =>
 some (GStore.mk x1 x2 x3)
def gf_x3 : GF := y_x3.gf rfl rfl (fun a => d_x3 a.1) (fun a => by kernel_rfl)
def y_x4 : YF := ⟨[], [.v (.st 0)], [], .ret [(.st 0)], [.cell 2 (some 6)],
 sq [qu 1 0, .alloc 2 zGReq] [1, 2] (sq [.alloc 3 zGReq] (Kp 14) (sr [wn 4 [wo 0 1, wL, wo 0 3],
 qn [qw 1 6 5]] (Kp 14) (sr [wn 7 [wo 1 1, wL, wo 1 3],
 qn [qw 1 9 8]] (Kp 14) (sr [wn 10 [wo 2 1, wL, wo 2 3],
 qn [qw 1 12 11]] (Kp 14) (sr [wn 13 [wo 3 1, wL, wo 3 3],
 qn [qw 1 15 14]] (Kp 14) (sr [wn 16 [wo 4 1, wL, wo 4 3],
 qn [qw 1 18 17]] (Kp 14) (sr [wn 19 [wo 5 1, wL, wo 5 3],
 qn [qw 1 21 20]] [2, 3] (sq [qL 22 6 3, qw 6 2 22] [2] .ret))))))))⟩
def d_x4 (p0 : GReq) : Option GReq :=
 some p0
def gf_x4 : GF := y_x4.gf rfl rfl (fun a => d_x4 a.1) (fun a => by kernel_rfl)
def y_x5 : YF := ⟨[], [.v (.l (.st 0))], [], .ret [(.l (.st 0))], [.tmp 2],
 sq [.as 2 (.k .nil), .nils [(.tmp 2 0, (.st 0))]] [0] (sr [wn 5 [wm 0, wZ, wh (.mksl · (.st 0) (.tmp 6))],
 qn [qa 3 7]] [0, 3] (.join [cv 3 (.l (.st 0))] (sq [qK 4 0] (Kp 25) (bl 0 [cv 3 (.l (.st 0)), cv 4 .i] (.seq (sw 8 [wm 4, wm 0, wZ, wB .lss 8] (Kp 2073) (ce 11 (Kp 25) [3] 0)) (.seq (.block 1 (qr [wn 14 [wm 3, wm 4, wm 0, wm 4, wE (.st 0) 16, wK 6, wY gf_x4 rfl, we (.st 0) 14 15],
 qn [qw 6 21 20]] (Kp 25))) (qr [wn 12 [wm 4, wI .add 1],
 qn [qa 4 13]] (Kp 25)))))) (sq [qm 22 3, qa 2 22] [2] .ret)))⟩
def d_x5_j2 (v8 : (List GReq)) : Option (List GReq) :=
 some v8
def d_x5_l1 (p0 : (List GReq)) (L1 : ((List GReq) × Int) -> Option (List GReq)) (x_ : ((List GReq) × Int)) : Option (List GReq) :=
 match x_ with
 | (v2, v3) => br (decide (v3 < (↑p0.length : Int)))
  (bd (at? p0 v3) fun x4 =>
  bd (d_x4 x4) fun x5 =>
  bd (at? v2 v3) fun x6 =>
  bd (at? v2 v3) fun x7 =>
  L1 ((List.set v2 v3.toNat x5, w64 (v3 + 1))))
  (jn (d_x5_j2) v2)
def d_x5 (p0 : (List GReq)) : Option (List GReq) :=
 gd (0 <= (↑p0.length : Int) /\ (↑p0.length : Int) <= (↑lim : Int)) (
 loopN (d_x5_l1 p0) big ((List.replicate (↑p0.length : Int).toNat (GReq.mk 0 0 0 0 0 0), 0)))
def gf_x5 : GF := y_x5.gf rfl rfl (fun a => d_x5 a.1) (fun a => by kernel_rfl)
def y_x6 : YF := ⟨[], [.v (.st 11)], [], .ret [(.st 11)], [.cell 2 (some 23)],
 sq [qu 1 0, .alloc 2 zGEngine, .nils [(.cell 2 0, .i), (.cell 2 11, (.st 2)), (.cell 2 12, (.st 7)), (.cell 2 13, .i), (.cell 2 14, .i), (.cell 2 22, (.st 0))]] [1, 2] (sq [.alloc 3 zGEngine, .nils [(.cell 3 0, .i), (.cell 3 11, (.st 2)), (.cell 3 12, (.st 7)), (.cell 3 13, .i), (.cell 3 14, .i), (.cell 3 22, (.st 0))]] (Kp 14) (sr [wn 4 [wo 0 1, wK 15, wY gf_x1 rfl, wo 0 3],
 qn [qw 15 7 6]] (Kp 14) (sr [wn 8 [wo 15 1, wK 6, wY gf_x3 rfl, wo 15 3],
 qn [qw 6 11 10]] (Kp 14) (sr [wn 12 [wo 21 1, wL, wo 21 3],
 qn [qw 1 14 13]] (Kp 14) (sr [wn 15 [wo 22 1, wL, wY gf_x5 rfl, wo 22 3],
 qn [qw 1 18 17]] [2, 3] (sq [qL 19 23 3, qw 23 2 19] [2] .ret))))))⟩
def d_x6 (p0 : GEngine) : Option GEngine :=
 bd (d_x1 p0.House) fun x1 =>
 bd (d_x3 p0.Store) fun x2 =>
 bd (d_x5 p0.Laid) fun x3 =>
 some (GEngine.mk x1 x2 p0.Seq x3)
def gf_x6 : GF := y_x6.gf rfl rfl (fun a => d_x6 a.1) (fun a => by kernel_rfl)
def y_x7 : YF := ⟨[], [.v .i, .v .i, .v .i], [], .ret [.b], [.tmp 6],
 sq [qB 6 false] (Kp 7) (.join [cv 6 .b] (qr [wn 7 [wm 0, wm 1, wB .geq 7, wM],
 wt 10 11 [wm 0, wm 2, wB .leq 11],
 qn [qq 14 10 13, qa 6 14]] [6]) .ret)⟩
def d_x7_j1 (v1 : Bool) : Option Bool :=
 some v1
def d_x7 (p0 : Int) (p1 : Int) (p2 : Int) : Option Bool :=
 br (decide (p0 >= p1))
  (jn (d_x7_j1) (decide (p0 <= p2)))
  (jn (d_x7_j1) false)
def gf_x7 : GF := y_x7.gf rfl rfl (fun a => d_x7 a.1 a.2.1 a.2.2.1) (fun a => by kernel_rfl)
def y_x8 : YF := ⟨[], [.v (.st 1)], [], .ret [.b], [.tmp 2],
 sq [qu 1 0, qB 2 false] [1] (.seq (.join [cv 32 .b] (qr [wn 4 [wo 0 1, wL, wZ, wc gf_x7 rfl [6, qj 1, qj 4], wX, wM],
 wf 9 10 [wo 1 1, wL, wc gf_x7 rfl [11, qj 1, qj 5], wX],
 wn 14 [wR 9, wM],
 wf 15 16 [wo 2 1, wL, wc gf_x7 rfl [17, qj 1, qj 10], wX],
 wn 20 [wR 15, wM],
 wf 21 22 [wo 3 1, wL, wc gf_x7 rfl [23, qj 1, qj 6], wX],
 wn 26 [wR 21, wM],
 wf 27 28 [wo 4 1, wL, wc gf_x7 rfl [29, qj 1, qj 12], wX],
 qn [qp 32 27 31]] [1, 32]) (cn 32 [1] (sq [qB 2 false] [2] .ret))) (.join [] (sq [qK 3 0] [1, 3] (bl 0 [cv 3 .i] (.seq (sw 33 [wm 3, wo 0 1, wL, wZ, wB .lss 33] [1, 3, 37] (ce 37 [1, 3] [1] 0)) (.seq (.block 1 (sw 40 [wo 0 1, wL, wm 3, wE .i 41, wL, wc gf_x7 rfl [44, qj 1, qj 60], wX] [1, 3, 46] (cn 46 [1, 3] (sq [qB 2 false] [2] .ret)))) (qr [wn 38 [wm 3, wI .add 1],
 qn [qa 3 39]] [1, 3]))))) (.join [cv 2 .b] (qr [wn 47 [wo 5 1, wL, wc gf_x7 rfl [48, qj 1, qj 8], wM],
 wt 50 51 [wo 6 1, wL, wc gf_x7 rfl [52, qj 0, qj 8]],
 wn 54 [wQ 50, wM],
 wt 55 56 [wo 7 1, wL, wc gf_x7 rfl [57, qj 1, qj 4]],
 wn 59 [wQ 55, wM],
 wt 60 61 [wo 8 1, wL, wc gf_x7 rfl [62, qj 1, qj 3]],
 qn [qq 64 60 63, qa 2 64]] [2]) .ret)))⟩
def d_x8_j4 (v11 : Bool) : Option Bool :=
 some v11
def d_x8_j3 (p0 : GRules) (_ : PUnit) : Option Bool :=
 bd (d_x7 p0.Window 1 8) fun x7 =>
 br x7
  (bd (d_x7 p0.Rest 0 8) fun x8 =>
  br x8
   (bd (d_x7 p0.Tries 1 4) fun x9 =>
   br x9
    (bd (d_x7 p0.Crew 1 3) fun x10 =>
    jn (d_x8_j4) x10)
    (jn (d_x8_j4) false))
   (jn (d_x8_j4) false))
  (jn (d_x8_j4) false)
def d_x8_l2 (p0 : GRules) (L3 : Int -> Option Bool) (v4 : Int) : Option Bool :=
 br (decide (v4 < (↑p0.Seats.length : Int)))
  (bd (at? p0.Seats v4) fun x5 =>
  bd (d_x7 x5 1 60) fun x6 =>
  br (!x6)
   (some false)
   (L3 (w64 (v4 + 1))))
  (jn (d_x8_j3 p0) ())
def d_x8_j1 (p0 : GRules) (v2 : Bool) : Option Bool :=
 br v2
  (some false)
  (loopN (d_x8_l2 p0) big 0)
def d_x8 (p0 : GRules) : Option Bool :=
 bd (d_x7 (↑p0.Seats.length : Int) 1 4) fun x1 =>
 br (!x1)
  (jn (d_x8_j1 p0) true)
  (bd (d_x7 p0.Tiers 1 5) fun x12 =>
  br (!x12)
   (jn (d_x8_j1 p0) true)
   (bd (d_x7 p0.Room 1 10) fun x13 =>
   br (!x13)
    (jn (d_x8_j1 p0) true)
    (bd (d_x7 p0.Size 1 6) fun x14 =>
    br (!x14)
     (jn (d_x8_j1 p0) true)
     (bd (d_x7 p0.Period 1 12) fun x15 =>
     jn (d_x8_j1 p0) (!x15)))))
def gf_x8 : GF := y_x8.gf rfl rfl (fun a => d_x8 a.1) (fun a => by kernel_rfl)
def y_x9 : YF := ⟨[], [.v (.st 1), .v (.st 2), .v .i], [], .ret [.b], [.tmp 6],
 sq [qu 3 0, qu 4 1, qB 6 false] (Kp 28) (.seq (.join [cv 47 .b] (qr [wn 7 [wk 9 3, wY gf_x8 rfl, wX, wM],
 wf 10 11 [wm 2, wc gf_x7 rfl [11, qj 0, qj 1000000], wX],
 wn 14 [wR 10, wM],
 wf 15 16 [wo 0 4, wL, wc gf_x7 rfl [17, qj 1, qj 999], wX],
 wn 20 [wR 15, wM],
 wf 21 22 [wo 1 4, wL, wo 0 3, wL, wZ, wI .sub 1, wc gf_x7 rfl [23, qj 0, 27], wX],
 wn 30 [wR 21, wM],
 wf 31 32 [wo 2 4, wL, wo 0 3, wL, wZ, wI .sub 1, wc gf_x7 rfl [33, qj (-1), 37], wX],
 wn 40 [wR 31, wM],
 wf 41 42 [wo 2 4, wL, wo 1 4, wL, wB .eql 43],
 qn [qp 47 41 46]] [2, 3, 4, 47]) (cn 47 (Kp 28) (sq [qB 6 false] [6] .ret))) (.seq (.join [cv 84 .b] (qr [wn 48 [wo 3 4, wL, wo 3 3, wL, wc gf_x7 rfl [49, qj 1, 51], wX, wM],
 wf 54 55 [wo 4 4, wL, wo 1 3, wL, wI .sub 1, wc gf_x7 rfl [56, qj 0, 59], wX],
 wn 62 [wR 54, wM],
 wf 63 64 [wo 5 4, wL, wm 2, wc gf_x7 rfl [65, qj 0, 66], wX],
 wn 69 [wR 63, wM],
 wf 70 71 [wo 6 4, wL, wc gf_x7 rfl [72, qj 1, qj 1000000], wX],
 wn 75 [wR 70, wM],
 wf 76 77 [wo 9 4, wL, wo 7 3, wL, wI .sub 1, wc gf_x7 rfl [78, qj 0, 81], wX],
 qn [qp 84 76 83]] [2, 3, 4, 84]) (cn 84 (Kp 28) (sq [qB 6 false] [6] .ret))) (.join [cv 6 .b] (qr [wn 85 [wo 7 4, wL, wI .eql 1, wM],
 wt 88 89 [wo 8 4, wL, wm 2, wo 6 3, wL, wB .add 91, wc gf_x7 rfl [90, qj 0, 94]],
 wn 96 [wQ 88, wM],
 wf 97 98 [wo 7 4, wL, wI .eql 2, wM],
 wt 101 102 [wo 8 4, wL, wm 2, wo 5 3, wL, wB .add 104, wc gf_x7 rfl [103, qj 1, 107]],
 qf 97 [qq 109 101 108],
 qn [qp 110 97 109, qa 6 110]] [6]) .ret)))⟩
def d_x9_j3 (v6 : Bool) : Option Bool :=
 some v6
def d_x9_j2 (p0 : GRules) (p1 : GParty) (p2 : Int) (v4 : Bool) : Option Bool :=
 br v4
  (some false)
  (br (p1.State == 1)
   (bd (d_x7 p1.Until 0 (w64 (p2 + p0.Rest))) fun x5 =>
   br x5
    (jn (d_x9_j3) true)
    (br (p1.State == 2)
     (bd (d_x7 p1.Until 1 (w64 (p2 + p0.Window))) fun x7 =>
     jn (d_x9_j3) x7)
     (jn (d_x9_j3) false)))
   (br (p1.State == 2)
    (bd (d_x7 p1.Until 1 (w64 (p2 + p0.Window))) fun x8 =>
    jn (d_x9_j3) x8)
    (jn (d_x9_j3) false)))
def d_x9_j1 (p0 : GRules) (p1 : GParty) (p2 : Int) (v2 : Bool) : Option Bool :=
 br v2
  (some false)
  (bd (d_x7 p1.Size 1 p0.Size) fun x3 =>
  br (!x3)
   (jn (d_x9_j2 p0 p1 p2) true)
   (bd (d_x7 p1.Tier 0 (w64 (p0.Tiers - 1))) fun x9 =>
   br (!x9)
    (jn (d_x9_j2 p0 p1 p2) true)
    (bd (d_x7 p1.Since 0 p2) fun x10 =>
    br (!x10)
     (jn (d_x9_j2 p0 p1 p2) true)
     (bd (d_x7 p1.Turn 1 1000000) fun x11 =>
     br (!x11)
      (jn (d_x9_j2 p0 p1 p2) true)
      (bd (d_x7 p1.Asked 0 (w64 (p0.Tries - 1))) fun x12 =>
      jn (d_x9_j2 p0 p1 p2) (!x12))))))
def d_x9 (p0 : GRules) (p1 : GParty) (p2 : Int) : Option Bool :=
 bd (d_x8 p0) fun x1 =>
 br (!x1)
  (jn (d_x9_j1 p0 p1 p2) true)
  (bd (d_x7 p2 0 1000000) fun x13 =>
  br (!x13)
   (jn (d_x9_j1 p0 p1 p2) true)
   (bd (d_x7 p1.Id 1 999) fun x14 =>
   br (!x14)
    (jn (d_x9_j1 p0 p1 p2) true)
    (bd (d_x7 p1.Cabin 0 (w64 ((↑p0.Seats.length : Int) - 1))) fun x15 =>
    br (!x15)
     (jn (d_x9_j1 p0 p1 p2) true)
     (bd (d_x7 p1.From (-1) (w64 ((↑p0.Seats.length : Int) - 1))) fun x16 =>
     br (!x16)
      (jn (d_x9_j1 p0 p1 p2) true)
      (jn (d_x9_j1 p0 p1 p2) (p1.From == p1.Cabin))))))
def gf_x9 : GF := y_x9.gf rfl rfl (fun a => d_x9 a.1 a.2.1 a.2.2.1) (fun a => by kernel_rfl)
def y_xba : YF := ⟨[], [.v (.st 8)], [], .ret [.b], [.tmp 2],
 sq [qu 1 0, qB 2 false] [1] (.join [] (sq [qK 3 0] [1, 3] (bl 0 [cv 3 .i] (.seq (sw 7 [wm 3, wo 11 1, wL, wZ, wB .lss 7] (Kp 2058) (ce 11 [1, 3] [] 0)) (.join [] (.block 1 (sr [wn 14 [wo 11 1, wL, wm 3, wE (.st 2) 15, wK 10],
 qn [.alloc 4 zGParty, qw 10 4 18]] (Kp 26) (.seq (.join [cv 48 .b] (.dreg (qd 0 [wn 19 [wo 0 1, wK 9, wk 10 4, wo 9 1, wL, wc gf_x9 rfl [20, 21, 23], wX, wM],
 wf 26 27 [wo 6 4, wL, wo 10 1, wL, wB .geq 28],
 wn 32 [wR 26, wM],
 wf 33 34 [wm 3, wI .gtr 0, wM],
 wt 36 37 [wo 11 1, wL, wm 3, wI .sub 1, wE (.st 2) 38, wO 0, wL, wo 0 4, wL, wB .geq 43],
 qf 33 [qq 47 36 46],
 qn [qp 48 33 47]] .nil) [1, 3, 4, 48]) (cn 48 (Kp 26) (sq [qB 2 false] [2] .ret))) (sq [qK 5 0] (Kp 58) (bl 2 [cv 5 .i] (.seq (sw 49 [wm 5, wm 3, wB .lss 49] [1, 3, 4, 5, 51] (ce 51 (Kp 58) [1, 3] 2)) (.seq (.block 3 (sr [wn 54 [wo 11 1, wL, wm 5, wE (.st 2) 55, wK 10],
 qn [.alloc 6 zGParty, qw 10 6 58]] (Kp 122) (.join [cv 91 .b] (qr [wn 59 [wo 6 6, wL, wo 6 4, wL, wB .eql 60, wM],
 wf 64 65 [wo 6 6, wL, wo 6 4, wL, wB .lss 66, wM],
 wt 70 71 [wo 5 6, wL, wo 5 4, wL, wB .gtr 72],
 qf 64 [qq 76 70 75],
 wn 77 [wR 64, wM],
 wf 78 79 [wo 6 6, wL, wo 6 4, wL, wB .gtr 80, wM],
 wt 84 85 [wo 5 6, wL, wo 5 4, wL, wB .lss 86],
 qf 78 [qq 90 84 89],
 qn [qp 91 78 90]] [1, 3, 4, 5, 91]) (cn 91 (Kp 58) (sq [qB 2 false] [2] .ret))))) (qr [wn 52 [wm 5, wI .add 1],
 qn [qa 5 53]] (Kp 58))))))))) (qr [wn 12 [wm 3, wI .add 1],
 qn [qa 3 13]] [1, 3]))))) (sq [qB 2 true] [2] .ret))⟩
def d_xba_j4 (L6 : Int -> Option Bool) (v7 : Int) (v9 : Bool) : Option Bool :=
 br v9
  (some false)
  (L6 (w64 (v7 + 1)))
def d_xba_j5 (L1 : Int -> Option Bool) (v2 : Int) (_ : PUnit) : Option Bool :=
 L1 (w64 (v2 + 1))
def d_xba_l3 (p0 : GHouse) (L1 : Int -> Option Bool) (v2 : Int) (x3 : GParty) (L6 : Int -> Option Bool) (v7 : Int) : Option Bool :=
 br (decide (v7 < v2))
  (bd (at? p0.Parties v7) fun x8 =>
  br (x8.Turn == x3.Turn)
   (jn (d_xba_j4 L6 v7) true)
   (br (decide (x8.Turn < x3.Turn))
    (br (decide (x8.Since > x3.Since))
     (jn (d_xba_j4 L6 v7) true)
     (br (decide (x8.Turn > x3.Turn))
      (jn (d_xba_j4 L6 v7) (decide (x8.Since < x3.Since)))
      (jn (d_xba_j4 L6 v7) false)))
    (br (decide (x8.Turn > x3.Turn))
     (jn (d_xba_j4 L6 v7) (decide (x8.Since < x3.Since)))
     (jn (d_xba_j4 L6 v7) false))))
  (jn (d_xba_j5 L1 v2) ())
def d_xba_j2 (p0 : GHouse) (L1 : Int -> Option Bool) (v2 : Int) (x3 : GParty) (v5 : Bool) : Option Bool :=
 br v5
  (some false)
  (loopN (d_xba_l3 p0 L1 v2 x3) big 0)
def d_xba_j6 (_ : PUnit) : Option Bool :=
 some true
def d_xba_l1 (p0 : GHouse) (L1 : Int -> Option Bool) (v2 : Int) : Option Bool :=
 br (decide (v2 < (↑p0.Parties.length : Int)))
  (bd (at? p0.Parties v2) fun x3 =>
  bd (d_x9 p0.Rules x3 p0.Now) fun x4 =>
  br (!x4)
   (jn (d_xba_j2 p0 L1 v2 x3) true)
   (br (decide (x3.Turn >= p0.Turn))
    (jn (d_xba_j2 p0 L1 v2 x3) true)
    (br (decide (v2 > 0))
     (bd (at? p0.Parties (w64 (v2 - 1))) fun x10 =>
     jn (d_xba_j2 p0 L1 v2 x3) (decide (x10.Id >= x3.Id)))
     (jn (d_xba_j2 p0 L1 v2 x3) false))))
  (jn (d_xba_j6) ())
def d_xba (p0 : GHouse) : Option Bool :=
 loopN (d_xba_l1 p0) big 0
def gf_xba : GF := y_xba.gf rfl rfl (fun a => d_xba a.1) (fun a => by kernel_rfl)
def y_xbb : YF := ⟨[], [.v (.l .i), .v .i], [], .ret [.b], [.tmp 4],
 sq [qB 4 false] [0, 1] (.join [] (sq [qK 5 0] (Kp 35) (bl 0 [cv 5 .i] (.seq (sw 6 [wM, wm 0, wZ, wB .lss 6] (Kp 547) (ce 9 (Kp 35) [] 0)) (.seq (.block 1 (sw 12 [wm 0, wm 5, wE .i 12, wL, wm 1, wB .eql 15] (Kp 131107) (cn 17 (Kp 35) (sq [qB 4 true] [4] .ret)))) (qr [wn 10 [wm 5, wI .add 1],
 qn [qa 5 11]] (Kp 35)))))) (sq [qB 4 false] [4] .ret))⟩
def d_xbb_j2 (_ : PUnit) : Option Bool :=
 some false
def d_xbb_l1 (p0 : (List Int)) (p1 : Int) (L1 : Int -> Option Bool) (v2 : Int) : Option Bool :=
 br (decide (v2 < (↑p0.length : Int)))
  (bd (at? p0 v2) fun x3 =>
  br (x3 == p1)
   (some true)
   (L1 (w64 (v2 + 1))))
  (jn (d_xbb_j2) ())
def d_xbb (p0 : (List Int)) (p1 : Int) : Option Bool :=
 loopN (d_xbb_l1 p0 p1) big 0
def gf_xbb : GF := y_xbb.gf rfl rfl (fun a => d_xbb a.1 a.2.1) (fun a => by kernel_rfl)
def y_xbc : YF := ⟨[], [.v (.st 8)], [], .ret [.b], [.tmp 2],
 sq [qu 1 0, qB 2 false] [1] (.join [] (sq [qK 3 0] [1, 3] (bl 0 [cv 3 .i] (.seq (sw 5 [wm 3, wo 13 1, wL, wZ, wB .lss 5] (Kp 522) (ce 9 [1, 3] [1] 0)) (.seq (.block 1 (.join [cv 34 .b] (.dreg (qd 0 [wn 12 [wo 13 1, wL, wm 3, wE .i 13, wL, wo 12 1, wL, wZ, wI .sub 1, wc gf_x7 rfl [16, qj 0, 20], wX, wM],
 wf 23 24 [wo 13 1, wL, wm 3, wh (.sub · .i (.tmp 25) none (some (.tmp 26))), wo 13 1, wL, wm 3, wE .i 29, wL, wc gf_xbb rfl [27, 32]],
 qn [qp 34 23 33]] .nil) [1, 3, 34]) (cn 34 [1, 3] (sq [qB 2 false] [2] .ret)))) (qr [wn 10 [wm 3, wI .add 1],
 qn [qa 3 11]] [1, 3]))))) (.join [] (sq [qK 4 0] [1, 4] (bl 2 [cv 4 .i] (.seq (sw 35 [wm 4, wo 14 1, wL, wZ, wB .lss 35] [1, 4, 39] (ce 39 [1, 4] [1] 2)) (.seq (.block 3 (.seq (.dreg (qd 0 [wn 42 [wo 14 1, wL, wm 4, wE .i 43, wL, wo 12 1, wL, wZ, wI .sub 1, wc gf_x7 rfl [46, qj (-1), 50], wX]] .nil) [1, 4, 52]) (cn 52 [1, 4] (sq [qB 2 false] [2] .ret)))) (qr [wn 40 [wm 4, wI .add 1],
 qn [qa 4 41]] [1, 4]))))) (sr [wn 53 [wo 14 1, wL, wZ, wo 0 1, wO 8, wL, wB .eql 55],
 qn [qa 2 59]] [2] .ret)))⟩
def d_xbc_j2 (L1 : Int -> Option Bool) (v2 : Int) (v5 : Bool) : Option Bool :=
 br v5
  (some false)
  (L1 (w64 (v2 + 1)))
def d_xbc_j5 (p0 : GHouse) (_ : PUnit) : Option Bool :=
 some ((↑p0.Jobs.length : Int) == p0.Rules.Crew)
def d_xbc_l4 (p0 : GHouse) (L8 : Int -> Option Bool) (v9 : Int) : Option Bool :=
 br (decide (v9 < (↑p0.Jobs.length : Int)))
  (bd (at? p0.Jobs v9) fun x10 =>
  bd (d_x7 x10 (-1) (w64 ((↑p0.Cabins.length : Int) - 1))) fun x11 =>
  br (!x11)
   (some false)
   (L8 (w64 (v9 + 1))))
  (jn (d_xbc_j5 p0) ())
def d_xbc_j3 (p0 : GHouse) (_ : PUnit) : Option Bool :=
 loopN (d_xbc_l4 p0) big 0
def d_xbc_l1 (p0 : GHouse) (L1 : Int -> Option Bool) (v2 : Int) : Option Bool :=
 br (decide (v2 < (↑p0.Todo.length : Int)))
  (bd (at? p0.Todo v2) fun x3 =>
  bd (d_x7 x3 0 (w64 ((↑p0.Cabins.length : Int) - 1))) fun x4 =>
  br (!x4)
   (jn (d_xbc_j2 L1 v2) true)
   (gd (0 <= v2 /\ v2 <= (↑p0.Todo.length : Int)) (
   bd (at? p0.Todo v2) fun x6 =>
   bd (d_xbb (List.take v2.toNat p0.Todo) x6) fun x7 =>
   jn (d_xbc_j2 L1 v2) x7)))
  (jn (d_xbc_j3 p0) ())
def d_xbc (p0 : GHouse) : Option Bool :=
 loopN (d_xbc_l1 p0) big 0
def gf_xbc : GF := y_xbc.gf rfl rfl (fun a => d_xbc a.1) (fun a => by kernel_rfl)
def y_xbd : YF := ⟨[], [.v (.st 3)], [], .ret [.b], [.tmp 2],
 sq [qu 1 0, qB 2 false] [1] (.join [cv 2 .b] (qr [wn 3 [wo 0 1, wL, wc gf_x7 rfl [4, qj 1, qj 60], wM],
 wt 6 7 [wo 1 1, wL, wo 0 1, wL, wc gf_x7 rfl [8, qj 0, 10]],
 wn 12 [wQ 6, wM],
 wt 13 14 [wo 2 1, wL, wo 0 1, wL, wc gf_x7 rfl [15, qj 0, 17]],
 wn 19 [wQ 13, wM],
 wt 20 21 [wo 3 1, wL, wo 0 1, wL, wc gf_x7 rfl [22, qj 0, 24]],
 wn 26 [wQ 20, wM],
 wt 27 28 [wo 1 1, wL, wo 2 1, wL, wB .add 29, wo 3 1, wL, wB .add 32, wo 0 1, wL, wB .eql 35],
 wn 39 [wQ 27, wM],
 wt 40 41 [wo 4 1, wL, wo 3 1, wL, wc gf_x7 rfl [42, qj 0, 44]],
 qn [qq 46 40 45, qa 2 46]] [2]) .ret)⟩
def d_xbd_j1 (v6 : Bool) : Option Bool :=
 some v6
def d_xbd (p0 : GLedger) : Option Bool :=
 bd (d_x7 p0.Total 1 60) fun x1 =>
 br x1
  (bd (d_x7 p0.Free 0 p0.Total) fun x2 =>
  br x2
   (bd (d_x7 p0.Held 0 p0.Total) fun x3 =>
   br x3
    (bd (d_x7 p0.Sold 0 p0.Total) fun x4 =>
    br x4
     (br (w64 (w64 (p0.Free + p0.Held) + p0.Sold) == p0.Total)
      (bd (d_x7 p0.Tied 0 p0.Sold) fun x5 =>
      jn (d_xbd_j1) x5)
      (jn (d_xbd_j1) false))
     (jn (d_xbd_j1) false))
    (jn (d_xbd_j1) false))
   (jn (d_xbd_j1) false))
  (jn (d_xbd_j1) false)
def gf_xbd : GF := y_xbd.gf rfl rfl (fun a => d_xbd a.1) (fun a => by kernel_rfl)
def y_xbe : YF := ⟨[], [.v (.st 4), .v (.st 4)], [], .ret [.b], [.tmp 4],
 sq [qu 2 0, qu 3 1, qB 4 false] [2, 3] (.join [cv 4 .b] (qr [wn 5 [wo 0 2, wL, wo 0 3, wL, wB .lss 6, wM],
 wf 10 11 [wo 0 2, wL, wo 0 3, wL, wB .eql 12, wM],
 wt 16 17 [wo 1 2, wL, wo 1 3, wL, wB .lss 18],
 qf 10 [qq 22 16 21],
 qn [qp 23 10 22, qa 4 23]] [4]) .ret)⟩
def d_xbe_j1 (v1 : Bool) : Option Bool :=
 some v1
def d_xbe (p0 : GEntry) (p1 : GEntry) : Option Bool :=
 br (decide (p0.Level < p1.Level))
  (jn (d_xbe_j1) true)
  (br (p0.Level == p1.Level)
   (jn (d_xbe_j1) (decide (p0.Turn < p1.Turn)))
   (jn (d_xbe_j1) false))
def gf_xbe : GF := y_xbe.gf rfl rfl (fun a => d_xbe a.1 a.2.1) (fun a => by kernel_rfl)
def y_xbf : YF := ⟨[], [.v (.l (.st 4)), .v .i], [], .ret [.i], [.tmp 4],
 sq [qK 4 0] [0, 1] (.join [] (sq [qK 5 0] (Kp 35) (bl 0 [cv 5 .i] (.seq (sw 6 [wM, wm 0, wZ, wB .lss 6] (Kp 547) (ce 9 (Kp 35) [] 0)) (.seq (.block 1 (sw 12 [wm 0, wm 5, wE (.st 4) 12, wO 2, wL, wm 1, wB .eql 16] (Kp 262179) (.cond 18 [5] (Kp 35) (sq [qm 19 5, qa 4 19] [4] .ret) .skip))) (qr [wn 10 [wm 5, wI .add 1],
 qn [qa 5 11]] (Kp 35)))))) (sq [qK 4 (-1)] [4] .ret))⟩
def d_xbf_j2 (_ : PUnit) : Option Int :=
 some (-1)
def d_xbf_l1 (p0 : (List GEntry)) (p1 : Int) (L1 : Int -> Option Int) (v2 : Int) : Option Int :=
 br (decide (v2 < (↑p0.length : Int)))
  (bd (at? p0 v2) fun x3 =>
  br (x3.Id == p1)
   (some v2)
   (L1 (w64 (v2 + 1))))
  (jn (d_xbf_j2) ())
def d_xbf (p0 : (List GEntry)) (p1 : Int) : Option Int :=
 loopN (d_xbf_l1 p0 p1) big 0
def gf_xbf : GF := y_xbf.gf rfl rfl (fun a => d_xbf a.1 a.2.1) (fun a => by kernel_rfl)
def y_xbg : YF := ⟨[], [.v (.l (.st 4))], [], .ret [.b], [.tmp 2],
 sq [qB 2 false] [0] (.seq (sw 5 [wm 0, wZ, wI .gtr 10] [0, 7] (cn 7 [0] (sq [qB 2 false] [2] .ret))) (.join [] (sq [qK 3 0] [0, 3] (bl 0 [cv 3 .i] (.seq (sw 8 [wm 3, wm 0, wZ, wB .lss 8] (Kp 2057) (ce 11 [0, 3] [] 0)) (.seq (.block 1 (sr [wn 14 [wm 0, wm 3, wE (.st 4) 14, wK 4],
 qn [.alloc 4 zGEntry, qw 4 4 17]] (Kp 25) (.seq (.join [cv 39 .b] (qr [wn 18 [wo 0 4, wL, wc gf_x7 rfl [19, qj 0, qj 4], wX, wM],
 wf 22 23 [wo 1 4, wL, wc gf_x7 rfl [24, qj 1, qj 1000000], wX],
 wn 27 [wR 22, wM],
 wf 28 29 [wo 2 4, wL, wc gf_x7 rfl [30, qj 1, qj 999], wX],
 wn 33 [wR 28, wM],
 wf 34 35 [wo 3 4, wL, wc gf_x7 rfl [36, qj 1, qj 6], wX],
 qn [qp 39 34 38]] [0, 3, 4, 39]) (cn 39 (Kp 25) (sq [qB 2 false] [2] .ret))) (.join [cv 59 .b] (.dreg (qd 0 [wn 40 [wm 3, wI .gtr 0, wM],
 wt 42 43 [wm 0, wm 3, wI .sub 1, wE (.st 4) 43, wK 4, wk 4 4, wc gf_xbe rfl [47, 48], wX],
 wn 51 [wQ 42, wM],
 wf 52 53 [wm 0, wo 2 4, wL]] (.op 17 (some (52, false)) [] (.mv 57 (.tmp 3))
 (.op 16 (some (52, false)) [] (.call 56 gf_xbf [] rfl [(.tmp 53), (.tmp 55)])
 (qd 18 [qf 52 [qb 58 .neq 56 57],
 qn [qp 59 52 58]] .nil)))) [0, 3, 59]) (cn 59 [0, 3] (sq [qB 2 false] [2] .ret)))))) (qr [wn 12 [wm 3, wI .add 1],
 qn [qa 3 13]] [0, 3]))))) (sq [qB 2 true] [2] .ret)))⟩
def d_xbg_j3 (L1 : Int -> Option Bool) (v2 : Int) (v8 : Bool) : Option Bool :=
 br v8
  (some false)
  (L1 (w64 (v2 + 1)))
def d_xbg_j2 (p0 : (List GEntry)) (L1 : Int -> Option Bool) (v2 : Int) (x3 : GEntry) (v5 : Bool) : Option Bool :=
 br v5
  (some false)
  (br (decide (v2 > 0))
   (bd (at? p0 (w64 (v2 - 1))) fun x6 =>
   bd (d_xbe x6 x3) fun x7 =>
   br (!x7)
    (jn (d_xbg_j3 L1 v2) true)
    (bd (d_xbf p0 x3.Id) fun x9 =>
    jn (d_xbg_j3 L1 v2) (x9 != v2)))
   (bd (d_xbf p0 x3.Id) fun x10 =>
   jn (d_xbg_j3 L1 v2) (x10 != v2)))
def d_xbg_j4 (_ : PUnit) : Option Bool :=
 some true
def d_xbg_l1 (p0 : (List GEntry)) (L1 : Int -> Option Bool) (v2 : Int) : Option Bool :=
 br (decide (v2 < (↑p0.length : Int)))
  (bd (at? p0 v2) fun x3 =>
  bd (d_x7 x3.Level 0 4) fun x4 =>
  br (!x4)
   (jn (d_xbg_j2 p0 L1 v2 x3) true)
   (bd (d_x7 x3.Turn 1 1000000) fun x11 =>
   br (!x11)
    (jn (d_xbg_j2 p0 L1 v2 x3) true)
    (bd (d_x7 x3.Id 1 999) fun x12 =>
    br (!x12)
     (jn (d_xbg_j2 p0 L1 v2 x3) true)
     (bd (d_x7 x3.Size 1 6) fun x13 =>
     jn (d_xbg_j2 p0 L1 v2 x3) (!x13)))))
  (jn (d_xbg_j4) ())
def d_xbg (p0 : (List GEntry)) : Option Bool :=
 br (decide ((↑p0.length : Int) > 10))
  (some false)
  (loopN (d_xbg_l1 p0) big 0)
def gf_xbg : GF := y_xbg.gf rfl rfl (fun a => d_xbg a.1) (fun a => by kernel_rfl)
def y_xbh : YF := ⟨[], [.v (.st 6)], [], .ret [(.l (.st 5))], [.tmp 2],
 sq [qu 1 0, .as 2 (.k .nil), .nils [(.tmp 2 0, (.st 5))]] [1] (sq [.bslice 5 0 (.st 5) [], qa 3 5] [1, 3] (.join [cv 3 (.l (.st 5))] (sq [qK 4 0] (Kp 26) (bl 0 [cv 3 (.l (.st 5)), cv 4 .i] (.seq (sw 6 [wm 4, wo 0 1, wL, wZ, wB .lss 6] (Kp 1050) (ce 10 (Kp 26) [3] 0)) (.seq (.block 1 (qr [wn 13 [wm 3, wo 0 1, wL, wm 4, wE (.l (.st 5)) 15, wL, wh (.app · (.st 5) true (.tmp 13) (.tmp 18))],
 qn [qa 3 19]] (Kp 26))) (qr [wn 11 [wm 4, wI .add 1],
 qn [qa 4 12]] (Kp 26)))))) (sq [qm 20 3, qa 2 20] [2] .ret)))⟩
def d_xbh_j2 (v5 : (List GPin)) : Option (List GPin) :=
 some v5
def d_xbh_l1 (p0 : GWheel) (L1 : ((List GPin) × Int) -> Option (List GPin)) (x_ : ((List GPin) × Int)) : Option (List GPin) :=
 match x_ with
 | (v2, v3) => br (decide (v3 < (↑p0.Spoke.length : Int)))
  (bd (at? p0.Spoke v3) fun x4 =>
  gd (List.length v2 + List.length x4 <= lim) (
  L1 ((v2 ++ x4, w64 (v3 + 1)))))
  (jn (d_xbh_j2) v2)
def d_xbh (p0 : GWheel) : Option (List GPin) :=
 loopN (d_xbh_l1 p0) big ([], 0)
def gf_xbh : GF := y_xbh.gf rfl rfl (fun a => d_xbh a.1) (fun a => by kernel_rfl)
def y_xbi : YF := ⟨[], [.v (.st 5), .v (.st 5)], [], .ret [.b], [.tmp 4],
 sq [qu 2 0, qu 3 1, qB 4 false] [2, 3] (.join [cv 4 .b] (qr [wn 5 [wo 0 2, wL, wo 0 3, wL, wB .lss 6, wM],
 wf 10 11 [wo 0 2, wL, wo 0 3, wL, wB .eql 12, wM],
 wt 16 17 [wo 1 2, wL, wo 1 3, wL, wB .lss 18],
 qf 10 [qq 22 16 21],
 qn [qp 23 10 22, qa 4 23]] [4]) .ret)⟩
def d_xbi_j1 (v1 : Bool) : Option Bool :=
 some v1
def d_xbi (p0 : GPin) (p1 : GPin) : Option Bool :=
 br (decide (p0.At < p1.At))
  (jn (d_xbi_j1) true)
  (br (p0.At == p1.At)
   (jn (d_xbi_j1) (decide (p0.Id < p1.Id)))
   (jn (d_xbi_j1) false))
def gf_xbi : GF := y_xbi.gf rfl rfl (fun a => d_xbi a.1 a.2.1) (fun a => by kernel_rfl)
def y_xbj : YF := ⟨[], [.v (.st 6)], [], .ret [.b], [.tmp 2],
 sq [qu 1 0, qB 2 false] [1] (sr [wn 8 [wk 1 1, wY gf_xbh rfl],
 qn [qa 3 9]] [1, 3] (.seq (.join [cv 18 .b] (qr [wn 10 [wo 0 1, wL, wZ, wI .neq 9, wM],
 wf 14 15 [wm 3, wZ, wI .gtr 10],
 qn [qp 18 14 17]] [1, 3, 18]) (cn 18 [1, 3] (sq [qB 2 false] [2] .ret))) (.join [] (sq [qK 4 0] (Kp 26) (bl 0 [cv 4 .i] (.seq (sw 19 [wm 4, wm 3, wZ, wB .lss 19] (Kp 4194330) (ce 22 (Kp 26) [1] 0)) (.join [] (.block 1 (.seq (.join [cv 40 .b] (qr [wn 25 [wm 3, wm 4, wE (.st 5) 25, wO 0, wL, wc gf_x7 rfl [29, qj 1, qj 1000008], wX, wM],
 wf 32 33 [wm 3, wm 4, wE (.st 5) 33, wO 1, wL, wc gf_x7 rfl [37, qj 1, qj 999], wX],
 qn [qp 40 32 39]] [1, 3, 4, 40]) (cn 40 (Kp 26) (sq [qB 2 false] [2] .ret))) (sq [qK 5 0] (Kp 58) (bl 2 [cv 5 .i] (.seq (sw 41 [wm 5, wm 4, wB .lss 41] [1, 3, 4, 5, 43] (ce 43 [1, 3, 4, 5] (Kp 26) 2)) (.seq (.block 3 (.seq (.dreg (qd 0 [wn 46 [wm 3, wm 5, wE (.st 5) 46, wO 1, wL, wm 3, wm 4, wE (.st 5) 51, wO 1, wL, wB .eql 50]] .nil) [1, 3, 4, 5, 56]) (cn 56 (Kp 58) (sq [qB 2 false] [2] .ret)))) (qr [wn 44 [wm 5, wI .add 1],
 qn [qa 5 45]] (Kp 58)))))))) (qr [wn 23 [wm 4, wI .add 1],
 qn [qa 4 24]] (Kp 26)))))) (.join [] (sq [qK 6 0] [1, 6] (bl 4 [cv 6 .i] (.seq (sw 57 [wm 6, wo 0 1, wL, wZ, wB .lss 57] [1, 6, 61] (ce 61 [1, 6] [] 4)) (.join [] (.block 5 (sq [qK 7 0] (Kp 194) (bl 6 [cv 7 .i] (.seq (sw 64 [wm 7, wo 0 1, wL, wm 6, wE (.l (.st 5)) 66, wL, wZ, wB .lss 64] [1, 6, 7, 71] (ce 71 (Kp 194) [1, 6] 6)) (.seq (.block 7 (.join [cv 110 .b] (.dreg (qd 0 [wn 74 [wo 0 1, wL, wm 6, wE (.l (.st 5)) 75, wL, wm 7, wE (.st 5) 78, wO 0, wL, wI .rem 9, wm 6, wB .neq 83, wM],
 wf 86 87 [wm 7, wI .gtr 0, wM],
 wt 89 90 [wo 0 1, wL, wm 6, wE (.l (.st 5)) 91, wL, wm 7, wI .sub 1, wE (.st 5) 94, wK 2, wo 0 1, wL, wm 6, wE (.l (.st 5)) 100, wL, wm 7, wE (.st 5) 103, wK 2, wc gf_xbi rfl [98, 106], wX],
 qf 86 [qq 109 89 108],
 qn [qp 110 86 109]] .nil) [1, 6, 7, 110]) (cn 110 (Kp 194) (sq [qB 2 false] [2] .ret)))) (qr [wn 72 [wm 7, wI .add 1],
 qn [qa 7 73]] (Kp 194))))))) (qr [wn 62 [wm 6, wI .add 1],
 qn [qa 6 63]] [1, 6]))))) (sq [qB 2 true] [2] .ret)))))⟩
def d_xbj_j5 (L3 : Int -> Option Bool) (v4 : Int) (_ : PUnit) : Option Bool :=
 L3 (w64 (v4 + 1))
def d_xbj_l4 (x1 : (List GPin)) (L3 : Int -> Option Bool) (v4 : Int) (L9 : Int -> Option Bool) (v10 : Int) : Option Bool :=
 br (decide (v10 < v4))
  (bd (at? x1 v10) fun x11 =>
  bd (at? x1 v10) fun x12 =>
  bd (at? x1 v4) fun x13 =>
  bd (at? x1 v4) fun x14 =>
  br (x12.Id == x14.Id)
   (some false)
   (L9 (w64 (v10 + 1))))
  (jn (d_xbj_j5 L3 v4) ())
def d_xbj_j3 (x1 : (List GPin)) (L3 : Int -> Option Bool) (v4 : Int) (v8 : Bool) : Option Bool :=
 br v8
  (some false)
  (loopN (d_xbj_l4 x1 L3 v4) big 0)
def d_xbj_j9 (L20 : Int -> Option Bool) (v21 : Int) (v25 : Bool) : Option Bool :=
 br v25
  (some false)
  (L20 (w64 (v21 + 1)))
def d_xbj_j10 (L18 : Int -> Option Bool) (v19 : Int) (_ : PUnit) : Option Bool :=
 L18 (w64 (v19 + 1))
def d_xbj_l8 (p0 : GWheel) (L18 : Int -> Option Bool) (v19 : Int) (L20 : Int -> Option Bool) (v21 : Int) : Option Bool :=
 bd (at? p0.Spoke v19) fun x22 =>
 br (decide (v21 < (↑(List.length x22) : Int)))
  (bd (at? p0.Spoke v19) fun x23 =>
  bd (at? x23 v21) fun x24 =>
  br (x24.At.tmod 9 != v19)
   (jn (d_xbj_j9 L20 v21) true)
   (br (decide (v21 > 0))
    (bd (at? p0.Spoke v19) fun x26 =>
    bd (at? x26 (w64 (v21 - 1))) fun x27 =>
    bd (at? p0.Spoke v19) fun x28 =>
    bd (at? x28 v21) fun x29 =>
    bd (d_xbi x27 x29) fun x30 =>
    jn (d_xbj_j9 L20 v21) (!x30))
    (jn (d_xbj_j9 L20 v21) false)))
  (jn (d_xbj_j10 L18 v19) ())
def d_xbj_j11 (_ : PUnit) : Option Bool :=
 some true
def d_xbj_l7 (p0 : GWheel) (L18 : Int -> Option Bool) (v19 : Int) : Option Bool :=
 br (decide (v19 < (↑p0.Spoke.length : Int)))
  (loopN (d_xbj_l8 p0 L18 v19) big 0)
  (jn (d_xbj_j11) ())
def d_xbj_j6 (p0 : GWheel) (_ : PUnit) : Option Bool :=
 loopN (d_xbj_l7 p0) big 0
def d_xbj_l2 (p0 : GWheel) (x1 : (List GPin)) (L3 : Int -> Option Bool) (v4 : Int) : Option Bool :=
 br (decide (v4 < (↑(List.length x1) : Int)))
  (bd (at? x1 v4) fun x5 =>
  bd (at? x1 v4) fun x6 =>
  bd (d_x7 x6.At 1 1000008) fun x7 =>
  br (!x7)
   (jn (d_xbj_j3 x1 L3 v4) true)
   (bd (at? x1 v4) fun x15 =>
   bd (at? x1 v4) fun x16 =>
   bd (d_x7 x16.Id 1 999) fun x17 =>
   jn (d_xbj_j3 x1 L3 v4) (!x17)))
  (jn (d_xbj_j6 p0) ())
def d_xbj_j1 (p0 : GWheel) (x1 : (List GPin)) (v2 : Bool) : Option Bool :=
 br v2
  (some false)
  (loopN (d_xbj_l2 p0 x1) big 0)
def d_xbj (p0 : GWheel) : Option Bool :=
 bd (d_xbh p0) fun x1 =>
 br ((↑p0.Spoke.length : Int) != 9)
  (jn (d_xbj_j1 p0 x1) true)
  (jn (d_xbj_j1 p0 x1) (decide ((↑(List.length x1) : Int) > 10)))
def gf_xbj : GF := y_xbj.gf rfl rfl (fun a => d_xbj a.1) (fun a => by kernel_rfl)
def y_xbk : YF := ⟨[], [.v (.st 7)], [], .ret [.b], [.tmp 2],
 sq [qu 1 0, qB 2 false] [1] (.join [cv 2 .b] (qr [wn 3 [wo 0 1, wK 5, wY gf_xbd rfl, wM],
 wt 6 7 [wo 5 1, wL, wY gf_xbg rfl],
 wn 10 [wQ 6, wM],
 wt 11 12 [wo 6 1, wK 1, wY gf_xbj rfl],
 qn [qq 15 11 14, qa 2 15]] [2]) .ret)⟩
def d_xbk_j1 (v4 : Bool) : Option Bool :=
 some v4
def d_xbk (p0 : GCabin) : Option Bool :=
 bd (d_xbd p0.Seats) fun x1 =>
 br x1
  (bd (d_xbg p0.Row) fun x2 =>
  br x2
   (bd (d_xbj p0.Wheel) fun x3 =>
   jn (d_xbk_j1) x3)
   (jn (d_xbk_j1) false))
  (jn (d_xbk_j1) false)
def gf_xbk : GF := y_xbk.gf rfl rfl (fun a => d_xbk a.1) (fun a => by kernel_rfl)
def y_xbl : YF := ⟨[], [.v .i, .v .i], [], .ret [.i], [.tmp 4],
 sq [qK 4 0] [0, 1] (.seq (sw 5 [wm 0, wm 1, wB .gtr 5] (Kp 131) (.cond 7 [0] [1] (sq [qm 8 0, qa 4 8] [4] .ret) .skip)) (sq [qm 9 1, qa 4 9] [4] .ret))⟩
def d_xbl (p0 : Int) (p1 : Int) : Option Int :=
 br (decide (p0 > p1))
  (some p0)
  (some p1)
def gf_xbl : GF := y_xbl.gf rfl rfl (fun a => d_xbl a.1 a.2.1) (fun a => by kernel_rfl)
def y_xbm : YF := ⟨[], [.v (.st 1), .v .i, .v .i], [], .ret [.i], [.tmp 6],
 sq [qu 3 0, qK 6 0] (Kp 14) (sr [wn 7 [wm 1, wm 2, wo 4 3, wL, wB .quo 8, wB .sub 7, wc gf_xbl rfl [qj 0, 12]],
 qn [qa 6 13]] [6] .ret)⟩
def d_xbm (p0 : GRules) (p1 : Int) (p2 : Int) : Option Int :=
 gd (p0.Period ≠ 0) (
 bd (d_xbl 0 (w64 (p1 - w64 (p2.tdiv p0.Period)))) fun x1 =>
 some x1)
def gf_xbm : GF := y_xbm.gf rfl rfl (fun a => d_xbm a.1 a.2.1 a.2.2.1) (fun a => by kernel_rfl)
def y_xbn : YF := ⟨[], [.v (.st 1), .v (.st 2), .v .i], [], .ret [.i], [.tmp 6],
 sq [qu 3 0, qu 4 1, qK 6 0] (Kp 28) (.seq (sw 7 [wk 9 3, wk 10 4, wm 2, wc gf_x9 rfl [7, 8, 9], wX] (Kp 2076) (cn 11 (Kp 28) (sq [qK 6 (-1)] [6] .ret))) (sr [wn 12 [wk 9 3, wo 4 4, wL, wm 2, wo 5 4, wL, wB .sub 15, wc gf_xbm rfl [12, 14, 18]],
 qn [qa 6 19]] [6] .ret))⟩
def d_xbn (p0 : GRules) (p1 : GParty) (p2 : Int) : Option Int :=
 bd (d_x9 p0 p1 p2) fun x1 =>
 br (!x1)
  (some (-1))
  (bd (d_xbm p0 p1.Tier (w64 (p2 - p1.Since))) fun x2 =>
  some x2)
def gf_xbn : GF := y_xbn.gf rfl rfl (fun a => d_xbn a.1 a.2.1 a.2.2.1) (fun a => by kernel_rfl)
def y_xbo : YF := ⟨[], [.v (.st 1), .v (.st 2), .v .i], [], .ret [(.st 4), .b], [.cell 6 (some 4), .tmp 7],
 sq [qu 3 0, qu 4 1, .alloc 6 zGEntry, qB 7 false] (Kp 92) (sr [wn 9 [wk 9 3, wk 10 4, wm 2, wc gf_xbn rfl [9, 10, 11]],
 qn [qa 8 12]] (Kp 336) (.seq (.join [cv 19 .b] (qr [wn 13 [wm 8, wI .lss 0, wM],
 wf 15 16 [wo 7 4, wL, wI .neq 1],
 qn [qp 19 15 18]] (Kp 524624)) (.cond 19 [6] (Kp 336) (sq [.build 20 zGEntry [], qw 4 6 20, qB 7 false] [6, 7] .ret) .skip)) (sr [wn 21 [wm 8, wo 6 4, wL, wo 0 4, wL, wo 3 4, wL, wh (.build · zGEntry [(0, 1, (.tmp 21)), (1, 1, (.tmp 23)), (2, 1, (.tmp 25)), (3, 1, (.tmp 27))])],
 qn [qw 4 6 28, qB 7 true]] [6, 7] .ret)))⟩
def d_xbo_j1 (p1 : GParty) (x1 : Int) (v2 : Bool) : Option (GEntry × Bool) :=
 br v2
  (some (GEntry.mk 0 0 0 0, false))
  (some (GEntry.mk x1 p1.Turn p1.Id p1.Size, true))
def d_xbo (p0 : GRules) (p1 : GParty) (p2 : Int) : Option (GEntry × Bool) :=
 bd (d_xbn p0 p1 p2) fun x1 =>
 br (decide (x1 < 0))
  (jn (d_xbo_j1 p1 x1) true)
  (jn (d_xbo_j1 p1 x1) (p1.State != 1))
def gf_xbo : GF := y_xbo.gf rfl rfl (fun a => d_xbo a.1 a.2.1 a.2.2.1) (fun a => by kernel_rfl)
def y_xbp : YF := ⟨[], [.v (.l (.st 4))], [], .ret [(.l (.st 4))], [.tmp 2],
 sq [.as 2 (.k .nil), .nils [(.tmp 2 0, (.st 4))]] [0] (sr [wn 3 [wh (.bslice · 0 (.st 4) []), wm 0, wh (.app · (.st 4) true (.tmp 3) (.tmp 4))],
 qn [qa 2 5]] [2] .ret)⟩
def d_xbp (p0 : (List GEntry)) : Option (List GEntry) :=
 gd (0 + p0.length <= lim) (
 some ([] ++ p0))
def gf_xbp : GF := y_xbp.gf rfl rfl (fun a => d_xbp a.1) (fun a => by kernel_rfl)
def y_xbq : YF := ⟨[], [.v (.l (.st 4)), .v (.st 4)], [], .ret [(.l (.st 4))], [.tmp 4],
 sq [qu 3 1, .as 4 (.k .nil), .nils [(.tmp 4 0, (.st 4))]] [0, 3] (sq [qK 5 0] (Kp 41) (.join [cv 5 .i] (bl 0 [cv 5 .i] (.seq (.join [cv 18 .b] (.dreg (qd 0 [wn 7 [wm 5, wm 0, wZ, wB .lss 7, wM],
 wt 11 12 [wm 0, wm 5, wE (.st 4) 12, wK 4, wk 4 3, wc gf_xbe rfl [15, 16]],
 qn [qq 18 11 17]] .nil) [0, 3, 5, 18]) (ce 18 [0, 3, 5] (Kp 41) 0)) (.block 1 (qr [wn 19 [wm 5, wI .add 1],
 qn [qa 5 20]] (Kp 41))))) (.seq (.dreg (qd 0 [wn 21 [wm 0, wm 5, wh (.sub · (.st 4) (.tmp 21) none (some (.tmp 22)))]] (.op 4 none [] (.ld 25 (some 4) (.tmp 3))
 (.both 0 (.op 3 none [3] (.call 24 gf_xbp [] rfl [(.tmp 23)])
 (qd 5 [wn 26 [wh (.bslice · 1 (.st 4) [(0, (.tmp 25))]), wh (.app · (.st 4) true (.tmp 24) (.tmp 26))],
 qn [qa 6 27]] (.dr [21, 22, 23, 24, 25, 26, 27] .nil))) (.op 5 none [] (.bslice 26 1 (.st 4) [(0, (.tmp 25))])
 (.op 3 none [3] (.call 24 gf_xbp [] rfl [(.tmp 23)])
 (qd 6 [qn [.app 27 (.st 4) true (.tmp 24) (.tmp 26), qa 6 27]] (.dr [21, 22, 23, 24, 25, 26, 27] .nil))))))) [0, 5, 6]) (sr [wn 28 [wm 6, wm 0, wm 5, wh (.sub · (.st 4) (.tmp 29) (some (.tmp 30)) none), wh (.app · (.st 4) true (.tmp 28) (.tmp 31))],
 qn [qa 4 32]] [4] .ret))))⟩
def d_xbq_j3 (p0 : (List GEntry)) (p1 : GEntry) (v6 : Int) : Option (List GEntry) :=
 gd (0 <= v6 /\ v6 <= (↑p0.length : Int)) (
 bd (d_xbp (List.take v6.toNat p0)) fun x7 =>
 gd (List.length x7 + [p1].length <= lim) (
 bd (d_xbp (List.take v6.toNat p0)) fun x8 =>
 gd (List.length x8 + [p1].length <= lim) (
 eqv (x7 ++ [p1]) (x8 ++ [p1]) (
 gd (0 <= v6 /\ v6 <= (↑p0.length : Int)) (
 gd ((x7 ++ [p1]).length + (List.drop v6.toNat p0).length <= lim) (
 some (x7 ++ [p1] ++ List.drop v6.toNat p0)))))))
def d_xbq_j2 (p0 : (List GEntry)) (p1 : GEntry) (L1 : Int -> Option (List GEntry)) (v2 : Int) (v5 : Bool) : Option (List GEntry) :=
 br v5
  (L1 (w64 (v2 + 1)))
  (jn (d_xbq_j3 p0 p1) v2)
def d_xbq_l1 (p0 : (List GEntry)) (p1 : GEntry) (L1 : Int -> Option (List GEntry)) (v2 : Int) : Option (List GEntry) :=
 br (decide (v2 < (↑p0.length : Int)))
  (bd (at? p0 v2) fun x3 =>
  bd (d_xbe x3 p1) fun x4 =>
  jn (d_xbq_j2 p0 p1 L1 v2) x4)
  (jn (d_xbq_j2 p0 p1 L1 v2) false)
def d_xbq (p0 : (List GEntry)) (p1 : GEntry) : Option (List GEntry) :=
 loopN (d_xbq_l1 p0 p1) big 0
def gf_xbq : GF := y_xbq.gf rfl rfl (fun a => d_xbq a.1 a.2.1) (fun a => by kernel_rfl)
def y_xbr : YF := ⟨[], [.v (.st 1), .v (.l (.st 2)), .v .i, .v .i], [], .ret [(.l (.st 4))], [.tmp 8],
 sq [qu 4 0, .as 8 (.k .nil), .nils [(.tmp 8 0, (.st 4))]] (Kp 30) (sq [.bslice 13 0 (.st 4) [], qa 9 13] (Kp 542) (.join [cv 9 (.l (.st 4))] (sr [wn 14 [wm 1, wZ, wI .sub 1],
 qn [qa 10 16]] (Kp 1566) (bl 0 [cv 9 (.l (.st 4)), cv 10 .i] (.seq (sw 17 [wm 10, wI .geq 0] (Kp 263710) (ce 18 (Kp 1566) [9] 0)) (.join [cv 9 (.l (.st 4))] (.block 1 (.seq (.dreg (qd 0 [wn 22 [wk 9 4, wm 1, wm 10, wE (.st 2) 23, wK 10, wm 3]] (.both 0 (qd 6 [qn [qc 28 gf_xbo rfl [22, 26, 27], qm 21 28],
 wn 29 [wh (.ext · (.tmp 21) 0), wh (.ext · (.tmp 21) 1)]] (.op 10 none [4, 25] (.alloc 11 zGEntry)
 (qd 11 [qn [qw 4 11 29, qa 12 30]] (.dr [21, 22, 23, 24, 25, 26, 27, 28, 29, 30] .nil)))) (.op 10 none [4, 25] (.alloc 11 zGEntry)
 (qd 6 [qn [qc 28 gf_xbo rfl [22, 26, 27], qm 21 28],
 wn 29 [wh (.ext · (.tmp 21) 0), wh (.ext · (.tmp 21) 1)]] (qd 11 [qn [qw 4 11 29, qa 12 30]] (.dr [21, 22, 23, 24, 25, 26, 27, 28, 29, 30] .nil)))))) [1, 2, 3, 4, 9, 10, 11, 12]) (.join [cv 40 .b] (qr [wn 31 [wm 12, wM],
 wt 32 33 [wm 1, wm 10, wE (.st 2) 33, wO 1, wL, wm 2, wB .eql 37],
 qn [qq 40 32 39]] (Kp 1099511631390)) (.cond 40 [1, 2, 3, 4, 9, 10, 11] (Kp 1566) (qr [wn 41 [wm 9, wk 4 11, wc gf_xbq rfl [41, 42]],
 qn [qa 9 43]] (Kp 1566)) .skip)))) (qr [wn 19 [wm 10, wI .sub 1],
 qn [qa 10 20]] (Kp 1566)))))) (sq [qm 44 9, qa 8 44] [8] .ret)))⟩
def d_xbr_j3 (L1 : ((List GEntry) × Int) -> Option (List GEntry)) (v3 : Int) (v10 : (List GEntry)) : Option (List GEntry) :=
 L1 ((v10, w64 (v3 - 1)))
def d_xbr_j2 (L1 : ((List GEntry) × Int) -> Option (List GEntry)) (v2 : (List GEntry)) (v3 : Int) (x5 : (GEntry × Bool)) (v8 : Bool) : Option (List GEntry) :=
 br v8
  (bd (d_xbq v2 x5.fst) fun x9 =>
  jn (d_xbr_j3 L1 v3) x9)
  (jn (d_xbr_j3 L1 v3) v2)
def d_xbr_j4 (v11 : (List GEntry)) : Option (List GEntry) :=
 some v11
def d_xbr_l1 (p0 : GRules) (p1 : (List GParty)) (p2 : Int) (p3 : Int) (L1 : ((List GEntry) × Int) -> Option (List GEntry)) (x_ : ((List GEntry) × Int)) : Option (List GEntry) :=
 match x_ with
 | (v2, v3) => br (decide (v3 >= 0))
  (bd (at? p1 v3) fun x4 =>
  bd (d_xbo p0 x4 p3) fun x5 =>
  bd (d_xbo p0 x4 p3) fun x6 =>
  eqv x5.snd x6.snd (
  vGEntry x5.fst x6.fst (
  br x5.snd
   (bd (at? p1 v3) fun x7 =>
   jn (d_xbr_j2 L1 v2 v3 x5) (x7.Cabin == p2))
   (jn (d_xbr_j2 L1 v2 v3 x5) false))))
  (jn (d_xbr_j4) v2)
def d_xbr (p0 : GRules) (p1 : (List GParty)) (p2 : Int) (p3 : Int) : Option (List GEntry) :=
 loopN (d_xbr_l1 p0 p1 p2 p3) big (([], w64 ((↑p1.length : Int) - 1)))
def gf_xbr : GF := y_xbr.gf rfl rfl (fun a => d_xbr a.1 a.2.1 a.2.2.1 a.2.2.2.1) (fun a => by kernel_rfl)
def y_xbs : YF := ⟨[], [.v (.l (.st 4)), .v (.l (.st 4))], [], .ret [.b], [.tmp 4],
 sq [qB 4 false] [0, 1] (.seq (sw 6 [wm 0, wZ, wm 1, wZ, wB .neq 7] (Kp 1027) (cn 10 [0, 1] (sq [qB 4 false] [4] .ret))) (.join [] (sq [qK 5 0] (Kp 35) (bl 0 [cv 5 .i] (.seq (sw 11 [wm 5, wm 0, wZ, wB .lss 11] (Kp 16419) (ce 14 (Kp 35) [] 0)) (.seq (.block 1 (.seq (.dreg (qd 0 [wn 17 [wm 0, wm 5, wE (.st 4) 17, wK 4, wm 1, wm 5, wE (.st 4) 21, wK 4, wh (.bin · (.agg [.i, .i, .i, .i]) .neq (.tmp 20) (.tmp 24))]] .nil) [0, 1, 5, 25]) (cn 25 (Kp 35) (sq [qB 4 false] [4] .ret)))) (qr [wn 15 [wm 5, wI .add 1],
 qn [qa 5 16]] (Kp 35)))))) (sq [qB 4 true] [4] .ret)))⟩
def d_xbs_j2 (_ : PUnit) : Option Bool :=
 some true
def d_xbs_l1 (p0 : (List GEntry)) (p1 : (List GEntry)) (L1 : Int -> Option Bool) (v2 : Int) : Option Bool :=
 br (decide (v2 < (↑p0.length : Int)))
  (bd (at? p0 v2) fun x3 =>
  bd (at? p1 v2) fun x4 =>
  br (!(x3.Level == x4.Level && (x3.Turn == x4.Turn && (x3.Id == x4.Id && (x3.Size == x4.Size && true)))))
   (some false)
   (L1 (w64 (v2 + 1))))
  (jn (d_xbs_j2) ())
def d_xbs (p0 : (List GEntry)) (p1 : (List GEntry)) : Option Bool :=
 br ((↑p0.length : Int) != (↑p1.length : Int))
  (some false)
  (loopN (d_xbs_l1 p0 p1) big 0)
def gf_xbs : GF := y_xbs.gf rfl rfl (fun a => d_xbs a.1 a.2.1) (fun a => by kernel_rfl)
def y_xbt : YF := ⟨[], [.v (.l (.st 5)), .v (.st 5)], [], .ret [(.l (.st 5))], [.tmp 4],
 sq [qu 3 1, .as 4 (.k .nil), .nils [(.tmp 4 0, (.st 5))]] [0, 3] (sq [qK 5 0] (Kp 41) (.join [cv 5 .i] (bl 0 [cv 5 .i] (.seq (.join [cv 18 .b] (.dreg (qd 0 [wn 7 [wm 5, wm 0, wZ, wB .lss 7, wM],
 wt 11 12 [wm 0, wm 5, wE (.st 5) 12, wK 2, wk 2 3, wc gf_xbi rfl [15, 16]],
 qn [qq 18 11 17]] .nil) [0, 3, 5, 18]) (ce 18 [0, 3, 5] (Kp 41) 0)) (.block 1 (qr [wn 19 [wm 5, wI .add 1],
 qn [qa 5 20]] (Kp 41))))) (sr [wn 21 [wh (.bslice · 0 (.st 5) []), wm 0, wm 5, wh (.sub · (.st 5) (.tmp 22) none (some (.tmp 23))), wh (.app · (.st 5) true (.tmp 21) (.tmp 24))],
 qn [qa 6 25]] (Kp 105) (sr [wn 26 [wm 6, wk 2 3, wh (.bslice · 1 (.st 5) [(0, (.tmp 27))]), wh (.app · (.st 5) true (.tmp 26) (.tmp 28))],
 qn [qa 6 29]] (Kp 97) (sr [wn 30 [wm 6, wm 0, wm 5, wh (.sub · (.st 5) (.tmp 31) (some (.tmp 32)) none), wh (.app · (.st 5) true (.tmp 30) (.tmp 33))],
 qn [qa 4 34]] [4] .ret)))))⟩
def d_xbt_j3 (p0 : (List GPin)) (p1 : GPin) (v6 : Int) : Option (List GPin) :=
 gd (0 <= v6 /\ v6 <= (↑p0.length : Int)) (
 gd (0 + (List.take v6.toNat p0).length <= lim) (
 gd (([] ++ List.take v6.toNat p0).length + [p1].length <= lim) (
 gd (0 <= v6 /\ v6 <= (↑p0.length : Int)) (
 gd (([] ++ List.take v6.toNat p0 ++ [p1]).length + (List.drop v6.toNat p0).length <= lim) (
 some ([] ++ List.take v6.toNat p0 ++ [p1] ++ List.drop v6.toNat p0))))))
def d_xbt_j2 (p0 : (List GPin)) (p1 : GPin) (L1 : Int -> Option (List GPin)) (v2 : Int) (v5 : Bool) : Option (List GPin) :=
 br v5
  (L1 (w64 (v2 + 1)))
  (jn (d_xbt_j3 p0 p1) v2)
def d_xbt_l1 (p0 : (List GPin)) (p1 : GPin) (L1 : Int -> Option (List GPin)) (v2 : Int) : Option (List GPin) :=
 br (decide (v2 < (↑p0.length : Int)))
  (bd (at? p0 v2) fun x3 =>
  bd (d_xbi x3 p1) fun x4 =>
  jn (d_xbt_j2 p0 p1 L1 v2) x4)
  (jn (d_xbt_j2 p0 p1 L1 v2) false)
def d_xbt (p0 : (List GPin)) (p1 : GPin) : Option (List GPin) :=
 loopN (d_xbt_l1 p0 p1) big 0
def gf_xbt : GF := y_xbt.gf rfl rfl (fun a => d_xbt a.1 a.2.1) (fun a => by kernel_rfl)
def y_xbu : YF := ⟨[], [.v (.st 6)], [], .ret [(.l (.st 5))], [.tmp 2],
 sq [qu 1 0, .as 2 (.k .nil), .nils [(.tmp 2 0, (.st 5))]] [1] (sq [.bslice 6 0 (.st 5) [], qa 3 6] [1, 3] (.seq (sw 7 [wk 1 1, wY gf_xbj rfl, wX] (Kp 522) (.cond 9 [3] [1, 3] (sq [qm 10 3, qa 2 10] [2] .ret) .skip)) (sr [wn 11 [wk 1 1, wY gf_xbh rfl],
 qn [qa 4 12]] [3, 4] (.join [cv 3 (.l (.st 5))] (sq [qK 5 0] (Kp 56) (bl 0 [cv 3 (.l (.st 5)), cv 5 .i] (.seq (sw 13 [wm 5, wm 4, wZ, wB .lss 13] (Kp 65592) (ce 16 (Kp 56) [3] 0)) (.seq (.block 1 (qr [wn 19 [wm 3, wm 4, wm 5, wE (.st 5) 20, wK 2, wc gf_xbt rfl [19, 23]],
 qn [qa 3 24]] (Kp 56))) (qr [wn 17 [wm 5, wI .add 1],
 qn [qa 5 18]] (Kp 56)))))) (sq [qm 25 3, qa 2 25] [2] .ret)))))⟩
def d_xbu_j2 (v9 : (List GPin)) : Option (List GPin) :=
 some v9
def d_xbu_l1 (x2 : (List GPin)) (L3 : ((List GPin) × Int) -> Option (List GPin)) (x_ : ((List GPin) × Int)) : Option (List GPin) :=
 match x_ with
 | (v4, v5) => br (decide (v5 < (↑(List.length x2) : Int)))
  (bd (at? x2 v5) fun x6 =>
  bd (at? x2 v5) fun x7 =>
  bd (d_xbt v4 x7) fun x8 =>
  L3 ((x8, w64 (v5 + 1))))
  (jn (d_xbu_j2) v4)
def d_xbu (p0 : GWheel) : Option (List GPin) :=
 bd (d_xbj p0) fun x1 =>
 br (!x1)
  (some [])
  (bd (d_xbh p0) fun x2 =>
  loopN (d_xbu_l1 x2) big ([], 0))
def gf_xbu : GF := y_xbu.gf rfl rfl (fun a => d_xbu a.1) (fun a => by kernel_rfl)
def y_xbv : YF := ⟨[], [.v (.l (.st 2)), .v .i], [], .ret [(.l (.st 5))], [.tmp 4],
 sq [.as 4 (.k .nil), .nils [(.tmp 4 0, (.st 5))]] [0, 1] (sq [.bslice 7 0 (.st 5) [], qa 5 7] (Kp 35) (.join [cv 5 (.l (.st 5))] (sq [qK 6 0] (Kp 99) (bl 0 [cv 5 (.l (.st 5)), cv 6 .i] (.seq (sw 8 [wm 6, wm 0, wZ, wB .lss 8] (Kp 2147) (ce 11 (Kp 99) [5] 0)) (.join [cv 5 (.l (.st 5))] (.block 1 (.join [cv 28 .b] (qr [wn 14 [wm 0, wm 6, wE (.st 2) 14, wO 7, wL, wI .eql 2, wM],
 wt 20 21 [wm 0, wm 6, wE (.st 2) 21, wO 1, wL, wm 1, wB .eql 25],
 qn [qq 28 20 27]] (Kp 268435555)) (.cond 28 [0, 1, 5, 6] (Kp 99) (.dreg (qd 0 [wn 29 [wm 5, wm 0, wm 6, wE (.st 2) 30, wO 8, wL, wm 0, wm 6, wE (.st 2) 35, wO 0, wL, wh (.build · [.int .i64 0, .int .i64 0] [(0, 1, (.tmp 34)), (1, 1, (.tmp 39))]), wc gf_xbt rfl [29, 40]],
 qn [qa 5 41]] .nil) [0, 1, 5, 6]) .skip))) (qr [wn 12 [wm 6, wI .add 1],
 qn [qa 6 13]] (Kp 99)))))) (sq [qm 42 5, qa 4 42] [4] .ret)))⟩
def d_xbv_j3 (L1 : ((List GPin) × Int) -> Option (List GPin)) (v3 : Int) (v10 : (List GPin)) : Option (List GPin) :=
 L1 ((v10, w64 (v3 + 1)))
def d_xbv_j2 (p0 : (List GParty)) (L1 : ((List GPin) × Int) -> Option (List GPin)) (v2 : (List GPin)) (v3 : Int) (v6 : Bool) : Option (List GPin) :=
 br v6
  (bd (at? p0 v3) fun x7 =>
  bd (at? p0 v3) fun x8 =>
  bd (d_xbt v2 (GPin.mk x7.Until x8.Id)) fun x9 =>
  jn (d_xbv_j3 L1 v3) x9)
  (jn (d_xbv_j3 L1 v3) v2)
def d_xbv_j4 (v11 : (List GPin)) : Option (List GPin) :=
 some v11
def d_xbv_l1 (p0 : (List GParty)) (p1 : Int) (L1 : ((List GPin) × Int) -> Option (List GPin)) (x_ : ((List GPin) × Int)) : Option (List GPin) :=
 match x_ with
 | (v2, v3) => br (decide (v3 < (↑p0.length : Int)))
  (bd (at? p0 v3) fun x4 =>
  br (x4.State == 2)
   (bd (at? p0 v3) fun x5 =>
   jn (d_xbv_j2 p0 L1 v2 v3) (x5.Cabin == p1))
   (jn (d_xbv_j2 p0 L1 v2 v3) false))
  (jn (d_xbv_j4) v2)
def d_xbv (p0 : (List GParty)) (p1 : Int) : Option (List GPin) :=
 loopN (d_xbv_l1 p0 p1) big ([], 0)
def gf_xbv : GF := y_xbv.gf rfl rfl (fun a => d_xbv a.1 a.2.1) (fun a => by kernel_rfl)
def y_xbw : YF := ⟨[], [.v (.l (.st 5)), .v (.l (.st 5))], [], .ret [.b], [.tmp 4],
 sq [qB 4 false] [0, 1] (.seq (sw 6 [wm 0, wZ, wm 1, wZ, wB .neq 7] (Kp 1027) (cn 10 [0, 1] (sq [qB 4 false] [4] .ret))) (.join [] (sq [qK 5 0] (Kp 35) (bl 0 [cv 5 .i] (.seq (sw 11 [wm 5, wm 0, wZ, wB .lss 11] (Kp 16419) (ce 14 (Kp 35) [] 0)) (.seq (.block 1 (.seq (.dreg (qd 0 [wn 17 [wm 0, wm 5, wE (.st 5) 17, wK 2, wm 1, wm 5, wE (.st 5) 21, wK 2, wh (.bin · (.agg [.i, .i]) .neq (.tmp 20) (.tmp 24))]] .nil) [0, 1, 5, 25]) (cn 25 (Kp 35) (sq [qB 4 false] [4] .ret)))) (qr [wn 15 [wm 5, wI .add 1],
 qn [qa 5 16]] (Kp 35)))))) (sq [qB 4 true] [4] .ret)))⟩
def d_xbw_j2 (_ : PUnit) : Option Bool :=
 some true
def d_xbw_l1 (p0 : (List GPin)) (p1 : (List GPin)) (L1 : Int -> Option Bool) (v2 : Int) : Option Bool :=
 br (decide (v2 < (↑p0.length : Int)))
  (bd (at? p0 v2) fun x3 =>
  bd (at? p1 v2) fun x4 =>
  br (!(x3.At == x4.At && (x3.Id == x4.Id && true)))
   (some false)
   (L1 (w64 (v2 + 1))))
  (jn (d_xbw_j2) ())
def d_xbw (p0 : (List GPin)) (p1 : (List GPin)) : Option Bool :=
 br ((↑p0.length : Int) != (↑p1.length : Int))
  (some false)
  (loopN (d_xbw_l1 p0 p1) big 0)
def gf_xbw : GF := y_xbw.gf rfl rfl (fun a => d_xbw a.1 a.2.1) (fun a => by kernel_rfl)
def y_xbx : YF := ⟨[], [.v (.l (.st 2)), .v .i], [], .ret [.i], [.tmp 4],
 sq [qK 4 0] [0, 1] (sq [qK 5 0] (Kp 35) (.join [cv 5 .i] (sq [qK 6 0] (Kp 99) (bl 0 [cv 5 .i, cv 6 .i] (.seq (sw 7 [wM, wm 0, wZ, wB .lss 7] (Kp 1123) (ce 10 (Kp 99) [5] 0)) (.join [cv 5 .i] (.block 1 (.join [cv 35 .b] (qr [wn 13 [wm 0, wm 6, wE (.st 2) 13, wO 7, wL, wI .eql 2, wM],
 wt 19 20 [wm 0, wm 6, wE (.st 2) 20, wO 1, wL, wm 1, wB .eql 24],
 wn 27 [wQ 19, wM],
 wt 28 29 [wm 0, wm 6, wE (.st 2) 29, wO 3, wL, wc gf_x7 rfl [33, qj 1, qj 6]],
 qn [qq 35 28 34]] [0, 1, 5, 6, 35]) (.cond 35 [0, 1, 5, 6] (Kp 99) (qr [wn 36 [wm 5, wm 0, wm 6, wE (.st 2) 37, wO 3, wL, wB .add 36],
 qn [qa 5 42]] (Kp 99)) .skip))) (qr [wn 11 [wm 6, wI .add 1],
 qn [qa 6 12]] (Kp 99)))))) (sq [qm 43 5, qa 4 43] [4] .ret)))⟩
def d_xbx_j3 (L1 : (Int × Int) -> Option Int) (v3 : Int) (v10 : Int) : Option Int :=
 L1 ((v10, w64 (v3 + 1)))
def d_xbx_j2 (p0 : (List GParty)) (L1 : (Int × Int) -> Option Int) (v2 : Int) (v3 : Int) (v8 : Bool) : Option Int :=
 br v8
  (bd (at? p0 v3) fun x9 =>
  jn (d_xbx_j3 L1 v3) (w64 (v2 + x9.Size)))
  (jn (d_xbx_j3 L1 v3) v2)
def d_xbx_j4 (v11 : Int) : Option Int :=
 some v11
def d_xbx_l1 (p0 : (List GParty)) (p1 : Int) (L1 : (Int × Int) -> Option Int) (x_ : (Int × Int)) : Option Int :=
 match x_ with
 | (v2, v3) => br (decide (v3 < (↑p0.length : Int)))
  (bd (at? p0 v3) fun x4 =>
  br (x4.State == 2)
   (bd (at? p0 v3) fun x5 =>
   br (x5.Cabin == p1)
    (bd (at? p0 v3) fun x6 =>
    bd (d_x7 x6.Size 1 6) fun x7 =>
    jn (d_xbx_j2 p0 L1 v2 v3) x7)
    (jn (d_xbx_j2 p0 L1 v2 v3) false))
   (jn (d_xbx_j2 p0 L1 v2 v3) false))
  (jn (d_xbx_j4) v2)
def d_xbx (p0 : (List GParty)) (p1 : Int) : Option Int :=
 loopN (d_xbx_l1 p0 p1) big (0, 0)
def gf_xbx : GF := y_xbx.gf rfl rfl (fun a => d_xbx a.1 a.2.1) (fun a => by kernel_rfl)
def y_xby : YF := ⟨[], [.v (.l (.st 2)), .v .i], [], .ret [.i], [.tmp 4],
 sq [qK 4 0] [0, 1] (sq [qK 5 0] (Kp 35) (.join [cv 5 .i] (sq [qK 6 0] (Kp 99) (bl 0 [cv 5 .i, cv 6 .i] (.seq (sw 7 [wM, wm 0, wZ, wB .lss 7] (Kp 1123) (ce 10 (Kp 99) [5] 0)) (.join [cv 5 .i] (.block 1 (.join [cv 27 .b] (qr [wn 13 [wm 0, wm 6, wE (.st 2) 13, wO 2, wL, wm 1, wB .eql 17, wM],
 wt 20 21 [wm 0, wm 6, wE (.st 2) 21, wO 3, wL, wc gf_x7 rfl [25, qj 1, qj 6]],
 qn [qq 27 20 26]] (Kp 134217827)) (.cond 27 [0, 1, 5, 6] (Kp 99) (qr [wn 28 [wm 5, wm 0, wm 6, wE (.st 2) 29, wO 3, wL, wB .add 28],
 qn [qa 5 34]] (Kp 99)) .skip))) (qr [wn 11 [wm 6, wI .add 1],
 qn [qa 6 12]] (Kp 99)))))) (sq [qm 35 5, qa 4 35] [4] .ret)))⟩
def d_xby_j3 (L1 : (Int × Int) -> Option Int) (v3 : Int) (v9 : Int) : Option Int :=
 L1 ((v9, w64 (v3 + 1)))
def d_xby_j2 (p0 : (List GParty)) (L1 : (Int × Int) -> Option Int) (v2 : Int) (v3 : Int) (v7 : Bool) : Option Int :=
 br v7
  (bd (at? p0 v3) fun x8 =>
  jn (d_xby_j3 L1 v3) (w64 (v2 + x8.Size)))
  (jn (d_xby_j3 L1 v3) v2)
def d_xby_j4 (v10 : Int) : Option Int :=
 some v10
def d_xby_l1 (p0 : (List GParty)) (p1 : Int) (L1 : (Int × Int) -> Option Int) (x_ : (Int × Int)) : Option Int :=
 match x_ with
 | (v2, v3) => br (decide (v3 < (↑p0.length : Int)))
  (bd (at? p0 v3) fun x4 =>
  br (x4.From == p1)
   (bd (at? p0 v3) fun x5 =>
   bd (d_x7 x5.Size 1 6) fun x6 =>
   jn (d_xby_j2 p0 L1 v2 v3) x6)
   (jn (d_xby_j2 p0 L1 v2 v3) false))
  (jn (d_xby_j4) v2)
def d_xby (p0 : (List GParty)) (p1 : Int) : Option Int :=
 loopN (d_xby_l1 p0 p1) big (0, 0)
def gf_xby : GF := y_xby.gf rfl rfl (fun a => d_xby a.1 a.2.1) (fun a => by kernel_rfl)
def y_xbz : YF := ⟨[], [.v (.st 1), .v (.st 7), .v (.l (.st 2)), .v .i, .v .i], [], .ret [.b], [.tmp 10],
 sq [qu 5 0, qu 6 1, qB 10 false] (Kp 124) (.join [cv 10 .b] (.dreg (qd 0 [wn 11 [wk 7 6, wY gf_xbk rfl, wM],
 wt 13 14 [wo 5 6, wL, wk 9 5, wm 2, wm 3, wm 4]] (.op 9 (some (13, true)) [14] (.call 20 gf_xbr [] rfl [(.tmp 16), (.tmp 17), (.tmp 18), (.tmp 19)])
 (qd 10 [qt 13 [qc 21 gf_xbs rfl [15, 20]],
 wn 22 [wQ 13, wM],
 wt 23 24 [wo 6 6, wK 1]] (qd 16 [wt 23 27 [wm 2, wm 3]] (.op 15 (some (23, true)) [] (.call 26 gf_xbu [] rfl [(.tmp 25)])
 (qd 18 [wt 23 29 [wc gf_xbv rfl [27, 28], wc gf_xbw rfl [26, 29]],
 wn 31 [wQ 23, wM],
 wt 32 33 [wo 0 6, wO 2, wL, wm 2, wm 3]] (.op 27 (some (32, true)) [34] (.call 38 gf_xbx [] rfl [(.tmp 36), (.tmp 37)])
 (qd 28 [qt 32 [qb 39 .eql 35 38],
 wn 40 [wQ 32, wM],
 wt 41 42 [wo 0 6, wO 4, wL, wm 2, wm 3]] (.op 36 (some (41, true)) [43] (.call 47 gf_xby [] rfl [(.tmp 45), (.tmp 46)])
 (qd 37 [qt 41 [qb 48 .eql 44 47],
 qn [qq 49 41 48, qa 10 49]] .nil)))))))))) [10]) .ret)⟩
def d_xbz_j1 (v9 : Bool) : Option Bool :=
 some v9
def d_xbz (p0 : GRules) (p1 : GCabin) (p2 : (List GParty)) (p3 : Int) (p4 : Int) : Option Bool :=
 bd (d_xbk p1) fun x1 =>
 br x1
  (bd (d_xbr p0 p2 p3 p4) fun x2 =>
  bd (d_xbs p1.Row x2) fun x3 =>
  br x3
   (bd (d_xbu p1.Wheel) fun x4 =>
   bd (d_xbv p2 p3) fun x5 =>
   bd (d_xbw x4 x5) fun x6 =>
   br x6
    (bd (d_xbx p2 p3) fun x7 =>
    br (p1.Seats.Held == x7)
     (bd (d_xby p2 p3) fun x8 =>
     jn (d_xbz_j1) (p1.Seats.Tied == x8))
     (jn (d_xbz_j1) false))
    (jn (d_xbz_j1) false))
   (jn (d_xbz_j1) false))
  (jn (d_xbz_j1) false)
def gf_xbz : GF := y_xbz.gf rfl rfl (fun a => d_xbz a.1 a.2.1 a.2.2.1 a.2.2.2.1 a.2.2.2.2.1) (fun a => by kernel_rfl)
def y_xb0 : YF := ⟨[], [.v (.l (.st 2)), .v .i], [], .ret [.i], [.tmp 4],
 sq [qK 4 0] [0, 1] (sq [qK 5 0] (Kp 35) (.join [cv 5 .i] (sq [qK 6 0] (Kp 99) (bl 0 [cv 5 .i, cv 6 .i] (.seq (sw 7 [wM, wm 0, wZ, wB .lss 7] (Kp 1123) (ce 10 (Kp 99) [5] 0)) (.join [cv 5 .i] (.block 1 (sw 13 [wm 0, wm 6, wE (.st 2) 13, wO 1, wL, wm 1, wB .eql 17] (Kp 524387) (.cond 19 [0, 1, 5, 6] (Kp 99) (qr [wn 20 [wm 5, wI .add 1],
 qn [qa 5 21]] (Kp 99)) .skip))) (qr [wn 11 [wm 6, wI .add 1],
 qn [qa 6 12]] (Kp 99)))))) (sq [qm 22 5, qa 4 22] [4] .ret)))⟩
def d_xb0_j2 (L1 : (Int × Int) -> Option Int) (v3 : Int) (v5 : Int) : Option Int :=
 L1 ((v5, w64 (v3 + 1)))
def d_xb0_j3 (v6 : Int) : Option Int :=
 some v6
def d_xb0_l1 (p0 : (List GParty)) (p1 : Int) (L1 : (Int × Int) -> Option Int) (x_ : (Int × Int)) : Option Int :=
 match x_ with
 | (v2, v3) => br (decide (v3 < (↑p0.length : Int)))
  (bd (at? p0 v3) fun x4 =>
  br (x4.Cabin == p1)
   (jn (d_xb0_j2 L1 v3) (w64 (v2 + 1)))
   (jn (d_xb0_j2 L1 v3) v2))
  (jn (d_xb0_j3) v2)
def d_xb0 (p0 : (List GParty)) (p1 : Int) : Option Int :=
 loopN (d_xb0_l1 p0 p1) big (0, 0)
def gf_xb0 : GF := y_xb0.gf rfl rfl (fun a => d_xb0 a.1 a.2.1) (fun a => by kernel_rfl)
def y_xb1 : YF := ⟨[], [.v (.st 8)], [], .ret [.b], [.tmp 2],
 sq [qu 1 0, qB 2 false] [1] (.seq (.join [cv 35 .b] (qr [wn 4 [wo 0 1, wK 9, wY gf_x8 rfl, wX, wM],
 wf 8 9 [wo 9 1, wL, wc gf_x7 rfl [10, qj 0, qj 1000000], wX],
 wn 13 [wR 8, wM],
 wf 14 15 [wo 10 1, wL, wc gf_x7 rfl [16, qj 1, qj 1000001], wX],
 wn 19 [wR 14, wM],
 wf 20 21 [wo 11 1, wL, wZ, wI .gtr 40],
 wn 25 [wR 20, wM],
 wf 26 27 [wo 12 1, wL, wZ, wo 0 1, wO 0, wL, wZ, wB .neq 29],
 qn [qp 35 26 34]] [1, 35]) (cn 35 [1] (sq [qB 2 false] [2] .ret))) (.seq (.join [cv 43 .b] (qr [wn 36 [wk 15 1, wY gf_xba rfl, wX, wM],
 wf 39 40 [wk 15 1, wY gf_xbc rfl, wX],
 qn [qp 43 39 42]] [1, 43]) (cn 43 [1] (sq [qB 2 false] [2] .ret))) (.join [] (sq [qK 3 0] [1, 3] (bl 0 [cv 3 .i] (.seq (sw 44 [wm 3, wo 12 1, wL, wZ, wB .lss 44] [1, 3, 48] (ce 48 [1, 3] [] 0)) (.seq (.block 1 (.join [cv 90 .b] (.dreg (qd 0 [wn 51 [wo 12 1, wL, wm 3, wE (.st 7) 52, wO 0, wO 0, wL, wo 0 1, wO 0, wL, wm 3, wE .i 60, wL, wB .neq 57, wM],
 wf 65 66 [wo 0 1, wK 9, wo 12 1, wL, wm 3, wE (.st 7) 69, wK 7, wo 11 1, wL, wm 3, wo 9 1, wL, wc gf_xbz rfl [67, 72, 74, 75, 77], wX],
 wn 80 [wR 65, wM],
 wf 81 82 [wo 11 1, wL, wm 3]] (qd 35 [wf 81 86 [wo 0 1, wO 2, wL]] (.op 34 (some (81, false)) [87] (.call 85 gf_xb0 [] rfl [(.tmp 83), (.tmp 84)])
 (qd 38 [qf 81 [qb 89 .gtr 85 88],
 qn [qp 90 81 89]] .nil)))) [1, 3, 90]) (cn 90 [1, 3] (sq [qB 2 false] [2] .ret)))) (qr [wn 49 [wm 3, wI .add 1],
 qn [qa 3 50]] [1, 3]))))) (sq [qB 2 true] [2] .ret))))⟩
def d_xb1_j4 (L5 : Int -> Option Bool) (v6 : Int) (v9 : Bool) : Option Bool :=
 br v9
  (some false)
  (L5 (w64 (v6 + 1)))
def d_xb1_j5 (_ : PUnit) : Option Bool :=
 some true
def d_xb1_l3 (p0 : GHouse) (L5 : Int -> Option Bool) (v6 : Int) : Option Bool :=
 br (decide (v6 < (↑p0.Cabins.length : Int)))
  (bd (at? p0.Cabins v6) fun x7 =>
  bd (at? p0.Rules.Seats v6) fun x8 =>
  br (x7.Seats.Total != x8)
   (jn (d_xb1_j4 L5 v6) true)
   (bd (at? p0.Cabins v6) fun x10 =>
   bd (d_xbz p0.Rules x10 p0.Parties v6 p0.Now) fun x11 =>
   br (!x11)
    (jn (d_xb1_j4 L5 v6) true)
    (bd (d_xb0 p0.Parties v6) fun x12 =>
    jn (d_xb1_j4 L5 v6) (decide (x12 > p0.Rules.Room)))))
  (jn (d_xb1_j5) ())
def d_xb1_j2 (p0 : GHouse) (v4 : Bool) : Option Bool :=
 br v4
  (some false)
  (loopN (d_xb1_l3 p0) big 0)
def d_xb1_j1 (p0 : GHouse) (v2 : Bool) : Option Bool :=
 br v2
  (some false)
  (bd (d_xba p0) fun x3 =>
  br (!x3)
   (jn (d_xb1_j2 p0) true)
   (bd (d_xbc p0) fun x13 =>
   jn (d_xb1_j2 p0) (!x13)))
def d_xb1 (p0 : GHouse) : Option Bool :=
 bd (d_x8 p0.Rules) fun x1 =>
 br (!x1)
  (jn (d_xb1_j1 p0) true)
  (bd (d_x7 p0.Now 0 1000000) fun x14 =>
  br (!x14)
   (jn (d_xb1_j1 p0) true)
   (bd (d_x7 p0.Turn 1 1000001) fun x15 =>
   br (!x15)
    (jn (d_xb1_j1 p0) true)
    (br (decide ((↑p0.Parties.length : Int) > 40))
     (jn (d_xb1_j1 p0) true)
     (jn (d_xb1_j1 p0) ((↑p0.Cabins.length : Int) != (↑p0.Rules.Seats.length : Int))))))
def gf_xb1 : GF := y_xb1.gf rfl rfl (fun a => d_xb1 a.1) (fun a => by kernel_rfl)
def y_xb2 : YF := ⟨[], [.v (.st 9)], [], .ret [.b], [.tmp 2],
 sq [qu 1 0, qB 2 false] [1] (.join [cv 2 .b] (qr [wn 3 [wo 0 1, wL, wh (.lens · (.tmp 4)), wI .leq 20000, wM],
 wt 7 8 [wo 1 1, wL, wo 0 1, wL, wh (.lens · (.tmp 11)), wc gf_x7 rfl [9, qj 0, 12]],
 qn [qq 14 7 13, qa 2 14]] [2]) .ret)⟩
def d_xb2_j1 (v2 : Bool) : Option Bool :=
 some v2
def d_xb2 (p0 : GArea) : Option Bool :=
 br (decide ((↑p0.Data.length : Int) <= 20000))
  (bd (d_x7 p0.Safe 0 (↑p0.Data.length : Int)) fun x1 =>
  jn (d_xb2_j1) x1)
  (jn (d_xb2_j1) false)
def gf_xb2 : GF := y_xb2.gf rfl rfl (fun a => d_xb2 a.1) (fun a => by kernel_rfl)
def y_xb3 : YF := ⟨[], [.v (.st 10)], [], .ret [.b], [.tmp 2],
 sq [qu 1 0, qB 2 false] [1] (.join [cv 2 .b] (qr [wn 3 [wo 0 1, wK 2, wY gf_xb2 rfl, wM],
 wt 6 7 [wo 2 1, wK 2, wY gf_xb2 rfl],
 wn 10 [wQ 6, wM],
 wt 11 12 [wo 4 1, wK 2, wY gf_xb2 rfl],
 qn [qq 15 11 14, qa 2 15]] [2]) .ret)⟩
def d_xb3_j1 (v4 : Bool) : Option Bool :=
 some v4
def d_xb3 (p0 : GStore) : Option Bool :=
 bd (d_xb2 p0.Log) fun x1 =>
 br x1
  (bd (d_xb2 p0.Even) fun x2 =>
  br x2
   (bd (d_xb2 p0.Odd) fun x3 =>
   jn (d_xb3_j1) x3)
   (jn (d_xb3_j1) false))
  (jn (d_xb3_j1) false)
def gf_xb3 : GF := y_xb3.gf rfl rfl (fun a => d_xb3 a.1) (fun a => by kernel_rfl)
def y_xb4 : YF := ⟨[], [.v .i], [], .ret [.b], [.tmp 2],
 sq [qB 2 false] [0] (sr [wn 3 [wm 0, wc gf_x7 rfl [3, qj 0, qj 9999]],
 qn [qa 2 4]] [2] .ret)⟩
def d_xb4 (p0 : Int) : Option Bool :=
 bd (d_x7 p0 0 9999) fun x1 =>
 some x1
def gf_xb4 : GF := y_xb4.gf rfl rfl (fun a => d_xb4 a.1) (fun a => by kernel_rfl)
def y_xb5 : YF := ⟨[], [.v (.st 0)], [], .ret [.b], [.tmp 2],
 sq [qu 1 0, qB 2 false] [1] (.seq (sw 3 [wo 0 1, wL] [1, 4] (.block 0 (sq [qi 6 .eql 4 1, qa 5 6] (Kp 50) (.cond 5 [1] [1, 4] (.join [cv 2 .b] (qr [wn 7 [wo 1 1, wL, wY gf_xb4 rfl, wM],
 wt 10 11 [wo 2 1, wL, wY gf_xb4 rfl],
 wn 14 [wQ 10, wM],
 wt 15 16 [wo 3 1, wL, wc gf_x7 rfl [17, qj (-1), qj 9999]],
 wn 19 [wQ 15, wM],
 wt 20 21 [wo 4 1, wL, wY gf_xb4 rfl],
 wn 24 [wQ 20, wM],
 wt 25 26 [wo 5 1, wL, wY gf_xb4 rfl],
 qn [qq 29 25 28, qa 2 29]] [2]) .ret) (.join [cv 30 .b] (sq [qi 31 .eql 4 2, qa 30 31] [1, 4, 30] (.cond 30 [1, 4, 30] [1, 4] .skip (sq [qi 32 .eql 4 4, qa 30 32] [1, 4, 30] (.cond 30 [1, 4, 30] [1, 4] .skip (sq [qi 33 .eql 4 5, qa 30 33] [1, 4, 30] (.cond 30 [1, 4, 30] [1, 4] .skip (q1 [qi 34 .eql 4 7, qa 30 34] [1, 4, 30]))))))) (.cond 30 [1] [1, 4] (.join [cv 2 .b] (qr [wn 35 [wo 1 1, wL, wY gf_xb4 rfl, wM],
 wt 38 39 [wk 6 1, wo 0 1, wL, wo 1 1, wL, wh (.build · zGReq [(0, 1, (.tmp 41)), (1, 1, (.tmp 43))]), wh (.bin · (.agg [.i, .i, .i, .i, .i, .i]) .eql (.tmp 39) (.tmp 44))],
 qn [qq 46 38 45, qa 2 46]] [2]) .ret) (sq [qi 48 .eql 4 3, qa 47 48] [1, 4, 47] (.cond 47 [1] [1, 4] (.join [cv 2 .b] (qr [wn 49 [wo 2 1, wL, wY gf_xb4 rfl, wM],
 wt 52 53 [wo 4 1, wL, wY gf_xb4 rfl],
 wn 56 [wQ 52, wM],
 wt 57 58 [wk 6 1, wo 0 1, wL, wo 2 1, wL, wo 4 1, wL, wh (.build · zGReq [(0, 1, (.tmp 60)), (2, 1, (.tmp 62)), (4, 1, (.tmp 64))]), wh (.bin · (.agg [.i, .i, .i, .i, .i, .i]) .eql (.tmp 58) (.tmp 65))],
 qn [qq 67 57 66, qa 2 67]] [2]) .ret) (sq [qi 69 .eql 4 6, qa 68 69] [1, 68] (.cond 68 [1] [] (sr [wn 70 [wk 6 1, wo 0 1, wL, wh (.build · zGReq [(0, 1, (.tmp 72))]), wh (.bin · (.agg [.i, .i, .i, .i, .i, .i]) .eql (.tmp 70) (.tmp 73))],
 qn [qa 2 74]] [2] .ret) .skip)))))))))) (sq [qB 2 false] [2] .ret))⟩
def d_xb5_j1 (v6 : Bool) : Option Bool :=
 some v6
def d_xb5_j2 (p0 : GReq) (v7 : Bool) : Option Bool :=
 br v7
  (bd (d_xb4 p0.Id) fun x8 =>
  br x8
   (jn (d_xb5_j1) (p0.Kind == p0.Kind && (p0.Id == p0.Id && (p0.Cabin == 0 && (p0.From == 0 && (p0.Size == 0 && (p0.Tier == 0 && true)))))))
   (jn (d_xb5_j1) false))
  (br (p0.Kind == 3)
   (bd (d_xb4 p0.Cabin) fun x9 =>
   br x9
    (bd (d_xb4 p0.Size) fun x10 =>
    br x10
     (jn (d_xb5_j1) (p0.Kind == p0.Kind && (p0.Id == 0 && (p0.Cabin == p0.Cabin && (p0.From == 0 && (p0.Size == p0.Size && (p0.Tier == 0 && true)))))))
     (jn (d_xb5_j1) false))
    (jn (d_xb5_j1) false))
   (br (p0.Kind == 6)
    (some (p0.Kind == p0.Kind && (p0.Id == 0 && (p0.Cabin == 0 && (p0.From == 0 && (p0.Size == 0 && (p0.Tier == 0 && true)))))))
    (some false)))
def d_xb5 (p0 : GReq) : Option Bool :=
 br (p0.Kind == 1)
  (bd (d_xb4 p0.Id) fun x1 =>
  br x1
   (bd (d_xb4 p0.Cabin) fun x2 =>
   br x2
    (bd (d_x7 p0.From (-1) 9999) fun x3 =>
    br x3
     (bd (d_xb4 p0.Size) fun x4 =>
     br x4
      (bd (d_xb4 p0.Tier) fun x5 =>
      jn (d_xb5_j1) x5)
      (jn (d_xb5_j1) false))
     (jn (d_xb5_j1) false))
    (jn (d_xb5_j1) false))
   (jn (d_xb5_j1) false))
  (br (p0.Kind == 2)
   (jn (d_xb5_j2 p0) (p0.Kind == 2))
   (br (p0.Kind == 4)
    (jn (d_xb5_j2 p0) (p0.Kind == 4))
    (br (p0.Kind == 5)
     (jn (d_xb5_j2 p0) (p0.Kind == 5))
     (jn (d_xb5_j2 p0) (p0.Kind == 7)))))
def gf_xb5 : GF := y_xb5.gf rfl rfl (fun a => d_xb5 a.1) (fun a => by kernel_rfl)
def y_xb6 : YF := ⟨[], [.v (.st 11)], [], .ret [.b], [.tmp 2],
 sq [qu 1 0, qB 2 false] [1] (.seq (.join [cv 28 .b] (qr [wn 4 [wo 0 1, wK 15, wY gf_xb1 rfl, wX, wM],
 wf 8 9 [wo 15 1, wK 6, wY gf_xb3 rfl, wX],
 wn 13 [wR 8, wM],
 wf 14 15 [wo 22 1, wL, wZ, wI .gtr 8],
 wn 19 [wR 14, wM],
 wf 20 21 [wo 21 1, wL, wo 22 1, wL, wZ, wc gf_x7 rfl [22, 25, qj 1000000], wX],
 qn [qp 28 20 27]] [1, 28]) (cn 28 [1] (sq [qB 2 false] [2] .ret))) (.join [] (sq [qK 3 0] [1, 3] (bl 0 [cv 3 .i] (.seq (sw 29 [wm 3, wo 22 1, wL, wZ, wB .lss 29] [1, 3, 33] (ce 33 [1, 3] [] 0)) (.seq (.block 1 (sw 36 [wo 22 1, wL, wm 3, wE (.st 0) 37, wK 6, wY gf_xb5 rfl, wX] [1, 3, 42] (cn 42 [1, 3] (sq [qB 2 false] [2] .ret)))) (qr [wn 34 [wm 3, wI .add 1],
 qn [qa 3 35]] [1, 3]))))) (sq [qB 2 true] [2] .ret)))⟩
def d_xb6_j3 (_ : PUnit) : Option Bool :=
 some true
def d_xb6_l2 (p0 : GEngine) (L3 : Int -> Option Bool) (v4 : Int) : Option Bool :=
 br (decide (v4 < (↑p0.Laid.length : Int)))
  (bd (at? p0.Laid v4) fun x5 =>
  bd (d_xb5 x5) fun x6 =>
  br (!x6)
   (some false)
   (L3 (w64 (v4 + 1))))
  (jn (d_xb6_j3) ())
def d_xb6_j1 (p0 : GEngine) (v2 : Bool) : Option Bool :=
 br v2
  (some false)
  (loopN (d_xb6_l2 p0) big 0)
def d_xb6 (p0 : GEngine) : Option Bool :=
 bd (d_xb1 p0.House) fun x1 =>
 br (!x1)
  (jn (d_xb6_j1 p0) true)
  (bd (d_xb3 p0.Store) fun x7 =>
  br (!x7)
   (jn (d_xb6_j1 p0) true)
   (br (decide ((↑p0.Laid.length : Int) > 8))
    (jn (d_xb6_j1 p0) true)
    (bd (d_x7 p0.Seq (↑p0.Laid.length : Int) 1000000) fun x8 =>
    jn (d_xb6_j1 p0) (!x8))))
def gf_xb6 : GF := y_xb6.gf rfl rfl (fun a => d_xb6 a.1) (fun a => by kernel_rfl)
def y_xb7 : YF := ⟨[], [.v .i, .v .i, .v .i], [], .ret [.b], [.tmp 6],
 sq [qB 6 false] (Kp 7) (.join [cv 6 .b] (qr [wn 7 [wm 0, wm 1, wB .geq 7, wM],
 wt 10 11 [wm 0, wm 2, wB .leq 11],
 qn [qq 14 10 13, qa 6 14]] [6]) .ret)⟩
def d_xb7_j1 (v1 : Bool) : Option Bool :=
 some v1
def d_xb7 (p0 : Int) (p1 : Int) (p2 : Int) : Option Bool :=
 br (decide (p0 >= p1))
  (jn (d_xb7_j1) (decide (p0 <= p2)))
  (jn (d_xb7_j1) false)
def gf_xb7 : GF := y_xb7.gf rfl rfl (fun a => d_xb7 a.1 a.2.1 a.2.2.1) (fun a => by kernel_rfl)
def y_xb8 : YF := ⟨[], [.v (.st 1)], [], .ret [.b], [.tmp 2],
 sq [qu 1 0, qB 2 false] [1] (.seq (sw 5 [wo 0 1, wL, wZ, wc gf_xb7 rfl [7, qj 1, qj 4], wX] [1, 9] (cn 9 [1] (sq [qB 2 false] [2] .ret))) (.join [] (sw 10 [wo 0 1, wL, wZ, wj 0] (Kp 14338) (bl 0 [cv 13 .i] (sq [qb 14 .lss 13 12] (Kp 30722) (.seq (ce 14 (Kp 14338) [1] 0) (.seq (.block 1 (sr [wn 15 [we .i 11 13, wL],
 qn [qa 4 16]] (Kp 14354) (sw 17 [wm 4, wc gf_xb7 rfl [17, qj 1, qj 60], wX] (Kp 538626) (cn 19 (Kp 14338) (sq [qB 2 false] [2] .ret))))) (q1 [qi 20 .add 13 1, qm 13 20] (Kp 14338))))))) (.join [cv 2 .b] (qr [wn 21 [wo 1 1, wL, wc gf_xb7 rfl [22, qj 1, qj 5], wM],
 wt 24 25 [wo 2 1, wL, wc gf_xb7 rfl [26, qj 1, qj 10]],
 wn 28 [wQ 24, wM],
 wt 29 30 [wo 3 1, wL, wc gf_xb7 rfl [31, qj 1, qj 6]],
 wn 33 [wQ 29, wM],
 wt 34 35 [wo 4 1, wL, wc gf_xb7 rfl [36, qj 1, qj 12]],
 wn 38 [wQ 34, wM],
 wt 39 40 [wo 5 1, wL, wc gf_xb7 rfl [41, qj 1, qj 8]],
 wn 43 [wQ 39, wM],
 wt 44 45 [wo 7 1, wL, wc gf_xb7 rfl [46, qj 1, qj 4]],
 wn 48 [wQ 44, wM],
 wt 49 50 [wo 8 1, wL, wc gf_xb7 rfl [51, qj 1, qj 3]],
 wn 53 [wQ 49, wM],
 wt 54 55 [wo 6 1, wL, wc gf_xb7 rfl [56, qj 0, qj 8]],
 qn [qq 58 54 57, qa 2 58]] [2]) .ret)))⟩
def d_xb8_j3 (v14 : Bool) : Option Bool :=
 some v14
def d_xb8_j2 (p0 : GRules) (_ : PUnit) : Option Bool :=
 bd (d_xb7 p0.Tiers 1 5) fun x6 =>
 br x6
  (bd (d_xb7 p0.Room 1 10) fun x7 =>
  br x7
   (bd (d_xb7 p0.Size 1 6) fun x8 =>
   br x8
    (bd (d_xb7 p0.Period 1 12) fun x9 =>
    br x9
     (bd (d_xb7 p0.Window 1 8) fun x10 =>
     br x10
      (bd (d_xb7 p0.Tries 1 4) fun x11 =>
      br x11
       (bd (d_xb7 p0.Crew 1 3) fun x12 =>
       br x12
        (bd (d_xb7 p0.Rest 0 8) fun x13 =>
        jn (d_xb8_j3) x13)
        (jn (d_xb8_j3) false))
       (jn (d_xb8_j3) false))
      (jn (d_xb8_j3) false))
     (jn (d_xb8_j3) false))
    (jn (d_xb8_j3) false))
   (jn (d_xb8_j3) false))
  (jn (d_xb8_j3) false)
def d_xb8_l1 (p0 : GRules) (L2 : Int -> Option Bool) (v3 : Int) : Option Bool :=
 br (decide (v3 < (↑p0.Seats.length : Int)))
  (bd (at? p0.Seats v3) fun x4 =>
  bd (d_xb7 x4 1 60) fun x5 =>
  br (!x5)
   (some false)
   (L2 (w64 (v3 + 1))))
  (jn (d_xb8_j2 p0) ())
def d_xb8 (p0 : GRules) : Option Bool :=
 bd (d_xb7 (↑p0.Seats.length : Int) 1 4) fun x1 =>
 br (!x1)
  (some false)
  (loopN (d_xb8_l1 p0) big 0)
def gf_xb8 : GF := y_xb8.gf rfl rfl (fun a => d_xb8 a.1) (fun a => by kernel_rfl)
def y_xb9 : YF := ⟨[], [.v .i, .v .i], [], .ret [.b], [.tmp 4],
 sq [qB 4 false] [0, 1] (sr [wn 5 [wm 0, wm 1, wI .sub 1, wc gf_xb7 rfl [5, qj 0, 7]],
 qn [qa 4 8]] [4] .ret)⟩
def d_xb9 (p0 : Int) (p1 : Int) : Option Bool :=
 bd (d_xb7 p0 0 (w64 (p1 - 1))) fun x1 =>
 some x1
def gf_xb9 : GF := y_xb9.gf rfl rfl (fun a => d_xb9 a.1 a.2.1) (fun a => by kernel_rfl)
def y_xca : YF := ⟨[], [.v (.st 1), .v (.st 2), .v .i], [], .ret [.b], [.tmp 6],
 sq [qu 3 0, qu 4 1, qB 6 false] (Kp 28) (.seq (.join [cv 46 .b] (qr [wn 7 [wk 9 3, wY gf_xb8 rfl, wX, wM],
 wf 10 11 [wm 2, wc gf_xb7 rfl [11, qj 0, qj 1000000], wX],
 wn 14 [wR 10, wM],
 wf 15 16 [wo 0 4, wL, wc gf_xb7 rfl [17, qj 1, qj 999], wX],
 wn 20 [wR 15, wM],
 wf 21 22 [wo 1 4, wL, wo 0 3, wL, wZ, wc gf_xb9 rfl [23, 26], wX],
 wn 29 [wR 21, wM],
 wf 30 31 [wo 2 4, wL, wo 0 3, wL, wZ, wI .sub 1, wc gf_xb7 rfl [32, qj (-1), 36], wX],
 wn 39 [wR 30, wM],
 wf 40 41 [wo 2 4, wL, wo 1 4, wL, wB .eql 42],
 qn [qp 46 40 45]] [2, 3, 4, 46]) (cn 46 (Kp 28) (sq [qB 6 false] [6] .ret))) (.seq (.join [cv 81 .b] (qr [wn 47 [wo 3 4, wL, wo 3 3, wL, wc gf_xb7 rfl [48, qj 1, 50], wX, wM],
 wf 53 54 [wo 4 4, wL, wo 1 3, wL, wc gf_xb9 rfl [55, 57], wX],
 wn 60 [wR 53, wM],
 wf 61 62 [wo 5 4, wL, wm 2, wc gf_xb7 rfl [63, qj 0, 64], wX],
 wn 67 [wR 61, wM],
 wf 68 69 [wo 6 4, wL, wc gf_xb7 rfl [70, qj 1, qj 1000000], wX],
 wn 73 [wR 68, wM],
 wf 74 75 [wo 9 4, wL, wo 7 3, wL, wc gf_xb9 rfl [76, 78], wX],
 qn [qp 81 74 80]] [2, 3, 4, 81]) (cn 81 (Kp 28) (sq [qB 6 false] [6] .ret))) (.join [cv 6 .b] (qr [wn 82 [wo 7 4, wL, wI .eql 1, wM],
 wt 85 86 [wo 8 4, wL, wm 2, wo 6 3, wL, wB .add 88, wc gf_xb7 rfl [87, qj 0, 91]],
 wn 93 [wQ 85, wM],
 wf 94 95 [wo 7 4, wL, wI .eql 2, wM],
 wt 98 99 [wo 8 4, wL, wm 2, wo 5 3, wL, wB .add 101, wc gf_xb7 rfl [100, qj 1, 104]],
 qf 94 [qq 106 98 105],
 qn [qp 107 94 106, qa 6 107]] [6]) .ret)))⟩
def d_xca_j3 (v6 : Bool) : Option Bool :=
 some v6
def d_xca_j2 (p0 : GRules) (p1 : GParty) (p2 : Int) (v4 : Bool) : Option Bool :=
 br v4
  (some false)
  (br (p1.State == 1)
   (bd (d_xb7 p1.Until 0 (w64 (p2 + p0.Rest))) fun x5 =>
   br x5
    (jn (d_xca_j3) true)
    (br (p1.State == 2)
     (bd (d_xb7 p1.Until 1 (w64 (p2 + p0.Window))) fun x7 =>
     jn (d_xca_j3) x7)
     (jn (d_xca_j3) false)))
   (br (p1.State == 2)
    (bd (d_xb7 p1.Until 1 (w64 (p2 + p0.Window))) fun x8 =>
    jn (d_xca_j3) x8)
    (jn (d_xca_j3) false)))
def d_xca_j1 (p0 : GRules) (p1 : GParty) (p2 : Int) (v2 : Bool) : Option Bool :=
 br v2
  (some false)
  (bd (d_xb7 p1.Size 1 p0.Size) fun x3 =>
  br (!x3)
   (jn (d_xca_j2 p0 p1 p2) true)
   (bd (d_xb9 p1.Tier p0.Tiers) fun x9 =>
   br (!x9)
    (jn (d_xca_j2 p0 p1 p2) true)
    (bd (d_xb7 p1.Since 0 p2) fun x10 =>
    br (!x10)
     (jn (d_xca_j2 p0 p1 p2) true)
     (bd (d_xb7 p1.Turn 1 1000000) fun x11 =>
     br (!x11)
      (jn (d_xca_j2 p0 p1 p2) true)
      (bd (d_xb9 p1.Asked p0.Tries) fun x12 =>
      jn (d_xca_j2 p0 p1 p2) (!x12))))))
def d_xca (p0 : GRules) (p1 : GParty) (p2 : Int) : Option Bool :=
 bd (d_xb8 p0) fun x1 =>
 br (!x1)
  (jn (d_xca_j1 p0 p1 p2) true)
  (bd (d_xb7 p2 0 1000000) fun x13 =>
  br (!x13)
   (jn (d_xca_j1 p0 p1 p2) true)
   (bd (d_xb7 p1.Id 1 999) fun x14 =>
   br (!x14)
    (jn (d_xca_j1 p0 p1 p2) true)
    (bd (d_xb9 p1.Cabin (↑p0.Seats.length : Int)) fun x15 =>
    br (!x15)
     (jn (d_xca_j1 p0 p1 p2) true)
     (bd (d_xb7 p1.From (-1) (w64 ((↑p0.Seats.length : Int) - 1))) fun x16 =>
     br (!x16)
      (jn (d_xca_j1 p0 p1 p2) true)
      (jn (d_xca_j1 p0 p1 p2) (p1.From == p1.Cabin))))))
def gf_xca : GF := y_xca.gf rfl rfl (fun a => d_xca a.1 a.2.1 a.2.2.1) (fun a => by kernel_rfl)
def y_xcb : YF := ⟨[], [.v (.l (.st 2)), .v .i], [], .ret [.i], [.tmp 4],
 sq [qK 4 0] [0, 1] (sq [qK 5 0] (Kp 35) (.join [cv 5 .i] (sw 8 [wm 0, wZ, wj 0] (Kp 1826) (bl 0 [cv 5 .i, cv 10 .i] (sq [qb 11 .lss 10 9] (Kp 3874) (.seq (ce 11 (Kp 1826) [5] 0) (.join [cv 5 .i] (.block 1 (sr [wn 12 [we (.st 2) 8 10, wK 10],
 qn [.alloc 7 zGParty, qw 10 7 13]] (Kp 1954) (sw 14 [wo 1 7, wL, wm 1, wB .eql 15] (Kp 132898) (.cond 17 [1, 5, 8, 9, 10] (Kp 1826) (qr [wn 18 [wm 5, wI .add 1],
 qn [qa 5 19]] (Kp 1826)) .skip)))) (q1 [qi 20 .add 10 1, qm 10 20] (Kp 1826))))))) (sq [qm 21 5, qa 4 21] [4] .ret)))⟩
def d_xcb_j2 (L1 : (Int × Int) -> Option Int) (v3 : Int) (v5 : Int) : Option Int :=
 L1 ((v5, w64 (v3 + 1)))
def d_xcb_j3 (v6 : Int) : Option Int :=
 some v6
def d_xcb_l1 (p0 : (List GParty)) (p1 : Int) (L1 : (Int × Int) -> Option Int) (x_ : (Int × Int)) : Option Int :=
 match x_ with
 | (v2, v3) => br (decide (v3 < (↑p0.length : Int)))
  (bd (at? p0 v3) fun x4 =>
  br (x4.Cabin == p1)
   (jn (d_xcb_j2 L1 v3) (w64 (v2 + 1)))
   (jn (d_xcb_j2 L1 v3) v2))
  (jn (d_xcb_j3) v2)
def d_xcb (p0 : (List GParty)) (p1 : Int) : Option Int :=
 loopN (d_xcb_l1 p0 p1) big (0, 0)
def gf_xcb : GF := y_xcb.gf rfl rfl (fun a => d_xcb a.1 a.2.1) (fun a => by kernel_rfl)
def y_xcc : YF := ⟨[], [.v (.st 3)], [], .ret [.b], [.tmp 2],
 sq [qu 1 0, qB 2 false] [1] (.join [cv 2 .b] (qr [wn 3 [wo 0 1, wL, wc gf_xb7 rfl [4, qj 1, qj 60], wM],
 wt 6 7 [wo 1 1, wL, wo 0 1, wL, wc gf_xb7 rfl [8, qj 0, 10]],
 wn 12 [wQ 6, wM],
 wt 13 14 [wo 2 1, wL, wo 0 1, wL, wc gf_xb7 rfl [15, qj 0, 17]],
 wn 19 [wQ 13, wM],
 wt 20 21 [wo 3 1, wL, wo 0 1, wL, wc gf_xb7 rfl [22, qj 0, 24]],
 wn 26 [wQ 20, wM],
 wt 27 28 [wo 1 1, wL, wo 2 1, wL, wB .add 29, wo 3 1, wL, wB .add 32, wo 0 1, wL, wB .eql 35],
 wn 39 [wQ 27, wM],
 wt 40 41 [wo 4 1, wL, wo 3 1, wL, wc gf_xb7 rfl [42, qj 0, 44]],
 qn [qq 46 40 45, qa 2 46]] [2]) .ret)⟩
def d_xcc_j1 (v6 : Bool) : Option Bool :=
 some v6
def d_xcc (p0 : GLedger) : Option Bool :=
 bd (d_xb7 p0.Total 1 60) fun x1 =>
 br x1
  (bd (d_xb7 p0.Free 0 p0.Total) fun x2 =>
  br x2
   (bd (d_xb7 p0.Held 0 p0.Total) fun x3 =>
   br x3
    (bd (d_xb7 p0.Sold 0 p0.Total) fun x4 =>
    br x4
     (br (w64 (w64 (p0.Free + p0.Held) + p0.Sold) == p0.Total)
      (bd (d_xb7 p0.Tied 0 p0.Sold) fun x5 =>
      jn (d_xcc_j1) x5)
      (jn (d_xcc_j1) false))
     (jn (d_xcc_j1) false))
    (jn (d_xcc_j1) false))
   (jn (d_xcc_j1) false))
  (jn (d_xcc_j1) false)
def gf_xcc : GF := y_xcc.gf rfl rfl (fun a => d_xcc a.1) (fun a => by kernel_rfl)
def y_xcd : YF := ⟨[], [.v .i], [], .ret [.b], [.tmp 2],
 sq [qB 2 false] [0] (sr [wn 3 [wm 0, wm 0, wB .neq 3],
 qn [qa 2 5]] [2] .ret)⟩
def d_xcd (p0 : Int) : Option Bool :=
 some (p0 != p0)
def gf_xcd : GF := y_xcd.gf rfl rfl (fun a => d_xcd a.1) (fun a => by kernel_rfl)
def y_xce : YF := ⟨[], [.v .i, .v .i], [], .ret [.i], [.tmp 4],
 sq [qK 4 0] [0, 1] (sr [wn 7 [wm 0, wY gf_xcd rfl],
 qn [qa 5 8]] (Kp 35) (sr [wn 9 [wm 1, wY gf_xcd rfl],
 qn [qa 6 10]] (Kp 99) (.seq (sq [qm 11 5] (Kp 2115) (.cond 11 [6] (Kp 67) (.seq (sq [qm 12 6] [12] (cn 12 [] (sq [qK 4 0] [4] .ret))) (sq [qK 4 (-1)] [4] .ret)) .skip)) (.seq (sq [qm 13 6] (Kp 8195) (cn 13 [0, 1] (sq [qK 4 1] [4] .ret))) (.seq (sw 14 [wm 0, wm 1, wB .lss 14] [0, 1, 16] (cn 16 [0, 1] (sq [qK 4 (-1)] [4] .ret))) (.seq (sw 17 [wm 0, wm 1, wB .gtr 17] [19] (cn 19 [] (sq [qK 4 1] [4] .ret))) (sq [qK 4 0] [4] .ret)))))))⟩
def d_xce (p0 : Int) (p1 : Int) : Option Int :=
 bd (d_xcd p0) fun x1 =>
 bd (d_xcd p1) fun x2 =>
 br x1
  (br x2
   (some 0)
   (some (-1)))
  (br x2
   (some 1)
   (br (decide (p0 < p1))
    (some (-1))
    (br (decide (p0 > p1))
     (some 1)
     (some 0))))
def gf_xce : GF := y_xce.gf rfl rfl (fun a => d_xce a.1 a.2.1) (fun a => by kernel_rfl)
def y_xcf : YF := ⟨[], [.v (.st 4), .v (.st 4)], [], .ret [.i], [.tmp 4],
 sq [qu 2 0, qu 3 1, qK 4 0] [2, 3] (.seq (sr [wn 6 [wo 0 2, wL, wo 0 3, wL, wc gf_xce rfl [7, 9]],
 qn [qa 5 10]] (Kp 44) (sw 11 [wm 5, wI .neq 0] (Kp 4140) (.cond 12 [5] [2, 3] (sq [qm 13 5, qa 4 13] [4] .ret) .skip))) (sr [wn 14 [wo 1 2, wL, wo 1 3, wL, wc gf_xce rfl [15, 17]],
 qn [qa 4 18]] [4] .ret))⟩
def d_xcf (p0 : GEntry) (p1 : GEntry) : Option Int :=
 bd (d_xce p0.Level p1.Level) fun x1 =>
 br (x1 != 0)
  (some x1)
  (bd (d_xce p0.Turn p1.Turn) fun x2 =>
  some x2)
def gf_xcf : GF := y_xcf.gf rfl rfl (fun a => d_xcf a.1 a.2.1) (fun a => by kernel_rfl)
def y_xcg : YF := ⟨[], [.v (.st 4), .v (.st 4)], [], .ret [.b], [.tmp 4],
 sq [qu 2 0, qu 3 1, qB 4 false] [2, 3] (sr [wn 5 [wk 4 2, wk 4 3, wc gf_xcf rfl [5, 6], wI .lss 0],
 qn [qa 4 8]] [4] .ret)⟩
def d_xcg (p0 : GEntry) (p1 : GEntry) : Option Bool :=
 bd (d_xcf p0 p1) fun x1 =>
 some (decide (x1 < 0))
def gf_xcg : GF := y_xcg.gf rfl rfl (fun a => d_xcg a.1 a.2.1) (fun a => by kernel_rfl)
def y_xch : YF := ⟨[], [.v (.st 4), .p .i], [], .ret [.b], [.tmp 3],
 sq [qu 2 0, qB 3 false] [1, 2] (sr [wn 4 [wo 2 2, wL, wl 1, wB .eql 5],
 qn [qa 3 7]] [3] .ret)⟩
def d_xch (p0 : GEntry) (p1 : Int) : Option Bool :=
 some (p0.Id == p1)
def gf_xch : GF := y_xch.gf rfl rfl (fun a => d_xch a.1 a.2.1) (fun a => by kernel_rfl)
def y_xci : YF := ⟨[gf_xch], [.v (.l (.st 4)), .f gf_xch.x [(true, .i)]], [0], .ret [.i], [.tmp 4],
 sq [qK 4 0] [0, 1] (.join [] (sw 6 [wm 0, wZ, wj 0] (Kp 387) (bl 0 [cv 8 .i] (sq [qb 9 .lss 8 7] (Kp 899) (.seq (ce 9 (Kp 387) [] 0) (.seq (.block 1 (sq [qm 10 8, qa 5 10] (Kp 419) (sw 11 [wm 1, wm 0, wm 5, wE (.st 4) 12, wK 4, wh (.callv · (.tmp 11) [.v, .p] [.tmp 15])] (Kp 65955) (.cond 16 [5] (Kp 387) (sq [qm 17 5, qa 4 17] [4] .ret) .skip)))) (q1 [qi 18 .add 8 1, qm 8 18] (Kp 387))))))) (sq [qK 4 (-1)] [4] .ret))⟩
def d_xci_j2 (_ : PUnit) : Option Int :=
 some (-1)
def d_xci_l1 (p0 : (List GEntry)) (c1_0 : Int) (L1 : Int -> Option Int) (v2 : Int) : Option Int :=
 br (decide (v2 < (↑p0.length : Int)))
  (bd (at? p0 v2) fun x3 =>
  bd (d_xch x3 c1_0) fun x4 =>
  br x4
   (some v2)
   (L1 (w64 (v2 + 1))))
  (jn (d_xci_j2) ())
def d_xci (p0 : (List GEntry)) (c1_0 : Int) : Option Int :=
 loopN (d_xci_l1 p0 c1_0) big 0
def gf_xci : GF := y_xci.gf rfl rfl (fun a => d_xci a.1 a.2.1.1) (fun a => by kernel_rfl)
def y_xcj : YF := ⟨[gf_xch], [.v (.l (.st 4)), .v .i], [], .ret [.i], [.tmp 4],
 sq [qu 3 1, qK 4 0] [0, 3] (sr [wn 5 [wm 0, wh (.mkfn · 0 [.tmp 3]), wh (.call · gf_xci [0] rfl [.tmp 5, .tmp 6])],
 qn [qa 4 7]] [4] .ret)⟩
def d_xcj (p0 : (List GEntry)) (p1 : Int) : Option Int :=
 bd (d_xci p0 p1) fun x1 =>
 some x1
def gf_xcj : GF := y_xcj.gf rfl rfl (fun a => d_xcj a.1 a.2.1) (fun a => by kernel_rfl)
end
end Lv
set_option maxRecDepth 100000
namespace Lv
open Go (IntKind BinOp UnOp)
noncomputable section
open Y (YF qn qf qt qr q1 qd qm qa qo ql qL qb qi qx qp qq qc qz qe qk qK qB qw qu qj Kp wn wf wt w1 sw sq sr wm wM wo wO wl wL wk wK wz wZ wx wX wb wB wi wI wr wR wq wQ we wE wc wY wj wh cv ca cx cn ce bl)
def y_xck : YF := ⟨[], [.v (.l (.st 4))], [], .ret [.b], [.tmp 2],
 sq [qB 2 false] [0] (.seq (sw 5 [wm 0, wZ, wI .gtr 10] [0, 7] (cn 7 [0] (sq [qB 2 false] [2] .ret))) (.join [] (sw 8 [wm 0, wZ, wj 0] (Kp 1793) (bl 0 [cv 10 .i] (sq [qb 11 .lss 10 9] (Kp 3841) (.seq (ce 11 (Kp 1793) [] 0) (.seq (.block 1 (sr [wn 12 [wm 10, we (.st 4) 8 10, wK 4],
 qn [.alloc 4 zGEntry, qa 3 12, qw 4 4 14]] (Kp 1817) (.seq (.join [cv 35 .b] (.dreg (qd 0 [wn 15 [wm 3, wI .gtr 0, wM],
 wt 17 18 [wm 0, wm 3, wI .sub 1, wE (.st 4) 18, wK 4, wk 4 4, wc gf_xcg rfl [22, 23], wX],
 wn 26 [wQ 17, wM],
 wf 27 28 [wm 0, wm 3, wh (.sub · (.st 4) (.tmp 28) none (some (.tmp 29))), wo 2 4, wL, wc gf_xcj rfl [30, 32], wI .geq 0],
 qn [qp 35 27 34]] .nil) [0, 4, 8, 9, 10, 35]) (cn 35 (Kp 1809) (sq [qB 2 false] [2] .ret))) (.join [cv 57 .b] (qr [wn 36 [wo 0 4, wL, wc gf_xb9 rfl [37, qj 5], wX, wM],
 wf 40 41 [wo 1 4, wL, wc gf_xb7 rfl [42, qj 1, qj 1000000], wX],
 wn 45 [wR 40, wM],
 wf 46 47 [wo 2 4, wL, wc gf_xb7 rfl [48, qj 1, qj 999], wX],
 wn 51 [wR 46, wM],
 wf 52 53 [wo 3 4, wL, wc gf_xb7 rfl [54, qj 1, qj 6], wX],
 qn [qp 57 52 56]] [0, 8, 9, 10, 57]) (cn 57 (Kp 1793) (sq [qB 2 false] [2] .ret)))))) (q1 [qi 58 .add 10 1, qm 10 58] (Kp 1793))))))) (sq [qB 2 true] [2] .ret)))⟩
def d_xck_j3 (L1 : Int -> Option Bool) (v2 : Int) (v8 : Bool) : Option Bool :=
 br v8
  (some false)
  (L1 (w64 (v2 + 1)))
def d_xck_j2 (L1 : Int -> Option Bool) (v2 : Int) (x3 : GEntry) (v6 : Bool) : Option Bool :=
 br v6
  (some false)
  (bd (d_xb9 x3.Level 5) fun x7 =>
  br (!x7)
   (jn (d_xck_j3 L1 v2) true)
   (bd (d_xb7 x3.Turn 1 1000000) fun x9 =>
   br (!x9)
    (jn (d_xck_j3 L1 v2) true)
    (bd (d_xb7 x3.Id 1 999) fun x10 =>
    br (!x10)
     (jn (d_xck_j3 L1 v2) true)
     (bd (d_xb7 x3.Size 1 6) fun x11 =>
     jn (d_xck_j3 L1 v2) (!x11)))))
def d_xck_j4 (_ : PUnit) : Option Bool :=
 some true
def d_xck_l1 (p0 : (List GEntry)) (L1 : Int -> Option Bool) (v2 : Int) : Option Bool :=
 br (decide (v2 < (↑p0.length : Int)))
  (bd (at? p0 v2) fun x3 =>
  br (decide (v2 > 0))
   (bd (at? p0 (w64 (v2 - 1))) fun x4 =>
   bd (d_xcg x4 x3) fun x5 =>
   br (!x5)
    (jn (d_xck_j2 L1 v2 x3) true)
    (gd (0 <= v2 /\ v2 <= (↑p0.length : Int)) (
    bd (d_xcj (List.take v2.toNat p0) x3.Id) fun x12 =>
    jn (d_xck_j2 L1 v2 x3) (decide (x12 >= 0)))))
   (gd (0 <= v2 /\ v2 <= (↑p0.length : Int)) (
   bd (d_xcj (List.take v2.toNat p0) x3.Id) fun x13 =>
   jn (d_xck_j2 L1 v2 x3) (decide (x13 >= 0)))))
  (jn (d_xck_j4) ())
def d_xck (p0 : (List GEntry)) : Option Bool :=
 br (decide ((↑p0.length : Int) > 10))
  (some false)
  (loopN (d_xck_l1 p0) big 0)
def gf_xck : GF := y_xck.gf rfl rfl (fun a => d_xck a.1) (fun a => by kernel_rfl)
def y_xcl : YF := ⟨[], [.v (.st 5)], [], .ret [.b], [.tmp 2],
 sq [qu 1 0, qB 2 false] [1] (.join [cv 2 .b] (qr [wn 3 [wo 0 1, wL, wc gf_xb7 rfl [4, qj 1, qj 1000008], wM],
 wt 6 7 [wo 1 1, wL, wc gf_xb7 rfl [8, qj 1, qj 999]],
 qn [qq 10 6 9, qa 2 10]] [2]) .ret)⟩
def d_xcl_j1 (v3 : Bool) : Option Bool :=
 some v3
def d_xcl (p0 : GPin) : Option Bool :=
 bd (d_xb7 p0.At 1 1000008) fun x1 =>
 br x1
  (bd (d_xb7 p0.Id 1 999) fun x2 =>
  jn (d_xcl_j1) x2)
  (jn (d_xcl_j1) false)
def gf_xcl : GF := y_xcl.gf rfl rfl (fun a => d_xcl a.1) (fun a => by kernel_rfl)
def y_xcm : YF := ⟨[], [.v (.st 5), .v (.st 5)], [], .ret [.i], [.tmp 4],
 sq [qu 2 0, qu 3 1, qK 4 0] [2, 3] (.seq (sr [wn 6 [wo 0 2, wL, wo 0 3, wL, wc gf_xce rfl [7, 9]],
 qn [qa 5 10]] (Kp 44) (sw 11 [wm 5, wI .neq 0] (Kp 4140) (.cond 12 [5] [2, 3] (sq [qm 13 5, qa 4 13] [4] .ret) .skip))) (sr [wn 14 [wo 1 2, wL, wo 1 3, wL, wc gf_xce rfl [15, 17]],
 qn [qa 4 18]] [4] .ret))⟩
def d_xcm (p0 : GPin) (p1 : GPin) : Option Int :=
 bd (d_xce p0.At p1.At) fun x1 =>
 br (x1 != 0)
  (some x1)
  (bd (d_xce p0.Id p1.Id) fun x2 =>
  some x2)
def gf_xcm : GF := y_xcm.gf rfl rfl (fun a => d_xcm a.1 a.2.1) (fun a => by kernel_rfl)
def y_xcn : YF := ⟨[], [.v (.st 6)], [], .ret [.b], [.tmp 2],
 sq [qu 1 0, qB 2 false] [1] (.seq (sw 9 [wo 0 1, wL, wZ, wI .neq 9] [1, 12] (cn 12 [1] (sq [qB 2 false] [2] .ret))) (sq [.mmk 13, qa 3 13] [1, 3] (sq [qK 4 0] (Kp 26) (.join [cv 3 .m, cv 4 .i] (sw 14 [wo 0 1, wL, wZ, wj 0] (Kp 229400) (bl 0 [cv 3 .m, cv 4 .i, cv 17 .i] (sq [qb 18 .lss 17 16] (Kp 491544) (.seq (ce 18 (Kp 229400) [3, 4] 0) (.join [cv 3 .m, cv 4 .i] (.block 1 (sr [wn 19 [wm 17, we (.l (.st 5)) 15 17, wL],
 qn [qa 5 19, qa 6 21]] (Kp 229496) (sw 22 [wm 6, wZ, wj 0] (Kp 29589624) (bl 2 [cv 3 .m, cv 4 .i, cv 24 .i] (sq [qb 25 .lss 24 23] (Kp 63144056) (.seq (ce 25 [3, 4, 5, 6, 15, 16, 17, 22, 23, 24] (Kp 229400) 2) (.seq (.block 3 (sr [wn 26 [wm 24, we (.st 5) 22 24, wK 2],
 qn [.alloc 8 [.int .i64 0, .int .i64 0], qa 7 26, qw 2 8 28]] (Kp 29590008) (.seq (.join [cv 52 .b] (.dreg (qd 0 [wn 29 [wk 2 8, wY gf_xcl rfl, wX, wM],
 wf 32 33 [wo 0 8, wL, wI .rem 9, wm 5, wB .neq 35],
 wn 38 [wR 32, wM],
 wf 39 40 [wm 7, wI .gtr 0, wM],
 wt 42 43 [wm 6, wm 7, wI .sub 1, wE (.st 5) 43, wK 2, wk 2 8, wc gf_xcm rfl [47, 48], wI .gtr 0],
 qf 39 [qq 51 42 50],
 qn [qp 52 39 51]] .nil) [3, 4, 5, 6, 8, 15, 16, 17, 22, 23, 24, 52]) (cn 52 (Kp 29589880) (sq [qB 2 false] [2] .ret))) (sr [wn 53 [wm 3, wo 1 8, wL, wh (.mget · (.tmp 53) (.tmp 55)), wI .add 1],
 qn [.mset (.tmp 53) (.tmp 55) (.tmp 57)]] (Kp 29589624) (qr [wn 58 [wm 4, wI .add 1],
 qn [qa 4 59]] (Kp 29589624)))))) (q1 [qi 60 .add 24 1, qm 24 60] (Kp 29589624))))))))) (q1 [qi 61 .add 17 1, qm 17 61] (Kp 229400))))))) (.join [cv 2 .b] (qr [wn 62 [wm 4, wI .leq 10, wM],
 wt 64 65 [wm 3, wh (.mlen · (.tmp 65)), wm 4, wB .eql 66],
 qn [qq 69 64 68, qa 2 69]] [2]) .ret)))))⟩
def d_xcn_j3 (L6 : ((List (Int × Int)) × Int × Int) -> Option Bool) (v7 : (List (Int × Int))) (v8 : Int) (v9 : Int) (x10 : GPin) (v12 : Bool) : Option Bool :=
 br v12
  (some false)
  (L6 ((mapSet v7 x10.Id (w64 (mapGet v7 x10.Id + 1)), w64 (v8 + 1), w64 (v9 + 1))))
def d_xcn_j4 (L1 : ((List (Int × Int)) × Int × Int) -> Option Bool) (v4 : Int) (x_ : ((List (Int × Int)) × Int)) : Option Bool :=
 match x_ with
 | (v15, v16) => L1 ((v15, v16, w64 (v4 + 1)))
def d_xcn_l2 (L1 : ((List (Int × Int)) × Int × Int) -> Option Bool) (v4 : Int) (x5 : (List GPin)) (L6 : ((List (Int × Int)) × Int × Int) -> Option Bool) (x_ : ((List (Int × Int)) × Int × Int)) : Option Bool :=
 match x_ with
 | (v7, v8, v9) => br (decide (v9 < (↑(List.length x5) : Int)))
  (bd (at? x5 v9) fun x10 =>
  bd (d_xcl x10) fun x11 =>
  br (!x11)
   (jn (d_xcn_j3 L6 v7 v8 v9 x10) true)
   (br (x10.At.tmod 9 != v4)
    (jn (d_xcn_j3 L6 v7 v8 v9 x10) true)
    (br (decide (v9 > 0))
     (bd (at? x5 (w64 (v9 - 1))) fun x13 =>
     bd (d_xcm x13 x10) fun x14 =>
     jn (d_xcn_j3 L6 v7 v8 v9 x10) (decide (x14 > 0)))
     (jn (d_xcn_j3 L6 v7 v8 v9 x10) false))))
  (jn (d_xcn_j4 L1 v4) (v7, v8))
def d_xcn_j6 (v19 : Bool) : Option Bool :=
 some v19
def d_xcn_j5 (x_ : ((List (Int × Int)) × Int)) : Option Bool :=
 match x_ with
 | (v17, v18) => br (decide (v18 <= 10))
  (jn (d_xcn_j6) ((↑(List.length v17) : Int) == v18))
  (jn (d_xcn_j6) false)
def d_xcn_l1 (p0 : GWheel) (L1 : ((List (Int × Int)) × Int × Int) -> Option Bool) (x_ : ((List (Int × Int)) × Int × Int)) : Option Bool :=
 match x_ with
 | (v2, v3, v4) => br (decide (v4 < (↑p0.Spoke.length : Int)))
  (bd (at? p0.Spoke v4) fun x5 =>
  loopN (d_xcn_l2 L1 v4 x5) big (v2, v3, 0))
  (jn (d_xcn_j5) (v2, v3))
def d_xcn (p0 : GWheel) : Option Bool :=
 br ((↑p0.Spoke.length : Int) != 9)
  (some false)
  (loopN (d_xcn_l1 p0) big ([], 0, 0))
def gf_xcn : GF := y_xcn.gf rfl rfl (fun a => d_xcn a.1) (fun a => by kernel_rfl)
def y_xco : YF := ⟨[], [.v (.st 7)], [], .ret [.b], [.tmp 2],
 sq [qu 1 0, qB 2 false] [1] (.join [cv 2 .b] (qr [wn 3 [wo 0 1, wK 5, wY gf_xcc rfl, wM],
 wt 6 7 [wo 5 1, wL, wY gf_xck rfl],
 wn 10 [wQ 6, wM],
 wt 11 12 [wo 6 1, wK 1, wY gf_xcn rfl],
 qn [qq 15 11 14, qa 2 15]] [2]) .ret)⟩
def d_xco_j1 (v4 : Bool) : Option Bool :=
 some v4
def d_xco (p0 : GCabin) : Option Bool :=
 bd (d_xcc p0.Seats) fun x1 =>
 br x1
  (bd (d_xck p0.Row) fun x2 =>
  br x2
   (bd (d_xcn p0.Wheel) fun x3 =>
   jn (d_xco_j1) x3)
   (jn (d_xco_j1) false))
  (jn (d_xco_j1) false)
def gf_xco : GF := y_xco.gf rfl rfl (fun a => d_xco a.1) (fun a => by kernel_rfl)
def y_xcp : YF := ⟨[], [.v (.st 1), .v .i, .v .i], [], .ret [.i], [.tmp 6],
 sq [qu 3 0, qK 6 0] (Kp 14) (.seq (.join [cv 20 .b] (qr [wn 7 [wk 9 3, wY gf_xb8 rfl, wX, wM],
 wf 10 11 [wm 1, wo 1 3, wL, wc gf_xb9 rfl [11, 13], wX],
 wn 16 [wR 10, wM],
 wf 17 18 [wm 2, wI .lss 0],
 qn [qp 20 17 19]] (Kp 1048590)) (cn 20 (Kp 14) (sq [qK 6 (-1)] [6] .ret))) (sr [wn 21 [wm 1, wm 2, wo 4 3, wL, wB .quo 22, wB .sub 21, wh (.mm · true (.k (.int .i64 0)) (.tmp 26))],
 qn [qa 6 27]] [6] .ret))⟩
def d_xcp_j1 (p0 : GRules) (p1 : Int) (p2 : Int) (v2 : Bool) : Option Int :=
 br v2
  (some (-1))
  (gd (p0.Period ≠ 0) (
  some (if true = true then if w64 (p1 - w64 (p2.tdiv p0.Period)) > 0 then w64 (p1 - w64 (p2.tdiv p0.Period)) else 0 else if w64 (p1 - w64 (p2.tdiv p0.Period)) < 0 then w64 (p1 - w64 (p2.tdiv p0.Period)) else 0)))
def d_xcp (p0 : GRules) (p1 : Int) (p2 : Int) : Option Int :=
 bd (d_xb8 p0) fun x1 =>
 br (!x1)
  (jn (d_xcp_j1 p0 p1 p2) true)
  (bd (d_xb9 p1 p0.Tiers) fun x3 =>
  br (!x3)
   (jn (d_xcp_j1 p0 p1 p2) true)
   (jn (d_xcp_j1 p0 p1 p2) (decide (p2 < 0))))
def gf_xcp : GF := y_xcp.gf rfl rfl (fun a => d_xcp a.1 a.2.1 a.2.2.1) (fun a => by kernel_rfl)
def y_xcq : YF := ⟨[], [.v (.st 1), .v (.st 2), .v .i], [], .ret [.i], [.tmp 6],
 sq [qu 3 0, qu 4 1, qK 6 0] (Kp 28) (.seq (sw 7 [wk 9 3, wk 10 4, wm 2, wc gf_xca rfl [7, 8, 9], wX] (Kp 2076) (cn 11 (Kp 28) (sq [qK 6 (-1)] [6] .ret))) (sr [wn 12 [wk 9 3, wo 4 4, wL, wm 2, wo 5 4, wL, wB .sub 15, wc gf_xcp rfl [12, 14, 18]],
 qn [qa 6 19]] [6] .ret))⟩
def d_xcq (p0 : GRules) (p1 : GParty) (p2 : Int) : Option Int :=
 bd (d_xca p0 p1 p2) fun x1 =>
 br (!x1)
  (some (-1))
  (bd (d_xcp p0 p1.Tier (w64 (p2 - p1.Since))) fun x2 =>
  some x2)
def gf_xcq : GF := y_xcq.gf rfl rfl (fun a => d_xcq a.1 a.2.1 a.2.2.1) (fun a => by kernel_rfl)
def y_xcr : YF := ⟨[], [.v (.st 1), .v (.st 2), .v .i], [], .ret [(.st 4), .b], [.cell 6 (some 4), .tmp 7],
 sq [qu 3 0, qu 4 1, .alloc 6 zGEntry, qB 7 false] (Kp 92) (.seq (.join [cv 17 .b] (qr [wn 8 [wk 9 3, wk 10 4, wm 2, wc gf_xca rfl [8, 9, 10], wX, wM],
 wf 13 14 [wo 7 4, wL, wI .neq 1],
 qn [qp 17 13 16]] (Kp 131164)) (.cond 17 [6] (Kp 92) (sq [.build 18 zGEntry [], qw 4 6 18, qB 7 false] [6, 7] .ret) .skip)) (.seq (.dreg (qd 0 [wn 19 [wk 9 3, wk 10 4, wm 2]] (qd 4 [wn 23 [wo 6 4, wL, wo 0 4, wL, wo 3 4, wL]] (.op 3 none [23, 25, 27] (.call 22 gf_xcq [] rfl [(.tmp 19), (.tmp 20), (.tmp 21)])
 (qd 10 [qn [.build 29 zGEntry [(0, 1, (.tmp 22)), (1, 1, (.tmp 24)), (2, 1, (.tmp 26)), (3, 1, (.tmp 28))], qw 4 6 29, qB 7 true]] .nil)))) [6, 7]) .ret))⟩
def d_xcr_j1 (p0 : GRules) (p1 : GParty) (p2 : Int) (v2 : Bool) : Option (GEntry × Bool) :=
 br v2
  (some (GEntry.mk 0 0 0 0, false))
  (bd (d_xcq p0 p1 p2) fun x3 =>
  some (GEntry.mk x3 p1.Turn p1.Id p1.Size, true))
def d_xcr (p0 : GRules) (p1 : GParty) (p2 : Int) : Option (GEntry × Bool) :=
 bd (d_xca p0 p1 p2) fun x1 =>
 br (!x1)
  (jn (d_xcr_j1 p0 p1 p2) true)
  (jn (d_xcr_j1 p0 p1 p2) (p1.State != 1))
def gf_xcr : GF := y_xcr.gf rfl rfl (fun a => d_xcr a.1 a.2.1 a.2.2.1) (fun a => by kernel_rfl)
def y_xcs : YF := ⟨[gf_xcf], [.m (.l (.st 4)), .v .i, .v .i, .f gf_xcf.x []], [0], .ret [], [],
 sr [wn 10 [wm 1, wI .add 1],
 qn [qa 8 11]] (Kp 271) (bl 0 [cv 0 (.l (.st 4)), cv 8 .i] (.seq (sw 12 [wm 8, wm 2, wB .lss 12] (Kp 16655) (ce 14 (Kp 271) [0] 0)) (.join [cv 0 (.l (.st 4))] (.block 1 (sq [qm 17 8, qa 9 17] (Kp 783) (bl 2 [cv 0 (.l (.st 4)), cv 9 .i] (.seq (.join [cv 34 .b] (.dreg (qd 0 [wn 18 [wm 9, wm 1, wB .gtr 18, wM],
 wt 21 22 [wm 3, wm 0, wm 9, wE (.st 4) 23, wK 4, wm 0, wm 9, wI .sub 1, wE (.st 4) 27, wK 4, wh (.callv · (.tmp 22) [.v, .v] [.tmp 26, .tmp 31]), wI .lss 0],
 qn [qq 34 21 33]] .nil) [0, 1, 2, 3, 8, 9, 34]) (ce 34 [0, 1, 2, 3, 8, 9] (Kp 271) 2)) (.seq (.block 3 (.dreg (qd 0 [wn 37 [wm 0, wm 9, wm 0, wm 9, wI .sub 1, wm 0, wm 9, wI .sub 1, wE (.st 4) 42, wK 4, wm 0, wm 9, wE (.st 4) 47, wK 4, we (.st 4) 37 38],
 qn [qw 4 51 46, qe 52 (.st 4) 39 41, qw 4 52 50]] .nil) [0, 1, 2, 3, 8, 9])) (qr [wn 35 [wm 9, wI .sub 1],
 qn [qa 9 36]] (Kp 783))))))) (qr [wn 15 [wm 8, wI .add 1],
 qn [qa 8 16]] (Kp 271)))))⟩
def d_xcs_j4 (L1 : ((List GEntry) × Int) -> Option (List GEntry)) (v3 : Int) (v21 : (List GEntry)) : Option (List GEntry) :=
 L1 ((v21, w64 (v3 + 1)))
def d_xcs_j3 (L1 : ((List GEntry) × Int) -> Option (List GEntry)) (v3 : Int) (L4 : ((List GEntry) × Int) -> Option (List GEntry)) (v5 : (List GEntry)) (v6 : Int) (v12 : Bool) : Option (List GEntry) :=
 br v12
  (bd (at? v5 (w64 (v6 - 1))) fun x13 =>
  bd (at? v5 (w64 (v6 - 1))) fun x14 =>
  bd (at? v5 v6) fun x15 =>
  bd (at? v5 v6) fun x16 =>
  bd (at? v5 v6) fun x17 =>
  bd (at? v5 v6) fun x18 =>
  bd (at? (List.set v5 v6.toNat x14) (w64 (v6 - 1))) fun x19 =>
  bd (at? (List.set v5 v6.toNat x14) (w64 (v6 - 1))) fun x20 =>
  L4 (((List.set v5 v6.toNat x14).set (w64 (v6 - 1)).toNat x16, w64 (v6 - 1))))
  (jn (d_xcs_j4 L1 v3) v5)
def d_xcs_l2 (p1 : Int) (L1 : ((List GEntry) × Int) -> Option (List GEntry)) (v3 : Int) (L4 : ((List GEntry) × Int) -> Option (List GEntry)) (x_ : ((List GEntry) × Int)) : Option (List GEntry) :=
 match x_ with
 | (v5, v6) => br (decide (v6 > p1))
  (bd (at? v5 v6) fun x7 =>
  bd (at? v5 v6) fun x8 =>
  bd (at? v5 (w64 (v6 - 1))) fun x9 =>
  bd (at? v5 (w64 (v6 - 1))) fun x10 =>
  bd (d_xcf x8 x10) fun x11 =>
  jn (d_xcs_j3 L1 v3 L4 v5 v6) (decide (x11 < 0)))
  (jn (d_xcs_j3 L1 v3 L4 v5 v6) false)
def d_xcs_l1 (p1 : Int) (p2 : Int) (L1 : ((List GEntry) × Int) -> Option (List GEntry)) (x_ : ((List GEntry) × Int)) : Option (List GEntry) :=
 match x_ with
 | (v2, v3) => br (decide (v3 < p2))
  (loopN (d_xcs_l2 p1 L1 v3) big (v2, v3))
  (some v2)
def d_xcs (p0 : (List GEntry)) (p1 : Int) (p2 : Int) : Option (List GEntry) :=
 loopN (d_xcs_l1 p1 p2) big ((p0, w64 (p1 + 1)))
def gf_xcs : GF := y_xcs.gf rfl rfl (fun a => d_xcs a.1 a.2.1 a.2.2.1) (fun a => by kernel_rfl)
def y_xct : YF := ⟨[gf_xcf], [.m (.l (.st 4)), .v .i, .f gf_xcf.x []], [0], .ret [], [],
 sq [qK 6 20] (Kp 71) (sq [qm 10 6, qK 7 0, qa 8 10] (Kp 455) (.join [cv 0 (.l (.st 4)), cv 7 .i] (bl 0 [cv 0 (.l (.st 4)), cv 7 .i, cv 8 .i] (.seq (sw 11 [wm 8, wm 1, wB .leq 11] (Kp 8647) (ce 13 [0, 1, 2, 6, 7, 8] (Kp 199) 0)) (.block 1 (sw 14 [wm 0, wm 7, wm 8, wm 2, wh (.call · gf_xcs [0] rfl [.tmp 14, .tmp 15, .tmp 16, .tmp 17])] (Kp 327) (sq [qm 19 8, qa 7 19] (Kp 455) (qr [wn 20 [wm 8, wm 6, wB .add 20],
 qn [qa 8 22]] (Kp 455))))))) (sw 23 [wm 0, wm 7, wm 1, wm 2, wh (.call · gf_xcs [0] rfl [.tmp 23, .tmp 24, .tmp 25, .tmp 26])] (Kp 71) (bl 2 [cv 6 .i] (.seq (sw 28 [wm 6, wm 1, wB .lss 28] (Kp 1073741895) (ce 30 (Kp 71) [0] 2)) (.block 3 (sr [wn 31 [wm 6, wh (.bin · .num .mul (.k (.int .i64 2)) (.tmp 31))],
 qn [qK 7 0, qa 8 32]] (Kp 455) (.join [] (bl 4 [] (.seq (sw 33 [wm 8, wm 1, wB .leq 33] (Kp 34359738823) (ce 35 [0, 1, 2, 6, 7, 8] (Kp 199) 4)) (.block 5 (sr [wn 36 [wm 0, wm 7, wm 7, wm 6, wB .add 38, wm 8, wm 2],
 qn [.bad (some 43)]] (Kp 327) (sq [qm 44 8, qa 7 44] (Kp 455) (qr [wn 45 [wm 8, wm 6, wh (.bin · .num .mul (.k (.int .i64 2)) (.tmp 46)), wB .add 45],
 qn [qa 8 48]] (Kp 455))))))) (.seq (sr [wn 49 [wm 7, wm 6, wB .add 49],
 qn [qa 9 51]] (Kp 711) (sw 52 [wm 9, wm 1, wB .lss 52] [0, 1, 2, 6, 7, 9, 54] (.cond 54 [0, 1, 2, 6, 7, 9] (Kp 71) (qr [wn 55 [wm 0, wm 7, wm 9, wm 1, wm 2],
 qn [.bad (some 60)]] (Kp 71)) .skip))) (qr [wn 61 [wm 6, wI .mul 2],
 qn [qa 6 62]] (Kp 71)))))))))))⟩
def d_xct_j5 (p1 : Int) (L9 : Int -> Option (List GEntry)) (v10 : Int) (_ : PUnit) : Option (List GEntry) :=
 br (decide (w64 (0 + v10) < p1))
  (none)
  (L9 (w64 (v10 * 2)))
def d_xct_l4 (p1 : Int) (L9 : Int -> Option (List GEntry)) (v10 : Int) (L11 : PUnit -> Option (List GEntry)) (_ : PUnit) : Option (List GEntry) :=
 br (decide (w64 (2 * v10) <= p1))
  (none)
  (jn (d_xct_j5 p1 L9 v10) ())
def d_xct_l3 (p1 : Int) (x8 : (List GEntry)) (L9 : Int -> Option (List GEntry)) (v10 : Int) : Option (List GEntry) :=
 br (decide (v10 < p1))
  (loopN (d_xct_l4 p1 L9 v10) big ())
  (some x8)
def d_xct_j2 (p1 : Int) (x_ : ((List GEntry) × Int)) : Option (List GEntry) :=
 match x_ with
 | (v6, v7) => bd (d_xcs v6 v7 p1) fun x8 =>
 loopN (d_xct_l3 p1 x8) big 20
def d_xct_l1 (p1 : Int) (L1 : ((List GEntry) × Int × Int) -> Option (List GEntry)) (x_ : ((List GEntry) × Int × Int)) : Option (List GEntry) :=
 match x_ with
 | (v2, v3, v4) => br (decide (v4 <= p1))
  (bd (d_xcs v2 v3 v4) fun x5 =>
  L1 ((x5, v4, w64 (v4 + 20))))
  (jn (d_xct_j2 p1) (v2, v3))
def d_xct (p0 : (List GEntry)) (p1 : Int) : Option (List GEntry) :=
 loopN (d_xct_l1 p1) big (p0, 0, 20)
def gf_xct : GF := y_xct.gf rfl rfl (fun a => d_xct a.1 a.2.1) (fun a => by kernel_rfl)
def y_xcu : YF := ⟨[gf_xcf], [.m (.l (.st 4)), .f gf_xcf.x []], [0], .ret [], [],
 w1 4 [wm 0, wm 0, wZ, wm 1, wh (.call · gf_xct [0] rfl [.tmp 4, .tmp 6, .tmp 7])] [0]⟩
def d_xcu (p0 : (List GEntry)) : Option (List GEntry) :=
 bd (d_xct p0 (↑p0.length : Int)) fun x1 =>
 some x1
def gf_xcu : GF := y_xcu.gf rfl rfl (fun a => d_xcu a.1) (fun a => by kernel_rfl)
def y_xcv : YF := ⟨[gf_xcf], [.v (.st 1), .v (.l (.st 2)), .v .i, .v .i], [], .ret [(.l (.st 4))], [.tmp 8],
 sq [qu 4 0, .as 8 (.k .nil), .nils [(.tmp 8 0, (.st 4))]] (Kp 30) (sq [.as 9 (.k .nil), .nils [(.tmp 9 0, (.st 4))]] (Kp 542) (.join [cv 9 (.l (.st 4))] (sw 14 [wm 1, wZ, wj 0] (Kp 115228) (bl 0 [cv 9 (.l (.st 4)), cv 16 .i] (sq [qb 17 .lss 16 15] (Kp 246300) (.seq (ce 17 (Kp 115228) [9] 0) (.join [cv 9 (.l (.st 4))] (.block 1 (sr [wn 18 [we (.st 2) 14 16, wK 10],
 qn [.alloc 11 zGParty, qw 10 11 19]] (Kp 117276) (sr [wn 21 [wk 9 4, wk 10 11, wm 3, wc gf_xcr rfl [21, 22, 23]],
 qn [qm 20 24],
 wn 25 [wh (.ext · (.tmp 20) 0), wh (.ext · (.tmp 20) 1)],
 qn [.alloc 12 zGEntry, qw 4 12 25, qa 13 26]] (Kp 129564) (.join [cv 33 .b] (qr [wn 27 [wm 13, wM],
 wt 28 29 [wo 1 11, wL, wm 2, wB .eql 30],
 qn [qq 33 28 32]] (Kp 8590053916)) (.cond 33 [2, 3, 4, 9, 12, 14, 15, 16] (Kp 115228) (qr [wn 34 [wm 9, wk 4 12, wh (.bslice · 1 (.st 4) [(0, (.tmp 35))]), wh (.app · (.st 4) true (.tmp 34) (.tmp 36))],
 qn [qa 9 37]] (Kp 115228)) .skip))))) (q1 [qi 38 .add 16 1, qm 16 38] (Kp 115228))))))) (sw 39 [wm 9, wh (.call · gf_xcu [0] rfl [.tmp 39, (.fn 0)])] [9] (sq [qm 41 9, qa 8 41] [8] .ret))))⟩
def d_xcv_j3 (L1 : ((List GEntry) × Int) -> Option (List GEntry)) (v3 : Int) (v7 : (List GEntry)) : Option (List GEntry) :=
 L1 ((v7, w64 (v3 + 1)))
def d_xcv_j2 (L1 : ((List GEntry) × Int) -> Option (List GEntry)) (v2 : (List GEntry)) (v3 : Int) (x5 : (GEntry × Bool)) (v6 : Bool) : Option (List GEntry) :=
 br v6
  (gd (List.length v2 + [x5.fst].length <= lim) (
  jn (d_xcv_j3 L1 v3) (v2 ++ [x5.fst])))
  (jn (d_xcv_j3 L1 v3) v2)
def d_xcv_j4 (v8 : (List GEntry)) : Option (List GEntry) :=
 bd (d_xcu v8) fun x9 =>
 some x9
def d_xcv_l1 (p0 : GRules) (p1 : (List GParty)) (p2 : Int) (p3 : Int) (L1 : ((List GEntry) × Int) -> Option (List GEntry)) (x_ : ((List GEntry) × Int)) : Option (List GEntry) :=
 match x_ with
 | (v2, v3) => br (decide (v3 < (↑p1.length : Int)))
  (bd (at? p1 v3) fun x4 =>
  bd (d_xcr p0 x4 p3) fun x5 =>
  br x5.snd
   (jn (d_xcv_j2 L1 v2 v3 x5) (x4.Cabin == p2))
   (jn (d_xcv_j2 L1 v2 v3 x5) false))
  (jn (d_xcv_j4) v2)
def d_xcv (p0 : GRules) (p1 : (List GParty)) (p2 : Int) (p3 : Int) : Option (List GEntry) :=
 loopN (d_xcv_l1 p0 p1 p2 p3) big ([], 0)
def gf_xcv : GF := y_xcv.gf rfl rfl (fun a => d_xcv a.1 a.2.1 a.2.2.1 a.2.2.2.1) (fun a => by kernel_rfl)
def y_xcw : YF := ⟨[], [.v (.l (.st 4)), .v (.l (.st 4))], [], .ret [.b], [.tmp 4],
 sq [qB 4 false] [0, 1] (.seq (sw 6 [wm 0, wZ, wm 1, wZ, wB .neq 7] (Kp 1027) (cn 10 [0, 1] (sq [qB 4 false] [4] .ret))) (.join [] (sw 11 [wm 0, wZ, wj 0] (Kp 12291) (bl 0 [cv 13 .i] (sq [qb 14 .lss 13 12] (Kp 28675) (.seq (ce 14 (Kp 12291) [] 0) (.seq (.block 1 (sq [qm 15 13, qa 5 15] (Kp 12323) (.seq (.dreg (qd 0 [wn 16 [wm 0, wm 5, wE (.st 4) 16, wK 4, wm 1, wm 5, wE (.st 4) 20, wK 4, wh (.bin · (.agg [.i, .i, .i, .i]) .neq (.tmp 19) (.tmp 23))]] .nil) [0, 1, 12, 13, 24]) (cn 24 (Kp 12291) (sq [qB 4 false] [4] .ret))))) (q1 [qi 25 .add 13 1, qm 13 25] (Kp 12291))))))) (sq [qB 4 true] [4] .ret)))⟩
def d_xcw_j2 (_ : PUnit) : Option Bool :=
 some true
def d_xcw_l1 (p0 : (List GEntry)) (p1 : (List GEntry)) (L1 : Int -> Option Bool) (v2 : Int) : Option Bool :=
 br (decide (v2 < (↑p0.length : Int)))
  (bd (at? p0 v2) fun x3 =>
  bd (at? p1 v2) fun x4 =>
  br (!(x3.Level == x4.Level && (x3.Turn == x4.Turn && (x3.Id == x4.Id && (x3.Size == x4.Size && true)))))
   (some false)
   (L1 (w64 (v2 + 1))))
  (jn (d_xcw_j2) ())
def d_xcw (p0 : (List GEntry)) (p1 : (List GEntry)) : Option Bool :=
 br ((↑p0.length : Int) != (↑p1.length : Int))
  (some false)
  (loopN (d_xcw_l1 p0 p1) big 0)
def gf_xcw : GF := y_xcw.gf rfl rfl (fun a => d_xcw a.1 a.2.1) (fun a => by kernel_rfl)
def y_xcx : YF := ⟨[], [.v (.ki .u64)], [], .ret [.i], [.tmp 2],
 sq [qK 2 0] [0, 2] (.join [(false, 0, .one, [.num .u64]), cv 2 .i] (sw 3 [wm 0, wh (.bin · .num .geq (.tmp 3) (.k (.int .u64 4294967296)))] (Kp 21) (.cond 4 [0] [0, 2] (sr [wn 5 [wm 0, wh (.bin · .num .shr (.tmp 5) (.k (.int .u64 32)))],
 qn [qa 0 6]] [0] (q1 [qK 2 32] [0, 2])) .skip)) (.join [(false, 0, .one, [.num .u64]), cv 2 .i] (sw 7 [wm 0, wh (.bin · .num .geq (.tmp 7) (.k (.int .u64 65536)))] (Kp 261) (.cond 8 [0, 2] [0, 2] (sr [wn 9 [wm 0, wh (.bin · .num .shr (.tmp 9) (.k (.int .u64 16)))],
 qn [qa 0 10]] [0, 2] (qr [wn 11 [wm 2, wI .add 16],
 qn [qa 2 12]] [0, 2])) .skip)) (.join [(false, 0, .one, [.num .u64]), cv 2 .i] (sw 13 [wm 0, wh (.bin · .num .geq (.tmp 13) (.k (.int .u64 256)))] [0, 2, 14] (.cond 14 [0, 2] [0, 2] (sr [wn 15 [wm 0, wh (.bin · .num .shr (.tmp 15) (.k (.int .u64 8)))],
 qn [qa 0 16]] [0, 2] (qr [wn 17 [wm 2, wI .add 8],
 qn [qa 2 18]] [0, 2])) .skip)) (sr [wn 19 [wm 2, wm 0, wh (.cvI · .u8 (.tmp 20)), wh (.ix · (.k (.str [0, 1, 2, 2, 3, 3, 3, 3, 4, 4, 4, 4, 4, 4, 4, 4, 5, 5, 5, 5, 5, 5, 5, 5, 5, 5, 5, 5, 5, 5, 5, 5, 6, 6, 6, 6, 6, 6, 6, 6, 6, 6, 6, 6, 6, 6, 6, 6, 6, 6, 6, 6, 6, 6, 6, 6, 6, 6, 6, 6, 6, 6, 6, 6, 7, 7, 7, 7, 7, 7, 7, 7, 7, 7, 7, 7, 7, 7, 7, 7, 7, 7, 7, 7, 7, 7, 7, 7, 7, 7, 7, 7, 7, 7, 7, 7, 7, 7, 7, 7, 7, 7, 7, 7, 7, 7, 7, 7, 7, 7, 7, 7, 7, 7, 7, 7, 7, 7, 7, 7, 7, 7, 7, 7, 7, 7, 7, 7, 8, 8, 8, 8, 8, 8, 8, 8, 8, 8, 8, 8, 8, 8, 8, 8, 8, 8, 8, 8, 8, 8, 8, 8, 8, 8, 8, 8, 8, 8, 8, 8, 8, 8, 8, 8, 8, 8, 8, 8, 8, 8, 8, 8, 8, 8, 8, 8, 8, 8, 8, 8, 8, 8, 8, 8, 8, 8, 8, 8, 8, 8, 8, 8, 8, 8, 8, 8, 8, 8, 8, 8, 8, 8, 8, 8, 8, 8, 8, 8, 8, 8, 8, 8, 8, 8, 8, 8, 8, 8, 8, 8, 8, 8, 8, 8, 8, 8, 8, 8, 8, 8, 8, 8, 8, 8, 8, 8, 8, 8, 8, 8, 8, 8, 8, 8, 8, 8, 8, 8, 8, 8, 8, 8, 8, 8, 8, 8])) (.tmp 21)), wh (.cvI · .i64 (.tmp 22)), wB .add 19],
 qn [qa 2 24]] [2] .ret))))⟩
def d_xcx_j3 (x_ : (Int × Int)) : Option Int :=
 match x_ with
 | (v5, v6) => bd (α := UInt8) (at? [0, 1, 2, 2, 3, 3, 3, 3, 4, 4, 4, 4, 4, 4, 4, 4, 5, 5, 5, 5, 5, 5, 5, 5, 5, 5, 5, 5, 5, 5, 5, 5, 6, 6, 6, 6, 6, 6, 6, 6, 6, 6, 6, 6, 6, 6, 6, 6, 6, 6, 6, 6, 6, 6, 6, 6, 6, 6, 6, 6, 6, 6, 6, 6, 7, 7, 7, 7, 7, 7, 7, 7, 7, 7, 7, 7, 7, 7, 7, 7, 7, 7, 7, 7, 7, 7, 7, 7, 7, 7, 7, 7, 7, 7, 7, 7, 7, 7, 7, 7, 7, 7, 7, 7, 7, 7, 7, 7, 7, 7, 7, 7, 7, 7, 7, 7, 7, 7, 7, 7, 7, 7, 7, 7, 7, 7, 7, 7, 8, 8, 8, 8, 8, 8, 8, 8, 8, 8, 8, 8, 8, 8, 8, 8, 8, 8, 8, 8, 8, 8, 8, 8, 8, 8, 8, 8, 8, 8, 8, 8, 8, 8, 8, 8, 8, 8, 8, 8, 8, 8, 8, 8, 8, 8, 8, 8, 8, 8, 8, 8, 8, 8, 8, 8, 8, 8, 8, 8, 8, 8, 8, 8, 8, 8, 8, 8, 8, 8, 8, 8, 8, 8, 8, 8, 8, 8, 8, 8, 8, 8, 8, 8, 8, 8, 8, 8, 8, 8, 8, 8, 8, 8, 8, 8, 8, 8, 8, 8, 8, 8, 8, 8, 8, 8, 8, 8, 8, 8, 8, 8, 8, 8, 8, 8, 8, 8, 8, 8, 8, 8, 8, 8, 8, 8, 8, 8] (↑(toB v5).toNat : Int)) fun x7 =>
 some (w64 (v6 + w64 (↑x7.toNat : Int)))
def d_xcx_j2 (x_ : (Int × Int)) : Option Int :=
 match x_ with
 | (v3, v4) => br (decide (v3 >= 256))
  (jn (d_xcx_j3) ((shrI v3 8, w64 (v4 + 8))))
  (jn (d_xcx_j3) (v3, v4))
def d_xcx_j1 (x_ : (Int × Int)) : Option Int :=
 match x_ with
 | (v1, v2) => br (decide (v1 >= 65536))
  (jn (d_xcx_j2) ((shrI v1 16, w64 (v2 + 16))))
  (jn (d_xcx_j2) (v1, v2))
def d_xcx (p0 : Int) : Option Int :=
 br (decide (p0 >= 4294967296))
  (jn (d_xcx_j1) (shrI p0 32, 32))
  (jn (d_xcx_j1) (p0, 0))
def gf_xcx : GF := y_xcx.gf rfl rfl (fun a => d_xcx a.1) (fun a => by kernel_rfl)
def y_xcy : YF := ⟨[], [.v (.ki .u64)], [], .ret [.i], [.tmp 2],
 sq [qK 2 0] [0] (.seq (.scope .skip) (sr [wn 6 [wm 0, wY gf_xcx rfl],
 qn [qa 2 7]] [2] .ret))⟩
def d_xcy (p0 : Int) : Option Int :=
 bd (d_xcx p0) fun x1 =>
 some x1
def gf_xcy : GF := y_xcy.gf rfl rfl (fun a => d_xcy a.1) (fun a => by kernel_rfl)
def y_xcz : YF := ⟨[gf_xcm], [.m (.l (.st 5)), .v .i, .v .i, .f gf_xcm.x []], [0], .ret [], [],
 sr [wn 10 [wm 1, wI .add 1],
 qn [qa 8 11]] (Kp 271) (bl 0 [cv 0 (.l (.st 5)), cv 8 .i] (.seq (sw 12 [wm 8, wm 2, wB .lss 12] (Kp 16655) (ce 14 (Kp 271) [0] 0)) (.join [cv 0 (.l (.st 5))] (.block 1 (sq [qm 17 8, qa 9 17] (Kp 783) (bl 2 [cv 0 (.l (.st 5)), cv 9 .i] (.seq (.join [cv 34 .b] (.dreg (qd 0 [wn 18 [wm 9, wm 1, wB .gtr 18, wM],
 wt 21 22 [wm 3, wm 0, wm 9, wE (.st 5) 23, wK 2, wm 0, wm 9, wI .sub 1, wE (.st 5) 27, wK 2, wh (.callv · (.tmp 22) [.v, .v] [.tmp 26, .tmp 31]), wI .lss 0],
 qn [qq 34 21 33]] .nil) [0, 1, 2, 3, 8, 9, 34]) (ce 34 [0, 1, 2, 3, 8, 9] (Kp 271) 2)) (.seq (.block 3 (.dreg (qd 0 [wn 37 [wm 0, wm 9, wm 0, wm 9, wI .sub 1, wm 0, wm 9, wI .sub 1, wE (.st 5) 42, wK 2, wm 0, wm 9, wE (.st 5) 47, wK 2, we (.st 5) 37 38],
 qn [qw 2 51 46, qe 52 (.st 5) 39 41, qw 2 52 50]] .nil) [0, 1, 2, 3, 8, 9])) (qr [wn 35 [wm 9, wI .sub 1],
 qn [qa 9 36]] (Kp 783))))))) (qr [wn 15 [wm 8, wI .add 1],
 qn [qa 8 16]] (Kp 271)))))⟩
def d_xcz_j4 (L1 : ((List GPin) × Int) -> Option (List GPin)) (v3 : Int) (v21 : (List GPin)) : Option (List GPin) :=
 L1 ((v21, w64 (v3 + 1)))
def d_xcz_j3 (L1 : ((List GPin) × Int) -> Option (List GPin)) (v3 : Int) (L4 : ((List GPin) × Int) -> Option (List GPin)) (v5 : (List GPin)) (v6 : Int) (v12 : Bool) : Option (List GPin) :=
 br v12
  (bd (at? v5 (w64 (v6 - 1))) fun x13 =>
  bd (at? v5 (w64 (v6 - 1))) fun x14 =>
  bd (at? v5 v6) fun x15 =>
  bd (at? v5 v6) fun x16 =>
  bd (at? v5 v6) fun x17 =>
  bd (at? v5 v6) fun x18 =>
  bd (at? (List.set v5 v6.toNat x14) (w64 (v6 - 1))) fun x19 =>
  bd (at? (List.set v5 v6.toNat x14) (w64 (v6 - 1))) fun x20 =>
  L4 (((List.set v5 v6.toNat x14).set (w64 (v6 - 1)).toNat x16, w64 (v6 - 1))))
  (jn (d_xcz_j4 L1 v3) v5)
def d_xcz_l2 (p1 : Int) (L1 : ((List GPin) × Int) -> Option (List GPin)) (v3 : Int) (L4 : ((List GPin) × Int) -> Option (List GPin)) (x_ : ((List GPin) × Int)) : Option (List GPin) :=
 match x_ with
 | (v5, v6) => br (decide (v6 > p1))
  (bd (at? v5 v6) fun x7 =>
  bd (at? v5 v6) fun x8 =>
  bd (at? v5 (w64 (v6 - 1))) fun x9 =>
  bd (at? v5 (w64 (v6 - 1))) fun x10 =>
  bd (d_xcm x8 x10) fun x11 =>
  jn (d_xcz_j3 L1 v3 L4 v5 v6) (decide (x11 < 0)))
  (jn (d_xcz_j3 L1 v3 L4 v5 v6) false)
def d_xcz_l1 (p1 : Int) (p2 : Int) (L1 : ((List GPin) × Int) -> Option (List GPin)) (x_ : ((List GPin) × Int)) : Option (List GPin) :=
 match x_ with
 | (v2, v3) => br (decide (v3 < p2))
  (loopN (d_xcz_l2 p1 L1 v3) big (v2, v3))
  (some v2)
def d_xcz (p0 : (List GPin)) (p1 : Int) (p2 : Int) : Option (List GPin) :=
 loopN (d_xcz_l1 p1 p2) big ((p0, w64 (p1 + 1)))
def gf_xcz : GF := y_xcz.gf rfl rfl (fun a => d_xcz a.1 a.2.1 a.2.2.1) (fun a => by kernel_rfl)
def y_xc0 : YF := ⟨[gf_xcm], [.m (.l (.st 5)), .v .i, .v .i, .v .i, .f gf_xcm.x []], [0], .ret [], [],
 sq [qB 10 true] (Kp 1055) (sq [qB 11 true] (Kp 3103) (bl 0 [] (.block 1 (sr [wn 21 [wm 2, wm 1, wB .sub 21],
 qn [qa 12 23]] (Kp 7199) (.seq (sw 24 [wm 12, wI .leq 12] (Kp 33561631) (.cond 25 [0, 1, 2, 4] (Kp 7199) (sw 26 [wm 0, wm 1, wm 2, wm 4, wh (.call · gf_xcz [0] rfl [.tmp 26, .tmp 27, .tmp 28, .tmp 29])] [0] .ret) .skip)) (.seq (sw 31 [wm 3, wI .eql 0] (Kp 4294974495) (.cond 32 [0, 1, 2, 4] (Kp 7199) (sr [wn 33 [wm 0, wm 1, wm 2, wm 4],
 qn [.bad (some 37)]] [0] .ret) .skip)) (.seq (sw 38 [wm 10, wX] (Kp 549755821087) (.cond 39 [0, 1, 2, 3, 4, 10, 11, 12] (Kp 7199) (sr [wn 40 [wm 0, wm 1, wm 2, wm 4],
 qn [.bad (some 44)]] (Kp 7199) (qr [wn 45 [wm 3, wI .sub 1],
 qn [qa 3 46]] (Kp 7199))) .skip)) (sr [wn 48 [wm 0, wm 1, wm 2, wm 4],
 qn [.bad (some 52), qm 47 52],
 wn 53 [wh (.ext · (.tmp 47) 0), wh (.ext · (.tmp 47) 1)],
 qn [qa 13 53, qa 14 54]] (Kp 31775) (.seq (sw 55 [wm 14, wI .eql 2] (Kp 72057594037959711) (.cond 56 [0, 1, 2, 3, 4, 10, 11, 12, 13] (Kp 31775) (sr [wn 57 [wm 0, wm 1, wm 2, wm 4],
 qn [.bad (some 61)]] (Kp 15391) (sr [wn 62 [wm 2, wI .sub 1, wm 13, wm 1, wB .sub 64, wB .sub 63],
 qn [qa 13 67]] (Kp 15391) (q1 [qK 14 1] (Kp 31775)))) .skip)) (.seq (sr [wn 68 [wm 10, wM],
 qt 69 [qm 70 11],
 wn 71 [wQ 69, wM],
 wt 72 73 [wm 14, wI .eql 1],
 qn [qq 75 72 74]] (Kp 37778931862957161724959) (.cond 75 [0, 1, 2, 3, 4, 10, 11, 12, 13] (Kp 15391) (sr [wn 76 [wm 0, wm 1, wm 2, wm 4],
 qn [.bad (some 80)]] (Kp 1208925819614629174721567) (.cond 80 [0] (Kp 15391) .ret .skip)) .skip)) (.seq (.seq (.dreg (qd 0 [wn 81 [wm 1, wI .gtr 0, wM],
 wt 83 84 [wm 4, wm 0, wm 1, wI .sub 1, wE (.st 5) 85, wK 2, wm 0, wm 13, wE (.st 5) 90, wK 2],
 qt 83 [.bad (some 94)],
 wt 83 95 [wI .lss 0, wX],
 qn [qq 97 83 96]] .nil) [0, 1, 2, 3, 4, 10, 11, 12, 13, 97]) (.cond 97 [0, 1, 2, 3, 4, 10, 11, 13] (Kp 12319) (sr [wn 98 [wm 0, wm 1, wm 2, wm 13, wm 4],
 qn [.bad (some 103), qa 15 103]] (Kp 35869) (sq [qm 104 15, qa 1 104] (Kp 3103) (.exit 1))) .skip)) (sr [wn 106 [wm 0, wm 1, wm 2, wm 13, wm 4],
 qn [.bad (some 111), qm 105 111],
 wn 112 [wh (.ext · (.tmp 105) 0), wh (.ext · (.tmp 105) 1)],
 qn [qa 16 112, qa 17 113]] (Kp 200735) (sq [qm 114 17, qa 11 114] (Kp 71711) (sr [wn 115 [wm 16, wm 1, wB .sub 115, wm 2, wm 16, wB .sub 118],
 qn [qa 18 117, qa 19 120]] (Kp 858143) (sr [wn 121 [wm 12, wI .quo 8],
 qn [qa 20 122]] (Kp 1902623) (sw 123 [wm 18, wm 19, wB .lss 123] [0, 1, 2, 3, 4, 11, 16, 18, 19, 20, 125] (.cond 125 [0, 1, 2, 3, 4, 11, 16, 18, 20] (Kp 1640479) (sr [wn 126 [wm 18, wm 20, wB .geq 126],
 qn [qa 10 128]] (Kp 68639) (sr [wn 129 [wm 0, wm 1, wm 16, wm 3, wm 4],
 qn [.bad (some 134)]] (Kp 68637) (qr [wn 135 [wm 16, wI .add 1],
 qn [qa 1 136]] (Kp 3103)))) (sr [wn 137 [wm 19, wm 20, wB .geq 137],
 qn [qa 10 139]] (Kp 68639) (sr [wn 140 [wm 0, wm 16, wI .add 1, wm 2, wm 3, wm 4],
 qn [.bad (some 146)]] (Kp 68635) (q1 [qm 147 16, qa 2 147] (Kp 3103)))))))))))))))))))))⟩
def d_xc0_l1 (p0 : (List GPin)) (p1 : Int) (p2 : Int) (p3 : Int) (L1 : PUnit -> Option (List GPin)) (_ : PUnit) : Option (List GPin) :=
 br (decide (w64 (p2 - p1) <= 12))
  (bd (d_xcz p0 p1 p2) fun x2 =>
  some x2)
  (br (p3 == 0)
   (none)
   (none))
def d_xc0 (p0 : (List GPin)) (p1 : Int) (p2 : Int) (p3 : Int) : Option (List GPin) :=
 loopN (d_xc0_l1 p0 p1 p2 p3) big ()
def gf_xc0 : GF := y_xc0.gf rfl rfl (fun a => d_xc0 a.1 a.2.1 a.2.2.1 a.2.2.2.1) (fun a => by kernel_rfl)
def y_xc1 : YF := ⟨[gf_xcm], [.m (.l (.st 5)), .f gf_xcm.x []], [0], .ret [], [],
 sr [wn 5 [wm 0, wZ],
 qn [qa 4 6]] (Kp 19) (w1 7 [wm 0, wm 4, wm 4, wh (.cvI · .u64 (.tmp 9)), wY gf_xcy rfl, wm 1, wh (.call · gf_xc0 [0] rfl [.tmp 7, qj 0, .tmp 8, .tmp 11, .tmp 12])] [0])⟩
def d_xc1 (p0 : (List GPin)) : Option (List GPin) :=
 bd (d_xcy (Go.IntKind.u64.wrap (↑p0.length : Int))) fun x1 =>
 bd (d_xc0 p0 0 (↑p0.length : Int) x1) fun x2 =>
 some x2
def gf_xc1 : GF := y_xc1.gf rfl rfl (fun a => d_xc1 a.1) (fun a => by kernel_rfl)
def y_xc2 : YF := ⟨[gf_xcm], [.v (.st 6)], [], .ret [(.l (.st 5))], [.tmp 2],
 sq [qu 1 0, .as 2 (.k .nil), .nils [(.tmp 2 0, (.st 5))]] [1] (.seq (sw 6 [wk 1 1, wY gf_xcn rfl, wX] [1, 8] (cn 8 [1] (sq [.as 2 (.k .nil), .nils [(.tmp 2 0, (.st 5))]] [2] .ret))) (sq [.as 3 (.k .nil), .nils [(.tmp 3 0, (.st 5))]] [1, 3] (.join [cv 3 (.l (.st 5))] (sw 9 [wo 0 1, wL, wZ, wj 0] (Kp 7176) (bl 0 [cv 3 (.l (.st 5)), cv 12 .i] (sq [qb 13 .lss 12 11] (Kp 15368) (.seq (ce 13 (Kp 7176) [3] 0) (.seq (.block 1 (sr [wn 14 [we (.l (.st 5)) 10 12, wL],
 qn [qa 5 15]] (Kp 7208) (qr [wn 16 [wm 3, wm 5, wh (.app · (.st 5) true (.tmp 16) (.tmp 17))],
 qn [qa 3 18]] (Kp 7176)))) (q1 [qi 19 .add 12 1, qm 12 19] (Kp 7176))))))) (sw 20 [wm 3, wh (.call · gf_xc1 [0] rfl [.tmp 20, (.fn 0)])] [3] (sq [qm 22 3, qa 2 22] [2] .ret)))))⟩
def d_xc2_j2 (v6 : (List GPin)) : Option (List GPin) :=
 bd (d_xc1 v6) fun x7 =>
 some x7
def d_xc2_l1 (p0 : GWheel) (L2 : ((List GPin) × Int) -> Option (List GPin)) (x_ : ((List GPin) × Int)) : Option (List GPin) :=
 match x_ with
 | (v3, v4) => br (decide (v4 < (↑p0.Spoke.length : Int)))
  (bd (at? p0.Spoke v4) fun x5 =>
  gd (List.length v3 + List.length x5 <= lim) (
  L2 ((v3 ++ x5, w64 (v4 + 1)))))
  (jn (d_xc2_j2) v3)
def d_xc2 (p0 : GWheel) : Option (List GPin) :=
 bd (d_xcn p0) fun x1 =>
 br (!x1)
  (some [])
  (loopN (d_xc2_l1 p0) big ([], 0))
def gf_xc2 : GF := y_xc2.gf rfl rfl (fun a => d_xc2 a.1) (fun a => by kernel_rfl)
def y_xc3 : YF := ⟨[gf_xcm], [.m (.l (.st 5)), .v .i, .f gf_xcm.x []], [0], .ret [], [],
 sq [qK 6 20] (Kp 71) (sq [qm 10 6, qK 7 0, qa 8 10] (Kp 455) (.join [cv 0 (.l (.st 5)), cv 7 .i] (bl 0 [cv 0 (.l (.st 5)), cv 7 .i, cv 8 .i] (.seq (sw 11 [wm 8, wm 1, wB .leq 11] (Kp 8647) (ce 13 [0, 1, 2, 6, 7, 8] (Kp 199) 0)) (.block 1 (sw 14 [wm 0, wm 7, wm 8, wm 2, wh (.call · gf_xcz [0] rfl [.tmp 14, .tmp 15, .tmp 16, .tmp 17])] (Kp 327) (sq [qm 19 8, qa 7 19] (Kp 455) (qr [wn 20 [wm 8, wm 6, wB .add 20],
 qn [qa 8 22]] (Kp 455))))))) (sw 23 [wm 0, wm 7, wm 1, wm 2, wh (.call · gf_xcz [0] rfl [.tmp 23, .tmp 24, .tmp 25, .tmp 26])] (Kp 71) (bl 2 [cv 6 .i] (.seq (sw 28 [wm 6, wm 1, wB .lss 28] (Kp 1073741895) (ce 30 (Kp 71) [0] 2)) (.block 3 (sr [wn 31 [wm 6, wh (.bin · .num .mul (.k (.int .i64 2)) (.tmp 31))],
 qn [qK 7 0, qa 8 32]] (Kp 455) (.join [] (bl 4 [] (.seq (sw 33 [wm 8, wm 1, wB .leq 33] (Kp 34359738823) (ce 35 [0, 1, 2, 6, 7, 8] (Kp 199) 4)) (.block 5 (sr [wn 36 [wm 0, wm 7, wm 7, wm 6, wB .add 38, wm 8, wm 2],
 qn [.bad (some 43)]] (Kp 327) (sq [qm 44 8, qa 7 44] (Kp 455) (qr [wn 45 [wm 8, wm 6, wh (.bin · .num .mul (.k (.int .i64 2)) (.tmp 46)), wB .add 45],
 qn [qa 8 48]] (Kp 455))))))) (.seq (sr [wn 49 [wm 7, wm 6, wB .add 49],
 qn [qa 9 51]] (Kp 711) (sw 52 [wm 9, wm 1, wB .lss 52] [0, 1, 2, 6, 7, 9, 54] (.cond 54 [0, 1, 2, 6, 7, 9] (Kp 71) (qr [wn 55 [wm 0, wm 7, wm 9, wm 1, wm 2],
 qn [.bad (some 60)]] (Kp 71)) .skip))) (qr [wn 61 [wm 6, wI .mul 2],
 qn [qa 6 62]] (Kp 71)))))))))))⟩
def d_xc3_j5 (p1 : Int) (L9 : Int -> Option (List GPin)) (v10 : Int) (_ : PUnit) : Option (List GPin) :=
 br (decide (w64 (0 + v10) < p1))
  (none)
  (L9 (w64 (v10 * 2)))
def d_xc3_l4 (p1 : Int) (L9 : Int -> Option (List GPin)) (v10 : Int) (L11 : PUnit -> Option (List GPin)) (_ : PUnit) : Option (List GPin) :=
 br (decide (w64 (2 * v10) <= p1))
  (none)
  (jn (d_xc3_j5 p1 L9 v10) ())
def d_xc3_l3 (p1 : Int) (x8 : (List GPin)) (L9 : Int -> Option (List GPin)) (v10 : Int) : Option (List GPin) :=
 br (decide (v10 < p1))
  (loopN (d_xc3_l4 p1 L9 v10) big ())
  (some x8)
def d_xc3_j2 (p1 : Int) (x_ : ((List GPin) × Int)) : Option (List GPin) :=
 match x_ with
 | (v6, v7) => bd (d_xcz v6 v7 p1) fun x8 =>
 loopN (d_xc3_l3 p1 x8) big 20
def d_xc3_l1 (p1 : Int) (L1 : ((List GPin) × Int × Int) -> Option (List GPin)) (x_ : ((List GPin) × Int × Int)) : Option (List GPin) :=
 match x_ with
 | (v2, v3, v4) => br (decide (v4 <= p1))
  (bd (d_xcz v2 v3 v4) fun x5 =>
  L1 ((x5, v4, w64 (v4 + 20))))
  (jn (d_xc3_j2 p1) (v2, v3))
def d_xc3 (p0 : (List GPin)) (p1 : Int) : Option (List GPin) :=
 loopN (d_xc3_l1 p1) big (p0, 0, 20)
def gf_xc3 : GF := y_xc3.gf rfl rfl (fun a => d_xc3 a.1 a.2.1) (fun a => by kernel_rfl)
def y_xc4 : YF := ⟨[gf_xcm], [.m (.l (.st 5)), .f gf_xcm.x []], [0], .ret [], [],
 w1 4 [wm 0, wm 0, wZ, wm 1, wh (.call · gf_xc3 [0] rfl [.tmp 4, .tmp 6, .tmp 7])] [0]⟩
def d_xc4 (p0 : (List GPin)) : Option (List GPin) :=
 bd (d_xc3 p0 (↑p0.length : Int)) fun x1 =>
 some x1
def gf_xc4 : GF := y_xc4.gf rfl rfl (fun a => d_xc4 a.1) (fun a => by kernel_rfl)
def y_xc5 : YF := ⟨[gf_xcm], [.v (.l (.st 2)), .v .i], [], .ret [(.l (.st 5))], [.tmp 4],
 sq [.as 4 (.k .nil), .nils [(.tmp 4 0, (.st 5))]] [0, 1] (sq [.as 5 (.k .nil), .nils [(.tmp 5 0, (.st 5))]] (Kp 35) (.join [cv 5 (.l (.st 5))] (sw 8 [wm 0, wZ, wj 0] (Kp 1826) (bl 0 [cv 5 (.l (.st 5)), cv 10 .i] (sq [qb 11 .lss 10 9] (Kp 3874) (.seq (ce 11 (Kp 1826) [5] 0) (.join [cv 5 (.l (.st 5))] (.block 1 (sr [wn 12 [we (.st 2) 8 10, wK 10],
 qn [.alloc 7 zGParty, qw 10 7 13]] (Kp 1954) (.join [cv 22 .b] (qr [wn 14 [wo 7 7, wL, wI .eql 2, wM],
 wt 17 18 [wo 1 7, wL, wm 1, wB .eql 19],
 qn [qq 22 17 21]] (Kp 4196258)) (.cond 22 [1, 5, 7, 8, 9, 10] (Kp 1826) (qr [wn 23 [wm 5, wo 8 7, wL, wo 0 7, wL, wh (.build · [.int .i64 0, .int .i64 0] [(0, 1, (.tmp 25)), (1, 1, (.tmp 27))]), wh (.bslice · 1 (.st 5) [(0, (.tmp 28))]), wh (.app · (.st 5) true (.tmp 23) (.tmp 29))],
 qn [qa 5 30]] (Kp 1826)) .skip)))) (q1 [qi 31 .add 10 1, qm 10 31] (Kp 1826))))))) (sw 32 [wm 5, wh (.call · gf_xc4 [0] rfl [.tmp 32, (.fn 0)])] [5] (sq [qm 34 5, qa 4 34] [4] .ret))))⟩
def d_xc5_j3 (L1 : ((List GPin) × Int) -> Option (List GPin)) (v3 : Int) (v6 : (List GPin)) : Option (List GPin) :=
 L1 ((v6, w64 (v3 + 1)))
def d_xc5_j2 (L1 : ((List GPin) × Int) -> Option (List GPin)) (v2 : (List GPin)) (v3 : Int) (x4 : GParty) (v5 : Bool) : Option (List GPin) :=
 br v5
  (gd (List.length v2 + [GPin.mk x4.Until x4.Id].length <= lim) (
  jn (d_xc5_j3 L1 v3) (v2 ++ [GPin.mk x4.Until x4.Id])))
  (jn (d_xc5_j3 L1 v3) v2)
def d_xc5_j4 (v7 : (List GPin)) : Option (List GPin) :=
 bd (d_xc4 v7) fun x8 =>
 some x8
def d_xc5_l1 (p0 : (List GParty)) (p1 : Int) (L1 : ((List GPin) × Int) -> Option (List GPin)) (x_ : ((List GPin) × Int)) : Option (List GPin) :=
 match x_ with
 | (v2, v3) => br (decide (v3 < (↑p0.length : Int)))
  (bd (at? p0 v3) fun x4 =>
  br (x4.State == 2)
   (jn (d_xc5_j2 L1 v2 v3 x4) (x4.Cabin == p1))
   (jn (d_xc5_j2 L1 v2 v3 x4) false))
  (jn (d_xc5_j4) v2)
def d_xc5 (p0 : (List GParty)) (p1 : Int) : Option (List GPin) :=
 loopN (d_xc5_l1 p0 p1) big ([], 0)
def gf_xc5 : GF := y_xc5.gf rfl rfl (fun a => d_xc5 a.1 a.2.1) (fun a => by kernel_rfl)
def y_xc6 : YF := ⟨[], [.v (.l (.st 5)), .v (.l (.st 5))], [], .ret [.b], [.tmp 4],
 sq [qB 4 false] [0, 1] (.seq (sw 6 [wm 0, wZ, wm 1, wZ, wB .neq 7] (Kp 1027) (cn 10 [0, 1] (sq [qB 4 false] [4] .ret))) (.join [] (sw 11 [wm 0, wZ, wj 0] (Kp 12291) (bl 0 [cv 13 .i] (sq [qb 14 .lss 13 12] (Kp 28675) (.seq (ce 14 (Kp 12291) [] 0) (.seq (.block 1 (sq [qm 15 13, qa 5 15] (Kp 12323) (.seq (.dreg (qd 0 [wn 16 [wm 0, wm 5, wE (.st 5) 16, wK 2, wm 1, wm 5, wE (.st 5) 20, wK 2, wh (.bin · (.agg [.i, .i]) .neq (.tmp 19) (.tmp 23))]] .nil) [0, 1, 12, 13, 24]) (cn 24 (Kp 12291) (sq [qB 4 false] [4] .ret))))) (q1 [qi 25 .add 13 1, qm 13 25] (Kp 12291))))))) (sq [qB 4 true] [4] .ret)))⟩
def d_xc6_j2 (_ : PUnit) : Option Bool :=
 some true
def d_xc6_l1 (p0 : (List GPin)) (p1 : (List GPin)) (L1 : Int -> Option Bool) (v2 : Int) : Option Bool :=
 br (decide (v2 < (↑p0.length : Int)))
  (bd (at? p0 v2) fun x3 =>
  bd (at? p1 v2) fun x4 =>
  br (!(x3.At == x4.At && (x3.Id == x4.Id && true)))
   (some false)
   (L1 (w64 (v2 + 1))))
  (jn (d_xc6_j2) ())
def d_xc6 (p0 : (List GPin)) (p1 : (List GPin)) : Option Bool :=
 br ((↑p0.length : Int) != (↑p1.length : Int))
  (some false)
  (loopN (d_xc6_l1 p0 p1) big 0)
def gf_xc6 : GF := y_xc6.gf rfl rfl (fun a => d_xc6 a.1 a.2.1) (fun a => by kernel_rfl)
def y_xc7 : YF := ⟨[], [.v (.l (.st 2)), .v .i], [], .ret [.i], [.tmp 4],
 sq [qK 4 0] [0, 1] (sq [qK 5 0] (Kp 35) (.join [cv 5 .i] (sw 8 [wm 0, wZ, wj 0] (Kp 1826) (bl 0 [cv 5 .i, cv 10 .i] (sq [qb 11 .lss 10 9] (Kp 3874) (.seq (ce 11 (Kp 1826) [5] 0) (.join [cv 5 .i] (.block 1 (sr [wn 12 [we (.st 2) 8 10, wK 10],
 qn [.alloc 7 zGParty, qw 10 7 13]] (Kp 1954) (.join [cv 27 .b] (qr [wn 14 [wo 7 7, wL, wI .eql 2, wM],
 wt 17 18 [wo 1 7, wL, wm 1, wB .eql 19],
 wn 22 [wQ 17, wM],
 wt 23 24 [wo 3 7, wL, wc gf_xb7 rfl [25, qj 1, qj 6]],
 qn [qq 27 23 26]] (Kp 134219682)) (.cond 27 [1, 5, 7, 8, 9, 10] (Kp 1826) (qr [wn 28 [wm 5, wo 3 7, wL, wB .add 28],
 qn [qa 5 31]] (Kp 1826)) .skip)))) (q1 [qi 32 .add 10 1, qm 10 32] (Kp 1826))))))) (sq [qm 33 5, qa 4 33] [4] .ret)))⟩
def d_xc7_j3 (L1 : (Int × Int) -> Option Int) (v3 : Int) (v7 : Int) : Option Int :=
 L1 ((v7, w64 (v3 + 1)))
def d_xc7_j2 (L1 : (Int × Int) -> Option Int) (v2 : Int) (v3 : Int) (x4 : GParty) (v6 : Bool) : Option Int :=
 br v6
  (jn (d_xc7_j3 L1 v3) (w64 (v2 + x4.Size)))
  (jn (d_xc7_j3 L1 v3) v2)
def d_xc7_j4 (v8 : Int) : Option Int :=
 some v8
def d_xc7_l1 (p0 : (List GParty)) (p1 : Int) (L1 : (Int × Int) -> Option Int) (x_ : (Int × Int)) : Option Int :=
 match x_ with
 | (v2, v3) => br (decide (v3 < (↑p0.length : Int)))
  (bd (at? p0 v3) fun x4 =>
  br (x4.State == 2)
   (br (x4.Cabin == p1)
    (bd (d_xb7 x4.Size 1 6) fun x5 =>
    jn (d_xc7_j2 L1 v2 v3 x4) x5)
    (jn (d_xc7_j2 L1 v2 v3 x4) false))
   (jn (d_xc7_j2 L1 v2 v3 x4) false))
  (jn (d_xc7_j4) v2)
def d_xc7 (p0 : (List GParty)) (p1 : Int) : Option Int :=
 loopN (d_xc7_l1 p0 p1) big (0, 0)
def gf_xc7 : GF := y_xc7.gf rfl rfl (fun a => d_xc7 a.1 a.2.1) (fun a => by kernel_rfl)
def y_xc8 : YF := ⟨[], [.v (.l (.st 2)), .v .i], [], .ret [.i], [.tmp 4],
 sq [qK 4 0] [0, 1] (sq [qK 5 0] (Kp 35) (.join [cv 5 .i] (sw 8 [wm 0, wZ, wj 0] (Kp 1826) (bl 0 [cv 5 .i, cv 10 .i] (sq [qb 11 .lss 10 9] (Kp 3874) (.seq (ce 11 (Kp 1826) [5] 0) (.join [cv 5 .i] (.block 1 (sr [wn 12 [we (.st 2) 8 10, wK 10],
 qn [.alloc 7 zGParty, qw 10 7 13]] (Kp 1954) (.join [cv 22 .b] (qr [wn 14 [wo 2 7, wL, wm 1, wB .eql 15, wM],
 wt 18 19 [wo 3 7, wL, wc gf_xb7 rfl [20, qj 1, qj 6]],
 qn [qq 22 18 21]] (Kp 4196258)) (.cond 22 [1, 5, 7, 8, 9, 10] (Kp 1826) (qr [wn 23 [wm 5, wo 3 7, wL, wB .add 23],
 qn [qa 5 26]] (Kp 1826)) .skip)))) (q1 [qi 27 .add 10 1, qm 10 27] (Kp 1826))))))) (sq [qm 28 5, qa 4 28] [4] .ret)))⟩
def d_xc8_j3 (L1 : (Int × Int) -> Option Int) (v3 : Int) (v7 : Int) : Option Int :=
 L1 ((v7, w64 (v3 + 1)))
def d_xc8_j2 (L1 : (Int × Int) -> Option Int) (v2 : Int) (v3 : Int) (x4 : GParty) (v6 : Bool) : Option Int :=
 br v6
  (jn (d_xc8_j3 L1 v3) (w64 (v2 + x4.Size)))
  (jn (d_xc8_j3 L1 v3) v2)
def d_xc8_j4 (v8 : Int) : Option Int :=
 some v8
def d_xc8_l1 (p0 : (List GParty)) (p1 : Int) (L1 : (Int × Int) -> Option Int) (x_ : (Int × Int)) : Option Int :=
 match x_ with
 | (v2, v3) => br (decide (v3 < (↑p0.length : Int)))
  (bd (at? p0 v3) fun x4 =>
  br (x4.From == p1)
   (bd (d_xb7 x4.Size 1 6) fun x5 =>
   jn (d_xc8_j2 L1 v2 v3 x4) x5)
   (jn (d_xc8_j2 L1 v2 v3 x4) false))
  (jn (d_xc8_j4) v2)
def d_xc8 (p0 : (List GParty)) (p1 : Int) : Option Int :=
 loopN (d_xc8_l1 p0 p1) big (0, 0)
def gf_xc8 : GF := y_xc8.gf rfl rfl (fun a => d_xc8 a.1 a.2.1) (fun a => by kernel_rfl)
def y_xc9 : YF := ⟨[], [.v (.st 1), .v (.st 7), .v (.l (.st 2)), .v .i, .v .i], [], .ret [.b], [.tmp 10],
 sq [qu 5 0, qu 6 1, qB 10 false] (Kp 124) (.join [cv 10 .b] (.dreg (qd 0 [wn 11 [wk 7 6, wY gf_xco rfl, wM],
 wt 13 14 [wo 5 6, wL, wk 9 5, wm 2, wm 3, wm 4]] (.op 9 (some (13, true)) [14] (.call 20 gf_xcv [] rfl [(.tmp 16), (.tmp 17), (.tmp 18), (.tmp 19)])
 (qd 10 [qt 13 [qc 21 gf_xcw rfl [15, 20]],
 wn 22 [wQ 13, wM],
 wt 23 24 [wo 6 6, wK 1]] (qd 16 [wt 23 27 [wm 2, wm 3]] (.op 15 (some (23, true)) [] (.call 26 gf_xc2 [] rfl [(.tmp 25)])
 (qd 18 [wt 23 29 [wc gf_xc5 rfl [27, 28], wc gf_xc6 rfl [26, 29]],
 wn 31 [wQ 23, wM],
 wt 32 33 [wo 0 6, wO 2, wL, wm 2, wm 3]] (.op 27 (some (32, true)) [34] (.call 38 gf_xc7 [] rfl [(.tmp 36), (.tmp 37)])
 (qd 28 [qt 32 [qb 39 .eql 35 38],
 wn 40 [wQ 32, wM],
 wt 41 42 [wo 0 6, wO 4, wL, wm 2, wm 3]] (.op 36 (some (41, true)) [43] (.call 47 gf_xc8 [] rfl [(.tmp 45), (.tmp 46)])
 (qd 37 [qt 41 [qb 48 .eql 44 47],
 qn [qq 49 41 48, qa 10 49]] .nil)))))))))) [10]) .ret)⟩
def d_xc9_j1 (v9 : Bool) : Option Bool :=
 some v9
def d_xc9 (p0 : GRules) (p1 : GCabin) (p2 : (List GParty)) (p3 : Int) (p4 : Int) : Option Bool :=
 bd (d_xco p1) fun x1 =>
 br x1
  (bd (d_xcv p0 p2 p3 p4) fun x2 =>
  bd (d_xcw p1.Row x2) fun x3 =>
  br x3
   (bd (d_xc2 p1.Wheel) fun x4 =>
   bd (d_xc5 p2 p3) fun x5 =>
   bd (d_xc6 x4 x5) fun x6 =>
   br x6
    (bd (d_xc7 p2 p3) fun x7 =>
    br (p1.Seats.Held == x7)
     (bd (d_xc8 p2 p3) fun x8 =>
     jn (d_xc9_j1) (p1.Seats.Tied == x8))
     (jn (d_xc9_j1) false))
    (jn (d_xc9_j1) false))
   (jn (d_xc9_j1) false))
  (jn (d_xc9_j1) false)
def gf_xc9 : GF := y_xc9.gf rfl rfl (fun a => d_xc9 a.1 a.2.1 a.2.2.1 a.2.2.2.1 a.2.2.2.2.1) (fun a => by kernel_rfl)
def y_xda : YF := ⟨[], [.v (.l .i), .v .i], [], .ret [.i], [.tmp 4],
 sq [qK 4 0] [0, 1] (.join [] (sw 6 [wm 0, wZ, wj 0] (Kp 387) (bl 0 [cv 8 .i] (sq [qb 9 .lss 8 7] (Kp 899) (.seq (ce 9 (Kp 387) [] 0) (.seq (.block 1 (sq [qm 10 8, qa 5 10] (Kp 419) (sw 11 [wm 1, wm 0, wm 5, wE .i 12, wL, wB .eql 11] (Kp 65955) (.cond 16 [5] (Kp 387) (sq [qm 17 5, qa 4 17] [4] .ret) .skip)))) (q1 [qi 18 .add 8 1, qm 8 18] (Kp 387))))))) (sq [qK 4 (-1)] [4] .ret))⟩
def d_xda_j2 (_ : PUnit) : Option Int :=
 some (-1)
def d_xda_l1 (p0 : (List Int)) (p1 : Int) (L1 : Int -> Option Int) (v2 : Int) : Option Int :=
 br (decide (v2 < (↑p0.length : Int)))
  (bd (at? p0 v2) fun x3 =>
  br (p1 == x3)
   (some v2)
   (L1 (w64 (v2 + 1))))
  (jn (d_xda_j2) ())
def d_xda (p0 : (List Int)) (p1 : Int) : Option Int :=
 loopN (d_xda_l1 p0 p1) big 0
def gf_xda : GF := y_xda.gf rfl rfl (fun a => d_xda a.1 a.2.1) (fun a => by kernel_rfl)
def y_xdb : YF := ⟨[], [.v (.l .i), .v .i], [], .ret [.b], [.tmp 4],
 sq [qB 4 false] [0, 1] (sr [wn 5 [wm 0, wm 1, wc gf_xda rfl [5, 6], wI .geq 0],
 qn [qa 4 8]] [4] .ret)⟩
def d_xdb (p0 : (List Int)) (p1 : Int) : Option Bool :=
 bd (d_xda p0 p1) fun x1 =>
 some (decide (x1 >= 0))
def gf_xdb : GF := y_xdb.gf rfl rfl (fun a => d_xdb a.1 a.2.1) (fun a => by kernel_rfl)
def y_xdc : YF := ⟨[], [.v (.st 8)], [], .ret [.b], [.tmp 2],
 sq [qu 1 0, qB 2 false] [1] (sr [wn 14 [wo 0 1, wO 0, wL, wZ],
 qn [qa 3 17]] [1, 3] (.seq (.join [cv 49 .b] (qr [wn 18 [wo 0 1, wK 9, wY gf_xb8 rfl, wX, wM],
 wf 22 23 [wo 9 1, wL, wc gf_xb7 rfl [24, qj 0, qj 1000000], wX],
 wn 27 [wR 22, wM],
 wf 28 29 [wo 10 1, wL, wc gf_xb7 rfl [30, qj 1, qj 1000001], wX],
 wn 33 [wR 28, wM],
 wf 34 35 [wo 12 1, wL, wZ, wm 3, wB .neq 37],
 wn 40 [wR 34, wM],
 wf 41 42 [wo 14 1, wL, wZ, wo 0 1, wO 8, wL, wB .neq 44],
 qn [qp 49 41 48]] [1, 3, 49]) (cn 49 [1, 3] (sq [qB 2 false] [2] .ret))) (.seq (sw 50 [wo 11 1, wL, wZ, wI .gtr 40] [1, 3, 53] (cn 53 [1, 3] (sq [qB 2 false] [2] .ret))) (.join [] (sw 54 [wo 11 1, wL, wZ, wj 0] [1, 3, 55, 56, 57] (bl 0 [cv 57 .i] (sq [qb 58 .lss 57 56] [1, 3, 55, 56, 57, 58] (.seq (ce 58 [1, 3, 55, 56, 57] [1, 3] 0) (.join [] (.block 1 (sr [wn 59 [wm 57, we (.st 2) 55 57, wK 10],
 qn [.alloc 5 zGParty, qa 4 59, qw 10 5 61]] (Kp 252201579132747834) (.seq (.join [cv 91 .b] (.dreg (qd 0 [wn 62 [wo 0 1, wK 9, wk 10 5, wo 9 1, wL, wc gf_xca rfl [63, 64, 66], wX, wM],
 wf 69 70 [wo 6 5, wL, wo 10 1, wL, wB .geq 71],
 wn 75 [wR 69, wM],
 wf 76 77 [wm 4, wI .gtr 0, wM],
 wt 79 80 [wo 11 1, wL, wm 4, wI .sub 1, wE (.st 2) 81, wO 0, wL, wo 0 5, wL, wB .geq 86],
 qf 76 [qq 90 79 89],
 qn [qp 91 76 90]] .nil) [1, 3, 4, 5, 55, 56, 57, 91]) (cn 91 (Kp 252201579132747834) (sq [qB 2 false] [2] .ret))) (sw 92 [wo 11 1, wL, wm 4, wh (.sub · (.st 2) (.tmp 93) none (some (.tmp 94))), wZ, wj 0] [1, 3, 5, 55, 56, 57, 95, 96, 97] (bl 2 [cv 97 .i] (sq [qb 98 .lss 97 96] (Kp 594211218857234733530712375338) (.seq (ce 98 [1, 3, 5, 55, 56, 57, 95, 96, 97] [1, 3, 55, 56, 57] 2) (.seq (.block 3 (sr [wn 99 [we (.st 2) 95 97, wK 10],
 qn [.alloc 7 zGParty, qw 10 7 100]] (Kp 277298568800177383156536574122) (.join [cv 133 .b] (qr [wn 101 [wo 6 5, wL, wo 6 7, wL, wB .eql 102, wM],
 wf 106 107 [wo 6 5, wL, wo 6 7, wL, wB .lss 108, wM],
 wt 112 113 [wo 5 5, wL, wo 5 7, wL, wB .gtr 114],
 qf 106 [qq 118 112 117],
 wn 119 [wR 106, wM],
 wf 120 121 [wo 6 7, wL, wo 6 5, wL, wB .lss 122, wM],
 wt 126 127 [wo 5 7, wL, wo 5 5, wL, wB .gtr 128],
 qf 120 [qq 132 126 131],
 qn [qp 133 120 132]] [1, 3, 5, 55, 56, 57, 95, 96, 97, 133]) (cn 133 [1, 3, 5, 55, 56, 57, 95, 96, 97] (sq [qB 2 false] [2] .ret))))) (q1 [qi 134 .add 97 1, qm 97 134] [1, 3, 5, 55, 56, 57, 95, 96, 97]))))))))) (q1 [qi 135 .add 57 1, qm 57 135] [1, 3, 55, 56, 57])))))) (.join [] (sw 136 [wo 12 1, wL, wZ, wj 0] [1, 3, 137, 138, 139] (bl 4 [cv 139 .i] (sq [qb 140 .lss 139 138] [1, 3, 137, 138, 139, 140] (.seq (ce 140 [1, 3, 137, 138, 139] [1, 3] 4) (.seq (.block 5 (sr [wn 141 [wm 139, we (.st 7) 137 139, wK 7],
 qn [.alloc 9 zGCabin, .nils [(.cell 9 5, (.st 4)), (.cell 9 6, (.l (.st 5)))], qa 8 141, qw 7 9 143]] [1, 3, 8, 9, 137, 138, 139] (.join [cv 175 .b] (.dreg (qd 0 [wn 144 [wo 0 9, wO 0, wL, wo 0 1, wO 0, wL, wm 8, wE .i 149, wL, wB .neq 146, wM],
 wf 154 155 [wo 11 1, wL, wm 8]] (qd 15 [wf 154 159 [wo 0 1, wO 2, wL]] (.op 14 (some (154, false)) [160] (.call 158 gf_xcb [] rfl [(.tmp 156), (.tmp 157)])
 (qd 18 [qf 154 [qb 162 .gtr 158 161],
 wn 163 [wR 154, wM],
 wf 164 165 [wo 0 1, wK 9, wk 7 9, wo 11 1, wL, wm 8, wo 9 1, wL, wc gf_xc9 rfl [166, 167, 169, 170, 172], wX],
 qn [qp 175 164 174]] .nil)))) [1, 3, 137, 138, 139, 175]) (cn 175 [1, 3, 137, 138, 139] (sq [qB 2 false] [2] .ret))))) (q1 [qi 176 .add 139 1, qm 139 176] [1, 3, 137, 138, 139])))))) (.join [] (sw 177 [wo 13 1, wL, wZ, wj 0] [1, 3, 178, 179, 180] (bl 6 [cv 180 .i] (sq [qb 181 .lss 180 179] [1, 3, 178, 179, 180, 181] (.seq (ce 181 [1, 3, 178, 179, 180] [1, 3] 6) (.seq (.block 7 (sr [wn 182 [wm 180, we .i 178 180, wL],
 qn [qa 10 182, qa 11 184]] [1, 3, 10, 11, 178, 179, 180] (.join [cv 196 .b] (qr [wn 185 [wm 11, wm 3, wc gf_xb9 rfl [185, 186], wX, wM],
 wf 189 190 [wo 13 1, wL, wm 10, wh (.sub · .i (.tmp 191) none (some (.tmp 192))), wm 11, wc gf_xdb rfl [193, 194]],
 qn [qp 196 189 195]] [1, 3, 178, 179, 180, 196]) (cn 196 [1, 3, 178, 179, 180] (sq [qB 2 false] [2] .ret))))) (q1 [qi 197 .add 180 1, qm 180 197] [1, 3, 178, 179, 180])))))) (.join [] (sw 198 [wo 14 1, wL, wZ, wj 0] [3, 199, 200, 201] (bl 8 [cv 201 .i] (sq [qb 202 .lss 201 200] [3, 199, 200, 201, 202] (.seq (ce 202 [3, 199, 200, 201] [] 8) (.seq (.block 9 (sr [wn 203 [we .i 199 201, wL],
 qn [qa 13 204]] [3, 13, 199, 200, 201] (sw 205 [wm 13, wm 3, wI .sub 1, wc gf_xb7 rfl [205, qj (-1), 207], wX] [3, 199, 200, 201, 209] (cn 209 [3, 199, 200, 201] (sq [qB 2 false] [2] .ret))))) (q1 [qi 210 .add 201 1, qm 201 210] [3, 199, 200, 201])))))) (sq [qB 2 true] [2] .ret))))))))⟩
def d_xdc_j5 (L8 : Int -> Option Bool) (v9 : Int) (v11 : Bool) : Option Bool :=
 br v11
  (some false)
  (L8 (w64 (v9 + 1)))
def d_xdc_j6 (L3 : Int -> Option Bool) (v4 : Int) (_ : PUnit) : Option Bool :=
 L3 (w64 (v4 + 1))
def d_xdc_l4 (p0 : GHouse) (L3 : Int -> Option Bool) (v4 : Int) (x5 : GParty) (L8 : Int -> Option Bool) (v9 : Int) : Option Bool :=
 br (decide (v9 < (↑(List.take v4.toNat p0.Parties).length : Int)))
  (bd (at? (List.take v4.toNat p0.Parties) v9) fun x10 =>
  br (x5.Turn == x10.Turn)
   (jn (d_xdc_j5 L8 v9) true)
   (br (decide (x5.Turn < x10.Turn))
    (br (decide (x5.Since > x10.Since))
     (jn (d_xdc_j5 L8 v9) true)
     (br (decide (x10.Turn < x5.Turn))
      (jn (d_xdc_j5 L8 v9) (decide (x10.Since > x5.Since)))
      (jn (d_xdc_j5 L8 v9) false)))
    (br (decide (x10.Turn < x5.Turn))
     (jn (d_xdc_j5 L8 v9) (decide (x10.Since > x5.Since)))
     (jn (d_xdc_j5 L8 v9) false))))
  (jn (d_xdc_j6 L3 v4) ())
def d_xdc_j3 (p0 : GHouse) (L3 : Int -> Option Bool) (v4 : Int) (x5 : GParty) (v7 : Bool) : Option Bool :=
 br v7
  (some false)
  (gd (0 <= v4 /\ v4 <= (↑p0.Parties.length : Int)) (
  loopN (d_xdc_l4 p0 L3 v4 x5) big 0))
def d_xdc_j9 (L13 : Int -> Option Bool) (v14 : Int) (v17 : Bool) : Option Bool :=
 br v17
  (some false)
  (L13 (w64 (v14 + 1)))
def d_xdc_j12 (L20 : Int -> Option Bool) (v21 : Int) (v24 : Bool) : Option Bool :=
 br v24
  (some false)
  (L20 (w64 (v21 + 1)))
def d_xdc_j15 (_ : PUnit) : Option Bool :=
 some true
def d_xdc_l14 (p0 : GHouse) (L26 : Int -> Option Bool) (v27 : Int) : Option Bool :=
 br (decide (v27 < (↑p0.Jobs.length : Int)))
  (bd (at? p0.Jobs v27) fun x28 =>
  bd (d_xb7 x28 (-1) (w64 ((↑p0.Rules.Seats.length : Int) - 1))) fun x29 =>
  br (!x29)
   (some false)
   (L26 (w64 (v27 + 1))))
  (jn (d_xdc_j15) ())
def d_xdc_j13 (p0 : GHouse) (_ : PUnit) : Option Bool :=
 loopN (d_xdc_l14 p0) big 0
def d_xdc_l11 (p0 : GHouse) (L20 : Int -> Option Bool) (v21 : Int) : Option Bool :=
 br (decide (v21 < (↑p0.Todo.length : Int)))
  (bd (at? p0.Todo v21) fun x22 =>
  bd (d_xb9 x22 (↑p0.Rules.Seats.length : Int)) fun x23 =>
  br (!x23)
   (jn (d_xdc_j12 L20 v21) true)
   (gd (0 <= v21 /\ v21 <= (↑p0.Todo.length : Int)) (
   bd (d_xdb (List.take v21.toNat p0.Todo) x22) fun x25 =>
   jn (d_xdc_j12 L20 v21) x25)))
  (jn (d_xdc_j13 p0) ())
def d_xdc_j10 (p0 : GHouse) (_ : PUnit) : Option Bool :=
 loopN (d_xdc_l11 p0) big 0
def d_xdc_l8 (p0 : GHouse) (L13 : Int -> Option Bool) (v14 : Int) : Option Bool :=
 br (decide (v14 < (↑p0.Cabins.length : Int)))
  (bd (at? p0.Cabins v14) fun x15 =>
  bd (at? p0.Rules.Seats v14) fun x16 =>
  br (x15.Seats.Total != x16)
   (jn (d_xdc_j9 L13 v14) true)
   (bd (d_xcb p0.Parties v14) fun x18 =>
   br (decide (x18 > p0.Rules.Room))
    (jn (d_xdc_j9 L13 v14) true)
    (bd (d_xc9 p0.Rules x15 p0.Parties v14 p0.Now) fun x19 =>
    jn (d_xdc_j9 L13 v14) (!x19))))
  (jn (d_xdc_j10 p0) ())
def d_xdc_j7 (p0 : GHouse) (_ : PUnit) : Option Bool :=
 loopN (d_xdc_l8 p0) big 0
def d_xdc_l2 (p0 : GHouse) (L3 : Int -> Option Bool) (v4 : Int) : Option Bool :=
 br (decide (v4 < (↑p0.Parties.length : Int)))
  (bd (at? p0.Parties v4) fun x5 =>
  bd (d_xca p0.Rules x5 p0.Now) fun x6 =>
  br (!x6)
   (jn (d_xdc_j3 p0 L3 v4 x5) true)
   (br (decide (x5.Turn >= p0.Turn))
    (jn (d_xdc_j3 p0 L3 v4 x5) true)
    (br (decide (v4 > 0))
     (bd (at? p0.Parties (w64 (v4 - 1))) fun x12 =>
     jn (d_xdc_j3 p0 L3 v4 x5) (decide (x12.Id >= x5.Id)))
     (jn (d_xdc_j3 p0 L3 v4 x5) false))))
  (jn (d_xdc_j7 p0) ())
def d_xdc_j1 (p0 : GHouse) (v2 : Bool) : Option Bool :=
 br v2
  (some false)
  (br (decide ((↑p0.Parties.length : Int) > 40))
   (some false)
   (loopN (d_xdc_l2 p0) big 0))
def d_xdc (p0 : GHouse) : Option Bool :=
 bd (d_xb8 p0.Rules) fun x1 =>
 br (!x1)
  (jn (d_xdc_j1 p0) true)
  (bd (d_xb7 p0.Now 0 1000000) fun x30 =>
  br (!x30)
   (jn (d_xdc_j1 p0) true)
   (bd (d_xb7 p0.Turn 1 1000001) fun x31 =>
   br (!x31)
    (jn (d_xdc_j1 p0) true)
    (br ((↑p0.Cabins.length : Int) != (↑p0.Rules.Seats.length : Int))
     (jn (d_xdc_j1 p0) true)
     (jn (d_xdc_j1 p0) ((↑p0.Jobs.length : Int) != p0.Rules.Crew)))))
def gf_xdc : GF := y_xdc.gf rfl rfl (fun a => d_xdc a.1) (fun a => by kernel_rfl)
def y_xdd : YF := ⟨[], [.v (.st 9)], [], .ret [.b], [.tmp 2],
 sq [qu 1 0, qB 2 false] [1] (.join [cv 2 .b] (qr [wn 3 [wo 0 1, wL, wh (.lens · (.tmp 4)), wI .leq 20000, wM],
 wt 7 8 [wo 1 1, wL, wo 0 1, wL, wh (.lens · (.tmp 11)), wc gf_xb7 rfl [9, qj 0, 12]],
 qn [qq 14 7 13, qa 2 14]] [2]) .ret)⟩
def d_xdd_j1 (v2 : Bool) : Option Bool :=
 some v2
def d_xdd (p0 : GArea) : Option Bool :=
 br (decide ((↑p0.Data.length : Int) <= 20000))
  (bd (d_xb7 p0.Safe 0 (↑p0.Data.length : Int)) fun x1 =>
  jn (d_xdd_j1) x1)
  (jn (d_xdd_j1) false)
def gf_xdd : GF := y_xdd.gf rfl rfl (fun a => d_xdd a.1) (fun a => by kernel_rfl)
def y_xde : YF := ⟨[], [.v (.st 10)], [], .ret [.b], [.tmp 2],
 sq [qu 1 0, qB 2 false] [1] (.join [cv 2 .b] (qr [wn 3 [wo 0 1, wK 2, wY gf_xdd rfl, wM],
 wt 6 7 [wo 2 1, wK 2, wY gf_xdd rfl],
 wn 10 [wQ 6, wM],
 wt 11 12 [wo 4 1, wK 2, wY gf_xdd rfl],
 qn [qq 15 11 14, qa 2 15]] [2]) .ret)⟩
def d_xde_j1 (v4 : Bool) : Option Bool :=
 some v4
def d_xde (p0 : GStore) : Option Bool :=
 bd (d_xdd p0.Log) fun x1 =>
 br x1
  (bd (d_xdd p0.Even) fun x2 =>
  br x2
   (bd (d_xdd p0.Odd) fun x3 =>
   jn (d_xde_j1) x3)
   (jn (d_xde_j1) false))
  (jn (d_xde_j1) false)
def gf_xde : GF := y_xde.gf rfl rfl (fun a => d_xde a.1) (fun a => by kernel_rfl)
def y_xdf : YF := ⟨[], [.v .i], [], .ret [.b], [.tmp 2],
 sq [qB 2 false] [0] (sr [wn 3 [wm 0, wc gf_xb7 rfl [3, qj 0, qj 9999]],
 qn [qa 2 4]] [2] .ret)⟩
def d_xdf (p0 : Int) : Option Bool :=
 bd (d_xb7 p0 0 9999) fun x1 =>
 some x1
def gf_xdf : GF := y_xdf.gf rfl rfl (fun a => d_xdf a.1) (fun a => by kernel_rfl)
def y_xdg : YF := ⟨[gf_xdf], [.v (.st 0)], [], .ret [.b], [.tmp 2],
 sq [qu 1 0, qB 2 false] [1] (sq [.as 3 (.fn 0)] [1, 3] (.seq (sw 4 [wo 0 1, wL] (Kp 42) (.block 0 (sq [qi 7 .eql 5 1, qa 6 7] (Kp 106) (.cond 6 [1, 3] (Kp 42) (.join [cv 2 .b] (qr [wn 8 [wm 3, wo 1 1, wL, wh (.callv · (.tmp 8) [.v] [.tmp 10]), wM],
 wt 12 13 [wm 3, wo 2 1, wL, wh (.callv · (.tmp 13) [.v] [.tmp 15])],
 wn 17 [wQ 12, wM],
 wt 18 19 [wo 3 1, wL, wc gf_xb7 rfl [20, qj (-1), qj 9999]],
 wn 22 [wQ 18, wM],
 wt 23 24 [wm 3, wo 4 1, wL, wh (.callv · (.tmp 24) [.v] [.tmp 26])],
 wn 28 [wQ 23, wM],
 wt 29 30 [wm 3, wo 5 1, wL, wh (.callv · (.tmp 30) [.v] [.tmp 32])],
 qn [qq 34 29 33, qa 2 34]] [2]) .ret) (.join [cv 35 .b] (sq [qi 36 .eql 5 2, qa 35 36] [1, 3, 5, 35] (.cond 35 [1, 3, 5, 35] (Kp 42) .skip (sq [qi 37 .eql 5 4, qa 35 37] [1, 3, 5, 35] (.cond 35 [1, 3, 5, 35] (Kp 42) .skip (sq [qi 38 .eql 5 5, qa 35 38] [1, 3, 5, 35] (.cond 35 [1, 3, 5, 35] (Kp 42) .skip (q1 [qi 39 .eql 5 7, qa 35 39] [1, 3, 5, 35]))))))) (.cond 35 [1, 3] (Kp 42) (.join [cv 2 .b] (qr [wn 40 [wm 3, wo 1 1, wL, wh (.callv · (.tmp 40) [.v] [.tmp 42]), wM],
 wt 44 45 [wk 6 1, wo 0 1, wL, wo 1 1, wL, wh (.build · zGReq [(0, 1, (.tmp 47)), (1, 1, (.tmp 49))]), wh (.bin · (.agg [.i, .i, .i, .i, .i, .i]) .eql (.tmp 45) (.tmp 50))],
 qn [qq 52 44 51, qa 2 52]] [2]) .ret) (sq [qi 54 .eql 5 3, qa 53 54] [1, 3, 5, 53] (.cond 53 [1, 3] [1, 5] (.join [cv 2 .b] (qr [wn 55 [wm 3, wo 2 1, wL, wh (.callv · (.tmp 55) [.v] [.tmp 57]), wM],
 wt 59 60 [wm 3, wo 4 1, wL, wh (.callv · (.tmp 60) [.v] [.tmp 62])],
 wn 64 [wQ 59, wM],
 wt 65 66 [wk 6 1, wo 0 1, wL, wo 2 1, wL, wo 4 1, wL, wh (.build · zGReq [(0, 1, (.tmp 68)), (2, 1, (.tmp 70)), (4, 1, (.tmp 72))]), wh (.bin · (.agg [.i, .i, .i, .i, .i, .i]) .eql (.tmp 66) (.tmp 73))],
 qn [qq 75 65 74, qa 2 75]] [2]) .ret) (sq [qi 77 .eql 5 6, qa 76 77] [1, 76] (.cond 76 [1] [] (sr [wn 78 [wk 6 1, wh (.build · zGReq [(0, 1, (.k (.int .i64 6)))]), wh (.bin · (.agg [.i, .i, .i, .i, .i, .i]) .eql (.tmp 78) (.tmp 79))],
 qn [qa 2 80]] [2] .ret) .skip)))))))))) (sq [qB 2 false] [2] .ret)))⟩
def d_xdg_j1 (v6 : Bool) : Option Bool :=
 some v6
def d_xdg_j2 (p0 : GReq) (v7 : Bool) : Option Bool :=
 br v7
  (bd (d_xdf p0.Id) fun x8 =>
  br x8
   (jn (d_xdg_j1) (p0.Kind == p0.Kind && (p0.Id == p0.Id && (p0.Cabin == 0 && (p0.From == 0 && (p0.Size == 0 && (p0.Tier == 0 && true)))))))
   (jn (d_xdg_j1) false))
  (br (p0.Kind == 3)
   (bd (d_xdf p0.Cabin) fun x9 =>
   br x9
    (bd (d_xdf p0.Size) fun x10 =>
    br x10
     (jn (d_xdg_j1) (p0.Kind == p0.Kind && (p0.Id == 0 && (p0.Cabin == p0.Cabin && (p0.From == 0 && (p0.Size == p0.Size && (p0.Tier == 0 && true)))))))
     (jn (d_xdg_j1) false))
    (jn (d_xdg_j1) false))
   (br (p0.Kind == 6)
    (some (p0.Kind == 6 && (p0.Id == 0 && (p0.Cabin == 0 && (p0.From == 0 && (p0.Size == 0 && (p0.Tier == 0 && true)))))))
    (some false)))
def d_xdg (p0 : GReq) : Option Bool :=
 br (p0.Kind == 1)
  (bd (d_xdf p0.Id) fun x1 =>
  br x1
   (bd (d_xdf p0.Cabin) fun x2 =>
   br x2
    (bd (d_xb7 p0.From (-1) 9999) fun x3 =>
    br x3
     (bd (d_xdf p0.Size) fun x4 =>
     br x4
      (bd (d_xdf p0.Tier) fun x5 =>
      jn (d_xdg_j1) x5)
      (jn (d_xdg_j1) false))
     (jn (d_xdg_j1) false))
    (jn (d_xdg_j1) false))
   (jn (d_xdg_j1) false))
  (br (p0.Kind == 2)
   (jn (d_xdg_j2 p0) (p0.Kind == 2))
   (br (p0.Kind == 4)
    (jn (d_xdg_j2 p0) (p0.Kind == 4))
    (br (p0.Kind == 5)
     (jn (d_xdg_j2 p0) (p0.Kind == 5))
     (jn (d_xdg_j2 p0) (p0.Kind == 7)))))
def gf_xdg : GF := y_xdg.gf rfl rfl (fun a => d_xdg a.1) (fun a => by kernel_rfl)
def y_xdh : YF := ⟨[], [.v (.st 11)], [], .ret [.b], [.tmp 2],
 sq [qu 1 0, qB 2 false] [1] (.seq (.join [cv 29 .b] (qr [wn 5 [wo 0 1, wK 15, wY gf_xdc rfl, wX, wM],
 wf 9 10 [wo 15 1, wK 6, wY gf_xde rfl, wX],
 wn 14 [wR 9, wM],
 wf 15 16 [wo 22 1, wL, wZ, wI .gtr 8],
 wn 20 [wR 15, wM],
 wf 21 22 [wo 21 1, wL, wo 22 1, wL, wZ, wc gf_xb7 rfl [23, 26, qj 1000000], wX],
 qn [qp 29 21 28]] [1, 29]) (cn 29 [1] (sq [qB 2 false] [2] .ret))) (.join [] (sw 30 [wo 22 1, wL, wZ, wj 0] [31, 32, 33] (bl 0 [cv 33 .i] (sq [qb 34 .lss 33 32] [31, 32, 33, 34] (.seq (ce 34 [31, 32, 33] [] 0) (.seq (.block 1 (sr [wn 35 [we (.st 0) 31 33, wK 6],
 qn [.alloc 4 zGReq, qw 6 4 36]] [4, 31, 32, 33] (sw 37 [wk 6 4, wY gf_xdg rfl, wX] [31, 32, 33, 39] (cn 39 [31, 32, 33] (sq [qB 2 false] [2] .ret))))) (q1 [qi 40 .add 33 1, qm 33 40] [31, 32, 33])))))) (sq [qB 2 true] [2] .ret)))⟩
def d_xdh_j3 (_ : PUnit) : Option Bool :=
 some true
def d_xdh_l2 (p0 : GEngine) (L3 : Int -> Option Bool) (v4 : Int) : Option Bool :=
 br (decide (v4 < (↑p0.Laid.length : Int)))
  (bd (at? p0.Laid v4) fun x5 =>
  bd (d_xdg x5) fun x6 =>
  br (!x6)
   (some false)
   (L3 (w64 (v4 + 1))))
  (jn (d_xdh_j3) ())
def d_xdh_j1 (p0 : GEngine) (v2 : Bool) : Option Bool :=
 br v2
  (some false)
  (loopN (d_xdh_l2 p0) big 0)
def d_xdh (p0 : GEngine) : Option Bool :=
 bd (d_xdc p0.House) fun x1 =>
 br (!x1)
  (jn (d_xdh_j1 p0) true)
  (bd (d_xde p0.Store) fun x7 =>
  br (!x7)
   (jn (d_xdh_j1 p0) true)
   (br (decide ((↑p0.Laid.length : Int) > 8))
    (jn (d_xdh_j1 p0) true)
    (bd (d_xb7 p0.Seq (↑p0.Laid.length : Int) 1000000) fun x8 =>
    jn (d_xdh_j1 p0) (!x8))))
def gf_xdh : GF := y_xdh.gf rfl rfl (fun a => d_xdh a.1) (fun a => by kernel_rfl)
def y_xdi : YF := ⟨[], [.v (.l .i), .v (.l .i)], [], .ret [.b], [.tmp 4],
 sq [qB 4 false] [0, 1] (.seq (sw 6 [wm 0, wZ, wm 1, wZ, wB .neq 7] (Kp 1027) (cn 10 [0, 1] (sq [qB 4 false] [4] .ret))) (.join [] (sq [qK 5 0] (Kp 35) (bl 0 [cv 5 .i] (.seq (sw 11 [wm 5, wm 0, wZ, wB .lss 11] (Kp 16419) (ce 14 (Kp 35) [] 0)) (.seq (.block 1 (.seq (.dreg (qd 0 [wn 17 [wm 0, wm 5, wE .i 17, wL, wm 1, wm 5, wE .i 21, wL, wB .neq 20]] .nil) [0, 1, 5, 25]) (cn 25 (Kp 35) (sq [qB 4 false] [4] .ret)))) (qr [wn 15 [wm 5, wI .add 1],
 qn [qa 5 16]] (Kp 35)))))) (sq [qB 4 true] [4] .ret)))⟩
def d_xdi_j2 (_ : PUnit) : Option Bool :=
 some true
def d_xdi_l1 (p0 : (List Int)) (p1 : (List Int)) (L1 : Int -> Option Bool) (v2 : Int) : Option Bool :=
 br (decide (v2 < (↑p0.length : Int)))
  (bd (at? p0 v2) fun x3 =>
  bd (at? p1 v2) fun x4 =>
  br (x3 != x4)
   (some false)
   (L1 (w64 (v2 + 1))))
  (jn (d_xdi_j2) ())
def d_xdi (p0 : (List Int)) (p1 : (List Int)) : Option Bool :=
 br ((↑p0.length : Int) != (↑p1.length : Int))
  (some false)
  (loopN (d_xdi_l1 p0 p1) big 0)
def gf_xdi : GF := y_xdi.gf rfl rfl (fun a => d_xdi a.1 a.2.1) (fun a => by kernel_rfl)
def y_xdj : YF := ⟨[], [.v (.st 1), .v (.st 1)], [], .ret [.b], [.tmp 4],
 sq [qu 2 0, qu 3 1, qB 4 false] [2, 3] (.seq (sw 5 [wo 0 2, wL, wo 0 3, wL, wc gf_xdi rfl [6, 8], wX] (Kp 1036) (cn 10 [2, 3] (sq [qB 4 false] [4] .ret))) (.seq (sw 11 [wo 1 2, wL, wo 1 3, wL, wB .neq 12] [2, 3, 15] (cn 15 [2, 3] (sq [qB 4 false] [4] .ret))) (.seq (sw 16 [wo 2 2, wL, wo 2 3, wL, wB .neq 17] [2, 3, 20] (cn 20 [2, 3] (sq [qB 4 false] [4] .ret))) (.seq (sw 21 [wo 3 2, wL, wo 3 3, wL, wB .neq 22] [2, 3, 25] (cn 25 [2, 3] (sq [qB 4 false] [4] .ret))) (.seq (sw 26 [wo 4 2, wL, wo 4 3, wL, wB .neq 27] [2, 3, 30] (cn 30 [2, 3] (sq [qB 4 false] [4] .ret))) (.seq (sw 31 [wo 5 2, wL, wo 5 3, wL, wB .neq 32] [2, 3, 35] (cn 35 [2, 3] (sq [qB 4 false] [4] .ret))) (.seq (sw 36 [wo 6 2, wL, wo 6 3, wL, wB .neq 37] [2, 3, 40] (cn 40 [2, 3] (sq [qB 4 false] [4] .ret))) (.seq (sw 41 [wo 7 2, wL, wo 7 3, wL, wB .neq 42] [2, 3, 45] (cn 45 [2, 3] (sq [qB 4 false] [4] .ret))) (.seq (sw 46 [wo 8 2, wL, wo 8 3, wL, wB .neq 47] [50] (cn 50 [] (sq [qB 4 false] [4] .ret))) (sq [qB 4 true] [4] .ret))))))))))⟩
def d_xdj (p0 : GRules) (p1 : GRules) : Option Bool :=
 bd (d_xdi p0.Seats p1.Seats) fun x1 =>
 br (!x1)
  (some false)
  (br (p0.Tiers != p1.Tiers)
   (some false)
   (br (p0.Room != p1.Room)
    (some false)
    (br (p0.Size != p1.Size)
     (some false)
     (br (p0.Period != p1.Period)
      (some false)
      (br (p0.Window != p1.Window)
       (some false)
       (br (p0.Rest != p1.Rest)
        (some false)
        (br (p0.Tries != p1.Tries)
         (some false)
         (br (p0.Crew != p1.Crew)
          (some false)
          (some true)))))))))
def gf_xdj : GF := y_xdj.gf rfl rfl (fun a => d_xdj a.1 a.2.1) (fun a => by kernel_rfl)
def y_xdk : YF := ⟨[], [.v (.st 2), .v (.st 2)], [], .ret [.b], [.tmp 4],
 sq [qu 2 0, qu 3 1, qB 4 false] [2, 3] (.seq (sw 5 [wo 0 2, wL, wo 0 3, wL, wB .neq 6] (Kp 524) (cn 9 [2, 3] (sq [qB 4 false] [4] .ret))) (.seq (sw 10 [wo 1 2, wL, wo 1 3, wL, wB .neq 11] [2, 3, 14] (cn 14 [2, 3] (sq [qB 4 false] [4] .ret))) (.seq (sw 15 [wo 2 2, wL, wo 2 3, wL, wB .neq 16] [2, 3, 19] (cn 19 [2, 3] (sq [qB 4 false] [4] .ret))) (.seq (sw 20 [wo 3 2, wL, wo 3 3, wL, wB .neq 21] [2, 3, 24] (cn 24 [2, 3] (sq [qB 4 false] [4] .ret))) (.seq (sw 25 [wo 4 2, wL, wo 4 3, wL, wB .neq 26] [2, 3, 29] (cn 29 [2, 3] (sq [qB 4 false] [4] .ret))) (.seq (sw 30 [wo 5 2, wL, wo 5 3, wL, wB .neq 31] [2, 3, 34] (cn 34 [2, 3] (sq [qB 4 false] [4] .ret))) (.seq (sw 35 [wo 6 2, wL, wo 6 3, wL, wB .neq 36] [2, 3, 39] (cn 39 [2, 3] (sq [qB 4 false] [4] .ret))) (.seq (sw 40 [wo 7 2, wL, wo 7 3, wL, wB .neq 41] [2, 3, 44] (cn 44 [2, 3] (sq [qB 4 false] [4] .ret))) (.seq (sw 45 [wo 8 2, wL, wo 8 3, wL, wB .neq 46] [2, 3, 49] (cn 49 [2, 3] (sq [qB 4 false] [4] .ret))) (.seq (sw 50 [wo 9 2, wL, wo 9 3, wL, wB .neq 51] [54] (cn 54 [] (sq [qB 4 false] [4] .ret))) (sq [qB 4 true] [4] .ret)))))))))))⟩
def d_xdk (p0 : GParty) (p1 : GParty) : Option Bool :=
 br (p0.Id != p1.Id)
  (some false)
  (br (p0.Cabin != p1.Cabin)
   (some false)
   (br (p0.From != p1.From)
    (some false)
    (br (p0.Size != p1.Size)
     (some false)
     (br (p0.Tier != p1.Tier)
      (some false)
      (br (p0.Since != p1.Since)
       (some false)
       (br (p0.Turn != p1.Turn)
        (some false)
        (br (p0.State != p1.State)
         (some false)
         (br (p0.Until != p1.Until)
          (some false)
          (br (p0.Asked != p1.Asked)
           (some false)
           (some true))))))))))
def gf_xdk : GF := y_xdk.gf rfl rfl (fun a => d_xdk a.1 a.2.1) (fun a => by kernel_rfl)
def y_xdl : YF := ⟨[], [.v (.l (.st 2)), .v (.l (.st 2))], [], .ret [.b], [.tmp 4],
 sq [qB 4 false] [0, 1] (.seq (sw 6 [wm 0, wZ, wm 1, wZ, wB .neq 7] (Kp 1027) (cn 10 [0, 1] (sq [qB 4 false] [4] .ret))) (.join [] (sq [qK 5 0] (Kp 35) (bl 0 [cv 5 .i] (.seq (sw 11 [wm 5, wm 0, wZ, wB .lss 11] (Kp 16419) (ce 14 (Kp 35) [] 0)) (.seq (.block 1 (.seq (.dreg (qd 0 [wn 17 [wm 0, wm 5, wE (.st 2) 17, wK 10, wm 1, wm 5, wE (.st 2) 21, wK 10, wc gf_xdk rfl [20, 24], wX]] .nil) [0, 1, 5, 26]) (cn 26 (Kp 35) (sq [qB 4 false] [4] .ret)))) (qr [wn 15 [wm 5, wI .add 1],
 qn [qa 5 16]] (Kp 35)))))) (sq [qB 4 true] [4] .ret)))⟩
def d_xdl_j2 (_ : PUnit) : Option Bool :=
 some true
def d_xdl_l1 (p0 : (List GParty)) (p1 : (List GParty)) (L1 : Int -> Option Bool) (v2 : Int) : Option Bool :=
 br (decide (v2 < (↑p0.length : Int)))
  (bd (at? p0 v2) fun x3 =>
  bd (at? p1 v2) fun x4 =>
  bd (d_xdk x3 x4) fun x5 =>
  br (!x5)
   (some false)
   (L1 (w64 (v2 + 1))))
  (jn (d_xdl_j2) ())
def d_xdl (p0 : (List GParty)) (p1 : (List GParty)) : Option Bool :=
 br ((↑p0.length : Int) != (↑p1.length : Int))
  (some false)
  (loopN (d_xdl_l1 p0 p1) big 0)
def gf_xdl : GF := y_xdl.gf rfl rfl (fun a => d_xdl a.1 a.2.1) (fun a => by kernel_rfl)
def y_xdm : YF := ⟨[], [.v (.st 3), .v (.st 3)], [], .ret [.b], [.tmp 4],
 sq [qu 2 0, qu 3 1, qB 4 false] [2, 3] (.seq (sw 5 [wo 0 2, wL, wo 0 3, wL, wB .neq 6] (Kp 524) (cn 9 [2, 3] (sq [qB 4 false] [4] .ret))) (.seq (sw 10 [wo 1 2, wL, wo 1 3, wL, wB .neq 11] [2, 3, 14] (cn 14 [2, 3] (sq [qB 4 false] [4] .ret))) (.seq (sw 15 [wo 2 2, wL, wo 2 3, wL, wB .neq 16] [2, 3, 19] (cn 19 [2, 3] (sq [qB 4 false] [4] .ret))) (.seq (sw 20 [wo 3 2, wL, wo 3 3, wL, wB .neq 21] [2, 3, 24] (cn 24 [2, 3] (sq [qB 4 false] [4] .ret))) (.seq (sw 25 [wo 4 2, wL, wo 4 3, wL, wB .neq 26] [29] (cn 29 [] (sq [qB 4 false] [4] .ret))) (sq [qB 4 true] [4] .ret))))))⟩
def d_xdm (p0 : GLedger) (p1 : GLedger) : Option Bool :=
 br (p0.Total != p1.Total)
  (some false)
  (br (p0.Free != p1.Free)
   (some false)
   (br (p0.Held != p1.Held)
    (some false)
    (br (p0.Sold != p1.Sold)
     (some false)
     (br (p0.Tied != p1.Tied)
      (some false)
      (some true)))))
def gf_xdm : GF := y_xdm.gf rfl rfl (fun a => d_xdm a.1 a.2.1) (fun a => by kernel_rfl)
def y_xdn : YF := ⟨[], [.v (.st 4), .v (.st 4)], [], .ret [.b], [.tmp 4],
 sq [qu 2 0, qu 3 1, qB 4 false] [2, 3] (.seq (sw 5 [wo 0 2, wL, wo 0 3, wL, wB .neq 6] (Kp 524) (cn 9 [2, 3] (sq [qB 4 false] [4] .ret))) (.seq (sw 10 [wo 1 2, wL, wo 1 3, wL, wB .neq 11] [2, 3, 14] (cn 14 [2, 3] (sq [qB 4 false] [4] .ret))) (.seq (sw 15 [wo 2 2, wL, wo 2 3, wL, wB .neq 16] [2, 3, 19] (cn 19 [2, 3] (sq [qB 4 false] [4] .ret))) (.seq (sw 20 [wo 3 2, wL, wo 3 3, wL, wB .neq 21] [24] (cn 24 [] (sq [qB 4 false] [4] .ret))) (sq [qB 4 true] [4] .ret)))))⟩
def d_xdn (p0 : GEntry) (p1 : GEntry) : Option Bool :=
 br (p0.Level != p1.Level)
  (some false)
  (br (p0.Turn != p1.Turn)
   (some false)
   (br (p0.Id != p1.Id)
    (some false)
    (br (p0.Size != p1.Size)
     (some false)
     (some true))))
def gf_xdn : GF := y_xdn.gf rfl rfl (fun a => d_xdn a.1 a.2.1) (fun a => by kernel_rfl)
def y_xdo : YF := ⟨[], [.v (.l (.st 4)), .v (.l (.st 4))], [], .ret [.b], [.tmp 4],
 sq [qB 4 false] [0, 1] (.seq (sw 6 [wm 0, wZ, wm 1, wZ, wB .neq 7] (Kp 1027) (cn 10 [0, 1] (sq [qB 4 false] [4] .ret))) (.join [] (sq [qK 5 0] (Kp 35) (bl 0 [cv 5 .i] (.seq (sw 11 [wm 5, wm 0, wZ, wB .lss 11] (Kp 16419) (ce 14 (Kp 35) [] 0)) (.seq (.block 1 (.seq (.dreg (qd 0 [wn 17 [wm 0, wm 5, wE (.st 4) 17, wK 4, wm 1, wm 5, wE (.st 4) 21, wK 4, wc gf_xdn rfl [20, 24], wX]] .nil) [0, 1, 5, 26]) (cn 26 (Kp 35) (sq [qB 4 false] [4] .ret)))) (qr [wn 15 [wm 5, wI .add 1],
 qn [qa 5 16]] (Kp 35)))))) (sq [qB 4 true] [4] .ret)))⟩
def d_xdo_j2 (_ : PUnit) : Option Bool :=
 some true
def d_xdo_l1 (p0 : (List GEntry)) (p1 : (List GEntry)) (L1 : Int -> Option Bool) (v2 : Int) : Option Bool :=
 br (decide (v2 < (↑p0.length : Int)))
  (bd (at? p0 v2) fun x3 =>
  bd (at? p1 v2) fun x4 =>
  bd (d_xdn x3 x4) fun x5 =>
  br (!x5)
   (some false)
   (L1 (w64 (v2 + 1))))
  (jn (d_xdo_j2) ())
def d_xdo (p0 : (List GEntry)) (p1 : (List GEntry)) : Option Bool :=
 br ((↑p0.length : Int) != (↑p1.length : Int))
  (some false)
  (loopN (d_xdo_l1 p0 p1) big 0)
def gf_xdo : GF := y_xdo.gf rfl rfl (fun a => d_xdo a.1 a.2.1) (fun a => by kernel_rfl)
def y_xdp : YF := ⟨[], [.v (.st 5), .v (.st 5)], [], .ret [.b], [.tmp 4],
 sq [qu 2 0, qu 3 1, qB 4 false] [2, 3] (.seq (sw 5 [wo 0 2, wL, wo 0 3, wL, wB .neq 6] (Kp 524) (cn 9 [2, 3] (sq [qB 4 false] [4] .ret))) (.seq (sw 10 [wo 1 2, wL, wo 1 3, wL, wB .neq 11] [14] (cn 14 [] (sq [qB 4 false] [4] .ret))) (sq [qB 4 true] [4] .ret)))⟩
def d_xdp (p0 : GPin) (p1 : GPin) : Option Bool :=
 br (p0.At != p1.At)
  (some false)
  (br (p0.Id != p1.Id)
   (some false)
   (some true))
def gf_xdp : GF := y_xdp.gf rfl rfl (fun a => d_xdp a.1 a.2.1) (fun a => by kernel_rfl)
def y_xdq : YF := ⟨[], [.v (.l (.st 5)), .v (.l (.st 5))], [], .ret [.b], [.tmp 4],
 sq [qB 4 false] [0, 1] (.seq (sw 6 [wm 0, wZ, wm 1, wZ, wB .neq 7] (Kp 1027) (cn 10 [0, 1] (sq [qB 4 false] [4] .ret))) (.join [] (sq [qK 5 0] (Kp 35) (bl 0 [cv 5 .i] (.seq (sw 11 [wm 5, wm 0, wZ, wB .lss 11] (Kp 16419) (ce 14 (Kp 35) [] 0)) (.seq (.block 1 (.seq (.dreg (qd 0 [wn 17 [wm 0, wm 5, wE (.st 5) 17, wK 2, wm 1, wm 5, wE (.st 5) 21, wK 2, wc gf_xdp rfl [20, 24], wX]] .nil) [0, 1, 5, 26]) (cn 26 (Kp 35) (sq [qB 4 false] [4] .ret)))) (qr [wn 15 [wm 5, wI .add 1],
 qn [qa 5 16]] (Kp 35)))))) (sq [qB 4 true] [4] .ret)))⟩
def d_xdq_j2 (_ : PUnit) : Option Bool :=
 some true
def d_xdq_l1 (p0 : (List GPin)) (p1 : (List GPin)) (L1 : Int -> Option Bool) (v2 : Int) : Option Bool :=
 br (decide (v2 < (↑p0.length : Int)))
  (bd (at? p0 v2) fun x3 =>
  bd (at? p1 v2) fun x4 =>
  bd (d_xdp x3 x4) fun x5 =>
  br (!x5)
   (some false)
   (L1 (w64 (v2 + 1))))
  (jn (d_xdq_j2) ())
def d_xdq (p0 : (List GPin)) (p1 : (List GPin)) : Option Bool :=
 br ((↑p0.length : Int) != (↑p1.length : Int))
  (some false)
  (loopN (d_xdq_l1 p0 p1) big 0)
def gf_xdq : GF := y_xdq.gf rfl rfl (fun a => d_xdq a.1 a.2.1) (fun a => by kernel_rfl)
def y_xdr : YF := ⟨[], [.v (.l (.l (.st 5))), .v (.l (.l (.st 5)))], [], .ret [.b], [.tmp 4],
 sq [qB 4 false] [0, 1] (.seq (sw 6 [wm 0, wZ, wm 1, wZ, wB .neq 7] (Kp 1027) (cn 10 [0, 1] (sq [qB 4 false] [4] .ret))) (.join [] (sq [qK 5 0] (Kp 35) (bl 0 [cv 5 .i] (.seq (sw 11 [wm 5, wm 0, wZ, wB .lss 11] (Kp 16419) (ce 14 (Kp 35) [] 0)) (.seq (.block 1 (.seq (.dreg (qd 0 [wn 17 [wm 0, wm 5, wE (.l (.st 5)) 17, wL, wm 1, wm 5, wE (.l (.st 5)) 21, wL, wc gf_xdq rfl [20, 24], wX]] .nil) [0, 1, 5, 26]) (cn 26 (Kp 35) (sq [qB 4 false] [4] .ret)))) (qr [wn 15 [wm 5, wI .add 1],
 qn [qa 5 16]] (Kp 35)))))) (sq [qB 4 true] [4] .ret)))⟩
def d_xdr_j2 (_ : PUnit) : Option Bool :=
 some true
def d_xdr_l1 (p0 : (List (List GPin))) (p1 : (List (List GPin))) (L1 : Int -> Option Bool) (v2 : Int) : Option Bool :=
 br (decide (v2 < (↑p0.length : Int)))
  (bd (at? p0 v2) fun x3 =>
  bd (at? p1 v2) fun x4 =>
  bd (d_xdq x3 x4) fun x5 =>
  br (!x5)
   (some false)
   (L1 (w64 (v2 + 1))))
  (jn (d_xdr_j2) ())
def d_xdr (p0 : (List (List GPin))) (p1 : (List (List GPin))) : Option Bool :=
 br ((↑p0.length : Int) != (↑p1.length : Int))
  (some false)
  (loopN (d_xdr_l1 p0 p1) big 0)
def gf_xdr : GF := y_xdr.gf rfl rfl (fun a => d_xdr a.1 a.2.1) (fun a => by kernel_rfl)
def y_xds : YF := ⟨[], [.v (.st 6), .v (.st 6)], [], .ret [.b], [.tmp 4],
 sq [qu 2 0, qu 3 1, qB 4 false] [2, 3] (.seq (sw 5 [wo 0 2, wL, wo 0 3, wL, wc gf_xdr rfl [6, 8], wX] [10] (cn 10 [] (sq [qB 4 false] [4] .ret))) (sq [qB 4 true] [4] .ret))⟩
def d_xds (p0 : GWheel) (p1 : GWheel) : Option Bool :=
 bd (d_xdr p0.Spoke p1.Spoke) fun x1 =>
 br (!x1)
  (some false)
  (some true)
def gf_xds : GF := y_xds.gf rfl rfl (fun a => d_xds a.1 a.2.1) (fun a => by kernel_rfl)
def y_xdt : YF := ⟨[], [.v (.st 7), .v (.st 7)], [], .ret [.b], [.tmp 4],
 sq [qu 2 0, qu 3 1, qB 4 false] [2, 3] (.seq (sw 5 [wo 0 2, wK 5, wo 0 3, wK 5, wc gf_xdm rfl [6, 8], wX] (Kp 1036) (cn 10 [2, 3] (sq [qB 4 false] [4] .ret))) (.seq (sw 11 [wo 5 2, wL, wo 5 3, wL, wc gf_xdo rfl [12, 14], wX] [2, 3, 16] (cn 16 [2, 3] (sq [qB 4 false] [4] .ret))) (.seq (sw 17 [wo 6 2, wK 1, wo 6 3, wK 1, wc gf_xds rfl [18, 20], wX] [22] (cn 22 [] (sq [qB 4 false] [4] .ret))) (sq [qB 4 true] [4] .ret))))⟩
def d_xdt (p0 : GCabin) (p1 : GCabin) : Option Bool :=
 bd (d_xdm p0.Seats p1.Seats) fun x1 =>
 br (!x1)
  (some false)
  (bd (d_xdo p0.Row p1.Row) fun x2 =>
  br (!x2)
   (some false)
   (bd (d_xds p0.Wheel p1.Wheel) fun x3 =>
   br (!x3)
    (some false)
    (some true)))
def gf_xdt : GF := y_xdt.gf rfl rfl (fun a => d_xdt a.1 a.2.1) (fun a => by kernel_rfl)
def y_xdu : YF := ⟨[], [.v (.l (.st 7)), .v (.l (.st 7))], [], .ret [.b], [.tmp 4],
 sq [qB 4 false] [0, 1] (.seq (sw 6 [wm 0, wZ, wm 1, wZ, wB .neq 7] (Kp 1027) (cn 10 [0, 1] (sq [qB 4 false] [4] .ret))) (.join [] (sq [qK 5 0] (Kp 35) (bl 0 [cv 5 .i] (.seq (sw 11 [wm 5, wm 0, wZ, wB .lss 11] (Kp 16419) (ce 14 (Kp 35) [] 0)) (.seq (.block 1 (.seq (.dreg (qd 0 [wn 17 [wm 0, wm 5, wE (.st 7) 17, wK 7, wm 1, wm 5, wE (.st 7) 21, wK 7, wc gf_xdt rfl [20, 24], wX]] .nil) [0, 1, 5, 26]) (cn 26 (Kp 35) (sq [qB 4 false] [4] .ret)))) (qr [wn 15 [wm 5, wI .add 1],
 qn [qa 5 16]] (Kp 35)))))) (sq [qB 4 true] [4] .ret)))⟩
def d_xdu_j2 (_ : PUnit) : Option Bool :=
 some true
def d_xdu_l1 (p0 : (List GCabin)) (p1 : (List GCabin)) (L1 : Int -> Option Bool) (v2 : Int) : Option Bool :=
 br (decide (v2 < (↑p0.length : Int)))
  (bd (at? p0 v2) fun x3 =>
  bd (at? p1 v2) fun x4 =>
  bd (d_xdt x3 x4) fun x5 =>
  br (!x5)
   (some false)
   (L1 (w64 (v2 + 1))))
  (jn (d_xdu_j2) ())
def d_xdu (p0 : (List GCabin)) (p1 : (List GCabin)) : Option Bool :=
 br ((↑p0.length : Int) != (↑p1.length : Int))
  (some false)
  (loopN (d_xdu_l1 p0 p1) big 0)
def gf_xdu : GF := y_xdu.gf rfl rfl (fun a => d_xdu a.1 a.2.1) (fun a => by kernel_rfl)
def y_xdv : YF := ⟨[], [.v (.st 8), .v (.st 8)], [], .ret [.b], [.tmp 4],
 sq [qu 2 0, qu 3 1, qB 4 false] [2, 3] (.seq (sw 5 [wo 0 2, wK 9, wo 0 3, wK 9, wc gf_xdj rfl [6, 8], wX] (Kp 1036) (cn 10 [2, 3] (sq [qB 4 false] [4] .ret))) (.seq (sw 11 [wo 9 2, wL, wo 9 3, wL, wB .neq 12] [2, 3, 15] (cn 15 [2, 3] (sq [qB 4 false] [4] .ret))) (.seq (sw 16 [wo 10 2, wL, wo 10 3, wL, wB .neq 17] [2, 3, 20] (cn 20 [2, 3] (sq [qB 4 false] [4] .ret))) (.seq (sw 21 [wo 11 2, wL, wo 11 3, wL, wc gf_xdl rfl [22, 24], wX] [2, 3, 26] (cn 26 [2, 3] (sq [qB 4 false] [4] .ret))) (.seq (sw 27 [wo 12 2, wL, wo 12 3, wL, wc gf_xdu rfl [28, 30], wX] [2, 3, 32] (cn 32 [2, 3] (sq [qB 4 false] [4] .ret))) (.seq (sw 33 [wo 13 2, wL, wo 13 3, wL, wc gf_xdi rfl [34, 36], wX] [2, 3, 38] (cn 38 [2, 3] (sq [qB 4 false] [4] .ret))) (.seq (sw 39 [wo 14 2, wL, wo 14 3, wL, wc gf_xdi rfl [40, 42], wX] [44] (cn 44 [] (sq [qB 4 false] [4] .ret))) (sq [qB 4 true] [4] .ret))))))))⟩
def d_xdv (p0 : GHouse) (p1 : GHouse) : Option Bool :=
 bd (d_xdj p0.Rules p1.Rules) fun x1 =>
 br (!x1)
  (some false)
  (br (p0.Now != p1.Now)
   (some false)
   (br (p0.Turn != p1.Turn)
    (some false)
    (bd (d_xdl p0.Parties p1.Parties) fun x2 =>
    br (!x2)
     (some false)
     (bd (d_xdu p0.Cabins p1.Cabins) fun x3 =>
     br (!x3)
      (some false)
      (bd (d_xdi p0.Todo p1.Todo) fun x4 =>
      br (!x4)
       (some false)
       (bd (d_xdi p0.Jobs p1.Jobs) fun x5 =>
       br (!x5)
        (some false)
        (some true)))))))
def gf_xdv : GF := y_xdv.gf rfl rfl (fun a => d_xdv a.1 a.2.1) (fun a => by kernel_rfl)
def y_xdw : YF := ⟨[], [.v (.st 9), .v (.st 9)], [], .ret [.b], [.tmp 4],
 sq [qu 2 0, qu 3 1, qB 4 false] [2, 3] (.seq (sw 5 [wo 0 2, wL, wo 0 3, wL, wB .neq 6] (Kp 524) (cn 9 [2, 3] (sq [qB 4 false] [4] .ret))) (.seq (sw 10 [wo 1 2, wL, wo 1 3, wL, wB .neq 11] [14] (cn 14 [] (sq [qB 4 false] [4] .ret))) (sq [qB 4 true] [4] .ret)))⟩
def d_xdw (p0 : GArea) (p1 : GArea) : Option Bool :=
 br (p0.Data != p1.Data)
  (some false)
  (br (p0.Safe != p1.Safe)
   (some false)
   (some true))
def gf_xdw : GF := y_xdw.gf rfl rfl (fun a => d_xdw a.1 a.2.1) (fun a => by kernel_rfl)
def y_xdx : YF := ⟨[], [.v (.st 10), .v (.st 10)], [], .ret [.b], [.tmp 4],
 sq [qu 2 0, qu 3 1, qB 4 false] [2, 3] (.seq (sw 5 [wo 0 2, wK 2, wo 0 3, wK 2, wc gf_xdw rfl [6, 8], wX] (Kp 1036) (cn 10 [2, 3] (sq [qB 4 false] [4] .ret))) (.seq (sw 11 [wo 2 2, wK 2, wo 2 3, wK 2, wc gf_xdw rfl [12, 14], wX] [2, 3, 16] (cn 16 [2, 3] (sq [qB 4 false] [4] .ret))) (.seq (sw 17 [wo 4 2, wK 2, wo 4 3, wK 2, wc gf_xdw rfl [18, 20], wX] [22] (cn 22 [] (sq [qB 4 false] [4] .ret))) (sq [qB 4 true] [4] .ret))))⟩
def d_xdx (p0 : GStore) (p1 : GStore) : Option Bool :=
 bd (d_xdw p0.Log p1.Log) fun x1 =>
 br (!x1)
  (some false)
  (bd (d_xdw p0.Even p1.Even) fun x2 =>
  br (!x2)
   (some false)
   (bd (d_xdw p0.Odd p1.Odd) fun x3 =>
   br (!x3)
    (some false)
    (some true)))
def gf_xdx : GF := y_xdx.gf rfl rfl (fun a => d_xdx a.1 a.2.1) (fun a => by kernel_rfl)
def y_xdy : YF := ⟨[], [.v (.st 0), .v (.st 0)], [], .ret [.b], [.tmp 4],
 sq [qu 2 0, qu 3 1, qB 4 false] [2, 3] (.seq (sw 5 [wo 0 2, wL, wo 0 3, wL, wB .neq 6] (Kp 524) (cn 9 [2, 3] (sq [qB 4 false] [4] .ret))) (.seq (sw 10 [wo 1 2, wL, wo 1 3, wL, wB .neq 11] [2, 3, 14] (cn 14 [2, 3] (sq [qB 4 false] [4] .ret))) (.seq (sw 15 [wo 2 2, wL, wo 2 3, wL, wB .neq 16] [2, 3, 19] (cn 19 [2, 3] (sq [qB 4 false] [4] .ret))) (.seq (sw 20 [wo 3 2, wL, wo 3 3, wL, wB .neq 21] [2, 3, 24] (cn 24 [2, 3] (sq [qB 4 false] [4] .ret))) (.seq (sw 25 [wo 4 2, wL, wo 4 3, wL, wB .neq 26] [2, 3, 29] (cn 29 [2, 3] (sq [qB 4 false] [4] .ret))) (.seq (sw 30 [wo 5 2, wL, wo 5 3, wL, wB .neq 31] [34] (cn 34 [] (sq [qB 4 false] [4] .ret))) (sq [qB 4 true] [4] .ret)))))))⟩
def d_xdy (p0 : GReq) (p1 : GReq) : Option Bool :=
 br (p0.Kind != p1.Kind)
  (some false)
  (br (p0.Id != p1.Id)
   (some false)
   (br (p0.Cabin != p1.Cabin)
    (some false)
    (br (p0.From != p1.From)
     (some false)
     (br (p0.Size != p1.Size)
      (some false)
      (br (p0.Tier != p1.Tier)
       (some false)
       (some true))))))
def gf_xdy : GF := y_xdy.gf rfl rfl (fun a => d_xdy a.1 a.2.1) (fun a => by kernel_rfl)
def y_xdz : YF := ⟨[], [.v (.l (.st 0)), .v (.l (.st 0))], [], .ret [.b], [.tmp 4],
 sq [qB 4 false] [0, 1] (.seq (sw 6 [wm 0, wZ, wm 1, wZ, wB .neq 7] (Kp 1027) (cn 10 [0, 1] (sq [qB 4 false] [4] .ret))) (.join [] (sq [qK 5 0] (Kp 35) (bl 0 [cv 5 .i] (.seq (sw 11 [wm 5, wm 0, wZ, wB .lss 11] (Kp 16419) (ce 14 (Kp 35) [] 0)) (.seq (.block 1 (.seq (.dreg (qd 0 [wn 17 [wm 0, wm 5, wE (.st 0) 17, wK 6, wm 1, wm 5, wE (.st 0) 21, wK 6, wc gf_xdy rfl [20, 24], wX]] .nil) [0, 1, 5, 26]) (cn 26 (Kp 35) (sq [qB 4 false] [4] .ret)))) (qr [wn 15 [wm 5, wI .add 1],
 qn [qa 5 16]] (Kp 35)))))) (sq [qB 4 true] [4] .ret)))⟩
def d_xdz_j2 (_ : PUnit) : Option Bool :=
 some true
def d_xdz_l1 (p0 : (List GReq)) (p1 : (List GReq)) (L1 : Int -> Option Bool) (v2 : Int) : Option Bool :=
 br (decide (v2 < (↑p0.length : Int)))
  (bd (at? p0 v2) fun x3 =>
  bd (at? p1 v2) fun x4 =>
  bd (d_xdy x3 x4) fun x5 =>
  br (!x5)
   (some false)
   (L1 (w64 (v2 + 1))))
  (jn (d_xdz_j2) ())
def d_xdz (p0 : (List GReq)) (p1 : (List GReq)) : Option Bool :=
 br ((↑p0.length : Int) != (↑p1.length : Int))
  (some false)
  (loopN (d_xdz_l1 p0 p1) big 0)
def gf_xdz : GF := y_xdz.gf rfl rfl (fun a => d_xdz a.1 a.2.1) (fun a => by kernel_rfl)
def y_xd0 : YF := ⟨[], [.v (.st 11), .v (.st 11)], [], .ret [.b], [.tmp 4],
 sq [qu 2 0, qu 3 1, qB 4 false] [2, 3] (.seq (sw 5 [wo 0 2, wK 15, wo 0 3, wK 15, wc gf_xdv rfl [6, 8], wX] (Kp 1036) (cn 10 [2, 3] (sq [qB 4 false] [4] .ret))) (.seq (sw 11 [wo 15 2, wK 6, wo 15 3, wK 6, wc gf_xdx rfl [12, 14], wX] [2, 3, 16] (cn 16 [2, 3] (sq [qB 4 false] [4] .ret))) (.seq (sw 17 [wo 21 2, wL, wo 21 3, wL, wB .neq 18] [2, 3, 21] (cn 21 [2, 3] (sq [qB 4 false] [4] .ret))) (.seq (sw 22 [wo 22 2, wL, wo 22 3, wL, wc gf_xdz rfl [23, 25], wX] [27] (cn 27 [] (sq [qB 4 false] [4] .ret))) (sq [qB 4 true] [4] .ret)))))⟩
def d_xd0 (p0 : GEngine) (p1 : GEngine) : Option Bool :=
 bd (d_xdv p0.House p1.House) fun x1 =>
 br (!x1)
  (some false)
  (bd (d_xdx p0.Store p1.Store) fun x2 =>
  br (!x2)
   (some false)
   (br (p0.Seq != p1.Seq)
    (some false)
    (bd (d_xdz p0.Laid p1.Laid) fun x3 =>
    br (!x3)
     (some false)
     (some true))))
def gf_xd0 : GF := y_xd0.gf rfl rfl (fun a => d_xd0 a.1 a.2.1) (fun a => by kernel_rfl)
def y_xd1 : YF := ⟨[], [.v .i], [], .ret [(.l .u)], [.tmp 2],
 sq [.as 2 (.k .nil), .nils [(.tmp 2 0, .u)]] [0] (sq [.bslice 4 0 .u [], qa 3 4] [0, 3] (.seq (sw 5 [wm 0, wc gf_x7 rfl [5, qj 0, qj 2147483647], wX] (Kp 137) (.cond 7 [3] [0, 3] (sq [qm 8 3, qa 2 8] [2] .ret) .skip)) (.join [cv 0 .i, cv 3 (.l .u)] (bl 0 [cv 0 .i, cv 3 (.l .u)] (.seq (sw 9 [wm 0, wI .gtr 127] (Kp 1033) (ce 10 [0, 3] [0, 3] 0)) (.block 1 (sr [wn 11 [wm 3, wm 0, wI .rem 128, wI .add 128, wh (.cvI · .u8 (.tmp 14)), wh (.bslice · 1 .u [(0, (.tmp 15))]), wh (.app · .u true (.tmp 11) (.tmp 16))],
 qn [qa 3 17]] [0, 3] (qr [wn 18 [wm 0, wI .quo 128],
 qn [qa 0 19]] [0, 3]))))) (sr [wn 20 [wm 3, wm 0, wh (.cvI · .u8 (.tmp 21)), wh (.bslice · 1 .u [(0, (.tmp 22))]), wh (.app · .u true (.tmp 20) (.tmp 23))],
 qn [qa 2 24]] [2] .ret))))⟩
def d_xd1_j2 (x_ : (Int × (List UInt8))) : Option (List UInt8) :=
 match x_ with
 | (v5, v6) => gd (v6.length + [toB v5].length <= lim) (
 some (v6 ++ [toB v5]))
def d_xd1_l1 (L2 : (Int × (List UInt8)) -> Option (List UInt8)) (x_ : (Int × (List UInt8))) : Option (List UInt8) :=
 match x_ with
 | (v3, v4) => br (decide (v3 > 127))
  (gd (v4.length + [toB (w64 (Int.tmod v3 128 + 128))].length <= lim) (
  L2 ((w64 (Int.tdiv v3 128), v4 ++ [toB (w64 (Int.tmod v3 128 + 128))]))))
  (jn (d_xd1_j2) (v3, v4))
def d_xd1 (p0 : Int) : Option (List UInt8) :=
 bd (d_x7 p0 0 2147483647) fun x1 =>
 br (!x1)
  (some [])
  (loopN (d_xd1_l1) big (p0, []))
def gf_xd1 : GF := y_xd1.gf rfl rfl (fun a => d_xd1 a.1) (fun a => by kernel_rfl)
def y_xd2 : YF := ⟨[], [.v (.l .i)], [], .ret [.s], [.tmp 2],
 sq [.as 2 (.k (.str []))] [0] (sq [.bslice 5 0 .u [], qa 3 5] [0, 3] (.join [cv 3 (.l .u)] (sq [qK 4 0] (Kp 25) (bl 0 [cv 3 (.l .u), cv 4 .i] (.seq (sw 6 [wm 4, wm 0, wZ, wB .lss 6] (Kp 537) (ce 9 (Kp 25) [3] 0)) (.seq (.block 1 (qr [wn 12 [wm 3, wm 0, wm 4, wE .i 13, wL, wY gf_xd1 rfl, wh (.app · .u true (.tmp 12) (.tmp 17))],
 qn [qa 3 18]] (Kp 25))) (qr [wn 10 [wm 4, wI .add 1],
 qn [qa 4 11]] (Kp 25)))))) (sr [wn 19 [wm 3, wh (.cvBS · (.tmp 19))],
 qn [qa 2 20]] [2] .ret)))⟩
def d_xd2_j2 (v6 : (List UInt8)) : Option (List UInt8) :=
 some v6
def d_xd2_l1 (p0 : (List Int)) (L1 : ((List UInt8) × Int) -> Option (List UInt8)) (x_ : ((List UInt8) × Int)) : Option (List UInt8) :=
 match x_ with
 | (v2, v3) => br (decide (v3 < (↑p0.length : Int)))
  (bd (at? p0 v3) fun x4 =>
  bd (d_xd1 x4) fun x5 =>
  gd (List.length v2 + List.length x5 <= lim) (
  L1 ((v2 ++ x5, w64 (v3 + 1)))))
  (jn (d_xd2_j2) v2)
def d_xd2 (p0 : (List Int)) : Option (List UInt8) :=
 loopN (d_xd2_l1 p0) big ([], 0)
def gf_xd2 : GF := y_xd2.gf rfl rfl (fun a => d_xd2 a.1) (fun a => by kernel_rfl)
def y_xd3 : YF := ⟨[], [.v (.l .u)], [], .ret [.i], [.tmp 2],
 sq [qK 2 0] [0] (sq [qK 3 4294967295] [0, 3] (.join [cv 3 .i] (sq [qK 4 0] (Kp 25) (bl 0 [cv 3 .i, cv 4 .i] (.seq (sw 7 [wm 4, wm 0, wZ, wB .lss 7] (Kp 1049) (ce 10 (Kp 25) [3] 0)) (.join [cv 3 .i] (.block 1 (sr [wn 13 [wm 3, wm 0, wm 4, wE .u 14, wL, wh (.cvI · .i64 (.tmp 17)), wB .xor 13],
 qn [qa 3 19]] (Kp 25) (sq [qK 5 0] (Kp 57) (bl 2 [cv 3 .i, cv 5 .i] (.seq (sw 20 [wm 5, wI .lss 8] (Kp 2097209) (ce 21 [0, 3, 4, 5] (Kp 25) 2)) (.join [cv 3 .i] (.block 3 (sr [wn 24 [wm 3, wI .rem 2, wI .eql 1],
 qn [qa 6 26]] (Kp 121) (sr [wn 27 [wm 3, wI .quo 2],
 qn [qa 3 28]] (Kp 121) (sq [qm 29 6] (Kp 536870969) (.cond 29 [0, 3, 4, 5] (Kp 57) (qr [wn 30 [wm 3, wI .xor 3988292384],
 qn [qa 3 31]] (Kp 57)) .skip))))) (qr [wn 22 [wm 5, wI .add 1],
 qn [qa 5 23]] (Kp 57)))))))) (qr [wn 11 [wm 4, wI .add 1],
 qn [qa 4 12]] (Kp 25)))))) (sr [wn 32 [wm 3, wI .xor 4294967295],
 qn [qa 2 33]] [2] .ret)))⟩
def d_xd3_j3 (L5 : (Int × Int) -> Option Int) (v7 : Int) (v8 : Int) : Option Int :=
 L5 ((v8, w64 (v7 + 1)))
def d_xd3_j4 (L1 : (Int × Int) -> Option Int) (v3 : Int) (v9 : Int) : Option Int :=
 L1 ((v9, w64 (v3 + 1)))
def d_xd3_l2 (L1 : (Int × Int) -> Option Int) (v3 : Int) (L5 : (Int × Int) -> Option Int) (x_ : (Int × Int)) : Option Int :=
 match x_ with
 | (v6, v7) => br (decide (v7 < 8))
  (br (Int.tmod v6 2 == 1)
   (jn (d_xd3_j3 L5 v7) (xorI (w64 (Int.tdiv v6 2)) 3988292384))
   (jn (d_xd3_j3 L5 v7) (w64 (Int.tdiv v6 2))))
  (jn (d_xd3_j4 L1 v3) v6)
def d_xd3_j5 (v10 : Int) : Option Int :=
 some (xorI v10 4294967295)
def d_xd3_l1 (p0 : (List UInt8)) (L1 : (Int × Int) -> Option Int) (x_ : (Int × Int)) : Option Int :=
 match x_ with
 | (v2, v3) => br (decide (v3 < (↑p0.length : Int)))
  (bd (at? p0 v3) fun x4 =>
  loopN (d_xd3_l2 L1 v3) big ((xorI v2 (w64 (↑(UInt8.toNat x4) : Int)), 0)))
  (jn (d_xd3_j5) v2)
def d_xd3 (p0 : (List UInt8)) : Option Int :=
 loopN (d_xd3_l1 p0) big (4294967295, 0)
def gf_xd3 : GF := y_xd3.gf rfl rfl (fun a => d_xd3 a.1) (fun a => by kernel_rfl)
def y_xd4 : YF := ⟨[], [.v .i], [], .ret [.s], [.tmp 2],
 sq [.as 2 (.k (.str []))] [0] (sr [wn 3 [wm 0, wh (.bin · .num .shr (.tmp 3) (.k (.int .u64 24))), wh (.cvI · .u8 (.tmp 4)), wm 0, wh (.bin · .num .shr (.tmp 6) (.k (.int .u64 16))), wh (.cvI · .u8 (.tmp 7)), wm 0, wh (.bin · .num .shr (.tmp 9) (.k (.int .u64 8))), wh (.cvI · .u8 (.tmp 10)), wm 0, wh (.cvI · .u8 (.tmp 12)), wh (.bslice · 4 .u [(0, (.tmp 5)), (1, (.tmp 8)), (2, (.tmp 11)), (3, (.tmp 13))]), wh (.cvBS · (.tmp 14))],
 qn [qa 2 15]] [2] .ret)⟩
def d_xd4 (p0 : Int) : Option (List UInt8) :=
 some ([toB (shrI p0 24), toB (shrI p0 16), toB (shrI p0 8), toB p0])
def gf_xd4 : GF := y_xd4.gf rfl rfl (fun a => d_xd4 a.1) (fun a => by kernel_rfl)
end
end Lv
