/-
  Printed: functions of the program as texts of the typed machine, as plain functions, and that the one is the other.
-/
import Derived.Test.YtifcpnfmfagidaaGreatTB
import Derived.KernelRfl
set_option linter.unusedVariables false
set_option linter.unusedSimpArgs false
set_option linter.unusedVariables false
set_option maxRecDepth 100000
namespace Lv
open Go (IntKind BinOp UnOp)
noncomputable section
open Y (YF qn qf qt qr q1 qd qm qa qo ql qL qb qi qx qp qq qc qz qe qk qK qB qw qu qj)
def y_xa : YF := ⟨[], [.v (.l .i), .v .i], [], .ret [.i], [.tmp 4],
 .seq (q1 [qK 4 0] [0, 1]) (.seq (q1 [qm 5 1, qm 6 0, qz 7 6, qb 8 .sub 5 7, qa 1 8] [1]) (.seq (.seq (q1 [qm 9 1, qi 10 .lss 9 0] [1, 10]) (.cond 10 [] [1] (.seq (q1 [qK 4 (-1)] [4]) (.ret)) (.skip))) (.seq (q1 [qm 11 1, qa 4 11] [4]) (.ret))))⟩
def d_xa (p0 : (List Int)) (p1 : Int) : Option Int :=
 br (decide (w64 (p1 - (↑p0.length : Int)) < 0))
  (some (-1))
  (some (w64 (p1 - (↑p0.length : Int))))
def gf_xa : GF := y_xa.gf rfl rfl (fun a => d_xa a.1 a.2.1) (fun a => by kernel_rfl)
def y_xb : YF := ⟨[], [.v (.st 1), .v .i], [], .ret [.i], [.tmp 4],
 .seq (q1 [qu 2 0, qK 4 0] [1, 2]) (.seq (q1 [qo 5 0 2, ql 6 5, qm 7 1, qc 8 gf_xa rfl [6, 7], qa 1 8] [1]) (.seq (.seq (q1 [qm 9 1, qi 10 .lss 9 0] [1, 10]) (.cond 10 [] [1] (.seq (q1 [qK 4 (-1)] [4]) (.ret)) (.skip))) (.seq (q1 [qm 11 1, qa 4 11] [4]) (.ret))))⟩
def d_xb (p0 : GRules) (p1 : Int) : Option Int :=
 bd (d_xa p0.Seats p1) fun x1 =>
 br (decide (x1 < 0))
  (some (-1))
  (some x1)
def gf_xb : GF := y_xb.gf rfl rfl (fun a => d_xb a.1 a.2.1) (fun a => by kernel_rfl)
def y_xc : YF := ⟨[], [.v (.l (.st 2)), .v .i], [], .ret [.i], [.tmp 4],
 .seq (q1 [qK 4 0] [0, 1]) (.seq (q1 [qm 5 1, qm 6 0, qz 7 6, qb 8 .sub 5 7, qa 1 8] [1]) (.seq (.seq (q1 [qm 9 1, qi 10 .lss 9 0] [1, 10]) (.cond 10 [] [1] (.seq (q1 [qK 4 (-1)] [4]) (.ret)) (.skip))) (.seq (q1 [qm 11 1, qa 4 11] [4]) (.ret))))⟩
def d_xc (p0 : (List GParty)) (p1 : Int) : Option Int :=
 br (decide (w64 (p1 - (↑p0.length : Int)) < 0))
  (some (-1))
  (some (w64 (p1 - (↑p0.length : Int))))
def gf_xc : GF := y_xc.gf rfl rfl (fun a => d_xc a.1 a.2.1) (fun a => by kernel_rfl)
def y_xd : YF := ⟨[], [.v (.l (.st 4)), .v .i], [], .ret [.i], [.tmp 4],
 .seq (q1 [qK 4 0] [0, 1]) (.seq (q1 [qm 5 1, qm 6 0, qz 7 6, qb 8 .sub 5 7, qa 1 8] [1]) (.seq (.seq (q1 [qm 9 1, qi 10 .lss 9 0] [1, 10]) (.cond 10 [] [1] (.seq (q1 [qK 4 (-1)] [4]) (.ret)) (.skip))) (.seq (q1 [qm 11 1, qa 4 11] [4]) (.ret))))⟩
def d_xd (p0 : (List GEntry)) (p1 : Int) : Option Int :=
 br (decide (w64 (p1 - (↑p0.length : Int)) < 0))
  (some (-1))
  (some (w64 (p1 - (↑p0.length : Int))))
def gf_xd : GF := y_xd.gf rfl rfl (fun a => d_xd a.1 a.2.1) (fun a => by kernel_rfl)
def y_xe : YF := ⟨[], [.v (.l (.st 5)), .v .i], [], .ret [.i], [.tmp 4],
 .seq (q1 [qK 4 0] [0, 1]) (.seq (q1 [qm 5 1, qm 6 0, qz 7 6, qb 8 .sub 5 7, qa 1 8] [1]) (.seq (.seq (q1 [qm 9 1, qi 10 .lss 9 0] [1, 10]) (.cond 10 [] [1] (.seq (q1 [qK 4 (-1)] [4]) (.ret)) (.skip))) (.seq (q1 [qm 11 1, qa 4 11] [4]) (.ret))))⟩
def d_xe (p0 : (List GPin)) (p1 : Int) : Option Int :=
 br (decide (w64 (p1 - (↑p0.length : Int)) < 0))
  (some (-1))
  (some (w64 (p1 - (↑p0.length : Int))))
def gf_xe : GF := y_xe.gf rfl rfl (fun a => d_xe a.1 a.2.1) (fun a => by kernel_rfl)
def y_xf : YF := ⟨[], [.v (.l (.l (.st 5))), .v .i], [], .ret [.i], [.tmp 4],
 .seq (q1 [qK 4 0] [0, 1]) (.seq (q1 [qm 6 1, qm 7 0, qz 8 7, qb 9 .sub 6 8, qa 1 9] [0, 1]) (.seq (.seq (q1 [qm 10 1, qi 11 .lss 10 0] [0, 1, 11]) (.cond 11 [] [0, 1] (.seq (q1 [qK 4 (-1)] [4]) (.ret)) (.skip))) (.join [(false, 1, .one, [.val .i none])] (.seq (q1 [qK 5 0] [0, 1, 5]) (.block 0 (.loop [(false, 1, .one, [.val .i none]), (false, 5, .one, [.val .i none])] (.seq (.seq (q1 [qm 12 5, qm 13 0, qz 14 13, qb 15 .lss 12 14] [0, 1, 5, 15]) (.cond 15 [0, 1, 5] [1] (.skip) (.exit 0))) (.seq (.block 1 (.seq (q1 [qm 18 0, qm 19 5, qe 20 (.l (.st 5)) 18 19, ql 21 20, qm 22 1, qc 23 gf_xe rfl [21, 22], qa 1 23] [0, 1, 5]) (.seq (q1 [qm 24 1, qi 25 .lss 24 0] [0, 1, 5, 25]) (.cond 25 [] [0, 1, 5] (.seq (q1 [qK 4 (-1)] [4]) (.ret)) (.skip))))) (q1 [qm 16 5, qi 17 .add 16 1, qa 5 17] [0, 1, 5])))))) (.seq (q1 [qm 26 1, qa 4 26] [4]) (.ret)))))⟩
def d_xf_j2 (v6 : Int) : Option Int :=
 some v6
def d_xf_l1 (p0 : (List (List GPin))) (L1 : (Int × Int) → Option Int) (x_ : (Int × Int)) : Option Int :=
 match x_ with
 | (v2, v3) => br (decide (v3 < (↑p0.length : Int)))
  (bd (at? p0 v3) fun x4 =>
  bd (d_xe x4 v2) fun x5 =>
  br (decide (x5 < 0))
   (some (-1))
   (L1 ((x5, w64 (v3 + 1)))))
  (jn (d_xf_j2) v2)
def d_xf (p0 : (List (List GPin))) (p1 : Int) : Option Int :=
 br (decide (w64 (p1 - (↑p0.length : Int)) < 0))
  (some (-1))
  (loopN (d_xf_l1 p0) big ((w64 (p1 - (↑p0.length : Int)), 0)))
def gf_xf : GF := y_xf.gf rfl rfl (fun a => d_xf a.1 a.2.1) (fun a => by kernel_rfl)
def y_xg : YF := ⟨[], [.v (.st 6), .v .i], [], .ret [.i], [.tmp 4],
 .seq (q1 [qu 2 0, qK 4 0] [1, 2]) (.seq (q1 [qo 5 0 2, ql 6 5, qm 7 1, qc 8 gf_xf rfl [6, 7], qa 1 8] [1]) (.seq (.seq (q1 [qm 9 1, qi 10 .lss 9 0] [1, 10]) (.cond 10 [] [1] (.seq (q1 [qK 4 (-1)] [4]) (.ret)) (.skip))) (.seq (q1 [qm 11 1, qa 4 11] [4]) (.ret))))⟩
def d_xg (p0 : GWheel) (p1 : Int) : Option Int :=
 bd (d_xf p0.Spoke p1) fun x1 =>
 br (decide (x1 < 0))
  (some (-1))
  (some x1)
def gf_xg : GF := y_xg.gf rfl rfl (fun a => d_xg a.1 a.2.1) (fun a => by kernel_rfl)
def y_xh : YF := ⟨[], [.v (.st 7), .v .i], [], .ret [.i], [.tmp 4],
 .seq (q1 [qu 2 0, qK 4 0] [1, 2]) (.seq (q1 [qo 5 5 2, ql 6 5, qm 7 1, qc 8 gf_xd rfl [6, 7], qa 1 8] [1, 2]) (.seq (.seq (q1 [qm 9 1, qi 10 .lss 9 0] [1, 2, 10]) (.cond 10 [] [1, 2] (.seq (q1 [qK 4 (-1)] [4]) (.ret)) (.skip))) (.seq (q1 [qo 11 6 2, qL 12 1 11, qm 13 1, qc 14 gf_xg rfl [12, 13], qa 1 14] [1]) (.seq (.seq (q1 [qm 15 1, qi 16 .lss 15 0] [1, 16]) (.cond 16 [] [1] (.seq (q1 [qK 4 (-1)] [4]) (.ret)) (.skip))) (.seq (q1 [qm 17 1, qa 4 17] [4]) (.ret))))))⟩
def d_xh (p0 : GCabin) (p1 : Int) : Option Int :=
 bd (d_xd p0.Row p1) fun x1 =>
 br (decide (x1 < 0))
  (some (-1))
  (bd (d_xg p0.Wheel x1) fun x2 =>
  br (decide (x2 < 0))
   (some (-1))
   (some x2))
def gf_xh : GF := y_xh.gf rfl rfl (fun a => d_xh a.1 a.2.1) (fun a => by kernel_rfl)
def y_xi : YF := ⟨[], [.v (.l (.st 7)), .v .i], [], .ret [.i], [.tmp 4],
 .seq (q1 [qK 4 0] [0, 1]) (.seq (q1 [qm 6 1, qm 7 0, qz 8 7, qb 9 .sub 6 8, qa 1 9] [0, 1]) (.seq (.seq (q1 [qm 10 1, qi 11 .lss 10 0] [0, 1, 11]) (.cond 11 [] [0, 1] (.seq (q1 [qK 4 (-1)] [4]) (.ret)) (.skip))) (.join [(false, 1, .one, [.val .i none])] (.seq (q1 [qK 5 0] [0, 1, 5]) (.block 0 (.loop [(false, 1, .one, [.val .i none]), (false, 5, .one, [.val .i none])] (.seq (.seq (q1 [qm 12 5, qm 13 0, qz 14 13, qb 15 .lss 12 14] [0, 1, 5, 15]) (.cond 15 [0, 1, 5] [1] (.skip) (.exit 0))) (.seq (.block 1 (.seq (q1 [qm 18 0, qm 19 5, qe 20 (.st 7) 18 19, qL 21 7 20, qm 22 1, qc 23 gf_xh rfl [21, 22], qa 1 23] [0, 1, 5]) (.seq (q1 [qm 24 1, qi 25 .lss 24 0] [0, 1, 5, 25]) (.cond 25 [] [0, 1, 5] (.seq (q1 [qK 4 (-1)] [4]) (.ret)) (.skip))))) (q1 [qm 16 5, qi 17 .add 16 1, qa 5 17] [0, 1, 5])))))) (.seq (q1 [qm 26 1, qa 4 26] [4]) (.ret)))))⟩
def d_xi_j2 (v6 : Int) : Option Int :=
 some v6
def d_xi_l1 (p0 : (List GCabin)) (L1 : (Int × Int) → Option Int) (x_ : (Int × Int)) : Option Int :=
 match x_ with
 | (v2, v3) => br (decide (v3 < (↑p0.length : Int)))
  (bd (at? p0 v3) fun x4 =>
  bd (d_xh x4 v2) fun x5 =>
  br (decide (x5 < 0))
   (some (-1))
   (L1 ((x5, w64 (v3 + 1)))))
  (jn (d_xi_j2) v2)
def d_xi (p0 : (List GCabin)) (p1 : Int) : Option Int :=
 br (decide (w64 (p1 - (↑p0.length : Int)) < 0))
  (some (-1))
  (loopN (d_xi_l1 p0) big ((w64 (p1 - (↑p0.length : Int)), 0)))
def gf_xi : GF := y_xi.gf rfl rfl (fun a => d_xi a.1 a.2.1) (fun a => by kernel_rfl)
def y_xj : YF := ⟨[], [.v (.st 8), .v .i], [], .ret [.i], [.tmp 4],
 .seq (q1 [qu 2 0, qK 4 0] [1, 2]) (.seq (q1 [qo 5 0 2, qL 6 9 5, qm 7 1, qc 8 gf_xb rfl [6, 7], qa 1 8] [1, 2]) (.seq (.seq (q1 [qm 9 1, qi 10 .lss 9 0] [1, 2, 10]) (.cond 10 [] [1, 2] (.seq (q1 [qK 4 (-1)] [4]) (.ret)) (.skip))) (.seq (q1 [qo 11 11 2, ql 12 11, qm 13 1, qc 14 gf_xc rfl [12, 13], qa 1 14] [1, 2]) (.seq (.seq (q1 [qm 15 1, qi 16 .lss 15 0] [1, 2, 16]) (.cond 16 [] [1, 2] (.seq (q1 [qK 4 (-1)] [4]) (.ret)) (.skip))) (.seq (q1 [qo 17 12 2, ql 18 17, qm 19 1, qc 20 gf_xi rfl [18, 19], qa 1 20] [1, 2]) (.seq (.seq (q1 [qm 21 1, qi 22 .lss 21 0] [1, 2, 22]) (.cond 22 [] [1, 2] (.seq (q1 [qK 4 (-1)] [4]) (.ret)) (.skip))) (.seq (q1 [qo 23 13 2, ql 24 23, qm 25 1, qc 26 gf_xa rfl [24, 25], qa 1 26] [1, 2]) (.seq (.seq (q1 [qm 27 1, qi 28 .lss 27 0] [1, 2, 28]) (.cond 28 [] [1, 2] (.seq (q1 [qK 4 (-1)] [4]) (.ret)) (.skip))) (.seq (q1 [qo 29 14 2, ql 30 29, qm 31 1, qc 32 gf_xa rfl [30, 31], qa 1 32] [1]) (.seq (.seq (q1 [qm 33 1, qi 34 .lss 33 0] [1, 34]) (.cond 34 [] [1] (.seq (q1 [qK 4 (-1)] [4]) (.ret)) (.skip))) (.seq (q1 [qm 35 1, qa 4 35] [4]) (.ret))))))))))))⟩
def d_xj (p0 : GHouse) (p1 : Int) : Option Int :=
 bd (d_xb p0.Rules p1) fun x1 =>
 br (decide (x1 < 0))
  (some (-1))
  (bd (d_xc p0.Parties x1) fun x2 =>
  br (decide (x2 < 0))
   (some (-1))
   (bd (d_xi p0.Cabins x2) fun x3 =>
   br (decide (x3 < 0))
    (some (-1))
    (bd (d_xa p0.Todo x3) fun x4 =>
    br (decide (x4 < 0))
     (some (-1))
     (bd (d_xa p0.Jobs x4) fun x5 =>
     br (decide (x5 < 0))
      (some (-1))
      (some x5)))))
def gf_xj : GF := y_xj.gf rfl rfl (fun a => d_xj a.1 a.2.1) (fun a => by kernel_rfl)
def y_xk : YF := ⟨[], [.v (.l .i)], [], .ret [(.l .i)], [.tmp 2],
 .seq (q1 [.as 2 (.k .nil), .nils [(.tmp 2 0, .i)]] [0]) (.seq (q1 [qm 5 0, qz 6 5, .mksl 7 .i (.tmp 6), qa 3 7] [0, 3]) (.join [(false, 3, .one, [.val (.l .i) none])] (.seq (q1 [qK 4 0] [0, 3, 4]) (.block 0 (.loop [(false, 3, .one, [.val (.l .i) none]), (false, 4, .one, [.val .i none])] (.seq (.seq (q1 [qm 8 4, qm 9 0, qz 10 9, qb 11 .lss 8 10] [0, 3, 4, 11]) (.cond 11 [0, 3, 4] [3] (.skip) (.exit 0))) (.seq (.block 1 (q1 [qm 14 3, qm 15 4, qm 16 0, qm 17 4, qe 18 .i 16 17, ql 19 18, qe 20 .i 14 15, qw 1 20 19] [0, 3, 4])) (q1 [qm 12 4, qi 13 .add 12 1, qa 4 13] [0, 3, 4])))))) (.seq (q1 [qm 21 3, qa 2 21] [2]) (.ret))))⟩
def d_xk_j2 (v7 : (List Int)) : Option (List Int) :=
 some v7
def d_xk_l1 (p0 : (List Int)) (L1 : ((List Int) × Int) → Option (List Int)) (x_ : ((List Int) × Int)) : Option (List Int) :=
 match x_ with
 | (v2, v3) => br (decide (v3 < (↑p0.length : Int)))
  (bd (at? p0 v3) fun x4 =>
  bd (at? v2 v3) fun x5 =>
  bd (at? v2 v3) fun x6 =>
  L1 ((List.set v2 v3.toNat x4, w64 (v3 + 1))))
  (jn (d_xk_j2) v2)
def d_xk (p0 : (List Int)) : Option (List Int) :=
 gd (0 ≤ (↑p0.length : Int) ∧ (↑p0.length : Int) ≤ (↑lim : Int)) (
 loopN (d_xk_l1 p0) big ((List.replicate (↑p0.length : Int).toNat 0, 0)))
def gf_xk : GF := y_xk.gf rfl rfl (fun a => d_xk a.1) (fun a => by kernel_rfl)
def y_xl : YF := ⟨[], [.v (.st 1)], [], .ret [(.st 1)], [.cell 2 (some 9)],
 .seq (q1 [qu 1 0, .alloc 2 [.nil, .int .i64 0, .int .i64 0, .int .i64 0, .int .i64 0, .int .i64 0, .int .i64 0, .int .i64 0, .int .i64 0], .nils [(.cell 2 0, .i)]] [1, 2]) (.seq (q1 [.alloc 3 [.nil, .int .i64 0, .int .i64 0, .int .i64 0, .int .i64 0, .int .i64 0, .int .i64 0, .int .i64 0, .int .i64 0], .nils [(.cell 3 0, .i)]] [1, 2, 3]) (.seq (q1 [qo 4 0 1, ql 5 4, qc 6 gf_xk rfl [5], qo 7 0 3, qw 1 7 6] [1, 2, 3]) (.seq (q1 [qo 8 1 1, ql 9 8, qo 10 1 3, qw 1 10 9] [1, 2, 3]) (.seq (q1 [qo 11 2 1, ql 12 11, qo 13 2 3, qw 1 13 12] [1, 2, 3]) (.seq (q1 [qo 14 3 1, ql 15 14, qo 16 3 3, qw 1 16 15] [1, 2, 3]) (.seq (q1 [qo 17 4 1, ql 18 17, qo 19 4 3, qw 1 19 18] [1, 2, 3]) (.seq (q1 [qo 20 5 1, ql 21 20, qo 22 5 3, qw 1 22 21] [1, 2, 3]) (.seq (q1 [qo 23 6 1, ql 24 23, qo 25 6 3, qw 1 25 24] [1, 2, 3]) (.seq (q1 [qo 26 7 1, ql 27 26, qo 28 7 3, qw 1 28 27] [1, 2, 3]) (.seq (q1 [qo 29 8 1, ql 30 29, qo 31 8 3, qw 1 31 30] [2, 3]) (.seq (q1 [qL 32 9 3, qw 9 2 32] [2]) (.ret))))))))))))⟩
def d_xl (p0 : GRules) : Option GRules :=
 bd (d_xk p0.Seats) fun x1 =>
 some (GRules.mk x1 p0.Tiers p0.Room p0.Size p0.Period p0.Window p0.Rest p0.Tries p0.Crew)
def gf_xl : GF := y_xl.gf rfl rfl (fun a => d_xl a.1) (fun a => by kernel_rfl)
def y_xm : YF := ⟨[], [.v (.st 2)], [], .ret [(.st 2)], [.cell 2 (some 10)],
 .seq (q1 [qu 1 0, .alloc 2 [.int .i64 0, .int .i64 0, .int .i64 0, .int .i64 0, .int .i64 0, .int .i64 0, .int .i64 0, .int .i64 0, .int .i64 0, .int .i64 0]] [1, 2]) (.seq (q1 [.alloc 3 [.int .i64 0, .int .i64 0, .int .i64 0, .int .i64 0, .int .i64 0, .int .i64 0, .int .i64 0, .int .i64 0, .int .i64 0, .int .i64 0]] [1, 2, 3]) (.seq (q1 [qo 4 0 1, ql 5 4, qo 6 0 3, qw 1 6 5] [1, 2, 3]) (.seq (q1 [qo 7 1 1, ql 8 7, qo 9 1 3, qw 1 9 8] [1, 2, 3]) (.seq (q1 [qo 10 2 1, ql 11 10, qo 12 2 3, qw 1 12 11] [1, 2, 3]) (.seq (q1 [qo 13 3 1, ql 14 13, qo 15 3 3, qw 1 15 14] [1, 2, 3]) (.seq (q1 [qo 16 4 1, ql 17 16, qo 18 4 3, qw 1 18 17] [1, 2, 3]) (.seq (q1 [qo 19 5 1, ql 20 19, qo 21 5 3, qw 1 21 20] [1, 2, 3]) (.seq (q1 [qo 22 6 1, ql 23 22, qo 24 6 3, qw 1 24 23] [1, 2, 3]) (.seq (q1 [qo 25 7 1, ql 26 25, qo 27 7 3, qw 1 27 26] [1, 2, 3]) (.seq (q1 [qo 28 8 1, ql 29 28, qo 30 8 3, qw 1 30 29] [1, 2, 3]) (.seq (q1 [qo 31 9 1, ql 32 31, qo 33 9 3, qw 1 33 32] [2, 3]) (.seq (q1 [qL 34 10 3, qw 10 2 34] [2]) (.ret)))))))))))))⟩
def d_xm (p0 : GParty) : Option GParty :=
 some p0
def gf_xm : GF := y_xm.gf rfl rfl (fun a => d_xm a.1) (fun a => by kernel_rfl)
def y_xn : YF := ⟨[], [.v (.l (.st 2))], [], .ret [(.l (.st 2))], [.tmp 2],
 .seq (q1 [.as 2 (.k .nil), .nils [(.tmp 2 0, (.st 2))]] [0]) (.seq (q1 [qm 5 0, qz 6 5, .mksl 7 (.st 2) (.tmp 6), qa 3 7] [0, 3]) (.join [(false, 3, .one, [.val (.l (.st 2)) none])] (.seq (q1 [qK 4 0] [0, 3, 4]) (.block 0 (.loop [(false, 3, .one, [.val (.l (.st 2)) none]), (false, 4, .one, [.val .i none])] (.seq (.seq (q1 [qm 8 4, qm 9 0, qz 10 9, qb 11 .lss 8 10] [0, 3, 4, 11]) (.cond 11 [0, 3, 4] [3] (.skip) (.exit 0))) (.seq (.block 1 (q1 [qm 14 3, qm 15 4, qm 16 0, qm 17 4, qe 18 (.st 2) 16 17, qL 19 10 18, qc 20 gf_xm rfl [19], qe 21 (.st 2) 14 15, qw 10 21 20] [0, 3, 4])) (q1 [qm 12 4, qi 13 .add 12 1, qa 4 13] [0, 3, 4])))))) (.seq (q1 [qm 22 3, qa 2 22] [2]) (.ret))))⟩
def d_xn_j2 (v8 : (List GParty)) : Option (List GParty) :=
 some v8
def d_xn_l1 (p0 : (List GParty)) (L1 : ((List GParty) × Int) → Option (List GParty)) (x_ : ((List GParty) × Int)) : Option (List GParty) :=
 match x_ with
 | (v2, v3) => br (decide (v3 < (↑p0.length : Int)))
  (bd (at? p0 v3) fun x4 =>
  bd (d_xm x4) fun x5 =>
  bd (at? v2 v3) fun x6 =>
  bd (at? v2 v3) fun x7 =>
  L1 ((List.set v2 v3.toNat x5, w64 (v3 + 1))))
  (jn (d_xn_j2) v2)
def d_xn (p0 : (List GParty)) : Option (List GParty) :=
 gd (0 ≤ (↑p0.length : Int) ∧ (↑p0.length : Int) ≤ (↑lim : Int)) (
 loopN (d_xn_l1 p0) big ((List.replicate (↑p0.length : Int).toNat (GParty.mk 0 0 0 0 0 0 0 0 0 0), 0)))
def gf_xn : GF := y_xn.gf rfl rfl (fun a => d_xn a.1) (fun a => by kernel_rfl)
def y_xo : YF := ⟨[], [.v (.st 3)], [], .ret [(.st 3)], [.cell 2 (some 5)],
 .seq (q1 [qu 1 0, .alloc 2 [.int .i64 0, .int .i64 0, .int .i64 0, .int .i64 0, .int .i64 0]] [1, 2]) (.seq (q1 [.alloc 3 [.int .i64 0, .int .i64 0, .int .i64 0, .int .i64 0, .int .i64 0]] [1, 2, 3]) (.seq (q1 [qo 4 0 1, ql 5 4, qo 6 0 3, qw 1 6 5] [1, 2, 3]) (.seq (q1 [qo 7 1 1, ql 8 7, qo 9 1 3, qw 1 9 8] [1, 2, 3]) (.seq (q1 [qo 10 2 1, ql 11 10, qo 12 2 3, qw 1 12 11] [1, 2, 3]) (.seq (q1 [qo 13 3 1, ql 14 13, qo 15 3 3, qw 1 15 14] [1, 2, 3]) (.seq (q1 [qo 16 4 1, ql 17 16, qo 18 4 3, qw 1 18 17] [2, 3]) (.seq (q1 [qL 19 5 3, qw 5 2 19] [2]) (.ret))))))))⟩
def d_xo (p0 : GLedger) : Option GLedger :=
 some p0
def gf_xo : GF := y_xo.gf rfl rfl (fun a => d_xo a.1) (fun a => by kernel_rfl)
def y_xp : YF := ⟨[], [.v (.st 4)], [], .ret [(.st 4)], [.cell 2 (some 4)],
 .seq (q1 [qu 1 0, .alloc 2 [.int .i64 0, .int .i64 0, .int .i64 0, .int .i64 0]] [1, 2]) (.seq (q1 [.alloc 3 [.int .i64 0, .int .i64 0, .int .i64 0, .int .i64 0]] [1, 2, 3]) (.seq (q1 [qo 4 0 1, ql 5 4, qo 6 0 3, qw 1 6 5] [1, 2, 3]) (.seq (q1 [qo 7 1 1, ql 8 7, qo 9 1 3, qw 1 9 8] [1, 2, 3]) (.seq (q1 [qo 10 2 1, ql 11 10, qo 12 2 3, qw 1 12 11] [1, 2, 3]) (.seq (q1 [qo 13 3 1, ql 14 13, qo 15 3 3, qw 1 15 14] [2, 3]) (.seq (q1 [qL 16 4 3, qw 4 2 16] [2]) (.ret)))))))⟩
def d_xp (p0 : GEntry) : Option GEntry :=
 some p0
def gf_xp : GF := y_xp.gf rfl rfl (fun a => d_xp a.1) (fun a => by kernel_rfl)
def y_xq : YF := ⟨[], [.v (.l (.st 4))], [], .ret [(.l (.st 4))], [.tmp 2],
 .seq (q1 [.as 2 (.k .nil), .nils [(.tmp 2 0, (.st 4))]] [0]) (.seq (q1 [qm 5 0, qz 6 5, .mksl 7 (.st 4) (.tmp 6), qa 3 7] [0, 3]) (.join [(false, 3, .one, [.val (.l (.st 4)) none])] (.seq (q1 [qK 4 0] [0, 3, 4]) (.block 0 (.loop [(false, 3, .one, [.val (.l (.st 4)) none]), (false, 4, .one, [.val .i none])] (.seq (.seq (q1 [qm 8 4, qm 9 0, qz 10 9, qb 11 .lss 8 10] [0, 3, 4, 11]) (.cond 11 [0, 3, 4] [3] (.skip) (.exit 0))) (.seq (.block 1 (q1 [qm 14 3, qm 15 4, qm 16 0, qm 17 4, qe 18 (.st 4) 16 17, qL 19 4 18, qc 20 gf_xp rfl [19], qe 21 (.st 4) 14 15, qw 4 21 20] [0, 3, 4])) (q1 [qm 12 4, qi 13 .add 12 1, qa 4 13] [0, 3, 4])))))) (.seq (q1 [qm 22 3, qa 2 22] [2]) (.ret))))⟩
def d_xq_j2 (v8 : (List GEntry)) : Option (List GEntry) :=
 some v8
def d_xq_l1 (p0 : (List GEntry)) (L1 : ((List GEntry) × Int) → Option (List GEntry)) (x_ : ((List GEntry) × Int)) : Option (List GEntry) :=
 match x_ with
 | (v2, v3) => br (decide (v3 < (↑p0.length : Int)))
  (bd (at? p0 v3) fun x4 =>
  bd (d_xp x4) fun x5 =>
  bd (at? v2 v3) fun x6 =>
  bd (at? v2 v3) fun x7 =>
  L1 ((List.set v2 v3.toNat x5, w64 (v3 + 1))))
  (jn (d_xq_j2) v2)
def d_xq (p0 : (List GEntry)) : Option (List GEntry) :=
 gd (0 ≤ (↑p0.length : Int) ∧ (↑p0.length : Int) ≤ (↑lim : Int)) (
 loopN (d_xq_l1 p0) big ((List.replicate (↑p0.length : Int).toNat (GEntry.mk 0 0 0 0), 0)))
def gf_xq : GF := y_xq.gf rfl rfl (fun a => d_xq a.1) (fun a => by kernel_rfl)
def y_xr : YF := ⟨[], [.v (.st 5)], [], .ret [(.st 5)], [.cell 2 (some 2)],
 .seq (q1 [qu 1 0, .alloc 2 [.int .i64 0, .int .i64 0]] [1, 2]) (.seq (q1 [.alloc 3 [.int .i64 0, .int .i64 0]] [1, 2, 3]) (.seq (q1 [qo 4 0 1, ql 5 4, qo 6 0 3, qw 1 6 5] [1, 2, 3]) (.seq (q1 [qo 7 1 1, ql 8 7, qo 9 1 3, qw 1 9 8] [2, 3]) (.seq (q1 [qL 10 2 3, qw 2 2 10] [2]) (.ret)))))⟩
def d_xr (p0 : GPin) : Option GPin :=
 some p0
def gf_xr : GF := y_xr.gf rfl rfl (fun a => d_xr a.1) (fun a => by kernel_rfl)
def y_xs : YF := ⟨[], [.v (.l (.st 5))], [], .ret [(.l (.st 5))], [.tmp 2],
 .seq (q1 [.as 2 (.k .nil), .nils [(.tmp 2 0, (.st 5))]] [0]) (.seq (q1 [qm 5 0, qz 6 5, .mksl 7 (.st 5) (.tmp 6), qa 3 7] [0, 3]) (.join [(false, 3, .one, [.val (.l (.st 5)) none])] (.seq (q1 [qK 4 0] [0, 3, 4]) (.block 0 (.loop [(false, 3, .one, [.val (.l (.st 5)) none]), (false, 4, .one, [.val .i none])] (.seq (.seq (q1 [qm 8 4, qm 9 0, qz 10 9, qb 11 .lss 8 10] [0, 3, 4, 11]) (.cond 11 [0, 3, 4] [3] (.skip) (.exit 0))) (.seq (.block 1 (q1 [qm 14 3, qm 15 4, qm 16 0, qm 17 4, qe 18 (.st 5) 16 17, qL 19 2 18, qc 20 gf_xr rfl [19], qe 21 (.st 5) 14 15, qw 2 21 20] [0, 3, 4])) (q1 [qm 12 4, qi 13 .add 12 1, qa 4 13] [0, 3, 4])))))) (.seq (q1 [qm 22 3, qa 2 22] [2]) (.ret))))⟩
def d_xs_j2 (v8 : (List GPin)) : Option (List GPin) :=
 some v8
def d_xs_l1 (p0 : (List GPin)) (L1 : ((List GPin) × Int) → Option (List GPin)) (x_ : ((List GPin) × Int)) : Option (List GPin) :=
 match x_ with
 | (v2, v3) => br (decide (v3 < (↑p0.length : Int)))
  (bd (at? p0 v3) fun x4 =>
  bd (d_xr x4) fun x5 =>
  bd (at? v2 v3) fun x6 =>
  bd (at? v2 v3) fun x7 =>
  L1 ((List.set v2 v3.toNat x5, w64 (v3 + 1))))
  (jn (d_xs_j2) v2)
def d_xs (p0 : (List GPin)) : Option (List GPin) :=
 gd (0 ≤ (↑p0.length : Int) ∧ (↑p0.length : Int) ≤ (↑lim : Int)) (
 loopN (d_xs_l1 p0) big ((List.replicate (↑p0.length : Int).toNat (GPin.mk 0 0), 0)))
def gf_xs : GF := y_xs.gf rfl rfl (fun a => d_xs a.1) (fun a => by kernel_rfl)
def y_xt : YF := ⟨[], [.v (.l (.l (.st 5)))], [], .ret [(.l (.l (.st 5)))], [.tmp 2],
 .seq (q1 [.as 2 (.k .nil), .nils [(.tmp 2 0, (.l (.st 5)))]] [0]) (.seq (q1 [qm 5 0, qz 6 5, .mksl 7 (.l (.st 5)) (.tmp 6), qa 3 7] [0, 3]) (.join [(false, 3, .one, [.val (.l (.l (.st 5))) none])] (.seq (q1 [qK 4 0] [0, 3, 4]) (.block 0 (.loop [(false, 3, .one, [.val (.l (.l (.st 5))) none]), (false, 4, .one, [.val .i none])] (.seq (.seq (q1 [qm 8 4, qm 9 0, qz 10 9, qb 11 .lss 8 10] [0, 3, 4, 11]) (.cond 11 [0, 3, 4] [3] (.skip) (.exit 0))) (.seq (.block 1 (q1 [qm 14 3, qm 15 4, qm 16 0, qm 17 4, qe 18 (.l (.st 5)) 16 17, ql 19 18, qc 20 gf_xs rfl [19], qe 21 (.l (.st 5)) 14 15, qw 1 21 20] [0, 3, 4])) (q1 [qm 12 4, qi 13 .add 12 1, qa 4 13] [0, 3, 4])))))) (.seq (q1 [qm 22 3, qa 2 22] [2]) (.ret))))⟩
def d_xt_j2 (v8 : (List (List GPin))) : Option (List (List GPin)) :=
 some v8
def d_xt_l1 (p0 : (List (List GPin))) (L1 : ((List (List GPin)) × Int) → Option (List (List GPin))) (x_ : ((List (List GPin)) × Int)) : Option (List (List GPin)) :=
 match x_ with
 | (v2, v3) => br (decide (v3 < (↑p0.length : Int)))
  (bd (at? p0 v3) fun x4 =>
  bd (d_xs x4) fun x5 =>
  bd (at? v2 v3) fun x6 =>
  bd (at? v2 v3) fun x7 =>
  L1 ((List.set v2 v3.toNat x5, w64 (v3 + 1))))
  (jn (d_xt_j2) v2)
def d_xt (p0 : (List (List GPin))) : Option (List (List GPin)) :=
 gd (0 ≤ (↑p0.length : Int) ∧ (↑p0.length : Int) ≤ (↑lim : Int)) (
 loopN (d_xt_l1 p0) big ((List.replicate (↑p0.length : Int).toNat [], 0)))
def gf_xt : GF := y_xt.gf rfl rfl (fun a => d_xt a.1) (fun a => by kernel_rfl)
def y_xu : YF := ⟨[], [.v (.st 6)], [], .ret [(.st 6)], [.cell 2 (some 1)],
 .seq (q1 [qu 1 0, .alloc 2 [.nil], .nils [(.cell 2 0, (.l (.st 5)))]] [1, 2]) (.seq (q1 [.alloc 3 [.nil], .nils [(.cell 3 0, (.l (.st 5)))]] [1, 2, 3]) (.seq (q1 [qo 4 0 1, ql 5 4, qc 6 gf_xt rfl [5], qo 7 0 3, qw 1 7 6] [2, 3]) (.seq (q1 [qL 8 1 3, qw 1 2 8] [2]) (.ret))))⟩
def d_xu (p0 : GWheel) : Option GWheel :=
 bd (d_xt p0.Spoke) fun x1 =>
 some (GWheel.mk x1)
def gf_xu : GF := y_xu.gf rfl rfl (fun a => d_xu a.1) (fun a => by kernel_rfl)
def y_xv : YF := ⟨[], [.v (.st 7)], [], .ret [(.st 7)], [.cell 2 (some 7)],
 .seq (q1 [qu 1 0, .alloc 2 [.int .i64 0, .int .i64 0, .int .i64 0, .int .i64 0, .int .i64 0, .nil, .nil], .nils [(.cell 2 5, (.st 4)), (.cell 2 6, (.l (.st 5)))]] [1, 2]) (.seq (q1 [.alloc 3 [.int .i64 0, .int .i64 0, .int .i64 0, .int .i64 0, .int .i64 0, .nil, .nil], .nils [(.cell 3 5, (.st 4)), (.cell 3 6, (.l (.st 5)))]] [1, 2, 3]) (.seq (q1 [qo 4 0 1, qL 5 5 4, qc 6 gf_xo rfl [5], qo 7 0 3, qw 5 7 6] [1, 2, 3]) (.seq (q1 [qo 8 5 1, ql 9 8, qc 10 gf_xq rfl [9], qo 11 5 3, qw 1 11 10] [1, 2, 3]) (.seq (q1 [qo 12 6 1, qL 13 1 12, qc 14 gf_xu rfl [13], qo 15 6 3, qw 1 15 14] [2, 3]) (.seq (q1 [qL 16 7 3, qw 7 2 16] [2]) (.ret))))))⟩
def d_xv (p0 : GCabin) : Option GCabin :=
 bd (d_xo p0.Seats) fun x1 =>
 bd (d_xq p0.Row) fun x2 =>
 bd (d_xu p0.Wheel) fun x3 =>
 some (GCabin.mk x1 x2 x3)
def gf_xv : GF := y_xv.gf rfl rfl (fun a => d_xv a.1) (fun a => by kernel_rfl)
def y_xw : YF := ⟨[], [.v (.l (.st 7))], [], .ret [(.l (.st 7))], [.tmp 2],
 .seq (q1 [.as 2 (.k .nil), .nils [(.tmp 2 0, (.st 7))]] [0]) (.seq (q1 [qm 5 0, qz 6 5, .mksl 7 (.st 7) (.tmp 6), qa 3 7] [0, 3]) (.join [(false, 3, .one, [.val (.l (.st 7)) none])] (.seq (q1 [qK 4 0] [0, 3, 4]) (.block 0 (.loop [(false, 3, .one, [.val (.l (.st 7)) none]), (false, 4, .one, [.val .i none])] (.seq (.seq (q1 [qm 8 4, qm 9 0, qz 10 9, qb 11 .lss 8 10] [0, 3, 4, 11]) (.cond 11 [0, 3, 4] [3] (.skip) (.exit 0))) (.seq (.block 1 (q1 [qm 14 3, qm 15 4, qm 16 0, qm 17 4, qe 18 (.st 7) 16 17, qL 19 7 18, qc 20 gf_xv rfl [19], qe 21 (.st 7) 14 15, qw 7 21 20] [0, 3, 4])) (q1 [qm 12 4, qi 13 .add 12 1, qa 4 13] [0, 3, 4])))))) (.seq (q1 [qm 22 3, qa 2 22] [2]) (.ret))))⟩
def d_xw_j2 (v8 : (List GCabin)) : Option (List GCabin) :=
 some v8
def d_xw_l1 (p0 : (List GCabin)) (L1 : ((List GCabin) × Int) → Option (List GCabin)) (x_ : ((List GCabin) × Int)) : Option (List GCabin) :=
 match x_ with
 | (v2, v3) => br (decide (v3 < (↑p0.length : Int)))
  (bd (at? p0 v3) fun x4 =>
  bd (d_xv x4) fun x5 =>
  bd (at? v2 v3) fun x6 =>
  bd (at? v2 v3) fun x7 =>
  L1 ((List.set v2 v3.toNat x5, w64 (v3 + 1))))
  (jn (d_xw_j2) v2)
def d_xw (p0 : (List GCabin)) : Option (List GCabin) :=
 gd (0 ≤ (↑p0.length : Int) ∧ (↑p0.length : Int) ≤ (↑lim : Int)) (
 loopN (d_xw_l1 p0) big ((List.replicate (↑p0.length : Int).toNat (GCabin.mk (GLedger.mk 0 0 0 0 0) [] (GWheel.mk [])), 0)))
def gf_xw : GF := y_xw.gf rfl rfl (fun a => d_xw a.1) (fun a => by kernel_rfl)
def y_xx : YF := ⟨[], [.v (.st 8)], [], .ret [(.st 8)], [.cell 2 (some 15)],
 .seq (q1 [qu 1 0, .alloc 2 [.nil, .int .i64 0, .int .i64 0, .int .i64 0, .int .i64 0, .int .i64 0, .int .i64 0, .int .i64 0, .int .i64 0, .int .i64 0, .int .i64 0, .nil, .nil, .nil, .nil], .nils [(.cell 2 0, .i), (.cell 2 11, (.st 2)), (.cell 2 12, (.st 7)), (.cell 2 13, .i), (.cell 2 14, .i)]] [1, 2]) (.seq (q1 [.alloc 3 [.nil, .int .i64 0, .int .i64 0, .int .i64 0, .int .i64 0, .int .i64 0, .int .i64 0, .int .i64 0, .int .i64 0, .int .i64 0, .int .i64 0, .nil, .nil, .nil, .nil], .nils [(.cell 3 0, .i), (.cell 3 11, (.st 2)), (.cell 3 12, (.st 7)), (.cell 3 13, .i), (.cell 3 14, .i)]] [1, 2, 3]) (.seq (q1 [qo 4 0 1, qL 5 9 4, qc 6 gf_xl rfl [5], qo 7 0 3, qw 9 7 6] [1, 2, 3]) (.seq (q1 [qo 8 9 1, ql 9 8, qo 10 9 3, qw 1 10 9] [1, 2, 3]) (.seq (q1 [qo 11 10 1, ql 12 11, qo 13 10 3, qw 1 13 12] [1, 2, 3]) (.seq (q1 [qo 14 11 1, ql 15 14, qc 16 gf_xn rfl [15], qo 17 11 3, qw 1 17 16] [1, 2, 3]) (.seq (q1 [qo 18 12 1, ql 19 18, qc 20 gf_xw rfl [19], qo 21 12 3, qw 1 21 20] [1, 2, 3]) (.seq (q1 [qo 22 13 1, ql 23 22, qc 24 gf_xk rfl [23], qo 25 13 3, qw 1 25 24] [1, 2, 3]) (.seq (q1 [qo 26 14 1, ql 27 26, qc 28 gf_xk rfl [27], qo 29 14 3, qw 1 29 28] [2, 3]) (.seq (q1 [qL 30 15 3, qw 15 2 30] [2]) (.ret))))))))))⟩
def d_xx (p0 : GHouse) : Option GHouse :=
 bd (d_xl p0.Rules) fun x1 =>
 bd (d_xn p0.Parties) fun x2 =>
 bd (d_xw p0.Cabins) fun x3 =>
 bd (d_xk p0.Todo) fun x4 =>
 bd (d_xk p0.Jobs) fun x5 =>
 some (GHouse.mk x1 p0.Now p0.Turn x2 x3 x4 x5)
def gf_xx : GF := y_xx.gf rfl rfl (fun a => d_xx a.1) (fun a => by kernel_rfl)
def y_xy : YF := ⟨[], [.v .i, .v .i, .v .i], [], .ret [.b], [.tmp 6],
 .seq (q1 [qB 6 false] [0, 1, 2]) (.join [(false, 6, .one, [.val .b none])] (qr [qn [qm 7 0, qm 8 1, qb 9 .geq 7 8, qm 10 9],
 qt 10 [qm 11 0, qm 12 2, qb 13 .leq 11 12],
 qn [qq 14 10 13, qa 6 14]] [6]) (.ret))⟩
def d_xy_j1 (v1 : Bool) : Option Bool :=
 some v1
def d_xy (p0 : Int) (p1 : Int) (p2 : Int) : Option Bool :=
 br (decide (p0 ≥ p1))
  (jn (d_xy_j1) (decide (p0 ≤ p2)))
  (jn (d_xy_j1) false)
def gf_xy : GF := y_xy.gf rfl rfl (fun a => d_xy a.1 a.2.1 a.2.2.1) (fun a => by kernel_rfl)
def y_xz : YF := ⟨[], [.v (.st 1)], [], .ret [.b], [.tmp 2],
 .seq (q1 [qu 1 0, qB 2 false] [1]) (.seq (.join [(false, 32, .one, [.val .b none])] (qr [qn [qo 4 0 1, ql 5 4, qz 6 5, .call 7 gf_xy [] rfl [.tmp 6, qj 1, qj 4], qx 8 7, qm 9 8],
 qf 9 [qo 10 1 1, ql 11 10, .call 12 gf_xy [] rfl [.tmp 11, qj 1, qj 5], qx 13 12],
 qn [qp 14 9 13, qm 15 14],
 qf 15 [qo 16 2 1, ql 17 16, .call 18 gf_xy [] rfl [.tmp 17, qj 1, qj 10], qx 19 18],
 qn [qp 20 15 19, qm 21 20],
 qf 21 [qo 22 3 1, ql 23 22, .call 24 gf_xy [] rfl [.tmp 23, qj 1, qj 6], qx 25 24],
 qn [qp 26 21 25, qm 27 26],
 qf 27 [qo 28 4 1, ql 29 28, .call 30 gf_xy [] rfl [.tmp 29, qj 1, qj 12], qx 31 30],
 qn [qp 32 27 31]] [1, 32]) (.cond 32 [] [1] (.seq (q1 [qB 2 false] [2]) (.ret)) (.skip))) (.join [] (.seq (q1 [qK 3 0] [1, 3]) (.block 0 (.loop [(false, 3, .one, [.val .i none])] (.seq (.seq (q1 [qm 33 3, qo 34 0 1, ql 35 34, qz 36 35, qb 37 .lss 33 36] [1, 3, 37]) (.cond 37 [1, 3] [1] (.skip) (.exit 0))) (.seq (.block 1 (.seq (q1 [qo 40 0 1, ql 41 40, qm 42 3, qe 43 .i 41 42, ql 44 43, .call 45 gf_xy [] rfl [.tmp 44, qj 1, qj 60], qx 46 45] [1, 3, 46]) (.cond 46 [] [1, 3] (.seq (q1 [qB 2 false] [2]) (.ret)) (.skip)))) (q1 [qm 38 3, qi 39 .add 38 1, qa 3 39] [1, 3])))))) (.join [(false, 2, .one, [.val .b none])] (qr [qn [qo 47 5 1, ql 48 47, .call 49 gf_xy [] rfl [.tmp 48, qj 1, qj 8], qm 50 49],
 qt 50 [qo 51 6 1, ql 52 51, .call 53 gf_xy [] rfl [.tmp 52, qj 0, qj 8]],
 qn [qq 54 50 53, qm 55 54],
 qt 55 [qo 56 7 1, ql 57 56, .call 58 gf_xy [] rfl [.tmp 57, qj 1, qj 4]],
 qn [qq 59 55 58, qm 60 59],
 qt 60 [qo 61 8 1, ql 62 61, .call 63 gf_xy [] rfl [.tmp 62, qj 1, qj 3]],
 qn [qq 64 60 63, qa 2 64]] [2]) (.ret))))⟩
def d_xz_j4 (v11 : Bool) : Option Bool :=
 some v11
def d_xz_j3 (p0 : GRules) (_ : PUnit) : Option Bool :=
 bd (d_xy p0.Window 1 8) fun x7 =>
 br x7
  (bd (d_xy p0.Rest 0 8) fun x8 =>
  br x8
   (bd (d_xy p0.Tries 1 4) fun x9 =>
   br x9
    (bd (d_xy p0.Crew 1 3) fun x10 =>
    jn (d_xz_j4) x10)
    (jn (d_xz_j4) false))
   (jn (d_xz_j4) false))
  (jn (d_xz_j4) false)
def d_xz_l2 (p0 : GRules) (L3 : Int → Option Bool) (v4 : Int) : Option Bool :=
 br (decide (v4 < (↑p0.Seats.length : Int)))
  (bd (at? p0.Seats v4) fun x5 =>
  bd (d_xy x5 1 60) fun x6 =>
  br (!x6)
   (some false)
   (L3 (w64 (v4 + 1))))
  (jn (d_xz_j3 p0) ())
def d_xz_j1 (p0 : GRules) (v2 : Bool) : Option Bool :=
 br v2
  (some false)
  (loopN (d_xz_l2 p0) big 0)
def d_xz (p0 : GRules) : Option Bool :=
 bd (d_xy (↑p0.Seats.length : Int) 1 4) fun x1 =>
 br (!x1)
  (jn (d_xz_j1 p0) true)
  (bd (d_xy p0.Tiers 1 5) fun x12 =>
  br (!x12)
   (jn (d_xz_j1 p0) true)
   (bd (d_xy p0.Room 1 10) fun x13 =>
   br (!x13)
    (jn (d_xz_j1 p0) true)
    (bd (d_xy p0.Size 1 6) fun x14 =>
    br (!x14)
     (jn (d_xz_j1 p0) true)
     (bd (d_xy p0.Period 1 12) fun x15 =>
     jn (d_xz_j1 p0) (!x15)))))
def gf_xz : GF := y_xz.gf rfl rfl (fun a => d_xz a.1) (fun a => by kernel_rfl)
def y_x0 : YF := ⟨[], [.v (.st 1), .v (.st 2), .v .i], [], .ret [.b], [.tmp 6],
 .seq (q1 [qu 3 0, qu 4 1, qB 6 false] [2, 3, 4]) (.seq (.join [(false, 47, .one, [.val .b none])] (qr [qn [qL 7 9 3, qc 8 gf_xz rfl [7], qx 9 8, qm 10 9],
 qf 10 [qm 11 2, .call 12 gf_xy [] rfl [.tmp 11, qj 0, qj 1000000], qx 13 12],
 qn [qp 14 10 13, qm 15 14],
 qf 15 [qo 16 0 4, ql 17 16, .call 18 gf_xy [] rfl [.tmp 17, qj 1, qj 999], qx 19 18],
 qn [qp 20 15 19, qm 21 20],
 qf 21 [qo 22 1 4, ql 23 22, qo 24 0 3, ql 25 24, qz 26 25, qi 27 .sub 26 1, .call 28 gf_xy [] rfl [.tmp 23, qj 0, .tmp 27], qx 29 28],
 qn [qp 30 21 29, qm 31 30],
 qf 31 [qo 32 2 4, ql 33 32, qo 34 0 3, ql 35 34, qz 36 35, qi 37 .sub 36 1, .call 38 gf_xy [] rfl [.tmp 33, qj (-1), .tmp 37], qx 39 38],
 qn [qp 40 31 39, qm 41 40],
 qf 41 [qo 42 2 4, ql 43 42, qo 44 1 4, ql 45 44, qb 46 .eql 43 45],
 qn [qp 47 41 46]] [2, 3, 4, 47]) (.cond 47 [] [2, 3, 4] (.seq (q1 [qB 6 false] [6]) (.ret)) (.skip))) (.seq (.join [(false, 84, .one, [.val .b none])] (qr [qn [qo 48 3 4, ql 49 48, qo 50 3 3, ql 51 50, .call 52 gf_xy [] rfl [.tmp 49, qj 1, .tmp 51], qx 53 52, qm 54 53],
 qf 54 [qo 55 4 4, ql 56 55, qo 57 1 3, ql 58 57, qi 59 .sub 58 1, .call 60 gf_xy [] rfl [.tmp 56, qj 0, .tmp 59], qx 61 60],
 qn [qp 62 54 61, qm 63 62],
 qf 63 [qo 64 5 4, ql 65 64, qm 66 2, .call 67 gf_xy [] rfl [.tmp 65, qj 0, .tmp 66], qx 68 67],
 qn [qp 69 63 68, qm 70 69],
 qf 70 [qo 71 6 4, ql 72 71, .call 73 gf_xy [] rfl [.tmp 72, qj 1, qj 1000000], qx 74 73],
 qn [qp 75 70 74, qm 76 75],
 qf 76 [qo 77 9 4, ql 78 77, qo 79 7 3, ql 80 79, qi 81 .sub 80 1, .call 82 gf_xy [] rfl [.tmp 78, qj 0, .tmp 81], qx 83 82],
 qn [qp 84 76 83]] [2, 3, 4, 84]) (.cond 84 [] [2, 3, 4] (.seq (q1 [qB 6 false] [6]) (.ret)) (.skip))) (.join [(false, 6, .one, [.val .b none])] (qr [qn [qo 85 7 4, ql 86 85, qi 87 .eql 86 1, qm 88 87],
 qt 88 [qo 89 8 4, ql 90 89, qm 91 2, qo 92 6 3, ql 93 92, qb 94 .add 91 93, .call 95 gf_xy [] rfl [.tmp 90, qj 0, .tmp 94]],
 qn [qq 96 88 95, qm 97 96],
 qf 97 [qo 98 7 4, ql 99 98, qi 100 .eql 99 2, qm 101 100],
 qt 101 [qo 102 8 4, ql 103 102, qm 104 2, qo 105 5 3, ql 106 105, qb 107 .add 104 106, .call 108 gf_xy [] rfl [.tmp 103, qj 1, .tmp 107]],
 qf 97 [qq 109 101 108],
 qn [qp 110 97 109, qa 6 110]] [6]) (.ret))))⟩
def d_x0_j3 (v6 : Bool) : Option Bool :=
 some v6
def d_x0_j2 (p0 : GRules) (p1 : GParty) (p2 : Int) (v4 : Bool) : Option Bool :=
 br v4
  (some false)
  (br (p1.State == 1)
   (bd (d_xy p1.Until 0 (w64 (p2 + p0.Rest))) fun x5 =>
   br x5
    (jn (d_x0_j3) true)
    (br (p1.State == 2)
     (bd (d_xy p1.Until 1 (w64 (p2 + p0.Window))) fun x7 =>
     jn (d_x0_j3) x7)
     (jn (d_x0_j3) false)))
   (br (p1.State == 2)
    (bd (d_xy p1.Until 1 (w64 (p2 + p0.Window))) fun x8 =>
    jn (d_x0_j3) x8)
    (jn (d_x0_j3) false)))
def d_x0_j1 (p0 : GRules) (p1 : GParty) (p2 : Int) (v2 : Bool) : Option Bool :=
 br v2
  (some false)
  (bd (d_xy p1.Size 1 p0.Size) fun x3 =>
  br (!x3)
   (jn (d_x0_j2 p0 p1 p2) true)
   (bd (d_xy p1.Tier 0 (w64 (p0.Tiers - 1))) fun x9 =>
   br (!x9)
    (jn (d_x0_j2 p0 p1 p2) true)
    (bd (d_xy p1.Since 0 p2) fun x10 =>
    br (!x10)
     (jn (d_x0_j2 p0 p1 p2) true)
     (bd (d_xy p1.Turn 1 1000000) fun x11 =>
     br (!x11)
      (jn (d_x0_j2 p0 p1 p2) true)
      (bd (d_xy p1.Asked 0 (w64 (p0.Tries - 1))) fun x12 =>
      jn (d_x0_j2 p0 p1 p2) (!x12))))))
def d_x0 (p0 : GRules) (p1 : GParty) (p2 : Int) : Option Bool :=
 bd (d_xz p0) fun x1 =>
 br (!x1)
  (jn (d_x0_j1 p0 p1 p2) true)
  (bd (d_xy p2 0 1000000) fun x13 =>
  br (!x13)
   (jn (d_x0_j1 p0 p1 p2) true)
   (bd (d_xy p1.Id 1 999) fun x14 =>
   br (!x14)
    (jn (d_x0_j1 p0 p1 p2) true)
    (bd (d_xy p1.Cabin 0 (w64 ((↑p0.Seats.length : Int) - 1))) fun x15 =>
    br (!x15)
     (jn (d_x0_j1 p0 p1 p2) true)
     (bd (d_xy p1.From (-1) (w64 ((↑p0.Seats.length : Int) - 1))) fun x16 =>
     br (!x16)
      (jn (d_x0_j1 p0 p1 p2) true)
      (jn (d_x0_j1 p0 p1 p2) (p1.From == p1.Cabin))))))
def gf_x0 : GF := y_x0.gf rfl rfl (fun a => d_x0 a.1 a.2.1 a.2.2.1) (fun a => by kernel_rfl)
def y_x1 : YF := ⟨[], [.v (.st 8)], [], .ret [.b], [.tmp 2],
 .seq (q1 [qu 1 0, qB 2 false] [1]) (.join [] (.seq (q1 [qK 3 0] [1, 3]) (.block 0 (.loop [(false, 3, .one, [.val .i none])] (.seq (.seq (q1 [qm 7 3, qo 8 11 1, ql 9 8, qz 10 9, qb 11 .lss 7 10] [1, 3, 11]) (.cond 11 [1, 3] [] (.skip) (.exit 0))) (.join [] (.block 1 (.seq (q1 [qo 14 11 1, ql 15 14, qm 16 3, qe 17 (.st 2) 15 16, qL 18 10 17, .alloc 4 [.int .i64 0, .int .i64 0, .int .i64 0, .int .i64 0, .int .i64 0, .int .i64 0, .int .i64 0, .int .i64 0, .int .i64 0, .int .i64 0], qw 10 4 18] [1, 3, 4]) (.seq (.join [(false, 48, .one, [.val .b none])] (.dreg (qd 0 [qn [qo 19 0 1, qL 20 9 19, qL 21 10 4, qo 22 9 1, ql 23 22, qc 24 gf_x0 rfl [20, 21, 23], qx 25 24, qm 26 25],
 qf 26 [qo 27 6 4, ql 28 27, qo 29 10 1, ql 30 29, qb 31 .geq 28 30],
 qn [qp 32 26 31, qm 33 32],
 qf 33 [qm 34 3, qi 35 .gtr 34 0, qm 36 35],
 qt 36 [qo 37 11 1, ql 38 37, qm 39 3, qi 40 .sub 39 1, qe 41 (.st 2) 38 40, qo 42 0 41, ql 43 42, qo 44 0 4, ql 45 44, qb 46 .geq 43 45],
 qf 33 [qq 47 36 46],
 qn [qp 48 33 47]] .nil) [1, 3, 4, 48]) (.cond 48 [] [1, 3, 4] (.seq (q1 [qB 2 false] [2]) (.ret)) (.skip))) (.seq (q1 [qK 5 0] [1, 3, 4, 5]) (.block 2 (.loop [(false, 5, .one, [.val .i none])] (.seq (.seq (q1 [qm 49 5, qm 50 3, qb 51 .lss 49 50] [1, 3, 4, 5, 51]) (.cond 51 [1, 3, 4, 5] [1, 3] (.skip) (.exit 2))) (.seq (.block 3 (.seq (q1 [qo 54 11 1, ql 55 54, qm 56 5, qe 57 (.st 2) 55 56, qL 58 10 57, .alloc 6 [.int .i64 0, .int .i64 0, .int .i64 0, .int .i64 0, .int .i64 0, .int .i64 0, .int .i64 0, .int .i64 0, .int .i64 0, .int .i64 0], qw 10 6 58] [1, 3, 4, 5, 6]) (.join [(false, 91, .one, [.val .b none])] (qr [qn [qo 59 6 6, ql 60 59, qo 61 6 4, ql 62 61, qb 63 .eql 60 62, qm 64 63],
 qf 64 [qo 65 6 6, ql 66 65, qo 67 6 4, ql 68 67, qb 69 .lss 66 68, qm 70 69],
 qt 70 [qo 71 5 6, ql 72 71, qo 73 5 4, ql 74 73, qb 75 .gtr 72 74],
 qf 64 [qq 76 70 75],
 qn [qp 77 64 76, qm 78 77],
 qf 78 [qo 79 6 6, ql 80 79, qo 81 6 4, ql 82 81, qb 83 .gtr 80 82, qm 84 83],
 qt 84 [qo 85 5 6, ql 86 85, qo 87 5 4, ql 88 87, qb 89 .lss 86 88],
 qf 78 [qq 90 84 89],
 qn [qp 91 78 90]] [1, 3, 4, 5, 91]) (.cond 91 [] [1, 3, 4, 5] (.seq (q1 [qB 2 false] [2]) (.ret)) (.skip))))) (q1 [qm 52 5, qi 53 .add 52 1, qa 5 53] [1, 3, 4, 5]))))))))) (q1 [qm 12 3, qi 13 .add 12 1, qa 3 13] [1, 3])))))) (.seq (q1 [qB 2 true] [2]) (.ret)))⟩
def d_x1_j4 (L6 : Int → Option Bool) (v7 : Int) (v9 : Bool) : Option Bool :=
 br v9
  (some false)
  (L6 (w64 (v7 + 1)))
def d_x1_j5 (L1 : Int → Option Bool) (v2 : Int) (_ : PUnit) : Option Bool :=
 L1 (w64 (v2 + 1))
def d_x1_l3 (p0 : GHouse) (L1 : Int → Option Bool) (v2 : Int) (x3 : GParty) (L6 : Int → Option Bool) (v7 : Int) : Option Bool :=
 br (decide (v7 < v2))
  (bd (at? p0.Parties v7) fun x8 =>
  br (x8.Turn == x3.Turn)
   (jn (d_x1_j4 L6 v7) true)
   (br (decide (x8.Turn < x3.Turn))
    (br (decide (x8.Since > x3.Since))
     (jn (d_x1_j4 L6 v7) true)
     (br (decide (x8.Turn > x3.Turn))
      (jn (d_x1_j4 L6 v7) (decide (x8.Since < x3.Since)))
      (jn (d_x1_j4 L6 v7) false)))
    (br (decide (x8.Turn > x3.Turn))
     (jn (d_x1_j4 L6 v7) (decide (x8.Since < x3.Since)))
     (jn (d_x1_j4 L6 v7) false))))
  (jn (d_x1_j5 L1 v2) ())
def d_x1_j2 (p0 : GHouse) (L1 : Int → Option Bool) (v2 : Int) (x3 : GParty) (v5 : Bool) : Option Bool :=
 br v5
  (some false)
  (loopN (d_x1_l3 p0 L1 v2 x3) big 0)
def d_x1_j6 (_ : PUnit) : Option Bool :=
 some true
def d_x1_l1 (p0 : GHouse) (L1 : Int → Option Bool) (v2 : Int) : Option Bool :=
 br (decide (v2 < (↑p0.Parties.length : Int)))
  (bd (at? p0.Parties v2) fun x3 =>
  bd (d_x0 p0.Rules x3 p0.Now) fun x4 =>
  br (!x4)
   (jn (d_x1_j2 p0 L1 v2 x3) true)
   (br (decide (x3.Turn ≥ p0.Turn))
    (jn (d_x1_j2 p0 L1 v2 x3) true)
    (br (decide (v2 > 0))
     (bd (at? p0.Parties (w64 (v2 - 1))) fun x10 =>
     jn (d_x1_j2 p0 L1 v2 x3) (decide (x10.Id ≥ x3.Id)))
     (jn (d_x1_j2 p0 L1 v2 x3) false))))
  (jn (d_x1_j6) ())
def d_x1 (p0 : GHouse) : Option Bool :=
 loopN (d_x1_l1 p0) big 0
def gf_x1 : GF := y_x1.gf rfl rfl (fun a => d_x1 a.1) (fun a => by kernel_rfl)
def y_x2 : YF := ⟨[], [.v (.l .i), .v .i], [], .ret [.b], [.tmp 4],
 .seq (q1 [qB 4 false] [0, 1]) (.join [] (.seq (q1 [qK 5 0] [0, 1, 5]) (.block 0 (.loop [(false, 5, .one, [.val .i none])] (.seq (.seq (q1 [qm 6 5, qm 7 0, qz 8 7, qb 9 .lss 6 8] [0, 1, 5, 9]) (.cond 9 [0, 1, 5] [] (.skip) (.exit 0))) (.seq (.block 1 (.seq (q1 [qm 12 0, qm 13 5, qe 14 .i 12 13, ql 15 14, qm 16 1, qb 17 .eql 15 16] [0, 1, 5, 17]) (.cond 17 [] [0, 1, 5] (.seq (q1 [qB 4 true] [4]) (.ret)) (.skip)))) (q1 [qm 10 5, qi 11 .add 10 1, qa 5 11] [0, 1, 5])))))) (.seq (q1 [qB 4 false] [4]) (.ret)))⟩
def d_x2_j2 (_ : PUnit) : Option Bool :=
 some false
def d_x2_l1 (p0 : (List Int)) (p1 : Int) (L1 : Int → Option Bool) (v2 : Int) : Option Bool :=
 br (decide (v2 < (↑p0.length : Int)))
  (bd (at? p0 v2) fun x3 =>
  br (x3 == p1)
   (some true)
   (L1 (w64 (v2 + 1))))
  (jn (d_x2_j2) ())
def d_x2 (p0 : (List Int)) (p1 : Int) : Option Bool :=
 loopN (d_x2_l1 p0 p1) big 0
def gf_x2 : GF := y_x2.gf rfl rfl (fun a => d_x2 a.1 a.2.1) (fun a => by kernel_rfl)
def y_x3 : YF := ⟨[], [.v (.st 8)], [], .ret [.b], [.tmp 2],
 .seq (q1 [qu 1 0, qB 2 false] [1]) (.join [] (.seq (q1 [qK 3 0] [1, 3]) (.block 0 (.loop [(false, 3, .one, [.val .i none])] (.seq (.seq (q1 [qm 5 3, qo 6 13 1, ql 7 6, qz 8 7, qb 9 .lss 5 8] [1, 3, 9]) (.cond 9 [1, 3] [1] (.skip) (.exit 0))) (.seq (.block 1 (.join [(false, 34, .one, [.val .b none])] (.dreg (qd 0 [qn [qo 12 13 1, ql 13 12, qm 14 3, qe 15 .i 13 14, ql 16 15, qo 17 12 1, ql 18 17, qz 19 18, qi 20 .sub 19 1, .call 21 gf_xy [] rfl [.tmp 16, qj 0, .tmp 20], qx 22 21, qm 23 22],
 qf 23 [qo 24 13 1, ql 25 24, qm 26 3, .sub 27 .i (.tmp 25) none (some (.tmp 26)), qo 28 13 1, ql 29 28, qm 30 3, qe 31 .i 29 30, ql 32 31, qc 33 gf_x2 rfl [27, 32]],
 qn [qp 34 23 33]] .nil) [1, 3, 34]) (.cond 34 [] [1, 3] (.seq (q1 [qB 2 false] [2]) (.ret)) (.skip)))) (q1 [qm 10 3, qi 11 .add 10 1, qa 3 11] [1, 3])))))) (.join [] (.seq (q1 [qK 4 0] [1, 4]) (.block 2 (.loop [(false, 4, .one, [.val .i none])] (.seq (.seq (q1 [qm 35 4, qo 36 14 1, ql 37 36, qz 38 37, qb 39 .lss 35 38] [1, 4, 39]) (.cond 39 [1, 4] [1] (.skip) (.exit 2))) (.seq (.block 3 (.seq (.dreg (qd 0 [qn [qo 42 14 1, ql 43 42, qm 44 4, qe 45 .i 43 44, ql 46 45, qo 47 12 1, ql 48 47, qz 49 48, qi 50 .sub 49 1, .call 51 gf_xy [] rfl [.tmp 46, qj (-1), .tmp 50], qx 52 51]] .nil) [1, 4, 52]) (.cond 52 [] [1, 4] (.seq (q1 [qB 2 false] [2]) (.ret)) (.skip)))) (q1 [qm 40 4, qi 41 .add 40 1, qa 4 41] [1, 4])))))) (.seq (q1 [qo 53 14 1, ql 54 53, qz 55 54, qo 56 0 1, qo 57 8 56, ql 58 57, qb 59 .eql 55 58, qa 2 59] [2]) (.ret))))⟩
def d_x3_j2 (L1 : Int → Option Bool) (v2 : Int) (v5 : Bool) : Option Bool :=
 br v5
  (some false)
  (L1 (w64 (v2 + 1)))
def d_x3_j5 (p0 : GHouse) (_ : PUnit) : Option Bool :=
 some ((↑p0.Jobs.length : Int) == p0.Rules.Crew)
def d_x3_l4 (p0 : GHouse) (L8 : Int → Option Bool) (v9 : Int) : Option Bool :=
 br (decide (v9 < (↑p0.Jobs.length : Int)))
  (bd (at? p0.Jobs v9) fun x10 =>
  bd (d_xy x10 (-1) (w64 ((↑p0.Cabins.length : Int) - 1))) fun x11 =>
  br (!x11)
   (some false)
   (L8 (w64 (v9 + 1))))
  (jn (d_x3_j5 p0) ())
def d_x3_j3 (p0 : GHouse) (_ : PUnit) : Option Bool :=
 loopN (d_x3_l4 p0) big 0
def d_x3_l1 (p0 : GHouse) (L1 : Int → Option Bool) (v2 : Int) : Option Bool :=
 br (decide (v2 < (↑p0.Todo.length : Int)))
  (bd (at? p0.Todo v2) fun x3 =>
  bd (d_xy x3 0 (w64 ((↑p0.Cabins.length : Int) - 1))) fun x4 =>
  br (!x4)
   (jn (d_x3_j2 L1 v2) true)
   (gd (0 ≤ v2 ∧ v2 ≤ (↑p0.Todo.length : Int)) (
   bd (at? p0.Todo v2) fun x6 =>
   bd (d_x2 (List.take v2.toNat p0.Todo) x6) fun x7 =>
   jn (d_x3_j2 L1 v2) x7)))
  (jn (d_x3_j3 p0) ())
def d_x3 (p0 : GHouse) : Option Bool :=
 loopN (d_x3_l1 p0) big 0
def gf_x3 : GF := y_x3.gf rfl rfl (fun a => d_x3 a.1) (fun a => by kernel_rfl)
def y_x4 : YF := ⟨[], [.v (.st 3)], [], .ret [.b], [.tmp 2],
 .seq (q1 [qu 1 0, qB 2 false] [1]) (.join [(false, 2, .one, [.val .b none])] (qr [qn [qo 3 0 1, ql 4 3, .call 5 gf_xy [] rfl [.tmp 4, qj 1, qj 60], qm 6 5],
 qt 6 [qo 7 1 1, ql 8 7, qo 9 0 1, ql 10 9, .call 11 gf_xy [] rfl [.tmp 8, qj 0, .tmp 10]],
 qn [qq 12 6 11, qm 13 12],
 qt 13 [qo 14 2 1, ql 15 14, qo 16 0 1, ql 17 16, .call 18 gf_xy [] rfl [.tmp 15, qj 0, .tmp 17]],
 qn [qq 19 13 18, qm 20 19],
 qt 20 [qo 21 3 1, ql 22 21, qo 23 0 1, ql 24 23, .call 25 gf_xy [] rfl [.tmp 22, qj 0, .tmp 24]],
 qn [qq 26 20 25, qm 27 26],
 qt 27 [qo 28 1 1, ql 29 28, qo 30 2 1, ql 31 30, qb 32 .add 29 31, qo 33 3 1, ql 34 33, qb 35 .add 32 34, qo 36 0 1, ql 37 36, qb 38 .eql 35 37],
 qn [qq 39 27 38, qm 40 39],
 qt 40 [qo 41 4 1, ql 42 41, qo 43 3 1, ql 44 43, .call 45 gf_xy [] rfl [.tmp 42, qj 0, .tmp 44]],
 qn [qq 46 40 45, qa 2 46]] [2]) (.ret))⟩
def d_x4_j1 (v6 : Bool) : Option Bool :=
 some v6
def d_x4 (p0 : GLedger) : Option Bool :=
 bd (d_xy p0.Total 1 60) fun x1 =>
 br x1
  (bd (d_xy p0.Free 0 p0.Total) fun x2 =>
  br x2
   (bd (d_xy p0.Held 0 p0.Total) fun x3 =>
   br x3
    (bd (d_xy p0.Sold 0 p0.Total) fun x4 =>
    br x4
     (br (w64 (w64 (p0.Free + p0.Held) + p0.Sold) == p0.Total)
      (bd (d_xy p0.Tied 0 p0.Sold) fun x5 =>
      jn (d_x4_j1) x5)
      (jn (d_x4_j1) false))
     (jn (d_x4_j1) false))
    (jn (d_x4_j1) false))
   (jn (d_x4_j1) false))
  (jn (d_x4_j1) false)
def gf_x4 : GF := y_x4.gf rfl rfl (fun a => d_x4 a.1) (fun a => by kernel_rfl)
def y_x5 : YF := ⟨[], [.v (.st 4), .v (.st 4)], [], .ret [.b], [.tmp 4],
 .seq (q1 [qu 2 0, qu 3 1, qB 4 false] [2, 3]) (.join [(false, 4, .one, [.val .b none])] (qr [qn [qo 5 0 2, ql 6 5, qo 7 0 3, ql 8 7, qb 9 .lss 6 8, qm 10 9],
 qf 10 [qo 11 0 2, ql 12 11, qo 13 0 3, ql 14 13, qb 15 .eql 12 14, qm 16 15],
 qt 16 [qo 17 1 2, ql 18 17, qo 19 1 3, ql 20 19, qb 21 .lss 18 20],
 qf 10 [qq 22 16 21],
 qn [qp 23 10 22, qa 4 23]] [4]) (.ret))⟩
def d_x5_j1 (v1 : Bool) : Option Bool :=
 some v1
def d_x5 (p0 : GEntry) (p1 : GEntry) : Option Bool :=
 br (decide (p0.Level < p1.Level))
  (jn (d_x5_j1) true)
  (br (p0.Level == p1.Level)
   (jn (d_x5_j1) (decide (p0.Turn < p1.Turn)))
   (jn (d_x5_j1) false))
def gf_x5 : GF := y_x5.gf rfl rfl (fun a => d_x5 a.1 a.2.1) (fun a => by kernel_rfl)
def y_x6 : YF := ⟨[], [.v (.l (.st 4)), .v .i], [], .ret [.i], [.tmp 4],
 .seq (q1 [qK 4 0] [0, 1]) (.join [] (.seq (q1 [qK 5 0] [0, 1, 5]) (.block 0 (.loop [(false, 5, .one, [.val .i none])] (.seq (.seq (q1 [qm 6 5, qm 7 0, qz 8 7, qb 9 .lss 6 8] [0, 1, 5, 9]) (.cond 9 [0, 1, 5] [] (.skip) (.exit 0))) (.seq (.block 1 (.seq (q1 [qm 12 0, qm 13 5, qe 14 (.st 4) 12 13, qo 15 2 14, ql 16 15, qm 17 1, qb 18 .eql 16 17] [0, 1, 5, 18]) (.cond 18 [5] [0, 1, 5] (.seq (q1 [qm 19 5, qa 4 19] [4]) (.ret)) (.skip)))) (q1 [qm 10 5, qi 11 .add 10 1, qa 5 11] [0, 1, 5])))))) (.seq (q1 [qK 4 (-1)] [4]) (.ret)))⟩
def d_x6_j2 (_ : PUnit) : Option Int :=
 some (-1)
def d_x6_l1 (p0 : (List GEntry)) (p1 : Int) (L1 : Int → Option Int) (v2 : Int) : Option Int :=
 br (decide (v2 < (↑p0.length : Int)))
  (bd (at? p0 v2) fun x3 =>
  br (x3.Id == p1)
   (some v2)
   (L1 (w64 (v2 + 1))))
  (jn (d_x6_j2) ())
def d_x6 (p0 : (List GEntry)) (p1 : Int) : Option Int :=
 loopN (d_x6_l1 p0 p1) big 0
def gf_x6 : GF := y_x6.gf rfl rfl (fun a => d_x6 a.1 a.2.1) (fun a => by kernel_rfl)
def y_x7 : YF := ⟨[], [.v (.l (.st 4))], [], .ret [.b], [.tmp 2],
 .seq (q1 [qB 2 false] [0]) (.seq (.seq (q1 [qm 5 0, qz 6 5, qi 7 .gtr 6 10] [0, 7]) (.cond 7 [] [0] (.seq (q1 [qB 2 false] [2]) (.ret)) (.skip))) (.join [] (.seq (q1 [qK 3 0] [0, 3]) (.block 0 (.loop [(false, 3, .one, [.val .i none])] (.seq (.seq (q1 [qm 8 3, qm 9 0, qz 10 9, qb 11 .lss 8 10] [0, 3, 11]) (.cond 11 [0, 3] [] (.skip) (.exit 0))) (.seq (.block 1 (.seq (q1 [qm 14 0, qm 15 3, qe 16 (.st 4) 14 15, qL 17 4 16, .alloc 4 [.int .i64 0, .int .i64 0, .int .i64 0, .int .i64 0], qw 4 4 17] [0, 3, 4]) (.seq (.join [(false, 39, .one, [.val .b none])] (qr [qn [qo 18 0 4, ql 19 18, .call 20 gf_xy [] rfl [.tmp 19, qj 0, qj 4], qx 21 20, qm 22 21],
 qf 22 [qo 23 1 4, ql 24 23, .call 25 gf_xy [] rfl [.tmp 24, qj 1, qj 1000000], qx 26 25],
 qn [qp 27 22 26, qm 28 27],
 qf 28 [qo 29 2 4, ql 30 29, .call 31 gf_xy [] rfl [.tmp 30, qj 1, qj 999], qx 32 31],
 qn [qp 33 28 32, qm 34 33],
 qf 34 [qo 35 3 4, ql 36 35, .call 37 gf_xy [] rfl [.tmp 36, qj 1, qj 6], qx 38 37],
 qn [qp 39 34 38]] [0, 3, 4, 39]) (.cond 39 [] [0, 3, 4] (.seq (q1 [qB 2 false] [2]) (.ret)) (.skip))) (.join [(false, 59, .one, [.val .b none])] (.dreg (qd 0 [qn [qm 40 3, qi 41 .gtr 40 0, qm 42 41],
 qt 42 [qm 43 0, qm 44 3, qi 45 .sub 44 1, qe 46 (.st 4) 43 45, qL 47 4 46, qL 48 4 4, qc 49 gf_x5 rfl [47, 48], qx 50 49],
 qn [qq 51 42 50, qm 52 51],
 qf 52 [qm 53 0, qo 54 2 4, ql 55 54]] (.op 17 (some (52, false)) [] (.mv 57 (.tmp 3))
 (.op 16 (some (52, false)) [] (.call 56 gf_x6 [] rfl [(.tmp 53), (.tmp 55)])
 (qd 18 [qf 52 [qb 58 .neq 56 57],
 qn [qp 59 52 58]] .nil)))) [0, 3, 59]) (.cond 59 [] [0, 3] (.seq (q1 [qB 2 false] [2]) (.ret)) (.skip)))))) (q1 [qm 12 3, qi 13 .add 12 1, qa 3 13] [0, 3])))))) (.seq (q1 [qB 2 true] [2]) (.ret))))⟩
def d_x7_j3 (L1 : Int → Option Bool) (v2 : Int) (v8 : Bool) : Option Bool :=
 br v8
  (some false)
  (L1 (w64 (v2 + 1)))
def d_x7_j2 (p0 : (List GEntry)) (L1 : Int → Option Bool) (v2 : Int) (x3 : GEntry) (v5 : Bool) : Option Bool :=
 br v5
  (some false)
  (br (decide (v2 > 0))
   (bd (at? p0 (w64 (v2 - 1))) fun x6 =>
   bd (d_x5 x6 x3) fun x7 =>
   br (!x7)
    (jn (d_x7_j3 L1 v2) true)
    (bd (d_x6 p0 x3.Id) fun x9 =>
    jn (d_x7_j3 L1 v2) (x9 != v2)))
   (bd (d_x6 p0 x3.Id) fun x10 =>
   jn (d_x7_j3 L1 v2) (x10 != v2)))
def d_x7_j4 (_ : PUnit) : Option Bool :=
 some true
def d_x7_l1 (p0 : (List GEntry)) (L1 : Int → Option Bool) (v2 : Int) : Option Bool :=
 br (decide (v2 < (↑p0.length : Int)))
  (bd (at? p0 v2) fun x3 =>
  bd (d_xy x3.Level 0 4) fun x4 =>
  br (!x4)
   (jn (d_x7_j2 p0 L1 v2 x3) true)
   (bd (d_xy x3.Turn 1 1000000) fun x11 =>
   br (!x11)
    (jn (d_x7_j2 p0 L1 v2 x3) true)
    (bd (d_xy x3.Id 1 999) fun x12 =>
    br (!x12)
     (jn (d_x7_j2 p0 L1 v2 x3) true)
     (bd (d_xy x3.Size 1 6) fun x13 =>
     jn (d_x7_j2 p0 L1 v2 x3) (!x13)))))
  (jn (d_x7_j4) ())
def d_x7 (p0 : (List GEntry)) : Option Bool :=
 br (decide ((↑p0.length : Int) > 10))
  (some false)
  (loopN (d_x7_l1 p0) big 0)
def gf_x7 : GF := y_x7.gf rfl rfl (fun a => d_x7 a.1) (fun a => by kernel_rfl)
def y_x8 : YF := ⟨[], [.v (.st 6)], [], .ret [(.l (.st 5))], [.tmp 2],
 .seq (q1 [qu 1 0, .as 2 (.k .nil), .nils [(.tmp 2 0, (.st 5))]] [1]) (.seq (q1 [.bslice 5 0 (.st 5) [], qa 3 5] [1, 3]) (.join [(false, 3, .one, [.val (.l (.st 5)) none])] (.seq (q1 [qK 4 0] [1, 3, 4]) (.block 0 (.loop [(false, 3, .one, [.val (.l (.st 5)) none]), (false, 4, .one, [.val .i none])] (.seq (.seq (q1 [qm 6 4, qo 7 0 1, ql 8 7, qz 9 8, qb 10 .lss 6 9] [1, 3, 4, 10]) (.cond 10 [1, 3, 4] [3] (.skip) (.exit 0))) (.seq (.block 1 (q1 [qm 13 3, qo 14 0 1, ql 15 14, qm 16 4, qe 17 (.l (.st 5)) 15 16, ql 18 17, .app 19 (.st 5) true (.tmp 13) (.tmp 18), qa 3 19] [1, 3, 4])) (q1 [qm 11 4, qi 12 .add 11 1, qa 4 12] [1, 3, 4])))))) (.seq (q1 [qm 20 3, qa 2 20] [2]) (.ret))))⟩
def d_x8_j2 (v5 : (List GPin)) : Option (List GPin) :=
 some v5
def d_x8_l1 (p0 : GWheel) (L1 : ((List GPin) × Int) → Option (List GPin)) (x_ : ((List GPin) × Int)) : Option (List GPin) :=
 match x_ with
 | (v2, v3) => br (decide (v3 < (↑p0.Spoke.length : Int)))
  (bd (at? p0.Spoke v3) fun x4 =>
  gd (List.length v2 + List.length x4 ≤ lim) (
  L1 ((v2 ++ x4, w64 (v3 + 1)))))
  (jn (d_x8_j2) v2)
def d_x8 (p0 : GWheel) : Option (List GPin) :=
 loopN (d_x8_l1 p0) big ([], 0)
def gf_x8 : GF := y_x8.gf rfl rfl (fun a => d_x8 a.1) (fun a => by kernel_rfl)
def y_x9 : YF := ⟨[], [.v (.st 5), .v (.st 5)], [], .ret [.b], [.tmp 4],
 .seq (q1 [qu 2 0, qu 3 1, qB 4 false] [2, 3]) (.join [(false, 4, .one, [.val .b none])] (qr [qn [qo 5 0 2, ql 6 5, qo 7 0 3, ql 8 7, qb 9 .lss 6 8, qm 10 9],
 qf 10 [qo 11 0 2, ql 12 11, qo 13 0 3, ql 14 13, qb 15 .eql 12 14, qm 16 15],
 qt 16 [qo 17 1 2, ql 18 17, qo 19 1 3, ql 20 19, qb 21 .lss 18 20],
 qf 10 [qq 22 16 21],
 qn [qp 23 10 22, qa 4 23]] [4]) (.ret))⟩
def d_x9_j1 (v1 : Bool) : Option Bool :=
 some v1
def d_x9 (p0 : GPin) (p1 : GPin) : Option Bool :=
 br (decide (p0.At < p1.At))
  (jn (d_x9_j1) true)
  (br (p0.At == p1.At)
   (jn (d_x9_j1) (decide (p0.Id < p1.Id)))
   (jn (d_x9_j1) false))
def gf_x9 : GF := y_x9.gf rfl rfl (fun a => d_x9 a.1 a.2.1) (fun a => by kernel_rfl)
def y_xba : YF := ⟨[], [.v (.st 6)], [], .ret [.b], [.tmp 2],
 .seq (q1 [qu 1 0, qB 2 false] [1]) (.seq (q1 [qL 8 1 1, qc 9 gf_x8 rfl [8], qa 3 9] [1, 3]) (.seq (.join [(false, 18, .one, [.val .b none])] (qr [qn [qo 10 0 1, ql 11 10, qz 12 11, qi 13 .neq 12 9, qm 14 13],
 qf 14 [qm 15 3, qz 16 15, qi 17 .gtr 16 10],
 qn [qp 18 14 17]] [1, 3, 18]) (.cond 18 [] [1, 3] (.seq (q1 [qB 2 false] [2]) (.ret)) (.skip))) (.join [] (.seq (q1 [qK 4 0] [1, 3, 4]) (.block 0 (.loop [(false, 4, .one, [.val .i none])] (.seq (.seq (q1 [qm 19 4, qm 20 3, qz 21 20, qb 22 .lss 19 21] [1, 3, 4, 22]) (.cond 22 [1, 3, 4] [1] (.skip) (.exit 0))) (.join [] (.block 1 (.seq (.join [(false, 40, .one, [.val .b none])] (qr [qn [qm 25 3, qm 26 4, qe 27 (.st 5) 25 26, qo 28 0 27, ql 29 28, .call 30 gf_xy [] rfl [.tmp 29, qj 1, qj 1000008], qx 31 30, qm 32 31],
 qf 32 [qm 33 3, qm 34 4, qe 35 (.st 5) 33 34, qo 36 1 35, ql 37 36, .call 38 gf_xy [] rfl [.tmp 37, qj 1, qj 999], qx 39 38],
 qn [qp 40 32 39]] [1, 3, 4, 40]) (.cond 40 [] [1, 3, 4] (.seq (q1 [qB 2 false] [2]) (.ret)) (.skip))) (.seq (q1 [qK 5 0] [1, 3, 4, 5]) (.block 2 (.loop [(false, 5, .one, [.val .i none])] (.seq (.seq (q1 [qm 41 5, qm 42 4, qb 43 .lss 41 42] [1, 3, 4, 5, 43]) (.cond 43 [1, 3, 4, 5] [1, 3, 4] (.skip) (.exit 2))) (.seq (.block 3 (.seq (.dreg (qd 0 [qn [qm 46 3, qm 47 5, qe 48 (.st 5) 46 47, qo 49 1 48, ql 50 49, qm 51 3, qm 52 4, qe 53 (.st 5) 51 52, qo 54 1 53, ql 55 54, qb 56 .eql 50 55]] .nil) [1, 3, 4, 5, 56]) (.cond 56 [] [1, 3, 4, 5] (.seq (q1 [qB 2 false] [2]) (.ret)) (.skip)))) (q1 [qm 44 5, qi 45 .add 44 1, qa 5 45] [1, 3, 4, 5])))))))) (q1 [qm 23 4, qi 24 .add 23 1, qa 4 24] [1, 3, 4])))))) (.join [] (.seq (q1 [qK 6 0] [1, 6]) (.block 4 (.loop [(false, 6, .one, [.val .i none])] (.seq (.seq (q1 [qm 57 6, qo 58 0 1, ql 59 58, qz 60 59, qb 61 .lss 57 60] [1, 6, 61]) (.cond 61 [1, 6] [] (.skip) (.exit 4))) (.join [] (.block 5 (.seq (q1 [qK 7 0] [1, 6, 7]) (.block 6 (.loop [(false, 7, .one, [.val .i none])] (.seq (.seq (q1 [qm 64 7, qo 65 0 1, ql 66 65, qm 67 6, qe 68 (.l (.st 5)) 66 67, ql 69 68, qz 70 69, qb 71 .lss 64 70] [1, 6, 7, 71]) (.cond 71 [1, 6, 7] [1, 6] (.skip) (.exit 6))) (.seq (.block 7 (.join [(false, 110, .one, [.val .b none])] (.dreg (qd 0 [qn [qo 74 0 1, ql 75 74, qm 76 6, qe 77 (.l (.st 5)) 75 76, ql 78 77, qm 79 7, qe 80 (.st 5) 78 79, qo 81 0 80, ql 82 81, qi 83 .rem 82 9, qm 84 6, qb 85 .neq 83 84, qm 86 85],
 qf 86 [qm 87 7, qi 88 .gtr 87 0, qm 89 88],
 qt 89 [qo 90 0 1, ql 91 90, qm 92 6, qe 93 (.l (.st 5)) 91 92, ql 94 93, qm 95 7, qi 96 .sub 95 1, qe 97 (.st 5) 94 96, qL 98 2 97, qo 99 0 1, ql 100 99, qm 101 6, qe 102 (.l (.st 5)) 100 101, ql 103 102, qm 104 7, qe 105 (.st 5) 103 104, qL 106 2 105, qc 107 gf_x9 rfl [98, 106], qx 108 107],
 qf 86 [qq 109 89 108],
 qn [qp 110 86 109]] .nil) [1, 6, 7, 110]) (.cond 110 [] [1, 6, 7] (.seq (q1 [qB 2 false] [2]) (.ret)) (.skip)))) (q1 [qm 72 7, qi 73 .add 72 1, qa 7 73] [1, 6, 7]))))))) (q1 [qm 62 6, qi 63 .add 62 1, qa 6 63] [1, 6])))))) (.seq (q1 [qB 2 true] [2]) (.ret))))))⟩
def d_xba_j5 (L3 : Int → Option Bool) (v4 : Int) (_ : PUnit) : Option Bool :=
 L3 (w64 (v4 + 1))
def d_xba_l4 (x1 : (List GPin)) (L3 : Int → Option Bool) (v4 : Int) (L9 : Int → Option Bool) (v10 : Int) : Option Bool :=
 br (decide (v10 < v4))
  (bd (at? x1 v10) fun x11 =>
  bd (at? x1 v10) fun x12 =>
  bd (at? x1 v4) fun x13 =>
  bd (at? x1 v4) fun x14 =>
  br (x12.Id == x14.Id)
   (some false)
   (L9 (w64 (v10 + 1))))
  (jn (d_xba_j5 L3 v4) ())
def d_xba_j3 (x1 : (List GPin)) (L3 : Int → Option Bool) (v4 : Int) (v8 : Bool) : Option Bool :=
 br v8
  (some false)
  (loopN (d_xba_l4 x1 L3 v4) big 0)
def d_xba_j9 (L20 : Int → Option Bool) (v21 : Int) (v25 : Bool) : Option Bool :=
 br v25
  (some false)
  (L20 (w64 (v21 + 1)))
def d_xba_j10 (L18 : Int → Option Bool) (v19 : Int) (_ : PUnit) : Option Bool :=
 L18 (w64 (v19 + 1))
def d_xba_l8 (p0 : GWheel) (L18 : Int → Option Bool) (v19 : Int) (L20 : Int → Option Bool) (v21 : Int) : Option Bool :=
 bd (at? p0.Spoke v19) fun x22 =>
 br (decide (v21 < (↑(List.length x22) : Int)))
  (bd (at? p0.Spoke v19) fun x23 =>
  bd (at? x23 v21) fun x24 =>
  br (x24.At.tmod 9 != v19)
   (jn (d_xba_j9 L20 v21) true)
   (br (decide (v21 > 0))
    (bd (at? p0.Spoke v19) fun x26 =>
    bd (at? x26 (w64 (v21 - 1))) fun x27 =>
    bd (at? p0.Spoke v19) fun x28 =>
    bd (at? x28 v21) fun x29 =>
    bd (d_x9 x27 x29) fun x30 =>
    jn (d_xba_j9 L20 v21) (!x30))
    (jn (d_xba_j9 L20 v21) false)))
  (jn (d_xba_j10 L18 v19) ())
def d_xba_j11 (_ : PUnit) : Option Bool :=
 some true
def d_xba_l7 (p0 : GWheel) (L18 : Int → Option Bool) (v19 : Int) : Option Bool :=
 br (decide (v19 < (↑p0.Spoke.length : Int)))
  (loopN (d_xba_l8 p0 L18 v19) big 0)
  (jn (d_xba_j11) ())
def d_xba_j6 (p0 : GWheel) (_ : PUnit) : Option Bool :=
 loopN (d_xba_l7 p0) big 0
def d_xba_l2 (p0 : GWheel) (x1 : (List GPin)) (L3 : Int → Option Bool) (v4 : Int) : Option Bool :=
 br (decide (v4 < (↑(List.length x1) : Int)))
  (bd (at? x1 v4) fun x5 =>
  bd (at? x1 v4) fun x6 =>
  bd (d_xy x6.At 1 1000008) fun x7 =>
  br (!x7)
   (jn (d_xba_j3 x1 L3 v4) true)
   (bd (at? x1 v4) fun x15 =>
   bd (at? x1 v4) fun x16 =>
   bd (d_xy x16.Id 1 999) fun x17 =>
   jn (d_xba_j3 x1 L3 v4) (!x17)))
  (jn (d_xba_j6 p0) ())
def d_xba_j1 (p0 : GWheel) (x1 : (List GPin)) (v2 : Bool) : Option Bool :=
 br v2
  (some false)
  (loopN (d_xba_l2 p0 x1) big 0)
def d_xba (p0 : GWheel) : Option Bool :=
 bd (d_x8 p0) fun x1 =>
 br ((↑p0.Spoke.length : Int) != 9)
  (jn (d_xba_j1 p0 x1) true)
  (jn (d_xba_j1 p0 x1) (decide ((↑(List.length x1) : Int) > 10)))
def gf_xba : GF := y_xba.gf rfl rfl (fun a => d_xba a.1) (fun a => by kernel_rfl)
def y_xbb : YF := ⟨[], [.v (.st 7)], [], .ret [.b], [.tmp 2],
 .seq (q1 [qu 1 0, qB 2 false] [1]) (.join [(false, 2, .one, [.val .b none])] (qr [qn [qo 3 0 1, qL 4 5 3, qc 5 gf_x4 rfl [4], qm 6 5],
 qt 6 [qo 7 5 1, ql 8 7, qc 9 gf_x7 rfl [8]],
 qn [qq 10 6 9, qm 11 10],
 qt 11 [qo 12 6 1, qL 13 1 12, qc 14 gf_xba rfl [13]],
 qn [qq 15 11 14, qa 2 15]] [2]) (.ret))⟩
def d_xbb_j1 (v4 : Bool) : Option Bool :=
 some v4
def d_xbb (p0 : GCabin) : Option Bool :=
 bd (d_x4 p0.Seats) fun x1 =>
 br x1
  (bd (d_x7 p0.Row) fun x2 =>
  br x2
   (bd (d_xba p0.Wheel) fun x3 =>
   jn (d_xbb_j1) x3)
   (jn (d_xbb_j1) false))
  (jn (d_xbb_j1) false)
def gf_xbb : GF := y_xbb.gf rfl rfl (fun a => d_xbb a.1) (fun a => by kernel_rfl)
def y_xbc : YF := ⟨[], [.v .i, .v .i], [], .ret [.i], [.tmp 4],
 .seq (q1 [qK 4 0] [0, 1]) (.seq (.seq (q1 [qm 5 0, qm 6 1, qb 7 .gtr 5 6] [0, 1, 7]) (.cond 7 [0] [1] (.seq (q1 [qm 8 0, qa 4 8] [4]) (.ret)) (.skip))) (.seq (q1 [qm 9 1, qa 4 9] [4]) (.ret)))⟩
def d_xbc (p0 : Int) (p1 : Int) : Option Int :=
 br (decide (p0 > p1))
  (some p0)
  (some p1)
def gf_xbc : GF := y_xbc.gf rfl rfl (fun a => d_xbc a.1 a.2.1) (fun a => by kernel_rfl)
def y_xbd : YF := ⟨[], [.v (.st 1), .v .i, .v .i], [], .ret [.i], [.tmp 6],
 .seq (q1 [qu 3 0, qK 6 0] [1, 2, 3]) (.seq (q1 [qm 7 1, qm 8 2, qo 9 4 3, ql 10 9, qb 11 .quo 8 10, qb 12 .sub 7 11, .call 13 gf_xbc [] rfl [qj 0, .tmp 12], qa 6 13] [6]) (.ret))⟩
def d_xbd (p0 : GRules) (p1 : Int) (p2 : Int) : Option Int :=
 gd (p0.Period ≠ 0) (
 bd (d_xbc 0 (w64 (p1 - w64 (p2.tdiv p0.Period)))) fun x1 =>
 some x1)
def gf_xbd : GF := y_xbd.gf rfl rfl (fun a => d_xbd a.1 a.2.1 a.2.2.1) (fun a => by kernel_rfl)
def y_xbe : YF := ⟨[], [.v (.st 1), .v (.st 2), .v .i], [], .ret [.i], [.tmp 6],
 .seq (q1 [qu 3 0, qu 4 1, qK 6 0] [2, 3, 4]) (.seq (.seq (q1 [qL 7 9 3, qL 8 10 4, qm 9 2, qc 10 gf_x0 rfl [7, 8, 9], qx 11 10] [2, 3, 4, 11]) (.cond 11 [] [2, 3, 4] (.seq (q1 [qK 6 (-1)] [6]) (.ret)) (.skip))) (.seq (q1 [qL 12 9 3, qo 13 4 4, ql 14 13, qm 15 2, qo 16 5 4, ql 17 16, qb 18 .sub 15 17, qc 19 gf_xbd rfl [12, 14, 18], qa 6 19] [6]) (.ret)))⟩
def d_xbe (p0 : GRules) (p1 : GParty) (p2 : Int) : Option Int :=
 bd (d_x0 p0 p1 p2) fun x1 =>
 br (!x1)
  (some (-1))
  (bd (d_xbd p0 p1.Tier (w64 (p2 - p1.Since))) fun x2 =>
  some x2)
def gf_xbe : GF := y_xbe.gf rfl rfl (fun a => d_xbe a.1 a.2.1 a.2.2.1) (fun a => by kernel_rfl)
def y_xbf : YF := ⟨[], [.v (.st 1), .v (.st 2), .v .i], [], .ret [(.st 4), .b], [.cell 6 (some 4), .tmp 7],
 .seq (q1 [qu 3 0, qu 4 1, .alloc 6 [.int .i64 0, .int .i64 0, .int .i64 0, .int .i64 0], qB 7 false] [2, 3, 4, 6]) (.seq (q1 [qL 9 9 3, qL 10 10 4, qm 11 2, qc 12 gf_xbe rfl [9, 10, 11], qa 8 12] [4, 6, 8]) (.seq (.join [(false, 19, .one, [.val .b none])] (qr [qn [qm 13 8, qi 14 .lss 13 0, qm 15 14],
 qf 15 [qo 16 7 4, ql 17 16, qi 18 .neq 17 1],
 qn [qp 19 15 18]] [4, 6, 8, 19]) (.cond 19 [6] [4, 6, 8] (.seq (q1 [.build 20 [.int .i64 0, .int .i64 0, .int .i64 0, .int .i64 0] [], qw 4 6 20, qB 7 false] [6, 7]) (.ret)) (.skip))) (.seq (q1 [qm 21 8, qo 22 6 4, ql 23 22, qo 24 0 4, ql 25 24, qo 26 3 4, ql 27 26, .build 28 [.int .i64 0, .int .i64 0, .int .i64 0, .int .i64 0] [(0, 1, (.tmp 21)), (1, 1, (.tmp 23)), (2, 1, (.tmp 25)), (3, 1, (.tmp 27))], qw 4 6 28, qB 7 true] [6, 7]) (.ret))))⟩
def d_xbf_j1 (p1 : GParty) (x1 : Int) (v2 : Bool) : Option (GEntry × Bool) :=
 br v2
  (some (GEntry.mk 0 0 0 0, false))
  (some (GEntry.mk x1 p1.Turn p1.Id p1.Size, true))
def d_xbf (p0 : GRules) (p1 : GParty) (p2 : Int) : Option (GEntry × Bool) :=
 bd (d_xbe p0 p1 p2) fun x1 =>
 br (decide (x1 < 0))
  (jn (d_xbf_j1 p1 x1) true)
  (jn (d_xbf_j1 p1 x1) (p1.State != 1))
def gf_xbf : GF := y_xbf.gf rfl rfl (fun a => d_xbf a.1 a.2.1 a.2.2.1) (fun a => by kernel_rfl)
def y_xbg : YF := ⟨[], [.v (.l (.st 4))], [], .ret [(.l (.st 4))], [.tmp 2],
 .seq (q1 [.as 2 (.k .nil), .nils [(.tmp 2 0, (.st 4))]] [0]) (.seq (q1 [.bslice 3 0 (.st 4) [], qm 4 0, .app 5 (.st 4) true (.tmp 3) (.tmp 4), qa 2 5] [2]) (.ret))⟩
def d_xbg (p0 : (List GEntry)) : Option (List GEntry) :=
 gd (0 + p0.length ≤ lim) (
 some ([] ++ p0))
def gf_xbg : GF := y_xbg.gf rfl rfl (fun a => d_xbg a.1) (fun a => by kernel_rfl)
def y_xbh : YF := ⟨[], [.v (.l (.st 4)), .v (.st 4)], [], .ret [(.l (.st 4))], [.tmp 4],
 .seq (q1 [qu 3 1, .as 4 (.k .nil), .nils [(.tmp 4 0, (.st 4))]] [0, 3]) (.seq (q1 [qK 5 0] [0, 3, 5]) (.join [(false, 5, .one, [.val .i none])] (.block 0 (.loop [(false, 5, .one, [.val .i none])] (.seq (.join [(false, 18, .one, [.val .b none])] (.dreg (qd 0 [qn [qm 7 5, qm 8 0, qz 9 8, qb 10 .lss 7 9, qm 11 10],
 qt 11 [qm 12 0, qm 13 5, qe 14 (.st 4) 12 13, qL 15 4 14, qL 16 4 3, qc 17 gf_x5 rfl [15, 16]],
 qn [qq 18 11 17]] .nil) [0, 3, 5, 18]) (.cond 18 [0, 3, 5] [0, 3, 5] (.skip) (.exit 0))) (.block 1 (q1 [qm 19 5, qi 20 .add 19 1, qa 5 20] [0, 3, 5]))))) (.seq (.dreg (qd 0 [qn [qm 21 0, qm 22 5, .sub 23 (.st 4) (.tmp 21) none (some (.tmp 22))]] (.op 4 none [] (.ld 25 (some 4) (.tmp 3))
 (.both 0 (.op 3 none [3] (.call 24 gf_xbg [] rfl [(.tmp 23)])
 (qd 5 [qn [.bslice 26 1 (.st 4) [(0, (.tmp 25))], .app 27 (.st 4) true (.tmp 24) (.tmp 26), qa 6 27]] (.dr [21, 22, 23, 24, 25, 26, 27] .nil))) (.op 5 none [] (.bslice 26 1 (.st 4) [(0, (.tmp 25))])
 (.op 3 none [3] (.call 24 gf_xbg [] rfl [(.tmp 23)])
 (qd 6 [qn [.app 27 (.st 4) true (.tmp 24) (.tmp 26), qa 6 27]] (.dr [21, 22, 23, 24, 25, 26, 27] .nil))))))) [0, 5, 6]) (.seq (q1 [qm 28 6, qm 29 0, qm 30 5, .sub 31 (.st 4) (.tmp 29) (some (.tmp 30)) none, .app 32 (.st 4) true (.tmp 28) (.tmp 31), qa 4 32] [4]) (.ret)))))⟩
def d_xbh_j3 (p0 : (List GEntry)) (p1 : GEntry) (v6 : Int) : Option (List GEntry) :=
 gd (0 ≤ v6 ∧ v6 ≤ (↑p0.length : Int)) (
 bd (d_xbg (List.take v6.toNat p0)) fun x7 =>
 gd (List.length x7 + [p1].length ≤ lim) (
 bd (d_xbg (List.take v6.toNat p0)) fun x8 =>
 gd (List.length x8 + [p1].length ≤ lim) (
 eqv (x7 ++ [p1]) (x8 ++ [p1]) (
 gd (0 ≤ v6 ∧ v6 ≤ (↑p0.length : Int)) (
 gd ((x7 ++ [p1]).length + (List.drop v6.toNat p0).length ≤ lim) (
 some (x7 ++ [p1] ++ List.drop v6.toNat p0)))))))
def d_xbh_j2 (p0 : (List GEntry)) (p1 : GEntry) (L1 : Int → Option (List GEntry)) (v2 : Int) (v5 : Bool) : Option (List GEntry) :=
 br v5
  (L1 (w64 (v2 + 1)))
  (jn (d_xbh_j3 p0 p1) v2)
def d_xbh_l1 (p0 : (List GEntry)) (p1 : GEntry) (L1 : Int → Option (List GEntry)) (v2 : Int) : Option (List GEntry) :=
 br (decide (v2 < (↑p0.length : Int)))
  (bd (at? p0 v2) fun x3 =>
  bd (d_x5 x3 p1) fun x4 =>
  jn (d_xbh_j2 p0 p1 L1 v2) x4)
  (jn (d_xbh_j2 p0 p1 L1 v2) false)
def d_xbh (p0 : (List GEntry)) (p1 : GEntry) : Option (List GEntry) :=
 loopN (d_xbh_l1 p0 p1) big 0
def gf_xbh : GF := y_xbh.gf rfl rfl (fun a => d_xbh a.1 a.2.1) (fun a => by kernel_rfl)
def y_xbi : YF := ⟨[], [.v (.st 1), .v (.l (.st 2)), .v .i, .v .i], [], .ret [(.l (.st 4))], [.tmp 8],
 .seq (q1 [qu 4 0, .as 8 (.k .nil), .nils [(.tmp 8 0, (.st 4))]] [1, 2, 3, 4]) (.seq (q1 [.bslice 13 0 (.st 4) [], qa 9 13] [1, 2, 3, 4, 9]) (.join [(false, 9, .one, [.val (.l (.st 4)) none])] (.seq (q1 [qm 14 1, qz 15 14, qi 16 .sub 15 1, qa 10 16] [1, 2, 3, 4, 9, 10]) (.block 0 (.loop [(false, 9, .one, [.val (.l (.st 4)) none]), (false, 10, .one, [.val .i none])] (.seq (.seq (q1 [qm 17 10, qi 18 .geq 17 0] [1, 2, 3, 4, 9, 10, 18]) (.cond 18 [1, 2, 3, 4, 9, 10] [9] (.skip) (.exit 0))) (.join [(false, 9, .one, [.val (.l (.st 4)) none])] (.block 1 (.seq (.dreg (qd 0 [qn [qL 22 9 4, qm 23 1, qm 24 10, qe 25 (.st 2) 23 24, qL 26 10 25, qm 27 3]] (.both 0 (qd 6 [qn [qc 28 gf_xbf rfl [22, 26, 27], qm 21 28, .ext 29 (.tmp 21) 0, .ext 30 (.tmp 21) 1]] (.op 10 none [4, 25] (.alloc 11 [.int .i64 0, .int .i64 0, .int .i64 0, .int .i64 0])
 (qd 11 [qn [qw 4 11 29, qa 12 30]] (.dr [21, 22, 23, 24, 25, 26, 27, 28, 29, 30] .nil)))) (.op 10 none [4, 25] (.alloc 11 [.int .i64 0, .int .i64 0, .int .i64 0, .int .i64 0])
 (qd 6 [qn [qc 28 gf_xbf rfl [22, 26, 27], qm 21 28, .ext 29 (.tmp 21) 0, .ext 30 (.tmp 21) 1]] (qd 11 [qn [qw 4 11 29, qa 12 30]] (.dr [21, 22, 23, 24, 25, 26, 27, 28, 29, 30] .nil)))))) [1, 2, 3, 4, 9, 10, 11, 12]) (.join [(false, 40, .one, [.val .b none])] (qr [qn [qm 31 12, qm 32 31],
 qt 32 [qm 33 1, qm 34 10, qe 35 (.st 2) 33 34, qo 36 1 35, ql 37 36, qm 38 2, qb 39 .eql 37 38],
 qn [qq 40 32 39]] [1, 2, 3, 4, 9, 10, 11, 40]) (.cond 40 [1, 2, 3, 4, 9, 10, 11] [1, 2, 3, 4, 9, 10] (q1 [qm 41 9, qL 42 4 11, qc 43 gf_xbh rfl [41, 42], qa 9 43] [1, 2, 3, 4, 9, 10]) (.skip))))) (q1 [qm 19 10, qi 20 .sub 19 1, qa 10 20] [1, 2, 3, 4, 9, 10])))))) (.seq (q1 [qm 44 9, qa 8 44] [8]) (.ret))))⟩
def d_xbi_j3 (L1 : ((List GEntry) × Int) → Option (List GEntry)) (v3 : Int) (v10 : (List GEntry)) : Option (List GEntry) :=
 L1 ((v10, w64 (v3 - 1)))
def d_xbi_j2 (L1 : ((List GEntry) × Int) → Option (List GEntry)) (v2 : (List GEntry)) (v3 : Int) (x5 : (GEntry × Bool)) (v8 : Bool) : Option (List GEntry) :=
 br v8
  (bd (d_xbh v2 x5.fst) fun x9 =>
  jn (d_xbi_j3 L1 v3) x9)
  (jn (d_xbi_j3 L1 v3) v2)
def d_xbi_j4 (v11 : (List GEntry)) : Option (List GEntry) :=
 some v11
def d_xbi_l1 (p0 : GRules) (p1 : (List GParty)) (p2 : Int) (p3 : Int) (L1 : ((List GEntry) × Int) → Option (List GEntry)) (x_ : ((List GEntry) × Int)) : Option (List GEntry) :=
 match x_ with
 | (v2, v3) => br (decide (v3 ≥ 0))
  (bd (at? p1 v3) fun x4 =>
  bd (d_xbf p0 x4 p3) fun x5 =>
  bd (d_xbf p0 x4 p3) fun x6 =>
  eqv x5.snd x6.snd (
  eqv x5.fst.Level x6.fst.Level (
  eqv x5.fst.Turn x6.fst.Turn (
  eqv x5.fst.Id x6.fst.Id (
  eqv x5.fst.Size x6.fst.Size (
  br x5.snd
   (bd (at? p1 v3) fun x7 =>
   jn (d_xbi_j2 L1 v2 v3 x5) (x7.Cabin == p2))
   (jn (d_xbi_j2 L1 v2 v3 x5) false)))))))
  (jn (d_xbi_j4) v2)
def d_xbi (p0 : GRules) (p1 : (List GParty)) (p2 : Int) (p3 : Int) : Option (List GEntry) :=
 loopN (d_xbi_l1 p0 p1 p2 p3) big (([], w64 ((↑p1.length : Int) - 1)))
def gf_xbi : GF := y_xbi.gf rfl rfl (fun a => d_xbi a.1 a.2.1 a.2.2.1 a.2.2.2.1) (fun a => by kernel_rfl)
def y_xbj : YF := ⟨[], [.v (.l (.st 4)), .v (.l (.st 4))], [], .ret [.b], [.tmp 4],
 .seq (q1 [qB 4 false] [0, 1]) (.seq (.seq (q1 [qm 6 0, qz 7 6, qm 8 1, qz 9 8, qb 10 .neq 7 9] [0, 1, 10]) (.cond 10 [] [0, 1] (.seq (q1 [qB 4 false] [4]) (.ret)) (.skip))) (.join [] (.seq (q1 [qK 5 0] [0, 1, 5]) (.block 0 (.loop [(false, 5, .one, [.val .i none])] (.seq (.seq (q1 [qm 11 5, qm 12 0, qz 13 12, qb 14 .lss 11 13] [0, 1, 5, 14]) (.cond 14 [0, 1, 5] [] (.skip) (.exit 0))) (.seq (.block 1 (.seq (.dreg (qd 0 [qn [qm 17 0, qm 18 5, qe 19 (.st 4) 17 18, qL 20 4 19, qm 21 1, qm 22 5, qe 23 (.st 4) 21 22, qL 24 4 23, .bin 25 (.agg [.i, .i, .i, .i]) .neq (.tmp 20) (.tmp 24)]] .nil) [0, 1, 5, 25]) (.cond 25 [] [0, 1, 5] (.seq (q1 [qB 4 false] [4]) (.ret)) (.skip)))) (q1 [qm 15 5, qi 16 .add 15 1, qa 5 16] [0, 1, 5])))))) (.seq (q1 [qB 4 true] [4]) (.ret))))⟩
def d_xbj_j2 (_ : PUnit) : Option Bool :=
 some true
def d_xbj_l1 (p0 : (List GEntry)) (p1 : (List GEntry)) (L1 : Int → Option Bool) (v2 : Int) : Option Bool :=
 br (decide (v2 < (↑p0.length : Int)))
  (bd (at? p0 v2) fun x3 =>
  bd (at? p1 v2) fun x4 =>
  br (!(x3.Level == x4.Level && (x3.Turn == x4.Turn && (x3.Id == x4.Id && (x3.Size == x4.Size && true)))))
   (some false)
   (L1 (w64 (v2 + 1))))
  (jn (d_xbj_j2) ())
def d_xbj (p0 : (List GEntry)) (p1 : (List GEntry)) : Option Bool :=
 br ((↑p0.length : Int) != (↑p1.length : Int))
  (some false)
  (loopN (d_xbj_l1 p0 p1) big 0)
def gf_xbj : GF := y_xbj.gf rfl rfl (fun a => d_xbj a.1 a.2.1) (fun a => by kernel_rfl)
def y_xbk : YF := ⟨[], [.v (.l (.st 5)), .v (.st 5)], [], .ret [(.l (.st 5))], [.tmp 4],
 .seq (q1 [qu 3 1, .as 4 (.k .nil), .nils [(.tmp 4 0, (.st 5))]] [0, 3]) (.seq (q1 [qK 5 0] [0, 3, 5]) (.join [(false, 5, .one, [.val .i none])] (.block 0 (.loop [(false, 5, .one, [.val .i none])] (.seq (.join [(false, 18, .one, [.val .b none])] (.dreg (qd 0 [qn [qm 7 5, qm 8 0, qz 9 8, qb 10 .lss 7 9, qm 11 10],
 qt 11 [qm 12 0, qm 13 5, qe 14 (.st 5) 12 13, qL 15 2 14, qL 16 2 3, qc 17 gf_x9 rfl [15, 16]],
 qn [qq 18 11 17]] .nil) [0, 3, 5, 18]) (.cond 18 [0, 3, 5] [0, 3, 5] (.skip) (.exit 0))) (.block 1 (q1 [qm 19 5, qi 20 .add 19 1, qa 5 20] [0, 3, 5]))))) (.seq (q1 [.bslice 21 0 (.st 5) [], qm 22 0, qm 23 5, .sub 24 (.st 5) (.tmp 22) none (some (.tmp 23)), .app 25 (.st 5) true (.tmp 21) (.tmp 24), qa 6 25] [0, 3, 5, 6]) (.seq (q1 [qm 26 6, qL 27 2 3, .bslice 28 1 (.st 5) [(0, (.tmp 27))], .app 29 (.st 5) true (.tmp 26) (.tmp 28), qa 6 29] [0, 5, 6]) (.seq (q1 [qm 30 6, qm 31 0, qm 32 5, .sub 33 (.st 5) (.tmp 31) (some (.tmp 32)) none, .app 34 (.st 5) true (.tmp 30) (.tmp 33), qa 4 34] [4]) (.ret))))))⟩
def d_xbk_j3 (p0 : (List GPin)) (p1 : GPin) (v6 : Int) : Option (List GPin) :=
 gd (0 ≤ v6 ∧ v6 ≤ (↑p0.length : Int)) (
 gd (0 + (List.take v6.toNat p0).length ≤ lim) (
 gd (([] ++ List.take v6.toNat p0).length + [p1].length ≤ lim) (
 gd (0 ≤ v6 ∧ v6 ≤ (↑p0.length : Int)) (
 gd (([] ++ List.take v6.toNat p0 ++ [p1]).length + (List.drop v6.toNat p0).length ≤ lim) (
 some ([] ++ List.take v6.toNat p0 ++ [p1] ++ List.drop v6.toNat p0))))))
def d_xbk_j2 (p0 : (List GPin)) (p1 : GPin) (L1 : Int → Option (List GPin)) (v2 : Int) (v5 : Bool) : Option (List GPin) :=
 br v5
  (L1 (w64 (v2 + 1)))
  (jn (d_xbk_j3 p0 p1) v2)
def d_xbk_l1 (p0 : (List GPin)) (p1 : GPin) (L1 : Int → Option (List GPin)) (v2 : Int) : Option (List GPin) :=
 br (decide (v2 < (↑p0.length : Int)))
  (bd (at? p0 v2) fun x3 =>
  bd (d_x9 x3 p1) fun x4 =>
  jn (d_xbk_j2 p0 p1 L1 v2) x4)
  (jn (d_xbk_j2 p0 p1 L1 v2) false)
def d_xbk (p0 : (List GPin)) (p1 : GPin) : Option (List GPin) :=
 loopN (d_xbk_l1 p0 p1) big 0
def gf_xbk : GF := y_xbk.gf rfl rfl (fun a => d_xbk a.1 a.2.1) (fun a => by kernel_rfl)
def y_xbl : YF := ⟨[], [.v (.st 6)], [], .ret [(.l (.st 5))], [.tmp 2],
 .seq (q1 [qu 1 0, .as 2 (.k .nil), .nils [(.tmp 2 0, (.st 5))]] [1]) (.seq (q1 [.bslice 6 0 (.st 5) [], qa 3 6] [1, 3]) (.seq (.seq (q1 [qL 7 1 1, qc 8 gf_xba rfl [7], qx 9 8] [1, 3, 9]) (.cond 9 [3] [1, 3] (.seq (q1 [qm 10 3, qa 2 10] [2]) (.ret)) (.skip))) (.seq (q1 [qL 11 1 1, qc 12 gf_x8 rfl [11], qa 4 12] [3, 4]) (.join [(false, 3, .one, [.val (.l (.st 5)) none])] (.seq (q1 [qK 5 0] [3, 4, 5]) (.block 0 (.loop [(false, 3, .one, [.val (.l (.st 5)) none]), (false, 5, .one, [.val .i none])] (.seq (.seq (q1 [qm 13 5, qm 14 4, qz 15 14, qb 16 .lss 13 15] [3, 4, 5, 16]) (.cond 16 [3, 4, 5] [3] (.skip) (.exit 0))) (.seq (.block 1 (q1 [qm 19 3, qm 20 4, qm 21 5, qe 22 (.st 5) 20 21, qL 23 2 22, qc 24 gf_xbk rfl [19, 23], qa 3 24] [3, 4, 5])) (q1 [qm 17 5, qi 18 .add 17 1, qa 5 18] [3, 4, 5])))))) (.seq (q1 [qm 25 3, qa 2 25] [2]) (.ret))))))⟩
def d_xbl_j2 (v9 : (List GPin)) : Option (List GPin) :=
 some v9
def d_xbl_l1 (x2 : (List GPin)) (L3 : ((List GPin) × Int) → Option (List GPin)) (x_ : ((List GPin) × Int)) : Option (List GPin) :=
 match x_ with
 | (v4, v5) => br (decide (v5 < (↑(List.length x2) : Int)))
  (bd (at? x2 v5) fun x6 =>
  bd (at? x2 v5) fun x7 =>
  bd (d_xbk v4 x7) fun x8 =>
  L3 ((x8, w64 (v5 + 1))))
  (jn (d_xbl_j2) v4)
def d_xbl (p0 : GWheel) : Option (List GPin) :=
 bd (d_xba p0) fun x1 =>
 br (!x1)
  (some [])
  (bd (d_x8 p0) fun x2 =>
  loopN (d_xbl_l1 x2) big ([], 0))
def gf_xbl : GF := y_xbl.gf rfl rfl (fun a => d_xbl a.1) (fun a => by kernel_rfl)
def y_xbm : YF := ⟨[], [.v (.l (.st 2)), .v .i], [], .ret [(.l (.st 5))], [.tmp 4],
 .seq (q1 [.as 4 (.k .nil), .nils [(.tmp 4 0, (.st 5))]] [0, 1]) (.seq (q1 [.bslice 7 0 (.st 5) [], qa 5 7] [0, 1, 5]) (.join [(false, 5, .one, [.val (.l (.st 5)) none])] (.seq (q1 [qK 6 0] [0, 1, 5, 6]) (.block 0 (.loop [(false, 5, .one, [.val (.l (.st 5)) none]), (false, 6, .one, [.val .i none])] (.seq (.seq (q1 [qm 8 6, qm 9 0, qz 10 9, qb 11 .lss 8 10] [0, 1, 5, 6, 11]) (.cond 11 [0, 1, 5, 6] [5] (.skip) (.exit 0))) (.join [(false, 5, .one, [.val (.l (.st 5)) none])] (.block 1 (.join [(false, 28, .one, [.val .b none])] (qr [qn [qm 14 0, qm 15 6, qe 16 (.st 2) 14 15, qo 17 7 16, ql 18 17, qi 19 .eql 18 2, qm 20 19],
 qt 20 [qm 21 0, qm 22 6, qe 23 (.st 2) 21 22, qo 24 1 23, ql 25 24, qm 26 1, qb 27 .eql 25 26],
 qn [qq 28 20 27]] [0, 1, 5, 6, 28]) (.cond 28 [0, 1, 5, 6] [0, 1, 5, 6] (.dreg (qd 0 [qn [qm 29 5, qm 30 0, qm 31 6, qe 32 (.st 2) 30 31, qo 33 8 32, ql 34 33, qm 35 0, qm 36 6, qe 37 (.st 2) 35 36, qo 38 0 37, ql 39 38, .build 40 [.int .i64 0, .int .i64 0] [(0, 1, (.tmp 34)), (1, 1, (.tmp 39))], qc 41 gf_xbk rfl [29, 40], qa 5 41]] .nil) [0, 1, 5, 6]) (.skip)))) (q1 [qm 12 6, qi 13 .add 12 1, qa 6 13] [0, 1, 5, 6])))))) (.seq (q1 [qm 42 5, qa 4 42] [4]) (.ret))))⟩
def d_xbm_j3 (L1 : ((List GPin) × Int) → Option (List GPin)) (v3 : Int) (v10 : (List GPin)) : Option (List GPin) :=
 L1 ((v10, w64 (v3 + 1)))
def d_xbm_j2 (p0 : (List GParty)) (L1 : ((List GPin) × Int) → Option (List GPin)) (v2 : (List GPin)) (v3 : Int) (v6 : Bool) : Option (List GPin) :=
 br v6
  (bd (at? p0 v3) fun x7 =>
  bd (at? p0 v3) fun x8 =>
  bd (d_xbk v2 (GPin.mk x7.Until x8.Id)) fun x9 =>
  jn (d_xbm_j3 L1 v3) x9)
  (jn (d_xbm_j3 L1 v3) v2)
def d_xbm_j4 (v11 : (List GPin)) : Option (List GPin) :=
 some v11
def d_xbm_l1 (p0 : (List GParty)) (p1 : Int) (L1 : ((List GPin) × Int) → Option (List GPin)) (x_ : ((List GPin) × Int)) : Option (List GPin) :=
 match x_ with
 | (v2, v3) => br (decide (v3 < (↑p0.length : Int)))
  (bd (at? p0 v3) fun x4 =>
  br (x4.State == 2)
   (bd (at? p0 v3) fun x5 =>
   jn (d_xbm_j2 p0 L1 v2 v3) (x5.Cabin == p1))
   (jn (d_xbm_j2 p0 L1 v2 v3) false))
  (jn (d_xbm_j4) v2)
def d_xbm (p0 : (List GParty)) (p1 : Int) : Option (List GPin) :=
 loopN (d_xbm_l1 p0 p1) big ([], 0)
def gf_xbm : GF := y_xbm.gf rfl rfl (fun a => d_xbm a.1 a.2.1) (fun a => by kernel_rfl)
def y_xbn : YF := ⟨[], [.v (.l (.st 5)), .v (.l (.st 5))], [], .ret [.b], [.tmp 4],
 .seq (q1 [qB 4 false] [0, 1]) (.seq (.seq (q1 [qm 6 0, qz 7 6, qm 8 1, qz 9 8, qb 10 .neq 7 9] [0, 1, 10]) (.cond 10 [] [0, 1] (.seq (q1 [qB 4 false] [4]) (.ret)) (.skip))) (.join [] (.seq (q1 [qK 5 0] [0, 1, 5]) (.block 0 (.loop [(false, 5, .one, [.val .i none])] (.seq (.seq (q1 [qm 11 5, qm 12 0, qz 13 12, qb 14 .lss 11 13] [0, 1, 5, 14]) (.cond 14 [0, 1, 5] [] (.skip) (.exit 0))) (.seq (.block 1 (.seq (.dreg (qd 0 [qn [qm 17 0, qm 18 5, qe 19 (.st 5) 17 18, qL 20 2 19, qm 21 1, qm 22 5, qe 23 (.st 5) 21 22, qL 24 2 23, .bin 25 (.agg [.i, .i]) .neq (.tmp 20) (.tmp 24)]] .nil) [0, 1, 5, 25]) (.cond 25 [] [0, 1, 5] (.seq (q1 [qB 4 false] [4]) (.ret)) (.skip)))) (q1 [qm 15 5, qi 16 .add 15 1, qa 5 16] [0, 1, 5])))))) (.seq (q1 [qB 4 true] [4]) (.ret))))⟩
def d_xbn_j2 (_ : PUnit) : Option Bool :=
 some true
def d_xbn_l1 (p0 : (List GPin)) (p1 : (List GPin)) (L1 : Int → Option Bool) (v2 : Int) : Option Bool :=
 br (decide (v2 < (↑p0.length : Int)))
  (bd (at? p0 v2) fun x3 =>
  bd (at? p1 v2) fun x4 =>
  br (!(x3.At == x4.At && (x3.Id == x4.Id && true)))
   (some false)
   (L1 (w64 (v2 + 1))))
  (jn (d_xbn_j2) ())
def d_xbn (p0 : (List GPin)) (p1 : (List GPin)) : Option Bool :=
 br ((↑p0.length : Int) != (↑p1.length : Int))
  (some false)
  (loopN (d_xbn_l1 p0 p1) big 0)
def gf_xbn : GF := y_xbn.gf rfl rfl (fun a => d_xbn a.1 a.2.1) (fun a => by kernel_rfl)
def y_xbo : YF := ⟨[], [.v (.l (.st 2)), .v .i], [], .ret [.i], [.tmp 4],
 .seq (q1 [qK 4 0] [0, 1]) (.seq (q1 [qK 5 0] [0, 1, 5]) (.join [(false, 5, .one, [.val .i none])] (.seq (q1 [qK 6 0] [0, 1, 5, 6]) (.block 0 (.loop [(false, 5, .one, [.val .i none]), (false, 6, .one, [.val .i none])] (.seq (.seq (q1 [qm 7 6, qm 8 0, qz 9 8, qb 10 .lss 7 9] [0, 1, 5, 6, 10]) (.cond 10 [0, 1, 5, 6] [5] (.skip) (.exit 0))) (.join [(false, 5, .one, [.val .i none])] (.block 1 (.join [(false, 35, .one, [.val .b none])] (qr [qn [qm 13 0, qm 14 6, qe 15 (.st 2) 13 14, qo 16 7 15, ql 17 16, qi 18 .eql 17 2, qm 19 18],
 qt 19 [qm 20 0, qm 21 6, qe 22 (.st 2) 20 21, qo 23 1 22, ql 24 23, qm 25 1, qb 26 .eql 24 25],
 qn [qq 27 19 26, qm 28 27],
 qt 28 [qm 29 0, qm 30 6, qe 31 (.st 2) 29 30, qo 32 3 31, ql 33 32, .call 34 gf_xy [] rfl [.tmp 33, qj 1, qj 6]],
 qn [qq 35 28 34]] [0, 1, 5, 6, 35]) (.cond 35 [0, 1, 5, 6] [0, 1, 5, 6] (q1 [qm 36 5, qm 37 0, qm 38 6, qe 39 (.st 2) 37 38, qo 40 3 39, ql 41 40, qb 42 .add 36 41, qa 5 42] [0, 1, 5, 6]) (.skip)))) (q1 [qm 11 6, qi 12 .add 11 1, qa 6 12] [0, 1, 5, 6])))))) (.seq (q1 [qm 43 5, qa 4 43] [4]) (.ret))))⟩
def d_xbo_j3 (L1 : (Int × Int) → Option Int) (v3 : Int) (v10 : Int) : Option Int :=
 L1 ((v10, w64 (v3 + 1)))
def d_xbo_j2 (p0 : (List GParty)) (L1 : (Int × Int) → Option Int) (v2 : Int) (v3 : Int) (v8 : Bool) : Option Int :=
 br v8
  (bd (at? p0 v3) fun x9 =>
  jn (d_xbo_j3 L1 v3) (w64 (v2 + x9.Size)))
  (jn (d_xbo_j3 L1 v3) v2)
def d_xbo_j4 (v11 : Int) : Option Int :=
 some v11
def d_xbo_l1 (p0 : (List GParty)) (p1 : Int) (L1 : (Int × Int) → Option Int) (x_ : (Int × Int)) : Option Int :=
 match x_ with
 | (v2, v3) => br (decide (v3 < (↑p0.length : Int)))
  (bd (at? p0 v3) fun x4 =>
  br (x4.State == 2)
   (bd (at? p0 v3) fun x5 =>
   br (x5.Cabin == p1)
    (bd (at? p0 v3) fun x6 =>
    bd (d_xy x6.Size 1 6) fun x7 =>
    jn (d_xbo_j2 p0 L1 v2 v3) x7)
    (jn (d_xbo_j2 p0 L1 v2 v3) false))
   (jn (d_xbo_j2 p0 L1 v2 v3) false))
  (jn (d_xbo_j4) v2)
def d_xbo (p0 : (List GParty)) (p1 : Int) : Option Int :=
 loopN (d_xbo_l1 p0 p1) big (0, 0)
def gf_xbo : GF := y_xbo.gf rfl rfl (fun a => d_xbo a.1 a.2.1) (fun a => by kernel_rfl)
def y_xbp : YF := ⟨[], [.v (.l (.st 2)), .v .i], [], .ret [.i], [.tmp 4],
 .seq (q1 [qK 4 0] [0, 1]) (.seq (q1 [qK 5 0] [0, 1, 5]) (.join [(false, 5, .one, [.val .i none])] (.seq (q1 [qK 6 0] [0, 1, 5, 6]) (.block 0 (.loop [(false, 5, .one, [.val .i none]), (false, 6, .one, [.val .i none])] (.seq (.seq (q1 [qm 7 6, qm 8 0, qz 9 8, qb 10 .lss 7 9] [0, 1, 5, 6, 10]) (.cond 10 [0, 1, 5, 6] [5] (.skip) (.exit 0))) (.join [(false, 5, .one, [.val .i none])] (.block 1 (.join [(false, 27, .one, [.val .b none])] (qr [qn [qm 13 0, qm 14 6, qe 15 (.st 2) 13 14, qo 16 2 15, ql 17 16, qm 18 1, qb 19 .eql 17 18, qm 20 19],
 qt 20 [qm 21 0, qm 22 6, qe 23 (.st 2) 21 22, qo 24 3 23, ql 25 24, .call 26 gf_xy [] rfl [.tmp 25, qj 1, qj 6]],
 qn [qq 27 20 26]] [0, 1, 5, 6, 27]) (.cond 27 [0, 1, 5, 6] [0, 1, 5, 6] (q1 [qm 28 5, qm 29 0, qm 30 6, qe 31 (.st 2) 29 30, qo 32 3 31, ql 33 32, qb 34 .add 28 33, qa 5 34] [0, 1, 5, 6]) (.skip)))) (q1 [qm 11 6, qi 12 .add 11 1, qa 6 12] [0, 1, 5, 6])))))) (.seq (q1 [qm 35 5, qa 4 35] [4]) (.ret))))⟩
def d_xbp_j3 (L1 : (Int × Int) → Option Int) (v3 : Int) (v9 : Int) : Option Int :=
 L1 ((v9, w64 (v3 + 1)))
def d_xbp_j2 (p0 : (List GParty)) (L1 : (Int × Int) → Option Int) (v2 : Int) (v3 : Int) (v7 : Bool) : Option Int :=
 br v7
  (bd (at? p0 v3) fun x8 =>
  jn (d_xbp_j3 L1 v3) (w64 (v2 + x8.Size)))
  (jn (d_xbp_j3 L1 v3) v2)
def d_xbp_j4 (v10 : Int) : Option Int :=
 some v10
def d_xbp_l1 (p0 : (List GParty)) (p1 : Int) (L1 : (Int × Int) → Option Int) (x_ : (Int × Int)) : Option Int :=
 match x_ with
 | (v2, v3) => br (decide (v3 < (↑p0.length : Int)))
  (bd (at? p0 v3) fun x4 =>
  br (x4.From == p1)
   (bd (at? p0 v3) fun x5 =>
   bd (d_xy x5.Size 1 6) fun x6 =>
   jn (d_xbp_j2 p0 L1 v2 v3) x6)
   (jn (d_xbp_j2 p0 L1 v2 v3) false))
  (jn (d_xbp_j4) v2)
def d_xbp (p0 : (List GParty)) (p1 : Int) : Option Int :=
 loopN (d_xbp_l1 p0 p1) big (0, 0)
def gf_xbp : GF := y_xbp.gf rfl rfl (fun a => d_xbp a.1 a.2.1) (fun a => by kernel_rfl)
def y_xbq : YF := ⟨[], [.v (.st 1), .v (.st 7), .v (.l (.st 2)), .v .i, .v .i], [], .ret [.b], [.tmp 10],
 .seq (q1 [qu 5 0, qu 6 1, qB 10 false] [2, 3, 4, 5, 6]) (.join [(false, 10, .one, [.val .b none])] (.dreg (qd 0 [qn [qL 11 7 6, qc 12 gf_xbb rfl [11], qm 13 12],
 qt 13 [qo 14 5 6, ql 15 14, qL 16 9 5, qm 17 2, qm 18 3, qm 19 4]] (.op 9 (some (13, true)) [14] (.call 20 gf_xbi [] rfl [(.tmp 16), (.tmp 17), (.tmp 18), (.tmp 19)])
 (qd 10 [qt 13 [qc 21 gf_xbj rfl [15, 20]],
 qn [qq 22 13 21, qm 23 22],
 qt 23 [qo 24 6 6, qL 25 1 24]] (qd 16 [qt 23 [qm 27 2, qm 28 3]] (.op 15 (some (23, true)) [] (.call 26 gf_xbl [] rfl [(.tmp 25)])
 (qd 18 [qt 23 [qc 29 gf_xbm rfl [27, 28], qc 30 gf_xbn rfl [26, 29]],
 qn [qq 31 23 30, qm 32 31],
 qt 32 [qo 33 0 6, qo 34 2 33, ql 35 34, qm 36 2, qm 37 3]] (.op 27 (some (32, true)) [34] (.call 38 gf_xbo [] rfl [(.tmp 36), (.tmp 37)])
 (qd 28 [qt 32 [qb 39 .eql 35 38],
 qn [qq 40 32 39, qm 41 40],
 qt 41 [qo 42 0 6, qo 43 4 42, ql 44 43, qm 45 2, qm 46 3]] (.op 36 (some (41, true)) [43] (.call 47 gf_xbp [] rfl [(.tmp 45), (.tmp 46)])
 (qd 37 [qt 41 [qb 48 .eql 44 47],
 qn [qq 49 41 48, qa 10 49]] .nil)))))))))) [10]) (.ret))⟩
def d_xbq_j1 (v9 : Bool) : Option Bool :=
 some v9
def d_xbq (p0 : GRules) (p1 : GCabin) (p2 : (List GParty)) (p3 : Int) (p4 : Int) : Option Bool :=
 bd (d_xbb p1) fun x1 =>
 br x1
  (bd (d_xbi p0 p2 p3 p4) fun x2 =>
  bd (d_xbj p1.Row x2) fun x3 =>
  br x3
   (bd (d_xbl p1.Wheel) fun x4 =>
   bd (d_xbm p2 p3) fun x5 =>
   bd (d_xbn x4 x5) fun x6 =>
   br x6
    (bd (d_xbo p2 p3) fun x7 =>
    br (p1.Seats.Held == x7)
     (bd (d_xbp p2 p3) fun x8 =>
     jn (d_xbq_j1) (p1.Seats.Tied == x8))
     (jn (d_xbq_j1) false))
    (jn (d_xbq_j1) false))
   (jn (d_xbq_j1) false))
  (jn (d_xbq_j1) false)
def gf_xbq : GF := y_xbq.gf rfl rfl (fun a => d_xbq a.1 a.2.1 a.2.2.1 a.2.2.2.1 a.2.2.2.2.1) (fun a => by kernel_rfl)
def y_xbr : YF := ⟨[], [.v (.l (.st 2)), .v .i], [], .ret [.i], [.tmp 4],
 .seq (q1 [qK 4 0] [0, 1]) (.seq (q1 [qK 5 0] [0, 1, 5]) (.join [(false, 5, .one, [.val .i none])] (.seq (q1 [qK 6 0] [0, 1, 5, 6]) (.block 0 (.loop [(false, 5, .one, [.val .i none]), (false, 6, .one, [.val .i none])] (.seq (.seq (q1 [qm 7 6, qm 8 0, qz 9 8, qb 10 .lss 7 9] [0, 1, 5, 6, 10]) (.cond 10 [0, 1, 5, 6] [5] (.skip) (.exit 0))) (.join [(false, 5, .one, [.val .i none])] (.block 1 (.seq (q1 [qm 13 0, qm 14 6, qe 15 (.st 2) 13 14, qo 16 1 15, ql 17 16, qm 18 1, qb 19 .eql 17 18] [0, 1, 5, 6, 19]) (.cond 19 [0, 1, 5, 6] [0, 1, 5, 6] (q1 [qm 20 5, qi 21 .add 20 1, qa 5 21] [0, 1, 5, 6]) (.skip)))) (q1 [qm 11 6, qi 12 .add 11 1, qa 6 12] [0, 1, 5, 6])))))) (.seq (q1 [qm 22 5, qa 4 22] [4]) (.ret))))⟩
def d_xbr_j2 (L1 : (Int × Int) → Option Int) (v3 : Int) (v5 : Int) : Option Int :=
 L1 ((v5, w64 (v3 + 1)))
def d_xbr_j3 (v6 : Int) : Option Int :=
 some v6
def d_xbr_l1 (p0 : (List GParty)) (p1 : Int) (L1 : (Int × Int) → Option Int) (x_ : (Int × Int)) : Option Int :=
 match x_ with
 | (v2, v3) => br (decide (v3 < (↑p0.length : Int)))
  (bd (at? p0 v3) fun x4 =>
  br (x4.Cabin == p1)
   (jn (d_xbr_j2 L1 v3) (w64 (v2 + 1)))
   (jn (d_xbr_j2 L1 v3) v2))
  (jn (d_xbr_j3) v2)
def d_xbr (p0 : (List GParty)) (p1 : Int) : Option Int :=
 loopN (d_xbr_l1 p0 p1) big (0, 0)
def gf_xbr : GF := y_xbr.gf rfl rfl (fun a => d_xbr a.1 a.2.1) (fun a => by kernel_rfl)
def y_xbs : YF := ⟨[], [.v (.st 8)], [], .ret [.b], [.tmp 2],
 .seq (q1 [qu 1 0, qB 2 false] [1]) (.seq (.join [(false, 35, .one, [.val .b none])] (qr [qn [qo 4 0 1, qL 5 9 4, qc 6 gf_xz rfl [5], qx 7 6, qm 8 7],
 qf 8 [qo 9 9 1, ql 10 9, .call 11 gf_xy [] rfl [.tmp 10, qj 0, qj 1000000], qx 12 11],
 qn [qp 13 8 12, qm 14 13],
 qf 14 [qo 15 10 1, ql 16 15, .call 17 gf_xy [] rfl [.tmp 16, qj 1, qj 1000001], qx 18 17],
 qn [qp 19 14 18, qm 20 19],
 qf 20 [qo 21 11 1, ql 22 21, qz 23 22, qi 24 .gtr 23 40],
 qn [qp 25 20 24, qm 26 25],
 qf 26 [qo 27 12 1, ql 28 27, qz 29 28, qo 30 0 1, qo 31 0 30, ql 32 31, qz 33 32, qb 34 .neq 29 33],
 qn [qp 35 26 34]] [1, 35]) (.cond 35 [] [1] (.seq (q1 [qB 2 false] [2]) (.ret)) (.skip))) (.seq (.join [(false, 43, .one, [.val .b none])] (qr [qn [qL 36 15 1, qc 37 gf_x1 rfl [36], qx 38 37, qm 39 38],
 qf 39 [qL 40 15 1, qc 41 gf_x3 rfl [40], qx 42 41],
 qn [qp 43 39 42]] [1, 43]) (.cond 43 [] [1] (.seq (q1 [qB 2 false] [2]) (.ret)) (.skip))) (.join [] (.seq (q1 [qK 3 0] [1, 3]) (.block 0 (.loop [(false, 3, .one, [.val .i none])] (.seq (.seq (q1 [qm 44 3, qo 45 12 1, ql 46 45, qz 47 46, qb 48 .lss 44 47] [1, 3, 48]) (.cond 48 [1, 3] [] (.skip) (.exit 0))) (.seq (.block 1 (.join [(false, 90, .one, [.val .b none])] (.dreg (qd 0 [qn [qo 51 12 1, ql 52 51, qm 53 3, qe 54 (.st 7) 52 53, qo 55 0 54, qo 56 0 55, ql 57 56, qo 58 0 1, qo 59 0 58, ql 60 59, qm 61 3, qe 62 .i 60 61, ql 63 62, qb 64 .neq 57 63, qm 65 64],
 qf 65 [qo 66 0 1, qL 67 9 66, qo 68 12 1, ql 69 68, qm 70 3, qe 71 (.st 7) 69 70, qL 72 7 71, qo 73 11 1, ql 74 73, qm 75 3, qo 76 9 1, ql 77 76, qc 78 gf_xbq rfl [67, 72, 74, 75, 77], qx 79 78],
 qn [qp 80 65 79, qm 81 80],
 qf 81 [qo 82 11 1, ql 83 82, qm 84 3]] (qd 35 [qf 81 [qo 86 0 1, qo 87 2 86, ql 88 87]] (.op 34 (some (81, false)) [87] (.call 85 gf_xbr [] rfl [(.tmp 83), (.tmp 84)])
 (qd 38 [qf 81 [qb 89 .gtr 85 88],
 qn [qp 90 81 89]] .nil)))) [1, 3, 90]) (.cond 90 [] [1, 3] (.seq (q1 [qB 2 false] [2]) (.ret)) (.skip)))) (q1 [qm 49 3, qi 50 .add 49 1, qa 3 50] [1, 3])))))) (.seq (q1 [qB 2 true] [2]) (.ret)))))⟩
def d_xbs_j4 (L5 : Int → Option Bool) (v6 : Int) (v9 : Bool) : Option Bool :=
 br v9
  (some false)
  (L5 (w64 (v6 + 1)))
def d_xbs_j5 (_ : PUnit) : Option Bool :=
 some true
def d_xbs_l3 (p0 : GHouse) (L5 : Int → Option Bool) (v6 : Int) : Option Bool :=
 br (decide (v6 < (↑p0.Cabins.length : Int)))
  (bd (at? p0.Cabins v6) fun x7 =>
  bd (at? p0.Rules.Seats v6) fun x8 =>
  br (x7.Seats.Total != x8)
   (jn (d_xbs_j4 L5 v6) true)
   (bd (at? p0.Cabins v6) fun x10 =>
   bd (d_xbq p0.Rules x10 p0.Parties v6 p0.Now) fun x11 =>
   br (!x11)
    (jn (d_xbs_j4 L5 v6) true)
    (bd (d_xbr p0.Parties v6) fun x12 =>
    jn (d_xbs_j4 L5 v6) (decide (x12 > p0.Rules.Room)))))
  (jn (d_xbs_j5) ())
def d_xbs_j2 (p0 : GHouse) (v4 : Bool) : Option Bool :=
 br v4
  (some false)
  (loopN (d_xbs_l3 p0) big 0)
def d_xbs_j1 (p0 : GHouse) (v2 : Bool) : Option Bool :=
 br v2
  (some false)
  (bd (d_x1 p0) fun x3 =>
  br (!x3)
   (jn (d_xbs_j2 p0) true)
   (bd (d_x3 p0) fun x13 =>
   jn (d_xbs_j2 p0) (!x13)))
def d_xbs (p0 : GHouse) : Option Bool :=
 bd (d_xz p0.Rules) fun x1 =>
 br (!x1)
  (jn (d_xbs_j1 p0) true)
  (bd (d_xy p0.Now 0 1000000) fun x14 =>
  br (!x14)
   (jn (d_xbs_j1 p0) true)
   (bd (d_xy p0.Turn 1 1000001) fun x15 =>
   br (!x15)
    (jn (d_xbs_j1 p0) true)
    (br (decide ((↑p0.Parties.length : Int) > 40))
     (jn (d_xbs_j1 p0) true)
     (jn (d_xbs_j1 p0) ((↑p0.Cabins.length : Int) != (↑p0.Rules.Seats.length : Int))))))
def gf_xbs : GF := y_xbs.gf rfl rfl (fun a => d_xbs a.1) (fun a => by kernel_rfl)
def d_spec_l12Field (p0 : Int) : Option Bool :=
 bd (d_xy p0 0 9999) fun x1 =>
 some x1
def y_xbt : YF := ⟨[], [.v .i, .v .i, .v .i], [], .ret [.b], [.tmp 6],
 .seq (q1 [qB 6 false] [0, 1, 2]) (.join [(false, 6, .one, [.val .b none])] (qr [qn [qm 7 0, qm 8 1, qb 9 .geq 7 8, qm 10 9],
 qt 10 [qm 11 0, qm 12 2, qb 13 .leq 11 12],
 qn [qq 14 10 13, qa 6 14]] [6]) (.ret))⟩
def d_xbt_j1 (v1 : Bool) : Option Bool :=
 some v1
def d_xbt (p0 : Int) (p1 : Int) (p2 : Int) : Option Bool :=
 br (decide (p0 ≥ p1))
  (jn (d_xbt_j1) (decide (p0 ≤ p2)))
  (jn (d_xbt_j1) false)
def gf_xbt : GF := y_xbt.gf rfl rfl (fun a => d_xbt a.1 a.2.1 a.2.2.1) (fun a => by kernel_rfl)
end
end Lv
/-
 Printed: functions of the program as texts of the typed machine, as plain functions, and that the one is the other.
-/
set_option linter.unusedVariables false
set_option maxRecDepth 100000
namespace Lv
open Go (IntKind BinOp UnOp)
noncomputable section
open Y (YF qn qf qt qr q1 qd qm qa qo ql qL qb qi qx qp qq qc qz qe qk qK qB qw qu qj)
def y_xbu : YF := ⟨[], [.v (.st 1)], [], .ret [.b], [.tmp 2],
 .seq (q1 [qu 1 0, qB 2 false] [1]) (.seq (.seq (q1 [qo 5 0 1, ql 6 5, qz 7 6, .call 8 gf_xbt [] rfl [.tmp 7, qj 1, qj 4], qx 9 8] [1, 9]) (.cond 9 [] [1] (.seq (q1 [qB 2 false] [2]) (.ret)) (.skip))) (.join [] (.seq (q1 [qo 10 0 1, ql 11 10, qz 12 11, qk 13 0] [1, 11, 12, 13]) (.block 0 (.loop [(false, 13, .one, [.val .i none])] (.seq (q1 [qb 14 .lss 13 12] [1, 11, 12, 13, 14]) (.seq (.cond 14 [1, 11, 12, 13] [1] (.skip) (.exit 0)) (.seq (.block 1 (.seq (q1 [qe 15 .i 11 13, ql 16 15, qa 4 16] [1, 4, 11, 12, 13]) (.seq (q1 [qm 17 4, .call 18 gf_xbt [] rfl [.tmp 17, qj 1, qj 60], qx 19 18] [1, 11, 12, 13, 19]) (.cond 19 [] [1, 11, 12, 13] (.seq (q1 [qB 2 false] [2]) (.ret)) (.skip))))) (q1 [qi 20 .add 13 1, qm 13 20] [1, 11, 12, 13]))))))) (.join [(false, 2, .one, [.val .b none])] (qr [qn [qo 21 1 1, ql 22 21, .call 23 gf_xbt [] rfl [.tmp 22, qj 1, qj 5], qm 24 23],
 qt 24 [qo 25 2 1, ql 26 25, .call 27 gf_xbt [] rfl [.tmp 26, qj 1, qj 10]],
 qn [qq 28 24 27, qm 29 28],
 qt 29 [qo 30 3 1, ql 31 30, .call 32 gf_xbt [] rfl [.tmp 31, qj 1, qj 6]],
 qn [qq 33 29 32, qm 34 33],
 qt 34 [qo 35 4 1, ql 36 35, .call 37 gf_xbt [] rfl [.tmp 36, qj 1, qj 12]],
 qn [qq 38 34 37, qm 39 38],
 qt 39 [qo 40 5 1, ql 41 40, .call 42 gf_xbt [] rfl [.tmp 41, qj 1, qj 8]],
 qn [qq 43 39 42, qm 44 43],
 qt 44 [qo 45 7 1, ql 46 45, .call 47 gf_xbt [] rfl [.tmp 46, qj 1, qj 4]],
 qn [qq 48 44 47, qm 49 48],
 qt 49 [qo 50 8 1, ql 51 50, .call 52 gf_xbt [] rfl [.tmp 51, qj 1, qj 3]],
 qn [qq 53 49 52, qm 54 53],
 qt 54 [qo 55 6 1, ql 56 55, .call 57 gf_xbt [] rfl [.tmp 56, qj 0, qj 8]],
 qn [qq 58 54 57, qa 2 58]] [2]) (.ret))))⟩
def d_xbu_j3 (v14 : Bool) : Option Bool :=
 some v14
def d_xbu_j2 (p0 : GRules) (_ : PUnit) : Option Bool :=
 bd (d_xbt p0.Tiers 1 5) fun x6 =>
 br x6
  (bd (d_xbt p0.Room 1 10) fun x7 =>
  br x7
   (bd (d_xbt p0.Size 1 6) fun x8 =>
   br x8
    (bd (d_xbt p0.Period 1 12) fun x9 =>
    br x9
     (bd (d_xbt p0.Window 1 8) fun x10 =>
     br x10
      (bd (d_xbt p0.Tries 1 4) fun x11 =>
      br x11
       (bd (d_xbt p0.Crew 1 3) fun x12 =>
       br x12
        (bd (d_xbt p0.Rest 0 8) fun x13 =>
        jn (d_xbu_j3) x13)
        (jn (d_xbu_j3) false))
       (jn (d_xbu_j3) false))
      (jn (d_xbu_j3) false))
     (jn (d_xbu_j3) false))
    (jn (d_xbu_j3) false))
   (jn (d_xbu_j3) false))
  (jn (d_xbu_j3) false)
def d_xbu_l1 (p0 : GRules) (L2 : Int → Option Bool) (v3 : Int) : Option Bool :=
 br (decide (v3 < (↑p0.Seats.length : Int)))
  (bd (at? p0.Seats v3) fun x4 =>
  bd (d_xbt x4 1 60) fun x5 =>
  br (!x5)
   (some false)
   (L2 (w64 (v3 + 1))))
  (jn (d_xbu_j2 p0) ())
def d_xbu (p0 : GRules) : Option Bool :=
 bd (d_xbt (↑p0.Seats.length : Int) 1 4) fun x1 =>
 br (!x1)
  (some false)
  (loopN (d_xbu_l1 p0) big 0)
def gf_xbu : GF := y_xbu.gf rfl rfl (fun a => d_xbu a.1) (fun a => by kernel_rfl)
def y_xbv : YF := ⟨[], [.v .i, .v .i], [], .ret [.b], [.tmp 4],
 .seq (q1 [qB 4 false] [0, 1]) (.seq (q1 [qm 5 0, qm 6 1, qi 7 .sub 6 1, .call 8 gf_xbt [] rfl [.tmp 5, qj 0, .tmp 7], qa 4 8] [4]) (.ret))⟩
def d_xbv (p0 : Int) (p1 : Int) : Option Bool :=
 bd (d_xbt p0 0 (w64 (p1 - 1))) fun x1 =>
 some x1
def gf_xbv : GF := y_xbv.gf rfl rfl (fun a => d_xbv a.1 a.2.1) (fun a => by kernel_rfl)
def y_xbw : YF := ⟨[], [.v (.st 1), .v (.st 2), .v .i], [], .ret [.b], [.tmp 6],
 .seq (q1 [qu 3 0, qu 4 1, qB 6 false] [2, 3, 4]) (.seq (.join [(false, 46, .one, [.val .b none])] (qr [qn [qL 7 9 3, qc 8 gf_xbu rfl [7], qx 9 8, qm 10 9],
 qf 10 [qm 11 2, .call 12 gf_xbt [] rfl [.tmp 11, qj 0, qj 1000000], qx 13 12],
 qn [qp 14 10 13, qm 15 14],
 qf 15 [qo 16 0 4, ql 17 16, .call 18 gf_xbt [] rfl [.tmp 17, qj 1, qj 999], qx 19 18],
 qn [qp 20 15 19, qm 21 20],
 qf 21 [qo 22 1 4, ql 23 22, qo 24 0 3, ql 25 24, qz 26 25, qc 27 gf_xbv rfl [23, 26], qx 28 27],
 qn [qp 29 21 28, qm 30 29],
 qf 30 [qo 31 2 4, ql 32 31, qo 33 0 3, ql 34 33, qz 35 34, qi 36 .sub 35 1, .call 37 gf_xbt [] rfl [.tmp 32, qj (-1), .tmp 36], qx 38 37],
 qn [qp 39 30 38, qm 40 39],
 qf 40 [qo 41 2 4, ql 42 41, qo 43 1 4, ql 44 43, qb 45 .eql 42 44],
 qn [qp 46 40 45]] [2, 3, 4, 46]) (.cond 46 [] [2, 3, 4] (.seq (q1 [qB 6 false] [6]) (.ret)) (.skip))) (.seq (.join [(false, 81, .one, [.val .b none])] (qr [qn [qo 47 3 4, ql 48 47, qo 49 3 3, ql 50 49, .call 51 gf_xbt [] rfl [.tmp 48, qj 1, .tmp 50], qx 52 51, qm 53 52],
 qf 53 [qo 54 4 4, ql 55 54, qo 56 1 3, ql 57 56, qc 58 gf_xbv rfl [55, 57], qx 59 58],
 qn [qp 60 53 59, qm 61 60],
 qf 61 [qo 62 5 4, ql 63 62, qm 64 2, .call 65 gf_xbt [] rfl [.tmp 63, qj 0, .tmp 64], qx 66 65],
 qn [qp 67 61 66, qm 68 67],
 qf 68 [qo 69 6 4, ql 70 69, .call 71 gf_xbt [] rfl [.tmp 70, qj 1, qj 1000000], qx 72 71],
 qn [qp 73 68 72, qm 74 73],
 qf 74 [qo 75 9 4, ql 76 75, qo 77 7 3, ql 78 77, qc 79 gf_xbv rfl [76, 78], qx 80 79],
 qn [qp 81 74 80]] [2, 3, 4, 81]) (.cond 81 [] [2, 3, 4] (.seq (q1 [qB 6 false] [6]) (.ret)) (.skip))) (.join [(false, 6, .one, [.val .b none])] (qr [qn [qo 82 7 4, ql 83 82, qi 84 .eql 83 1, qm 85 84],
 qt 85 [qo 86 8 4, ql 87 86, qm 88 2, qo 89 6 3, ql 90 89, qb 91 .add 88 90, .call 92 gf_xbt [] rfl [.tmp 87, qj 0, .tmp 91]],
 qn [qq 93 85 92, qm 94 93],
 qf 94 [qo 95 7 4, ql 96 95, qi 97 .eql 96 2, qm 98 97],
 qt 98 [qo 99 8 4, ql 100 99, qm 101 2, qo 102 5 3, ql 103 102, qb 104 .add 101 103, .call 105 gf_xbt [] rfl [.tmp 100, qj 1, .tmp 104]],
 qf 94 [qq 106 98 105],
 qn [qp 107 94 106, qa 6 107]] [6]) (.ret))))⟩
def d_xbw_j3 (v6 : Bool) : Option Bool :=
 some v6
def d_xbw_j2 (p0 : GRules) (p1 : GParty) (p2 : Int) (v4 : Bool) : Option Bool :=
 br v4
  (some false)
  (br (p1.State == 1)
   (bd (d_xbt p1.Until 0 (w64 (p2 + p0.Rest))) fun x5 =>
   br x5
    (jn (d_xbw_j3) true)
    (br (p1.State == 2)
     (bd (d_xbt p1.Until 1 (w64 (p2 + p0.Window))) fun x7 =>
     jn (d_xbw_j3) x7)
     (jn (d_xbw_j3) false)))
   (br (p1.State == 2)
    (bd (d_xbt p1.Until 1 (w64 (p2 + p0.Window))) fun x8 =>
    jn (d_xbw_j3) x8)
    (jn (d_xbw_j3) false)))
def d_xbw_j1 (p0 : GRules) (p1 : GParty) (p2 : Int) (v2 : Bool) : Option Bool :=
 br v2
  (some false)
  (bd (d_xbt p1.Size 1 p0.Size) fun x3 =>
  br (!x3)
   (jn (d_xbw_j2 p0 p1 p2) true)
   (bd (d_xbv p1.Tier p0.Tiers) fun x9 =>
   br (!x9)
    (jn (d_xbw_j2 p0 p1 p2) true)
    (bd (d_xbt p1.Since 0 p2) fun x10 =>
    br (!x10)
     (jn (d_xbw_j2 p0 p1 p2) true)
     (bd (d_xbt p1.Turn 1 1000000) fun x11 =>
     br (!x11)
      (jn (d_xbw_j2 p0 p1 p2) true)
      (bd (d_xbv p1.Asked p0.Tries) fun x12 =>
      jn (d_xbw_j2 p0 p1 p2) (!x12))))))
def d_xbw (p0 : GRules) (p1 : GParty) (p2 : Int) : Option Bool :=
 bd (d_xbu p0) fun x1 =>
 br (!x1)
  (jn (d_xbw_j1 p0 p1 p2) true)
  (bd (d_xbt p2 0 1000000) fun x13 =>
  br (!x13)
   (jn (d_xbw_j1 p0 p1 p2) true)
   (bd (d_xbt p1.Id 1 999) fun x14 =>
   br (!x14)
    (jn (d_xbw_j1 p0 p1 p2) true)
    (bd (d_xbv p1.Cabin (↑p0.Seats.length : Int)) fun x15 =>
    br (!x15)
     (jn (d_xbw_j1 p0 p1 p2) true)
     (bd (d_xbt p1.From (-1) (w64 ((↑p0.Seats.length : Int) - 1))) fun x16 =>
     br (!x16)
      (jn (d_xbw_j1 p0 p1 p2) true)
      (jn (d_xbw_j1 p0 p1 p2) (p1.From == p1.Cabin))))))
def gf_xbw : GF := y_xbw.gf rfl rfl (fun a => d_xbw a.1 a.2.1 a.2.2.1) (fun a => by kernel_rfl)
def y_xbx : YF := ⟨[], [.v (.l (.st 2)), .v .i], [], .ret [.i], [.tmp 4],
 .seq (q1 [qK 4 0] [0, 1]) (.seq (q1 [qK 5 0] [0, 1, 5]) (.join [(false, 5, .one, [.val .i none])] (.seq (q1 [qm 8 0, qz 9 8, qk 10 0] [1, 5, 8, 9, 10]) (.block 0 (.loop [(false, 5, .one, [.val .i none]), (false, 10, .one, [.val .i none])] (.seq (q1 [qb 11 .lss 10 9] [1, 5, 8, 9, 10, 11]) (.seq (.cond 11 [1, 5, 8, 9, 10] [5] (.skip) (.exit 0)) (.join [(false, 5, .one, [.val .i none])] (.block 1 (.seq (q1 [qe 12 (.st 2) 8 10, qL 13 10 12, .alloc 7 [.int .i64 0, .int .i64 0, .int .i64 0, .int .i64 0, .int .i64 0, .int .i64 0, .int .i64 0, .int .i64 0, .int .i64 0, .int .i64 0], qw 10 7 13] [1, 5, 7, 8, 9, 10]) (.seq (q1 [qo 14 1 7, ql 15 14, qm 16 1, qb 17 .eql 15 16] [1, 5, 8, 9, 10, 17]) (.cond 17 [1, 5, 8, 9, 10] [1, 5, 8, 9, 10] (q1 [qm 18 5, qi 19 .add 18 1, qa 5 19] [1, 5, 8, 9, 10]) (.skip))))) (q1 [qi 20 .add 10 1, qm 10 20] [1, 5, 8, 9, 10]))))))) (.seq (q1 [qm 21 5, qa 4 21] [4]) (.ret))))⟩
def d_xbx_j2 (L1 : (Int × Int) → Option Int) (v3 : Int) (v5 : Int) : Option Int :=
 L1 ((v5, w64 (v3 + 1)))
def d_xbx_j3 (v6 : Int) : Option Int :=
 some v6
def d_xbx_l1 (p0 : (List GParty)) (p1 : Int) (L1 : (Int × Int) → Option Int) (x_ : (Int × Int)) : Option Int :=
 match x_ with
 | (v2, v3) => br (decide (v3 < (↑p0.length : Int)))
  (bd (at? p0 v3) fun x4 =>
  br (x4.Cabin == p1)
   (jn (d_xbx_j2 L1 v3) (w64 (v2 + 1)))
   (jn (d_xbx_j2 L1 v3) v2))
  (jn (d_xbx_j3) v2)
def d_xbx (p0 : (List GParty)) (p1 : Int) : Option Int :=
 loopN (d_xbx_l1 p0 p1) big (0, 0)
def gf_xbx : GF := y_xbx.gf rfl rfl (fun a => d_xbx a.1 a.2.1) (fun a => by kernel_rfl)
def y_xby : YF := ⟨[], [.v (.st 3)], [], .ret [.b], [.tmp 2],
 .seq (q1 [qu 1 0, qB 2 false] [1]) (.join [(false, 2, .one, [.val .b none])] (qr [qn [qo 3 0 1, ql 4 3, .call 5 gf_xbt [] rfl [.tmp 4, qj 1, qj 60], qm 6 5],
 qt 6 [qo 7 1 1, ql 8 7, qo 9 0 1, ql 10 9, .call 11 gf_xbt [] rfl [.tmp 8, qj 0, .tmp 10]],
 qn [qq 12 6 11, qm 13 12],
 qt 13 [qo 14 2 1, ql 15 14, qo 16 0 1, ql 17 16, .call 18 gf_xbt [] rfl [.tmp 15, qj 0, .tmp 17]],
 qn [qq 19 13 18, qm 20 19],
 qt 20 [qo 21 3 1, ql 22 21, qo 23 0 1, ql 24 23, .call 25 gf_xbt [] rfl [.tmp 22, qj 0, .tmp 24]],
 qn [qq 26 20 25, qm 27 26],
 qt 27 [qo 28 1 1, ql 29 28, qo 30 2 1, ql 31 30, qb 32 .add 29 31, qo 33 3 1, ql 34 33, qb 35 .add 32 34, qo 36 0 1, ql 37 36, qb 38 .eql 35 37],
 qn [qq 39 27 38, qm 40 39],
 qt 40 [qo 41 4 1, ql 42 41, qo 43 3 1, ql 44 43, .call 45 gf_xbt [] rfl [.tmp 42, qj 0, .tmp 44]],
 qn [qq 46 40 45, qa 2 46]] [2]) (.ret))⟩
def d_xby_j1 (v6 : Bool) : Option Bool :=
 some v6
def d_xby (p0 : GLedger) : Option Bool :=
 bd (d_xbt p0.Total 1 60) fun x1 =>
 br x1
  (bd (d_xbt p0.Free 0 p0.Total) fun x2 =>
  br x2
   (bd (d_xbt p0.Held 0 p0.Total) fun x3 =>
   br x3
    (bd (d_xbt p0.Sold 0 p0.Total) fun x4 =>
    br x4
     (br (w64 (w64 (p0.Free + p0.Held) + p0.Sold) == p0.Total)
      (bd (d_xbt p0.Tied 0 p0.Sold) fun x5 =>
      jn (d_xby_j1) x5)
      (jn (d_xby_j1) false))
     (jn (d_xby_j1) false))
    (jn (d_xby_j1) false))
   (jn (d_xby_j1) false))
  (jn (d_xby_j1) false)
def gf_xby : GF := y_xby.gf rfl rfl (fun a => d_xby a.1) (fun a => by kernel_rfl)
def y_xbz : YF := ⟨[], [.v .i], [], .ret [.b], [.tmp 2],
 .seq (q1 [qB 2 false] [0]) (.seq (q1 [qm 3 0, qm 4 0, qb 5 .neq 3 4, qa 2 5] [2]) (.ret))⟩
def d_xbz (p0 : Int) : Option Bool :=
 some (p0 != p0)
def gf_xbz : GF := y_xbz.gf rfl rfl (fun a => d_xbz a.1) (fun a => by kernel_rfl)
def y_xb0 : YF := ⟨[], [.v .i, .v .i], [], .ret [.i], [.tmp 4],
 .seq (q1 [qK 4 0] [0, 1]) (.seq (q1 [qm 7 0, qc 8 gf_xbz rfl [7], qa 5 8] [0, 1, 5]) (.seq (q1 [qm 9 1, qc 10 gf_xbz rfl [9], qa 6 10] [0, 1, 5, 6]) (.seq (.seq (q1 [qm 11 5] [0, 1, 6, 11]) (.cond 11 [6] [0, 1, 6] (.seq (.seq (q1 [qm 12 6] [12]) (.cond 12 [] [] (.seq (q1 [qK 4 0] [4]) (.ret)) (.skip))) (.seq (q1 [qK 4 (-1)] [4]) (.ret))) (.skip))) (.seq (.seq (q1 [qm 13 6] [0, 1, 13]) (.cond 13 [] [0, 1] (.seq (q1 [qK 4 1] [4]) (.ret)) (.skip))) (.seq (.seq (q1 [qm 14 0, qm 15 1, qb 16 .lss 14 15] [0, 1, 16]) (.cond 16 [] [0, 1] (.seq (q1 [qK 4 (-1)] [4]) (.ret)) (.skip))) (.seq (.seq (q1 [qm 17 0, qm 18 1, qb 19 .gtr 17 18] [19]) (.cond 19 [] [] (.seq (q1 [qK 4 1] [4]) (.ret)) (.skip))) (.seq (q1 [qK 4 0] [4]) (.ret))))))))⟩
def d_xb0 (p0 : Int) (p1 : Int) : Option Int :=
 bd (d_xbz p0) fun x1 =>
 bd (d_xbz p1) fun x2 =>
 br x1
  (br x2
   (some 0)
   (some (-1)))
  (br x2
   (some 1)
   (br (decide (p0 < p1))
    (some (-1))
    (br (decide (p0 > p1))
     (some 1)
     (some 0))))
def gf_xb0 : GF := y_xb0.gf rfl rfl (fun a => d_xb0 a.1 a.2.1) (fun a => by kernel_rfl)
def y_xb1 : YF := ⟨[], [.v (.st 4), .v (.st 4)], [], .ret [.i], [.tmp 4],
 .seq (q1 [qu 2 0, qu 3 1, qK 4 0] [2, 3]) (.seq (.seq (q1 [qo 6 0 2, ql 7 6, qo 8 0 3, ql 9 8, qc 10 gf_xb0 rfl [7, 9], qa 5 10] [2, 3, 5]) (.seq (q1 [qm 11 5, qi 12 .neq 11 0] [2, 3, 5, 12]) (.cond 12 [5] [2, 3] (.seq (q1 [qm 13 5, qa 4 13] [4]) (.ret)) (.skip)))) (.seq (q1 [qo 14 1 2, ql 15 14, qo 16 1 3, ql 17 16, qc 18 gf_xb0 rfl [15, 17], qa 4 18] [4]) (.ret)))⟩
def d_xb1 (p0 : GEntry) (p1 : GEntry) : Option Int :=
 bd (d_xb0 p0.Level p1.Level) fun x1 =>
 br (x1 != 0)
  (some x1)
  (bd (d_xb0 p0.Turn p1.Turn) fun x2 =>
  some x2)
def gf_xb1 : GF := y_xb1.gf rfl rfl (fun a => d_xb1 a.1 a.2.1) (fun a => by kernel_rfl)
def y_xb2 : YF := ⟨[], [.v (.st 4), .v (.st 4)], [], .ret [.b], [.tmp 4],
 .seq (q1 [qu 2 0, qu 3 1, qB 4 false] [2, 3]) (.seq (q1 [qL 5 4 2, qL 6 4 3, qc 7 gf_xb1 rfl [5, 6], qi 8 .lss 7 0, qa 4 8] [4]) (.ret))⟩
def d_xb2 (p0 : GEntry) (p1 : GEntry) : Option Bool :=
 bd (d_xb1 p0 p1) fun x1 =>
 some (decide (x1 < 0))
def gf_xb2 : GF := y_xb2.gf rfl rfl (fun a => d_xb2 a.1 a.2.1) (fun a => by kernel_rfl)
def y_xb3 : YF := ⟨[], [.v (.st 4), .p .i], [], .ret [.b], [.tmp 3],
 .seq (q1 [qu 2 0, qB 3 false] [1, 2]) (.seq (q1 [qo 4 2 2, ql 5 4, ql 6 1, qb 7 .eql 5 6, qa 3 7] [3]) (.ret))⟩
def d_xb3 (p0 : GEntry) (p1 : Int) : Option Bool :=
 some (p0.Id == p1)
def gf_xb3 : GF := y_xb3.gf rfl rfl (fun a => d_xb3 a.1 a.2.1) (fun a => by kernel_rfl)
def y_xb4 : YF := ⟨[gf_xb3], [.v (.l (.st 4)), .f gf_xb3.x [(true, .i)]], [0], .ret [.i], [.tmp 4],
 .seq (q1 [qK 4 0] [0, 1]) (.join [] (.seq (q1 [qm 6 0, qz 7 6, qk 8 0] [0, 1, 7, 8]) (.block 0 (.loop [(false, 8, .one, [.val .i none])] (.seq (q1 [qb 9 .lss 8 7] [0, 1, 7, 8, 9]) (.seq (.cond 9 [0, 1, 7, 8] [] (.skip) (.exit 0)) (.seq (.block 1 (.seq (q1 [qm 10 8, qa 5 10] [0, 1, 5, 7, 8]) (.seq (q1 [qm 11 1, qm 12 0, qm 13 5, qe 14 (.st 4) 12 13, qL 15 4 14, .callv 16 (.tmp 11) [.v, .p] [.tmp 15]] [0, 1, 5, 7, 8, 16]) (.cond 16 [5] [0, 1, 7, 8] (.seq (q1 [qm 17 5, qa 4 17] [4]) (.ret)) (.skip))))) (q1 [qi 18 .add 8 1, qm 8 18] [0, 1, 7, 8]))))))) (.seq (q1 [qK 4 (-1)] [4]) (.ret)))⟩
def d_xb4_j2 (_ : PUnit) : Option Int :=
 some (-1)
def d_xb4_l1 (p0 : (List GEntry)) (c1_0 : Int) (L1 : Int → Option Int) (v2 : Int) : Option Int :=
 br (decide (v2 < (↑p0.length : Int)))
  (bd (at? p0 v2) fun x3 =>
  bd (d_xb3 x3 c1_0) fun x4 =>
  br x4
   (some v2)
   (L1 (w64 (v2 + 1))))
  (jn (d_xb4_j2) ())
def d_xb4 (p0 : (List GEntry)) (c1_0 : Int) : Option Int :=
 loopN (d_xb4_l1 p0 c1_0) big 0
def gf_xb4 : GF := y_xb4.gf rfl rfl (fun a => d_xb4 a.1 a.2.1.1) (fun a => by kernel_rfl)
def y_xb5 : YF := ⟨[gf_xb3], [.v (.l (.st 4)), .v .i], [], .ret [.i], [.tmp 4],
 .seq (q1 [qu 3 1, qK 4 0] [0, 3]) (.seq (q1 [qm 5 0, .mkfn 6 0 [.tmp 3], .call 7 gf_xb4 [0] rfl [.tmp 5, .tmp 6], qa 4 7] [4]) (.ret))⟩
def d_xb5 (p0 : (List GEntry)) (p1 : Int) : Option Int :=
 bd (d_xb4 p0 p1) fun x1 =>
 some x1
def gf_xb5 : GF := y_xb5.gf rfl rfl (fun a => d_xb5 a.1 a.2.1) (fun a => by kernel_rfl)
def y_xb6 : YF := ⟨[], [.v (.l (.st 4))], [], .ret [.b], [.tmp 2],
 .seq (q1 [qB 2 false] [0]) (.seq (.seq (q1 [qm 5 0, qz 6 5, qi 7 .gtr 6 10] [0, 7]) (.cond 7 [] [0] (.seq (q1 [qB 2 false] [2]) (.ret)) (.skip))) (.join [] (.seq (q1 [qm 8 0, qz 9 8, qk 10 0] [0, 8, 9, 10]) (.block 0 (.loop [(false, 10, .one, [.val .i none])] (.seq (q1 [qb 11 .lss 10 9] [0, 8, 9, 10, 11]) (.seq (.cond 11 [0, 8, 9, 10] [] (.skip) (.exit 0)) (.seq (.block 1 (.seq (q1 [qm 12 10, qe 13 (.st 4) 8 10, qL 14 4 13, .alloc 4 [.int .i64 0, .int .i64 0, .int .i64 0, .int .i64 0], qa 3 12, qw 4 4 14] [0, 3, 4, 8, 9, 10]) (.seq (.join [(false, 35, .one, [.val .b none])] (.dreg (qd 0 [qn [qm 15 3, qi 16 .gtr 15 0, qm 17 16],
 qt 17 [qm 18 0, qm 19 3, qi 20 .sub 19 1, qe 21 (.st 4) 18 20, qL 22 4 21, qL 23 4 4, qc 24 gf_xb2 rfl [22, 23], qx 25 24],
 qn [qq 26 17 25, qm 27 26],
 qf 27 [qm 28 0, qm 29 3, .sub 30 (.st 4) (.tmp 28) none (some (.tmp 29)), qo 31 2 4, ql 32 31, qc 33 gf_xb5 rfl [30, 32], qi 34 .geq 33 0],
 qn [qp 35 27 34]] .nil) [0, 4, 8, 9, 10, 35]) (.cond 35 [] [0, 4, 8, 9, 10] (.seq (q1 [qB 2 false] [2]) (.ret)) (.skip))) (.join [(false, 57, .one, [.val .b none])] (qr [qn [qo 36 0 4, ql 37 36, .call 38 gf_xbv [] rfl [.tmp 37, qj 5], qx 39 38, qm 40 39],
 qf 40 [qo 41 1 4, ql 42 41, .call 43 gf_xbt [] rfl [.tmp 42, qj 1, qj 1000000], qx 44 43],
 qn [qp 45 40 44, qm 46 45],
 qf 46 [qo 47 2 4, ql 48 47, .call 49 gf_xbt [] rfl [.tmp 48, qj 1, qj 999], qx 50 49],
 qn [qp 51 46 50, qm 52 51],
 qf 52 [qo 53 3 4, ql 54 53, .call 55 gf_xbt [] rfl [.tmp 54, qj 1, qj 6], qx 56 55],
 qn [qp 57 52 56]] [0, 8, 9, 10, 57]) (.cond 57 [] [0, 8, 9, 10] (.seq (q1 [qB 2 false] [2]) (.ret)) (.skip)))))) (q1 [qi 58 .add 10 1, qm 10 58] [0, 8, 9, 10]))))))) (.seq (q1 [qB 2 true] [2]) (.ret))))⟩
def d_xb6_j3 (L1 : Int → Option Bool) (v2 : Int) (v8 : Bool) : Option Bool :=
 br v8
  (some false)
  (L1 (w64 (v2 + 1)))
def d_xb6_j2 (L1 : Int → Option Bool) (v2 : Int) (x3 : GEntry) (v6 : Bool) : Option Bool :=
 br v6
  (some false)
  (bd (d_xbv x3.Level 5) fun x7 =>
  br (!x7)
   (jn (d_xb6_j3 L1 v2) true)
   (bd (d_xbt x3.Turn 1 1000000) fun x9 =>
   br (!x9)
    (jn (d_xb6_j3 L1 v2) true)
    (bd (d_xbt x3.Id 1 999) fun x10 =>
    br (!x10)
     (jn (d_xb6_j3 L1 v2) true)
     (bd (d_xbt x3.Size 1 6) fun x11 =>
     jn (d_xb6_j3 L1 v2) (!x11)))))
def d_xb6_j4 (_ : PUnit) : Option Bool :=
 some true
def d_xb6_l1 (p0 : (List GEntry)) (L1 : Int → Option Bool) (v2 : Int) : Option Bool :=
 br (decide (v2 < (↑p0.length : Int)))
  (bd (at? p0 v2) fun x3 =>
  br (decide (v2 > 0))
   (bd (at? p0 (w64 (v2 - 1))) fun x4 =>
   bd (d_xb2 x4 x3) fun x5 =>
   br (!x5)
    (jn (d_xb6_j2 L1 v2 x3) true)
    (gd (0 ≤ v2 ∧ v2 ≤ (↑p0.length : Int)) (
    bd (d_xb5 (List.take v2.toNat p0) x3.Id) fun x12 =>
    jn (d_xb6_j2 L1 v2 x3) (decide (x12 ≥ 0)))))
   (gd (0 ≤ v2 ∧ v2 ≤ (↑p0.length : Int)) (
   bd (d_xb5 (List.take v2.toNat p0) x3.Id) fun x13 =>
   jn (d_xb6_j2 L1 v2 x3) (decide (x13 ≥ 0)))))
  (jn (d_xb6_j4) ())
def d_xb6 (p0 : (List GEntry)) : Option Bool :=
 br (decide ((↑p0.length : Int) > 10))
  (some false)
  (loopN (d_xb6_l1 p0) big 0)
def gf_xb6 : GF := y_xb6.gf rfl rfl (fun a => d_xb6 a.1) (fun a => by kernel_rfl)
def y_xb7 : YF := ⟨[], [.v (.st 5)], [], .ret [.b], [.tmp 2],
 .seq (q1 [qu 1 0, qB 2 false] [1]) (.join [(false, 2, .one, [.val .b none])] (qr [qn [qo 3 0 1, ql 4 3, .call 5 gf_xbt [] rfl [.tmp 4, qj 1, qj 1000008], qm 6 5],
 qt 6 [qo 7 1 1, ql 8 7, .call 9 gf_xbt [] rfl [.tmp 8, qj 1, qj 999]],
 qn [qq 10 6 9, qa 2 10]] [2]) (.ret))⟩
def d_xb7_j1 (v3 : Bool) : Option Bool :=
 some v3
def d_xb7 (p0 : GPin) : Option Bool :=
 bd (d_xbt p0.At 1 1000008) fun x1 =>
 br x1
  (bd (d_xbt p0.Id 1 999) fun x2 =>
  jn (d_xb7_j1) x2)
  (jn (d_xb7_j1) false)
def gf_xb7 : GF := y_xb7.gf rfl rfl (fun a => d_xb7 a.1) (fun a => by kernel_rfl)
def y_xb8 : YF := ⟨[], [.v (.st 5), .v (.st 5)], [], .ret [.i], [.tmp 4],
 .seq (q1 [qu 2 0, qu 3 1, qK 4 0] [2, 3]) (.seq (.seq (q1 [qo 6 0 2, ql 7 6, qo 8 0 3, ql 9 8, qc 10 gf_xb0 rfl [7, 9], qa 5 10] [2, 3, 5]) (.seq (q1 [qm 11 5, qi 12 .neq 11 0] [2, 3, 5, 12]) (.cond 12 [5] [2, 3] (.seq (q1 [qm 13 5, qa 4 13] [4]) (.ret)) (.skip)))) (.seq (q1 [qo 14 1 2, ql 15 14, qo 16 1 3, ql 17 16, qc 18 gf_xb0 rfl [15, 17], qa 4 18] [4]) (.ret)))⟩
def d_xb8 (p0 : GPin) (p1 : GPin) : Option Int :=
 bd (d_xb0 p0.At p1.At) fun x1 =>
 br (x1 != 0)
  (some x1)
  (bd (d_xb0 p0.Id p1.Id) fun x2 =>
  some x2)
def gf_xb8 : GF := y_xb8.gf rfl rfl (fun a => d_xb8 a.1 a.2.1) (fun a => by kernel_rfl)
def y_xb9 : YF := ⟨[], [.v (.st 6)], [], .ret [.b], [.tmp 2],
 .seq (q1 [qu 1 0, qB 2 false] [1]) (.seq (.seq (q1 [qo 9 0 1, ql 10 9, qz 11 10, qi 12 .neq 11 9] [1, 12]) (.cond 12 [] [1] (.seq (q1 [qB 2 false] [2]) (.ret)) (.skip))) (.seq (q1 [.mmk 13, qa 3 13] [1, 3]) (.seq (q1 [qK 4 0] [1, 3, 4]) (.join [(false, 3, .one, [.val .m none]), (false, 4, .one, [.val .i none])] (.seq (q1 [qo 14 0 1, ql 15 14, qz 16 15, qk 17 0] [3, 4, 15, 16, 17]) (.block 0 (.loop [(false, 3, .one, [.val .m none]), (false, 4, .one, [.val .i none]), (false, 17, .one, [.val .i none])] (.seq (q1 [qb 18 .lss 17 16] [3, 4, 15, 16, 17, 18]) (.seq (.cond 18 [3, 4, 15, 16, 17] [3, 4] (.skip) (.exit 0)) (.join [(false, 3, .one, [.val .m none]), (false, 4, .one, [.val .i none])] (.block 1 (.seq (q1 [qm 19 17, qe 20 (.l (.st 5)) 15 17, ql 21 20, qa 5 19, qa 6 21] [3, 4, 5, 6, 15, 16, 17]) (.seq (q1 [qm 22 6, qz 23 22, qk 24 0] [3, 4, 5, 6, 15, 16, 17, 22, 23, 24]) (.block 2 (.loop [(false, 3, .one, [.val .m none]), (false, 4, .one, [.val .i none]), (false, 24, .one, [.val .i none])] (.seq (q1 [qb 25 .lss 24 23] [3, 4, 5, 6, 15, 16, 17, 22, 23, 24, 25]) (.seq (.cond 25 [3, 4, 5, 6, 15, 16, 17, 22, 23, 24] [3, 4, 15, 16, 17] (.skip) (.exit 2)) (.seq (.block 3 (.seq (q1 [qm 26 24, qe 27 (.st 5) 22 24, qL 28 2 27, .alloc 8 [.int .i64 0, .int .i64 0], qa 7 26, qw 2 8 28] [3, 4, 5, 6, 7, 8, 15, 16, 17, 22, 23, 24]) (.seq (.join [(false, 52, .one, [.val .b none])] (.dreg (qd 0 [qn [qL 29 2 8, qc 30 gf_xb7 rfl [29], qx 31 30, qm 32 31],
 qf 32 [qo 33 0 8, ql 34 33, qi 35 .rem 34 9, qm 36 5, qb 37 .neq 35 36],
 qn [qp 38 32 37, qm 39 38],
 qf 39 [qm 40 7, qi 41 .gtr 40 0, qm 42 41],
 qt 42 [qm 43 6, qm 44 7, qi 45 .sub 44 1, qe 46 (.st 5) 43 45, qL 47 2 46, qL 48 2 8, qc 49 gf_xb8 rfl [47, 48], qi 50 .gtr 49 0],
 qf 39 [qq 51 42 50],
 qn [qp 52 39 51]] .nil) [3, 4, 5, 6, 8, 15, 16, 17, 22, 23, 24, 52]) (.cond 52 [] [3, 4, 5, 6, 8, 15, 16, 17, 22, 23, 24] (.seq (q1 [qB 2 false] [2]) (.ret)) (.skip))) (.seq (q1 [qm 53 3, qo 54 1 8, ql 55 54, .mget 56 (.tmp 53) (.tmp 55), qi 57 .add 56 1, .mset (.tmp 53) (.tmp 55) (.tmp 57)] [3, 4, 5, 6, 15, 16, 17, 22, 23, 24]) (q1 [qm 58 4, qi 59 .add 58 1, qa 4 59] [3, 4, 5, 6, 15, 16, 17, 22, 23, 24]))))) (q1 [qi 60 .add 24 1, qm 24 60] [3, 4, 5, 6, 15, 16, 17, 22, 23, 24]))))))))) (q1 [qi 61 .add 17 1, qm 17 61] [3, 4, 15, 16, 17]))))))) (.join [(false, 2, .one, [.val .b none])] (qr [qn [qm 62 4, qi 63 .leq 62 10, qm 64 63],
 qt 64 [qm 65 3, .mlen 66 (.tmp 65), qm 67 4, qb 68 .eql 66 67],
 qn [qq 69 64 68, qa 2 69]] [2]) (.ret))))))⟩
def d_xb9_j3 (L6 : ((List (Int × Int)) × Int × Int) → Option Bool) (v7 : (List (Int × Int))) (v8 : Int) (v9 : Int) (x10 : GPin) (v12 : Bool) : Option Bool :=
 br v12
  (some false)
  (L6 ((mapSet v7 x10.Id (w64 (mapGet v7 x10.Id + 1)), w64 (v8 + 1), w64 (v9 + 1))))
def d_xb9_j4 (L1 : ((List (Int × Int)) × Int × Int) → Option Bool) (v4 : Int) (x_ : ((List (Int × Int)) × Int)) : Option Bool :=
 match x_ with
 | (v15, v16) => L1 ((v15, v16, w64 (v4 + 1)))
def d_xb9_l2 (L1 : ((List (Int × Int)) × Int × Int) → Option Bool) (v4 : Int) (x5 : (List GPin)) (L6 : ((List (Int × Int)) × Int × Int) → Option Bool) (x_ : ((List (Int × Int)) × Int × Int)) : Option Bool :=
 match x_ with
 | (v7, v8, v9) => br (decide (v9 < (↑(List.length x5) : Int)))
  (bd (at? x5 v9) fun x10 =>
  bd (d_xb7 x10) fun x11 =>
  br (!x11)
   (jn (d_xb9_j3 L6 v7 v8 v9 x10) true)
   (br (x10.At.tmod 9 != v4)
    (jn (d_xb9_j3 L6 v7 v8 v9 x10) true)
    (br (decide (v9 > 0))
     (bd (at? x5 (w64 (v9 - 1))) fun x13 =>
     bd (d_xb8 x13 x10) fun x14 =>
     jn (d_xb9_j3 L6 v7 v8 v9 x10) (decide (x14 > 0)))
     (jn (d_xb9_j3 L6 v7 v8 v9 x10) false))))
  (jn (d_xb9_j4 L1 v4) (v7, v8))
def d_xb9_j6 (v19 : Bool) : Option Bool :=
 some v19
def d_xb9_j5 (x_ : ((List (Int × Int)) × Int)) : Option Bool :=
 match x_ with
 | (v17, v18) => br (decide (v18 ≤ 10))
  (jn (d_xb9_j6) ((↑(List.length v17) : Int) == v18))
  (jn (d_xb9_j6) false)
def d_xb9_l1 (p0 : GWheel) (L1 : ((List (Int × Int)) × Int × Int) → Option Bool) (x_ : ((List (Int × Int)) × Int × Int)) : Option Bool :=
 match x_ with
 | (v2, v3, v4) => br (decide (v4 < (↑p0.Spoke.length : Int)))
  (bd (at? p0.Spoke v4) fun x5 =>
  loopN (d_xb9_l2 L1 v4 x5) big (v2, v3, 0))
  (jn (d_xb9_j5) (v2, v3))
def d_xb9 (p0 : GWheel) : Option Bool :=
 br ((↑p0.Spoke.length : Int) != 9)
  (some false)
  (loopN (d_xb9_l1 p0) big ([], 0, 0))
def gf_xb9 : GF := y_xb9.gf rfl rfl (fun a => d_xb9 a.1) (fun a => by kernel_rfl)
def y_xca : YF := ⟨[], [.v (.st 7)], [], .ret [.b], [.tmp 2],
 .seq (q1 [qu 1 0, qB 2 false] [1]) (.join [(false, 2, .one, [.val .b none])] (qr [qn [qo 3 0 1, qL 4 5 3, qc 5 gf_xby rfl [4], qm 6 5],
 qt 6 [qo 7 5 1, ql 8 7, qc 9 gf_xb6 rfl [8]],
 qn [qq 10 6 9, qm 11 10],
 qt 11 [qo 12 6 1, qL 13 1 12, qc 14 gf_xb9 rfl [13]],
 qn [qq 15 11 14, qa 2 15]] [2]) (.ret))⟩
def d_xca_j1 (v4 : Bool) : Option Bool :=
 some v4
def d_xca (p0 : GCabin) : Option Bool :=
 bd (d_xby p0.Seats) fun x1 =>
 br x1
  (bd (d_xb6 p0.Row) fun x2 =>
  br x2
   (bd (d_xb9 p0.Wheel) fun x3 =>
   jn (d_xca_j1) x3)
   (jn (d_xca_j1) false))
  (jn (d_xca_j1) false)
def gf_xca : GF := y_xca.gf rfl rfl (fun a => d_xca a.1) (fun a => by kernel_rfl)
def y_xcb : YF := ⟨[], [.v (.st 1), .v .i, .v .i], [], .ret [.i], [.tmp 6],
 .seq (q1 [qu 3 0, qK 6 0] [1, 2, 3]) (.seq (.join [(false, 20, .one, [.val .b none])] (qr [qn [qL 7 9 3, qc 8 gf_xbu rfl [7], qx 9 8, qm 10 9],
 qf 10 [qm 11 1, qo 12 1 3, ql 13 12, qc 14 gf_xbv rfl [11, 13], qx 15 14],
 qn [qp 16 10 15, qm 17 16],
 qf 17 [qm 18 2, qi 19 .lss 18 0],
 qn [qp 20 17 19]] [1, 2, 3, 20]) (.cond 20 [] [1, 2, 3] (.seq (q1 [qK 6 (-1)] [6]) (.ret)) (.skip))) (.seq (q1 [qm 21 1, qm 22 2, qo 23 4 3, ql 24 23, qb 25 .quo 22 24, qb 26 .sub 21 25, .mm 27 true (.k (.int .i64 0)) (.tmp 26), qa 6 27] [6]) (.ret)))⟩
def d_xcb_j1 (p0 : GRules) (p1 : Int) (p2 : Int) (v2 : Bool) : Option Int :=
 br v2
  (some (-1))
  (gd (p0.Period ≠ 0) (
  some (if true = true then if w64 (p1 - w64 (p2.tdiv p0.Period)) > 0 then w64 (p1 - w64 (p2.tdiv p0.Period)) else 0 else if w64 (p1 - w64 (p2.tdiv p0.Period)) < 0 then w64 (p1 - w64 (p2.tdiv p0.Period)) else 0)))
def d_xcb (p0 : GRules) (p1 : Int) (p2 : Int) : Option Int :=
 bd (d_xbu p0) fun x1 =>
 br (!x1)
  (jn (d_xcb_j1 p0 p1 p2) true)
  (bd (d_xbv p1 p0.Tiers) fun x3 =>
  br (!x3)
   (jn (d_xcb_j1 p0 p1 p2) true)
   (jn (d_xcb_j1 p0 p1 p2) (decide (p2 < 0))))
def gf_xcb : GF := y_xcb.gf rfl rfl (fun a => d_xcb a.1 a.2.1 a.2.2.1) (fun a => by kernel_rfl)
def y_xcc : YF := ⟨[], [.v (.st 1), .v (.st 2), .v .i], [], .ret [.i], [.tmp 6],
 .seq (q1 [qu 3 0, qu 4 1, qK 6 0] [2, 3, 4]) (.seq (.seq (q1 [qL 7 9 3, qL 8 10 4, qm 9 2, qc 10 gf_xbw rfl [7, 8, 9], qx 11 10] [2, 3, 4, 11]) (.cond 11 [] [2, 3, 4] (.seq (q1 [qK 6 (-1)] [6]) (.ret)) (.skip))) (.seq (q1 [qL 12 9 3, qo 13 4 4, ql 14 13, qm 15 2, qo 16 5 4, ql 17 16, qb 18 .sub 15 17, qc 19 gf_xcb rfl [12, 14, 18], qa 6 19] [6]) (.ret)))⟩
def d_xcc (p0 : GRules) (p1 : GParty) (p2 : Int) : Option Int :=
 bd (d_xbw p0 p1 p2) fun x1 =>
 br (!x1)
  (some (-1))
  (bd (d_xcb p0 p1.Tier (w64 (p2 - p1.Since))) fun x2 =>
  some x2)
def gf_xcc : GF := y_xcc.gf rfl rfl (fun a => d_xcc a.1 a.2.1 a.2.2.1) (fun a => by kernel_rfl)
def y_xcd : YF := ⟨[], [.v (.st 1), .v (.st 2), .v .i], [], .ret [(.st 4), .b], [.cell 6 (some 4), .tmp 7],
 .seq (q1 [qu 3 0, qu 4 1, .alloc 6 [.int .i64 0, .int .i64 0, .int .i64 0, .int .i64 0], qB 7 false] [2, 3, 4, 6]) (.seq (.join [(false, 17, .one, [.val .b none])] (qr [qn [qL 8 9 3, qL 9 10 4, qm 10 2, qc 11 gf_xbw rfl [8, 9, 10], qx 12 11, qm 13 12],
 qf 13 [qo 14 7 4, ql 15 14, qi 16 .neq 15 1],
 qn [qp 17 13 16]] [2, 3, 4, 6, 17]) (.cond 17 [6] [2, 3, 4, 6] (.seq (q1 [.build 18 [.int .i64 0, .int .i64 0, .int .i64 0, .int .i64 0] [], qw 4 6 18, qB 7 false] [6, 7]) (.ret)) (.skip))) (.seq (.dreg (qd 0 [qn [qL 19 9 3, qL 20 10 4, qm 21 2]] (qd 4 [qn [qo 23 6 4, ql 24 23, qo 25 0 4, ql 26 25, qo 27 3 4, ql 28 27]] (.op 3 none [23, 25, 27] (.call 22 gf_xcc [] rfl [(.tmp 19), (.tmp 20), (.tmp 21)])
 (qd 10 [qn [.build 29 [.int .i64 0, .int .i64 0, .int .i64 0, .int .i64 0] [(0, 1, (.tmp 22)), (1, 1, (.tmp 24)), (2, 1, (.tmp 26)), (3, 1, (.tmp 28))], qw 4 6 29, qB 7 true]] .nil)))) [6, 7]) (.ret)))⟩
def d_xcd_j1 (p0 : GRules) (p1 : GParty) (p2 : Int) (v2 : Bool) : Option (GEntry × Bool) :=
 br v2
  (some (GEntry.mk 0 0 0 0, false))
  (bd (d_xcc p0 p1 p2) fun x3 =>
  some (GEntry.mk x3 p1.Turn p1.Id p1.Size, true))
def d_xcd (p0 : GRules) (p1 : GParty) (p2 : Int) : Option (GEntry × Bool) :=
 bd (d_xbw p0 p1 p2) fun x1 =>
 br (!x1)
  (jn (d_xcd_j1 p0 p1 p2) true)
  (jn (d_xcd_j1 p0 p1 p2) (p1.State != 1))
def gf_xcd : GF := y_xcd.gf rfl rfl (fun a => d_xcd a.1 a.2.1 a.2.2.1) (fun a => by kernel_rfl)
def y_xce : YF := ⟨[gf_xb1], [.m (.l (.st 4)), .v .i, .v .i, .f gf_xb1.x []], [0], .ret [], [],
 .seq (q1 [qm 10 1, qi 11 .add 10 1, qa 8 11] [0, 1, 2, 3, 8]) (.block 0 (.loop [(false, 0, .one, [.val (.l (.st 4)) none]), (false, 8, .one, [.val .i none])] (.seq (.seq (q1 [qm 12 8, qm 13 2, qb 14 .lss 12 13] [0, 1, 2, 3, 8, 14]) (.cond 14 [0, 1, 2, 3, 8] [0] (.skip) (.exit 0))) (.join [(false, 0, .one, [.val (.l (.st 4)) none])] (.block 1 (.seq (q1 [qm 17 8, qa 9 17] [0, 1, 2, 3, 8, 9]) (.block 2 (.loop [(false, 0, .one, [.val (.l (.st 4)) none]), (false, 9, .one, [.val .i none])] (.seq (.join [(false, 34, .one, [.val .b none])] (.dreg (qd 0 [qn [qm 18 9, qm 19 1, qb 20 .gtr 18 19, qm 21 20],
 qt 21 [qm 22 3, qm 23 0, qm 24 9, qe 25 (.st 4) 23 24, qL 26 4 25, qm 27 0, qm 28 9, qi 29 .sub 28 1, qe 30 (.st 4) 27 29, qL 31 4 30, .callv 32 (.tmp 22) [.v, .v] [.tmp 26, .tmp 31], qi 33 .lss 32 0],
 qn [qq 34 21 33]] .nil) [0, 1, 2, 3, 8, 9, 34]) (.cond 34 [0, 1, 2, 3, 8, 9] [0, 1, 2, 3, 8] (.skip) (.exit 2))) (.seq (.block 3 (.dreg (qd 0 [qn [qm 37 0, qm 38 9, qm 39 0, qm 40 9, qi 41 .sub 40 1, qm 42 0, qm 43 9, qi 44 .sub 43 1, qe 45 (.st 4) 42 44, qL 46 4 45, qm 47 0, qm 48 9, qe 49 (.st 4) 47 48, qL 50 4 49, qe 51 (.st 4) 37 38, qw 4 51 46, qe 52 (.st 4) 39 41, qw 4 52 50]] .nil) [0, 1, 2, 3, 8, 9])) (q1 [qm 35 9, qi 36 .sub 35 1, qa 9 36] [0, 1, 2, 3, 8, 9]))))))) (q1 [qm 15 8, qi 16 .add 15 1, qa 8 16] [0, 1, 2, 3, 8])))))⟩
def d_xce_j4 (L1 : ((List GEntry) × Int) → Option (List GEntry)) (v3 : Int) (v21 : (List GEntry)) : Option (List GEntry) :=
 L1 ((v21, w64 (v3 + 1)))
def d_xce_j3 (L1 : ((List GEntry) × Int) → Option (List GEntry)) (v3 : Int) (L4 : ((List GEntry) × Int) → Option (List GEntry)) (v5 : (List GEntry)) (v6 : Int) (v12 : Bool) : Option (List GEntry) :=
 br v12
  (bd (at? v5 (w64 (v6 - 1))) fun x13 =>
  bd (at? v5 (w64 (v6 - 1))) fun x14 =>
  bd (at? v5 v6) fun x15 =>
  bd (at? v5 v6) fun x16 =>
  bd (at? v5 v6) fun x17 =>
  bd (at? v5 v6) fun x18 =>
  bd (at? (List.set v5 v6.toNat x14) (w64 (v6 - 1))) fun x19 =>
  bd (at? (List.set v5 v6.toNat x14) (w64 (v6 - 1))) fun x20 =>
  L4 (((List.set v5 v6.toNat x14).set (w64 (v6 - 1)).toNat x16, w64 (v6 - 1))))
  (jn (d_xce_j4 L1 v3) v5)
def d_xce_l2 (p1 : Int) (L1 : ((List GEntry) × Int) → Option (List GEntry)) (v3 : Int) (L4 : ((List GEntry) × Int) → Option (List GEntry)) (x_ : ((List GEntry) × Int)) : Option (List GEntry) :=
 match x_ with
 | (v5, v6) => br (decide (v6 > p1))
  (bd (at? v5 v6) fun x7 =>
  bd (at? v5 v6) fun x8 =>
  bd (at? v5 (w64 (v6 - 1))) fun x9 =>
  bd (at? v5 (w64 (v6 - 1))) fun x10 =>
  bd (d_xb1 x8 x10) fun x11 =>
  jn (d_xce_j3 L1 v3 L4 v5 v6) (decide (x11 < 0)))
  (jn (d_xce_j3 L1 v3 L4 v5 v6) false)
def d_xce_l1 (p1 : Int) (p2 : Int) (L1 : ((List GEntry) × Int) → Option (List GEntry)) (x_ : ((List GEntry) × Int)) : Option (List GEntry) :=
 match x_ with
 | (v2, v3) => br (decide (v3 < p2))
  (loopN (d_xce_l2 p1 L1 v3) big (v2, v3))
  (some v2)
def d_xce (p0 : (List GEntry)) (p1 : Int) (p2 : Int) : Option (List GEntry) :=
 loopN (d_xce_l1 p1 p2) big ((p0, w64 (p1 + 1)))
def gf_xce : GF := y_xce.gf rfl rfl (fun a => d_xce a.1 a.2.1 a.2.2.1) (fun a => by kernel_rfl)
def y_xcf : YF := ⟨[gf_xb1], [.m (.l (.st 4)), .v .i, .f gf_xb1.x []], [0], .ret [], [],
 .seq (q1 [qK 6 20] [0, 1, 2, 6]) (.seq (q1 [qm 10 6, qK 7 0, qa 8 10] [0, 1, 2, 6, 7, 8]) (.join [(false, 0, .one, [.val (.l (.st 4)) none]), (false, 7, .one, [.val .i none])] (.block 0 (.loop [(false, 0, .one, [.val (.l (.st 4)) none]), (false, 7, .one, [.val .i none]), (false, 8, .one, [.val .i none])] (.seq (.seq (q1 [qm 11 8, qm 12 1, qb 13 .leq 11 12] [0, 1, 2, 6, 7, 8, 13]) (.cond 13 [0, 1, 2, 6, 7, 8] [0, 1, 2, 6, 7] (.skip) (.exit 0))) (.block 1 (.seq (q1 [qm 14 0, qm 15 7, qm 16 8, qm 17 2, .call 18 gf_xce [0] rfl [.tmp 14, .tmp 15, .tmp 16, .tmp 17]] [0, 1, 2, 6, 8]) (.seq (q1 [qm 19 8, qa 7 19] [0, 1, 2, 6, 7, 8]) (q1 [qm 20 8, qm 21 6, qb 22 .add 20 21, qa 8 22] [0, 1, 2, 6, 7, 8]))))))) (.seq (q1 [qm 23 0, qm 24 7, qm 25 1, qm 26 2, .call 27 gf_xce [0] rfl [.tmp 23, .tmp 24, .tmp 25, .tmp 26]] [0, 1, 2, 6]) (.block 2 (.loop [(false, 6, .one, [.val .i none])] (.seq (.seq (q1 [qm 28 6, qm 29 1, qb 30 .lss 28 29] [0, 1, 2, 6, 30]) (.cond 30 [0, 1, 2, 6] [0] (.skip) (.exit 2))) (.block 3 (.seq (q1 [qm 31 6, .bin 32 .num .mul (.k (.int .i64 2)) (.tmp 31), qK 7 0, qa 8 32] [0, 1, 2, 6, 7, 8]) (.join [] (.block 4 (.loop [] (.seq (.seq (q1 [qm 33 8, qm 34 1, qb 35 .leq 33 34] [0, 1, 2, 6, 7, 8, 35]) (.cond 35 [0, 1, 2, 6, 7, 8] [0, 1, 2, 6, 7] (.skip) (.exit 4))) (.block 5 (.seq (q1 [qm 36 0, qm 37 7, qm 38 7, qm 39 6, qb 40 .add 38 39, qm 41 8, qm 42 2, .bad (some 43)] [0, 1, 2, 6, 8]) (.seq (q1 [qm 44 8, qa 7 44] [0, 1, 2, 6, 7, 8]) (q1 [qm 45 8, qm 46 6, .bin 47 .num .mul (.k (.int .i64 2)) (.tmp 46), qb 48 .add 45 47, qa 8 48] [0, 1, 2, 6, 7, 8]))))))) (.seq (.seq (q1 [qm 49 7, qm 50 6, qb 51 .add 49 50, qa 9 51] [0, 1, 2, 6, 7, 9]) (.seq (q1 [qm 52 9, qm 53 1, qb 54 .lss 52 53] [0, 1, 2, 6, 7, 9, 54]) (.cond 54 [0, 1, 2, 6, 7, 9] [0, 1, 2, 6] (q1 [qm 55 0, qm 56 7, qm 57 9, qm 58 1, qm 59 2, .bad (some 60)] [0, 1, 2, 6]) (.skip)))) (q1 [qm 61 6, qi 62 .mul 61 2, qa 6 62] [0, 1, 2, 6])))))))))))⟩
def d_xcf_j5 (p1 : Int) (L9 : Int → Option (List GEntry)) (v10 : Int) (_ : PUnit) : Option (List GEntry) :=
 br (decide (w64 (0 + v10) < p1))
  (none)
  (L9 (w64 (v10 * 2)))
def d_xcf_l4 (p1 : Int) (L9 : Int → Option (List GEntry)) (v10 : Int) (L11 : PUnit → Option (List GEntry)) (_ : PUnit) : Option (List GEntry) :=
 br (decide (w64 (2 * v10) ≤ p1))
  (none)
  (jn (d_xcf_j5 p1 L9 v10) ())
def d_xcf_l3 (p1 : Int) (x8 : (List GEntry)) (L9 : Int → Option (List GEntry)) (v10 : Int) : Option (List GEntry) :=
 br (decide (v10 < p1))
  (loopN (d_xcf_l4 p1 L9 v10) big ())
  (some x8)
def d_xcf_j2 (p1 : Int) (x_ : ((List GEntry) × Int)) : Option (List GEntry) :=
 match x_ with
 | (v6, v7) => bd (d_xce v6 v7 p1) fun x8 =>
 loopN (d_xcf_l3 p1 x8) big 20
def d_xcf_l1 (p1 : Int) (L1 : ((List GEntry) × Int × Int) → Option (List GEntry)) (x_ : ((List GEntry) × Int × Int)) : Option (List GEntry) :=
 match x_ with
 | (v2, v3, v4) => br (decide (v4 ≤ p1))
  (bd (d_xce v2 v3 v4) fun x5 =>
  L1 ((x5, v4, w64 (v4 + 20))))
  (jn (d_xcf_j2 p1) (v2, v3))
def d_xcf (p0 : (List GEntry)) (p1 : Int) : Option (List GEntry) :=
 loopN (d_xcf_l1 p1) big (p0, 0, 20)
def gf_xcf : GF := y_xcf.gf rfl rfl (fun a => d_xcf a.1 a.2.1) (fun a => by kernel_rfl)
def y_xcg : YF := ⟨[gf_xb1], [.m (.l (.st 4)), .f gf_xb1.x []], [0], .ret [], [],
 q1 [qm 4 0, qm 5 0, qz 6 5, qm 7 1, .call 8 gf_xcf [0] rfl [.tmp 4, .tmp 6, .tmp 7]] [0]⟩
def d_xcg (p0 : (List GEntry)) : Option (List GEntry) :=
 bd (d_xcf p0 (↑p0.length : Int)) fun x1 =>
 some x1
def gf_xcg : GF := y_xcg.gf rfl rfl (fun a => d_xcg a.1) (fun a => by kernel_rfl)
def y_xch : YF := ⟨[gf_xb1], [.v (.st 1), .v (.l (.st 2)), .v .i, .v .i], [], .ret [(.l (.st 4))], [.tmp 8],
 .seq (q1 [qu 4 0, .as 8 (.k .nil), .nils [(.tmp 8 0, (.st 4))]] [1, 2, 3, 4]) (.seq (q1 [.as 9 (.k .nil), .nils [(.tmp 9 0, (.st 4))]] [1, 2, 3, 4, 9]) (.join [(false, 9, .one, [.val (.l (.st 4)) none])] (.seq (q1 [qm 14 1, qz 15 14, qk 16 0] [2, 3, 4, 9, 14, 15, 16]) (.block 0 (.loop [(false, 9, .one, [.val (.l (.st 4)) none]), (false, 16, .one, [.val .i none])] (.seq (q1 [qb 17 .lss 16 15] [2, 3, 4, 9, 14, 15, 16, 17]) (.seq (.cond 17 [2, 3, 4, 9, 14, 15, 16] [9] (.skip) (.exit 0)) (.join [(false, 9, .one, [.val (.l (.st 4)) none])] (.block 1 (.seq (q1 [qe 18 (.st 2) 14 16, qL 19 10 18, .alloc 11 [.int .i64 0, .int .i64 0, .int .i64 0, .int .i64 0, .int .i64 0, .int .i64 0, .int .i64 0, .int .i64 0, .int .i64 0, .int .i64 0], qw 10 11 19] [2, 3, 4, 9, 11, 14, 15, 16]) (.seq (q1 [qL 21 9 4, qL 22 10 11, qm 23 3, qc 24 gf_xcd rfl [21, 22, 23], qm 20 24, .ext 25 (.tmp 20) 0, .ext 26 (.tmp 20) 1, .alloc 12 [.int .i64 0, .int .i64 0, .int .i64 0, .int .i64 0], qw 4 12 25, qa 13 26] [2, 3, 4, 9, 11, 12, 13, 14, 15, 16]) (.join [(false, 33, .one, [.val .b none])] (qr [qn [qm 27 13, qm 28 27],
 qt 28 [qo 29 1 11, ql 30 29, qm 31 2, qb 32 .eql 30 31],
 qn [qq 33 28 32]] [2, 3, 4, 9, 12, 14, 15, 16, 33]) (.cond 33 [2, 3, 4, 9, 12, 14, 15, 16] [2, 3, 4, 9, 14, 15, 16] (q1 [qm 34 9, qL 35 4 12, .bslice 36 1 (.st 4) [(0, (.tmp 35))], .app 37 (.st 4) true (.tmp 34) (.tmp 36), qa 9 37] [2, 3, 4, 9, 14, 15, 16]) (.skip)))))) (q1 [qi 38 .add 16 1, qm 16 38] [2, 3, 4, 9, 14, 15, 16]))))))) (.seq (q1 [qm 39 9, .call 40 gf_xcg [0] rfl [.tmp 39, (.fn 0)]] [9]) (.seq (q1 [qm 41 9, qa 8 41] [8]) (.ret)))))⟩
def d_xch_j3 (L1 : ((List GEntry) × Int) → Option (List GEntry)) (v3 : Int) (v7 : (List GEntry)) : Option (List GEntry) :=
 L1 ((v7, w64 (v3 + 1)))
def d_xch_j2 (L1 : ((List GEntry) × Int) → Option (List GEntry)) (v2 : (List GEntry)) (v3 : Int) (x5 : (GEntry × Bool)) (v6 : Bool) : Option (List GEntry) :=
 br v6
  (gd (List.length v2 + [x5.fst].length ≤ lim) (
  jn (d_xch_j3 L1 v3) (v2 ++ [x5.fst])))
  (jn (d_xch_j3 L1 v3) v2)
def d_xch_j4 (v8 : (List GEntry)) : Option (List GEntry) :=
 bd (d_xcg v8) fun x9 =>
 some x9
def d_xch_l1 (p0 : GRules) (p1 : (List GParty)) (p2 : Int) (p3 : Int) (L1 : ((List GEntry) × Int) → Option (List GEntry)) (x_ : ((List GEntry) × Int)) : Option (List GEntry) :=
 match x_ with
 | (v2, v3) => br (decide (v3 < (↑p1.length : Int)))
  (bd (at? p1 v3) fun x4 =>
  bd (d_xcd p0 x4 p3) fun x5 =>
  br x5.snd
   (jn (d_xch_j2 L1 v2 v3 x5) (x4.Cabin == p2))
   (jn (d_xch_j2 L1 v2 v3 x5) false))
  (jn (d_xch_j4) v2)
def d_xch (p0 : GRules) (p1 : (List GParty)) (p2 : Int) (p3 : Int) : Option (List GEntry) :=
 loopN (d_xch_l1 p0 p1 p2 p3) big ([], 0)
def gf_xch : GF := y_xch.gf rfl rfl (fun a => d_xch a.1 a.2.1 a.2.2.1 a.2.2.2.1) (fun a => by kernel_rfl)
def y_xci : YF := ⟨[], [.v (.l (.st 4)), .v (.l (.st 4))], [], .ret [.b], [.tmp 4],
 .seq (q1 [qB 4 false] [0, 1]) (.seq (.seq (q1 [qm 6 0, qz 7 6, qm 8 1, qz 9 8, qb 10 .neq 7 9] [0, 1, 10]) (.cond 10 [] [0, 1] (.seq (q1 [qB 4 false] [4]) (.ret)) (.skip))) (.join [] (.seq (q1 [qm 11 0, qz 12 11, qk 13 0] [0, 1, 12, 13]) (.block 0 (.loop [(false, 13, .one, [.val .i none])] (.seq (q1 [qb 14 .lss 13 12] [0, 1, 12, 13, 14]) (.seq (.cond 14 [0, 1, 12, 13] [] (.skip) (.exit 0)) (.seq (.block 1 (.seq (q1 [qm 15 13, qa 5 15] [0, 1, 5, 12, 13]) (.seq (.dreg (qd 0 [qn [qm 16 0, qm 17 5, qe 18 (.st 4) 16 17, qL 19 4 18, qm 20 1, qm 21 5, qe 22 (.st 4) 20 21, qL 23 4 22, .bin 24 (.agg [.i, .i, .i, .i]) .neq (.tmp 19) (.tmp 23)]] .nil) [0, 1, 12, 13, 24]) (.cond 24 [] [0, 1, 12, 13] (.seq (q1 [qB 4 false] [4]) (.ret)) (.skip))))) (q1 [qi 25 .add 13 1, qm 13 25] [0, 1, 12, 13]))))))) (.seq (q1 [qB 4 true] [4]) (.ret))))⟩
def d_xci_j2 (_ : PUnit) : Option Bool :=
 some true
def d_xci_l1 (p0 : (List GEntry)) (p1 : (List GEntry)) (L1 : Int → Option Bool) (v2 : Int) : Option Bool :=
 br (decide (v2 < (↑p0.length : Int)))
  (bd (at? p0 v2) fun x3 =>
  bd (at? p1 v2) fun x4 =>
  br (!(x3.Level == x4.Level && (x3.Turn == x4.Turn && (x3.Id == x4.Id && (x3.Size == x4.Size && true)))))
   (some false)
   (L1 (w64 (v2 + 1))))
  (jn (d_xci_j2) ())
def d_xci (p0 : (List GEntry)) (p1 : (List GEntry)) : Option Bool :=
 br ((↑p0.length : Int) != (↑p1.length : Int))
  (some false)
  (loopN (d_xci_l1 p0 p1) big 0)
def gf_xci : GF := y_xci.gf rfl rfl (fun a => d_xci a.1 a.2.1) (fun a => by kernel_rfl)
def y_xcj : YF := ⟨[], [.v (.ki .u64)], [], .ret [.i], [.tmp 2],
 .seq (q1 [qK 2 0] [0, 2]) (.join [(false, 0, .one, [.num .u64]), (false, 2, .one, [.val .i none])] (.seq (q1 [qm 3 0, .bin 4 .num .geq (.tmp 3) (.k (.int .u64 4294967296))] [0, 2, 4]) (.cond 4 [0] [0, 2] (.seq (q1 [qm 5 0, .bin 6 .num .shr (.tmp 5) (.k (.int .u64 32)), qa 0 6] [0]) (q1 [qK 2 32] [0, 2])) (.skip))) (.join [(false, 0, .one, [.num .u64]), (false, 2, .one, [.val .i none])] (.seq (q1 [qm 7 0, .bin 8 .num .geq (.tmp 7) (.k (.int .u64 65536))] [0, 2, 8]) (.cond 8 [0, 2] [0, 2] (.seq (q1 [qm 9 0, .bin 10 .num .shr (.tmp 9) (.k (.int .u64 16)), qa 0 10] [0, 2]) (q1 [qm 11 2, qi 12 .add 11 16, qa 2 12] [0, 2])) (.skip))) (.join [(false, 0, .one, [.num .u64]), (false, 2, .one, [.val .i none])] (.seq (q1 [qm 13 0, .bin 14 .num .geq (.tmp 13) (.k (.int .u64 256))] [0, 2, 14]) (.cond 14 [0, 2] [0, 2] (.seq (q1 [qm 15 0, .bin 16 .num .shr (.tmp 15) (.k (.int .u64 8)), qa 0 16] [0, 2]) (q1 [qm 17 2, qi 18 .add 17 8, qa 2 18] [0, 2])) (.skip))) (.seq (q1 [qm 19 2, qm 20 0, .cvI 21 .u8 (.tmp 20), .ix 22 (.k (.str [0, 1, 2, 2, 3, 3, 3, 3, 4, 4, 4, 4, 4, 4, 4, 4, 5, 5, 5, 5, 5, 5, 5, 5, 5, 5, 5, 5, 5, 5, 5, 5, 6, 6, 6, 6, 6, 6, 6, 6, 6, 6, 6, 6, 6, 6, 6, 6, 6, 6, 6, 6, 6, 6, 6, 6, 6, 6, 6, 6, 6, 6, 6, 6, 7, 7, 7, 7, 7, 7, 7, 7, 7, 7, 7, 7, 7, 7, 7, 7, 7, 7, 7, 7, 7, 7, 7, 7, 7, 7, 7, 7, 7, 7, 7, 7, 7, 7, 7, 7, 7, 7, 7, 7, 7, 7, 7, 7, 7, 7, 7, 7, 7, 7, 7, 7, 7, 7, 7, 7, 7, 7, 7, 7, 7, 7, 7, 7, 8, 8, 8, 8, 8, 8, 8, 8, 8, 8, 8, 8, 8, 8, 8, 8, 8, 8, 8, 8, 8, 8, 8, 8, 8, 8, 8, 8, 8, 8, 8, 8, 8, 8, 8, 8, 8, 8, 8, 8, 8, 8, 8, 8, 8, 8, 8, 8, 8, 8, 8, 8, 8, 8, 8, 8, 8, 8, 8, 8, 8, 8, 8, 8, 8, 8, 8, 8, 8, 8, 8, 8, 8, 8, 8, 8, 8, 8, 8, 8, 8, 8, 8, 8, 8, 8, 8, 8, 8, 8, 8, 8, 8, 8, 8, 8, 8, 8, 8, 8, 8, 8, 8, 8, 8, 8, 8, 8, 8, 8, 8, 8, 8, 8, 8, 8, 8, 8, 8, 8, 8, 8, 8, 8, 8, 8, 8, 8])) (.tmp 21), .cvI 23 .i64 (.tmp 22), qb 24 .add 19 23, qa 2 24] [2]) (.ret)))))⟩
def d_xcj_j3 (x_ : (Int × Int)) : Option Int :=
 match x_ with
 | (v5, v6) => bd (α := UInt8) (at? [0, 1, 2, 2, 3, 3, 3, 3, 4, 4, 4, 4, 4, 4, 4, 4, 5, 5, 5, 5, 5, 5, 5, 5, 5, 5, 5, 5, 5, 5, 5, 5, 6, 6, 6, 6, 6, 6, 6, 6, 6, 6, 6, 6, 6, 6, 6, 6, 6, 6, 6, 6, 6, 6, 6, 6, 6, 6, 6, 6, 6, 6, 6, 6, 7, 7, 7, 7, 7, 7, 7, 7, 7, 7, 7, 7, 7, 7, 7, 7, 7, 7, 7, 7, 7, 7, 7, 7, 7, 7, 7, 7, 7, 7, 7, 7, 7, 7, 7, 7, 7, 7, 7, 7, 7, 7, 7, 7, 7, 7, 7, 7, 7, 7, 7, 7, 7, 7, 7, 7, 7, 7, 7, 7, 7, 7, 7, 7, 8, 8, 8, 8, 8, 8, 8, 8, 8, 8, 8, 8, 8, 8, 8, 8, 8, 8, 8, 8, 8, 8, 8, 8, 8, 8, 8, 8, 8, 8, 8, 8, 8, 8, 8, 8, 8, 8, 8, 8, 8, 8, 8, 8, 8, 8, 8, 8, 8, 8, 8, 8, 8, 8, 8, 8, 8, 8, 8, 8, 8, 8, 8, 8, 8, 8, 8, 8, 8, 8, 8, 8, 8, 8, 8, 8, 8, 8, 8, 8, 8, 8, 8, 8, 8, 8, 8, 8, 8, 8, 8, 8, 8, 8, 8, 8, 8, 8, 8, 8, 8, 8, 8, 8, 8, 8, 8, 8, 8, 8, 8, 8, 8, 8, 8, 8, 8, 8, 8, 8, 8, 8, 8, 8, 8, 8, 8, 8] (↑(toB v5).toNat : Int)) fun x7 =>
 some (w64 (v6 + w64 (↑x7.toNat : Int)))
def d_xcj_j2 (x_ : (Int × Int)) : Option Int :=
 match x_ with
 | (v3, v4) => br (decide (v3 ≥ 256))
  (jn (d_xcj_j3) ((shrI v3 8, w64 (v4 + 8))))
  (jn (d_xcj_j3) (v3, v4))
def d_xcj_j1 (x_ : (Int × Int)) : Option Int :=
 match x_ with
 | (v1, v2) => br (decide (v1 ≥ 65536))
  (jn (d_xcj_j2) ((shrI v1 16, w64 (v2 + 16))))
  (jn (d_xcj_j2) (v1, v2))
def d_xcj (p0 : Int) : Option Int :=
 br (decide (p0 ≥ 4294967296))
  (jn (d_xcj_j1) (shrI p0 32, 32))
  (jn (d_xcj_j1) (p0, 0))
def gf_xcj : GF := y_xcj.gf rfl rfl (fun a => d_xcj a.1) (fun a => by kernel_rfl)
def y_xck : YF := ⟨[], [.v (.ki .u64)], [], .ret [.i], [.tmp 2],
 .seq (q1 [qK 2 0] [0]) (.seq (.scope (.skip)) (.seq (q1 [qm 6 0, qc 7 gf_xcj rfl [6], qa 2 7] [2]) (.ret)))⟩
def d_xck (p0 : Int) : Option Int :=
 bd (d_xcj p0) fun x1 =>
 some x1
def gf_xck : GF := y_xck.gf rfl rfl (fun a => d_xck a.1) (fun a => by kernel_rfl)
def y_xcl : YF := ⟨[gf_xb8], [.m (.l (.st 5)), .v .i, .v .i, .f gf_xb8.x []], [0], .ret [], [],
 .seq (q1 [qm 10 1, qi 11 .add 10 1, qa 8 11] [0, 1, 2, 3, 8]) (.block 0 (.loop [(false, 0, .one, [.val (.l (.st 5)) none]), (false, 8, .one, [.val .i none])] (.seq (.seq (q1 [qm 12 8, qm 13 2, qb 14 .lss 12 13] [0, 1, 2, 3, 8, 14]) (.cond 14 [0, 1, 2, 3, 8] [0] (.skip) (.exit 0))) (.join [(false, 0, .one, [.val (.l (.st 5)) none])] (.block 1 (.seq (q1 [qm 17 8, qa 9 17] [0, 1, 2, 3, 8, 9]) (.block 2 (.loop [(false, 0, .one, [.val (.l (.st 5)) none]), (false, 9, .one, [.val .i none])] (.seq (.join [(false, 34, .one, [.val .b none])] (.dreg (qd 0 [qn [qm 18 9, qm 19 1, qb 20 .gtr 18 19, qm 21 20],
 qt 21 [qm 22 3, qm 23 0, qm 24 9, qe 25 (.st 5) 23 24, qL 26 2 25, qm 27 0, qm 28 9, qi 29 .sub 28 1, qe 30 (.st 5) 27 29, qL 31 2 30, .callv 32 (.tmp 22) [.v, .v] [.tmp 26, .tmp 31], qi 33 .lss 32 0],
 qn [qq 34 21 33]] .nil) [0, 1, 2, 3, 8, 9, 34]) (.cond 34 [0, 1, 2, 3, 8, 9] [0, 1, 2, 3, 8] (.skip) (.exit 2))) (.seq (.block 3 (.dreg (qd 0 [qn [qm 37 0, qm 38 9, qm 39 0, qm 40 9, qi 41 .sub 40 1, qm 42 0, qm 43 9, qi 44 .sub 43 1, qe 45 (.st 5) 42 44, qL 46 2 45, qm 47 0, qm 48 9, qe 49 (.st 5) 47 48, qL 50 2 49, qe 51 (.st 5) 37 38, qw 2 51 46, qe 52 (.st 5) 39 41, qw 2 52 50]] .nil) [0, 1, 2, 3, 8, 9])) (q1 [qm 35 9, qi 36 .sub 35 1, qa 9 36] [0, 1, 2, 3, 8, 9]))))))) (q1 [qm 15 8, qi 16 .add 15 1, qa 8 16] [0, 1, 2, 3, 8])))))⟩
def d_xcl_j4 (L1 : ((List GPin) × Int) → Option (List GPin)) (v3 : Int) (v21 : (List GPin)) : Option (List GPin) :=
 L1 ((v21, w64 (v3 + 1)))
def d_xcl_j3 (L1 : ((List GPin) × Int) → Option (List GPin)) (v3 : Int) (L4 : ((List GPin) × Int) → Option (List GPin)) (v5 : (List GPin)) (v6 : Int) (v12 : Bool) : Option (List GPin) :=
 br v12
  (bd (at? v5 (w64 (v6 - 1))) fun x13 =>
  bd (at? v5 (w64 (v6 - 1))) fun x14 =>
  bd (at? v5 v6) fun x15 =>
  bd (at? v5 v6) fun x16 =>
  bd (at? v5 v6) fun x17 =>
  bd (at? v5 v6) fun x18 =>
  bd (at? (List.set v5 v6.toNat x14) (w64 (v6 - 1))) fun x19 =>
  bd (at? (List.set v5 v6.toNat x14) (w64 (v6 - 1))) fun x20 =>
  L4 (((List.set v5 v6.toNat x14).set (w64 (v6 - 1)).toNat x16, w64 (v6 - 1))))
  (jn (d_xcl_j4 L1 v3) v5)
def d_xcl_l2 (p1 : Int) (L1 : ((List GPin) × Int) → Option (List GPin)) (v3 : Int) (L4 : ((List GPin) × Int) → Option (List GPin)) (x_ : ((List GPin) × Int)) : Option (List GPin) :=
 match x_ with
 | (v5, v6) => br (decide (v6 > p1))
  (bd (at? v5 v6) fun x7 =>
  bd (at? v5 v6) fun x8 =>
  bd (at? v5 (w64 (v6 - 1))) fun x9 =>
  bd (at? v5 (w64 (v6 - 1))) fun x10 =>
  bd (d_xb8 x8 x10) fun x11 =>
  jn (d_xcl_j3 L1 v3 L4 v5 v6) (decide (x11 < 0)))
  (jn (d_xcl_j3 L1 v3 L4 v5 v6) false)
def d_xcl_l1 (p1 : Int) (p2 : Int) (L1 : ((List GPin) × Int) → Option (List GPin)) (x_ : ((List GPin) × Int)) : Option (List GPin) :=
 match x_ with
 | (v2, v3) => br (decide (v3 < p2))
  (loopN (d_xcl_l2 p1 L1 v3) big (v2, v3))
  (some v2)
def d_xcl (p0 : (List GPin)) (p1 : Int) (p2 : Int) : Option (List GPin) :=
 loopN (d_xcl_l1 p1 p2) big ((p0, w64 (p1 + 1)))
def gf_xcl : GF := y_xcl.gf rfl rfl (fun a => d_xcl a.1 a.2.1 a.2.2.1) (fun a => by kernel_rfl)
def y_xcm : YF := ⟨[gf_xb8], [.m (.l (.st 5)), .v .i, .v .i, .v .i, .f gf_xb8.x []], [0], .ret [], [],
 .seq (q1 [qB 10 true] [0, 1, 2, 3, 4, 10]) (.seq (q1 [qB 11 true] [0, 1, 2, 3, 4, 10, 11]) (.block 0 (.loop [] (.block 1 (.seq (q1 [qm 21 2, qm 22 1, qb 23 .sub 21 22, qa 12 23] [0, 1, 2, 3, 4, 10, 11, 12]) (.seq (.seq (q1 [qm 24 12, qi 25 .leq 24 12] [0, 1, 2, 3, 4, 10, 11, 12, 25]) (.cond 25 [0, 1, 2, 4] [0, 1, 2, 3, 4, 10, 11, 12] (.seq (q1 [qm 26 0, qm 27 1, qm 28 2, qm 29 4, .call 30 gf_xcl [0] rfl [.tmp 26, .tmp 27, .tmp 28, .tmp 29]] [0]) (.ret)) (.skip))) (.seq (.seq (q1 [qm 31 3, qi 32 .eql 31 0] [0, 1, 2, 3, 4, 10, 11, 12, 32]) (.cond 32 [0, 1, 2, 4] [0, 1, 2, 3, 4, 10, 11, 12] (.seq (q1 [qm 33 0, qm 34 1, qm 35 2, qm 36 4, .bad (some 37)] [0]) (.ret)) (.skip))) (.seq (.seq (q1 [qm 38 10, qx 39 38] [0, 1, 2, 3, 4, 10, 11, 12, 39]) (.cond 39 [0, 1, 2, 3, 4, 10, 11, 12] [0, 1, 2, 3, 4, 10, 11, 12] (.seq (q1 [qm 40 0, qm 41 1, qm 42 2, qm 43 4, .bad (some 44)] [0, 1, 2, 3, 4, 10, 11, 12]) (q1 [qm 45 3, qi 46 .sub 45 1, qa 3 46] [0, 1, 2, 3, 4, 10, 11, 12])) (.skip))) (.seq (q1 [qm 48 0, qm 49 1, qm 50 2, qm 51 4, .bad (some 52), qm 47 52, .ext 53 (.tmp 47) 0, .ext 54 (.tmp 47) 1, qa 13 53, qa 14 54] [0, 1, 2, 3, 4, 10, 11, 12, 13, 14]) (.seq (.seq (q1 [qm 55 14, qi 56 .eql 55 2] [0, 1, 2, 3, 4, 10, 11, 12, 13, 14, 56]) (.cond 56 [0, 1, 2, 3, 4, 10, 11, 12, 13] [0, 1, 2, 3, 4, 10, 11, 12, 13, 14] (.seq (q1 [qm 57 0, qm 58 1, qm 59 2, qm 60 4, .bad (some 61)] [0, 1, 2, 3, 4, 10, 11, 12, 13]) (.seq (q1 [qm 62 2, qi 63 .sub 62 1, qm 64 13, qm 65 1, qb 66 .sub 64 65, qb 67 .sub 63 66, qa 13 67] [0, 1, 2, 3, 4, 10, 11, 12, 13]) (q1 [qK 14 1] [0, 1, 2, 3, 4, 10, 11, 12, 13, 14]))) (.skip))) (.seq (.seq (qr [qn [qm 68 10, qm 69 68],
 qt 69 [qm 70 11],
 qn [qq 71 69 70, qm 72 71],
 qt 72 [qm 73 14, qi 74 .eql 73 1],
 qn [qq 75 72 74]] [0, 1, 2, 3, 4, 10, 11, 12, 13, 75]) (.cond 75 [0, 1, 2, 3, 4, 10, 11, 12, 13] [0, 1, 2, 3, 4, 10, 11, 12, 13] (.seq (q1 [qm 76 0, qm 77 1, qm 78 2, qm 79 4, .bad (some 80)] [0, 1, 2, 3, 4, 10, 11, 12, 13, 80]) (.cond 80 [0] [0, 1, 2, 3, 4, 10, 11, 12, 13] (.ret) (.skip))) (.skip))) (.seq (.seq (.dreg (qd 0 [qn [qm 81 1, qi 82 .gtr 81 0, qm 83 82],
 qt 83 [qm 84 4, qm 85 0, qm 86 1, qi 87 .sub 86 1, qe 88 (.st 5) 85 87, qL 89 2 88, qm 90 0, qm 91 13, qe 92 (.st 5) 90 91, qL 93 2 92, .bad (some 94), qi 95 .lss 94 0, qx 96 95],
 qn [qq 97 83 96]] .nil) [0, 1, 2, 3, 4, 10, 11, 12, 13, 97]) (.cond 97 [0, 1, 2, 3, 4, 10, 11, 13] [0, 1, 2, 3, 4, 12, 13] (.seq (q1 [qm 98 0, qm 99 1, qm 100 2, qm 101 13, qm 102 4, .bad (some 103), qa 15 103] [0, 2, 3, 4, 10, 11, 15]) (.seq (q1 [qm 104 15, qa 1 104] [0, 1, 2, 3, 4, 10, 11]) (.exit 1))) (.skip))) (.seq (q1 [qm 106 0, qm 107 1, qm 108 2, qm 109 13, qm 110 4, .bad (some 111), qm 105 111, .ext 112 (.tmp 105) 0, .ext 113 (.tmp 105) 1, qa 16 112, qa 17 113] [0, 1, 2, 3, 4, 12, 16, 17]) (.seq (q1 [qm 114 17, qa 11 114] [0, 1, 2, 3, 4, 11, 12, 16]) (.seq (q1 [qm 115 16, qm 116 1, qb 117 .sub 115 116, qm 118 2, qm 119 16, qb 120 .sub 118 119, qa 18 117, qa 19 120] [0, 1, 2, 3, 4, 11, 12, 16, 18, 19]) (.seq (q1 [qm 121 12, qi 122 .quo 121 8, qa 20 122] [0, 1, 2, 3, 4, 11, 16, 18, 19, 20]) (.seq (q1 [qm 123 18, qm 124 19, qb 125 .lss 123 124] [0, 1, 2, 3, 4, 11, 16, 18, 19, 20, 125]) (.cond 125 [0, 1, 2, 3, 4, 11, 16, 18, 20] [0, 1, 2, 3, 4, 11, 16, 19, 20] (.seq (q1 [qm 126 18, qm 127 20, qb 128 .geq 126 127, qa 10 128] [0, 1, 2, 3, 4, 10, 11, 16]) (.seq (q1 [qm 129 0, qm 130 1, qm 131 16, qm 132 3, qm 133 4, .bad (some 134)] [0, 2, 3, 4, 10, 11, 16]) (q1 [qm 135 16, qi 136 .add 135 1, qa 1 136] [0, 1, 2, 3, 4, 10, 11]))) (.seq (q1 [qm 137 19, qm 138 20, qb 139 .geq 137 138, qa 10 139] [0, 1, 2, 3, 4, 10, 11, 16]) (.seq (q1 [qm 140 0, qm 141 16, qi 142 .add 141 1, qm 143 2, qm 144 3, qm 145 4, .bad (some 146)] [0, 1, 3, 4, 10, 11, 16]) (q1 [qm 147 16, qa 2 147] [0, 1, 2, 3, 4, 10, 11])))))))))))))))))))))⟩
def d_xcm_l1 (p0 : (List GPin)) (p1 : Int) (p2 : Int) (p3 : Int) (L1 : PUnit → Option (List GPin)) (_ : PUnit) : Option (List GPin) :=
 br (decide (w64 (p2 - p1) ≤ 12))
  (bd (d_xcl p0 p1 p2) fun x2 =>
  some x2)
  (br (p3 == 0)
   (none)
   (none))
def d_xcm (p0 : (List GPin)) (p1 : Int) (p2 : Int) (p3 : Int) : Option (List GPin) :=
 loopN (d_xcm_l1 p0 p1 p2 p3) big ()
def gf_xcm : GF := y_xcm.gf rfl rfl (fun a => d_xcm a.1 a.2.1 a.2.2.1 a.2.2.2.1) (fun a => by kernel_rfl)
def y_xcn : YF := ⟨[gf_xb8], [.m (.l (.st 5)), .f gf_xb8.x []], [0], .ret [], [],
 .seq (q1 [qm 5 0, qz 6 5, qa 4 6] [0, 1, 4]) (q1 [qm 7 0, qm 8 4, qm 9 4, .cvI 10 .u64 (.tmp 9), qc 11 gf_xck rfl [10], qm 12 1, .call 13 gf_xcm [0] rfl [.tmp 7, qj 0, .tmp 8, .tmp 11, .tmp 12]] [0])⟩
def d_xcn (p0 : (List GPin)) : Option (List GPin) :=
 bd (d_xck (Go.IntKind.u64.wrap (↑p0.length : Int))) fun x1 =>
 bd (d_xcm p0 0 (↑p0.length : Int) x1) fun x2 =>
 some x2
def gf_xcn : GF := y_xcn.gf rfl rfl (fun a => d_xcn a.1) (fun a => by kernel_rfl)
def y_xco : YF := ⟨[gf_xb8], [.v (.st 6)], [], .ret [(.l (.st 5))], [.tmp 2],
 .seq (q1 [qu 1 0, .as 2 (.k .nil), .nils [(.tmp 2 0, (.st 5))]] [1]) (.seq (.seq (q1 [qL 6 1 1, qc 7 gf_xb9 rfl [6], qx 8 7] [1, 8]) (.cond 8 [] [1] (.seq (q1 [.as 2 (.k .nil), .nils [(.tmp 2 0, (.st 5))]] [2]) (.ret)) (.skip))) (.seq (q1 [.as 3 (.k .nil), .nils [(.tmp 3 0, (.st 5))]] [1, 3]) (.join [(false, 3, .one, [.val (.l (.st 5)) none])] (.seq (q1 [qo 9 0 1, ql 10 9, qz 11 10, qk 12 0] [3, 10, 11, 12]) (.block 0 (.loop [(false, 3, .one, [.val (.l (.st 5)) none]), (false, 12, .one, [.val .i none])] (.seq (q1 [qb 13 .lss 12 11] [3, 10, 11, 12, 13]) (.seq (.cond 13 [3, 10, 11, 12] [3] (.skip) (.exit 0)) (.seq (.block 1 (.seq (q1 [qe 14 (.l (.st 5)) 10 12, ql 15 14, qa 5 15] [3, 5, 10, 11, 12]) (q1 [qm 16 3, qm 17 5, .app 18 (.st 5) true (.tmp 16) (.tmp 17), qa 3 18] [3, 10, 11, 12]))) (q1 [qi 19 .add 12 1, qm 12 19] [3, 10, 11, 12]))))))) (.seq (q1 [qm 20 3, .call 21 gf_xcn [0] rfl [.tmp 20, (.fn 0)]] [3]) (.seq (q1 [qm 22 3, qa 2 22] [2]) (.ret))))))⟩
def d_xco_j2 (v6 : (List GPin)) : Option (List GPin) :=
 bd (d_xcn v6) fun x7 =>
 some x7
def d_xco_l1 (p0 : GWheel) (L2 : ((List GPin) × Int) → Option (List GPin)) (x_ : ((List GPin) × Int)) : Option (List GPin) :=
 match x_ with
 | (v3, v4) => br (decide (v4 < (↑p0.Spoke.length : Int)))
  (bd (at? p0.Spoke v4) fun x5 =>
  gd (List.length v3 + List.length x5 ≤ lim) (
  L2 ((v3 ++ x5, w64 (v4 + 1)))))
  (jn (d_xco_j2) v3)
def d_xco (p0 : GWheel) : Option (List GPin) :=
 bd (d_xb9 p0) fun x1 =>
 br (!x1)
  (some [])
  (loopN (d_xco_l1 p0) big ([], 0))
def gf_xco : GF := y_xco.gf rfl rfl (fun a => d_xco a.1) (fun a => by kernel_rfl)
def y_xcp : YF := ⟨[gf_xb8], [.m (.l (.st 5)), .v .i, .f gf_xb8.x []], [0], .ret [], [],
 .seq (q1 [qK 6 20] [0, 1, 2, 6]) (.seq (q1 [qm 10 6, qK 7 0, qa 8 10] [0, 1, 2, 6, 7, 8]) (.join [(false, 0, .one, [.val (.l (.st 5)) none]), (false, 7, .one, [.val .i none])] (.block 0 (.loop [(false, 0, .one, [.val (.l (.st 5)) none]), (false, 7, .one, [.val .i none]), (false, 8, .one, [.val .i none])] (.seq (.seq (q1 [qm 11 8, qm 12 1, qb 13 .leq 11 12] [0, 1, 2, 6, 7, 8, 13]) (.cond 13 [0, 1, 2, 6, 7, 8] [0, 1, 2, 6, 7] (.skip) (.exit 0))) (.block 1 (.seq (q1 [qm 14 0, qm 15 7, qm 16 8, qm 17 2, .call 18 gf_xcl [0] rfl [.tmp 14, .tmp 15, .tmp 16, .tmp 17]] [0, 1, 2, 6, 8]) (.seq (q1 [qm 19 8, qa 7 19] [0, 1, 2, 6, 7, 8]) (q1 [qm 20 8, qm 21 6, qb 22 .add 20 21, qa 8 22] [0, 1, 2, 6, 7, 8]))))))) (.seq (q1 [qm 23 0, qm 24 7, qm 25 1, qm 26 2, .call 27 gf_xcl [0] rfl [.tmp 23, .tmp 24, .tmp 25, .tmp 26]] [0, 1, 2, 6]) (.block 2 (.loop [(false, 6, .one, [.val .i none])] (.seq (.seq (q1 [qm 28 6, qm 29 1, qb 30 .lss 28 29] [0, 1, 2, 6, 30]) (.cond 30 [0, 1, 2, 6] [0] (.skip) (.exit 2))) (.block 3 (.seq (q1 [qm 31 6, .bin 32 .num .mul (.k (.int .i64 2)) (.tmp 31), qK 7 0, qa 8 32] [0, 1, 2, 6, 7, 8]) (.join [] (.block 4 (.loop [] (.seq (.seq (q1 [qm 33 8, qm 34 1, qb 35 .leq 33 34] [0, 1, 2, 6, 7, 8, 35]) (.cond 35 [0, 1, 2, 6, 7, 8] [0, 1, 2, 6, 7] (.skip) (.exit 4))) (.block 5 (.seq (q1 [qm 36 0, qm 37 7, qm 38 7, qm 39 6, qb 40 .add 38 39, qm 41 8, qm 42 2, .bad (some 43)] [0, 1, 2, 6, 8]) (.seq (q1 [qm 44 8, qa 7 44] [0, 1, 2, 6, 7, 8]) (q1 [qm 45 8, qm 46 6, .bin 47 .num .mul (.k (.int .i64 2)) (.tmp 46), qb 48 .add 45 47, qa 8 48] [0, 1, 2, 6, 7, 8]))))))) (.seq (.seq (q1 [qm 49 7, qm 50 6, qb 51 .add 49 50, qa 9 51] [0, 1, 2, 6, 7, 9]) (.seq (q1 [qm 52 9, qm 53 1, qb 54 .lss 52 53] [0, 1, 2, 6, 7, 9, 54]) (.cond 54 [0, 1, 2, 6, 7, 9] [0, 1, 2, 6] (q1 [qm 55 0, qm 56 7, qm 57 9, qm 58 1, qm 59 2, .bad (some 60)] [0, 1, 2, 6]) (.skip)))) (q1 [qm 61 6, qi 62 .mul 61 2, qa 6 62] [0, 1, 2, 6])))))))))))⟩
def d_xcp_j5 (p1 : Int) (L9 : Int → Option (List GPin)) (v10 : Int) (_ : PUnit) : Option (List GPin) :=
 br (decide (w64 (0 + v10) < p1))
  (none)
  (L9 (w64 (v10 * 2)))
def d_xcp_l4 (p1 : Int) (L9 : Int → Option (List GPin)) (v10 : Int) (L11 : PUnit → Option (List GPin)) (_ : PUnit) : Option (List GPin) :=
 br (decide (w64 (2 * v10) ≤ p1))
  (none)
  (jn (d_xcp_j5 p1 L9 v10) ())
def d_xcp_l3 (p1 : Int) (x8 : (List GPin)) (L9 : Int → Option (List GPin)) (v10 : Int) : Option (List GPin) :=
 br (decide (v10 < p1))
  (loopN (d_xcp_l4 p1 L9 v10) big ())
  (some x8)
def d_xcp_j2 (p1 : Int) (x_ : ((List GPin) × Int)) : Option (List GPin) :=
 match x_ with
 | (v6, v7) => bd (d_xcl v6 v7 p1) fun x8 =>
 loopN (d_xcp_l3 p1 x8) big 20
def d_xcp_l1 (p1 : Int) (L1 : ((List GPin) × Int × Int) → Option (List GPin)) (x_ : ((List GPin) × Int × Int)) : Option (List GPin) :=
 match x_ with
 | (v2, v3, v4) => br (decide (v4 ≤ p1))
  (bd (d_xcl v2 v3 v4) fun x5 =>
  L1 ((x5, v4, w64 (v4 + 20))))
  (jn (d_xcp_j2 p1) (v2, v3))
def d_xcp (p0 : (List GPin)) (p1 : Int) : Option (List GPin) :=
 loopN (d_xcp_l1 p1) big (p0, 0, 20)
def gf_xcp : GF := y_xcp.gf rfl rfl (fun a => d_xcp a.1 a.2.1) (fun a => by kernel_rfl)
def y_xcq : YF := ⟨[gf_xb8], [.m (.l (.st 5)), .f gf_xb8.x []], [0], .ret [], [],
 q1 [qm 4 0, qm 5 0, qz 6 5, qm 7 1, .call 8 gf_xcp [0] rfl [.tmp 4, .tmp 6, .tmp 7]] [0]⟩
def d_xcq (p0 : (List GPin)) : Option (List GPin) :=
 bd (d_xcp p0 (↑p0.length : Int)) fun x1 =>
 some x1
def gf_xcq : GF := y_xcq.gf rfl rfl (fun a => d_xcq a.1) (fun a => by kernel_rfl)
def y_xcr : YF := ⟨[gf_xb8], [.v (.l (.st 2)), .v .i], [], .ret [(.l (.st 5))], [.tmp 4],
 .seq (q1 [.as 4 (.k .nil), .nils [(.tmp 4 0, (.st 5))]] [0, 1]) (.seq (q1 [.as 5 (.k .nil), .nils [(.tmp 5 0, (.st 5))]] [0, 1, 5]) (.join [(false, 5, .one, [.val (.l (.st 5)) none])] (.seq (q1 [qm 8 0, qz 9 8, qk 10 0] [1, 5, 8, 9, 10]) (.block 0 (.loop [(false, 5, .one, [.val (.l (.st 5)) none]), (false, 10, .one, [.val .i none])] (.seq (q1 [qb 11 .lss 10 9] [1, 5, 8, 9, 10, 11]) (.seq (.cond 11 [1, 5, 8, 9, 10] [5] (.skip) (.exit 0)) (.join [(false, 5, .one, [.val (.l (.st 5)) none])] (.block 1 (.seq (q1 [qe 12 (.st 2) 8 10, qL 13 10 12, .alloc 7 [.int .i64 0, .int .i64 0, .int .i64 0, .int .i64 0, .int .i64 0, .int .i64 0, .int .i64 0, .int .i64 0, .int .i64 0, .int .i64 0], qw 10 7 13] [1, 5, 7, 8, 9, 10]) (.join [(false, 22, .one, [.val .b none])] (qr [qn [qo 14 7 7, ql 15 14, qi 16 .eql 15 2, qm 17 16],
 qt 17 [qo 18 1 7, ql 19 18, qm 20 1, qb 21 .eql 19 20],
 qn [qq 22 17 21]] [1, 5, 7, 8, 9, 10, 22]) (.cond 22 [1, 5, 7, 8, 9, 10] [1, 5, 8, 9, 10] (q1 [qm 23 5, qo 24 8 7, ql 25 24, qo 26 0 7, ql 27 26, .build 28 [.int .i64 0, .int .i64 0] [(0, 1, (.tmp 25)), (1, 1, (.tmp 27))], .bslice 29 1 (.st 5) [(0, (.tmp 28))], .app 30 (.st 5) true (.tmp 23) (.tmp 29), qa 5 30] [1, 5, 8, 9, 10]) (.skip))))) (q1 [qi 31 .add 10 1, qm 10 31] [1, 5, 8, 9, 10]))))))) (.seq (q1 [qm 32 5, .call 33 gf_xcq [0] rfl [.tmp 32, (.fn 0)]] [5]) (.seq (q1 [qm 34 5, qa 4 34] [4]) (.ret)))))⟩
def d_xcr_j3 (L1 : ((List GPin) × Int) → Option (List GPin)) (v3 : Int) (v6 : (List GPin)) : Option (List GPin) :=
 L1 ((v6, w64 (v3 + 1)))
def d_xcr_j2 (L1 : ((List GPin) × Int) → Option (List GPin)) (v2 : (List GPin)) (v3 : Int) (x4 : GParty) (v5 : Bool) : Option (List GPin) :=
 br v5
  (gd (List.length v2 + [GPin.mk x4.Until x4.Id].length ≤ lim) (
  jn (d_xcr_j3 L1 v3) (v2 ++ [GPin.mk x4.Until x4.Id])))
  (jn (d_xcr_j3 L1 v3) v2)
def d_xcr_j4 (v7 : (List GPin)) : Option (List GPin) :=
 bd (d_xcq v7) fun x8 =>
 some x8
def d_xcr_l1 (p0 : (List GParty)) (p1 : Int) (L1 : ((List GPin) × Int) → Option (List GPin)) (x_ : ((List GPin) × Int)) : Option (List GPin) :=
 match x_ with
 | (v2, v3) => br (decide (v3 < (↑p0.length : Int)))
  (bd (at? p0 v3) fun x4 =>
  br (x4.State == 2)
   (jn (d_xcr_j2 L1 v2 v3 x4) (x4.Cabin == p1))
   (jn (d_xcr_j2 L1 v2 v3 x4) false))
  (jn (d_xcr_j4) v2)
def d_xcr (p0 : (List GParty)) (p1 : Int) : Option (List GPin) :=
 loopN (d_xcr_l1 p0 p1) big ([], 0)
def gf_xcr : GF := y_xcr.gf rfl rfl (fun a => d_xcr a.1 a.2.1) (fun a => by kernel_rfl)
def y_xcs : YF := ⟨[], [.v (.l (.st 5)), .v (.l (.st 5))], [], .ret [.b], [.tmp 4],
 .seq (q1 [qB 4 false] [0, 1]) (.seq (.seq (q1 [qm 6 0, qz 7 6, qm 8 1, qz 9 8, qb 10 .neq 7 9] [0, 1, 10]) (.cond 10 [] [0, 1] (.seq (q1 [qB 4 false] [4]) (.ret)) (.skip))) (.join [] (.seq (q1 [qm 11 0, qz 12 11, qk 13 0] [0, 1, 12, 13]) (.block 0 (.loop [(false, 13, .one, [.val .i none])] (.seq (q1 [qb 14 .lss 13 12] [0, 1, 12, 13, 14]) (.seq (.cond 14 [0, 1, 12, 13] [] (.skip) (.exit 0)) (.seq (.block 1 (.seq (q1 [qm 15 13, qa 5 15] [0, 1, 5, 12, 13]) (.seq (.dreg (qd 0 [qn [qm 16 0, qm 17 5, qe 18 (.st 5) 16 17, qL 19 2 18, qm 20 1, qm 21 5, qe 22 (.st 5) 20 21, qL 23 2 22, .bin 24 (.agg [.i, .i]) .neq (.tmp 19) (.tmp 23)]] .nil) [0, 1, 12, 13, 24]) (.cond 24 [] [0, 1, 12, 13] (.seq (q1 [qB 4 false] [4]) (.ret)) (.skip))))) (q1 [qi 25 .add 13 1, qm 13 25] [0, 1, 12, 13]))))))) (.seq (q1 [qB 4 true] [4]) (.ret))))⟩
def d_xcs_j2 (_ : PUnit) : Option Bool :=
 some true
def d_xcs_l1 (p0 : (List GPin)) (p1 : (List GPin)) (L1 : Int → Option Bool) (v2 : Int) : Option Bool :=
 br (decide (v2 < (↑p0.length : Int)))
  (bd (at? p0 v2) fun x3 =>
  bd (at? p1 v2) fun x4 =>
  br (!(x3.At == x4.At && (x3.Id == x4.Id && true)))
   (some false)
   (L1 (w64 (v2 + 1))))
  (jn (d_xcs_j2) ())
def d_xcs (p0 : (List GPin)) (p1 : (List GPin)) : Option Bool :=
 br ((↑p0.length : Int) != (↑p1.length : Int))
  (some false)
  (loopN (d_xcs_l1 p0 p1) big 0)
def gf_xcs : GF := y_xcs.gf rfl rfl (fun a => d_xcs a.1 a.2.1) (fun a => by kernel_rfl)
def y_xct : YF := ⟨[], [.v (.l (.st 2)), .v .i], [], .ret [.i], [.tmp 4],
 .seq (q1 [qK 4 0] [0, 1]) (.seq (q1 [qK 5 0] [0, 1, 5]) (.join [(false, 5, .one, [.val .i none])] (.seq (q1 [qm 8 0, qz 9 8, qk 10 0] [1, 5, 8, 9, 10]) (.block 0 (.loop [(false, 5, .one, [.val .i none]), (false, 10, .one, [.val .i none])] (.seq (q1 [qb 11 .lss 10 9] [1, 5, 8, 9, 10, 11]) (.seq (.cond 11 [1, 5, 8, 9, 10] [5] (.skip) (.exit 0)) (.join [(false, 5, .one, [.val .i none])] (.block 1 (.seq (q1 [qe 12 (.st 2) 8 10, qL 13 10 12, .alloc 7 [.int .i64 0, .int .i64 0, .int .i64 0, .int .i64 0, .int .i64 0, .int .i64 0, .int .i64 0, .int .i64 0, .int .i64 0, .int .i64 0], qw 10 7 13] [1, 5, 7, 8, 9, 10]) (.join [(false, 27, .one, [.val .b none])] (qr [qn [qo 14 7 7, ql 15 14, qi 16 .eql 15 2, qm 17 16],
 qt 17 [qo 18 1 7, ql 19 18, qm 20 1, qb 21 .eql 19 20],
 qn [qq 22 17 21, qm 23 22],
 qt 23 [qo 24 3 7, ql 25 24, .call 26 gf_xbt [] rfl [.tmp 25, qj 1, qj 6]],
 qn [qq 27 23 26]] [1, 5, 7, 8, 9, 10, 27]) (.cond 27 [1, 5, 7, 8, 9, 10] [1, 5, 8, 9, 10] (q1 [qm 28 5, qo 29 3 7, ql 30 29, qb 31 .add 28 30, qa 5 31] [1, 5, 8, 9, 10]) (.skip))))) (q1 [qi 32 .add 10 1, qm 10 32] [1, 5, 8, 9, 10]))))))) (.seq (q1 [qm 33 5, qa 4 33] [4]) (.ret))))⟩
def d_xct_j3 (L1 : (Int × Int) → Option Int) (v3 : Int) (v7 : Int) : Option Int :=
 L1 ((v7, w64 (v3 + 1)))
def d_xct_j2 (L1 : (Int × Int) → Option Int) (v2 : Int) (v3 : Int) (x4 : GParty) (v6 : Bool) : Option Int :=
 br v6
  (jn (d_xct_j3 L1 v3) (w64 (v2 + x4.Size)))
  (jn (d_xct_j3 L1 v3) v2)
def d_xct_j4 (v8 : Int) : Option Int :=
 some v8
def d_xct_l1 (p0 : (List GParty)) (p1 : Int) (L1 : (Int × Int) → Option Int) (x_ : (Int × Int)) : Option Int :=
 match x_ with
 | (v2, v3) => br (decide (v3 < (↑p0.length : Int)))
  (bd (at? p0 v3) fun x4 =>
  br (x4.State == 2)
   (br (x4.Cabin == p1)
    (bd (d_xbt x4.Size 1 6) fun x5 =>
    jn (d_xct_j2 L1 v2 v3 x4) x5)
    (jn (d_xct_j2 L1 v2 v3 x4) false))
   (jn (d_xct_j2 L1 v2 v3 x4) false))
  (jn (d_xct_j4) v2)
def d_xct (p0 : (List GParty)) (p1 : Int) : Option Int :=
 loopN (d_xct_l1 p0 p1) big (0, 0)
def gf_xct : GF := y_xct.gf rfl rfl (fun a => d_xct a.1 a.2.1) (fun a => by kernel_rfl)
def y_xcu : YF := ⟨[], [.v (.l (.st 2)), .v .i], [], .ret [.i], [.tmp 4],
 .seq (q1 [qK 4 0] [0, 1]) (.seq (q1 [qK 5 0] [0, 1, 5]) (.join [(false, 5, .one, [.val .i none])] (.seq (q1 [qm 8 0, qz 9 8, qk 10 0] [1, 5, 8, 9, 10]) (.block 0 (.loop [(false, 5, .one, [.val .i none]), (false, 10, .one, [.val .i none])] (.seq (q1 [qb 11 .lss 10 9] [1, 5, 8, 9, 10, 11]) (.seq (.cond 11 [1, 5, 8, 9, 10] [5] (.skip) (.exit 0)) (.join [(false, 5, .one, [.val .i none])] (.block 1 (.seq (q1 [qe 12 (.st 2) 8 10, qL 13 10 12, .alloc 7 [.int .i64 0, .int .i64 0, .int .i64 0, .int .i64 0, .int .i64 0, .int .i64 0, .int .i64 0, .int .i64 0, .int .i64 0, .int .i64 0], qw 10 7 13] [1, 5, 7, 8, 9, 10]) (.join [(false, 22, .one, [.val .b none])] (qr [qn [qo 14 2 7, ql 15 14, qm 16 1, qb 17 .eql 15 16, qm 18 17],
 qt 18 [qo 19 3 7, ql 20 19, .call 21 gf_xbt [] rfl [.tmp 20, qj 1, qj 6]],
 qn [qq 22 18 21]] [1, 5, 7, 8, 9, 10, 22]) (.cond 22 [1, 5, 7, 8, 9, 10] [1, 5, 8, 9, 10] (q1 [qm 23 5, qo 24 3 7, ql 25 24, qb 26 .add 23 25, qa 5 26] [1, 5, 8, 9, 10]) (.skip))))) (q1 [qi 27 .add 10 1, qm 10 27] [1, 5, 8, 9, 10]))))))) (.seq (q1 [qm 28 5, qa 4 28] [4]) (.ret))))⟩
def d_xcu_j3 (L1 : (Int × Int) → Option Int) (v3 : Int) (v7 : Int) : Option Int :=
 L1 ((v7, w64 (v3 + 1)))
def d_xcu_j2 (L1 : (Int × Int) → Option Int) (v2 : Int) (v3 : Int) (x4 : GParty) (v6 : Bool) : Option Int :=
 br v6
  (jn (d_xcu_j3 L1 v3) (w64 (v2 + x4.Size)))
  (jn (d_xcu_j3 L1 v3) v2)
def d_xcu_j4 (v8 : Int) : Option Int :=
 some v8
def d_xcu_l1 (p0 : (List GParty)) (p1 : Int) (L1 : (Int × Int) → Option Int) (x_ : (Int × Int)) : Option Int :=
 match x_ with
 | (v2, v3) => br (decide (v3 < (↑p0.length : Int)))
  (bd (at? p0 v3) fun x4 =>
  br (x4.From == p1)
   (bd (d_xbt x4.Size 1 6) fun x5 =>
   jn (d_xcu_j2 L1 v2 v3 x4) x5)
   (jn (d_xcu_j2 L1 v2 v3 x4) false))
  (jn (d_xcu_j4) v2)
def d_xcu (p0 : (List GParty)) (p1 : Int) : Option Int :=
 loopN (d_xcu_l1 p0 p1) big (0, 0)
def gf_xcu : GF := y_xcu.gf rfl rfl (fun a => d_xcu a.1 a.2.1) (fun a => by kernel_rfl)
def y_xcv : YF := ⟨[], [.v (.st 1), .v (.st 7), .v (.l (.st 2)), .v .i, .v .i], [], .ret [.b], [.tmp 10],
 .seq (q1 [qu 5 0, qu 6 1, qB 10 false] [2, 3, 4, 5, 6]) (.join [(false, 10, .one, [.val .b none])] (.dreg (qd 0 [qn [qL 11 7 6, qc 12 gf_xca rfl [11], qm 13 12],
 qt 13 [qo 14 5 6, ql 15 14, qL 16 9 5, qm 17 2, qm 18 3, qm 19 4]] (.op 9 (some (13, true)) [14] (.call 20 gf_xch [] rfl [(.tmp 16), (.tmp 17), (.tmp 18), (.tmp 19)])
 (qd 10 [qt 13 [qc 21 gf_xci rfl [15, 20]],
 qn [qq 22 13 21, qm 23 22],
 qt 23 [qo 24 6 6, qL 25 1 24]] (qd 16 [qt 23 [qm 27 2, qm 28 3]] (.op 15 (some (23, true)) [] (.call 26 gf_xco [] rfl [(.tmp 25)])
 (qd 18 [qt 23 [qc 29 gf_xcr rfl [27, 28], qc 30 gf_xcs rfl [26, 29]],
 qn [qq 31 23 30, qm 32 31],
 qt 32 [qo 33 0 6, qo 34 2 33, ql 35 34, qm 36 2, qm 37 3]] (.op 27 (some (32, true)) [34] (.call 38 gf_xct [] rfl [(.tmp 36), (.tmp 37)])
 (qd 28 [qt 32 [qb 39 .eql 35 38],
 qn [qq 40 32 39, qm 41 40],
 qt 41 [qo 42 0 6, qo 43 4 42, ql 44 43, qm 45 2, qm 46 3]] (.op 36 (some (41, true)) [43] (.call 47 gf_xcu [] rfl [(.tmp 45), (.tmp 46)])
 (qd 37 [qt 41 [qb 48 .eql 44 47],
 qn [qq 49 41 48, qa 10 49]] .nil)))))))))) [10]) (.ret))⟩
def d_xcv_j1 (v9 : Bool) : Option Bool :=
 some v9
def d_xcv (p0 : GRules) (p1 : GCabin) (p2 : (List GParty)) (p3 : Int) (p4 : Int) : Option Bool :=
 bd (d_xca p1) fun x1 =>
 br x1
  (bd (d_xch p0 p2 p3 p4) fun x2 =>
  bd (d_xci p1.Row x2) fun x3 =>
  br x3
   (bd (d_xco p1.Wheel) fun x4 =>
   bd (d_xcr p2 p3) fun x5 =>
   bd (d_xcs x4 x5) fun x6 =>
   br x6
    (bd (d_xct p2 p3) fun x7 =>
    br (p1.Seats.Held == x7)
     (bd (d_xcu p2 p3) fun x8 =>
     jn (d_xcv_j1) (p1.Seats.Tied == x8))
     (jn (d_xcv_j1) false))
    (jn (d_xcv_j1) false))
   (jn (d_xcv_j1) false))
  (jn (d_xcv_j1) false)
def gf_xcv : GF := y_xcv.gf rfl rfl (fun a => d_xcv a.1 a.2.1 a.2.2.1 a.2.2.2.1 a.2.2.2.2.1) (fun a => by kernel_rfl)
def y_xcw : YF := ⟨[], [.v (.l .i), .v .i], [], .ret [.i], [.tmp 4],
 .seq (q1 [qK 4 0] [0, 1]) (.join [] (.seq (q1 [qm 6 0, qz 7 6, qk 8 0] [0, 1, 7, 8]) (.block 0 (.loop [(false, 8, .one, [.val .i none])] (.seq (q1 [qb 9 .lss 8 7] [0, 1, 7, 8, 9]) (.seq (.cond 9 [0, 1, 7, 8] [] (.skip) (.exit 0)) (.seq (.block 1 (.seq (q1 [qm 10 8, qa 5 10] [0, 1, 5, 7, 8]) (.seq (q1 [qm 11 1, qm 12 0, qm 13 5, qe 14 .i 12 13, ql 15 14, qb 16 .eql 11 15] [0, 1, 5, 7, 8, 16]) (.cond 16 [5] [0, 1, 7, 8] (.seq (q1 [qm 17 5, qa 4 17] [4]) (.ret)) (.skip))))) (q1 [qi 18 .add 8 1, qm 8 18] [0, 1, 7, 8]))))))) (.seq (q1 [qK 4 (-1)] [4]) (.ret)))⟩
def d_xcw_j2 (_ : PUnit) : Option Int :=
 some (-1)
def d_xcw_l1 (p0 : (List Int)) (p1 : Int) (L1 : Int → Option Int) (v2 : Int) : Option Int :=
 br (decide (v2 < (↑p0.length : Int)))
  (bd (at? p0 v2) fun x3 =>
  br (p1 == x3)
   (some v2)
   (L1 (w64 (v2 + 1))))
  (jn (d_xcw_j2) ())
def d_xcw (p0 : (List Int)) (p1 : Int) : Option Int :=
 loopN (d_xcw_l1 p0 p1) big 0
def gf_xcw : GF := y_xcw.gf rfl rfl (fun a => d_xcw a.1 a.2.1) (fun a => by kernel_rfl)
def y_xcx : YF := ⟨[], [.v (.l .i), .v .i], [], .ret [.b], [.tmp 4],
 .seq (q1 [qB 4 false] [0, 1]) (.seq (q1 [qm 5 0, qm 6 1, qc 7 gf_xcw rfl [5, 6], qi 8 .geq 7 0, qa 4 8] [4]) (.ret))⟩
def d_xcx (p0 : (List Int)) (p1 : Int) : Option Bool :=
 bd (d_xcw p0 p1) fun x1 =>
 some (decide (x1 ≥ 0))
def gf_xcx : GF := y_xcx.gf rfl rfl (fun a => d_xcx a.1 a.2.1) (fun a => by kernel_rfl)
def y_xcy : YF := ⟨[], [.v (.st 8)], [], .ret [.b], [.tmp 2],
 .seq (q1 [qu 1 0, qB 2 false] [1]) (.seq (q1 [qo 14 0 1, qo 15 0 14, ql 16 15, qz 17 16, qa 3 17] [1, 3]) (.seq (.join [(false, 49, .one, [.val .b none])] (qr [qn [qo 18 0 1, qL 19 9 18, qc 20 gf_xbu rfl [19], qx 21 20, qm 22 21],
 qf 22 [qo 23 9 1, ql 24 23, .call 25 gf_xbt [] rfl [.tmp 24, qj 0, qj 1000000], qx 26 25],
 qn [qp 27 22 26, qm 28 27],
 qf 28 [qo 29 10 1, ql 30 29, .call 31 gf_xbt [] rfl [.tmp 30, qj 1, qj 1000001], qx 32 31],
 qn [qp 33 28 32, qm 34 33],
 qf 34 [qo 35 12 1, ql 36 35, qz 37 36, qm 38 3, qb 39 .neq 37 38],
 qn [qp 40 34 39, qm 41 40],
 qf 41 [qo 42 14 1, ql 43 42, qz 44 43, qo 45 0 1, qo 46 8 45, ql 47 46, qb 48 .neq 44 47],
 qn [qp 49 41 48]] [1, 3, 49]) (.cond 49 [] [1, 3] (.seq (q1 [qB 2 false] [2]) (.ret)) (.skip))) (.seq (.seq (q1 [qo 50 11 1, ql 51 50, qz 52 51, qi 53 .gtr 52 40] [1, 3, 53]) (.cond 53 [] [1, 3] (.seq (q1 [qB 2 false] [2]) (.ret)) (.skip))) (.join [] (.seq (q1 [qo 54 11 1, ql 55 54, qz 56 55, qk 57 0] [1, 3, 55, 56, 57]) (.block 0 (.loop [(false, 57, .one, [.val .i none])] (.seq (q1 [qb 58 .lss 57 56] [1, 3, 55, 56, 57, 58]) (.seq (.cond 58 [1, 3, 55, 56, 57] [1, 3] (.skip) (.exit 0)) (.join [] (.block 1 (.seq (q1 [qm 59 57, qe 60 (.st 2) 55 57, qL 61 10 60, .alloc 5 [.int .i64 0, .int .i64 0, .int .i64 0, .int .i64 0, .int .i64 0, .int .i64 0, .int .i64 0, .int .i64 0, .int .i64 0, .int .i64 0], qa 4 59, qw 10 5 61] [1, 3, 4, 5, 55, 56, 57]) (.seq (.join [(false, 91, .one, [.val .b none])] (.dreg (qd 0 [qn [qo 62 0 1, qL 63 9 62, qL 64 10 5, qo 65 9 1, ql 66 65, qc 67 gf_xbw rfl [63, 64, 66], qx 68 67, qm 69 68],
 qf 69 [qo 70 6 5, ql 71 70, qo 72 10 1, ql 73 72, qb 74 .geq 71 73],
 qn [qp 75 69 74, qm 76 75],
 qf 76 [qm 77 4, qi 78 .gtr 77 0, qm 79 78],
 qt 79 [qo 80 11 1, ql 81 80, qm 82 4, qi 83 .sub 82 1, qe 84 (.st 2) 81 83, qo 85 0 84, ql 86 85, qo 87 0 5, ql 88 87, qb 89 .geq 86 88],
 qf 76 [qq 90 79 89],
 qn [qp 91 76 90]] .nil) [1, 3, 4, 5, 55, 56, 57, 91]) (.cond 91 [] [1, 3, 4, 5, 55, 56, 57] (.seq (q1 [qB 2 false] [2]) (.ret)) (.skip))) (.seq (q1 [qo 92 11 1, ql 93 92, qm 94 4, .sub 95 (.st 2) (.tmp 93) none (some (.tmp 94)), qz 96 95, qk 97 0] [1, 3, 5, 55, 56, 57, 95, 96, 97]) (.block 2 (.loop [(false, 97, .one, [.val .i none])] (.seq (q1 [qb 98 .lss 97 96] [1, 3, 5, 55, 56, 57, 95, 96, 97, 98]) (.seq (.cond 98 [1, 3, 5, 55, 56, 57, 95, 96, 97] [1, 3, 55, 56, 57] (.skip) (.exit 2)) (.seq (.block 3 (.seq (q1 [qe 99 (.st 2) 95 97, qL 100 10 99, .alloc 7 [.int .i64 0, .int .i64 0, .int .i64 0, .int .i64 0, .int .i64 0, .int .i64 0, .int .i64 0, .int .i64 0, .int .i64 0, .int .i64 0], qw 10 7 100] [1, 3, 5, 7, 55, 56, 57, 95, 96, 97]) (.join [(false, 133, .one, [.val .b none])] (qr [qn [qo 101 6 5, ql 102 101, qo 103 6 7, ql 104 103, qb 105 .eql 102 104, qm 106 105],
 qf 106 [qo 107 6 5, ql 108 107, qo 109 6 7, ql 110 109, qb 111 .lss 108 110, qm 112 111],
 qt 112 [qo 113 5 5, ql 114 113, qo 115 5 7, ql 116 115, qb 117 .gtr 114 116],
 qf 106 [qq 118 112 117],
 qn [qp 119 106 118, qm 120 119],
 qf 120 [qo 121 6 7, ql 122 121, qo 123 6 5, ql 124 123, qb 125 .lss 122 124, qm 126 125],
 qt 126 [qo 127 5 7, ql 128 127, qo 129 5 5, ql 130 129, qb 131 .gtr 128 130],
 qf 120 [qq 132 126 131],
 qn [qp 133 120 132]] [1, 3, 5, 55, 56, 57, 95, 96, 97, 133]) (.cond 133 [] [1, 3, 5, 55, 56, 57, 95, 96, 97] (.seq (q1 [qB 2 false] [2]) (.ret)) (.skip))))) (q1 [qi 134 .add 97 1, qm 97 134] [1, 3, 5, 55, 56, 57, 95, 96, 97])))))))))) (q1 [qi 135 .add 57 1, qm 57 135] [1, 3, 55, 56, 57]))))))) (.join [] (.seq (q1 [qo 136 12 1, ql 137 136, qz 138 137, qk 139 0] [1, 3, 137, 138, 139]) (.block 4 (.loop [(false, 139, .one, [.val .i none])] (.seq (q1 [qb 140 .lss 139 138] [1, 3, 137, 138, 139, 140]) (.seq (.cond 140 [1, 3, 137, 138, 139] [1, 3] (.skip) (.exit 4)) (.seq (.block 5 (.seq (q1 [qm 141 139, qe 142 (.st 7) 137 139, qL 143 7 142, .alloc 9 [.int .i64 0, .int .i64 0, .int .i64 0, .int .i64 0, .int .i64 0, .nil, .nil], .nils [(.cell 9 5, (.st 4)), (.cell 9 6, (.l (.st 5)))], qa 8 141, qw 7 9 143] [1, 3, 8, 9, 137, 138, 139]) (.join [(false, 175, .one, [.val .b none])] (.dreg (qd 0 [qn [qo 144 0 9, qo 145 0 144, ql 146 145, qo 147 0 1, qo 148 0 147, ql 149 148, qm 150 8, qe 151 .i 149 150, ql 152 151, qb 153 .neq 146 152, qm 154 153],
 qf 154 [qo 155 11 1, ql 156 155, qm 157 8]] (qd 15 [qf 154 [qo 159 0 1, qo 160 2 159, ql 161 160]] (.op 14 (some (154, false)) [160] (.call 158 gf_xbx [] rfl [(.tmp 156), (.tmp 157)])
 (qd 18 [qf 154 [qb 162 .gtr 158 161],
 qn [qp 163 154 162, qm 164 163],
 qf 164 [qo 165 0 1, qL 166 9 165, qL 167 7 9, qo 168 11 1, ql 169 168, qm 170 8, qo 171 9 1, ql 172 171, qc 173 gf_xcv rfl [166, 167, 169, 170, 172], qx 174 173],
 qn [qp 175 164 174]] .nil)))) [1, 3, 137, 138, 139, 175]) (.cond 175 [] [1, 3, 137, 138, 139] (.seq (q1 [qB 2 false] [2]) (.ret)) (.skip))))) (q1 [qi 176 .add 139 1, qm 139 176] [1, 3, 137, 138, 139]))))))) (.join [] (.seq (q1 [qo 177 13 1, ql 178 177, qz 179 178, qk 180 0] [1, 3, 178, 179, 180]) (.block 6 (.loop [(false, 180, .one, [.val .i none])] (.seq (q1 [qb 181 .lss 180 179] [1, 3, 178, 179, 180, 181]) (.seq (.cond 181 [1, 3, 178, 179, 180] [1, 3] (.skip) (.exit 6)) (.seq (.block 7 (.seq (q1 [qm 182 180, qe 183 .i 178 180, ql 184 183, qa 10 182, qa 11 184] [1, 3, 10, 11, 178, 179, 180]) (.join [(false, 196, .one, [.val .b none])] (qr [qn [qm 185 11, qm 186 3, qc 187 gf_xbv rfl [185, 186], qx 188 187, qm 189 188],
 qf 189 [qo 190 13 1, ql 191 190, qm 192 10, .sub 193 .i (.tmp 191) none (some (.tmp 192)), qm 194 11, qc 195 gf_xcx rfl [193, 194]],
 qn [qp 196 189 195]] [1, 3, 178, 179, 180, 196]) (.cond 196 [] [1, 3, 178, 179, 180] (.seq (q1 [qB 2 false] [2]) (.ret)) (.skip))))) (q1 [qi 197 .add 180 1, qm 180 197] [1, 3, 178, 179, 180]))))))) (.join [] (.seq (q1 [qo 198 14 1, ql 199 198, qz 200 199, qk 201 0] [3, 199, 200, 201]) (.block 8 (.loop [(false, 201, .one, [.val .i none])] (.seq (q1 [qb 202 .lss 201 200] [3, 199, 200, 201, 202]) (.seq (.cond 202 [3, 199, 200, 201] [] (.skip) (.exit 8)) (.seq (.block 9 (.seq (q1 [qe 203 .i 199 201, ql 204 203, qa 13 204] [3, 13, 199, 200, 201]) (.seq (q1 [qm 205 13, qm 206 3, qi 207 .sub 206 1, .call 208 gf_xbt [] rfl [.tmp 205, qj (-1), .tmp 207], qx 209 208] [3, 199, 200, 201, 209]) (.cond 209 [] [3, 199, 200, 201] (.seq (q1 [qB 2 false] [2]) (.ret)) (.skip))))) (q1 [qi 210 .add 201 1, qm 201 210] [3, 199, 200, 201]))))))) (.seq (q1 [qB 2 true] [2]) (.ret)))))))))⟩
def d_xcy_j5 (L8 : Int → Option Bool) (v9 : Int) (v11 : Bool) : Option Bool :=
 br v11
  (some false)
  (L8 (w64 (v9 + 1)))
def d_xcy_j6 (L3 : Int → Option Bool) (v4 : Int) (_ : PUnit) : Option Bool :=
 L3 (w64 (v4 + 1))
def d_xcy_l4 (p0 : GHouse) (L3 : Int → Option Bool) (v4 : Int) (x5 : GParty) (L8 : Int → Option Bool) (v9 : Int) : Option Bool :=
 br (decide (v9 < (↑(List.take v4.toNat p0.Parties).length : Int)))
  (bd (at? (List.take v4.toNat p0.Parties) v9) fun x10 =>
  br (x5.Turn == x10.Turn)
   (jn (d_xcy_j5 L8 v9) true)
   (br (decide (x5.Turn < x10.Turn))
    (br (decide (x5.Since > x10.Since))
     (jn (d_xcy_j5 L8 v9) true)
     (br (decide (x10.Turn < x5.Turn))
      (jn (d_xcy_j5 L8 v9) (decide (x10.Since > x5.Since)))
      (jn (d_xcy_j5 L8 v9) false)))
    (br (decide (x10.Turn < x5.Turn))
     (jn (d_xcy_j5 L8 v9) (decide (x10.Since > x5.Since)))
     (jn (d_xcy_j5 L8 v9) false))))
  (jn (d_xcy_j6 L3 v4) ())
def d_xcy_j3 (p0 : GHouse) (L3 : Int → Option Bool) (v4 : Int) (x5 : GParty) (v7 : Bool) : Option Bool :=
 br v7
  (some false)
  (gd (0 ≤ v4 ∧ v4 ≤ (↑p0.Parties.length : Int)) (
  loopN (d_xcy_l4 p0 L3 v4 x5) big 0))
def d_xcy_j9 (L13 : Int → Option Bool) (v14 : Int) (v17 : Bool) : Option Bool :=
 br v17
  (some false)
  (L13 (w64 (v14 + 1)))
def d_xcy_j12 (L20 : Int → Option Bool) (v21 : Int) (v24 : Bool) : Option Bool :=
 br v24
  (some false)
  (L20 (w64 (v21 + 1)))
def d_xcy_j15 (_ : PUnit) : Option Bool :=
 some true
def d_xcy_l14 (p0 : GHouse) (L26 : Int → Option Bool) (v27 : Int) : Option Bool :=
 br (decide (v27 < (↑p0.Jobs.length : Int)))
  (bd (at? p0.Jobs v27) fun x28 =>
  bd (d_xbt x28 (-1) (w64 ((↑p0.Rules.Seats.length : Int) - 1))) fun x29 =>
  br (!x29)
   (some false)
   (L26 (w64 (v27 + 1))))
  (jn (d_xcy_j15) ())
def d_xcy_j13 (p0 : GHouse) (_ : PUnit) : Option Bool :=
 loopN (d_xcy_l14 p0) big 0
def d_xcy_l11 (p0 : GHouse) (L20 : Int → Option Bool) (v21 : Int) : Option Bool :=
 br (decide (v21 < (↑p0.Todo.length : Int)))
  (bd (at? p0.Todo v21) fun x22 =>
  bd (d_xbv x22 (↑p0.Rules.Seats.length : Int)) fun x23 =>
  br (!x23)
   (jn (d_xcy_j12 L20 v21) true)
   (gd (0 ≤ v21 ∧ v21 ≤ (↑p0.Todo.length : Int)) (
   bd (d_xcx (List.take v21.toNat p0.Todo) x22) fun x25 =>
   jn (d_xcy_j12 L20 v21) x25)))
  (jn (d_xcy_j13 p0) ())
def d_xcy_j10 (p0 : GHouse) (_ : PUnit) : Option Bool :=
 loopN (d_xcy_l11 p0) big 0
def d_xcy_l8 (p0 : GHouse) (L13 : Int → Option Bool) (v14 : Int) : Option Bool :=
 br (decide (v14 < (↑p0.Cabins.length : Int)))
  (bd (at? p0.Cabins v14) fun x15 =>
  bd (at? p0.Rules.Seats v14) fun x16 =>
  br (x15.Seats.Total != x16)
   (jn (d_xcy_j9 L13 v14) true)
   (bd (d_xbx p0.Parties v14) fun x18 =>
   br (decide (x18 > p0.Rules.Room))
    (jn (d_xcy_j9 L13 v14) true)
    (bd (d_xcv p0.Rules x15 p0.Parties v14 p0.Now) fun x19 =>
    jn (d_xcy_j9 L13 v14) (!x19))))
  (jn (d_xcy_j10 p0) ())
def d_xcy_j7 (p0 : GHouse) (_ : PUnit) : Option Bool :=
 loopN (d_xcy_l8 p0) big 0
def d_xcy_l2 (p0 : GHouse) (L3 : Int → Option Bool) (v4 : Int) : Option Bool :=
 br (decide (v4 < (↑p0.Parties.length : Int)))
  (bd (at? p0.Parties v4) fun x5 =>
  bd (d_xbw p0.Rules x5 p0.Now) fun x6 =>
  br (!x6)
   (jn (d_xcy_j3 p0 L3 v4 x5) true)
   (br (decide (x5.Turn ≥ p0.Turn))
    (jn (d_xcy_j3 p0 L3 v4 x5) true)
    (br (decide (v4 > 0))
     (bd (at? p0.Parties (w64 (v4 - 1))) fun x12 =>
     jn (d_xcy_j3 p0 L3 v4 x5) (decide (x12.Id ≥ x5.Id)))
     (jn (d_xcy_j3 p0 L3 v4 x5) false))))
  (jn (d_xcy_j7 p0) ())
def d_xcy_j1 (p0 : GHouse) (v2 : Bool) : Option Bool :=
 br v2
  (some false)
  (br (decide ((↑p0.Parties.length : Int) > 40))
   (some false)
   (loopN (d_xcy_l2 p0) big 0))
def d_xcy (p0 : GHouse) : Option Bool :=
 bd (d_xbu p0.Rules) fun x1 =>
 br (!x1)
  (jn (d_xcy_j1 p0) true)
  (bd (d_xbt p0.Now 0 1000000) fun x30 =>
  br (!x30)
   (jn (d_xcy_j1 p0) true)
   (bd (d_xbt p0.Turn 1 1000001) fun x31 =>
   br (!x31)
    (jn (d_xcy_j1 p0) true)
    (br ((↑p0.Cabins.length : Int) != (↑p0.Rules.Seats.length : Int))
     (jn (d_xcy_j1 p0) true)
     (jn (d_xcy_j1 p0) ((↑p0.Jobs.length : Int) != p0.Rules.Crew)))))
def gf_xcy : GF := y_xcy.gf rfl rfl (fun a => d_xcy a.1) (fun a => by kernel_rfl)
def d_impl_ReqOk_1 (p0 : Int) : Option Bool :=
 bd (d_xbt p0 0 9999) fun x1 =>
 some x1
def y_xcz : YF := ⟨[], [.v (.l .i), .v (.l .i)], [], .ret [.b], [.tmp 4],
 .seq (q1 [qB 4 false] [0, 1]) (.seq (.seq (q1 [qm 6 0, qz 7 6, qm 8 1, qz 9 8, qb 10 .neq 7 9] [0, 1, 10]) (.cond 10 [] [0, 1] (.seq (q1 [qB 4 false] [4]) (.ret)) (.skip))) (.join [] (.seq (q1 [qK 5 0] [0, 1, 5]) (.block 0 (.loop [(false, 5, .one, [.val .i none])] (.seq (.seq (q1 [qm 11 5, qm 12 0, qz 13 12, qb 14 .lss 11 13] [0, 1, 5, 14]) (.cond 14 [0, 1, 5] [] (.skip) (.exit 0))) (.seq (.block 1 (.seq (.dreg (qd 0 [qn [qm 17 0, qm 18 5, qe 19 .i 17 18, ql 20 19, qm 21 1, qm 22 5, qe 23 .i 21 22, ql 24 23, qb 25 .neq 20 24]] .nil) [0, 1, 5, 25]) (.cond 25 [] [0, 1, 5] (.seq (q1 [qB 4 false] [4]) (.ret)) (.skip)))) (q1 [qm 15 5, qi 16 .add 15 1, qa 5 16] [0, 1, 5])))))) (.seq (q1 [qB 4 true] [4]) (.ret))))⟩
def d_xcz_j2 (_ : PUnit) : Option Bool :=
 some true
def d_xcz_l1 (p0 : (List Int)) (p1 : (List Int)) (L1 : Int → Option Bool) (v2 : Int) : Option Bool :=
 br (decide (v2 < (↑p0.length : Int)))
  (bd (at? p0 v2) fun x3 =>
  bd (at? p1 v2) fun x4 =>
  br (x3 != x4)
   (some false)
   (L1 (w64 (v2 + 1))))
  (jn (d_xcz_j2) ())
def d_xcz (p0 : (List Int)) (p1 : (List Int)) : Option Bool :=
 br ((↑p0.length : Int) != (↑p1.length : Int))
  (some false)
  (loopN (d_xcz_l1 p0 p1) big 0)
def gf_xcz : GF := y_xcz.gf rfl rfl (fun a => d_xcz a.1 a.2.1) (fun a => by kernel_rfl)
def y_xc0 : YF := ⟨[], [.v (.st 1), .v (.st 1)], [], .ret [.b], [.tmp 4],
 .seq (q1 [qu 2 0, qu 3 1, qB 4 false] [2, 3]) (.seq (.seq (q1 [qo 5 0 2, ql 6 5, qo 7 0 3, ql 8 7, qc 9 gf_xcz rfl [6, 8], qx 10 9] [2, 3, 10]) (.cond 10 [] [2, 3] (.seq (q1 [qB 4 false] [4]) (.ret)) (.skip))) (.seq (.seq (q1 [qo 11 1 2, ql 12 11, qo 13 1 3, ql 14 13, qb 15 .neq 12 14] [2, 3, 15]) (.cond 15 [] [2, 3] (.seq (q1 [qB 4 false] [4]) (.ret)) (.skip))) (.seq (.seq (q1 [qo 16 2 2, ql 17 16, qo 18 2 3, ql 19 18, qb 20 .neq 17 19] [2, 3, 20]) (.cond 20 [] [2, 3] (.seq (q1 [qB 4 false] [4]) (.ret)) (.skip))) (.seq (.seq (q1 [qo 21 3 2, ql 22 21, qo 23 3 3, ql 24 23, qb 25 .neq 22 24] [2, 3, 25]) (.cond 25 [] [2, 3] (.seq (q1 [qB 4 false] [4]) (.ret)) (.skip))) (.seq (.seq (q1 [qo 26 4 2, ql 27 26, qo 28 4 3, ql 29 28, qb 30 .neq 27 29] [2, 3, 30]) (.cond 30 [] [2, 3] (.seq (q1 [qB 4 false] [4]) (.ret)) (.skip))) (.seq (.seq (q1 [qo 31 5 2, ql 32 31, qo 33 5 3, ql 34 33, qb 35 .neq 32 34] [2, 3, 35]) (.cond 35 [] [2, 3] (.seq (q1 [qB 4 false] [4]) (.ret)) (.skip))) (.seq (.seq (q1 [qo 36 6 2, ql 37 36, qo 38 6 3, ql 39 38, qb 40 .neq 37 39] [2, 3, 40]) (.cond 40 [] [2, 3] (.seq (q1 [qB 4 false] [4]) (.ret)) (.skip))) (.seq (.seq (q1 [qo 41 7 2, ql 42 41, qo 43 7 3, ql 44 43, qb 45 .neq 42 44] [2, 3, 45]) (.cond 45 [] [2, 3] (.seq (q1 [qB 4 false] [4]) (.ret)) (.skip))) (.seq (.seq (q1 [qo 46 8 2, ql 47 46, qo 48 8 3, ql 49 48, qb 50 .neq 47 49] [50]) (.cond 50 [] [] (.seq (q1 [qB 4 false] [4]) (.ret)) (.skip))) (.seq (q1 [qB 4 true] [4]) (.ret)))))))))))⟩
def d_xc0 (p0 : GRules) (p1 : GRules) : Option Bool :=
 bd (d_xcz p0.Seats p1.Seats) fun x1 =>
 br (!x1)
  (some false)
  (br (p0.Tiers != p1.Tiers)
   (some false)
   (br (p0.Room != p1.Room)
    (some false)
    (br (p0.Size != p1.Size)
     (some false)
     (br (p0.Period != p1.Period)
      (some false)
      (br (p0.Window != p1.Window)
       (some false)
       (br (p0.Rest != p1.Rest)
        (some false)
        (br (p0.Tries != p1.Tries)
         (some false)
         (br (p0.Crew != p1.Crew)
          (some false)
          (some true)))))))))
def gf_xc0 : GF := y_xc0.gf rfl rfl (fun a => d_xc0 a.1 a.2.1) (fun a => by kernel_rfl)
def y_xc1 : YF := ⟨[], [.v (.st 2), .v (.st 2)], [], .ret [.b], [.tmp 4],
 .seq (q1 [qu 2 0, qu 3 1, qB 4 false] [2, 3]) (.seq (.seq (q1 [qo 5 0 2, ql 6 5, qo 7 0 3, ql 8 7, qb 9 .neq 6 8] [2, 3, 9]) (.cond 9 [] [2, 3] (.seq (q1 [qB 4 false] [4]) (.ret)) (.skip))) (.seq (.seq (q1 [qo 10 1 2, ql 11 10, qo 12 1 3, ql 13 12, qb 14 .neq 11 13] [2, 3, 14]) (.cond 14 [] [2, 3] (.seq (q1 [qB 4 false] [4]) (.ret)) (.skip))) (.seq (.seq (q1 [qo 15 2 2, ql 16 15, qo 17 2 3, ql 18 17, qb 19 .neq 16 18] [2, 3, 19]) (.cond 19 [] [2, 3] (.seq (q1 [qB 4 false] [4]) (.ret)) (.skip))) (.seq (.seq (q1 [qo 20 3 2, ql 21 20, qo 22 3 3, ql 23 22, qb 24 .neq 21 23] [2, 3, 24]) (.cond 24 [] [2, 3] (.seq (q1 [qB 4 false] [4]) (.ret)) (.skip))) (.seq (.seq (q1 [qo 25 4 2, ql 26 25, qo 27 4 3, ql 28 27, qb 29 .neq 26 28] [2, 3, 29]) (.cond 29 [] [2, 3] (.seq (q1 [qB 4 false] [4]) (.ret)) (.skip))) (.seq (.seq (q1 [qo 30 5 2, ql 31 30, qo 32 5 3, ql 33 32, qb 34 .neq 31 33] [2, 3, 34]) (.cond 34 [] [2, 3] (.seq (q1 [qB 4 false] [4]) (.ret)) (.skip))) (.seq (.seq (q1 [qo 35 6 2, ql 36 35, qo 37 6 3, ql 38 37, qb 39 .neq 36 38] [2, 3, 39]) (.cond 39 [] [2, 3] (.seq (q1 [qB 4 false] [4]) (.ret)) (.skip))) (.seq (.seq (q1 [qo 40 7 2, ql 41 40, qo 42 7 3, ql 43 42, qb 44 .neq 41 43] [2, 3, 44]) (.cond 44 [] [2, 3] (.seq (q1 [qB 4 false] [4]) (.ret)) (.skip))) (.seq (.seq (q1 [qo 45 8 2, ql 46 45, qo 47 8 3, ql 48 47, qb 49 .neq 46 48] [2, 3, 49]) (.cond 49 [] [2, 3] (.seq (q1 [qB 4 false] [4]) (.ret)) (.skip))) (.seq (.seq (q1 [qo 50 9 2, ql 51 50, qo 52 9 3, ql 53 52, qb 54 .neq 51 53] [54]) (.cond 54 [] [] (.seq (q1 [qB 4 false] [4]) (.ret)) (.skip))) (.seq (q1 [qB 4 true] [4]) (.ret))))))))))))⟩
def d_xc1 (p0 : GParty) (p1 : GParty) : Option Bool :=
 br (p0.Id != p1.Id)
  (some false)
  (br (p0.Cabin != p1.Cabin)
   (some false)
   (br (p0.From != p1.From)
    (some false)
    (br (p0.Size != p1.Size)
     (some false)
     (br (p0.Tier != p1.Tier)
      (some false)
      (br (p0.Since != p1.Since)
       (some false)
       (br (p0.Turn != p1.Turn)
        (some false)
        (br (p0.State != p1.State)
         (some false)
         (br (p0.Until != p1.Until)
          (some false)
          (br (p0.Asked != p1.Asked)
           (some false)
           (some true))))))))))
def gf_xc1 : GF := y_xc1.gf rfl rfl (fun a => d_xc1 a.1 a.2.1) (fun a => by kernel_rfl)
def y_xc2 : YF := ⟨[], [.v (.l (.st 2)), .v (.l (.st 2))], [], .ret [.b], [.tmp 4],
 .seq (q1 [qB 4 false] [0, 1]) (.seq (.seq (q1 [qm 6 0, qz 7 6, qm 8 1, qz 9 8, qb 10 .neq 7 9] [0, 1, 10]) (.cond 10 [] [0, 1] (.seq (q1 [qB 4 false] [4]) (.ret)) (.skip))) (.join [] (.seq (q1 [qK 5 0] [0, 1, 5]) (.block 0 (.loop [(false, 5, .one, [.val .i none])] (.seq (.seq (q1 [qm 11 5, qm 12 0, qz 13 12, qb 14 .lss 11 13] [0, 1, 5, 14]) (.cond 14 [0, 1, 5] [] (.skip) (.exit 0))) (.seq (.block 1 (.seq (.dreg (qd 0 [qn [qm 17 0, qm 18 5, qe 19 (.st 2) 17 18, qL 20 10 19, qm 21 1, qm 22 5, qe 23 (.st 2) 21 22, qL 24 10 23, qc 25 gf_xc1 rfl [20, 24], qx 26 25]] .nil) [0, 1, 5, 26]) (.cond 26 [] [0, 1, 5] (.seq (q1 [qB 4 false] [4]) (.ret)) (.skip)))) (q1 [qm 15 5, qi 16 .add 15 1, qa 5 16] [0, 1, 5])))))) (.seq (q1 [qB 4 true] [4]) (.ret))))⟩
def d_xc2_j2 (_ : PUnit) : Option Bool :=
 some true
def d_xc2_l1 (p0 : (List GParty)) (p1 : (List GParty)) (L1 : Int → Option Bool) (v2 : Int) : Option Bool :=
 br (decide (v2 < (↑p0.length : Int)))
  (bd (at? p0 v2) fun x3 =>
  bd (at? p1 v2) fun x4 =>
  bd (d_xc1 x3 x4) fun x5 =>
  br (!x5)
   (some false)
   (L1 (w64 (v2 + 1))))
  (jn (d_xc2_j2) ())
def d_xc2 (p0 : (List GParty)) (p1 : (List GParty)) : Option Bool :=
 br ((↑p0.length : Int) != (↑p1.length : Int))
  (some false)
  (loopN (d_xc2_l1 p0 p1) big 0)
def gf_xc2 : GF := y_xc2.gf rfl rfl (fun a => d_xc2 a.1 a.2.1) (fun a => by kernel_rfl)
def y_xc3 : YF := ⟨[], [.v (.st 3), .v (.st 3)], [], .ret [.b], [.tmp 4],
 .seq (q1 [qu 2 0, qu 3 1, qB 4 false] [2, 3]) (.seq (.seq (q1 [qo 5 0 2, ql 6 5, qo 7 0 3, ql 8 7, qb 9 .neq 6 8] [2, 3, 9]) (.cond 9 [] [2, 3] (.seq (q1 [qB 4 false] [4]) (.ret)) (.skip))) (.seq (.seq (q1 [qo 10 1 2, ql 11 10, qo 12 1 3, ql 13 12, qb 14 .neq 11 13] [2, 3, 14]) (.cond 14 [] [2, 3] (.seq (q1 [qB 4 false] [4]) (.ret)) (.skip))) (.seq (.seq (q1 [qo 15 2 2, ql 16 15, qo 17 2 3, ql 18 17, qb 19 .neq 16 18] [2, 3, 19]) (.cond 19 [] [2, 3] (.seq (q1 [qB 4 false] [4]) (.ret)) (.skip))) (.seq (.seq (q1 [qo 20 3 2, ql 21 20, qo 22 3 3, ql 23 22, qb 24 .neq 21 23] [2, 3, 24]) (.cond 24 [] [2, 3] (.seq (q1 [qB 4 false] [4]) (.ret)) (.skip))) (.seq (.seq (q1 [qo 25 4 2, ql 26 25, qo 27 4 3, ql 28 27, qb 29 .neq 26 28] [29]) (.cond 29 [] [] (.seq (q1 [qB 4 false] [4]) (.ret)) (.skip))) (.seq (q1 [qB 4 true] [4]) (.ret)))))))⟩
def d_xc3 (p0 : GLedger) (p1 : GLedger) : Option Bool :=
 br (p0.Total != p1.Total)
  (some false)
  (br (p0.Free != p1.Free)
   (some false)
   (br (p0.Held != p1.Held)
    (some false)
    (br (p0.Sold != p1.Sold)
     (some false)
     (br (p0.Tied != p1.Tied)
      (some false)
      (some true)))))
def gf_xc3 : GF := y_xc3.gf rfl rfl (fun a => d_xc3 a.1 a.2.1) (fun a => by kernel_rfl)
def y_xc4 : YF := ⟨[], [.v (.st 4), .v (.st 4)], [], .ret [.b], [.tmp 4],
 .seq (q1 [qu 2 0, qu 3 1, qB 4 false] [2, 3]) (.seq (.seq (q1 [qo 5 0 2, ql 6 5, qo 7 0 3, ql 8 7, qb 9 .neq 6 8] [2, 3, 9]) (.cond 9 [] [2, 3] (.seq (q1 [qB 4 false] [4]) (.ret)) (.skip))) (.seq (.seq (q1 [qo 10 1 2, ql 11 10, qo 12 1 3, ql 13 12, qb 14 .neq 11 13] [2, 3, 14]) (.cond 14 [] [2, 3] (.seq (q1 [qB 4 false] [4]) (.ret)) (.skip))) (.seq (.seq (q1 [qo 15 2 2, ql 16 15, qo 17 2 3, ql 18 17, qb 19 .neq 16 18] [2, 3, 19]) (.cond 19 [] [2, 3] (.seq (q1 [qB 4 false] [4]) (.ret)) (.skip))) (.seq (.seq (q1 [qo 20 3 2, ql 21 20, qo 22 3 3, ql 23 22, qb 24 .neq 21 23] [24]) (.cond 24 [] [] (.seq (q1 [qB 4 false] [4]) (.ret)) (.skip))) (.seq (q1 [qB 4 true] [4]) (.ret))))))⟩
def d_xc4 (p0 : GEntry) (p1 : GEntry) : Option Bool :=
 br (p0.Level != p1.Level)
  (some false)
  (br (p0.Turn != p1.Turn)
   (some false)
   (br (p0.Id != p1.Id)
    (some false)
    (br (p0.Size != p1.Size)
     (some false)
     (some true))))
def gf_xc4 : GF := y_xc4.gf rfl rfl (fun a => d_xc4 a.1 a.2.1) (fun a => by kernel_rfl)
def y_xc5 : YF := ⟨[], [.v (.l (.st 4)), .v (.l (.st 4))], [], .ret [.b], [.tmp 4],
 .seq (q1 [qB 4 false] [0, 1]) (.seq (.seq (q1 [qm 6 0, qz 7 6, qm 8 1, qz 9 8, qb 10 .neq 7 9] [0, 1, 10]) (.cond 10 [] [0, 1] (.seq (q1 [qB 4 false] [4]) (.ret)) (.skip))) (.join [] (.seq (q1 [qK 5 0] [0, 1, 5]) (.block 0 (.loop [(false, 5, .one, [.val .i none])] (.seq (.seq (q1 [qm 11 5, qm 12 0, qz 13 12, qb 14 .lss 11 13] [0, 1, 5, 14]) (.cond 14 [0, 1, 5] [] (.skip) (.exit 0))) (.seq (.block 1 (.seq (.dreg (qd 0 [qn [qm 17 0, qm 18 5, qe 19 (.st 4) 17 18, qL 20 4 19, qm 21 1, qm 22 5, qe 23 (.st 4) 21 22, qL 24 4 23, qc 25 gf_xc4 rfl [20, 24], qx 26 25]] .nil) [0, 1, 5, 26]) (.cond 26 [] [0, 1, 5] (.seq (q1 [qB 4 false] [4]) (.ret)) (.skip)))) (q1 [qm 15 5, qi 16 .add 15 1, qa 5 16] [0, 1, 5])))))) (.seq (q1 [qB 4 true] [4]) (.ret))))⟩
def d_xc5_j2 (_ : PUnit) : Option Bool :=
 some true
def d_xc5_l1 (p0 : (List GEntry)) (p1 : (List GEntry)) (L1 : Int → Option Bool) (v2 : Int) : Option Bool :=
 br (decide (v2 < (↑p0.length : Int)))
  (bd (at? p0 v2) fun x3 =>
  bd (at? p1 v2) fun x4 =>
  bd (d_xc4 x3 x4) fun x5 =>
  br (!x5)
   (some false)
   (L1 (w64 (v2 + 1))))
  (jn (d_xc5_j2) ())
def d_xc5 (p0 : (List GEntry)) (p1 : (List GEntry)) : Option Bool :=
 br ((↑p0.length : Int) != (↑p1.length : Int))
  (some false)
  (loopN (d_xc5_l1 p0 p1) big 0)
def gf_xc5 : GF := y_xc5.gf rfl rfl (fun a => d_xc5 a.1 a.2.1) (fun a => by kernel_rfl)
def y_xc6 : YF := ⟨[], [.v (.st 5), .v (.st 5)], [], .ret [.b], [.tmp 4],
 .seq (q1 [qu 2 0, qu 3 1, qB 4 false] [2, 3]) (.seq (.seq (q1 [qo 5 0 2, ql 6 5, qo 7 0 3, ql 8 7, qb 9 .neq 6 8] [2, 3, 9]) (.cond 9 [] [2, 3] (.seq (q1 [qB 4 false] [4]) (.ret)) (.skip))) (.seq (.seq (q1 [qo 10 1 2, ql 11 10, qo 12 1 3, ql 13 12, qb 14 .neq 11 13] [14]) (.cond 14 [] [] (.seq (q1 [qB 4 false] [4]) (.ret)) (.skip))) (.seq (q1 [qB 4 true] [4]) (.ret))))⟩
def d_xc6 (p0 : GPin) (p1 : GPin) : Option Bool :=
 br (p0.At != p1.At)
  (some false)
  (br (p0.Id != p1.Id)
   (some false)
   (some true))
def gf_xc6 : GF := y_xc6.gf rfl rfl (fun a => d_xc6 a.1 a.2.1) (fun a => by kernel_rfl)
def y_xc7 : YF := ⟨[], [.v (.l (.st 5)), .v (.l (.st 5))], [], .ret [.b], [.tmp 4],
 .seq (q1 [qB 4 false] [0, 1]) (.seq (.seq (q1 [qm 6 0, qz 7 6, qm 8 1, qz 9 8, qb 10 .neq 7 9] [0, 1, 10]) (.cond 10 [] [0, 1] (.seq (q1 [qB 4 false] [4]) (.ret)) (.skip))) (.join [] (.seq (q1 [qK 5 0] [0, 1, 5]) (.block 0 (.loop [(false, 5, .one, [.val .i none])] (.seq (.seq (q1 [qm 11 5, qm 12 0, qz 13 12, qb 14 .lss 11 13] [0, 1, 5, 14]) (.cond 14 [0, 1, 5] [] (.skip) (.exit 0))) (.seq (.block 1 (.seq (.dreg (qd 0 [qn [qm 17 0, qm 18 5, qe 19 (.st 5) 17 18, qL 20 2 19, qm 21 1, qm 22 5, qe 23 (.st 5) 21 22, qL 24 2 23, qc 25 gf_xc6 rfl [20, 24], qx 26 25]] .nil) [0, 1, 5, 26]) (.cond 26 [] [0, 1, 5] (.seq (q1 [qB 4 false] [4]) (.ret)) (.skip)))) (q1 [qm 15 5, qi 16 .add 15 1, qa 5 16] [0, 1, 5])))))) (.seq (q1 [qB 4 true] [4]) (.ret))))⟩
def d_xc7_j2 (_ : PUnit) : Option Bool :=
 some true
def d_xc7_l1 (p0 : (List GPin)) (p1 : (List GPin)) (L1 : Int → Option Bool) (v2 : Int) : Option Bool :=
 br (decide (v2 < (↑p0.length : Int)))
  (bd (at? p0 v2) fun x3 =>
  bd (at? p1 v2) fun x4 =>
  bd (d_xc6 x3 x4) fun x5 =>
  br (!x5)
   (some false)
   (L1 (w64 (v2 + 1))))
  (jn (d_xc7_j2) ())
def d_xc7 (p0 : (List GPin)) (p1 : (List GPin)) : Option Bool :=
 br ((↑p0.length : Int) != (↑p1.length : Int))
  (some false)
  (loopN (d_xc7_l1 p0 p1) big 0)
def gf_xc7 : GF := y_xc7.gf rfl rfl (fun a => d_xc7 a.1 a.2.1) (fun a => by kernel_rfl)
end
end Lv
