/-
  Printed: functions of the program as texts of the typed machine, as plain functions, and that the one is the other.
-/
import Derived.Test.YtifcpnfmfagidaaGreatKA
import Derived.KernelRfl
set_option linter.unusedVariables false
set_option linter.unusedSimpArgs false
set_option maxRecDepth 100000
namespace Lv
open Go (IntKind BinOp UnOp)
noncomputable section
open Y (YF qn qf qt qr q1 qd qm qa qo ql qL qb qi qx qp qq qc qz qe qk qK qB qw qu qj Kp wn wf wt w1 sw sq sr wm wM wo wO wl wL wk wK wz wZ wx wX wb wB wi wI wr wR wq wQ we wE wc wY wj wh cv ca cx cn ce bl)
def y_xd5 : YF := ⟨[], [.v .i], [], .ret [(.l .u)], [.tmp 2],
 sq [.as 2 (.k .nil), .nils [(.tmp 2 0, .u)]] [0] (.seq (sw 4 [wm 0, wc gf_xb7 rfl [4, qj 0, qj 2147483647], wX] [0, 6] (cn 6 [0] (sq [.as 2 (.k .nil), .nils [(.tmp 2 0, .u)]] [2] .ret))) (sq [.as 3 (.k .nil), .nils [(.tmp 3 0, .u)]] [0, 3] (.join [cv 0 .i, cv 3 (.l .u)] (bl 0 [cv 0 .i, cv 3 (.l .u)] (.seq (sw 7 [wm 0, wI .geq 128] (Kp 265) (ce 8 [0, 3] [0, 3] 0)) (.block 1 (sr [wn 9 [wm 3, wm 0, wI .rem 128, wI .add 128, wh (.cvI · .u8 (.tmp 12)), wh (.bslice · 1 .u [(0, (.tmp 13))]), wh (.app · .u true (.tmp 9) (.tmp 14))],
 qn [qa 3 15]] [0, 3] (qr [wn 16 [wm 0, wI .quo 128],
 qn [qa 0 17]] [0, 3]))))) (sr [wn 18 [wm 3, wm 0, wh (.cvI · .u8 (.tmp 19)), wh (.bslice · 1 .u [(0, (.tmp 20))]), wh (.app · .u true (.tmp 18) (.tmp 21))],
 qn [qa 2 22]] [2] .ret))))⟩
def d_xd5_j2 (x_ : (Int × (List UInt8))) : Option (List UInt8) :=
 match x_ with
 | (v5, v6) => gd (v6.length + [toB v5].length <= lim) (
 some (v6 ++ [toB v5]))
def d_xd5_l1 (L2 : (Int × (List UInt8)) -> Option (List UInt8)) (x_ : (Int × (List UInt8))) : Option (List UInt8) :=
 match x_ with
 | (v3, v4) => br (decide (v3 >= 128))
  (gd (v4.length + [toB (w64 (Int.tmod v3 128 + 128))].length <= lim) (
  L2 ((w64 (Int.tdiv v3 128), v4 ++ [toB (w64 (Int.tmod v3 128 + 128))]))))
  (jn (d_xd5_j2) (v3, v4))
def d_xd5 (p0 : Int) : Option (List UInt8) :=
 bd (d_xb7 p0 0 2147483647) fun x1 =>
 br (!x1)
  (some [])
  (loopN (d_xd5_l1) big (p0, []))
def gf_xd5 : GF := y_xd5.gf rfl rfl (fun a => d_xd5 a.1) (fun a => by kernel_rfl)
def y_xd6 : YF := ⟨[], [.v (.l .i)], [], .ret [.s], [.tmp 2],
 sq [.as 2 (.k (.str []))] [0] (sq [.as 3 (.k .nil), .nils [(.tmp 3 0, .u)]] [0, 3] (.join [cv 3 (.l .u)] (sw 6 [wm 0, wZ, wj 0] (Kp 456) (bl 0 [cv 3 (.l .u), cv 8 .i] (sq [qb 9 .lss 8 7] (Kp 968) (.seq (ce 9 (Kp 456) [3] 0) (.seq (.block 1 (sr [wn 10 [we .i 6 8, wL],
 qn [qa 5 11]] (Kp 488) (qr [wn 12 [wm 3, wm 5, wY gf_xd5 rfl, wh (.app · .u true (.tmp 12) (.tmp 14))],
 qn [qa 3 15]] (Kp 456)))) (q1 [qi 16 .add 8 1, qm 8 16] (Kp 456))))))) (sr [wn 17 [wm 3, wh (.cvBS · (.tmp 17))],
 qn [qa 2 18]] [2] .ret)))⟩
def d_xd6_j2 (v6 : (List UInt8)) : Option (List UInt8) :=
 some v6
def d_xd6_l1 (p0 : (List Int)) (L1 : ((List UInt8) × Int) -> Option (List UInt8)) (x_ : ((List UInt8) × Int)) : Option (List UInt8) :=
 match x_ with
 | (v2, v3) => br (decide (v3 < (↑p0.length : Int)))
  (bd (at? p0 v3) fun x4 =>
  bd (d_xd5 x4) fun x5 =>
  gd (List.length v2 + List.length x5 <= lim) (
  L1 ((v2 ++ x5, w64 (v3 + 1)))))
  (jn (d_xd6_j2) v2)
def d_xd6 (p0 : (List Int)) : Option (List UInt8) :=
 loopN (d_xd6_l1 p0) big ([], 0)
def gf_xd6 : GF := y_xd6.gf rfl rfl (fun a => d_xd6 a.1) (fun a => by kernel_rfl)
def y_xd7 : YF := ⟨[], [.v (.l .u)], [], .ret [.i], [.tmp 2],
 sq [qK 2 0] [0] (sq [qK 3 4294967295] [0, 3] (.join [cv 3 .i] (sw 8 [wm 0, wZ, wj 0] (Kp 1800) (bl 0 [cv 3 .i, cv 10 .i] (sq [qb 11 .lss 10 9] (Kp 3848) (.seq (ce 11 (Kp 1800) [3] 0) (.join [cv 3 .i] (.block 1 (sr [wn 12 [we .u 8 10, wL],
 qn [qa 5 13]] (Kp 1832) (sr [wn 14 [wm 3, wm 5, wh (.cvI · .i64 (.tmp 15)), wB .xor 14],
 qn [qa 3 17]] (Kp 1800) (sq [qK 6 0] (Kp 1864) (bl 2 [cv 3 .i, cv 6 .i] (.seq (sw 18 [wm 6, wI .lss 8] (Kp 526152) (ce 19 [3, 6, 8, 9, 10] (Kp 1800) 2)) (.join [cv 3 .i] (.block 3 (sr [wn 22 [wm 3, wI .and 1],
 qn [qa 7 23]] (Kp 1992) (sr [wn 24 [wm 3, wh (.bin · .num .shr (.tmp 24) (.k (.int .u64 1)))],
 qn [qa 3 25]] (Kp 1992) (sw 26 [wm 7, wI .eql 1] (Kp 134219592) (.cond 27 [3, 6, 8, 9, 10] (Kp 1864) (qr [wn 28 [wm 3, wI .xor 3988292384],
 qn [qa 3 29]] (Kp 1864)) .skip))))) (qr [wn 20 [wm 6, wI .add 1],
 qn [qa 6 21]] (Kp 1864))))))))) (q1 [qi 30 .add 10 1, qm 10 30] (Kp 1800))))))) (sr [wn 31 [wm 3, wI .xor 4294967295],
 qn [qa 2 32]] [2] .ret)))⟩
def d_xd7_j3 (L5 : (Int × Int) -> Option Int) (v7 : Int) (v8 : Int) : Option Int :=
 L5 ((v8, w64 (v7 + 1)))
def d_xd7_j4 (L1 : (Int × Int) -> Option Int) (v3 : Int) (v9 : Int) : Option Int :=
 L1 ((v9, w64 (v3 + 1)))
def d_xd7_l2 (L1 : (Int × Int) -> Option Int) (v3 : Int) (L5 : (Int × Int) -> Option Int) (x_ : (Int × Int)) : Option Int :=
 match x_ with
 | (v6, v7) => br (decide (v7 < 8))
  (br (andI v6 1 == 1)
   (jn (d_xd7_j3 L5 v7) (xorI (shrI v6 1) 3988292384))
   (jn (d_xd7_j3 L5 v7) (shrI v6 1)))
  (jn (d_xd7_j4 L1 v3) v6)
def d_xd7_j5 (v10 : Int) : Option Int :=
 some (xorI v10 4294967295)
def d_xd7_l1 (p0 : (List UInt8)) (L1 : (Int × Int) -> Option Int) (x_ : (Int × Int)) : Option Int :=
 match x_ with
 | (v2, v3) => br (decide (v3 < (↑p0.length : Int)))
  (bd (at? p0 v3) fun x4 =>
  loopN (d_xd7_l2 L1 v3) big ((xorI v2 (w64 (↑(UInt8.toNat x4) : Int)), 0)))
  (jn (d_xd7_j5) v2)
def d_xd7 (p0 : (List UInt8)) : Option Int :=
 loopN (d_xd7_l1 p0) big (4294967295, 0)
def gf_xd7 : GF := y_xd7.gf rfl rfl (fun a => d_xd7 a.1) (fun a => by kernel_rfl)
def y_xd8 : YF := ⟨[], [.m (.l .i), .v .i], [], .ret [.i], [.tmp 4],
 sq [qK 4 0] [0, 1] (.join [cv 0 (.l .i), cv 1 .i] (sq [qK 5 0] (Kp 35) (bl 0 [cv 0 (.l .i), cv 1 .i, cv 5 .i] (.seq (sw 6 [wM, wm 0, wZ, wB .lss 6] (Kp 547) (ce 9 (Kp 35) [0, 1] 0)) (.seq (.block 1 (.join [cv 0 (.l .i), cv 1 .i, cv 5 .i] (qr [wn 12 [wm 0, wm 5, wm 1, we .i 12 13],
 qn [qw 1 15 14]] (Kp 35)) (qr [wn 16 [wm 1, wI .add 1],
 qn [qa 1 17]] (Kp 35)))) (qr [wn 10 [wm 5, wI .add 1],
 qn [qa 5 11]] (Kp 35)))))) (sq [qm 18 1, qa 4 18] [0, 4] .ret))⟩
def d_xd8_j2 (L1 : ((List Int) × Int × Int) -> Option (Int × (List Int))) (x_ : ((List Int) × Int × Int)) : Option (Int × (List Int)) :=
 match x_ with
 | (v7, v8, v9) => L1 ((v7, w64 (v8 + 1), w64 (v9 + 1)))
def d_xd8_j3 (x_ : ((List Int) × Int)) : Option (Int × (List Int)) :=
 match x_ with
 | (v10, v11) => some (v11, v10)
def d_xd8_l1 (L1 : ((List Int) × Int × Int) -> Option (Int × (List Int))) (x_ : ((List Int) × Int × Int)) : Option (Int × (List Int)) :=
 match x_ with
 | (v2, v3, v4) => br (decide (v4 < (↑(List.length v2) : Int)))
  (bd (at? v2 v4) fun x5 =>
  bd (at? v2 v4) fun x6 =>
  jn (d_xd8_j2 L1) (List.set v2 v4.toNat v3, v3, v4))
  (jn (d_xd8_j3) (v2, v3))
def d_xd8 (p0 : (List Int)) (p1 : Int) : Option (Int × (List Int)) :=
 loopN (d_xd8_l1) big (p0, p1, 0)
def gf_xd8 : GF := y_xd8.gf rfl rfl (fun a => d_xd8 a.1 a.2.1) (fun a => by kernel_rfl)
def y_xd9 : YF := ⟨[], [.m (.st 1), .v .i], [], .ret [.i], [.tmp 4],
 sq [qu 2 0, qK 4 0] (Kp 7) (sr [wn 5 [wo 0 2, wL, wm 1, wc gf_xd8 rfl [6, 7]],
 qn [qa 1 8]] [0, 1] (sq [qm 9 1, qa 4 9] [0, 4] .ret))⟩
def d_xd9 (p0 : GRules) (p1 : Int) : Option (Int × GRules) :=
 bd (d_xd8 p0.Seats p1) fun x1 =>
 some (x1.fst, GRules.mk x1.snd p0.Tiers p0.Room p0.Size p0.Period p0.Window p0.Rest p0.Tries p0.Crew)
def gf_xd9 : GF := y_xd9.gf rfl rfl (fun a => d_xd9 a.1 a.2.1) (fun a => by kernel_rfl)
def y_xea : YF := ⟨[], [.m (.l (.st 2)), .v .i], [], .ret [.i], [.tmp 4],
 sq [qK 4 0] [0, 1] (.join [cv 0 (.l (.st 2)), cv 1 .i] (sq [qK 5 0] (Kp 35) (bl 0 [cv 0 (.l (.st 2)), cv 1 .i, cv 5 .i] (.seq (sw 6 [wM, wm 0, wZ, wB .lss 6] (Kp 547) (ce 9 (Kp 35) [0, 1] 0)) (.seq (.block 1 (.join [cv 0 (.l (.st 2)), cv 1 .i, cv 5 .i] (qr [wn 12 [wm 0, wm 5, wm 1, we (.st 2) 12 13, wO 0],
 qn [qw 1 16 14]] (Kp 35)) (sr [wn 17 [wm 1, wI .add 1],
 qn [qa 1 18]] (Kp 35) (.join [cv 0 (.l (.st 2)), cv 1 .i, cv 5 .i] (qr [wn 19 [wm 0, wm 5, wm 1, we (.st 2) 19 20, wO 1],
 qn [qw 1 23 21]] (Kp 35)) (sr [wn 24 [wm 1, wI .add 1],
 qn [qa 1 25]] (Kp 35) (.join [cv 0 (.l (.st 2)), cv 1 .i, cv 5 .i] (qr [wn 26 [wm 0, wm 5, wm 1, we (.st 2) 26 27, wO 2],
 qn [qw 1 30 28]] (Kp 35)) (sr [wn 31 [wm 1, wI .add 1],
 qn [qa 1 32]] (Kp 35) (.join [cv 0 (.l (.st 2)), cv 1 .i, cv 5 .i] (qr [wn 33 [wm 0, wm 5, wm 1, we (.st 2) 33 34, wO 3],
 qn [qw 1 37 35]] (Kp 35)) (sr [wn 38 [wm 1, wI .add 1],
 qn [qa 1 39]] (Kp 35) (.join [cv 0 (.l (.st 2)), cv 1 .i, cv 5 .i] (qr [wn 40 [wm 0, wm 5, wm 1, we (.st 2) 40 41, wO 4],
 qn [qw 1 44 42]] (Kp 35)) (sr [wn 45 [wm 1, wI .add 1],
 qn [qa 1 46]] (Kp 35) (.join [cv 0 (.l (.st 2)), cv 1 .i, cv 5 .i] (qr [wn 47 [wm 0, wm 5, wm 1, we (.st 2) 47 48, wO 5],
 qn [qw 1 51 49]] (Kp 35)) (sr [wn 52 [wm 1, wI .add 1],
 qn [qa 1 53]] (Kp 35) (.join [cv 0 (.l (.st 2)), cv 1 .i, cv 5 .i] (qr [wn 54 [wm 0, wm 5, wm 1, we (.st 2) 54 55, wO 6],
 qn [qw 1 58 56]] (Kp 35)) (sr [wn 59 [wm 1, wI .add 1],
 qn [qa 1 60]] (Kp 35) (.join [cv 0 (.l (.st 2)), cv 1 .i, cv 5 .i] (qr [wn 61 [wm 0, wm 5, wm 1, we (.st 2) 61 62, wO 7],
 qn [qw 1 65 63]] (Kp 35)) (sr [wn 66 [wm 1, wI .add 1],
 qn [qa 1 67]] (Kp 35) (.join [cv 0 (.l (.st 2)), cv 1 .i, cv 5 .i] (qr [wn 68 [wm 0, wm 5, wm 1, we (.st 2) 68 69, wO 8],
 qn [qw 1 72 70]] (Kp 35)) (sr [wn 73 [wm 1, wI .add 1],
 qn [qa 1 74]] (Kp 35) (.join [cv 0 (.l (.st 2)), cv 1 .i, cv 5 .i] (qr [wn 75 [wm 0, wm 5, wm 1, we (.st 2) 75 76, wO 9],
 qn [qw 1 79 77]] (Kp 35)) (qr [wn 80 [wm 1, wI .add 1],
 qn [qa 1 81]] (Kp 35)))))))))))))))))))))) (qr [wn 10 [wm 5, wI .add 1],
 qn [qa 5 11]] (Kp 35)))))) (sq [qm 82 1, qa 4 82] [0, 4] .ret))⟩
def d_xea_j11 (L1 : ((List GParty) × Int × Int) -> Option (Int × (List GParty))) (x_ : ((List GParty) × Int × Int)) : Option (Int × (List GParty)) :=
 match x_ with
 | (v52, v53, v54) => L1 ((v52, w64 (v53 + 1), w64 (v54 + 1)))
def d_xea_j10 (L1 : ((List GParty) × Int × Int) -> Option (Int × (List GParty))) (x_ : ((List GParty) × Int × Int)) : Option (Int × (List GParty)) :=
 match x_ with
 | (v47, v48, v49) => bd (at? v47 v49) fun x50 =>
 bd (at? v47 v49) fun x51 =>
 jn (d_xea_j11 L1) ((List.set v47 v49.toNat (GParty.mk x51.Id x51.Cabin x51.From x51.Size x51.Tier x51.Since x51.Turn x51.State x51.Until (w64 (v48 + 1))), w64 (v48 + 1), v49))
def d_xea_j9 (L1 : ((List GParty) × Int × Int) -> Option (Int × (List GParty))) (x_ : ((List GParty) × Int × Int)) : Option (Int × (List GParty)) :=
 match x_ with
 | (v42, v43, v44) => bd (at? v42 v44) fun x45 =>
 bd (at? v42 v44) fun x46 =>
 jn (d_xea_j10 L1) ((List.set v42 v44.toNat (GParty.mk x46.Id x46.Cabin x46.From x46.Size x46.Tier x46.Since x46.Turn x46.State (w64 (v43 + 1)) x46.Asked), w64 (v43 + 1), v44))
def d_xea_j8 (L1 : ((List GParty) × Int × Int) -> Option (Int × (List GParty))) (x_ : ((List GParty) × Int × Int)) : Option (Int × (List GParty)) :=
 match x_ with
 | (v37, v38, v39) => bd (at? v37 v39) fun x40 =>
 bd (at? v37 v39) fun x41 =>
 jn (d_xea_j9 L1) ((List.set v37 v39.toNat (GParty.mk x41.Id x41.Cabin x41.From x41.Size x41.Tier x41.Since x41.Turn (w64 (v38 + 1)) x41.Until x41.Asked), w64 (v38 + 1), v39))
def d_xea_j7 (L1 : ((List GParty) × Int × Int) -> Option (Int × (List GParty))) (x_ : ((List GParty) × Int × Int)) : Option (Int × (List GParty)) :=
 match x_ with
 | (v32, v33, v34) => bd (at? v32 v34) fun x35 =>
 bd (at? v32 v34) fun x36 =>
 jn (d_xea_j8 L1) ((List.set v32 v34.toNat (GParty.mk x36.Id x36.Cabin x36.From x36.Size x36.Tier x36.Since (w64 (v33 + 1)) x36.State x36.Until x36.Asked), w64 (v33 + 1), v34))
def d_xea_j6 (L1 : ((List GParty) × Int × Int) -> Option (Int × (List GParty))) (x_ : ((List GParty) × Int × Int)) : Option (Int × (List GParty)) :=
 match x_ with
 | (v27, v28, v29) => bd (at? v27 v29) fun x30 =>
 bd (at? v27 v29) fun x31 =>
 jn (d_xea_j7 L1) ((List.set v27 v29.toNat (GParty.mk x31.Id x31.Cabin x31.From x31.Size x31.Tier (w64 (v28 + 1)) x31.Turn x31.State x31.Until x31.Asked), w64 (v28 + 1), v29))
def d_xea_j5 (L1 : ((List GParty) × Int × Int) -> Option (Int × (List GParty))) (x_ : ((List GParty) × Int × Int)) : Option (Int × (List GParty)) :=
 match x_ with
 | (v22, v23, v24) => bd (at? v22 v24) fun x25 =>
 bd (at? v22 v24) fun x26 =>
 jn (d_xea_j6 L1) ((List.set v22 v24.toNat (GParty.mk x26.Id x26.Cabin x26.From x26.Size (w64 (v23 + 1)) x26.Since x26.Turn x26.State x26.Until x26.Asked), w64 (v23 + 1), v24))
def d_xea_j4 (L1 : ((List GParty) × Int × Int) -> Option (Int × (List GParty))) (x_ : ((List GParty) × Int × Int)) : Option (Int × (List GParty)) :=
 match x_ with
 | (v17, v18, v19) => bd (at? v17 v19) fun x20 =>
 bd (at? v17 v19) fun x21 =>
 jn (d_xea_j5 L1) ((List.set v17 v19.toNat (GParty.mk x21.Id x21.Cabin x21.From (w64 (v18 + 1)) x21.Tier x21.Since x21.Turn x21.State x21.Until x21.Asked), w64 (v18 + 1), v19))
def d_xea_j3 (L1 : ((List GParty) × Int × Int) -> Option (Int × (List GParty))) (x_ : ((List GParty) × Int × Int)) : Option (Int × (List GParty)) :=
 match x_ with
 | (v12, v13, v14) => bd (at? v12 v14) fun x15 =>
 bd (at? v12 v14) fun x16 =>
 jn (d_xea_j4 L1) ((List.set v12 v14.toNat (GParty.mk x16.Id x16.Cabin (w64 (v13 + 1)) x16.Size x16.Tier x16.Since x16.Turn x16.State x16.Until x16.Asked), w64 (v13 + 1), v14))
def d_xea_j2 (L1 : ((List GParty) × Int × Int) -> Option (Int × (List GParty))) (x_ : ((List GParty) × Int × Int)) : Option (Int × (List GParty)) :=
 match x_ with
 | (v7, v8, v9) => bd (at? v7 v9) fun x10 =>
 bd (at? v7 v9) fun x11 =>
 jn (d_xea_j3 L1) ((List.set v7 v9.toNat (GParty.mk x11.Id (w64 (v8 + 1)) x11.From x11.Size x11.Tier x11.Since x11.Turn x11.State x11.Until x11.Asked), w64 (v8 + 1), v9))
def d_xea_j12 (x_ : ((List GParty) × Int)) : Option (Int × (List GParty)) :=
 match x_ with
 | (v55, v56) => some (v56, v55)
def d_xea_l1 (L1 : ((List GParty) × Int × Int) -> Option (Int × (List GParty))) (x_ : ((List GParty) × Int × Int)) : Option (Int × (List GParty)) :=
 match x_ with
 | (v2, v3, v4) => br (decide (v4 < (↑(List.length v2) : Int)))
  (bd (at? v2 v4) fun x5 =>
  bd (at? v2 v4) fun x6 =>
  jn (d_xea_j2 L1) ((List.set v2 v4.toNat (GParty.mk v3 x6.Cabin x6.From x6.Size x6.Tier x6.Since x6.Turn x6.State x6.Until x6.Asked), v3, v4)))
  (jn (d_xea_j12) (v2, v3))
def d_xea (p0 : (List GParty)) (p1 : Int) : Option (Int × (List GParty)) :=
 loopN (d_xea_l1) big (p0, p1, 0)
def gf_xea : GF := y_xea.gf rfl rfl (fun a => d_xea a.1 a.2.1) (fun a => by kernel_rfl)
def y_xeb : YF := ⟨[], [.m (.l (.st 4)), .v .i], [], .ret [.i], [.tmp 4],
 sq [qK 4 0] [0, 1] (.join [cv 0 (.l (.st 4)), cv 1 .i] (sq [qK 5 0] (Kp 35) (bl 0 [cv 0 (.l (.st 4)), cv 1 .i, cv 5 .i] (.seq (sw 6 [wM, wm 0, wZ, wB .lss 6] (Kp 547) (ce 9 (Kp 35) [0, 1] 0)) (.seq (.block 1 (.join [cv 0 (.l (.st 4)), cv 1 .i, cv 5 .i] (qr [wn 12 [wm 0, wm 5, wm 1, we (.st 4) 12 13, wO 0],
 qn [qw 1 16 14]] (Kp 35)) (sr [wn 17 [wm 1, wI .add 1],
 qn [qa 1 18]] (Kp 35) (.join [cv 0 (.l (.st 4)), cv 1 .i, cv 5 .i] (qr [wn 19 [wm 0, wm 5, wm 1, we (.st 4) 19 20, wO 1],
 qn [qw 1 23 21]] (Kp 35)) (sr [wn 24 [wm 1, wI .add 1],
 qn [qa 1 25]] (Kp 35) (.join [cv 0 (.l (.st 4)), cv 1 .i, cv 5 .i] (qr [wn 26 [wm 0, wm 5, wm 1, we (.st 4) 26 27, wO 2],
 qn [qw 1 30 28]] (Kp 35)) (sr [wn 31 [wm 1, wI .add 1],
 qn [qa 1 32]] (Kp 35) (.join [cv 0 (.l (.st 4)), cv 1 .i, cv 5 .i] (qr [wn 33 [wm 0, wm 5, wm 1, we (.st 4) 33 34, wO 3],
 qn [qw 1 37 35]] (Kp 35)) (qr [wn 38 [wm 1, wI .add 1],
 qn [qa 1 39]] (Kp 35)))))))))) (qr [wn 10 [wm 5, wI .add 1],
 qn [qa 5 11]] (Kp 35)))))) (sq [qm 40 1, qa 4 40] [0, 4] .ret))⟩
def d_xeb_j5 (L1 : ((List GEntry) × Int × Int) -> Option (Int × (List GEntry))) (x_ : ((List GEntry) × Int × Int)) : Option (Int × (List GEntry)) :=
 match x_ with
 | (v22, v23, v24) => L1 ((v22, w64 (v23 + 1), w64 (v24 + 1)))
def d_xeb_j4 (L1 : ((List GEntry) × Int × Int) -> Option (Int × (List GEntry))) (x_ : ((List GEntry) × Int × Int)) : Option (Int × (List GEntry)) :=
 match x_ with
 | (v17, v18, v19) => bd (at? v17 v19) fun x20 =>
 bd (at? v17 v19) fun x21 =>
 jn (d_xeb_j5 L1) ((List.set v17 v19.toNat (GEntry.mk x21.Level x21.Turn x21.Id (w64 (v18 + 1))), w64 (v18 + 1), v19))
def d_xeb_j3 (L1 : ((List GEntry) × Int × Int) -> Option (Int × (List GEntry))) (x_ : ((List GEntry) × Int × Int)) : Option (Int × (List GEntry)) :=
 match x_ with
 | (v12, v13, v14) => bd (at? v12 v14) fun x15 =>
 bd (at? v12 v14) fun x16 =>
 jn (d_xeb_j4 L1) ((List.set v12 v14.toNat (GEntry.mk x16.Level x16.Turn (w64 (v13 + 1)) x16.Size), w64 (v13 + 1), v14))
def d_xeb_j2 (L1 : ((List GEntry) × Int × Int) -> Option (Int × (List GEntry))) (x_ : ((List GEntry) × Int × Int)) : Option (Int × (List GEntry)) :=
 match x_ with
 | (v7, v8, v9) => bd (at? v7 v9) fun x10 =>
 bd (at? v7 v9) fun x11 =>
 jn (d_xeb_j3 L1) ((List.set v7 v9.toNat (GEntry.mk x11.Level (w64 (v8 + 1)) x11.Id x11.Size), w64 (v8 + 1), v9))
def d_xeb_j6 (x_ : ((List GEntry) × Int)) : Option (Int × (List GEntry)) :=
 match x_ with
 | (v25, v26) => some (v26, v25)
def d_xeb_l1 (L1 : ((List GEntry) × Int × Int) -> Option (Int × (List GEntry))) (x_ : ((List GEntry) × Int × Int)) : Option (Int × (List GEntry)) :=
 match x_ with
 | (v2, v3, v4) => br (decide (v4 < (↑(List.length v2) : Int)))
  (bd (at? v2 v4) fun x5 =>
  bd (at? v2 v4) fun x6 =>
  jn (d_xeb_j2 L1) ((List.set v2 v4.toNat (GEntry.mk v3 x6.Turn x6.Id x6.Size), v3, v4)))
  (jn (d_xeb_j6) (v2, v3))
def d_xeb (p0 : (List GEntry)) (p1 : Int) : Option (Int × (List GEntry)) :=
 loopN (d_xeb_l1) big (p0, p1, 0)
def gf_xeb : GF := y_xeb.gf rfl rfl (fun a => d_xeb a.1 a.2.1) (fun a => by kernel_rfl)
def y_xec : YF := ⟨[], [.m (.l (.st 5)), .v .i], [], .ret [.i], [.tmp 4],
 sq [qK 4 0] [0, 1] (.join [cv 0 (.l (.st 5)), cv 1 .i] (sq [qK 5 0] (Kp 35) (bl 0 [cv 0 (.l (.st 5)), cv 1 .i, cv 5 .i] (.seq (sw 6 [wM, wm 0, wZ, wB .lss 6] (Kp 547) (ce 9 (Kp 35) [0, 1] 0)) (.seq (.block 1 (.join [cv 0 (.l (.st 5)), cv 1 .i, cv 5 .i] (qr [wn 12 [wm 0, wm 5, wm 1, we (.st 5) 12 13, wO 0],
 qn [qw 1 16 14]] (Kp 35)) (sr [wn 17 [wm 1, wI .add 1],
 qn [qa 1 18]] (Kp 35) (.join [cv 0 (.l (.st 5)), cv 1 .i, cv 5 .i] (qr [wn 19 [wm 0, wm 5, wm 1, we (.st 5) 19 20, wO 1],
 qn [qw 1 23 21]] (Kp 35)) (qr [wn 24 [wm 1, wI .add 1],
 qn [qa 1 25]] (Kp 35)))))) (qr [wn 10 [wm 5, wI .add 1],
 qn [qa 5 11]] (Kp 35)))))) (sq [qm 26 1, qa 4 26] [0, 4] .ret))⟩
def d_xec_j3 (L1 : ((List GPin) × Int × Int) -> Option (Int × (List GPin))) (x_ : ((List GPin) × Int × Int)) : Option (Int × (List GPin)) :=
 match x_ with
 | (v12, v13, v14) => L1 ((v12, w64 (v13 + 1), w64 (v14 + 1)))
def d_xec_j2 (L1 : ((List GPin) × Int × Int) -> Option (Int × (List GPin))) (x_ : ((List GPin) × Int × Int)) : Option (Int × (List GPin)) :=
 match x_ with
 | (v7, v8, v9) => bd (at? v7 v9) fun x10 =>
 bd (at? v7 v9) fun x11 =>
 jn (d_xec_j3 L1) ((List.set v7 v9.toNat (GPin.mk x11.At (w64 (v8 + 1))), w64 (v8 + 1), v9))
def d_xec_j4 (x_ : ((List GPin) × Int)) : Option (Int × (List GPin)) :=
 match x_ with
 | (v15, v16) => some (v16, v15)
def d_xec_l1 (L1 : ((List GPin) × Int × Int) -> Option (Int × (List GPin))) (x_ : ((List GPin) × Int × Int)) : Option (Int × (List GPin)) :=
 match x_ with
 | (v2, v3, v4) => br (decide (v4 < (↑(List.length v2) : Int)))
  (bd (at? v2 v4) fun x5 =>
  bd (at? v2 v4) fun x6 =>
  jn (d_xec_j2 L1) ((List.set v2 v4.toNat (GPin.mk v3 x6.Id), v3, v4)))
  (jn (d_xec_j4) (v2, v3))
def d_xec (p0 : (List GPin)) (p1 : Int) : Option (Int × (List GPin)) :=
 loopN (d_xec_l1) big (p0, p1, 0)
def gf_xec : GF := y_xec.gf rfl rfl (fun a => d_xec a.1 a.2.1) (fun a => by kernel_rfl)
def y_xed : YF := ⟨[], [.m (.l (.l (.st 5))), .v .i], [], .ret [.i], [.tmp 4],
 sq [qK 4 0] [0, 1] (.join [cv 0 (.l (.l (.st 5))), cv 1 .i] (sq [qK 5 0] (Kp 35) (bl 0 [cv 0 (.l (.l (.st 5))), cv 1 .i, cv 5 .i] (.seq (sw 6 [wM, wm 0, wZ, wB .lss 6] (Kp 547) (ce 9 (Kp 35) [0, 1] 0)) (.seq (.block 1 (qr [wn 12 [wm 0, wm 5, wE (.l (.st 5)) 12, wL, wm 1, wc gf_xec rfl [15, 16]],
 qn [qa 1 17]] (Kp 35))) (qr [wn 10 [wm 5, wI .add 1],
 qn [qa 5 11]] (Kp 35)))))) (sq [qm 18 1, qa 4 18] [0, 4] .ret))⟩
def d_xed_j2 (x_ : ((List (List GPin)) × Int)) : Option (Int × (List (List GPin))) :=
 match x_ with
 | (v9, v10) => some (v10, v9)
def d_xed_l1 (L1 : ((List (List GPin)) × Int × Int) -> Option (Int × (List (List GPin)))) (x_ : ((List (List GPin)) × Int × Int)) : Option (Int × (List (List GPin))) :=
 match x_ with
 | (v2, v3, v4) => br (decide (v4 < (↑(List.length v2) : Int)))
  (bd (at? v2 v4) fun x5 =>
  bd (at? v2 v4) fun x6 =>
  bd (d_xec x6 v3) fun x7 =>
  gd (v4.toNat = v4.toNat) (
  bd (v2[v4.toNat]?) fun x8 =>
  L1 ((List.set v2 v4.toNat x7.snd, x7.fst, w64 (v4 + 1)))))
  (jn (d_xed_j2) (v2, v3))
def d_xed (p0 : (List (List GPin))) (p1 : Int) : Option (Int × (List (List GPin))) :=
 loopN (d_xed_l1) big (p0, p1, 0)
def gf_xed : GF := y_xed.gf rfl rfl (fun a => d_xed a.1 a.2.1) (fun a => by kernel_rfl)
def y_xee : YF := ⟨[], [.m (.l (.st 7)), .v .i], [], .ret [.i], [.tmp 4],
 sq [qK 4 0] [0, 1] (.join [cv 0 (.l (.st 7)), cv 1 .i] (sq [qK 5 0] (Kp 35) (bl 0 [cv 0 (.l (.st 7)), cv 1 .i, cv 5 .i] (.seq (sw 6 [wM, wm 0, wZ, wB .lss 6] (Kp 547) (ce 9 (Kp 35) [0, 1] 0)) (.seq (.block 1 (.join [cv 0 (.l (.st 7)), cv 1 .i, cv 5 .i] (qr [wn 12 [wm 0, wm 5, wm 1, we (.st 7) 12 13, wO 0, wO 0],
 qn [qw 1 17 14]] (Kp 35)) (sr [wn 18 [wm 1, wI .add 1],
 qn [qa 1 19]] (Kp 35) (.join [cv 0 (.l (.st 7)), cv 1 .i, cv 5 .i] (qr [wn 20 [wm 0, wm 5, wm 1, we (.st 7) 20 21, wO 0, wO 1],
 qn [qw 1 25 22]] (Kp 35)) (sr [wn 26 [wm 1, wI .add 1],
 qn [qa 1 27]] (Kp 35) (.join [cv 0 (.l (.st 7)), cv 1 .i, cv 5 .i] (qr [wn 28 [wm 0, wm 5, wm 1, we (.st 7) 28 29, wO 0, wO 2],
 qn [qw 1 33 30]] (Kp 35)) (sr [wn 34 [wm 1, wI .add 1],
 qn [qa 1 35]] (Kp 35) (.join [cv 0 (.l (.st 7)), cv 1 .i, cv 5 .i] (qr [wn 36 [wm 0, wm 5, wm 1, we (.st 7) 36 37, wO 0, wO 3],
 qn [qw 1 41 38]] (Kp 35)) (sr [wn 42 [wm 1, wI .add 1],
 qn [qa 1 43]] (Kp 35) (.join [cv 0 (.l (.st 7)), cv 1 .i, cv 5 .i] (qr [wn 44 [wm 0, wm 5, wm 1, we (.st 7) 44 45, wO 0, wO 4],
 qn [qw 1 49 46]] (Kp 35)) (sr [wn 50 [wm 1, wI .add 1],
 qn [qa 1 51]] (Kp 35) (.join [cv 0 (.l (.st 7)), cv 1 .i, cv 5 .i] (qr [wn 52 [wm 0, wm 5, wE (.st 7) 52, wO 5, wL, wm 1, wc gf_xeb rfl [56, 57]],
 qn [qa 1 58]] (Kp 35)) (qr [wn 59 [wm 0, wm 5, wE (.st 7) 59, wO 6, wO 0, wL, wm 1, wc gf_xed rfl [64, 65]],
 qn [qa 1 66]] (Kp 35)))))))))))))) (qr [wn 10 [wm 5, wI .add 1],
 qn [qa 5 11]] (Kp 35)))))) (sq [qm 67 1, qa 4 67] [0, 4] .ret))⟩
def d_xee_j7 (L1 : ((List GCabin) × Int × Int) -> Option (Int × (List GCabin))) (x_ : ((List GCabin) × Int × Int)) : Option (Int × (List GCabin)) :=
 match x_ with
 | (v34, v35, v36) => bd (at? v34 v36) fun x37 =>
 bd (at? v34 v36) fun x38 =>
 bd (d_xed x38.Wheel.Spoke v35) fun x39 =>
 gd (v36.toNat = v36.toNat) (
 bd (v34[v36.toNat]?) fun x40 =>
 L1 ((List.set v34 v36.toNat (GCabin.mk x40.Seats x40.Row (GWheel.mk x39.snd)), x39.fst, w64 (v36 + 1))))
def d_xee_j6 (L1 : ((List GCabin) × Int × Int) -> Option (Int × (List GCabin))) (x_ : ((List GCabin) × Int × Int)) : Option (Int × (List GCabin)) :=
 match x_ with
 | (v27, v28, v29) => bd (at? v27 v29) fun x30 =>
 bd (at? v27 v29) fun x31 =>
 bd (d_xeb x31.Row (w64 (v28 + 1))) fun x32 =>
 gd (v29.toNat = v29.toNat) (
 bd (v27[v29.toNat]?) fun x33 =>
 jn (d_xee_j7 L1) ((List.set v27 v29.toNat (GCabin.mk x33.Seats x32.snd x33.Wheel), x32.fst, v29)))
def d_xee_j5 (L1 : ((List GCabin) × Int × Int) -> Option (Int × (List GCabin))) (x_ : ((List GCabin) × Int × Int)) : Option (Int × (List GCabin)) :=
 match x_ with
 | (v22, v23, v24) => bd (at? v22 v24) fun x25 =>
 bd (at? v22 v24) fun x26 =>
 jn (d_xee_j6 L1) ((List.set v22 v24.toNat (GCabin.mk (GLedger.mk x26.Seats.Total x26.Seats.Free x26.Seats.Held x26.Seats.Sold (w64 (v23 + 1))) x26.Row x26.Wheel), w64 (v23 + 1), v24))
def d_xee_j4 (L1 : ((List GCabin) × Int × Int) -> Option (Int × (List GCabin))) (x_ : ((List GCabin) × Int × Int)) : Option (Int × (List GCabin)) :=
 match x_ with
 | (v17, v18, v19) => bd (at? v17 v19) fun x20 =>
 bd (at? v17 v19) fun x21 =>
 jn (d_xee_j5 L1) ((List.set v17 v19.toNat (GCabin.mk (GLedger.mk x21.Seats.Total x21.Seats.Free x21.Seats.Held (w64 (v18 + 1)) x21.Seats.Tied) x21.Row x21.Wheel), w64 (v18 + 1), v19))
def d_xee_j3 (L1 : ((List GCabin) × Int × Int) -> Option (Int × (List GCabin))) (x_ : ((List GCabin) × Int × Int)) : Option (Int × (List GCabin)) :=
 match x_ with
 | (v12, v13, v14) => bd (at? v12 v14) fun x15 =>
 bd (at? v12 v14) fun x16 =>
 jn (d_xee_j4 L1) ((List.set v12 v14.toNat (GCabin.mk (GLedger.mk x16.Seats.Total x16.Seats.Free (w64 (v13 + 1)) x16.Seats.Sold x16.Seats.Tied) x16.Row x16.Wheel), w64 (v13 + 1), v14))
def d_xee_j2 (L1 : ((List GCabin) × Int × Int) -> Option (Int × (List GCabin))) (x_ : ((List GCabin) × Int × Int)) : Option (Int × (List GCabin)) :=
 match x_ with
 | (v7, v8, v9) => bd (at? v7 v9) fun x10 =>
 bd (at? v7 v9) fun x11 =>
 jn (d_xee_j3 L1) ((List.set v7 v9.toNat (GCabin.mk (GLedger.mk x11.Seats.Total (w64 (v8 + 1)) x11.Seats.Held x11.Seats.Sold x11.Seats.Tied) x11.Row x11.Wheel), w64 (v8 + 1), v9))
def d_xee_j8 (x_ : ((List GCabin) × Int)) : Option (Int × (List GCabin)) :=
 match x_ with
 | (v41, v42) => some (v42, v41)
def d_xee_l1 (L1 : ((List GCabin) × Int × Int) -> Option (Int × (List GCabin))) (x_ : ((List GCabin) × Int × Int)) : Option (Int × (List GCabin)) :=
 match x_ with
 | (v2, v3, v4) => br (decide (v4 < (↑(List.length v2) : Int)))
  (bd (at? v2 v4) fun x5 =>
  bd (at? v2 v4) fun x6 =>
  jn (d_xee_j2 L1) ((List.set v2 v4.toNat (GCabin.mk (GLedger.mk v3 x6.Seats.Free x6.Seats.Held x6.Seats.Sold x6.Seats.Tied) x6.Row x6.Wheel), v3, v4)))
  (jn (d_xee_j8) (v2, v3))
def d_xee (p0 : (List GCabin)) (p1 : Int) : Option (Int × (List GCabin)) :=
 loopN (d_xee_l1) big (p0, p1, 0)
def gf_xee : GF := y_xee.gf rfl rfl (fun a => d_xee a.1 a.2.1) (fun a => by kernel_rfl)
def y_xef : YF := ⟨[], [.m (.st 8), .v .i], [], .ret [.i], [.tmp 4],
 sq [qu 2 0, qK 4 0] (Kp 7) (sr [wn 5 [wo 0 2, wK 9, wm 1, wc gf_xd9 rfl [6, 7]],
 qn [qa 1 8]] (Kp 7) (sr [wn 9 [wo 11 2, wL, wm 1, wc gf_xea rfl [10, 11]],
 qn [qa 1 12]] (Kp 7) (sr [wn 13 [wo 12 2, wL, wm 1, wc gf_xee rfl [14, 15]],
 qn [qa 1 16]] (Kp 7) (sr [wn 17 [wo 13 2, wL, wm 1, wc gf_xd8 rfl [18, 19]],
 qn [qa 1 20]] (Kp 7) (sr [wn 21 [wo 14 2, wL, wm 1, wc gf_xd8 rfl [22, 23]],
 qn [qa 1 24]] [0, 1] (sq [qm 25 1, qa 4 25] [0, 4] .ret))))))⟩
def d_xef (p0 : GHouse) (p1 : Int) : Option (Int × GHouse) :=
 bd (d_xd9 p0.Rules p1) fun x1 =>
 bd (d_xea p0.Parties x1.fst) fun x2 =>
 bd (d_xee p0.Cabins x2.fst) fun x3 =>
 bd (d_xd8 p0.Todo x3.fst) fun x4 =>
 bd (d_xd8 p0.Jobs x4.fst) fun x5 =>
 some ((x5.fst, GHouse.mk (GRules.mk x1.snd.Seats p0.Rules.Tiers p0.Rules.Room p0.Rules.Size p0.Rules.Period p0.Rules.Window p0.Rules.Rest p0.Rules.Tries p0.Rules.Crew) p0.Now p0.Turn x2.snd x3.snd x4.snd x5.snd))
def gf_xef : GF := y_xef.gf rfl rfl (fun a => d_xef a.1 a.2.1) (fun a => by kernel_rfl)
def y_xeg : YF := ⟨[], [.v (.l .i), .v .i], [], .ret [.i], [.tmp 4],
 sq [qK 4 0] [0, 1] (.join [cv 1 .i] (sq [qK 5 0] (Kp 35) (bl 0 [cv 1 .i, cv 5 .i] (.seq (sw 6 [wM, wm 0, wZ, wB .lss 6] (Kp 547) (ce 9 (Kp 35) [1] 0)) (.seq (.block 1 (.seq (sw 12 [wm 0, wm 5, wE .i 12, wL, wm 1, wB .neq 15] (Kp 131107) (cn 17 (Kp 35) (sq [qK 4 (-1)] [4] .ret))) (qr [wn 18 [wm 1, wI .add 1],
 qn [qa 1 19]] (Kp 35)))) (qr [wn 10 [wm 5, wI .add 1],
 qn [qa 5 11]] (Kp 35)))))) (sq [qm 20 1, qa 4 20] [4] .ret))⟩
def d_xeg_j2 (v5 : Int) : Option Int :=
 some v5
def d_xeg_l1 (p0 : (List Int)) (L1 : (Int × Int) -> Option Int) (x_ : (Int × Int)) : Option Int :=
 match x_ with
 | (v2, v3) => br (decide (v3 < (↑p0.length : Int)))
  (bd (at? p0 v3) fun x4 =>
  br (x4 != v2)
   (some (-1))
   (L1 ((w64 (v2 + 1), w64 (v3 + 1)))))
  (jn (d_xeg_j2) v2)
def d_xeg (p0 : (List Int)) (p1 : Int) : Option Int :=
 loopN (d_xeg_l1 p0) big (p1, 0)
def gf_xeg : GF := y_xeg.gf rfl rfl (fun a => d_xeg a.1 a.2.1) (fun a => by kernel_rfl)
def y_xeh : YF := ⟨[], [.v (.st 1)], [], .ret [(.st 1)], [.cell 2 (some 9)],
 sq [qu 1 0, .alloc 2 zGRules, .nils [(.cell 2 0, .i)]] [1, 2] (sr [wn 3 [wh (.bslice · 0 .i []), wo 0 1, wL, wh (.app · .i true (.tmp 3) (.tmp 5)), wo 0 1],
 qn [qw 1 7 6]] [1, 2] (sq [qL 8 9 1, qw 9 2 8] [2] .ret))⟩
def d_xeh (p0 : GRules) : Option GRules :=
 gd (0 + p0.Seats.length <= lim) (
 some (GRules.mk ([] ++ p0.Seats) p0.Tiers p0.Room p0.Size p0.Period p0.Window p0.Rest p0.Tries p0.Crew))
def gf_xeh : GF := y_xeh.gf rfl rfl (fun a => d_xeh a.1) (fun a => by kernel_rfl)
def y_xei : YF := ⟨[], [.v (.l .i)], [], .ret [(.l .i)], [.tmp 2],
 sq [.as 2 (.k .nil), .nils [(.tmp 2 0, .i)]] [0] (sr [wn 3 [wm 0, wh (.app · .i true (.k .nil) (.tmp 3))],
 qn [qa 2 4]] [2] .ret)⟩
def d_xei (p0 : (List Int)) : Option (List Int) :=
 gd (0 + p0.length <= lim) (
 some p0)
def gf_xei : GF := y_xei.gf rfl rfl (fun a => d_xei a.1) (fun a => by kernel_rfl)
def y_xej : YF := ⟨[], [.v (.st 1)], [], .ret [(.st 1)], [.cell 2 (some 9)],
 sq [qu 1 0, .alloc 2 zGRules, .nils [(.cell 2 0, .i)]] [1, 2] (sr [wn 3 [wo 0 1, wL, wY gf_xei rfl, wo 0 1],
 qn [qw 1 6 5]] [1, 2] (sq [qL 7 9 1, qw 9 2 7] [2] .ret))⟩
def d_xej (p0 : GRules) : Option GRules :=
 bd (d_xei p0.Seats) fun x1 =>
 some (GRules.mk x1 p0.Tiers p0.Room p0.Size p0.Period p0.Window p0.Rest p0.Tries p0.Crew)
def gf_xej : GF := y_xej.gf rfl rfl (fun a => d_xej a.1) (fun a => by kernel_rfl)
def y_xek : YF := ⟨[], [.m (.l (.st 0)), .v .i], [], .ret [.i], [.tmp 4],
 sq [qK 4 0] [0, 1] (.join [cv 0 (.l (.st 0)), cv 1 .i] (sq [qK 5 0] (Kp 35) (bl 0 [cv 0 (.l (.st 0)), cv 1 .i, cv 5 .i] (.seq (sw 6 [wM, wm 0, wZ, wB .lss 6] (Kp 547) (ce 9 (Kp 35) [0, 1] 0)) (.seq (.block 1 (.join [cv 0 (.l (.st 0)), cv 1 .i, cv 5 .i] (qr [wn 12 [wm 0, wm 5, wm 1, we (.st 0) 12 13, wO 0],
 qn [qw 1 16 14]] (Kp 35)) (sr [wn 17 [wm 1, wI .add 1],
 qn [qa 1 18]] (Kp 35) (.join [cv 0 (.l (.st 0)), cv 1 .i, cv 5 .i] (qr [wn 19 [wm 0, wm 5, wm 1, we (.st 0) 19 20, wO 1],
 qn [qw 1 23 21]] (Kp 35)) (sr [wn 24 [wm 1, wI .add 1],
 qn [qa 1 25]] (Kp 35) (.join [cv 0 (.l (.st 0)), cv 1 .i, cv 5 .i] (qr [wn 26 [wm 0, wm 5, wm 1, we (.st 0) 26 27, wO 2],
 qn [qw 1 30 28]] (Kp 35)) (sr [wn 31 [wm 1, wI .add 1],
 qn [qa 1 32]] (Kp 35) (.join [cv 0 (.l (.st 0)), cv 1 .i, cv 5 .i] (qr [wn 33 [wm 0, wm 5, wm 1, we (.st 0) 33 34, wO 3],
 qn [qw 1 37 35]] (Kp 35)) (sr [wn 38 [wm 1, wI .add 1],
 qn [qa 1 39]] (Kp 35) (.join [cv 0 (.l (.st 0)), cv 1 .i, cv 5 .i] (qr [wn 40 [wm 0, wm 5, wm 1, we (.st 0) 40 41, wO 4],
 qn [qw 1 44 42]] (Kp 35)) (sr [wn 45 [wm 1, wI .add 1],
 qn [qa 1 46]] (Kp 35) (.join [cv 0 (.l (.st 0)), cv 1 .i, cv 5 .i] (qr [wn 47 [wm 0, wm 5, wm 1, we (.st 0) 47 48, wO 5],
 qn [qw 1 51 49]] (Kp 35)) (qr [wn 52 [wm 1, wI .add 1],
 qn [qa 1 53]] (Kp 35)))))))))))))) (qr [wn 10 [wm 5, wI .add 1],
 qn [qa 5 11]] (Kp 35)))))) (sq [qm 54 1, qa 4 54] [0, 4] .ret))⟩
def d_xek_j7 (L1 : ((List GReq) × Int × Int) -> Option (Int × (List GReq))) (x_ : ((List GReq) × Int × Int)) : Option (Int × (List GReq)) :=
 match x_ with
 | (v32, v33, v34) => L1 ((v32, w64 (v33 + 1), w64 (v34 + 1)))
def d_xek_j6 (L1 : ((List GReq) × Int × Int) -> Option (Int × (List GReq))) (x_ : ((List GReq) × Int × Int)) : Option (Int × (List GReq)) :=
 match x_ with
 | (v27, v28, v29) => bd (at? v27 v29) fun x30 =>
 bd (at? v27 v29) fun x31 =>
 jn (d_xek_j7 L1) ((List.set v27 v29.toNat (GReq.mk x31.Kind x31.Id x31.Cabin x31.From x31.Size (w64 (v28 + 1))), w64 (v28 + 1), v29))
def d_xek_j5 (L1 : ((List GReq) × Int × Int) -> Option (Int × (List GReq))) (x_ : ((List GReq) × Int × Int)) : Option (Int × (List GReq)) :=
 match x_ with
 | (v22, v23, v24) => bd (at? v22 v24) fun x25 =>
 bd (at? v22 v24) fun x26 =>
 jn (d_xek_j6 L1) ((List.set v22 v24.toNat (GReq.mk x26.Kind x26.Id x26.Cabin x26.From (w64 (v23 + 1)) x26.Tier), w64 (v23 + 1), v24))
def d_xek_j4 (L1 : ((List GReq) × Int × Int) -> Option (Int × (List GReq))) (x_ : ((List GReq) × Int × Int)) : Option (Int × (List GReq)) :=
 match x_ with
 | (v17, v18, v19) => bd (at? v17 v19) fun x20 =>
 bd (at? v17 v19) fun x21 =>
 jn (d_xek_j5 L1) ((List.set v17 v19.toNat (GReq.mk x21.Kind x21.Id x21.Cabin (w64 (v18 + 1)) x21.Size x21.Tier), w64 (v18 + 1), v19))
def d_xek_j3 (L1 : ((List GReq) × Int × Int) -> Option (Int × (List GReq))) (x_ : ((List GReq) × Int × Int)) : Option (Int × (List GReq)) :=
 match x_ with
 | (v12, v13, v14) => bd (at? v12 v14) fun x15 =>
 bd (at? v12 v14) fun x16 =>
 jn (d_xek_j4 L1) ((List.set v12 v14.toNat (GReq.mk x16.Kind x16.Id (w64 (v13 + 1)) x16.From x16.Size x16.Tier), w64 (v13 + 1), v14))
def d_xek_j2 (L1 : ((List GReq) × Int × Int) -> Option (Int × (List GReq))) (x_ : ((List GReq) × Int × Int)) : Option (Int × (List GReq)) :=
 match x_ with
 | (v7, v8, v9) => bd (at? v7 v9) fun x10 =>
 bd (at? v7 v9) fun x11 =>
 jn (d_xek_j3 L1) ((List.set v7 v9.toNat (GReq.mk x11.Kind (w64 (v8 + 1)) x11.Cabin x11.From x11.Size x11.Tier), w64 (v8 + 1), v9))
def d_xek_j8 (x_ : ((List GReq) × Int)) : Option (Int × (List GReq)) :=
 match x_ with
 | (v35, v36) => some (v36, v35)
def d_xek_l1 (L1 : ((List GReq) × Int × Int) -> Option (Int × (List GReq))) (x_ : ((List GReq) × Int × Int)) : Option (Int × (List GReq)) :=
 match x_ with
 | (v2, v3, v4) => br (decide (v4 < (↑(List.length v2) : Int)))
  (bd (at? v2 v4) fun x5 =>
  bd (at? v2 v4) fun x6 =>
  jn (d_xek_j2 L1) ((List.set v2 v4.toNat (GReq.mk v3 x6.Id x6.Cabin x6.From x6.Size x6.Tier), v3, v4)))
  (jn (d_xek_j8) (v2, v3))
def d_xek (p0 : (List GReq)) (p1 : Int) : Option (Int × (List GReq)) :=
 loopN (d_xek_l1) big (p0, p1, 0)
def gf_xek : GF := y_xek.gf rfl rfl (fun a => d_xek a.1 a.2.1) (fun a => by kernel_rfl)
def y_xel : YF := ⟨[], [.m (.st 11), .v .i], [], .ret [.i], [.tmp 4],
 sq [qu 2 0, qK 4 0] (Kp 7) (sr [wn 5 [wo 0 2, wK 15, wm 1, wc gf_xef rfl [6, 7]],
 qn [qa 1 8]] (Kp 7) (sr [wn 9 [wo 22 2, wL, wm 1, wc gf_xek rfl [10, 11]],
 qn [qa 1 12]] [0, 1] (sq [qm 13 1, qa 4 13] [0, 4] .ret)))⟩
def d_xel (p0 : GEngine) (p1 : Int) : Option (Int × GEngine) :=
 bd (d_xef p0.House p1) fun x1 =>
 bd (d_xek p0.Laid x1.fst) fun x2 =>
 some ((x2.fst, GEngine.mk (GHouse.mk (GRules.mk x1.snd.Rules.Seats p0.House.Rules.Tiers p0.House.Rules.Room p0.House.Rules.Size p0.House.Rules.Period p0.House.Rules.Window p0.House.Rules.Rest p0.House.Rules.Tries p0.House.Rules.Crew) p0.House.Now p0.House.Turn x1.snd.Parties x1.snd.Cabins x1.snd.Todo x1.snd.Jobs) p0.Store p0.Seq x2.snd))
def gf_xel : GF := y_xel.gf rfl rfl (fun a => d_xel a.1 a.2.1) (fun a => by kernel_rfl)
def y_xem : YF := ⟨[], [.v (.st 1), .v .i], [], .ret [.i], [.tmp 4],
 sq [qu 2 0, qK 4 0] [1, 2] (sr [wn 5 [wo 0 2, wL, wm 1, wc gf_xeg rfl [6, 7]],
 qn [qa 1 8]] [1] (.seq (sw 9 [wm 1, wI .lss 0] [1, 10] (cn 10 [1] (sq [qK 4 (-1)] [4] .ret))) (sq [qm 11 1, qa 4 11] [4] .ret)))⟩
def d_xem (p0 : GRules) (p1 : Int) : Option Int :=
 bd (d_xeg p0.Seats p1) fun x1 =>
 br (decide (x1 < 0))
  (some (-1))
  (some x1)
def gf_xem : GF := y_xem.gf rfl rfl (fun a => d_xem a.1 a.2.1) (fun a => by kernel_rfl)
def y_xen : YF := ⟨[], [.v (.l (.st 2)), .v .i], [], .ret [.i], [.tmp 4],
 sq [qK 4 0] [0, 1] (.join [cv 1 .i] (sq [qK 5 0] (Kp 35) (bl 0 [cv 1 .i, cv 5 .i] (.seq (sw 6 [wM, wm 0, wZ, wB .lss 6] (Kp 547) (ce 9 (Kp 35) [1] 0)) (.seq (.block 1 (.seq (sw 12 [wm 0, wm 5, wE (.st 2) 12, wO 0, wL, wm 1, wB .neq 16] (Kp 262179) (cn 18 (Kp 35) (sq [qK 4 (-1)] [4] .ret))) (sr [wn 19 [wm 1, wI .add 1],
 qn [qa 1 20]] (Kp 35) (.seq (sw 21 [wm 0, wm 5, wE (.st 2) 21, wO 1, wL, wm 1, wB .neq 25] [0, 1, 5, 27] (cn 27 (Kp 35) (sq [qK 4 (-1)] [4] .ret))) (sr [wn 28 [wm 1, wI .add 1],
 qn [qa 1 29]] (Kp 35) (.seq (sw 30 [wm 0, wm 5, wE (.st 2) 30, wO 2, wL, wm 1, wB .neq 34] [0, 1, 5, 36] (cn 36 (Kp 35) (sq [qK 4 (-1)] [4] .ret))) (sr [wn 37 [wm 1, wI .add 1],
 qn [qa 1 38]] (Kp 35) (.seq (sw 39 [wm 0, wm 5, wE (.st 2) 39, wO 3, wL, wm 1, wB .neq 43] [0, 1, 5, 45] (cn 45 (Kp 35) (sq [qK 4 (-1)] [4] .ret))) (sr [wn 46 [wm 1, wI .add 1],
 qn [qa 1 47]] (Kp 35) (.seq (sw 48 [wm 0, wm 5, wE (.st 2) 48, wO 4, wL, wm 1, wB .neq 52] [0, 1, 5, 54] (cn 54 (Kp 35) (sq [qK 4 (-1)] [4] .ret))) (sr [wn 55 [wm 1, wI .add 1],
 qn [qa 1 56]] (Kp 35) (.seq (sw 57 [wm 0, wm 5, wE (.st 2) 57, wO 5, wL, wm 1, wB .neq 61] [0, 1, 5, 63] (cn 63 (Kp 35) (sq [qK 4 (-1)] [4] .ret))) (sr [wn 64 [wm 1, wI .add 1],
 qn [qa 1 65]] (Kp 35) (.seq (sw 66 [wm 0, wm 5, wE (.st 2) 66, wO 6, wL, wm 1, wB .neq 70] [0, 1, 5, 72] (cn 72 (Kp 35) (sq [qK 4 (-1)] [4] .ret))) (sr [wn 73 [wm 1, wI .add 1],
 qn [qa 1 74]] (Kp 35) (.seq (sw 75 [wm 0, wm 5, wE (.st 2) 75, wO 7, wL, wm 1, wB .neq 79] [0, 1, 5, 81] (cn 81 (Kp 35) (sq [qK 4 (-1)] [4] .ret))) (sr [wn 82 [wm 1, wI .add 1],
 qn [qa 1 83]] (Kp 35) (.seq (sw 84 [wm 0, wm 5, wE (.st 2) 84, wO 8, wL, wm 1, wB .neq 88] [0, 1, 5, 90] (cn 90 (Kp 35) (sq [qK 4 (-1)] [4] .ret))) (sr [wn 91 [wm 1, wI .add 1],
 qn [qa 1 92]] (Kp 35) (.seq (sw 93 [wm 0, wm 5, wE (.st 2) 93, wO 9, wL, wm 1, wB .neq 97] [0, 1, 5, 99] (cn 99 (Kp 35) (sq [qK 4 (-1)] [4] .ret))) (qr [wn 100 [wm 1, wI .add 1],
 qn [qa 1 101]] (Kp 35)))))))))))))))))))))) (qr [wn 10 [wm 5, wI .add 1],
 qn [qa 5 11]] (Kp 35)))))) (sq [qm 102 1, qa 4 102] [4] .ret))⟩
def d_xen_j2 (v14 : Int) : Option Int :=
 some v14
def d_xen_l1 (p0 : (List GParty)) (L1 : (Int × Int) -> Option Int) (x_ : (Int × Int)) : Option Int :=
 match x_ with
 | (v2, v3) => br (decide (v3 < (↑p0.length : Int)))
  (bd (at? p0 v3) fun x4 =>
  br (x4.Id != v2)
   (some (-1))
   (bd (at? p0 v3) fun x5 =>
   br (x5.Cabin != w64 (v2 + 1))
    (some (-1))
    (bd (at? p0 v3) fun x6 =>
    br (x6.From != w64 (w64 (v2 + 1) + 1))
     (some (-1))
     (bd (at? p0 v3) fun x7 =>
     br (x7.Size != w64 (w64 (w64 (v2 + 1) + 1) + 1))
      (some (-1))
      (bd (at? p0 v3) fun x8 =>
      br (x8.Tier != w64 (w64 (w64 (w64 (v2 + 1) + 1) + 1) + 1))
       (some (-1))
       (bd (at? p0 v3) fun x9 =>
       br (x9.Since != w64 (w64 (w64 (w64 (w64 (v2 + 1) + 1) + 1) + 1) + 1))
        (some (-1))
        (bd (at? p0 v3) fun x10 =>
        br (x10.Turn != w64 (w64 (w64 (w64 (w64 (w64 (v2 + 1) + 1) + 1) + 1) + 1) + 1))
         (some (-1))
         (bd (at? p0 v3) fun x11 =>
         br (x11.State != w64 (w64 (w64 (w64 (w64 (w64 (w64 (v2 + 1) + 1) + 1) + 1) + 1) + 1) + 1))
          (some (-1))
          (bd (at? p0 v3) fun x12 =>
          br (x12.Until != w64 (w64 (w64 (w64 (w64 (w64 (w64 (w64 (v2 + 1) + 1) + 1) + 1) + 1) + 1) + 1) + 1))
           (some (-1))
           (bd (at? p0 v3) fun x13 =>
           br (x13.Asked != w64 (w64 (w64 (w64 (w64 (w64 (w64 (w64 (w64 (v2 + 1) + 1) + 1) + 1) + 1) + 1) + 1) + 1) + 1))
            (some (-1))
            (L1 ((w64 (w64 (w64 (w64 (w64 (w64 (w64 (w64 (w64 (w64 (v2 + 1) + 1) + 1) + 1) + 1) + 1) + 1) + 1) + 1) + 1), w64 (v3 + 1))))))))))))))
  (jn (d_xen_j2) v2)
def d_xen (p0 : (List GParty)) (p1 : Int) : Option Int :=
 loopN (d_xen_l1 p0) big (p1, 0)
def gf_xen : GF := y_xen.gf rfl rfl (fun a => d_xen a.1 a.2.1) (fun a => by kernel_rfl)
def y_xeo : YF := ⟨[], [.v (.l (.st 4)), .v .i], [], .ret [.i], [.tmp 4],
 sq [qK 4 0] [0, 1] (.join [cv 1 .i] (sq [qK 5 0] (Kp 35) (bl 0 [cv 1 .i, cv 5 .i] (.seq (sw 6 [wM, wm 0, wZ, wB .lss 6] (Kp 547) (ce 9 (Kp 35) [1] 0)) (.seq (.block 1 (.seq (sw 12 [wm 0, wm 5, wE (.st 4) 12, wO 0, wL, wm 1, wB .neq 16] (Kp 262179) (cn 18 (Kp 35) (sq [qK 4 (-1)] [4] .ret))) (sr [wn 19 [wm 1, wI .add 1],
 qn [qa 1 20]] (Kp 35) (.seq (sw 21 [wm 0, wm 5, wE (.st 4) 21, wO 1, wL, wm 1, wB .neq 25] [0, 1, 5, 27] (cn 27 (Kp 35) (sq [qK 4 (-1)] [4] .ret))) (sr [wn 28 [wm 1, wI .add 1],
 qn [qa 1 29]] (Kp 35) (.seq (sw 30 [wm 0, wm 5, wE (.st 4) 30, wO 2, wL, wm 1, wB .neq 34] [0, 1, 5, 36] (cn 36 (Kp 35) (sq [qK 4 (-1)] [4] .ret))) (sr [wn 37 [wm 1, wI .add 1],
 qn [qa 1 38]] (Kp 35) (.seq (sw 39 [wm 0, wm 5, wE (.st 4) 39, wO 3, wL, wm 1, wB .neq 43] [0, 1, 5, 45] (cn 45 (Kp 35) (sq [qK 4 (-1)] [4] .ret))) (qr [wn 46 [wm 1, wI .add 1],
 qn [qa 1 47]] (Kp 35)))))))))) (qr [wn 10 [wm 5, wI .add 1],
 qn [qa 5 11]] (Kp 35)))))) (sq [qm 48 1, qa 4 48] [4] .ret))⟩
def d_xeo_j2 (v8 : Int) : Option Int :=
 some v8
def d_xeo_l1 (p0 : (List GEntry)) (L1 : (Int × Int) -> Option Int) (x_ : (Int × Int)) : Option Int :=
 match x_ with
 | (v2, v3) => br (decide (v3 < (↑p0.length : Int)))
  (bd (at? p0 v3) fun x4 =>
  br (x4.Level != v2)
   (some (-1))
   (bd (at? p0 v3) fun x5 =>
   br (x5.Turn != w64 (v2 + 1))
    (some (-1))
    (bd (at? p0 v3) fun x6 =>
    br (x6.Id != w64 (w64 (v2 + 1) + 1))
     (some (-1))
     (bd (at? p0 v3) fun x7 =>
     br (x7.Size != w64 (w64 (w64 (v2 + 1) + 1) + 1))
      (some (-1))
      (L1 ((w64 (w64 (w64 (w64 (v2 + 1) + 1) + 1) + 1), w64 (v3 + 1))))))))
  (jn (d_xeo_j2) v2)
def d_xeo (p0 : (List GEntry)) (p1 : Int) : Option Int :=
 loopN (d_xeo_l1 p0) big (p1, 0)
def gf_xeo : GF := y_xeo.gf rfl rfl (fun a => d_xeo a.1 a.2.1) (fun a => by kernel_rfl)
def y_xep : YF := ⟨[], [.v (.l (.st 5)), .v .i], [], .ret [.i], [.tmp 4],
 sq [qK 4 0] [0, 1] (.join [cv 1 .i] (sq [qK 5 0] (Kp 35) (bl 0 [cv 1 .i, cv 5 .i] (.seq (sw 6 [wM, wm 0, wZ, wB .lss 6] (Kp 547) (ce 9 (Kp 35) [1] 0)) (.seq (.block 1 (.seq (sw 12 [wm 0, wm 5, wE (.st 5) 12, wO 0, wL, wm 1, wB .neq 16] (Kp 262179) (cn 18 (Kp 35) (sq [qK 4 (-1)] [4] .ret))) (sr [wn 19 [wm 1, wI .add 1],
 qn [qa 1 20]] (Kp 35) (.seq (sw 21 [wm 0, wm 5, wE (.st 5) 21, wO 1, wL, wm 1, wB .neq 25] [0, 1, 5, 27] (cn 27 (Kp 35) (sq [qK 4 (-1)] [4] .ret))) (qr [wn 28 [wm 1, wI .add 1],
 qn [qa 1 29]] (Kp 35)))))) (qr [wn 10 [wm 5, wI .add 1],
 qn [qa 5 11]] (Kp 35)))))) (sq [qm 30 1, qa 4 30] [4] .ret))⟩
def d_xep_j2 (v6 : Int) : Option Int :=
 some v6
def d_xep_l1 (p0 : (List GPin)) (L1 : (Int × Int) -> Option Int) (x_ : (Int × Int)) : Option Int :=
 match x_ with
 | (v2, v3) => br (decide (v3 < (↑p0.length : Int)))
  (bd (at? p0 v3) fun x4 =>
  br (x4.At != v2)
   (some (-1))
   (bd (at? p0 v3) fun x5 =>
   br (x5.Id != w64 (v2 + 1))
    (some (-1))
    (L1 ((w64 (w64 (v2 + 1) + 1), w64 (v3 + 1))))))
  (jn (d_xep_j2) v2)
def d_xep (p0 : (List GPin)) (p1 : Int) : Option Int :=
 loopN (d_xep_l1 p0) big (p1, 0)
def gf_xep : GF := y_xep.gf rfl rfl (fun a => d_xep a.1 a.2.1) (fun a => by kernel_rfl)
def y_xeq : YF := ⟨[], [.v (.l (.l (.st 5))), .v .i], [], .ret [.i], [.tmp 4],
 sq [qK 4 0] [0, 1] (.join [cv 1 .i] (sq [qK 5 0] (Kp 35) (bl 0 [cv 1 .i, cv 5 .i] (.seq (sw 6 [wM, wm 0, wZ, wB .lss 6] (Kp 547) (ce 9 (Kp 35) [1] 0)) (.seq (.block 1 (sr [wn 12 [wm 0, wm 5, wE (.l (.st 5)) 12, wL, wm 1, wc gf_xep rfl [15, 16]],
 qn [qa 1 17]] (Kp 35) (sw 18 [wm 1, wI .lss 0] (Kp 524323) (cn 19 (Kp 35) (sq [qK 4 (-1)] [4] .ret))))) (qr [wn 10 [wm 5, wI .add 1],
 qn [qa 5 11]] (Kp 35)))))) (sq [qm 20 1, qa 4 20] [4] .ret))⟩
def d_xeq_j2 (v6 : Int) : Option Int :=
 some v6
def d_xeq_l1 (p0 : (List (List GPin))) (L1 : (Int × Int) -> Option Int) (x_ : (Int × Int)) : Option Int :=
 match x_ with
 | (v2, v3) => br (decide (v3 < (↑p0.length : Int)))
  (bd (at? p0 v3) fun x4 =>
  bd (d_xep x4 v2) fun x5 =>
  br (decide (x5 < 0))
   (some (-1))
   (L1 ((x5, w64 (v3 + 1)))))
  (jn (d_xeq_j2) v2)
def d_xeq (p0 : (List (List GPin))) (p1 : Int) : Option Int :=
 loopN (d_xeq_l1 p0) big (p1, 0)
def gf_xeq : GF := y_xeq.gf rfl rfl (fun a => d_xeq a.1 a.2.1) (fun a => by kernel_rfl)
def y_xer : YF := ⟨[], [.v (.l (.st 7)), .v .i], [], .ret [.i], [.tmp 4],
 sq [qK 4 0] [0, 1] (.join [cv 1 .i] (sq [qK 5 0] (Kp 35) (bl 0 [cv 1 .i, cv 5 .i] (.seq (sw 6 [wM, wm 0, wZ, wB .lss 6] (Kp 547) (ce 9 (Kp 35) [1] 0)) (.seq (.block 1 (.seq (sw 12 [wm 0, wm 5, wE (.st 7) 12, wO 0, wO 0, wL, wm 1, wB .neq 17] (Kp 524323) (cn 19 (Kp 35) (sq [qK 4 (-1)] [4] .ret))) (sr [wn 20 [wm 1, wI .add 1],
 qn [qa 1 21]] (Kp 35) (.seq (sw 22 [wm 0, wm 5, wE (.st 7) 22, wO 0, wO 1, wL, wm 1, wB .neq 27] [0, 1, 5, 29] (cn 29 (Kp 35) (sq [qK 4 (-1)] [4] .ret))) (sr [wn 30 [wm 1, wI .add 1],
 qn [qa 1 31]] (Kp 35) (.seq (sw 32 [wm 0, wm 5, wE (.st 7) 32, wO 0, wO 2, wL, wm 1, wB .neq 37] [0, 1, 5, 39] (cn 39 (Kp 35) (sq [qK 4 (-1)] [4] .ret))) (sr [wn 40 [wm 1, wI .add 1],
 qn [qa 1 41]] (Kp 35) (.seq (sw 42 [wm 0, wm 5, wE (.st 7) 42, wO 0, wO 3, wL, wm 1, wB .neq 47] [0, 1, 5, 49] (cn 49 (Kp 35) (sq [qK 4 (-1)] [4] .ret))) (sr [wn 50 [wm 1, wI .add 1],
 qn [qa 1 51]] (Kp 35) (.seq (sw 52 [wm 0, wm 5, wE (.st 7) 52, wO 0, wO 4, wL, wm 1, wB .neq 57] [0, 1, 5, 59] (cn 59 (Kp 35) (sq [qK 4 (-1)] [4] .ret))) (sr [wn 60 [wm 1, wI .add 1],
 qn [qa 1 61]] (Kp 35) (sr [wn 62 [wm 0, wm 5, wE (.st 7) 62, wO 5, wL, wm 1, wc gf_xeo rfl [66, 67]],
 qn [qa 1 68]] (Kp 35) (.seq (sw 69 [wm 1, wI .lss 0] [0, 1, 5, 70] (cn 70 (Kp 35) (sq [qK 4 (-1)] [4] .ret))) (sr [wn 71 [wm 0, wm 5, wE (.st 7) 71, wO 6, wO 0, wL, wm 1, wc gf_xeq rfl [76, 77]],
 qn [qa 1 78]] (Kp 35) (sw 79 [wm 1, wI .lss 0] [0, 1, 5, 80] (cn 80 (Kp 35) (sq [qK 4 (-1)] [4] .ret))))))))))))))))) (qr [wn 10 [wm 5, wI .add 1],
 qn [qa 5 11]] (Kp 35)))))) (sq [qm 81 1, qa 4 81] [4] .ret))⟩
def d_xer_j2 (v13 : Int) : Option Int :=
 some v13
def d_xer_l1 (p0 : (List GCabin)) (L1 : (Int × Int) -> Option Int) (x_ : (Int × Int)) : Option Int :=
 match x_ with
 | (v2, v3) => br (decide (v3 < (↑p0.length : Int)))
  (bd (at? p0 v3) fun x4 =>
  br (x4.Seats.Total != v2)
   (some (-1))
   (bd (at? p0 v3) fun x5 =>
   br (x5.Seats.Free != w64 (v2 + 1))
    (some (-1))
    (bd (at? p0 v3) fun x6 =>
    br (x6.Seats.Held != w64 (w64 (v2 + 1) + 1))
     (some (-1))
     (bd (at? p0 v3) fun x7 =>
     br (x7.Seats.Sold != w64 (w64 (w64 (v2 + 1) + 1) + 1))
      (some (-1))
      (bd (at? p0 v3) fun x8 =>
      br (x8.Seats.Tied != w64 (w64 (w64 (w64 (v2 + 1) + 1) + 1) + 1))
       (some (-1))
       (bd (at? p0 v3) fun x9 =>
       bd (d_xeo x9.Row (w64 (w64 (w64 (w64 (w64 (v2 + 1) + 1) + 1) + 1) + 1))) fun x10 =>
       br (decide (x10 < 0))
        (some (-1))
        (bd (at? p0 v3) fun x11 =>
        bd (d_xeq x11.Wheel.Spoke x10) fun x12 =>
        br (decide (x12 < 0))
         (some (-1))
         (L1 ((x12, w64 (v3 + 1)))))))))))
  (jn (d_xer_j2) v2)
def d_xer (p0 : (List GCabin)) (p1 : Int) : Option Int :=
 loopN (d_xer_l1 p0) big (p1, 0)
def gf_xer : GF := y_xer.gf rfl rfl (fun a => d_xer a.1 a.2.1) (fun a => by kernel_rfl)
def y_xes : YF := ⟨[], [.v (.st 8), .v .i], [], .ret [.i], [.tmp 4],
 sq [qu 2 0, qK 4 0] [1, 2] (sr [wn 5 [wo 0 2, wK 9, wm 1, wc gf_xem rfl [6, 7]],
 qn [qa 1 8]] [1, 2] (.seq (sw 9 [wm 1, wI .lss 0] (Kp 1030) (cn 10 [1, 2] (sq [qK 4 (-1)] [4] .ret))) (sr [wn 11 [wo 11 2, wL, wm 1, wc gf_xen rfl [12, 13]],
 qn [qa 1 14]] [1, 2] (.seq (sw 15 [wm 1, wI .lss 0] [1, 2, 16] (cn 16 [1, 2] (sq [qK 4 (-1)] [4] .ret))) (sr [wn 17 [wo 12 2, wL, wm 1, wc gf_xer rfl [18, 19]],
 qn [qa 1 20]] [1, 2] (.seq (sw 21 [wm 1, wI .lss 0] [1, 2, 22] (cn 22 [1, 2] (sq [qK 4 (-1)] [4] .ret))) (sr [wn 23 [wo 13 2, wL, wm 1, wc gf_xeg rfl [24, 25]],
 qn [qa 1 26]] [1, 2] (.seq (sw 27 [wm 1, wI .lss 0] [1, 2, 28] (cn 28 [1, 2] (sq [qK 4 (-1)] [4] .ret))) (sr [wn 29 [wo 14 2, wL, wm 1, wc gf_xeg rfl [30, 31]],
 qn [qa 1 32]] [1] (.seq (sw 33 [wm 1, wI .lss 0] [1, 34] (cn 34 [1] (sq [qK 4 (-1)] [4] .ret))) (sq [qm 35 1, qa 4 35] [4] .ret)))))))))))⟩
def d_xes (p0 : GHouse) (p1 : Int) : Option Int :=
 bd (d_xem p0.Rules p1) fun x1 =>
 br (decide (x1 < 0))
  (some (-1))
  (bd (d_xen p0.Parties x1) fun x2 =>
  br (decide (x2 < 0))
   (some (-1))
   (bd (d_xer p0.Cabins x2) fun x3 =>
   br (decide (x3 < 0))
    (some (-1))
    (bd (d_xeg p0.Todo x3) fun x4 =>
    br (decide (x4 < 0))
     (some (-1))
     (bd (d_xeg p0.Jobs x4) fun x5 =>
     br (decide (x5 < 0))
      (some (-1))
      (some x5)))))
def gf_xes : GF := y_xes.gf rfl rfl (fun a => d_xes a.1 a.2.1) (fun a => by kernel_rfl)
def y_xet : YF := ⟨[], [.v (.l (.st 0)), .v .i], [], .ret [.i], [.tmp 4],
 sq [qK 4 0] [0, 1] (.join [cv 1 .i] (sq [qK 5 0] (Kp 35) (bl 0 [cv 1 .i, cv 5 .i] (.seq (sw 6 [wM, wm 0, wZ, wB .lss 6] (Kp 547) (ce 9 (Kp 35) [1] 0)) (.seq (.block 1 (.seq (sw 12 [wm 0, wm 5, wE (.st 0) 12, wO 0, wL, wm 1, wB .neq 16] (Kp 262179) (cn 18 (Kp 35) (sq [qK 4 (-1)] [4] .ret))) (sr [wn 19 [wm 1, wI .add 1],
 qn [qa 1 20]] (Kp 35) (.seq (sw 21 [wm 0, wm 5, wE (.st 0) 21, wO 1, wL, wm 1, wB .neq 25] [0, 1, 5, 27] (cn 27 (Kp 35) (sq [qK 4 (-1)] [4] .ret))) (sr [wn 28 [wm 1, wI .add 1],
 qn [qa 1 29]] (Kp 35) (.seq (sw 30 [wm 0, wm 5, wE (.st 0) 30, wO 2, wL, wm 1, wB .neq 34] [0, 1, 5, 36] (cn 36 (Kp 35) (sq [qK 4 (-1)] [4] .ret))) (sr [wn 37 [wm 1, wI .add 1],
 qn [qa 1 38]] (Kp 35) (.seq (sw 39 [wm 0, wm 5, wE (.st 0) 39, wO 3, wL, wm 1, wB .neq 43] [0, 1, 5, 45] (cn 45 (Kp 35) (sq [qK 4 (-1)] [4] .ret))) (sr [wn 46 [wm 1, wI .add 1],
 qn [qa 1 47]] (Kp 35) (.seq (sw 48 [wm 0, wm 5, wE (.st 0) 48, wO 4, wL, wm 1, wB .neq 52] [0, 1, 5, 54] (cn 54 (Kp 35) (sq [qK 4 (-1)] [4] .ret))) (sr [wn 55 [wm 1, wI .add 1],
 qn [qa 1 56]] (Kp 35) (.seq (sw 57 [wm 0, wm 5, wE (.st 0) 57, wO 5, wL, wm 1, wB .neq 61] [0, 1, 5, 63] (cn 63 (Kp 35) (sq [qK 4 (-1)] [4] .ret))) (qr [wn 64 [wm 1, wI .add 1],
 qn [qa 1 65]] (Kp 35)))))))))))))) (qr [wn 10 [wm 5, wI .add 1],
 qn [qa 5 11]] (Kp 35)))))) (sq [qm 66 1, qa 4 66] [4] .ret))⟩
def d_xet_j2 (v10 : Int) : Option Int :=
 some v10
def d_xet_l1 (p0 : (List GReq)) (L1 : (Int × Int) -> Option Int) (x_ : (Int × Int)) : Option Int :=
 match x_ with
 | (v2, v3) => br (decide (v3 < (↑p0.length : Int)))
  (bd (at? p0 v3) fun x4 =>
  br (x4.Kind != v2)
   (some (-1))
   (bd (at? p0 v3) fun x5 =>
   br (x5.Id != w64 (v2 + 1))
    (some (-1))
    (bd (at? p0 v3) fun x6 =>
    br (x6.Cabin != w64 (w64 (v2 + 1) + 1))
     (some (-1))
     (bd (at? p0 v3) fun x7 =>
     br (x7.From != w64 (w64 (w64 (v2 + 1) + 1) + 1))
      (some (-1))
      (bd (at? p0 v3) fun x8 =>
      br (x8.Size != w64 (w64 (w64 (w64 (v2 + 1) + 1) + 1) + 1))
       (some (-1))
       (bd (at? p0 v3) fun x9 =>
       br (x9.Tier != w64 (w64 (w64 (w64 (w64 (v2 + 1) + 1) + 1) + 1) + 1))
        (some (-1))
        (L1 ((w64 (w64 (w64 (w64 (w64 (w64 (v2 + 1) + 1) + 1) + 1) + 1) + 1), w64 (v3 + 1))))))))))
  (jn (d_xet_j2) v2)
def d_xet (p0 : (List GReq)) (p1 : Int) : Option Int :=
 loopN (d_xet_l1 p0) big (p1, 0)
def gf_xet : GF := y_xet.gf rfl rfl (fun a => d_xet a.1 a.2.1) (fun a => by kernel_rfl)
def y_xeu : YF := ⟨[], [.v (.st 11), .v .i], [], .ret [.i], [.tmp 4],
 sq [qu 2 0, qK 4 0] [1, 2] (sr [wn 5 [wo 0 2, wK 15, wm 1, wc gf_xes rfl [6, 7]],
 qn [qa 1 8]] [1, 2] (.seq (sw 9 [wm 1, wI .lss 0] (Kp 1030) (cn 10 [1, 2] (sq [qK 4 (-1)] [4] .ret))) (sr [wn 11 [wo 22 2, wL, wm 1, wc gf_xet rfl [12, 13]],
 qn [qa 1 14]] [1] (.seq (sw 15 [wm 1, wI .lss 0] [1, 16] (cn 16 [1] (sq [qK 4 (-1)] [4] .ret))) (sq [qm 17 1, qa 4 17] [4] .ret)))))⟩
def d_xeu (p0 : GEngine) (p1 : Int) : Option Int :=
 bd (d_xes p0.House p1) fun x1 =>
 br (decide (x1 < 0))
  (some (-1))
  (bd (d_xet p0.Laid x1) fun x2 =>
  br (decide (x2 < 0))
   (some (-1))
   (some x2))
def gf_xeu : GF := y_xeu.gf rfl rfl (fun a => d_xeu a.1 a.2.1) (fun a => by kernel_rfl)
end
end Lv
set_option maxRecDepth 100000
namespace Lv
open Go (IntKind BinOp UnOp)
noncomputable section
open Y (YF qn qf qt qr q1 qd qm qa qo ql qL qb qi qx qp qq qc qz qe qk qK qB qw qu qj Kp wn wf wt w1 sw sq sr wm wM wo wO wl wL wk wK wz wZ wx wX wb wB wi wI wr wR wq wQ we wE wc wY wj wh cv ca cx cn ce bl)
def y_xev : YF := ⟨[], [.v (.st 6)], [], .ret [(.st 6)], [.cell 2 (some 1)],
 sq [qu 1 0, .alloc 2 [.nil], .nils [(.cell 2 0, (.l (.st 5)))]] [1, 2] (sq [.build 5 [.nil] [], .nils [(.tmp 5 0, (.l (.st 5)))], .alloc 3 [.nil], .nils [(.cell 3 0, (.l (.st 5)))], qw 1 3 5] (Kp 14) (.join [cx 3 (.st 6)] (sq [qK 4 0] (Kp 30) (bl 0 [cv 4 .i, cx 3 (.st 6)] (.seq (sw 6 [wm 4, wo 0 1, wL, wZ, wB .lss 6] (Kp 1054) (ce 10 (Kp 30) [2, 3] 0)) (.seq (.block 1 (.dreg (qd 0 [wn 13 [wo 0 3, wL]] (qd 3 [wn 16 [wo 0 1, wL, wm 4, wE (.l (.st 5)) 17, wL]] (.op 2 none [13, 16, 19] (.bslice 15 0 (.st 5) [])
 (.op 8 none [13] (.app 21 (.st 5) true (.tmp 15) (.tmp 20))
 (.op 9 none [13] (.bslice 22 1 (.l (.st 5)) [(0, (.tmp 21))])
 (qd 10 [wn 23 [wh (.app · (.l (.st 5)) false (.tmp 14) (.tmp 22)), wo 0 3],
 qn [qw 1 24 23]] .nil)))))) [1, 2, 3, 4])) (qr [wn 11 [wm 4, wI .add 1],
 qn [qa 4 12]] (Kp 30)))))) (sq [qL 25 1 3, qw 1 2 25] [2] .ret)))⟩
def d_xev_j2 (v5 : GWheel) : Option GWheel :=
 some v5
def d_xev_l1 (p0 : GWheel) (L1 : (Int × GWheel) -> Option GWheel) (x_ : (Int × GWheel)) : Option GWheel :=
 match x_ with
 | (v2, v3) => br (decide (v2 < (↑p0.Spoke.length : Int)))
  (bd (at? p0.Spoke v2) fun x4 =>
  gd (0 + List.length x4 <= lim) (
  gd (v3.Spoke.length + [[] ++ x4].length <= lim) (
  L1 ((w64 (v2 + 1), GWheel.mk (v3.Spoke ++ [[] ++ x4]))))))
  (jn (d_xev_j2) v3)
def d_xev (p0 : GWheel) : Option GWheel :=
 loopN (d_xev_l1 p0) big (0, GWheel.mk [])
def gf_xev : GF := y_xev.gf rfl rfl (fun a => d_xev a.1) (fun a => by kernel_rfl)
def y_xew : YF := ⟨[], [.v (.st 7)], [], .ret [(.st 7)], [.cell 2 (some 7)],
 sq [qu 1 0, .alloc 2 zGCabin, .nils [(.cell 2 5, (.st 4)), (.cell 2 6, (.l (.st 5)))]] [1, 2] (.seq (.dreg (qd 0 [wn 3 [wo 0 1, wK 5, wo 5 1, wL]] (qd 5 [wn 8 [wo 6 1, wK 1]] (.op 4 none [3, 8] (.call 7 gf_xbp [] rfl [(.tmp 6)])
 (.op 7 none [3] (.call 10 gf_xev [] rfl [(.tmp 9)])
 (qd 8 [qn [.build 11 zGCabin [(0, 5, (.tmp 4)), (5, 1, (.tmp 7)), (6, 1, (.tmp 10))], qw 7 2 11]] .nil))))) [2]) .ret)⟩
def d_xew (p0 : GCabin) : Option GCabin :=
 bd (d_xbp p0.Row) fun x1 =>
 bd (d_xev p0.Wheel) fun x2 =>
 some (GCabin.mk p0.Seats x1 x2)
def gf_xew : GF := y_xew.gf rfl rfl (fun a => d_xew a.1) (fun a => by kernel_rfl)
def o_xex_0 : Y.YOp [] := .app 19 .i true (.tmp 16) (.tmp 18)
def o_xex_1 : Y.YOp [] := .app 15 (.st 2) true (.tmp 12) (.tmp 14)
def o_xex_2 : Y.YOp [] := .call 7 gf_xeh [] rfl [(.tmp 6)]
def r_xex_0 : Y.YRun [] := (.op 21 none [] (.st 15 (.tmp 3) (.tmp 24))
 (.dr [5, 6, 7, 8, 9, 10, 11, 12, 13, 14, 15, 16, 17, 18, 19, 20, 21, 22, 23, 24] .nil))
def r_xex_1 : Y.YRun [] := (.op 20 none [5, 8, 10, 13, 17, 21] (.alloc 3 zGHouse)
 (.nl [(.cell 3 0, .i), (.cell 3 11, (.st 2)), (.cell 3 12, (.st 7)), (.cell 3 13, .i), (.cell 3 14, .i)] r_xex_0))
def r_xex_2 : Y.YRun [] := (.op 19 none [] (.build 24 zGHouse [(0, 9, (.tmp 7)), (9, 1, (.tmp 9)), (10, 1, (.tmp 11)), (11, 1, (.tmp 15)), (13, 1, (.tmp 19)), (14, 1, (.tmp 23))])
 (.nl [(.tmp 24 12, (.st 7))] r_xex_1))
def r_xex_3 : Y.YRun [] := (.op 18 none [8, 10] (.app 23 .i true (.tmp 20) (.tmp 22))
 r_xex_2)
def r_xex_4 : Y.YRun [] := (.op 19 none [] (.build 24 zGHouse [(0, 9, (.tmp 7)), (9, 1, (.tmp 9)), (10, 1, (.tmp 11)), (11, 1, (.tmp 15)), (13, 1, (.tmp 19)), (14, 1, (.tmp 23))])
 (.nl [(.tmp 24 12, (.st 7))] r_xex_0))
def r_xex_5 : Y.YRun [] := (.op 18 none [8, 10] (.app 23 .i true (.tmp 20) (.tmp 22))
 r_xex_4)
def r_xex_6 : Y.YRun [] := (.op 20 none [5, 8, 10, 13, 17, 21] (.alloc 3 zGHouse)
 (.nl [(.cell 3 0, .i), (.cell 3 11, (.st 2)), (.cell 3 12, (.st 7)), (.cell 3 13, .i), (.cell 3 14, .i)] r_xex_5))
def r_xex_7 : Y.YRun [] := (.both 1 r_xex_3 r_xex_6)
def r_xex_8 : Y.YRun [] := (.op 15 none [5, 8, 10, 13, 17, 21] (.bslice 20 0 .i [])
 r_xex_7)
def r_xex_9 : Y.YRun [] := (.op 15 none [5, 8, 10, 13, 17, 21] (.bslice 20 0 .i [])
 r_xex_5)
def r_xex_10 : Y.YRun [] := (.op 20 none [5, 8, 10, 13, 17, 21] (.alloc 3 zGHouse)
 (.nl [(.cell 3 0, .i), (.cell 3 11, (.st 2)), (.cell 3 12, (.st 7)), (.cell 3 13, .i), (.cell 3 14, .i)] r_xex_9))
def r_xex_11 : Y.YRun [] := (.both 1 r_xex_8 r_xex_10)
def r_xex_12 : Y.YRun [] := (.op 14 none [8, 10, 21] o_xex_0
 r_xex_11)
def r_xex_13 : Y.YRun [] := (.op 14 none [8, 10, 21] o_xex_0
 r_xex_7)
def r_xex_14 : Y.YRun [] := (.op 14 none [8, 10, 21] o_xex_0
 r_xex_5)
def r_xex_15 : Y.YRun [] := (.op 20 none [5, 8, 10, 13, 17, 21] (.alloc 3 zGHouse)
 (.nl [(.cell 3 0, .i), (.cell 3 11, (.st 2)), (.cell 3 12, (.st 7)), (.cell 3 13, .i), (.cell 3 14, .i)] r_xex_14))
def r_xex_16 : Y.YRun [] := (.both 1 r_xex_13 r_xex_15)
def r_xex_17 : Y.YRun [] := (.op 15 none [5, 8, 10, 13, 17, 21] (.bslice 20 0 .i [])
 r_xex_16)
def r_xex_18 : Y.YRun [] := (.op 14 none [8, 10, 21] o_xex_0
 r_xex_9)
def r_xex_19 : Y.YRun [] := (.op 15 none [5, 8, 10, 13, 17, 21] (.bslice 20 0 .i [])
 r_xex_14)
def r_xex_20 : Y.YRun [] := (.both 1 r_xex_18 r_xex_19)
def r_xex_21 : Y.YRun [] := (.op 20 none [5, 8, 10, 13, 17, 21] (.alloc 3 zGHouse)
 (.nl [(.cell 3 0, .i), (.cell 3 11, (.st 2)), (.cell 3 12, (.st 7)), (.cell 3 13, .i), (.cell 3 14, .i)] r_xex_20))
def r_xex_22 : Y.YRun [] := (.both 1 r_xex_17 r_xex_21)
def r_xex_23 : Y.YRun [] := (.both 1 r_xex_12 r_xex_22)
def r_xex_24 : Y.YRun [] := (.op 11 none [5, 8, 10, 13, 17, 21] (.bslice 16 0 .i [])
 r_xex_23)
def r_xex_25 : Y.YRun [] := (.op 11 none [5, 8, 10, 13, 17, 21] (.bslice 16 0 .i [])
 r_xex_16)
def r_xex_26 : Y.YRun [] := (.op 11 none [5, 8, 10, 13, 17, 21] (.bslice 16 0 .i [])
 r_xex_14)
def r_xex_27 : Y.YRun [] := (.op 20 none [5, 8, 10, 13, 17, 21] (.alloc 3 zGHouse)
 (.nl [(.cell 3 0, .i), (.cell 3 11, (.st 2)), (.cell 3 12, (.st 7)), (.cell 3 13, .i), (.cell 3 14, .i)] r_xex_26))
def r_xex_28 : Y.YRun [] := (.both 1 r_xex_25 r_xex_27)
def r_xex_29 : Y.YRun [] := (.op 15 none [5, 8, 10, 13, 17, 21] (.bslice 20 0 .i [])
 r_xex_28)
def r_xex_30 : Y.YRun [] := (.op 11 none [5, 8, 10, 13, 17, 21] (.bslice 16 0 .i [])
 r_xex_20)
def r_xex_31 : Y.YRun [] := (.op 15 none [5, 8, 10, 13, 17, 21] (.bslice 20 0 .i [])
 r_xex_26)
def r_xex_32 : Y.YRun [] := (.both 1 r_xex_30 r_xex_31)
def r_xex_33 : Y.YRun [] := (.op 20 none [5, 8, 10, 13, 17, 21] (.alloc 3 zGHouse)
 (.nl [(.cell 3 0, .i), (.cell 3 11, (.st 2)), (.cell 3 12, (.st 7)), (.cell 3 13, .i), (.cell 3 14, .i)] r_xex_32))
def r_xex_34 : Y.YRun [] := (.both 1 r_xex_29 r_xex_33)
def r_xex_35 : Y.YRun [] := (.both 1 r_xex_24 r_xex_34)
def r_xex_36 : Y.YRun [] := (.op 10 none [8, 10, 17, 21] o_xex_1
 r_xex_35)
def r_xex_37 : Y.YRun [] := (.op 10 none [8, 10, 17, 21] o_xex_1
 r_xex_23)
def r_xex_38 : Y.YRun [] := (.op 10 none [8, 10, 17, 21] o_xex_1
 r_xex_16)
def r_xex_39 : Y.YRun [] := (.op 10 none [8, 10, 17, 21] o_xex_1
 r_xex_14)
def r_xex_40 : Y.YRun [] := (.op 20 none [5, 8, 10, 13, 17, 21] (.alloc 3 zGHouse)
 (.nl [(.cell 3 0, .i), (.cell 3 11, (.st 2)), (.cell 3 12, (.st 7)), (.cell 3 13, .i), (.cell 3 14, .i)] r_xex_39))
def r_xex_41 : Y.YRun [] := (.both 1 r_xex_38 r_xex_40)
def r_xex_42 : Y.YRun [] := (.op 15 none [5, 8, 10, 13, 17, 21] (.bslice 20 0 .i [])
 r_xex_41)
def r_xex_43 : Y.YRun [] := (.op 10 none [8, 10, 17, 21] o_xex_1
 r_xex_20)
def r_xex_44 : Y.YRun [] := (.op 15 none [5, 8, 10, 13, 17, 21] (.bslice 20 0 .i [])
 r_xex_39)
def r_xex_45 : Y.YRun [] := (.both 1 r_xex_43 r_xex_44)
def r_xex_46 : Y.YRun [] := (.op 20 none [5, 8, 10, 13, 17, 21] (.alloc 3 zGHouse)
 (.nl [(.cell 3 0, .i), (.cell 3 11, (.st 2)), (.cell 3 12, (.st 7)), (.cell 3 13, .i), (.cell 3 14, .i)] r_xex_45))
def r_xex_47 : Y.YRun [] := (.both 1 r_xex_42 r_xex_46)
def r_xex_48 : Y.YRun [] := (.both 1 r_xex_37 r_xex_47)
def r_xex_49 : Y.YRun [] := (.op 11 none [5, 8, 10, 13, 17, 21] (.bslice 16 0 .i [])
 r_xex_48)
def r_xex_50 : Y.YRun [] := (.op 10 none [8, 10, 17, 21] o_xex_1
 r_xex_28)
def r_xex_51 : Y.YRun [] := (.op 11 none [5, 8, 10, 13, 17, 21] (.bslice 16 0 .i [])
 r_xex_41)
def r_xex_52 : Y.YRun [] := (.op 10 none [8, 10, 17, 21] o_xex_1
 r_xex_26)
def r_xex_53 : Y.YRun [] := (.op 11 none [5, 8, 10, 13, 17, 21] (.bslice 16 0 .i [])
 r_xex_39)
def r_xex_54 : Y.YRun [] := (.both 1 r_xex_52 r_xex_53)
def r_xex_55 : Y.YRun [] := (.op 20 none [5, 8, 10, 13, 17, 21] (.alloc 3 zGHouse)
 (.nl [(.cell 3 0, .i), (.cell 3 11, (.st 2)), (.cell 3 12, (.st 7)), (.cell 3 13, .i), (.cell 3 14, .i)] r_xex_54))
def r_xex_56 : Y.YRun [] := (.both 1 r_xex_51 r_xex_55)
def r_xex_57 : Y.YRun [] := (.both 1 r_xex_50 r_xex_56)
def r_xex_58 : Y.YRun [] := (.op 15 none [5, 8, 10, 13, 17, 21] (.bslice 20 0 .i [])
 r_xex_57)
def r_xex_59 : Y.YRun [] := (.op 10 none [8, 10, 17, 21] o_xex_1
 r_xex_32)
def r_xex_60 : Y.YRun [] := (.op 11 none [5, 8, 10, 13, 17, 21] (.bslice 16 0 .i [])
 r_xex_45)
def r_xex_61 : Y.YRun [] := (.op 15 none [5, 8, 10, 13, 17, 21] (.bslice 20 0 .i [])
 r_xex_54)
def r_xex_62 : Y.YRun [] := (.both 1 r_xex_60 r_xex_61)
def r_xex_63 : Y.YRun [] := (.both 1 r_xex_59 r_xex_62)
def r_xex_64 : Y.YRun [] := (.op 20 none [5, 8, 10, 13, 17, 21] (.alloc 3 zGHouse)
 (.nl [(.cell 3 0, .i), (.cell 3 11, (.st 2)), (.cell 3 12, (.st 7)), (.cell 3 13, .i), (.cell 3 14, .i)] r_xex_63))
def r_xex_65 : Y.YRun [] := (.both 1 r_xex_58 r_xex_64)
def r_xex_66 : Y.YRun [] := (.both 1 r_xex_49 r_xex_65)
def r_xex_67 : Y.YRun [] := (.both 1 r_xex_36 r_xex_66)
def r_xex_68 : Y.YRun [] := (.op 7 none [5, 8, 10, 13, 17, 21] (.bslice 12 0 (.st 2) [])
 r_xex_67)
def r_xex_69 : Y.YRun [] := (.op 7 none [5, 8, 10, 13, 17, 21] (.bslice 12 0 (.st 2) [])
 r_xex_48)
def r_xex_70 : Y.YRun [] := (.op 7 none [5, 8, 10, 13, 17, 21] (.bslice 12 0 (.st 2) [])
 r_xex_41)
def r_xex_71 : Y.YRun [] := (.op 7 none [5, 8, 10, 13, 17, 21] (.bslice 12 0 (.st 2) [])
 r_xex_39)
def r_xex_72 : Y.YRun [] := (.op 20 none [5, 8, 10, 13, 17, 21] (.alloc 3 zGHouse)
 (.nl [(.cell 3 0, .i), (.cell 3 11, (.st 2)), (.cell 3 12, (.st 7)), (.cell 3 13, .i), (.cell 3 14, .i)] r_xex_71))
def r_xex_73 : Y.YRun [] := (.both 1 r_xex_70 r_xex_72)
def r_xex_74 : Y.YRun [] := (.op 15 none [5, 8, 10, 13, 17, 21] (.bslice 20 0 .i [])
 r_xex_73)
def r_xex_75 : Y.YRun [] := (.op 7 none [5, 8, 10, 13, 17, 21] (.bslice 12 0 (.st 2) [])
 r_xex_45)
def r_xex_76 : Y.YRun [] := (.op 15 none [5, 8, 10, 13, 17, 21] (.bslice 20 0 .i [])
 r_xex_71)
def r_xex_77 : Y.YRun [] := (.both 1 r_xex_75 r_xex_76)
def r_xex_78 : Y.YRun [] := (.op 20 none [5, 8, 10, 13, 17, 21] (.alloc 3 zGHouse)
 (.nl [(.cell 3 0, .i), (.cell 3 11, (.st 2)), (.cell 3 12, (.st 7)), (.cell 3 13, .i), (.cell 3 14, .i)] r_xex_77))
def r_xex_79 : Y.YRun [] := (.both 1 r_xex_74 r_xex_78)
def r_xex_80 : Y.YRun [] := (.both 1 r_xex_69 r_xex_79)
def r_xex_81 : Y.YRun [] := (.op 11 none [5, 8, 10, 13, 17, 21] (.bslice 16 0 .i [])
 r_xex_80)
def r_xex_82 : Y.YRun [] := (.op 7 none [5, 8, 10, 13, 17, 21] (.bslice 12 0 (.st 2) [])
 r_xex_57)
def r_xex_83 : Y.YRun [] := (.op 11 none [5, 8, 10, 13, 17, 21] (.bslice 16 0 .i [])
 r_xex_73)
def r_xex_84 : Y.YRun [] := (.op 7 none [5, 8, 10, 13, 17, 21] (.bslice 12 0 (.st 2) [])
 r_xex_54)
def r_xex_85 : Y.YRun [] := (.op 11 none [5, 8, 10, 13, 17, 21] (.bslice 16 0 .i [])
 r_xex_71)
def r_xex_86 : Y.YRun [] := (.both 1 r_xex_84 r_xex_85)
def r_xex_87 : Y.YRun [] := (.op 20 none [5, 8, 10, 13, 17, 21] (.alloc 3 zGHouse)
 (.nl [(.cell 3 0, .i), (.cell 3 11, (.st 2)), (.cell 3 12, (.st 7)), (.cell 3 13, .i), (.cell 3 14, .i)] r_xex_86))
def r_xex_88 : Y.YRun [] := (.both 1 r_xex_83 r_xex_87)
def r_xex_89 : Y.YRun [] := (.both 1 r_xex_82 r_xex_88)
def r_xex_90 : Y.YRun [] := (.op 15 none [5, 8, 10, 13, 17, 21] (.bslice 20 0 .i [])
 r_xex_89)
def r_xex_91 : Y.YRun [] := (.op 7 none [5, 8, 10, 13, 17, 21] (.bslice 12 0 (.st 2) [])
 r_xex_63)
def r_xex_92 : Y.YRun [] := (.op 11 none [5, 8, 10, 13, 17, 21] (.bslice 16 0 .i [])
 r_xex_77)
def r_xex_93 : Y.YRun [] := (.op 15 none [5, 8, 10, 13, 17, 21] (.bslice 20 0 .i [])
 r_xex_86)
def r_xex_94 : Y.YRun [] := (.both 1 r_xex_92 r_xex_93)
def r_xex_95 : Y.YRun [] := (.both 1 r_xex_91 r_xex_94)
def r_xex_96 : Y.YRun [] := (.op 20 none [5, 8, 10, 13, 17, 21] (.alloc 3 zGHouse)
 (.nl [(.cell 3 0, .i), (.cell 3 11, (.st 2)), (.cell 3 12, (.st 7)), (.cell 3 13, .i), (.cell 3 14, .i)] r_xex_95))
def r_xex_97 : Y.YRun [] := (.both 1 r_xex_90 r_xex_96)
def r_xex_98 : Y.YRun [] := (.both 1 r_xex_81 r_xex_97)
def r_xex_99 : Y.YRun [] := (.both 1 r_xex_68 r_xex_98)
def r_xex_100 : Y.YRun [] := (.op 2 none [8, 10, 13, 17, 21] o_xex_2
 r_xex_99)
def r_xex_101 : Y.YRun [] := (.op 2 none [8, 10, 13, 17, 21] o_xex_2
 r_xex_67)
def r_xex_102 : Y.YRun [] := (.op 2 none [8, 10, 13, 17, 21] o_xex_2
 r_xex_48)
def r_xex_103 : Y.YRun [] := (.op 2 none [8, 10, 13, 17, 21] o_xex_2
 r_xex_41)
def r_xex_104 : Y.YRun [] := (.op 2 none [8, 10, 13, 17, 21] o_xex_2
 r_xex_39)
def r_xex_105 : Y.YRun [] := (.op 20 none [5, 8, 10, 13, 17, 21] (.alloc 3 zGHouse)
 (.nl [(.cell 3 0, .i), (.cell 3 11, (.st 2)), (.cell 3 12, (.st 7)), (.cell 3 13, .i), (.cell 3 14, .i)] r_xex_104))
def r_xex_106 : Y.YRun [] := (.both 1 r_xex_103 r_xex_105)
def r_xex_107 : Y.YRun [] := (.op 15 none [5, 8, 10, 13, 17, 21] (.bslice 20 0 .i [])
 r_xex_106)
def r_xex_108 : Y.YRun [] := (.op 2 none [8, 10, 13, 17, 21] o_xex_2
 r_xex_45)
def r_xex_109 : Y.YRun [] := (.op 15 none [5, 8, 10, 13, 17, 21] (.bslice 20 0 .i [])
 r_xex_104)
def r_xex_110 : Y.YRun [] := (.both 1 r_xex_108 r_xex_109)
def r_xex_111 : Y.YRun [] := (.op 20 none [5, 8, 10, 13, 17, 21] (.alloc 3 zGHouse)
 (.nl [(.cell 3 0, .i), (.cell 3 11, (.st 2)), (.cell 3 12, (.st 7)), (.cell 3 13, .i), (.cell 3 14, .i)] r_xex_110))
def r_xex_112 : Y.YRun [] := (.both 1 r_xex_107 r_xex_111)
def r_xex_113 : Y.YRun [] := (.both 1 r_xex_102 r_xex_112)
def r_xex_114 : Y.YRun [] := (.op 11 none [5, 8, 10, 13, 17, 21] (.bslice 16 0 .i [])
 r_xex_113)
def r_xex_115 : Y.YRun [] := (.op 2 none [8, 10, 13, 17, 21] o_xex_2
 r_xex_57)
def r_xex_116 : Y.YRun [] := (.op 11 none [5, 8, 10, 13, 17, 21] (.bslice 16 0 .i [])
 r_xex_106)
def r_xex_117 : Y.YRun [] := (.op 2 none [8, 10, 13, 17, 21] o_xex_2
 r_xex_54)
def r_xex_118 : Y.YRun [] := (.op 11 none [5, 8, 10, 13, 17, 21] (.bslice 16 0 .i [])
 r_xex_104)
def r_xex_119 : Y.YRun [] := (.both 1 r_xex_117 r_xex_118)
def r_xex_120 : Y.YRun [] := (.op 20 none [5, 8, 10, 13, 17, 21] (.alloc 3 zGHouse)
 (.nl [(.cell 3 0, .i), (.cell 3 11, (.st 2)), (.cell 3 12, (.st 7)), (.cell 3 13, .i), (.cell 3 14, .i)] r_xex_119))
def r_xex_121 : Y.YRun [] := (.both 1 r_xex_116 r_xex_120)
def r_xex_122 : Y.YRun [] := (.both 1 r_xex_115 r_xex_121)
def r_xex_123 : Y.YRun [] := (.op 15 none [5, 8, 10, 13, 17, 21] (.bslice 20 0 .i [])
 r_xex_122)
def r_xex_124 : Y.YRun [] := (.op 2 none [8, 10, 13, 17, 21] o_xex_2
 r_xex_63)
def r_xex_125 : Y.YRun [] := (.op 11 none [5, 8, 10, 13, 17, 21] (.bslice 16 0 .i [])
 r_xex_110)
def r_xex_126 : Y.YRun [] := (.op 15 none [5, 8, 10, 13, 17, 21] (.bslice 20 0 .i [])
 r_xex_119)
def r_xex_127 : Y.YRun [] := (.both 1 r_xex_125 r_xex_126)
def r_xex_128 : Y.YRun [] := (.both 1 r_xex_124 r_xex_127)
def r_xex_129 : Y.YRun [] := (.op 20 none [5, 8, 10, 13, 17, 21] (.alloc 3 zGHouse)
 (.nl [(.cell 3 0, .i), (.cell 3 11, (.st 2)), (.cell 3 12, (.st 7)), (.cell 3 13, .i), (.cell 3 14, .i)] r_xex_128))
def r_xex_130 : Y.YRun [] := (.both 1 r_xex_123 r_xex_129)
def r_xex_131 : Y.YRun [] := (.both 1 r_xex_114 r_xex_130)
def r_xex_132 : Y.YRun [] := (.both 1 r_xex_101 r_xex_131)
def r_xex_133 : Y.YRun [] := (.op 7 none [5, 8, 10, 13, 17, 21] (.bslice 12 0 (.st 2) [])
 r_xex_132)
def r_xex_134 : Y.YRun [] := (.op 2 none [8, 10, 13, 17, 21] o_xex_2
 r_xex_80)
def r_xex_135 : Y.YRun [] := (.op 7 none [5, 8, 10, 13, 17, 21] (.bslice 12 0 (.st 2) [])
 r_xex_113)
def r_xex_136 : Y.YRun [] := (.op 2 none [8, 10, 13, 17, 21] o_xex_2
 r_xex_73)
def r_xex_137 : Y.YRun [] := (.op 7 none [5, 8, 10, 13, 17, 21] (.bslice 12 0 (.st 2) [])
 r_xex_106)
def r_xex_138 : Y.YRun [] := (.op 2 none [8, 10, 13, 17, 21] o_xex_2
 r_xex_71)
def r_xex_139 : Y.YRun [] := (.op 7 none [5, 8, 10, 13, 17, 21] (.bslice 12 0 (.st 2) [])
 r_xex_104)
def r_xex_140 : Y.YRun [] := (.both 1 r_xex_138 r_xex_139)
def r_xex_141 : Y.YRun [] := (.op 20 none [5, 8, 10, 13, 17, 21] (.alloc 3 zGHouse)
 (.nl [(.cell 3 0, .i), (.cell 3 11, (.st 2)), (.cell 3 12, (.st 7)), (.cell 3 13, .i), (.cell 3 14, .i)] r_xex_140))
def r_xex_142 : Y.YRun [] := (.both 1 r_xex_137 r_xex_141)
def r_xex_143 : Y.YRun [] := (.both 1 r_xex_136 r_xex_142)
def r_xex_144 : Y.YRun [] := (.op 15 none [5, 8, 10, 13, 17, 21] (.bslice 20 0 .i [])
 r_xex_143)
def r_xex_145 : Y.YRun [] := (.op 2 none [8, 10, 13, 17, 21] o_xex_2
 r_xex_77)
def r_xex_146 : Y.YRun [] := (.op 7 none [5, 8, 10, 13, 17, 21] (.bslice 12 0 (.st 2) [])
 r_xex_110)
def r_xex_147 : Y.YRun [] := (.op 15 none [5, 8, 10, 13, 17, 21] (.bslice 20 0 .i [])
 r_xex_140)
def r_xex_148 : Y.YRun [] := (.both 1 r_xex_146 r_xex_147)
def r_xex_149 : Y.YRun [] := (.both 1 r_xex_145 r_xex_148)
def r_xex_150 : Y.YRun [] := (.op 20 none [5, 8, 10, 13, 17, 21] (.alloc 3 zGHouse)
 (.nl [(.cell 3 0, .i), (.cell 3 11, (.st 2)), (.cell 3 12, (.st 7)), (.cell 3 13, .i), (.cell 3 14, .i)] r_xex_149))
def r_xex_151 : Y.YRun [] := (.both 1 r_xex_144 r_xex_150)
def r_xex_152 : Y.YRun [] := (.both 1 r_xex_135 r_xex_151)
def r_xex_153 : Y.YRun [] := (.both 1 r_xex_134 r_xex_152)
def r_xex_154 : Y.YRun [] := (.op 11 none [5, 8, 10, 13, 17, 21] (.bslice 16 0 .i [])
 r_xex_153)
def r_xex_155 : Y.YRun [] := (.op 2 none [8, 10, 13, 17, 21] o_xex_2
 r_xex_89)
def r_xex_156 : Y.YRun [] := (.op 7 none [5, 8, 10, 13, 17, 21] (.bslice 12 0 (.st 2) [])
 r_xex_122)
def r_xex_157 : Y.YRun [] := (.op 11 none [5, 8, 10, 13, 17, 21] (.bslice 16 0 .i [])
 r_xex_143)
def r_xex_158 : Y.YRun [] := (.op 2 none [8, 10, 13, 17, 21] o_xex_2
 r_xex_86)
def r_xex_159 : Y.YRun [] := (.op 7 none [5, 8, 10, 13, 17, 21] (.bslice 12 0 (.st 2) [])
 r_xex_119)
def r_xex_160 : Y.YRun [] := (.op 11 none [5, 8, 10, 13, 17, 21] (.bslice 16 0 .i [])
 r_xex_140)
def r_xex_161 : Y.YRun [] := (.both 1 r_xex_159 r_xex_160)
def r_xex_162 : Y.YRun [] := (.both 1 r_xex_158 r_xex_161)
def r_xex_163 : Y.YRun [] := (.op 20 none [5, 8, 10, 13, 17, 21] (.alloc 3 zGHouse)
 (.nl [(.cell 3 0, .i), (.cell 3 11, (.st 2)), (.cell 3 12, (.st 7)), (.cell 3 13, .i), (.cell 3 14, .i)] r_xex_162))
def r_xex_164 : Y.YRun [] := (.both 1 r_xex_157 r_xex_163)
def r_xex_165 : Y.YRun [] := (.both 1 r_xex_156 r_xex_164)
def r_xex_166 : Y.YRun [] := (.both 1 r_xex_155 r_xex_165)
def r_xex_167 : Y.YRun [] := (.op 15 none [5, 8, 10, 13, 17, 21] (.bslice 20 0 .i [])
 r_xex_166)
def r_xex_168 : Y.YRun [] := (.op 2 none [8, 10, 13, 17, 21] o_xex_2
 r_xex_95)
def r_xex_169 : Y.YRun [] := (.op 7 none [5, 8, 10, 13, 17, 21] (.bslice 12 0 (.st 2) [])
 r_xex_128)
def r_xex_170 : Y.YRun [] := (.op 11 none [5, 8, 10, 13, 17, 21] (.bslice 16 0 .i [])
 r_xex_149)
def r_xex_171 : Y.YRun [] := (.op 15 none [5, 8, 10, 13, 17, 21] (.bslice 20 0 .i [])
 r_xex_162)
def r_xex_172 : Y.YRun [] := (.both 1 r_xex_170 r_xex_171)
def r_xex_173 : Y.YRun [] := (.both 1 r_xex_169 r_xex_172)
def r_xex_174 : Y.YRun [] := (.both 1 r_xex_168 r_xex_173)
def r_xex_175 : Y.YRun [] := (.op 20 none [5, 8, 10, 13, 17, 21] (.alloc 3 zGHouse)
 (.nl [(.cell 3 0, .i), (.cell 3 11, (.st 2)), (.cell 3 12, (.st 7)), (.cell 3 13, .i), (.cell 3 14, .i)] r_xex_174))
def r_xex_176 : Y.YRun [] := (.both 1 r_xex_167 r_xex_175)
def r_xex_177 : Y.YRun [] := (.both 1 r_xex_154 r_xex_176)
def r_xex_178 : Y.YRun [] := (.both 1 r_xex_133 r_xex_177)
def r_xex_179 : Y.YRun [] := (.both 1 r_xex_100 r_xex_178)
def r_xex_180 : Y.YRun [] := (.op 17 none [] (.ld 22 none (.tmp 21))
 r_xex_179)
def r_xex_181 : Y.YRun [] := (.op 16 none [] (.fa 21 14 (.tmp 1))
 r_xex_180)
def r_xex_182 : Y.YRun [] := (.op 13 none [] (.ld 18 none (.tmp 17))
 r_xex_181)
def r_xex_183 : Y.YRun [] := (.op 12 none [] (.fa 17 13 (.tmp 1))
 r_xex_182)
def r_xex_184 : Y.YRun [] := (.op 9 none [] (.ld 14 none (.tmp 13))
 r_xex_183)
def r_xex_185 : Y.YRun [] := (.op 8 none [] (.fa 13 11 (.tmp 1))
 r_xex_184)
def r_xex_186 : Y.YRun [] := (.op 6 none [] (.ld 11 none (.tmp 10))
 r_xex_185)
def r_xex_187 : Y.YRun [] := (.op 5 none [] (.fa 10 10 (.tmp 1))
 r_xex_186)
def r_xex_188 : Y.YRun [] := (.op 4 none [] (.ld 9 none (.tmp 8))
 r_xex_187)
def r_xex_189 : Y.YRun [] := (.op 3 none [] (.fa 8 9 (.tmp 1))
 r_xex_188)
def r_xex_190 : Y.YRun [] := (.op 1 none [] (.ld 6 (some 9) (.tmp 5))
 r_xex_189)
def r_xex_191 : Y.YRun [] := (.op 0 none [] (.fa 5 0 (.tmp 1))
 r_xex_190)
def y_xex : YF := ⟨[], [.v (.st 8)], [], .ret [(.st 8)], [.cell 2 (some 15)],
 sq [qu 1 0, .alloc 2 zGHouse, .nils [(.cell 2 0, .i), (.cell 2 11, (.st 2)), (.cell 2 12, (.st 7)), (.cell 2 13, .i), (.cell 2 14, .i)]] [1, 2] (.seq (.dreg r_xex_191 [1, 2, 3]) (.join [cx 3 (.st 8)] (sq [qK 4 0] (Kp 30) (bl 0 [cv 4 .i, cx 3 (.st 8)] (.seq (sw 25 [wm 4, wo 12 1, wL, wZ, wB .lss 25] (Kp 536870942) (ce 29 (Kp 30) [2, 3] 0)) (.seq (.block 1 (.dreg (qd 0 [wn 32 [wo 12 3, wL, wo 12 1, wL, wm 4, wE (.st 7) 35, wK 7]] (.op 7 none [32] (.call 39 gf_xew [] rfl [(.tmp 38)])
 (.op 8 none [32] (.bslice 40 1 (.st 7) [(0, (.tmp 39))])
 (qd 9 [wn 41 [wh (.app · (.st 7) false (.tmp 33) (.tmp 40)), wo 12 3],
 qn [qw 1 42 41]] .nil)))) [1, 2, 3, 4])) (qr [wn 30 [wm 4, wI .add 1],
 qn [qa 4 31]] (Kp 30)))))) (sq [qL 43 15 3, qw 15 2 43] [2] .ret)))⟩
def d_xex_a1 (p0 : GHouse) (x1 : GRules) (X2 : Option GHouse) : Option GHouse :=
 gd (0 + p0.Jobs.length <= lim) (
 vGRules x1 x1 (
 ev6 p0.Now p0.Turn ([] ++ p0.Parties) ([] : List GCabin) ([] ++ p0.Todo) ([] ++ p0.Jobs) (
 X2 )))
def d_xex_a3 (p0 : GHouse) (x1 : GRules) (X4 : Option GHouse) : Option GHouse :=
 gd (0 + p0.Todo.length <= lim) (
 gd (0 + p0.Jobs.length <= lim) (
 vGRules x1 x1 (
 ev6 p0.Now p0.Turn ([] ++ p0.Parties) ([] : List GCabin) ([] ++ p0.Todo) ([] ++ p0.Jobs) (
 X4 ))))
def d_xex_a4 (p0 : GHouse) (x1 : GRules) (X5 : Option GHouse) : Option GHouse :=
 gd (0 + p0.Todo.length <= lim) (
 gd (0 + p0.Jobs.length <= lim) (
 alt (d_xex_a3 p0 x1) (
 vGRules x1 x1 (
 ev6 p0.Now p0.Turn ([] ++ p0.Parties) ([] : List GCabin) ([] ++ p0.Todo) ([] ++ p0.Jobs) (
 X5 )))))
def d_xex_a2 (p0 : GHouse) (x1 : GRules) (X3 : Option GHouse) : Option GHouse :=
 gd (0 + p0.Todo.length <= lim) (
 gd (0 + p0.Jobs.length <= lim) (
 alt (d_xex_a1 p0 x1) (
 alt (d_xex_a3 p0 x1) (
 alt (d_xex_a4 p0 x1) (
 vGRules x1 x1 (
 ev6 p0.Now p0.Turn ([] ++ p0.Parties) ([] : List GCabin) ([] ++ p0.Todo) ([] ++ p0.Jobs) (
 X3 )))))))
def d_xex_a6 (p0 : GHouse) (x1 : GRules) (X7 : Option GHouse) : Option GHouse :=
 gd (0 + p0.Todo.length <= lim) (
 gd (0 + p0.Jobs.length <= lim) (
 alt (d_xex_a3 p0 x1) (
 alt (d_xex_a3 p0 x1) (
 vGRules x1 x1 (
 ev6 p0.Now p0.Turn ([] ++ p0.Parties) ([] : List GCabin) ([] ++ p0.Todo) ([] ++ p0.Jobs) (
 X7 ))))))
def d_xex_a5 (p0 : GHouse) (x1 : GRules) (X6 : Option GHouse) : Option GHouse :=
 gd (0 + p0.Todo.length <= lim) (
 gd (0 + p0.Jobs.length <= lim) (
 alt (d_xex_a1 p0 x1) (
 alt (d_xex_a3 p0 x1) (
 alt (d_xex_a3 p0 x1) (
 alt (d_xex_a6 p0 x1) (
 vGRules x1 x1 (
 ev6 p0.Now p0.Turn ([] ++ p0.Parties) ([] : List GCabin) ([] ++ p0.Todo) ([] ++ p0.Jobs) (
 X6 ))))))))
def d_xex_a9 (p0 : GHouse) (x1 : GRules) (X10 : Option GHouse) : Option GHouse :=
 gd (0 + p0.Parties.length <= lim) (
 gd (0 + p0.Todo.length <= lim) (
 gd (0 + p0.Jobs.length <= lim) (
 vGRules x1 x1 (
 ev6 p0.Now p0.Turn ([] ++ p0.Parties) ([] : List GCabin) ([] ++ p0.Todo) ([] ++ p0.Jobs) (
 X10 )))))
def d_xex_a10 (p0 : GHouse) (x1 : GRules) (X11 : Option GHouse) : Option GHouse :=
 gd (0 + p0.Parties.length <= lim) (
 gd (0 + p0.Todo.length <= lim) (
 gd (0 + p0.Jobs.length <= lim) (
 alt (d_xex_a3 p0 x1) (
 alt (d_xex_a9 p0 x1) (
 vGRules x1 x1 (
 ev6 p0.Now p0.Turn ([] ++ p0.Parties) ([] : List GCabin) ([] ++ p0.Todo) ([] ++ p0.Jobs) (
 X11 )))))))
def d_xex_a8 (p0 : GHouse) (x1 : GRules) (X9 : Option GHouse) : Option GHouse :=
 gd (0 + p0.Parties.length <= lim) (
 gd (0 + p0.Todo.length <= lim) (
 gd (0 + p0.Jobs.length <= lim) (
 alt (d_xex_a1 p0 x1) (
 alt (d_xex_a3 p0 x1) (
 alt (d_xex_a9 p0 x1) (
 alt (d_xex_a10 p0 x1) (
 vGRules x1 x1 (
 ev6 p0.Now p0.Turn ([] ++ p0.Parties) ([] : List GCabin) ([] ++ p0.Todo) ([] ++ p0.Jobs) (
 X9 )))))))))
def d_xex_a13 (p0 : GHouse) (x1 : GRules) (X14 : Option GHouse) : Option GHouse :=
 gd (0 + p0.Parties.length <= lim) (
 gd (0 + p0.Todo.length <= lim) (
 gd (0 + p0.Jobs.length <= lim) (
 alt (d_xex_a9 p0 x1) (
 vGRules x1 x1 (
 ev6 p0.Now p0.Turn ([] ++ p0.Parties) ([] : List GCabin) ([] ++ p0.Todo) ([] ++ p0.Jobs) (
 X14 ))))))
def d_xex_a12 (p0 : GHouse) (x1 : GRules) (X13 : Option GHouse) : Option GHouse :=
 gd (0 + p0.Parties.length <= lim) (
 gd (0 + p0.Todo.length <= lim) (
 gd (0 + p0.Jobs.length <= lim) (
 alt (d_xex_a1 p0 x1) (
 alt (d_xex_a3 p0 x1) (
 alt (d_xex_a9 p0 x1) (
 alt (d_xex_a13 p0 x1) (
 vGRules x1 x1 (
 ev6 p0.Now p0.Turn ([] ++ p0.Parties) ([] : List GCabin) ([] ++ p0.Todo) ([] ++ p0.Jobs) (
 X13 )))))))))
def d_xex_a15 (p0 : GHouse) (x1 : GRules) (X16 : Option GHouse) : Option GHouse :=
 gd (0 + p0.Parties.length <= lim) (
 gd (0 + p0.Todo.length <= lim) (
 gd (0 + p0.Jobs.length <= lim) (
 alt (d_xex_a3 p0 x1) (
 alt (d_xex_a9 p0 x1) (
 alt (d_xex_a13 p0 x1) (
 vGRules x1 x1 (
 ev6 p0.Now p0.Turn ([] ++ p0.Parties) ([] : List GCabin) ([] ++ p0.Todo) ([] ++ p0.Jobs) (
 X16 ))))))))
def d_xex_a14 (p0 : GHouse) (x1 : GRules) (X15 : Option GHouse) : Option GHouse :=
 gd (0 + p0.Parties.length <= lim) (
 gd (0 + p0.Todo.length <= lim) (
 gd (0 + p0.Jobs.length <= lim) (
 alt (d_xex_a3 p0 x1) (
 alt (d_xex_a3 p0 x1) (
 alt (d_xex_a15 p0 x1) (
 vGRules x1 x1 (
 ev6 p0.Now p0.Turn ([] ++ p0.Parties) ([] : List GCabin) ([] ++ p0.Todo) ([] ++ p0.Jobs) (
 X15 ))))))))
def d_xex_a11 (p0 : GHouse) (x1 : GRules) (X12 : Option GHouse) : Option GHouse :=
 gd (0 + p0.Parties.length <= lim) (
 gd (0 + p0.Todo.length <= lim) (
 gd (0 + p0.Jobs.length <= lim) (
 alt (d_xex_a1 p0 x1) (
 alt (d_xex_a3 p0 x1) (
 alt (d_xex_a3 p0 x1) (
 alt (d_xex_a12 p0 x1) (
 alt (d_xex_a14 p0 x1) (
 vGRules x1 x1 (
 ev6 p0.Now p0.Turn ([] ++ p0.Parties) ([] : List GCabin) ([] ++ p0.Todo) ([] ++ p0.Jobs) (
 X12 ))))))))))
def d_xex_a7 (p0 : GHouse) (x1 : GRules) (X8 : Option GHouse) : Option GHouse :=
 gd (0 + p0.Parties.length <= lim) (
 gd (0 + p0.Todo.length <= lim) (
 gd (0 + p0.Jobs.length <= lim) (
 alt (d_xex_a1 p0 x1) (
 alt (d_xex_a1 p0 x1) (
 alt (d_xex_a2 p0 x1) (
 alt (d_xex_a8 p0 x1) (
 alt (d_xex_a11 p0 x1) (
 vGRules x1 x1 (
 ev6 p0.Now p0.Turn ([] ++ p0.Parties) ([] : List GCabin) ([] ++ p0.Todo) ([] ++ p0.Jobs) (
 X8 ))))))))))
def d_xex_a18 (p0 : GHouse) (x1 : GRules) (X19 : Option GHouse) : Option GHouse :=
 gd (0 + p0.Parties.length <= lim) (
 gd (0 + p0.Todo.length <= lim) (
 gd (0 + p0.Jobs.length <= lim) (
 alt (d_xex_a3 p0 x1) (
 alt (d_xex_a9 p0 x1) (
 alt (d_xex_a9 p0 x1) (
 vGRules x1 x1 (
 ev6 p0.Now p0.Turn ([] ++ p0.Parties) ([] : List GCabin) ([] ++ p0.Todo) ([] ++ p0.Jobs) (
 X19 ))))))))
def d_xex_a17 (p0 : GHouse) (x1 : GRules) (X18 : Option GHouse) : Option GHouse :=
 gd (0 + p0.Parties.length <= lim) (
 gd (0 + p0.Todo.length <= lim) (
 gd (0 + p0.Jobs.length <= lim) (
 alt (d_xex_a1 p0 x1) (
 alt (d_xex_a3 p0 x1) (
 alt (d_xex_a9 p0 x1) (
 alt (d_xex_a9 p0 x1) (
 alt (d_xex_a18 p0 x1) (
 vGRules x1 x1 (
 ev6 p0.Now p0.Turn ([] ++ p0.Parties) ([] : List GCabin) ([] ++ p0.Todo) ([] ++ p0.Jobs) (
 X18 ))))))))))
def d_xex_a21 (p0 : GHouse) (x1 : GRules) (X22 : Option GHouse) : Option GHouse :=
 gd (0 + p0.Parties.length <= lim) (
 gd (0 + p0.Todo.length <= lim) (
 gd (0 + p0.Jobs.length <= lim) (
 alt (d_xex_a9 p0 x1) (
 alt (d_xex_a9 p0 x1) (
 vGRules x1 x1 (
 ev6 p0.Now p0.Turn ([] ++ p0.Parties) ([] : List GCabin) ([] ++ p0.Todo) ([] ++ p0.Jobs) (
 X22 )))))))
def d_xex_a20 (p0 : GHouse) (x1 : GRules) (X21 : Option GHouse) : Option GHouse :=
 gd (0 + p0.Parties.length <= lim) (
 gd (0 + p0.Todo.length <= lim) (
 gd (0 + p0.Jobs.length <= lim) (
 alt (d_xex_a1 p0 x1) (
 alt (d_xex_a3 p0 x1) (
 alt (d_xex_a9 p0 x1) (
 alt (d_xex_a9 p0 x1) (
 alt (d_xex_a21 p0 x1) (
 vGRules x1 x1 (
 ev6 p0.Now p0.Turn ([] ++ p0.Parties) ([] : List GCabin) ([] ++ p0.Todo) ([] ++ p0.Jobs) (
 X21 ))))))))))
def d_xex_a23 (p0 : GHouse) (x1 : GRules) (X24 : Option GHouse) : Option GHouse :=
 gd (0 + p0.Parties.length <= lim) (
 gd (0 + p0.Todo.length <= lim) (
 gd (0 + p0.Jobs.length <= lim) (
 alt (d_xex_a3 p0 x1) (
 alt (d_xex_a9 p0 x1) (
 alt (d_xex_a9 p0 x1) (
 alt (d_xex_a21 p0 x1) (
 vGRules x1 x1 (
 ev6 p0.Now p0.Turn ([] ++ p0.Parties) ([] : List GCabin) ([] ++ p0.Todo) ([] ++ p0.Jobs) (
 X24 )))))))))
def d_xex_a22 (p0 : GHouse) (x1 : GRules) (X23 : Option GHouse) : Option GHouse :=
 gd (0 + p0.Parties.length <= lim) (
 gd (0 + p0.Todo.length <= lim) (
 gd (0 + p0.Jobs.length <= lim) (
 alt (d_xex_a3 p0 x1) (
 alt (d_xex_a3 p0 x1) (
 alt (d_xex_a15 p0 x1) (
 alt (d_xex_a23 p0 x1) (
 vGRules x1 x1 (
 ev6 p0.Now p0.Turn ([] ++ p0.Parties) ([] : List GCabin) ([] ++ p0.Todo) ([] ++ p0.Jobs) (
 X23 )))))))))
def d_xex_a19 (p0 : GHouse) (x1 : GRules) (X20 : Option GHouse) : Option GHouse :=
 gd (0 + p0.Parties.length <= lim) (
 gd (0 + p0.Todo.length <= lim) (
 gd (0 + p0.Jobs.length <= lim) (
 alt (d_xex_a1 p0 x1) (
 alt (d_xex_a3 p0 x1) (
 alt (d_xex_a3 p0 x1) (
 alt (d_xex_a12 p0 x1) (
 alt (d_xex_a20 p0 x1) (
 alt (d_xex_a22 p0 x1) (
 vGRules x1 x1 (
 ev6 p0.Now p0.Turn ([] ++ p0.Parties) ([] : List GCabin) ([] ++ p0.Todo) ([] ++ p0.Jobs) (
 X20 )))))))))))
def d_xex_a16 (p0 : GHouse) (x1 : GRules) (X17 : Option GHouse) : Option GHouse :=
 gd (0 + p0.Parties.length <= lim) (
 gd (0 + p0.Todo.length <= lim) (
 gd (0 + p0.Jobs.length <= lim) (
 alt (d_xex_a1 p0 x1) (
 alt (d_xex_a1 p0 x1) (
 alt (d_xex_a2 p0 x1) (
 alt (d_xex_a8 p0 x1) (
 alt (d_xex_a17 p0 x1) (
 alt (d_xex_a19 p0 x1) (
 vGRules x1 x1 (
 ev6 p0.Now p0.Turn ([] ++ p0.Parties) ([] : List GCabin) ([] ++ p0.Todo) ([] ++ p0.Jobs) (
 X17 )))))))))))
def d_xex_a27 (p0 : GHouse) (x30 : GRules) (X31 : Option GHouse) : Option GHouse :=
 bd (d_xeh p0.Rules) fun x32 =>
 gd (0 + p0.Parties.length <= lim) (
 gd (0 + p0.Todo.length <= lim) (
 gd (0 + p0.Jobs.length <= lim) (
 vGRules x30 x32 (
 ev6 p0.Now p0.Turn ([] ++ p0.Parties) ([] : List GCabin) ([] ++ p0.Todo) ([] ++ p0.Jobs) (
 X31 )))))
def d_xex_a28 (p0 : GHouse) (x30 : GRules) (X33 : Option GHouse) : Option GHouse :=
 bd (d_xeh p0.Rules) fun x34 =>
 gd (0 + p0.Parties.length <= lim) (
 gd (0 + p0.Todo.length <= lim) (
 gd (0 + p0.Jobs.length <= lim) (
 alt (d_xex_a3 p0 x34) (
 alt (d_xex_a9 p0 x34) (
 alt (d_xex_a27 p0 x34) (
 vGRules x30 x34 (
 ev6 p0.Now p0.Turn ([] ++ p0.Parties) ([] : List GCabin) ([] ++ p0.Todo) ([] ++ p0.Jobs) (
 X33 ))))))))
def d_xex_a26 (p0 : GHouse) (x28 : GRules) (X29 : Option GHouse) : Option GHouse :=
 bd (d_xeh p0.Rules) fun x30 =>
 gd (0 + p0.Parties.length <= lim) (
 gd (0 + p0.Todo.length <= lim) (
 gd (0 + p0.Jobs.length <= lim) (
 alt (d_xex_a1 p0 x30) (
 alt (d_xex_a3 p0 x30) (
 alt (d_xex_a9 p0 x30) (
 alt (d_xex_a27 p0 x30) (
 alt (d_xex_a28 p0 x30) (
 vGRules x28 x30 (
 ev6 p0.Now p0.Turn ([] ++ p0.Parties) ([] : List GCabin) ([] ++ p0.Todo) ([] ++ p0.Jobs) (
 X29 ))))))))))
def d_xex_a31 (p0 : GHouse) (x38 : GRules) (X39 : Option GHouse) : Option GHouse :=
 bd (d_xeh p0.Rules) fun x40 =>
 gd (0 + p0.Parties.length <= lim) (
 gd (0 + p0.Todo.length <= lim) (
 gd (0 + p0.Jobs.length <= lim) (
 alt (d_xex_a9 p0 x40) (
 alt (d_xex_a27 p0 x40) (
 vGRules x38 x40 (
 ev6 p0.Now p0.Turn ([] ++ p0.Parties) ([] : List GCabin) ([] ++ p0.Todo) ([] ++ p0.Jobs) (
 X39 )))))))
def d_xex_a30 (p0 : GHouse) (x36 : GRules) (X37 : Option GHouse) : Option GHouse :=
 bd (d_xeh p0.Rules) fun x38 =>
 gd (0 + p0.Parties.length <= lim) (
 gd (0 + p0.Todo.length <= lim) (
 gd (0 + p0.Jobs.length <= lim) (
 alt (d_xex_a1 p0 x38) (
 alt (d_xex_a3 p0 x38) (
 alt (d_xex_a9 p0 x38) (
 alt (d_xex_a27 p0 x38) (
 alt (d_xex_a31 p0 x38) (
 vGRules x36 x38 (
 ev6 p0.Now p0.Turn ([] ++ p0.Parties) ([] : List GCabin) ([] ++ p0.Todo) ([] ++ p0.Jobs) (
 X37 ))))))))))
def d_xex_a33 (p0 : GHouse) (x42 : GRules) (X43 : Option GHouse) : Option GHouse :=
 bd (d_xeh p0.Rules) fun x44 =>
 gd (0 + p0.Parties.length <= lim) (
 gd (0 + p0.Todo.length <= lim) (
 gd (0 + p0.Jobs.length <= lim) (
 alt (d_xex_a3 p0 x44) (
 alt (d_xex_a9 p0 x44) (
 alt (d_xex_a27 p0 x44) (
 alt (d_xex_a31 p0 x44) (
 vGRules x42 x44 (
 ev6 p0.Now p0.Turn ([] ++ p0.Parties) ([] : List GCabin) ([] ++ p0.Todo) ([] ++ p0.Jobs) (
 X43 )))))))))
def d_xex_a32 (p0 : GHouse) (x36 : GRules) (X41 : Option GHouse) : Option GHouse :=
 bd (d_xeh p0.Rules) fun x42 =>
 gd (0 + p0.Parties.length <= lim) (
 gd (0 + p0.Todo.length <= lim) (
 gd (0 + p0.Jobs.length <= lim) (
 alt (d_xex_a3 p0 x42) (
 alt (d_xex_a3 p0 x42) (
 alt (d_xex_a15 p0 x42) (
 alt (d_xex_a33 p0 x42) (
 vGRules x36 x42 (
 ev6 p0.Now p0.Turn ([] ++ p0.Parties) ([] : List GCabin) ([] ++ p0.Todo) ([] ++ p0.Jobs) (
 X41 )))))))))
def d_xex_a29 (p0 : GHouse) (x28 : GRules) (X35 : Option GHouse) : Option GHouse :=
 bd (d_xeh p0.Rules) fun x36 =>
 gd (0 + p0.Parties.length <= lim) (
 gd (0 + p0.Todo.length <= lim) (
 gd (0 + p0.Jobs.length <= lim) (
 alt (d_xex_a1 p0 x36) (
 alt (d_xex_a3 p0 x36) (
 alt (d_xex_a3 p0 x36) (
 alt (d_xex_a12 p0 x36) (
 alt (d_xex_a30 p0 x36) (
 alt (d_xex_a32 p0 x36) (
 vGRules x28 x36 (
 ev6 p0.Now p0.Turn ([] ++ p0.Parties) ([] : List GCabin) ([] ++ p0.Todo) ([] ++ p0.Jobs) (
 X35 )))))))))))
def d_xex_a25 (p0 : GHouse) (x26 : GRules) (X27 : Option GHouse) : Option GHouse :=
 bd (d_xeh p0.Rules) fun x28 =>
 gd (0 + p0.Parties.length <= lim) (
 gd (0 + p0.Todo.length <= lim) (
 gd (0 + p0.Jobs.length <= lim) (
 alt (d_xex_a1 p0 x28) (
 alt (d_xex_a1 p0 x28) (
 alt (d_xex_a2 p0 x28) (
 alt (d_xex_a8 p0 x28) (
 alt (d_xex_a26 p0 x28) (
 alt (d_xex_a29 p0 x28) (
 vGRules x26 x28 (
 ev6 p0.Now p0.Turn ([] ++ p0.Parties) ([] : List GCabin) ([] ++ p0.Todo) ([] ++ p0.Jobs) (
 X27 )))))))))))
def d_xex_a38 (p0 : GHouse) (x52 : GRules) (X53 : Option GHouse) : Option GHouse :=
 bd (d_xeh p0.Rules) fun x54 =>
 gd (0 + p0.Parties.length <= lim) (
 gd (0 + p0.Todo.length <= lim) (
 gd (0 + p0.Jobs.length <= lim) (
 alt (d_xex_a27 p0 x54) (
 vGRules x52 x54 (
 ev6 p0.Now p0.Turn ([] ++ p0.Parties) ([] : List GCabin) ([] ++ p0.Todo) ([] ++ p0.Jobs) (
 X53 ))))))
def d_xex_a37 (p0 : GHouse) (x50 : GRules) (X51 : Option GHouse) : Option GHouse :=
 bd (d_xeh p0.Rules) fun x52 =>
 gd (0 + p0.Parties.length <= lim) (
 gd (0 + p0.Todo.length <= lim) (
 gd (0 + p0.Jobs.length <= lim) (
 alt (d_xex_a1 p0 x52) (
 alt (d_xex_a3 p0 x52) (
 alt (d_xex_a9 p0 x52) (
 alt (d_xex_a27 p0 x52) (
 alt (d_xex_a38 p0 x52) (
 vGRules x50 x52 (
 ev6 p0.Now p0.Turn ([] ++ p0.Parties) ([] : List GCabin) ([] ++ p0.Todo) ([] ++ p0.Jobs) (
 X51 ))))))))))
def d_xex_a40 (p0 : GHouse) (x56 : GRules) (X57 : Option GHouse) : Option GHouse :=
 bd (d_xeh p0.Rules) fun x58 =>
 gd (0 + p0.Parties.length <= lim) (
 gd (0 + p0.Todo.length <= lim) (
 gd (0 + p0.Jobs.length <= lim) (
 alt (d_xex_a3 p0 x58) (
 alt (d_xex_a9 p0 x58) (
 alt (d_xex_a27 p0 x58) (
 alt (d_xex_a38 p0 x58) (
 vGRules x56 x58 (
 ev6 p0.Now p0.Turn ([] ++ p0.Parties) ([] : List GCabin) ([] ++ p0.Todo) ([] ++ p0.Jobs) (
 X57 )))))))))
def d_xex_a39 (p0 : GHouse) (x50 : GRules) (X55 : Option GHouse) : Option GHouse :=
 bd (d_xeh p0.Rules) fun x56 =>
 gd (0 + p0.Parties.length <= lim) (
 gd (0 + p0.Todo.length <= lim) (
 gd (0 + p0.Jobs.length <= lim) (
 alt (d_xex_a3 p0 x56) (
 alt (d_xex_a9 p0 x56) (
 alt (d_xex_a9 p0 x56) (
 alt (d_xex_a40 p0 x56) (
 vGRules x50 x56 (
 ev6 p0.Now p0.Turn ([] ++ p0.Parties) ([] : List GCabin) ([] ++ p0.Todo) ([] ++ p0.Jobs) (
 X55 )))))))))
def d_xex_a36 (p0 : GHouse) (x48 : GRules) (X49 : Option GHouse) : Option GHouse :=
 bd (d_xeh p0.Rules) fun x50 =>
 gd (0 + p0.Parties.length <= lim) (
 gd (0 + p0.Todo.length <= lim) (
 gd (0 + p0.Jobs.length <= lim) (
 alt (d_xex_a1 p0 x50) (
 alt (d_xex_a3 p0 x50) (
 alt (d_xex_a9 p0 x50) (
 alt (d_xex_a9 p0 x50) (
 alt (d_xex_a37 p0 x50) (
 alt (d_xex_a39 p0 x50) (
 vGRules x48 x50 (
 ev6 p0.Now p0.Turn ([] ++ p0.Parties) ([] : List GCabin) ([] ++ p0.Todo) ([] ++ p0.Jobs) (
 X49 )))))))))))
def d_xex_a35 (p0 : GHouse) (x46 : GRules) (X47 : Option GHouse) : Option GHouse :=
 bd (d_xeh p0.Rules) fun x48 =>
 gd (0 + p0.Parties.length <= lim) (
 gd (0 + p0.Todo.length <= lim) (
 gd (0 + p0.Jobs.length <= lim) (
 alt (d_xex_a1 p0 x48) (
 alt (d_xex_a1 p0 x48) (
 alt (d_xex_a2 p0 x48) (
 alt (d_xex_a8 p0 x48) (
 alt (d_xex_a26 p0 x48) (
 alt (d_xex_a36 p0 x48) (
 vGRules x46 x48 (
 ev6 p0.Now p0.Turn ([] ++ p0.Parties) ([] : List GCabin) ([] ++ p0.Todo) ([] ++ p0.Jobs) (
 X47 )))))))))))
def d_xex_a45 (p0 : GHouse) (x66 : GRules) (X67 : Option GHouse) : Option GHouse :=
 bd (d_xeh p0.Rules) fun x68 =>
 gd (0 + p0.Parties.length <= lim) (
 gd (0 + p0.Todo.length <= lim) (
 gd (0 + p0.Jobs.length <= lim) (
 alt (d_xex_a9 p0 x68) (
 alt (d_xex_a27 p0 x68) (
 alt (d_xex_a38 p0 x68) (
 vGRules x66 x68 (
 ev6 p0.Now p0.Turn ([] ++ p0.Parties) ([] : List GCabin) ([] ++ p0.Todo) ([] ++ p0.Jobs) (
 X67 ))))))))
def d_xex_a44 (p0 : GHouse) (x64 : GRules) (X65 : Option GHouse) : Option GHouse :=
 bd (d_xeh p0.Rules) fun x66 =>
 gd (0 + p0.Parties.length <= lim) (
 gd (0 + p0.Todo.length <= lim) (
 gd (0 + p0.Jobs.length <= lim) (
 alt (d_xex_a9 p0 x66) (
 alt (d_xex_a9 p0 x66) (
 alt (d_xex_a45 p0 x66) (
 vGRules x64 x66 (
 ev6 p0.Now p0.Turn ([] ++ p0.Parties) ([] : List GCabin) ([] ++ p0.Todo) ([] ++ p0.Jobs) (
 X65 ))))))))
def d_xex_a43 (p0 : GHouse) (x62 : GRules) (X63 : Option GHouse) : Option GHouse :=
 bd (d_xeh p0.Rules) fun x64 =>
 gd (0 + p0.Parties.length <= lim) (
 gd (0 + p0.Todo.length <= lim) (
 gd (0 + p0.Jobs.length <= lim) (
 alt (d_xex_a1 p0 x64) (
 alt (d_xex_a3 p0 x64) (
 alt (d_xex_a9 p0 x64) (
 alt (d_xex_a9 p0 x64) (
 alt (d_xex_a37 p0 x64) (
 alt (d_xex_a44 p0 x64) (
 vGRules x62 x64 (
 ev6 p0.Now p0.Turn ([] ++ p0.Parties) ([] : List GCabin) ([] ++ p0.Todo) ([] ++ p0.Jobs) (
 X63 )))))))))))
def d_xex_a42 (p0 : GHouse) (x60 : GRules) (X61 : Option GHouse) : Option GHouse :=
 bd (d_xeh p0.Rules) fun x62 =>
 gd (0 + p0.Parties.length <= lim) (
 gd (0 + p0.Todo.length <= lim) (
 gd (0 + p0.Jobs.length <= lim) (
 alt (d_xex_a1 p0 x62) (
 alt (d_xex_a3 p0 x62) (
 alt (d_xex_a3 p0 x62) (
 alt (d_xex_a12 p0 x62) (
 alt (d_xex_a30 p0 x62) (
 alt (d_xex_a43 p0 x62) (
 vGRules x60 x62 (
 ev6 p0.Now p0.Turn ([] ++ p0.Parties) ([] : List GCabin) ([] ++ p0.Todo) ([] ++ p0.Jobs) (
 X61 )))))))))))
def d_xex_a48 (p0 : GHouse) (x72 : GRules) (X73 : Option GHouse) : Option GHouse :=
 bd (d_xeh p0.Rules) fun x74 =>
 gd (0 + p0.Parties.length <= lim) (
 gd (0 + p0.Todo.length <= lim) (
 gd (0 + p0.Jobs.length <= lim) (
 alt (d_xex_a3 p0 x74) (
 alt (d_xex_a9 p0 x74) (
 alt (d_xex_a9 p0 x74) (
 alt (d_xex_a40 p0 x74) (
 alt (d_xex_a44 p0 x74) (
 vGRules x72 x74 (
 ev6 p0.Now p0.Turn ([] ++ p0.Parties) ([] : List GCabin) ([] ++ p0.Todo) ([] ++ p0.Jobs) (
 X73 ))))))))))
def d_xex_a47 (p0 : GHouse) (x70 : GRules) (X71 : Option GHouse) : Option GHouse :=
 bd (d_xeh p0.Rules) fun x72 =>
 gd (0 + p0.Parties.length <= lim) (
 gd (0 + p0.Todo.length <= lim) (
 gd (0 + p0.Jobs.length <= lim) (
 alt (d_xex_a3 p0 x72) (
 alt (d_xex_a3 p0 x72) (
 alt (d_xex_a15 p0 x72) (
 alt (d_xex_a33 p0 x72) (
 alt (d_xex_a48 p0 x72) (
 vGRules x70 x72 (
 ev6 p0.Now p0.Turn ([] ++ p0.Parties) ([] : List GCabin) ([] ++ p0.Todo) ([] ++ p0.Jobs) (
 X71 ))))))))))
def d_xex_a46 (p0 : GHouse) (x60 : GRules) (X69 : Option GHouse) : Option GHouse :=
 bd (d_xeh p0.Rules) fun x70 =>
 gd (0 + p0.Parties.length <= lim) (
 gd (0 + p0.Todo.length <= lim) (
 gd (0 + p0.Jobs.length <= lim) (
 alt (d_xex_a3 p0 x70) (
 alt (d_xex_a3 p0 x70) (
 alt (d_xex_a15 p0 x70) (
 alt (d_xex_a23 p0 x70) (
 alt (d_xex_a47 p0 x70) (
 vGRules x60 x70 (
 ev6 p0.Now p0.Turn ([] ++ p0.Parties) ([] : List GCabin) ([] ++ p0.Todo) ([] ++ p0.Jobs) (
 X69 ))))))))))
def d_xex_a41 (p0 : GHouse) (x46 : GRules) (X59 : Option GHouse) : Option GHouse :=
 bd (d_xeh p0.Rules) fun x60 =>
 gd (0 + p0.Parties.length <= lim) (
 gd (0 + p0.Todo.length <= lim) (
 gd (0 + p0.Jobs.length <= lim) (
 alt (d_xex_a1 p0 x60) (
 alt (d_xex_a3 p0 x60) (
 alt (d_xex_a3 p0 x60) (
 alt (d_xex_a12 p0 x60) (
 alt (d_xex_a20 p0 x60) (
 alt (d_xex_a42 p0 x60) (
 alt (d_xex_a46 p0 x60) (
 vGRules x46 x60 (
 ev6 p0.Now p0.Turn ([] ++ p0.Parties) ([] : List GCabin) ([] ++ p0.Todo) ([] ++ p0.Jobs) (
 X59 ))))))))))))
def d_xex_a34 (p0 : GHouse) (x26 : GRules) (X45 : Option GHouse) : Option GHouse :=
 bd (d_xeh p0.Rules) fun x46 =>
 gd (0 + p0.Parties.length <= lim) (
 gd (0 + p0.Todo.length <= lim) (
 gd (0 + p0.Jobs.length <= lim) (
 alt (d_xex_a1 p0 x46) (
 alt (d_xex_a1 p0 x46) (
 alt (d_xex_a2 p0 x46) (
 alt (d_xex_a8 p0 x46) (
 alt (d_xex_a17 p0 x46) (
 alt (d_xex_a35 p0 x46) (
 alt (d_xex_a41 p0 x46) (
 vGRules x26 x46 (
 ev6 p0.Now p0.Turn ([] ++ p0.Parties) ([] : List GCabin) ([] ++ p0.Todo) ([] ++ p0.Jobs) (
 X45 ))))))))))))
def d_xex_a24 (p0 : GHouse) (x1 : GRules) (X25 : Option GHouse) : Option GHouse :=
 bd (d_xeh p0.Rules) fun x26 =>
 gd (0 + p0.Parties.length <= lim) (
 gd (0 + p0.Todo.length <= lim) (
 gd (0 + p0.Jobs.length <= lim) (
 alt (d_xex_a1 p0 x26) (
 alt (d_xex_a1 p0 x26) (
 alt (d_xex_a2 p0 x26) (
 alt (d_xex_a5 p0 x26) (
 alt (d_xex_a7 p0 x26) (
 alt (d_xex_a25 p0 x26) (
 alt (d_xex_a34 p0 x26) (
 vGRules x1 x26 (
 ev6 p0.Now p0.Turn ([] ++ p0.Parties) ([] : List GCabin) ([] ++ p0.Todo) ([] ++ p0.Jobs) (
 X25 ))))))))))))
def d_xex_j50 (v80 : GHouse) : Option GHouse :=
 some v80
def d_xex_l49 (p0 : GHouse) (L75 : (Int × GHouse) -> Option GHouse) (x_ : (Int × GHouse)) : Option GHouse :=
 match x_ with
 | (v76, v77) => br (decide (v76 < (↑p0.Cabins.length : Int)))
  (bd (at? p0.Cabins v76) fun x78 =>
  bd (d_xew x78) fun x79 =>
  gd (v77.Cabins.length + [x79].length <= lim) (
  L75 ((w64 (v76 + 1), GHouse.mk v77.Rules v77.Now v77.Turn v77.Parties (v77.Cabins ++ [x79]) v77.Todo v77.Jobs))))
  (jn (d_xex_j50) v77)
def d_xex (p0 : GHouse) : Option GHouse :=
 bd (d_xeh p0.Rules) fun x1 =>
 gd (0 + p0.Parties.length <= lim) (
 gd (0 + p0.Todo.length <= lim) (
 gd (0 + p0.Jobs.length <= lim) (
 alt (d_xex_a1 p0 x1) (
 alt (d_xex_a1 p0 x1) (
 alt (d_xex_a2 p0 x1) (
 alt (d_xex_a5 p0 x1) (
 alt (d_xex_a7 p0 x1) (
 alt (d_xex_a16 p0 x1) (
 alt (d_xex_a24 p0 x1) (
 loopN (d_xex_l49 p0) big ((0, GHouse.mk x1 p0.Now p0.Turn ([] ++ p0.Parties) [] ([] ++ p0.Todo) ([] ++ p0.Jobs)))))))))))))
def gf_xex : GF := y_xex.gf rfl rfl (fun a => d_xex a.1) (fun a => by kernel_rfl)
def y_xey : YF := ⟨[], [.v (.st 11)], [], .ret [(.st 11)], [.cell 2 (some 23)],
 sq [qu 1 0, .alloc 2 zGEngine, .nils [(.cell 2 0, .i), (.cell 2 11, (.st 2)), (.cell 2 12, (.st 7)), (.cell 2 13, .i), (.cell 2 14, .i), (.cell 2 22, (.st 0))]] [1, 2] (.seq (.dreg (qd 0 [wn 3 [wo 0 1, wK 15]] (qd 3 [wn 6 [wo 15 1, wK 6, wo 21 1, wL]] (qd 8 [wn 11 [wo 22 1, wL]] (.both 0 (.op 2 none [6, 8, 11] (.call 5 gf_xex [] rfl [(.tmp 4)])
 (.op 7 none [3, 6, 8, 11] (.bslice 10 0 (.st 0) [])
 (.op 10 none [6, 8] (.app 13 (.st 0) true (.tmp 10) (.tmp 12))
 (qd 11 [qn [.build 14 zGEngine [(0, 15, (.tmp 5)), (15, 6, (.tmp 7)), (21, 1, (.tmp 9)), (22, 1, (.tmp 13))], qw 23 2 14]] (.dr [3, 4, 5, 6, 7, 8, 9, 10, 11, 12, 13, 14] .nil))))) (.op 7 none [3, 6, 8, 11] (.bslice 10 0 (.st 0) [])
 (.op 2 none [6, 8, 11] (.call 5 gf_xex [] rfl [(.tmp 4)])
 (.op 10 none [6, 8] (.app 13 (.st 0) true (.tmp 10) (.tmp 12))
 (qd 11 [qn [.build 14 zGEngine [(0, 15, (.tmp 5)), (15, 6, (.tmp 7)), (21, 1, (.tmp 9)), (22, 1, (.tmp 13))], qw 23 2 14]] (.dr [3, 4, 5, 6, 7, 8, 9, 10, 11, 12, 13, 14] .nil))))))))) [2]) .ret)⟩
def d_xey (p0 : GEngine) : Option GEngine :=
 bd (d_xex p0.House) fun x1 =>
 gd (0 + p0.Laid.length <= lim) (
 bd (d_xex p0.House) fun x2 =>
 gd (0 + p0.Laid.length <= lim) (
 vGHouse x1 x2 (
 vGStore p0.Store p0.Store (
 ev2 p0.Seq ([] ++ p0.Laid) (
 some (GEngine.mk x1 p0.Store p0.Seq ([] ++ p0.Laid)))))))
def gf_xey : GF := y_xey.gf rfl rfl (fun a => d_xey a.1) (fun a => by kernel_rfl)
def y_xez : YF := ⟨[], [.v (.st 0)], [], .ret [.s], [.tmp 2],
 sq [qu 1 0, .as 2 (.k (.str []))] [1] (.seq (sw 3 [wk 6 1, wY gf_xb5 rfl, wX] [1, 5] (cn 5 [1] (sq [.as 2 (.k (.str []))] [2] .ret))) (.seq (sw 6 [wo 0 1, wL] [1, 7] (.block 0 (sq [qi 9 .eql 7 1, qa 8 9] (Kp 386) (.cond 8 [1] [1, 7] (sr [wn 10 [wo 0 1, wL, wo 1 1, wL, wo 2 1, wL, wo 3 1, wL, wI .add 1, wo 4 1, wL, wo 5 1, wL, wh (.bslice · 6 .i [(0, (.tmp 11)), (1, (.tmp 13)), (2, (.tmp 15)), (3, (.tmp 18)), (4, (.tmp 20)), (5, (.tmp 22))]), wY gf_xd2 rfl],
 qn [qa 2 24]] [2] .ret) (sq [qi 26 .eql 7 3, qa 25 26] [1, 7, 25] (.cond 25 [1] [1, 7] (sr [wn 27 [wo 0 1, wL, wo 2 1, wL, wo 4 1, wL, wh (.bslice · 3 .i [(0, (.tmp 28)), (1, (.tmp 30)), (2, (.tmp 32))]), wY gf_xd2 rfl],
 qn [qa 2 34]] [2] .ret) (sq [qi 36 .eql 7 6, qa 35 36] [1, 35] (.cond 35 [1] [1] (sr [wn 37 [wo 0 1, wL, wh (.bslice · 1 .i [(0, (.tmp 38))]), wY gf_xd2 rfl],
 qn [qa 2 40]] [2] .ret) .skip)))))))) (sr [wn 41 [wo 0 1, wL, wo 1 1, wL, wh (.bslice · 2 .i [(0, (.tmp 42)), (1, (.tmp 44))]), wY gf_xd2 rfl],
 qn [qa 2 46]] [2] .ret)))⟩
def d_xez (p0 : GReq) : Option (List UInt8) :=
 bd (d_xb5 p0) fun x1 =>
 br (!x1)
  (some [])
  (br (p0.Kind == 1)
   (bd (d_xd2 ([p0.Kind, p0.Id, p0.Cabin, w64 (p0.From + 1), p0.Size, p0.Tier])) fun x2 =>
   some x2)
   (br (p0.Kind == 3)
    (bd (d_xd2 ([p0.Kind, p0.Cabin, p0.Size])) fun x3 =>
    some x3)
    (br (p0.Kind == 6)
     (bd (d_xd2 [p0.Kind]) fun x4 =>
     some x4)
     (bd (d_xd2 ([p0.Kind, p0.Id])) fun x5 =>
     some x5))))
def gf_xez : GF := y_xez.gf rfl rfl (fun a => d_xez a.1) (fun a => by kernel_rfl)
def y_xe0 : YF := ⟨[], [.v .i, .v .s], [], .ret [.s], [.tmp 4],
 sq [.as 4 (.k (.str []))] [0, 1] (.seq (.join [cv 15 .b] (qr [wn 7 [wm 0, wc gf_x7 rfl [7, qj 1, qj 1000000], wX, wM],
 wf 10 11 [wm 1, wh (.lens · (.tmp 11)), wc gf_x7 rfl [12, qj 1, qj 60], wX],
 qn [qp 15 10 14]] [0, 1, 15]) (cn 15 [0, 1] (sq [.as 4 (.k (.str []))] [4] .ret))) (sr [wn 16 [wm 0, wY gf_xd1 rfl, wh (.cvBS · (.tmp 17)), wm 1, wB .add 18],
 qn [qa 5 20]] [5] (sr [wn 21 [wm 5, wh (.cvSB · (.tmp 21)), wY gf_xd3 rfl, wY gf_xd4 rfl, wm 5, wB .add 24],
 qn [qa 6 26]] [6] (sr [wn 27 [wm 6, wh (.lens · (.tmp 27)), wY gf_xd1 rfl, wh (.cvBS · (.tmp 29)), wm 6, wB .add 30],
 qn [qa 4 32]] [4] .ret))))⟩
def d_xe0_j1 (p0 : Int) (p1 : (List UInt8)) (v2 : Bool) : Option (List UInt8) :=
 br v2
  (some [])
  (bd (d_xd1 p0) fun x3 =>
  gd (List.length x3 + p1.length <= slim) (
  bd (d_xd3 (x3 ++ p1)) fun x4 =>
  bd (d_xd4 x4) fun x5 =>
  gd (List.length x5 + (x3 ++ p1).length <= slim) (
  bd (d_xd1 ((↑(x5 ++ (x3 ++ p1)).length : Int))) fun x6 =>
  gd (List.length x6 + (x5 ++ (x3 ++ p1)).length <= slim) (
  some (x6 ++ (x5 ++ (x3 ++ p1)))))))
def d_xe0 (p0 : Int) (p1 : (List UInt8)) : Option (List UInt8) :=
 bd (d_x7 p0 1 1000000) fun x1 =>
 br (!x1)
  (jn (d_xe0_j1 p0 p1) true)
  (bd (d_x7 (↑p1.length : Int) 1 60) fun x7 =>
  jn (d_xe0_j1 p0 p1) (!x7))
def gf_xe0 : GF := y_xe0.gf rfl rfl (fun a => d_xe0 a.1 a.2.1) (fun a => by kernel_rfl)
def y_xe1 : YF := ⟨[], [.v .i, .v (.st 0)], [], .ret [.s], [.tmp 4],
 sq [qu 3 1, .as 4 (.k (.str []))] [0, 3] (sr [wn 6 [wk 6 3, wY gf_xez rfl],
 qn [qa 5 7]] [0, 5] (.seq (sw 8 [wm 5, wh (.bin · .num .eql (.tmp 8) (.k (.str [])))] (Kp 545) (cn 9 [0, 5] (sq [.as 4 (.k (.str []))] [4] .ret))) (sr [wn 10 [wm 0, wm 5, wc gf_xe0 rfl [10, 11]],
 qn [qa 4 12]] [4] .ret)))⟩
def d_xe1 (p0 : Int) (p1 : GReq) : Option (List UInt8) :=
 bd (d_xez p1) fun x1 =>
 br (x1 == [])
  (some [])
  (bd (d_xe0 p0 x1) fun x2 =>
  some x2)
def gf_xe1 : GF := y_xe1.gf rfl rfl (fun a => d_xe1 a.1 a.2.1) (fun a => by kernel_rfl)
def y_xe2 : YF := ⟨[], [.v (.st 9), .v .s], [], .ret [(.st 9), .b], [.cell 4 (some 2), .tmp 5],
 sq [qu 2 0, .alloc 4 [.str [], .int .i64 0], qB 5 false] (Kp 22) (.seq (.join [cv 17 .b] (qr [wn 6 [wk 2 2, wY gf_xb2 rfl, wX, wM],
 wf 9 10 [wm 1, wh (.lens · (.tmp 10)), wo 0 2, wL, wh (.lens · (.tmp 13)), wh (.bin · .num .sub (.k (.int .i64 20000)) (.tmp 14)), wB .gtr 11],
 qn [qp 17 9 16]] (Kp 131094)) (.cond 17 [2, 4] (Kp 22) (sq [qL 18 2 2, qw 2 4 18, qB 5 false] [4, 5] .ret) .skip)) (sr [wn 19 [wo 0 2, wL, wm 1, wB .add 20, wo 1 2, wL, wh (.build · [.str [], .int .i64 0] [(0, 1, (.tmp 22)), (1, 1, (.tmp 24))])],
 qn [qw 2 4 25, qB 5 true]] [4, 5] .ret))⟩
def d_xe2_j1 (p0 : GArea) (p1 : (List UInt8)) (v2 : Bool) : Option (GArea × Bool) :=
 br v2
  (some (p0, false))
  (gd (p0.Data.length + p1.length <= slim) (
  some ((GArea.mk (p0.Data ++ p1) p0.Safe, true))))
def d_xe2 (p0 : GArea) (p1 : (List UInt8)) : Option (GArea × Bool) :=
 bd (d_xb2 p0) fun x1 =>
 br (!x1)
  (jn (d_xe2_j1 p0 p1) true)
  (jn (d_xe2_j1 p0 p1) (decide ((↑p1.length : Int) > w64 (20000 - (↑p0.Data.length : Int)))))
def gf_xe2 : GF := y_xe2.gf rfl rfl (fun a => d_xe2 a.1 a.2.1) (fun a => by kernel_rfl)
def y_xe3 : YF := ⟨[], [.v (.st 11), .v (.st 0)], [], .ret [(.st 11), .i], [.cell 4 (some 23), .tmp 5],
 sq [qu 2 0, qu 3 1, .alloc 4 zGEngine, .nils [(.cell 4 0, .i), (.cell 4 11, (.st 2)), (.cell 4 12, (.st 7)), (.cell 4 13, .i), (.cell 4 14, .i), (.cell 4 22, (.st 0))], qK 5 0] (Kp 28) (sr [wn 9 [wk 23 2, wY gf_xey rfl],
 qn [.alloc 6 zGEngine, .nils [(.cell 6 0, .i), (.cell 6 11, (.st 2)), (.cell 6 12, (.st 7)), (.cell 6 13, .i), (.cell 6 14, .i), (.cell 6 22, (.st 0))], qw 23 6 10]] (Kp 92) (.seq (sw 11 [wk 23 2, wY gf_xb6 rfl, wX] (Kp 8284) (.cond 13 [4, 6] (Kp 92) (sq [qL 14 23 6, qw 23 4 14, qK 5 21] [4, 5] .ret) .skip)) (.seq (sw 15 [wk 6 3, wY gf_xb5 rfl, wX] (Kp 131164) (.cond 17 [4, 6] (Kp 92) (sq [qL 18 23 6, qw 23 4 18, qK 5 22] [4, 5] .ret) .skip)) (.seq (sw 19 [wo 21 2, wL, wI .eql 1000000] (Kp 2097244) (.cond 21 [4, 6] (Kp 92) (sq [qL 22 23 6, qw 23 4 22, qK 5 23] [4, 5] .ret) .skip)) (.seq (.dreg (qd 0 [wn 24 [wo 15 2, wO 0, wK 2, wo 21 2, wL, wI .add 1, wk 6 3]] (.both 0 (.op 7 none [25] (.call 31 gf_xe1 [] rfl [(.tmp 29), (.tmp 30)])
 (.both 0 (qd 8 [qn [qc 32 gf_xe2 rfl [26, 31], qm 23 32],
 wn 33 [wh (.ext · (.tmp 23) 0), wh (.ext · (.tmp 23) 1)]] (.op 12 none [3, 25, 27] (.alloc 7 [.str [], .int .i64 0])
 (qd 13 [qn [qw 2 7 33, qa 8 34]] (.dr [23, 24, 25, 26, 27, 28, 29, 30, 31, 32, 33, 34] .nil)))) (.op 12 none [3, 25, 27] (.alloc 7 [.str [], .int .i64 0])
 (qd 8 [qn [qc 32 gf_xe2 rfl [26, 31], qm 23 32],
 wn 33 [wh (.ext · (.tmp 23) 0), wh (.ext · (.tmp 23) 1)]] (qd 13 [qn [qw 2 7 33, qa 8 34]] (.dr [23, 24, 25, 26, 27, 28, 29, 30, 31, 32, 33, 34] .nil)))))) (.op 12 none [3, 25, 27] (.alloc 7 [.str [], .int .i64 0])
 (.op 7 none [25] (.call 31 gf_xe1 [] rfl [(.tmp 29), (.tmp 30)])
 (qd 8 [qn [qc 32 gf_xe2 rfl [26, 31], qm 23 32],
 wn 33 [wh (.ext · (.tmp 23) 0), wh (.ext · (.tmp 23) 1)]] (qd 13 [qn [qw 2 7 33, qa 8 34]] (.dr [23, 24, 25, 26, 27, 28, 29, 30, 31, 32, 33, 34] .nil))))))) [2, 3, 4, 6, 7, 8]) (.seq (.join [cv 42 .b] (qr [wn 35 [wo 22 2, wL, wZ, wI .eql 8, wM],
 wf 39 40 [wm 8, wX],
 qn [qp 42 39 41]] (Kp 4398046511324)) (.cond 42 [4, 6] (Kp 220) (sq [qL 43 23 6, qw 23 4 43, qK 5 24] [4, 5] .ret) .skip)) (sr [wn 44 [wk 2 7, wo 15 6, wO 0],
 qn [qw 2 46 44]] (Kp 92) (sr [wn 47 [wo 21 2, wL, wI .add 1, wo 21 6],
 qn [qw 1 50 49]] (Kp 88) (sr [wn 51 [wo 22 6, wL, wk 6 3, wh (.bslice · 1 (.st 0) [(0, (.tmp 53))]), wh (.app · (.st 0) true (.tmp 52) (.tmp 54)), wo 22 6],
 qn [qw 1 56 55]] [4, 6] (sq [qL 57 23 6, qw 23 4 57, qK 5 0] [4, 5] .ret))))))))))⟩
def d_xe3_j1 (p0 : GEngine) (p1 : GReq) (x1 : GEngine) (x5 : (GArea × Bool)) (v9 : Bool) : Option (GEngine × Int) :=
 br v9
  (some (x1, 24))
  (gd (x1.Laid.length + [p1].length <= lim) (
  some ((GEngine.mk x1.House (GStore.mk x5.fst x1.Store.Even x1.Store.Odd) (w64 (p0.Seq + 1)) (x1.Laid ++ [p1]), 0))))
def d_xe3 (p0 : GEngine) (p1 : GReq) : Option (GEngine × Int) :=
 bd (d_xey p0) fun x1 =>
 bd (d_xb6 p0) fun x2 =>
 br (!x2)
  (some (x1, 21))
  (bd (d_xb5 p1) fun x3 =>
  br (!x3)
   (some (x1, 22))
   (br (p0.Seq == 1000000)
    (some (x1, 23))
    (bd (d_xe1 (w64 (p0.Seq + 1)) p1) fun x4 =>
    bd (d_xe2 p0.Store.Log x4) fun x5 =>
    bd (d_xe2 p0.Store.Log x4) fun x6 =>
    eqv x5.snd x6.snd (
    vGArea x5.fst x6.fst (
    bd (d_xe1 (w64 (p0.Seq + 1)) p1) fun x7 =>
    bd (d_xe2 p0.Store.Log x7) fun x8 =>
    eqv x5.snd x8.snd (
    vGArea x5.fst x8.fst (
    br ((↑p0.Laid.length : Int) == 8)
     (jn (d_xe3_j1 p0 p1 x1 x5) true)
     (jn (d_xe3_j1 p0 p1 x1 x5) (!x5.snd)))))))))
def gf_xe3 : GF := y_xe3.gf rfl rfl (fun a => d_xe3 a.1 a.2.1) (fun a => by kernel_rfl)
def y_xe4 : YF := ⟨[], [.v (.l (.st 4))], [], .ret [(.l (.st 4))], [.tmp 2],
 sq [.as 2 (.k .nil), .nils [(.tmp 2 0, (.st 4))]] [0] (sr [wn 3 [wm 0, wh (.app · (.st 4) true (.k .nil) (.tmp 3))],
 qn [qa 2 4]] [2] .ret)⟩
def d_xe4 (p0 : (List GEntry)) : Option (List GEntry) :=
 gd (0 + p0.length <= lim) (
 some p0)
def gf_xe4 : GF := y_xe4.gf rfl rfl (fun a => d_xe4 a.1) (fun a => by kernel_rfl)
def y_xe5 : YF := ⟨[], [.v (.st 6)], [], .ret [(.st 6)], [.cell 2 (some 1)],
 sq [qu 1 0, .alloc 2 [.nil], .nils [(.cell 2 0, (.l (.st 5)))]] [1, 2] (sq [.alloc 3 [.nil], .nils [(.cell 3 0, (.l (.st 5)))]] (Kp 14) (.join [cx 3 (.st 6)] (sw 6 [wo 0 1, wL, wZ, wj 0] (Kp 908) (bl 0 [cv 9 .i, cx 3 (.st 6)] (sq [qb 10 .lss 9 8] (Kp 1932) (.seq (ce 10 (Kp 908) [2, 3] 0) (.seq (.block 1 (sr [wn 11 [we (.l (.st 5)) 7 9, wL],
 qn [qa 5 12]] (Kp 940) (.dreg (qd 0 [wn 13 [wo 0 3, wL, wm 5]] (.op 3 none [13] (.app 16 (.st 5) true (.k .nil) (.tmp 15))
 (.op 4 none [13] (.bslice 17 1 (.l (.st 5)) [(0, (.tmp 16))])
 (qd 5 [wn 18 [wh (.app · (.l (.st 5)) false (.tmp 14) (.tmp 17)), wo 0 3],
 qn [qw 1 19 18]] .nil)))) [2, 3, 7, 8, 9]))) (q1 [qi 20 .add 9 1, qm 9 20] (Kp 908))))))) (sq [qL 21 1 3, qw 1 2 21] [2] .ret)))⟩
def d_xe5_j2 (v5 : GWheel) : Option GWheel :=
 some v5
def d_xe5_l1 (p0 : GWheel) (L1 : (Int × GWheel) -> Option GWheel) (x_ : (Int × GWheel)) : Option GWheel :=
 match x_ with
 | (v2, v3) => br (decide (v2 < (↑p0.Spoke.length : Int)))
  (bd (at? p0.Spoke v2) fun x4 =>
  gd (0 + List.length x4 <= lim) (
  gd (v3.Spoke.length + [x4].length <= lim) (
  L1 ((w64 (v2 + 1), GWheel.mk (v3.Spoke ++ [x4]))))))
  (jn (d_xe5_j2) v3)
def d_xe5 (p0 : GWheel) : Option GWheel :=
 loopN (d_xe5_l1 p0) big (0, GWheel.mk [])
def gf_xe5 : GF := y_xe5.gf rfl rfl (fun a => d_xe5 a.1) (fun a => by kernel_rfl)
def y_xe6 : YF := ⟨[], [.v (.st 7)], [], .ret [(.st 7)], [.cell 2 (some 7)],
 sq [qu 1 0, .alloc 2 zGCabin, .nils [(.cell 2 5, (.st 4)), (.cell 2 6, (.l (.st 5)))]] [1, 2] (.seq (.dreg (qd 0 [wn 3 [wo 0 1, wK 5, wo 5 1, wL]] (qd 5 [wn 8 [wo 6 1, wK 1]] (.op 4 none [3, 8] (.call 7 gf_xe4 [] rfl [(.tmp 6)])
 (.op 7 none [3] (.call 10 gf_xe5 [] rfl [(.tmp 9)])
 (qd 8 [qn [.build 11 zGCabin [(0, 5, (.tmp 4)), (5, 1, (.tmp 7)), (6, 1, (.tmp 10))], qw 7 2 11]] .nil))))) [2]) .ret)⟩
def d_xe6 (p0 : GCabin) : Option GCabin :=
 bd (d_xe4 p0.Row) fun x1 =>
 bd (d_xe5 p0.Wheel) fun x2 =>
 some (GCabin.mk p0.Seats x1 x2)
def gf_xe6 : GF := y_xe6.gf rfl rfl (fun a => d_xe6 a.1) (fun a => by kernel_rfl)
def y_xe7 : YF := ⟨[], [.v (.st 8)], [], .ret [(.st 8)], [.cell 2 (some 15)],
 sq [qu 1 0, .alloc 2 zGHouse, .nils [(.cell 2 0, .i), (.cell 2 11, (.st 2)), (.cell 2 12, (.st 7)), (.cell 2 13, .i), (.cell 2 14, .i)]] [1, 2] (.seq (.dreg (qd 0 [wn 6 [wo 0 1, wK 9]] (qd 3 [wn 9 [wo 9 1, wL, wo 10 1, wL, wo 11 1, wL]] (qd 10 [wn 16 [wo 13 1, wL]] (qd 13 [wn 19 [wo 14 1, wL]] (.both 0 (.op 2 none [9, 11, 13, 16, 19] (.call 8 gf_xej [] rfl [(.tmp 7)])
 (.both 0 (.op 9 none [9, 11, 16, 19] (.app 15 (.st 2) true (.k .nil) (.tmp 14))
 (.both 0 (.op 12 none [9, 11, 19] (.call 18 gf_xei [] rfl [(.tmp 17)])
 (.both 0 (.op 15 none [9, 11] (.call 21 gf_xei [] rfl [(.tmp 20)])
 (.op 16 none [] (.build 22 zGHouse [(0, 9, (.tmp 8)), (9, 1, (.tmp 10)), (10, 1, (.tmp 12)), (11, 1, (.tmp 15)), (13, 1, (.tmp 18)), (14, 1, (.tmp 21))])
 (.nl [(.tmp 22 12, (.st 7))] (.op 17 none [6, 9, 11, 13, 16, 19] (.alloc 3 zGHouse)
 (.nl [(.cell 3 0, .i), (.cell 3 11, (.st 2)), (.cell 3 12, (.st 7)), (.cell 3 13, .i), (.cell 3 14, .i)] (.op 18 none [] (.st 15 (.tmp 3) (.tmp 22))
 (.dr [6, 7, 8, 9, 10, 11, 12, 13, 14, 15, 16, 17, 18, 19, 20, 21, 22] .nil))))))) (.op 17 none [6, 9, 11, 13, 16, 19] (.alloc 3 zGHouse)
 (.nl [(.cell 3 0, .i), (.cell 3 11, (.st 2)), (.cell 3 12, (.st 7)), (.cell 3 13, .i), (.cell 3 14, .i)] (.op 15 none [9, 11] (.call 21 gf_xei [] rfl [(.tmp 20)])
 (.op 16 none [] (.build 22 zGHouse [(0, 9, (.tmp 8)), (9, 1, (.tmp 10)), (10, 1, (.tmp 12)), (11, 1, (.tmp 15)), (13, 1, (.tmp 18)), (14, 1, (.tmp 21))])
 (.nl [(.tmp 22 12, (.st 7))] (.op 18 none [] (.st 15 (.tmp 3) (.tmp 22))
 (.dr [6, 7, 8, 9, 10, 11, 12, 13, 14, 15, 16, 17, 18, 19, 20, 21, 22] .nil))))))))) (.op 17 none [6, 9, 11, 13, 16, 19] (.alloc 3 zGHouse)
 (.nl [(.cell 3 0, .i), (.cell 3 11, (.st 2)), (.cell 3 12, (.st 7)), (.cell 3 13, .i), (.cell 3 14, .i)] (.op 12 none [9, 11, 19] (.call 18 gf_xei [] rfl [(.tmp 17)])
 (.op 15 none [9, 11] (.call 21 gf_xei [] rfl [(.tmp 20)])
 (.op 16 none [] (.build 22 zGHouse [(0, 9, (.tmp 8)), (9, 1, (.tmp 10)), (10, 1, (.tmp 12)), (11, 1, (.tmp 15)), (13, 1, (.tmp 18)), (14, 1, (.tmp 21))])
 (.nl [(.tmp 22 12, (.st 7))] (.op 18 none [] (.st 15 (.tmp 3) (.tmp 22))
 (.dr [6, 7, 8, 9, 10, 11, 12, 13, 14, 15, 16, 17, 18, 19, 20, 21, 22] .nil)))))))))) (.op 17 none [6, 9, 11, 13, 16, 19] (.alloc 3 zGHouse)
 (.nl [(.cell 3 0, .i), (.cell 3 11, (.st 2)), (.cell 3 12, (.st 7)), (.cell 3 13, .i), (.cell 3 14, .i)] (.op 9 none [9, 11, 16, 19] (.app 15 (.st 2) true (.k .nil) (.tmp 14))
 (.op 12 none [9, 11, 19] (.call 18 gf_xei [] rfl [(.tmp 17)])
 (.op 15 none [9, 11] (.call 21 gf_xei [] rfl [(.tmp 20)])
 (.op 16 none [] (.build 22 zGHouse [(0, 9, (.tmp 8)), (9, 1, (.tmp 10)), (10, 1, (.tmp 12)), (11, 1, (.tmp 15)), (13, 1, (.tmp 18)), (14, 1, (.tmp 21))])
 (.nl [(.tmp 22 12, (.st 7))] (.op 18 none [] (.st 15 (.tmp 3) (.tmp 22))
 (.dr [6, 7, 8, 9, 10, 11, 12, 13, 14, 15, 16, 17, 18, 19, 20, 21, 22] .nil))))))))))) (.op 17 none [6, 9, 11, 13, 16, 19] (.alloc 3 zGHouse)
 (.nl [(.cell 3 0, .i), (.cell 3 11, (.st 2)), (.cell 3 12, (.st 7)), (.cell 3 13, .i), (.cell 3 14, .i)] (.op 2 none [9, 11, 13, 16, 19] (.call 8 gf_xej [] rfl [(.tmp 7)])
 (.op 9 none [9, 11, 16, 19] (.app 15 (.st 2) true (.k .nil) (.tmp 14))
 (.op 12 none [9, 11, 19] (.call 18 gf_xei [] rfl [(.tmp 17)])
 (.op 15 none [9, 11] (.call 21 gf_xei [] rfl [(.tmp 20)])
 (.op 16 none [] (.build 22 zGHouse [(0, 9, (.tmp 8)), (9, 1, (.tmp 10)), (10, 1, (.tmp 12)), (11, 1, (.tmp 15)), (13, 1, (.tmp 18)), (14, 1, (.tmp 21))])
 (.nl [(.tmp 22 12, (.st 7))] (.op 18 none [] (.st 15 (.tmp 3) (.tmp 22))
 (.dr [6, 7, 8, 9, 10, 11, 12, 13, 14, 15, 16, 17, 18, 19, 20, 21, 22] .nil))))))))))))))) [1, 2, 3]) (.join [cx 3 (.st 8)] (sw 23 [wo 12 1, wL, wZ, wj 0] (Kp 117440524) (bl 0 [cv 26 .i, cx 3 (.st 8)] (sq [qb 27 .lss 26 25] (Kp 251658252) (.seq (ce 27 (Kp 117440524) [2, 3] 0) (.seq (.block 1 (sr [wn 28 [we (.st 7) 24 26, wK 7],
 qn [.alloc 5 zGCabin, .nils [(.cell 5 5, (.st 4)), (.cell 5 6, (.l (.st 5)))], qw 7 5 29]] (Kp 117440556) (.dreg (qd 0 [wn 30 [wo 12 3, wL, wk 7 5]] (.op 3 none [30] (.call 33 gf_xe6 [] rfl [(.tmp 32)])
 (.op 4 none [30] (.bslice 34 1 (.st 7) [(0, (.tmp 33))])
 (qd 5 [wn 35 [wh (.app · (.st 7) false (.tmp 31) (.tmp 34)), wo 12 3],
 qn [qw 1 36 35]] .nil)))) [2, 3, 24, 25, 26]))) (q1 [qi 37 .add 26 1, qm 26 37] (Kp 117440524))))))) (sq [qL 38 15 3, qw 15 2 38] [2] .ret)))⟩
def d_xe7_j2 (v17 : GHouse) : Option GHouse :=
 some v17
def d_xe7_l1 (p0 : GHouse) (L12 : (Int × GHouse) -> Option GHouse) (x_ : (Int × GHouse)) : Option GHouse :=
 match x_ with
 | (v13, v14) => br (decide (v13 < (↑p0.Cabins.length : Int)))
  (bd (at? p0.Cabins v13) fun x15 =>
  bd (d_xe6 x15) fun x16 =>
  gd (v14.Cabins.length + [x16].length <= lim) (
  L12 ((w64 (v13 + 1), GHouse.mk v14.Rules v14.Now v14.Turn v14.Parties (v14.Cabins ++ [x16]) v14.Todo v14.Jobs))))
  (jn (d_xe7_j2) v14)
def d_xe7 (p0 : GHouse) : Option GHouse :=
 bd (d_xej p0.Rules) fun x1 =>
 gd (0 + p0.Parties.length <= lim) (
 bd (d_xei p0.Todo) fun x2 =>
 bd (d_xei p0.Jobs) fun x3 =>
 bd (d_xei p0.Jobs) fun x4 =>
 vGRules x1 x1 (
 ev5 p0.Now p0.Turn p0.Parties ([] : List GCabin) x2 (
 eqv x3 x4 (
 bd (d_xei p0.Todo) fun x5 =>
 bd (d_xei p0.Jobs) fun x6 =>
 vGRules x1 x1 (
 ev4 p0.Now p0.Turn p0.Parties ([] : List GCabin) (
 eqv x2 x5 (
 eqv x3 x6 (
 gd (0 + p0.Parties.length <= lim) (
 bd (d_xei p0.Todo) fun x7 =>
 bd (d_xei p0.Jobs) fun x8 =>
 vGRules x1 x1 (
 ev4 p0.Now p0.Turn p0.Parties ([] : List GCabin) (
 eqv x2 x7 (
 eqv x3 x8 (
 bd (d_xej p0.Rules) fun x9 =>
 gd (0 + p0.Parties.length <= lim) (
 bd (d_xei p0.Todo) fun x10 =>
 bd (d_xei p0.Jobs) fun x11 =>
 vGRules x1 x9 (
 ev4 p0.Now p0.Turn p0.Parties ([] : List GCabin) (
 eqv x2 x10 (
 eqv x3 x11 (
 loopN (d_xe7_l1 p0) big (0, GHouse.mk x1 p0.Now p0.Turn p0.Parties [] x2 x3)))))))))))))))))))
def gf_xe7 : GF := y_xe7.gf rfl rfl (fun a => d_xe7 a.1) (fun a => by kernel_rfl)
def y_xe8 : YF := ⟨[], [.v (.st 11)], [], .ret [(.st 11)], [.cell 2 (some 23)],
 sq [qu 1 0, .alloc 2 zGEngine, .nils [(.cell 2 0, .i), (.cell 2 11, (.st 2)), (.cell 2 12, (.st 7)), (.cell 2 13, .i), (.cell 2 14, .i), (.cell 2 22, (.st 0))]] [1, 2] (.seq (.dreg (qd 0 [wn 3 [wo 0 1, wK 15]] (qd 3 [wn 6 [wo 15 1, wK 6, wo 21 1, wL, wo 22 1, wL]] (.op 2 none [6, 8, 10] (.call 5 gf_xe7 [] rfl [(.tmp 4)])
 (.op 9 none [6, 8] (.app 12 (.st 0) true (.k .nil) (.tmp 11))
 (qd 10 [qn [.build 13 zGEngine [(0, 15, (.tmp 5)), (15, 6, (.tmp 7)), (21, 1, (.tmp 9)), (22, 1, (.tmp 12))], qw 23 2 13]] .nil))))) [2]) .ret)⟩
def d_xe8 (p0 : GEngine) : Option GEngine :=
 bd (d_xe7 p0.House) fun x1 =>
 gd (0 + p0.Laid.length <= lim) (
 some (GEngine.mk x1 p0.Store p0.Seq p0.Laid))
def gf_xe8 : GF := y_xe8.gf rfl rfl (fun a => d_xe8 a.1) (fun a => by kernel_rfl)
def y_xe9 : YF := ⟨[], [.v (.st 0)], [], .ret [.s], [.tmp 2],
 sq [qu 1 0, .as 2 (.k (.str []))] [1] (.seq (sw 4 [wk 6 1, wY gf_xdg rfl, wX] [1, 6] (cn 6 [1] (sq [.as 2 (.k (.str []))] [2] .ret))) (sr [wn 7 [wo 0 1, wL, wh (.bslice · 1 .i [(0, (.tmp 8))])],
 qn [qa 3 9]] [1, 3] (.join [cv 3 (.l .i)] (sw 10 [wo 0 1, wL] (Kp 2058) (.block 0 (sq [qi 18 .eql 11 1, qa 17 18] (Kp 133130) (.cond 17 [1, 3] (Kp 2058) (qr [wn 19 [wm 3, wo 1 1, wL, wo 2 1, wL, wo 3 1, wL, wI .add 1, wo 4 1, wL, wo 5 1, wL, wh (.bslice · 5 .i [(0, (.tmp 21)), (1, (.tmp 23)), (2, (.tmp 26)), (3, (.tmp 28)), (4, (.tmp 30))]), wh (.app · .i true (.tmp 19) (.tmp 31))],
 qn [qa 3 32]] [3]) (sq [qi 34 .eql 11 3, qa 33 34] [1, 3, 11, 33] (.cond 33 [1, 3] (Kp 2058) (qr [wn 35 [wm 3, wo 2 1, wL, wo 4 1, wL, wh (.bslice · 2 .i [(0, (.tmp 37)), (1, (.tmp 39))]), wh (.app · .i true (.tmp 35) (.tmp 40))],
 qn [qa 3 41]] [3]) (sq [qi 43 .eql 11 6, qa 42 43] [1, 3, 42] (.cond 42 [3] [1, 3] .skip (qr [wn 12 [wm 3, wo 1 1, wL, wh (.bslice · 1 .i [(0, (.tmp 14))]), wh (.app · .i true (.tmp 12) (.tmp 15))],
 qn [qa 3 16]] [3]))))))))) (sr [wn 44 [wm 3, wY gf_xd6 rfl],
 qn [qa 2 45]] [2] .ret))))⟩
def d_xe9_j1 (v2 : (List Int)) : Option (List UInt8) :=
 bd (d_xd6 v2) fun x3 =>
 some x3
def d_xe9 (p0 : GReq) : Option (List UInt8) :=
 bd (d_xdg p0) fun x1 =>
 br (!x1)
  (some [])
  (br (p0.Kind == 1)
   (gd ([p0.Kind].length + [p0.Id, p0.Cabin, w64 (p0.From + 1), p0.Size, p0.Tier].length <= lim) (
   jn (d_xe9_j1) ([p0.Kind] ++ [p0.Id, p0.Cabin, w64 (p0.From + 1), p0.Size, p0.Tier])))
   (br (p0.Kind == 3)
    (gd ([p0.Kind].length + [p0.Cabin, p0.Size].length <= lim) (
    jn (d_xe9_j1) ([p0.Kind] ++ [p0.Cabin, p0.Size])))
    (br (p0.Kind == 6)
     (jn (d_xe9_j1) [p0.Kind])
     (gd ([p0.Kind].length + [p0.Id].length <= lim) (
     jn (d_xe9_j1) ([p0.Kind] ++ [p0.Id]))))))
def gf_xe9 : GF := y_xe9.gf rfl rfl (fun a => d_xe9 a.1) (fun a => by kernel_rfl)
def y_xfa : YF := ⟨[], [.v .i, .v .s], [], .ret [.s], [.tmp 4],
 sq [.as 4 (.k (.str []))] [0, 1] (.seq (.join [cv 16 .b] (qr [wn 8 [wm 0, wc gf_xb7 rfl [8, qj 1, qj 1000000], wX, wM],
 wf 11 12 [wm 1, wh (.lens · (.tmp 12)), wc gf_xb7 rfl [13, qj 1, qj 60], wX],
 qn [qp 16 11 15]] [0, 1, 16]) (cn 16 [0, 1] (sq [.as 4 (.k (.str []))] [4] .ret))) (sr [wn 17 [wm 0, wY gf_xd5 rfl, wm 1, wh (.app · .u true (.tmp 18) (.tmp 19))],
 qn [qa 5 20]] [5] (sr [wn 21 [wm 5, wY gf_xd7 rfl],
 qn [qa 6 22]] [5, 6] (sr [wn 23 [wm 6, wh (.bin · .num .shr (.tmp 23) (.k (.int .u64 24))), wh (.cvI · .u8 (.tmp 24)), wm 6, wh (.bin · .num .shr (.tmp 26) (.k (.int .u64 16))), wh (.cvI · .u8 (.tmp 27)), wm 6, wh (.bin · .num .shr (.tmp 29) (.k (.int .u64 8))), wh (.cvI · .u8 (.tmp 30)), wm 6, wh (.cvI · .u8 (.tmp 32)), wh (.bslice · 4 .u [(0, (.tmp 25)), (1, (.tmp 28)), (2, (.tmp 31)), (3, (.tmp 33))]), wm 5, wh (.app · .u true (.tmp 34) (.tmp 35))],
 qn [qa 7 36]] [7] (.seq (.dreg (qd 0 [wn 37 [wm 7, wZ]] (qd 4 [wn 41 [wm 7, wh (.cvBS · (.tmp 41))]] (.op 2 none [41] (.call 39 gf_xd5 [] rfl [(.tmp 38)])
 (.op 3 none [] (.cvBS 40 (.tmp 39))
 (qd 6 [qn [qb 43 .add 40 42, qa 4 43]] .nil))))) [4]) .ret)))))⟩
def d_xfa_j1 (p0 : Int) (p1 : (List UInt8)) (v2 : Bool) : Option (List UInt8) :=
 br v2
  (some [])
  (bd (d_xd5 p0) fun x3 =>
  gd (List.length x3 + p1.length <= lim) (
  bd (d_xd7 (x3 ++ p1)) fun x4 =>
  gd ([toB (shrI x4 24), toB (shrI x4 16), toB (shrI x4 8), toB x4].length + (x3 ++ p1).length <= lim) (
  bd (d_xd5 ((↑([toB (shrI x4 24), toB (shrI x4 16), toB (shrI x4 8), toB x4] ++ (x3 ++ p1)).length : Int))) fun x5 =>
  gd (List.length x5 + ([toB (shrI x4 24), toB (shrI x4 16), toB (shrI x4 8), toB x4] ++ (x3 ++ p1)).length <= slim) (
  some (x5 ++ ([toB (shrI x4 24), toB (shrI x4 16), toB (shrI x4 8), toB x4] ++ (x3 ++ p1)))))))
def d_xfa (p0 : Int) (p1 : (List UInt8)) : Option (List UInt8) :=
 bd (d_xb7 p0 1 1000000) fun x1 =>
 br (!x1)
  (jn (d_xfa_j1 p0 p1) true)
  (bd (d_xb7 (↑p1.length : Int) 1 60) fun x6 =>
  jn (d_xfa_j1 p0 p1) (!x6))
def gf_xfa : GF := y_xfa.gf rfl rfl (fun a => d_xfa a.1 a.2.1) (fun a => by kernel_rfl)
def y_xfb : YF := ⟨[], [.v .i, .v (.st 0)], [], .ret [.s], [.tmp 4],
 sq [qu 3 1, .as 4 (.k (.str []))] [0, 3] (sr [wn 5 [wm 0, wk 6 3, wY gf_xe9 rfl, wc gf_xfa rfl [5, 7]],
 qn [qa 4 8]] [4] .ret)⟩
def d_xfb (p0 : Int) (p1 : GReq) : Option (List UInt8) :=
 bd (d_xe9 p1) fun x1 =>
 bd (d_xfa p0 x1) fun x2 =>
 some x2
def gf_xfb : GF := y_xfb.gf rfl rfl (fun a => d_xfb a.1 a.2.1) (fun a => by kernel_rfl)
def y_xfc : YF := ⟨[], [.v (.st 9), .v .s], [], .ret [(.st 9), .b], [.cell 4 (some 2), .tmp 5],
 sq [qu 2 0, .alloc 4 [.str [], .int .i64 0], qB 5 false] (Kp 22) (sr [wn 7 [wo 0 2, wL, wm 1, wB .add 8, wo 1 2, wL, wh (.build · [.str [], .int .i64 0] [(0, 1, (.tmp 10)), (1, 1, (.tmp 12))])],
 qn [.alloc 6 [.str [], .int .i64 0], qw 2 6 13]] (Kp 84) (.seq (.join [cv 21 .b] (qr [wn 14 [wk 2 2, wY gf_xdd rfl, wX, wM],
 wf 17 18 [wk 2 6, wY gf_xdd rfl, wX],
 qn [qp 21 17 20]] (Kp 2097236)) (.cond 21 [2, 4] [4, 6] (sq [qL 22 2 2, qw 2 4 22, qB 5 false] [4, 5] .ret) .skip)) (sq [qL 23 2 6, qw 2 4 23, qB 5 true] [4, 5] .ret)))⟩
def d_xfc_j1 (p0 : GArea) (p1 : (List UInt8)) (v2 : Bool) : Option (GArea × Bool) :=
 br v2
  (some (p0, false))
  (some ((GArea.mk (p0.Data ++ p1) p0.Safe, true)))
def d_xfc (p0 : GArea) (p1 : (List UInt8)) : Option (GArea × Bool) :=
 gd (p0.Data.length + p1.length <= slim) (
 bd (d_xdd p0) fun x1 =>
 br (!x1)
  (jn (d_xfc_j1 p0 p1) true)
  (bd (d_xdd (GArea.mk (p0.Data ++ p1) p0.Safe)) fun x3 =>
  jn (d_xfc_j1 p0 p1) (!x3)))
def gf_xfc : GF := y_xfc.gf rfl rfl (fun a => d_xfc a.1 a.2.1) (fun a => by kernel_rfl)
def y_xfd : YF := ⟨[], [.v (.st 11), .v (.st 0)], [], .ret [(.st 11), .i], [.cell 4 (some 23), .tmp 5],
 sq [qu 2 0, qu 3 1, .alloc 4 zGEngine, .nils [(.cell 4 0, .i), (.cell 4 11, (.st 2)), (.cell 4 12, (.st 7)), (.cell 4 13, .i), (.cell 4 14, .i), (.cell 4 22, (.st 0))], qK 5 0] (Kp 28) (sr [wn 9 [wk 23 2, wY gf_xe8 rfl],
 qn [.alloc 6 zGEngine, .nils [(.cell 6 0, .i), (.cell 6 11, (.st 2)), (.cell 6 12, (.st 7)), (.cell 6 13, .i), (.cell 6 14, .i), (.cell 6 22, (.st 0))], qw 23 6 10]] (Kp 92) (.seq (.block 0 (sr [wn 12 [wk 23 2, wY gf_xdh rfl, wX],
 qn [qa 11 14]] (Kp 2140) (.cond 11 [4, 6] (Kp 92) (sq [qL 15 23 6, qw 23 4 15, qK 5 21] [4, 5] .ret) (sr [wn 17 [wk 6 3, wY gf_xdg rfl, wX],
 qn [qa 16 19]] (Kp 65628) (.cond 16 [4, 6] (Kp 92) (sq [qL 20 23 6, qw 23 4 20, qK 5 22] [4, 5] .ret) (sr [wn 22 [wo 21 2, wL, wI .eql 1000000],
 qn [qa 21 24]] (Kp 2097244) (.cond 21 [4, 6] (Kp 92) (sq [qL 25 23 6, qw 23 4 25, qK 5 23] [4, 5] .ret) (sr [wn 27 [wo 22 2, wL, wZ, wI .eql 8],
 qn [qa 26 30]] (Kp 67108956) (.cond 26 [4, 6] (Kp 92) (sq [qL 31 23 6, qw 23 4 31, qK 5 24] [4, 5] .ret) .skip))))))))) (.seq (.dreg (qd 0 [wn 33 [wo 15 2, wO 0, wK 2, wo 21 2, wL, wI .add 1, wk 6 3]] (.both 0 (.op 7 none [34] (.call 40 gf_xfb [] rfl [(.tmp 38), (.tmp 39)])
 (.both 0 (qd 8 [qn [qc 41 gf_xfc rfl [35, 40], qm 32 41],
 wn 42 [wh (.ext · (.tmp 32) 0), wh (.ext · (.tmp 32) 1)]] (.op 12 none [3, 34, 36] (.alloc 7 [.str [], .int .i64 0])
 (qd 13 [qn [qw 2 7 42, qa 8 43]] (.dr [32, 33, 34, 35, 36, 37, 38, 39, 40, 41, 42, 43] .nil)))) (.op 12 none [3, 34, 36] (.alloc 7 [.str [], .int .i64 0])
 (qd 8 [qn [qc 41 gf_xfc rfl [35, 40], qm 32 41],
 wn 42 [wh (.ext · (.tmp 32) 0), wh (.ext · (.tmp 32) 1)]] (qd 13 [qn [qw 2 7 42, qa 8 43]] (.dr [32, 33, 34, 35, 36, 37, 38, 39, 40, 41, 42, 43] .nil)))))) (.op 12 none [3, 34, 36] (.alloc 7 [.str [], .int .i64 0])
 (.op 7 none [34] (.call 40 gf_xfb [] rfl [(.tmp 38), (.tmp 39)])
 (qd 8 [qn [qc 41 gf_xfc rfl [35, 40], qm 32 41],
 wn 42 [wh (.ext · (.tmp 32) 0), wh (.ext · (.tmp 32) 1)]] (qd 13 [qn [qw 2 7 42, qa 8 43]] (.dr [32, 33, 34, 35, 36, 37, 38, 39, 40, 41, 42, 43] .nil))))))) [3, 4, 6, 7, 8]) (.seq (sw 44 [wm 8, wX] [3, 4, 6, 7, 45] (.cond 45 [4, 6] (Kp 216) (sq [qL 46 23 6, qw 23 4 46, qK 5 24] [4, 5] .ret) .skip)) (sr [wn 47 [wk 2 7, wo 15 6, wO 0],
 qn [qw 2 49 47]] (Kp 88) (sr [wn 50 [wo 21 6, wL, wI .add 1, wo 21 6],
 qn [qw 1 53 52]] (Kp 88) (sr [wn 54 [wo 22 6, wL, wk 6 3, wh (.bslice · 1 (.st 0) [(0, (.tmp 56))]), wh (.app · (.st 0) true (.tmp 55) (.tmp 57)), wo 22 6],
 qn [qw 1 59 58]] [4, 6] (sq [qL 60 23 6, qw 23 4 60, qK 5 0] [4, 5] .ret))))))))⟩
def d_xfd (p0 : GEngine) (p1 : GReq) : Option (GEngine × Int) :=
 bd (d_xe8 p0) fun x1 =>
 bd (d_xdh p0) fun x2 =>
 br (!x2)
  (some (x1, 21))
  (bd (d_xdg p1) fun x3 =>
  br (!x3)
   (some (x1, 22))
   (br (p0.Seq == 1000000)
    (some (x1, 23))
    (br ((↑p0.Laid.length : Int) == 8)
     (some (x1, 24))
     (bd (d_xfb (w64 (p0.Seq + 1)) p1) fun x4 =>
     bd (d_xfc p0.Store.Log x4) fun x5 =>
     bd (d_xfc p0.Store.Log x4) fun x6 =>
     eqv x5.snd x6.snd (
     vGArea x5.fst x6.fst (
     bd (d_xfb (w64 (p0.Seq + 1)) p1) fun x7 =>
     bd (d_xfc p0.Store.Log x7) fun x8 =>
     eqv x5.snd x8.snd (
     vGArea x5.fst x8.fst (
     br (!x5.snd)
      (some (x1, 24))
      (gd (x1.Laid.length + [p1].length <= lim) (
      some ((GEngine.mk x1.House (GStore.mk x5.fst x1.Store.Even x1.Store.Odd) (w64 (x1.Seq + 1)) (x1.Laid ++ [p1]), 0))))))))))))
def gf_xfd : GF := y_xfd.gf rfl rfl (fun a => d_xfd a.1 a.2.1) (fun a => by kernel_rfl)
def y_laws_FnExactLay : YF := ⟨[], [.v (.st 11), .v (.st 0)], [], .ret [.b], [.tmp 4],
 sq [qu 2 0, qu 3 1, qB 4 false] [2, 3] (sq [qK 5 1048576] (Kp 44) (sr [wn 16 [wk 23 2, wm 5, wc gf_xn rfl [16, 17]],
 qn [qa 5 18]] (Kp 44) (.seq (sw 19 [wm 5, wI .lss 0] [2, 3, 20] (cn 20 [2, 3] (sq [qB 4 true] [4] .ret))) (.seq (.dreg (.op 0 none [] (.ld 22 (some 23) (.tmp 2))
 (.op 2 none [] (.ld 24 (some 6) (.tmp 3))
 (.both 0 (.op 1 none [3] (.call 23 gf_x6 [] rfl [(.tmp 22)])
 (.both 0 (.op 3 none [] (.call 25 gf_x4 [] rfl [(.tmp 24)])
 (.both 0 (qd 4 [qn [qc 26 gf_xe3 rfl [23, 25], qm 21 26],
 wn 27 [wh (.ext · (.tmp 21) 0), wh (.ext · (.tmp 21) 1)]] (.op 8 none [2, 3] (.alloc 6 zGEngine)
 (.nl [(.cell 6 0, .i), (.cell 6 11, (.st 2)), (.cell 6 12, (.st 7)), (.cell 6 13, .i), (.cell 6 14, .i), (.cell 6 22, (.st 0))] (qd 9 [qn [qw 23 6 27, qa 7 28]] (.dr [21, 22, 23, 24, 25, 26, 27, 28] .nil))))) (.op 8 none [2, 3] (.alloc 6 zGEngine)
 (.nl [(.cell 6 0, .i), (.cell 6 11, (.st 2)), (.cell 6 12, (.st 7)), (.cell 6 13, .i), (.cell 6 14, .i), (.cell 6 22, (.st 0))] (qd 4 [qn [qc 26 gf_xe3 rfl [23, 25], qm 21 26],
 wn 27 [wh (.ext · (.tmp 21) 0), wh (.ext · (.tmp 21) 1)]] (qd 9 [qn [qw 23 6 27, qa 7 28]] (.dr [21, 22, 23, 24, 25, 26, 27, 28] .nil))))))) (.op 8 none [2, 3] (.alloc 6 zGEngine)
 (.nl [(.cell 6 0, .i), (.cell 6 11, (.st 2)), (.cell 6 12, (.st 7)), (.cell 6 13, .i), (.cell 6 14, .i), (.cell 6 22, (.st 0))] (qd 3 [wn 25 [wY gf_x4 rfl, wc gf_xe3 rfl [23, 25]],
 qn [qm 21 26],
 wn 27 [wh (.ext · (.tmp 21) 0), wh (.ext · (.tmp 21) 1)]] (qd 9 [qn [qw 23 6 27, qa 7 28]] (.dr [21, 22, 23, 24, 25, 26, 27, 28] .nil))))))) (.op 8 none [2, 3] (.alloc 6 zGEngine)
 (.nl [(.cell 6 0, .i), (.cell 6 11, (.st 2)), (.cell 6 12, (.st 7)), (.cell 6 13, .i), (.cell 6 14, .i), (.cell 6 22, (.st 0))] (.op 1 none [3] (.call 23 gf_x6 [] rfl [(.tmp 22)])
 (qd 3 [wn 25 [wY gf_x4 rfl, wc gf_xe3 rfl [23, 25]],
 qn [qm 21 26],
 wn 27 [wh (.ext · (.tmp 21) 0), wh (.ext · (.tmp 21) 1)]] (qd 9 [qn [qw 23 6 27, qa 7 28]] (.dr [21, 22, 23, 24, 25, 26, 27, 28] .nil))))))))) [2, 3, 6, 7]) (sr [wn 29 [wk 23 2, wY gf_x6 rfl],
 qn [.alloc 8 zGEngine, .nils [(.cell 8 0, .i), (.cell 8 11, (.st 2)), (.cell 8 12, (.st 7)), (.cell 8 13, .i), (.cell 8 14, .i), (.cell 8 22, (.st 0))], qw 23 8 30]] (Kp 460) (.seq (.dreg (qd 0 [wn 32 [wk 23 8, wk 6 3]] (.both 0 (.op 2 none [8] (.call 34 gf_x4 [] rfl [(.tmp 33)])
 (.both 0 (qd 3 [qn [qc 35 gf_xfd rfl [32, 34], qm 31 35],
 wn 36 [wh (.ext · (.tmp 31) 0), wh (.ext · (.tmp 31) 1)]] (.op 7 none [3, 8] (.alloc 9 zGEngine)
 (.nl [(.cell 9 0, .i), (.cell 9 11, (.st 2)), (.cell 9 12, (.st 7)), (.cell 9 13, .i), (.cell 9 14, .i), (.cell 9 22, (.st 0))] (qd 8 [qn [qw 23 9 36, qa 10 37]] (.dr [31, 32, 33, 34, 35, 36, 37] .nil))))) (.op 7 none [3, 8] (.alloc 9 zGEngine)
 (.nl [(.cell 9 0, .i), (.cell 9 11, (.st 2)), (.cell 9 12, (.st 7)), (.cell 9 13, .i), (.cell 9 14, .i), (.cell 9 22, (.st 0))] (qd 3 [qn [qc 35 gf_xfd rfl [32, 34], qm 31 35],
 wn 36 [wh (.ext · (.tmp 31) 0), wh (.ext · (.tmp 31) 1)]] (qd 8 [qn [qw 23 9 36, qa 10 37]] (.dr [31, 32, 33, 34, 35, 36, 37] .nil))))))) (.op 7 none [3, 8] (.alloc 9 zGEngine)
 (.nl [(.cell 9 0, .i), (.cell 9 11, (.st 2)), (.cell 9 12, (.st 7)), (.cell 9 13, .i), (.cell 9 14, .i), (.cell 9 22, (.st 0))] (.op 2 none [8] (.call 34 gf_x4 [] rfl [(.tmp 33)])
 (qd 3 [qn [qc 35 gf_xfd rfl [32, 34], qm 31 35],
 wn 36 [wh (.ext · (.tmp 31) 0), wh (.ext · (.tmp 31) 1)]] (qd 8 [qn [qw 23 9 36, qa 10 37]] (.dr [31, 32, 33, 34, 35, 36, 37] .nil)))))))) [2, 3, 6, 7, 8, 9, 10]) (.seq (.join [cv 46 .b] (qr [wn 38 [wk 23 9, wk 23 6, wc gf_xd0 rfl [38, 39], wX, wM],
 wf 42 43 [wm 10, wm 7, wB .neq 43],
 qn [qp 46 42 45]] (Kp 70368744179660)) (cn 46 (Kp 1996) (sq [qB 4 false] [4] .ret))) (.seq (.seq (.dreg (qd 0 [wn 47 [wk 23 8, wk 23 2]] (.op 2 none [8] (.call 49 gf_x6 [] rfl [(.tmp 48)])
 (qd 3 [wn 50 [wc gf_xd0 rfl [47, 49], wX]] .nil))) [2, 3, 6, 7, 8, 9, 10, 51]) (cn 51 (Kp 1996) (sq [qB 4 false] [4] .ret))) (sq [qK 11 1] (Kp 4044) (sr [wn 52 [wk 23 8, wm 11, wc gf_xel rfl [52, 53]],
 qn [qa 11 54]] (Kp 3788) (.seq (.join [cv 67 .b] (qr [wn 55 [wm 11, wI .lss 0, wM],
 wf 57 58 [wk 23 9, wk 23 6, wc gf_xd0 rfl [58, 59], wX],
 wn 62 [wR 57, wM],
 wf 63 64 [wm 10, wm 7, wB .neq 64],
 qn [qp 67 63 66]] [2, 3, 6, 7, 9, 67]) (cn 67 (Kp 716) (sq [qB 4 false] [4] .ret))) (sq [qK 12 1] (Kp 4812) (sr [wn 68 [wk 23 9, wm 12, wc gf_xel rfl [68, 69]],
 qn [qa 12 70]] (Kp 4812) (sq [qK 13 1] (Kp 13004) (sr [wn 71 [wk 23 9, wm 13, wc gf_xeu rfl [71, 72]],
 qn [qa 13 73]] (Kp 13004) (.seq (sw 74 [wm 13, wI .lss 0] [2, 3, 6, 7, 9, 12, 13, 75] (cn 75 (Kp 13004) (sq [qB 4 false] [4] .ret))) (.seq (sw 76 [wm 13, wm 12, wB .neq 76] [2, 3, 6, 7, 9, 12, 78] (cn 78 (Kp 4812) (sq [qB 4 false] [4] .ret))) (.seq (.dreg (.op 0 none [] (.ld 80 (some 23) (.tmp 2))
 (.op 2 none [] (.ld 82 (some 6) (.tmp 3))
 (.both 0 (.op 1 none [3] (.call 81 gf_x6 [] rfl [(.tmp 80)])
 (.both 0 (.op 3 none [] (.call 83 gf_x4 [] rfl [(.tmp 82)])
 (.both 0 (qd 4 [qn [qc 84 gf_xfd rfl [81, 83], qm 79 84],
 wn 85 [wh (.ext · (.tmp 79) 0), wh (.ext · (.tmp 79) 1)]] (.op 8 none [2, 3] (.alloc 14 zGEngine)
 (.nl [(.cell 14 0, .i), (.cell 14 11, (.st 2)), (.cell 14 12, (.st 7)), (.cell 14 13, .i), (.cell 14 14, .i), (.cell 14 22, (.st 0))] (qd 9 [qn [qw 23 14 85, qa 15 86]] (.dr [79, 80, 81, 82, 83, 84, 85, 86] .nil))))) (.op 8 none [2, 3] (.alloc 14 zGEngine)
 (.nl [(.cell 14 0, .i), (.cell 14 11, (.st 2)), (.cell 14 12, (.st 7)), (.cell 14 13, .i), (.cell 14 14, .i), (.cell 14 22, (.st 0))] (qd 4 [qn [qc 84 gf_xfd rfl [81, 83], qm 79 84],
 wn 85 [wh (.ext · (.tmp 79) 0), wh (.ext · (.tmp 79) 1)]] (qd 9 [qn [qw 23 14 85, qa 15 86]] (.dr [79, 80, 81, 82, 83, 84, 85, 86] .nil))))))) (.op 8 none [2, 3] (.alloc 14 zGEngine)
 (.nl [(.cell 14 0, .i), (.cell 14 11, (.st 2)), (.cell 14 12, (.st 7)), (.cell 14 13, .i), (.cell 14 14, .i), (.cell 14 22, (.st 0))] (qd 3 [wn 83 [wY gf_x4 rfl, wc gf_xfd rfl [81, 83]],
 qn [qm 79 84],
 wn 85 [wh (.ext · (.tmp 79) 0), wh (.ext · (.tmp 79) 1)]] (qd 9 [qn [qw 23 14 85, qa 15 86]] (.dr [79, 80, 81, 82, 83, 84, 85, 86] .nil))))))) (.op 8 none [2, 3] (.alloc 14 zGEngine)
 (.nl [(.cell 14 0, .i), (.cell 14 11, (.st 2)), (.cell 14 12, (.st 7)), (.cell 14 13, .i), (.cell 14 14, .i), (.cell 14 22, (.st 0))] (.op 1 none [3] (.call 81 gf_x6 [] rfl [(.tmp 80)])
 (qd 3 [wn 83 [wY gf_x4 rfl, wc gf_xfd rfl [81, 83]],
 qn [qm 79 84],
 wn 85 [wh (.ext · (.tmp 79) 0), wh (.ext · (.tmp 79) 1)]] (qd 9 [qn [qw 23 14 85, qa 15 86]] (.dr [79, 80, 81, 82, 83, 84, 85, 86] .nil))))))))) [6, 7, 9, 12, 14, 15]) (.seq (.join [cv 95 .b] (qr [wn 87 [wk 23 14, wk 23 6, wc gf_xd0 rfl [87, 88], wX, wM],
 wf 91 92 [wm 15, wm 7, wB .neq 92],
 qn [qp 95 91 94]] [9, 12, 95]) (cn 95 [9, 12] (sq [qB 4 false] [4] .ret))) (sq [qK 13 1] (Kp 12800) (sr [wn 96 [wk 23 9, wm 13, wc gf_xeu rfl [96, 97]],
 qn [qa 13 98]] [12, 13] (.seq (sw 99 [wm 13, wI .lss 0] [12, 13, 100] (cn 100 [12, 13] (sq [qB 4 false] [4] .ret))) (.seq (sw 101 [wm 13, wm 12, wB .neq 101] [103] (cn 103 [] (sq [qB 4 false] [4] .ret))) (sq [qB 4 true] [4] .ret))))))))))))))))))))))))⟩
def d_laws_FnExactLay_j3 (x13 : (GEngine × Int)) (x23 : (Int × GEngine)) (v35 : Bool) : Option Bool :=
 br v35
  (some false)
  (bd (d_xeu (GEngine.mk (GHouse.mk (GRules.mk x23.snd.House.Rules.Seats x13.fst.House.Rules.Tiers x13.fst.House.Rules.Room x13.fst.House.Rules.Size x13.fst.House.Rules.Period x13.fst.House.Rules.Window x13.fst.House.Rules.Rest x13.fst.House.Rules.Tries x13.fst.House.Rules.Crew) x13.fst.House.Now x13.fst.House.Turn x23.snd.House.Parties x23.snd.House.Cabins x23.snd.House.Todo x23.snd.House.Jobs) x13.fst.Store x13.fst.Seq x23.snd.Laid) 1) fun x36 =>
  br (decide (x36 < 0))
   (some false)
   (br (x36 != x23.fst)
    (some false)
    (some true)))
def d_laws_FnExactLay_j2 (p0 : GEngine) (p1 : GReq) (x4 : (GEngine × Int)) (x13 : (GEngine × Int)) (v22 : Bool) : Option Bool :=
 br v22
  (some false)
  (bd (d_xel x13.fst 1) fun x23 =>
  bd (d_xeu (GEngine.mk (GHouse.mk (GRules.mk x23.snd.House.Rules.Seats x13.fst.House.Rules.Tiers x13.fst.House.Rules.Room x13.fst.House.Rules.Size x13.fst.House.Rules.Period x13.fst.House.Rules.Window x13.fst.House.Rules.Rest x13.fst.House.Rules.Tries x13.fst.House.Rules.Crew) x13.fst.House.Now x13.fst.House.Turn x23.snd.House.Parties x23.snd.House.Cabins x23.snd.House.Todo x23.snd.House.Jobs) x13.fst.Store x13.fst.Seq x23.snd.Laid) 1) fun x24 =>
  br (decide (x24 < 0))
   (some false)
   (br (x24 != x23.fst)
    (some false)
    (bd (d_x6 p0) fun x25 =>
    bd (d_x4 p1) fun x26 =>
    bd (d_xfd x25 x26) fun x27 =>
    bd (d_xfd x25 x26) fun x28 =>
    eqv x27.snd x28.snd (
    vGEngine x27.fst x28.fst (
    bd (d_x4 p1) fun x29 =>
    bd (d_xfd x25 x29) fun x30 =>
    eqv x27.snd x30.snd (
    vGEngine x27.fst x30.fst (
    bd (d_x6 p0) fun x31 =>
    bd (d_x4 p1) fun x32 =>
    bd (d_xfd x31 x32) fun x33 =>
    eqv x27.snd x33.snd (
    vGEngine x27.fst x33.fst (
    bd (d_xd0 x27.fst x4.fst) fun x34 =>
    br (!x34)
     (jn (d_laws_FnExactLay_j3 x13 x23) true)
     (jn (d_laws_FnExactLay_j3 x13 x23) (x27.snd != x4.snd)))))))))))
def d_laws_FnExactLay_j1 (p0 : GEngine) (p1 : GReq) (x4 : (GEngine × Int)) (x11 : GEngine) (x13 : (GEngine × Int)) (v18 : Bool) : Option Bool :=
 br v18
  (some false)
  (bd (d_x6 p0) fun x19 =>
  bd (d_xd0 x11 x19) fun x20 =>
  br (!x20)
   (some false)
   (bd (d_xel x11 1) fun x21 =>
   br (decide (x21.fst < 0))
    (jn (d_laws_FnExactLay_j2 p0 p1 x4 x13) true)
    (bd (d_xd0 x13.fst x4.fst) fun x37 =>
    br (!x37)
     (jn (d_laws_FnExactLay_j2 p0 p1 x4 x13) true)
     (jn (d_laws_FnExactLay_j2 p0 p1 x4 x13) (x13.snd != x4.snd)))))
def d_laws_FnExactLay (p0 : GEngine) (p1 : GReq) : Option Bool :=
 bd (d_xn p0 1048576) fun x1 =>
 br (decide (x1 < 0))
  (some true)
  (bd (d_x6 p0) fun x2 =>
  bd (d_x4 p1) fun x3 =>
  bd (d_xe3 x2 x3) fun x4 =>
  bd (d_xe3 x2 x3) fun x5 =>
  eqv x4.snd x5.snd (
  vGEngine x4.fst x5.fst (
  bd (d_x4 p1) fun x6 =>
  bd (d_xe3 x2 x6) fun x7 =>
  eqv x4.snd x7.snd (
  vGEngine x4.fst x7.fst (
  bd (d_x6 p0) fun x8 =>
  bd (d_x4 p1) fun x9 =>
  bd (d_xe3 x8 x9) fun x10 =>
  eqv x4.snd x10.snd (
  vGEngine x4.fst x10.fst (
  bd (d_x6 p0) fun x11 =>
  bd (d_x4 p1) fun x12 =>
  bd (d_xfd x11 x12) fun x13 =>
  bd (d_xfd x11 x12) fun x14 =>
  eqv x13.snd x14.snd (
  vGEngine x13.fst x14.fst (
  bd (d_x4 p1) fun x15 =>
  bd (d_xfd x11 x15) fun x16 =>
  eqv x13.snd x16.snd (
  vGEngine x13.fst x16.fst (
  bd (d_xd0 x13.fst x4.fst) fun x17 =>
  br (!x17)
   (jn (d_laws_FnExactLay_j1 p0 p1 x4 x11 x13) true)
   (jn (d_laws_FnExactLay_j1 p0 p1 x4 x11 x13) (x13.snd != x4.snd)))))))))))))
def gf_laws_FnExactLay : GF := y_laws_FnExactLay.gf rfl rfl (fun a => d_laws_FnExactLay a.1 a.2.1) (fun a => by kernel_rfl)
end
end Lv
