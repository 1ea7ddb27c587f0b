/-
  Printed: functions of the program as texts of the typed machine, as plain functions, and that the one is the other.
-/
import Derived.Test.YtifcpnfmfagidaaGreatKA
import Derived.KernelRfl
set_option linter.unusedVariables false
set_option linter.unusedSimpArgs false
set_option linter.unusedVariables false
set_option maxRecDepth 100000
namespace Lv
open Go (IntKind BinOp UnOp)
noncomputable section
open Y (YF qn qf qt qr q1 qd qm qa qo ql qL qb qi qx qp qq qc qz qe qk qK qB qw qu qj Kp wn wf wt w1 sw sq sr wm wM wo wO wl wL wk wK wz wZ wx wX wb wB wi wI wr wR wq wQ we wE wc wY wj wh cv ca cx cn ce bl)
def y_xc6 : YF := ⟨[], [.v (.st 1)], [], .ret [(.l .i)], [.tmp 2],
 sq [qu 1 0, .as 2 (.k .nil), .nils [(.tmp 2 0, .i)]] [1] (.seq (sw 3 [wk 9 1, wY gf_xba rfl, wX] [1, 5] (cn 5 [1] (sq [.as 2 (.k .nil), .nils [(.tmp 2 0, .i)]] [2] .ret))) (sr [wn 6 [wo 1 1, wL, wo 2 1, wL, wo 3 1, wL, wo 4 1, wL, wo 5 1, wL, wo 6 1, wL, wo 7 1, wL, wo 8 1, wL, wh (.bslice · 8 .i [(0, (.tmp 7)), (1, (.tmp 9)), (2, (.tmp 11)), (3, (.tmp 13)), (4, (.tmp 15)), (5, (.tmp 17)), (6, (.tmp 19)), (7, (.tmp 21))]), wo 0 1, wL, wh (.app · .i true (.tmp 22) (.tmp 24))],
 qn [qa 2 25]] [2] .ret))⟩
def d_xc6 (p0 : GRules) : Option (List Int) :=
 bd (d_xba p0) fun x1 =>
 br (!x1)
  (some [])
  (gd ([p0.Tiers, p0.Room, p0.Size, p0.Period, p0.Window, p0.Rest, p0.Tries, p0.Crew].length + p0.Seats.length ≤ lim) (
  some ([p0.Tiers, p0.Room, p0.Size, p0.Period, p0.Window, p0.Rest, p0.Tries, p0.Crew] ++ p0.Seats)))
def gf_xc6 : GF := y_xc6.gf rfl rfl (fun a => d_xc6 a.1) (fun a => by kernel_rfl)
def y_xc7 : YF := ⟨[], [.v (.st 8)], [], .ret [(.l .i)], [.tmp 2],
 sq [qu 1 0, .as 2 (.k .nil)] [1] (.seq (sw 11 [wk 15 1, wY gf_xce rfl, wX] [1, 13] (cn 13 [1] (sq [.as 2 (.k .nil)] [2] .ret))) (sr [wn 14 [wo 0 1, wK 9, wY gf_xc6 rfl],
 qn [qa 3 16]] [1, 3] (sr [wn 17 [wm 3, wZ, wh (.bslice · 1 .i [(0, (.tmp 18))]), wm 3, wh (.app · .i true (.tmp 19) (.tmp 20))],
 qn [qa 4 21]] [1, 4] (sr [wn 22 [wm 4, wo 9 1, wL, wo 10 1, wL, wo 11 1, wL, wZ, wh (.bslice · 3 .i [(0, (.tmp 24)), (1, (.tmp 26)), (2, (.tmp 29))]), wh (.app · .i true (.tmp 22) (.tmp 30))],
 qn [qa 4 31]] [1, 4] (.join [cv 4 (.l .i)] (sw 32 [wo 11 1, wL, wZ, wj 0] (Kp 60129542162) (bl 0 [cv 4 (.l .i), cv 35 .i] (sq [qb 36 .lss 35 34] (Kp 128849018898) (.seq (ce 36 (Kp 60129542162) [1, 4] 0) (.seq (.block 1 (sr [wn 37 [we (.st 2) 33 35, wK 10],
 qn [.alloc 6 zGParty, qw 10 6 38]] (Kp 60129542226) (qr [wn 39 [wm 4, wo 0 6, wL, wo 1 6, wL, wo 2 6, wL, wI .add 1, wo 3 6, wL, wo 4 6, wL, wo 5 6, wL, wo 6 6, wL, wo 7 6, wL, wo 8 6, wL, wo 9 6, wL, wh (.bslice · 10 .i [(0, (.tmp 41)), (1, (.tmp 43)), (2, (.tmp 46)), (3, (.tmp 48)), (4, (.tmp 50)), (5, (.tmp 52)), (6, (.tmp 54)), (7, (.tmp 56)), (8, (.tmp 58)), (9, (.tmp 60))]), wh (.app · .i true (.tmp 39) (.tmp 61))],
 qn [qa 4 62]] (Kp 60129542162)))) (q1 [qi 63 .add 35 1, qm 35 63] (Kp 60129542162))))))) (.join [cv 4 (.l .i)] (sw 64 [wo 12 1, wL, wZ, wj 0] [1, 4, 65, 66, 67] (bl 2 [cv 4 (.l .i), cv 67 .i] (sq [qb 68 .lss 67 66] [1, 4, 65, 66, 67, 68] (.seq (ce 68 [1, 4, 65, 66, 67] [1, 4] 2) (.seq (.block 3 (sr [wn 69 [we (.st 7) 65 67, wK 7],
 qn [.alloc 8 zGCabin, .nils [(.cell 8 5, (.st 4)), (.cell 8 6, (.l (.st 5)))], qw 7 8 70]] [1, 4, 8, 65, 66, 67] (qr [wn 71 [wm 4, wo 0 8, wO 1, wL, wh (.bslice · 1 .i [(0, (.tmp 74))]), wh (.app · .i true (.tmp 71) (.tmp 75))],
 qn [qa 4 76]] [1, 4, 65, 66, 67]))) (q1 [qi 77 .add 67 1, qm 67 77] [1, 4, 65, 66, 67])))))) (sr [wn 78 [wm 4, wo 13 1, wL, wZ, wh (.bslice · 1 .i [(0, (.tmp 81))]), wh (.app · .i true (.tmp 78) (.tmp 82))],
 qn [qa 4 83]] [1, 4] (sr [wn 84 [wm 4, wo 13 1, wL, wh (.app · .i true (.tmp 84) (.tmp 86))],
 qn [qa 4 87]] [1, 4] (.join [cv 4 (.l .i)] (sw 88 [wo 14 1, wL, wZ, wj 0] [4, 89, 90, 91] (bl 4 [cv 4 (.l .i), cv 91 .i] (sq [qb 92 .lss 91 90] [4, 89, 90, 91, 92] (.seq (ce 92 [4, 89, 90, 91] [4] 4) (.seq (.block 5 (sr [wn 93 [we .i 89 91, wL],
 qn [qa 10 94]] [4, 10, 89, 90, 91] (qr [wn 95 [wm 4, wm 10, wI .add 1, wh (.bslice · 1 .i [(0, (.tmp 97))]), wh (.app · .i true (.tmp 95) (.tmp 98))],
 qn [qa 4 99]] [4, 89, 90, 91]))) (q1 [qi 100 .add 91 1, qm 91 100] [4, 89, 90, 91])))))) (sq [qm 101 4, qa 2 101] [2] .ret))))))))))⟩
def d_xc7_j6 (v17 : (List Int)) : Option (List Int) :=
 some v17
def d_xc7_l5 (p0 : GHouse) (L13 : ((List Int) × Int) → Option (List Int)) (x_ : ((List Int) × Int)) : Option (List Int) :=
 match x_ with
 | (v14, v15) => br (decide (v15 < (↑p0.Jobs.length : Int)))
  (bd (at? p0.Jobs v15) fun x16 =>
  gd (List.length v14 + [w64 (x16 + 1)].length ≤ lim) (
  L13 ((v14 ++ [w64 (x16 + 1)], w64 (v15 + 1)))))
  (jn (d_xc7_j6) v14)
def d_xc7_j4 (p0 : GHouse) (v12 : (List Int)) : Option (List Int) :=
 gd (v12.length + [(↑p0.Todo.length : Int)].length ≤ lim) (
 gd ((v12 ++ [(↑p0.Todo.length : Int)]).length + p0.Todo.length ≤ lim) (
 loopN (d_xc7_l5 p0) big ((v12 ++ [(↑p0.Todo.length : Int)] ++ p0.Todo, 0))))
def d_xc7_l3 (p0 : GHouse) (L8 : ((List Int) × Int) → Option (List Int)) (x_ : ((List Int) × Int)) : Option (List Int) :=
 match x_ with
 | (v9, v10) => br (decide (v10 < (↑p0.Cabins.length : Int)))
  (bd (at? p0.Cabins v10) fun x11 =>
  gd (List.length v9 + [x11.Seats.Free].length ≤ lim) (
  L8 ((v9 ++ [x11.Seats.Free], w64 (v10 + 1)))))
  (jn (d_xc7_j4 p0) v9)
def d_xc7_j2 (p0 : GHouse) (v7 : (List Int)) : Option (List Int) :=
 loopN (d_xc7_l3 p0) big (v7, 0)
def d_xc7_l1 (p0 : GHouse) (L3 : ((List Int) × Int) → Option (List Int)) (x_ : ((List Int) × Int)) : Option (List Int) :=
 match x_ with
 | (v4, v5) => br (decide (v5 < (↑p0.Parties.length : Int)))
  (bd (at? p0.Parties v5) fun x6 =>
  gd (List.length v4 + [x6.Id, x6.Cabin, w64 (x6.From + 1), x6.Size, x6.Tier, x6.Since, x6.Turn, x6.State, x6.Until, x6.Asked].length ≤ lim) (
  L3 ((v4 ++ [x6.Id, x6.Cabin, w64 (x6.From + 1), x6.Size, x6.Tier, x6.Since, x6.Turn, x6.State, x6.Until, x6.Asked], w64 (v5 + 1)))))
  (jn (d_xc7_j2 p0) v4)
def d_xc7 (p0 : GHouse) : Option (List Int) :=
 bd (d_xce p0) fun x1 =>
 br (!x1)
  (none)
  (bd (d_xc6 p0.Rules) fun x2 =>
  gd ([(↑(List.length x2) : Int)].length + List.length x2 ≤ lim) (
  gd (([(↑(List.length x2) : Int)] ++ x2).length + [p0.Now, p0.Turn, (↑p0.Parties.length : Int)].length ≤ lim) (
  loopN (d_xc7_l1 p0) big (([(↑(List.length x2) : Int)] ++ x2 ++ [p0.Now, p0.Turn, (↑p0.Parties.length : Int)], 0)))))
def gf_xc7 : GF := y_xc7.gf rfl rfl (fun a => d_xc7 a.1) (fun a => by kernel_rfl)
def y_xc8 : YF := ⟨[], [.v .i], [], .ret [(.l .u)], [.tmp 2],
 sq [.as 2 (.k .nil), .nils [(.tmp 2 0, .u)]] [0] (.seq (sw 4 [wm 0, wc gf_x9 rfl [4, qj 0, qj 2147483647], wX] [0, 6] (cn 6 [0] (sq [.as 2 (.k .nil), .nils [(.tmp 2 0, .u)]] [2] .ret))) (sq [.as 3 (.k .nil), .nils [(.tmp 3 0, .u)]] [0, 3] (.join [cv 0 .i, cv 3 (.l .u)] (bl 0 [cv 0 .i, cv 3 (.l .u)] (.seq (sw 7 [wm 0, wI .geq 128] (Kp 265) (ce 8 [0, 3] [0, 3] 0)) (.block 1 (sr [wn 9 [wm 3, wm 0, wI .rem 128, wI .add 128, wh (.cvI · .u8 (.tmp 12)), wh (.bslice · 1 .u [(0, (.tmp 13))]), wh (.app · .u true (.tmp 9) (.tmp 14))],
 qn [qa 3 15]] [0, 3] (qr [wn 16 [wm 0, wI .quo 128],
 qn [qa 0 17]] [0, 3]))))) (sr [wn 18 [wm 3, wm 0, wh (.cvI · .u8 (.tmp 19)), wh (.bslice · 1 .u [(0, (.tmp 20))]), wh (.app · .u true (.tmp 18) (.tmp 21))],
 qn [qa 2 22]] [2] .ret))))⟩
def d_xc8_j2 (x_ : (Int × (List UInt8))) : Option (List UInt8) :=
 match x_ with
 | (v5, v6) => gd (v6.length + [toB v5].length ≤ lim) (
 some (v6 ++ [toB v5]))
def d_xc8_l1 (L2 : (Int × (List UInt8)) → Option (List UInt8)) (x_ : (Int × (List UInt8))) : Option (List UInt8) :=
 match x_ with
 | (v3, v4) => br (decide (v3 ≥ 128))
  (gd (v4.length + [toB (w64 (Int.tmod v3 128 + 128))].length ≤ lim) (
  L2 ((w64 (Int.tdiv v3 128), v4 ++ [toB (w64 (Int.tmod v3 128 + 128))]))))
  (jn (d_xc8_j2) (v3, v4))
def d_xc8 (p0 : Int) : Option (List UInt8) :=
 bd (d_x9 p0 0 2147483647) fun x1 =>
 br (!x1)
  (some [])
  (loopN (d_xc8_l1) big (p0, []))
def gf_xc8 : GF := y_xc8.gf rfl rfl (fun a => d_xc8 a.1) (fun a => by kernel_rfl)
def y_xc9 : YF := ⟨[], [.v (.l .i)], [], .ret [.s], [.tmp 2],
 sq [.as 2 (.k (.str []))] [0] (sq [.as 3 (.k .nil), .nils [(.tmp 3 0, .u)]] [0, 3] (.join [cv 3 (.l .u)] (sw 6 [wm 0, wZ, wj 0] (Kp 456) (bl 0 [cv 3 (.l .u), cv 8 .i] (sq [qb 9 .lss 8 7] (Kp 968) (.seq (ce 9 (Kp 456) [3] 0) (.seq (.block 1 (sr [wn 10 [we .i 6 8, wL],
 qn [qa 5 11]] (Kp 488) (qr [wn 12 [wm 3, wm 5, wY gf_xc8 rfl, wh (.app · .u true (.tmp 12) (.tmp 14))],
 qn [qa 3 15]] (Kp 456)))) (q1 [qi 16 .add 8 1, qm 8 16] (Kp 456))))))) (sr [wn 17 [wm 3, wh (.cvBS · (.tmp 17))],
 qn [qa 2 18]] [2] .ret)))⟩
def d_xc9_j2 (v6 : (List UInt8)) : Option (List UInt8) :=
 some v6
def d_xc9_l1 (p0 : (List Int)) (L1 : ((List UInt8) × Int) → Option (List UInt8)) (x_ : ((List UInt8) × Int)) : Option (List UInt8) :=
 match x_ with
 | (v2, v3) => br (decide (v3 < (↑p0.length : Int)))
  (bd (at? p0 v3) fun x4 =>
  bd (d_xc8 x4) fun x5 =>
  gd (List.length v2 + List.length x5 ≤ lim) (
  L1 ((v2 ++ x5, w64 (v3 + 1)))))
  (jn (d_xc9_j2) v2)
def d_xc9 (p0 : (List Int)) : Option (List UInt8) :=
 loopN (d_xc9_l1 p0) big ([], 0)
def gf_xc9 : GF := y_xc9.gf rfl rfl (fun a => d_xc9 a.1) (fun a => by kernel_rfl)
def y_xda : YF := ⟨[], [.v (.l .u)], [], .ret [.i], [.tmp 2],
 sq [qK 2 0] [0] (sq [qK 3 4294967295] [0, 3] (.join [cv 3 .i] (sw 8 [wm 0, wZ, wj 0] (Kp 1800) (bl 0 [cv 3 .i, cv 10 .i] (sq [qb 11 .lss 10 9] (Kp 3848) (.seq (ce 11 (Kp 1800) [3] 0) (.join [cv 3 .i] (.block 1 (sr [wn 12 [we .u 8 10, wL],
 qn [qa 5 13]] (Kp 1832) (sr [wn 14 [wm 3, wm 5, wh (.cvI · .i64 (.tmp 15)), wB .xor 14],
 qn [qa 3 17]] (Kp 1800) (sq [qK 6 0] (Kp 1864) (bl 2 [cv 3 .i, cv 6 .i] (.seq (sw 18 [wm 6, wI .lss 8] (Kp 526152) (ce 19 [3, 6, 8, 9, 10] (Kp 1800) 2)) (.join [cv 3 .i] (.block 3 (sr [wn 22 [wm 3, wI .and 1],
 qn [qa 7 23]] (Kp 1992) (sr [wn 24 [wm 3, wh (.bin · .num .shr (.tmp 24) (.k (.int .u64 1)))],
 qn [qa 3 25]] (Kp 1992) (sw 26 [wm 7, wI .eql 1] (Kp 134219592) (.cond 27 [3, 6, 8, 9, 10] (Kp 1864) (qr [wn 28 [wm 3, wI .xor 3988292384],
 qn [qa 3 29]] (Kp 1864)) .skip))))) (qr [wn 20 [wm 6, wI .add 1],
 qn [qa 6 21]] (Kp 1864))))))))) (q1 [qi 30 .add 10 1, qm 10 30] (Kp 1800))))))) (sr [wn 31 [wm 3, wI .xor 4294967295],
 qn [qa 2 32]] [2] .ret)))⟩
def d_xda_j3 (L5 : (Int × Int) → Option Int) (v7 : Int) (v8 : Int) : Option Int :=
 L5 ((v8, w64 (v7 + 1)))
def d_xda_j4 (L1 : (Int × Int) → Option Int) (v3 : Int) (v9 : Int) : Option Int :=
 L1 ((v9, w64 (v3 + 1)))
def d_xda_l2 (L1 : (Int × Int) → Option Int) (v3 : Int) (L5 : (Int × Int) → Option Int) (x_ : (Int × Int)) : Option Int :=
 match x_ with
 | (v6, v7) => br (decide (v7 < 8))
  (br (andI v6 1 == 1)
   (jn (d_xda_j3 L5 v7) (xorI (shrI v6 1) 3988292384))
   (jn (d_xda_j3 L5 v7) (shrI v6 1)))
  (jn (d_xda_j4 L1 v3) v6)
def d_xda_j5 (v10 : Int) : Option Int :=
 some (xorI v10 4294967295)
def d_xda_l1 (p0 : (List UInt8)) (L1 : (Int × Int) → Option Int) (x_ : (Int × Int)) : Option Int :=
 match x_ with
 | (v2, v3) => br (decide (v3 < (↑p0.length : Int)))
  (bd (at? p0 v3) fun x4 =>
  loopN (d_xda_l2 L1 v3) big ((xorI v2 (w64 (↑(UInt8.toNat x4) : Int)), 0)))
  (jn (d_xda_j5) v2)
def d_xda (p0 : (List UInt8)) : Option Int :=
 loopN (d_xda_l1 p0) big (4294967295, 0)
def gf_xda : GF := y_xda.gf rfl rfl (fun a => d_xda a.1) (fun a => by kernel_rfl)
def y_xdb : YF := ⟨[], [.v (.st 8), .v .i], [], .ret [.s], [.tmp 4],
 sq [qu 2 0, .as 4 (.k (.str []))] [1, 2] (sr [wn 8 [wk 15 2, wY gf_xc7 rfl],
 qn [qa 5 9]] [1, 5] (.seq (sr [wn 10 [wm 5, wh (.bin · .sl .eql (.tmp 10) (.k .nil)), wM],
 wf 12 13 [wm 1, wc gf_x9 rfl [13, qj 0, qj 1000000], wX],
 qn [qp 16 12 15]] [1, 5, 16] (cn 16 [1, 5] (sq [.as 4 (.k (.str []))] [4] .ret))) (.seq (.dreg (.op 0 none [] (.mv 17 (.tmp 1))
 (.op 3 none [] (.mv 20 (.tmp 5))
 (qd 1 [wn 18 [wY gf_xc8 rfl, wh (.cvBS · (.tmp 18))]] (.op 4 none [18] (.call 21 gf_xc9 [] rfl [(.tmp 20)])
 (qd 5 [qn [qb 22 .add 19 21, qa 6 22]] .nil))))) [6]) (sr [wn 23 [wm 6, wh (.cvSB · (.tmp 23)), wY gf_xda rfl],
 qn [qa 7 25]] [6, 7] (sr [wn 26 [wm 7, wh (.bin · .num .shr (.tmp 26) (.k (.int .u64 24))), wh (.cvI · .u8 (.tmp 27)), wm 7, wh (.bin · .num .shr (.tmp 29) (.k (.int .u64 16))), wh (.cvI · .u8 (.tmp 30)), wm 7, wh (.bin · .num .shr (.tmp 32) (.k (.int .u64 8))), wh (.cvI · .u8 (.tmp 33)), wm 7, wh (.cvI · .u8 (.tmp 35)), wh (.bslice · 4 .u [(0, (.tmp 28)), (1, (.tmp 31)), (2, (.tmp 34)), (3, (.tmp 36))]), wh (.cvBS · (.tmp 37)), wm 6, wB .add 38],
 qn [qa 4 40]] [4] .ret)))))⟩
def d_xdb (p0 : GHouse) (p1 : Int) : Option (List UInt8) :=
 bd (d_xc7 p0) fun x1 =>
 gd (List.isEmpty x1 = false) (
 bd (d_x9 p1 0 1000000) fun x2 =>
 br (!x2)
  (some [])
  (bd (d_xc8 p1) fun x3 =>
  bd (d_xc9 x1) fun x4 =>
  gd (List.length x3 + List.length x4 ≤ slim) (
  bd (d_xda (x3 ++ x4)) fun x5 =>
  gd ([toB (shrI x5 24), toB (shrI x5 16), toB (shrI x5 8), toB x5].length + (x3 ++ x4).length ≤ slim) (
  some ([toB (shrI x5 24), toB (shrI x5 16), toB (shrI x5 8), toB x5] ++ (x3 ++ x4))))))
def gf_xdb : GF := y_xdb.gf rfl rfl (fun a => d_xdb a.1 a.2.1) (fun a => by kernel_rfl)
def y_xdc : YF := ⟨[], [.v (.st 8)], [], .ret [.z], [.tmp 2],
 sq [qu 1 0, .as 2 (.k .nil)] [1] (.seq (sw 11 [wk 15 1, wY gf_xce rfl, wX] [1, 13] (cn 13 [1] (sq [.as 2 (.k .nil)] [2] .ret))) (sr [wn 14 [wo 0 1, wK 9, wY gf_xc6 rfl],
 qn [qa 3 16]] [1, 3] (sr [wn 17 [wm 3, wZ, wh (.bslice · 1 .i [(0, (.tmp 18))]), wm 3, wh (.app · .i true (.tmp 19) (.tmp 20))],
 qn [qa 4 21]] [1, 4] (sr [wn 22 [wm 4, wo 9 1, wL, wo 10 1, wL, wo 11 1, wL, wZ, wh (.bslice · 3 .i [(0, (.tmp 24)), (1, (.tmp 26)), (2, (.tmp 29))]), wh (.app · .i true (.tmp 22) (.tmp 30))],
 qn [qa 4 31]] [1, 4] (.join [cv 4 (.l .i)] (sw 32 [wo 11 1, wL, wZ, wj 0] (Kp 60129542162) (bl 0 [cv 4 (.l .i), cv 35 .i] (sq [qb 36 .lss 35 34] (Kp 128849018898) (.seq (ce 36 (Kp 60129542162) [1, 4] 0) (.seq (.block 1 (sr [wn 37 [we (.st 2) 33 35, wK 10],
 qn [.alloc 6 zGParty, qw 10 6 38]] (Kp 60129542226) (qr [wn 39 [wm 4, wo 0 6, wL, wo 1 6, wL, wo 2 6, wL, wI .add 1, wo 3 6, wL, wo 4 6, wL, wo 5 6, wL, wo 6 6, wL, wo 7 6, wL, wo 8 6, wL, wo 9 6, wL, wh (.bslice · 10 .i [(0, (.tmp 41)), (1, (.tmp 43)), (2, (.tmp 46)), (3, (.tmp 48)), (4, (.tmp 50)), (5, (.tmp 52)), (6, (.tmp 54)), (7, (.tmp 56)), (8, (.tmp 58)), (9, (.tmp 60))]), wh (.app · .i true (.tmp 39) (.tmp 61))],
 qn [qa 4 62]] (Kp 60129542162)))) (q1 [qi 63 .add 35 1, qm 35 63] (Kp 60129542162))))))) (.join [cv 4 (.l .i)] (sw 64 [wo 12 1, wL, wZ, wj 0] [1, 4, 65, 66, 67] (bl 2 [cv 4 (.l .i), cv 67 .i] (sq [qb 68 .lss 67 66] [1, 4, 65, 66, 67, 68] (.seq (ce 68 [1, 4, 65, 66, 67] [1, 4] 2) (.seq (.block 3 (sr [wn 69 [we (.st 7) 65 67, wK 7],
 qn [.alloc 8 zGCabin, .nils [(.cell 8 5, (.st 4)), (.cell 8 6, (.l (.st 5)))], qw 7 8 70]] [1, 4, 8, 65, 66, 67] (qr [wn 71 [wm 4, wo 0 8, wO 1, wL, wh (.bslice · 1 .i [(0, (.tmp 74))]), wh (.app · .i true (.tmp 71) (.tmp 75))],
 qn [qa 4 76]] [1, 4, 65, 66, 67]))) (q1 [qi 77 .add 67 1, qm 67 77] [1, 4, 65, 66, 67])))))) (sr [wn 78 [wm 4, wo 13 1, wL, wZ, wh (.bslice · 1 .i [(0, (.tmp 81))]), wh (.app · .i true (.tmp 78) (.tmp 82))],
 qn [qa 4 83]] [1, 4] (sr [wn 84 [wm 4, wo 13 1, wL, wh (.app · .i true (.tmp 84) (.tmp 86))],
 qn [qa 4 87]] [1, 4] (.join [cv 4 (.l .i)] (sw 88 [wo 14 1, wL, wZ, wj 0] [4, 89, 90, 91] (bl 4 [cv 4 (.l .i), cv 91 .i] (sq [qb 92 .lss 91 90] [4, 89, 90, 91, 92] (.seq (ce 92 [4, 89, 90, 91] [4] 4) (.seq (.block 5 (sr [wn 93 [we .i 89 91, wL],
 qn [qa 10 94]] [4, 10, 89, 90, 91] (qr [wn 95 [wm 4, wm 10, wI .add 1, wh (.bslice · 1 .i [(0, (.tmp 97))]), wh (.app · .i true (.tmp 95) (.tmp 98))],
 qn [qa 4 99]] [4, 89, 90, 91]))) (q1 [qi 100 .add 91 1, qm 91 100] [4, 89, 90, 91])))))) (sq [qm 101 4, qa 2 101] [2] .ret))))))))))⟩
def d_xdc_j6 (v17 : (List Int)) : Option PUnit :=
 none
def d_xdc_l5 (p0 : GHouse) (L13 : ((List Int) × Int) → Option PUnit) (x_ : ((List Int) × Int)) : Option PUnit :=
 match x_ with
 | (v14, v15) => br (decide (v15 < (↑p0.Jobs.length : Int)))
  (bd (at? p0.Jobs v15) fun x16 =>
  gd (List.length v14 + [w64 (x16 + 1)].length ≤ lim) (
  L13 ((v14 ++ [w64 (x16 + 1)], w64 (v15 + 1)))))
  (jn (d_xdc_j6) v14)
def d_xdc_j4 (p0 : GHouse) (v12 : (List Int)) : Option PUnit :=
 gd (v12.length + [(↑p0.Todo.length : Int)].length ≤ lim) (
 gd ((v12 ++ [(↑p0.Todo.length : Int)]).length + p0.Todo.length ≤ lim) (
 loopN (d_xdc_l5 p0) big ((v12 ++ [(↑p0.Todo.length : Int)] ++ p0.Todo, 0))))
def d_xdc_l3 (p0 : GHouse) (L8 : ((List Int) × Int) → Option PUnit) (x_ : ((List Int) × Int)) : Option PUnit :=
 match x_ with
 | (v9, v10) => br (decide (v10 < (↑p0.Cabins.length : Int)))
  (bd (at? p0.Cabins v10) fun x11 =>
  gd (List.length v9 + [x11.Seats.Free].length ≤ lim) (
  L8 ((v9 ++ [x11.Seats.Free], w64 (v10 + 1)))))
  (jn (d_xdc_j4 p0) v9)
def d_xdc_j2 (p0 : GHouse) (v7 : (List Int)) : Option PUnit :=
 loopN (d_xdc_l3 p0) big (v7, 0)
def d_xdc_l1 (p0 : GHouse) (L3 : ((List Int) × Int) → Option PUnit) (x_ : ((List Int) × Int)) : Option PUnit :=
 match x_ with
 | (v4, v5) => br (decide (v5 < (↑p0.Parties.length : Int)))
  (bd (at? p0.Parties v5) fun x6 =>
  gd (List.length v4 + [x6.Id, x6.Cabin, w64 (x6.From + 1), x6.Size, x6.Tier, x6.Since, x6.Turn, x6.State, x6.Until, x6.Asked].length ≤ lim) (
  L3 ((v4 ++ [x6.Id, x6.Cabin, w64 (x6.From + 1), x6.Size, x6.Tier, x6.Since, x6.Turn, x6.State, x6.Until, x6.Asked], w64 (v5 + 1)))))
  (jn (d_xdc_j2 p0) v4)
def d_xdc (p0 : GHouse) : Option PUnit :=
 bd (d_xce p0) fun x1 =>
 br (!x1)
  (some ())
  (bd (d_xc6 p0.Rules) fun x2 =>
  gd ([(↑(List.length x2) : Int)].length + List.length x2 ≤ lim) (
  gd (([(↑(List.length x2) : Int)] ++ x2).length + [p0.Now, p0.Turn, (↑p0.Parties.length : Int)].length ≤ lim) (
  loopN (d_xdc_l1 p0) big (([(↑(List.length x2) : Int)] ++ x2 ++ [p0.Now, p0.Turn, (↑p0.Parties.length : Int)], 0)))))
def gf_xdc : GF := y_xdc.gf rfl rfl (fun a => d_xdc a.1) (fun a => by kernel_rfl)
def y_xdd : YF := ⟨[], [.v (.st 8), .v .i], [], .ret [.s], [.tmp 4],
 sq [qu 2 0, .as 4 (.k (.str []))] [1, 2] (sr [wn 8 [wk 15 2, wY gf_xdc rfl],
 qn [qa 5 9]] [1, 5] (.seq (sr [wn 10 [wm 5, wh (.bin · .sl .eql (.tmp 10) (.k .nil)), wM],
 wf 12 13 [wm 1, wc gf_x9 rfl [13, qj 0, qj 1000000], wX],
 qn [qp 16 12 15]] [1, 5, 16] (cn 16 [1, 5] (sq [.as 4 (.k (.str []))] [4] .ret))) (.seq (.dreg (.op 0 none [] (.mv 17 (.tmp 1))
 (.op 3 none [] (.mv 20 (.tmp 5))
 (qd 1 [wn 18 [wY gf_xc8 rfl, wh (.cvBS · (.tmp 18))]] (.op 4 none [18] (.call 21 gf_xc9 [] rfl [(.tmp 20)])
 (qd 5 [qn [qb 22 .add 19 21, qa 6 22]] .nil))))) [6]) (sr [wn 23 [wm 6, wh (.cvSB · (.tmp 23)), wY gf_xda rfl],
 qn [qa 7 25]] [6, 7] (sr [wn 26 [wm 7, wh (.bin · .num .shr (.tmp 26) (.k (.int .u64 24))), wh (.cvI · .u8 (.tmp 27)), wm 7, wh (.bin · .num .shr (.tmp 29) (.k (.int .u64 16))), wh (.cvI · .u8 (.tmp 30)), wm 7, wh (.bin · .num .shr (.tmp 32) (.k (.int .u64 8))), wh (.cvI · .u8 (.tmp 33)), wm 7, wh (.cvI · .u8 (.tmp 35)), wh (.bslice · 4 .u [(0, (.tmp 28)), (1, (.tmp 31)), (2, (.tmp 34)), (3, (.tmp 36))]), wh (.cvBS · (.tmp 37)), wm 6, wB .add 38],
 qn [qa 4 40]] [4] .ret)))))⟩
def d_xdd (p0 : GHouse) (p1 : Int) : Option (List UInt8) :=
 bd (d_xdc p0) fun x1 =>
 some []
def gf_xdd : GF := y_xdd.gf rfl rfl (fun a => d_xdd a.1 a.2.1) (fun a => by kernel_rfl)
def d_xde (p0 : GHouse) (p1 : Int) : Option (List UInt8) := orE (d_xdb p0 p1) (d_xdd p0 p1)
def gf_xde : GF := gf_xdb.orE (fun a => d_xde a.1 a.2.1) (fun a => d_xdd a.1 a.2.1) (fun a => by kernel_rfl) (fun a r h => Eq.mp (by kernel_rfl) (gf_xdd.ok a r h))
def y_xdf : YF := ⟨[], [.m (.l .i), .v .i], [], .ret [.i], [.tmp 4],
 sq [qK 4 0] [0, 1] (.join [cv 0 (.l .i), cv 1 .i] (sq [qK 5 0] (Kp 35) (bl 0 [cv 0 (.l .i), cv 1 .i, cv 5 .i] (.seq (sw 6 [wM, wm 0, wZ, wB .lss 6] (Kp 547) (ce 9 (Kp 35) [0, 1] 0)) (.seq (.block 1 (.join [cv 0 (.l .i), cv 1 .i, cv 5 .i] (qr [wn 12 [wm 0, wm 5, wm 1, we .i 12 13],
 qn [qw 1 15 14]] (Kp 35)) (qr [wn 16 [wm 1, wI .add 1],
 qn [qa 1 17]] (Kp 35)))) (qr [wn 10 [wm 5, wI .add 1],
 qn [qa 5 11]] (Kp 35)))))) (sq [qm 18 1, qa 4 18] [0, 4] .ret))⟩
def d_xdf_j2 (L1 : ((List Int) × Int × Int) → Option (Int × (List Int))) (x_ : ((List Int) × Int × Int)) : Option (Int × (List Int)) :=
 match x_ with
 | (v7, v8, v9) => L1 ((v7, w64 (v8 + 1), w64 (v9 + 1)))
def d_xdf_j3 (x_ : ((List Int) × Int)) : Option (Int × (List Int)) :=
 match x_ with
 | (v10, v11) => some (v11, v10)
def d_xdf_l1 (L1 : ((List Int) × Int × Int) → Option (Int × (List Int))) (x_ : ((List Int) × Int × Int)) : Option (Int × (List Int)) :=
 match x_ with
 | (v2, v3, v4) => br (decide (v4 < (↑(List.length v2) : Int)))
  (bd (at? v2 v4) fun x5 =>
  bd (at? v2 v4) fun x6 =>
  jn (d_xdf_j2 L1) (List.set v2 v4.toNat v3, v3, v4))
  (jn (d_xdf_j3) (v2, v3))
def d_xdf (p0 : (List Int)) (p1 : Int) : Option (Int × (List Int)) :=
 loopN (d_xdf_l1) big (p0, p1, 0)
def gf_xdf : GF := y_xdf.gf rfl rfl (fun a => d_xdf a.1 a.2.1) (fun a => by kernel_rfl)
def y_xdg : YF := ⟨[], [.m (.st 1), .v .i], [], .ret [.i], [.tmp 4],
 sq [qu 2 0, qK 4 0] (Kp 7) (sr [wn 5 [wo 0 2, wL, wm 1, wc gf_xdf rfl [6, 7]],
 qn [qa 1 8]] [0, 1] (sq [qm 9 1, qa 4 9] [0, 4] .ret))⟩
def d_xdg (p0 : GRules) (p1 : Int) : Option (Int × GRules) :=
 bd (d_xdf p0.Seats p1) fun x1 =>
 some (x1.fst, GRules.mk x1.snd p0.Tiers p0.Room p0.Size p0.Period p0.Window p0.Rest p0.Tries p0.Crew)
def gf_xdg : GF := y_xdg.gf rfl rfl (fun a => d_xdg a.1 a.2.1) (fun a => by kernel_rfl)
def y_xdh : YF := ⟨[], [.m (.l (.st 2)), .v .i], [], .ret [.i], [.tmp 4],
 sq [qK 4 0] [0, 1] (.join [cv 0 (.l (.st 2)), cv 1 .i] (sq [qK 5 0] (Kp 35) (bl 0 [cv 0 (.l (.st 2)), cv 1 .i, cv 5 .i] (.seq (sw 6 [wM, wm 0, wZ, wB .lss 6] (Kp 547) (ce 9 (Kp 35) [0, 1] 0)) (.seq (.block 1 (.join [cv 0 (.l (.st 2)), cv 1 .i, cv 5 .i] (qr [wn 12 [wm 0, wm 5, wm 1, we (.st 2) 12 13, wO 0],
 qn [qw 1 16 14]] (Kp 35)) (sr [wn 17 [wm 1, wI .add 1],
 qn [qa 1 18]] (Kp 35) (.join [cv 0 (.l (.st 2)), cv 1 .i, cv 5 .i] (qr [wn 19 [wm 0, wm 5, wm 1, we (.st 2) 19 20, wO 1],
 qn [qw 1 23 21]] (Kp 35)) (sr [wn 24 [wm 1, wI .add 1],
 qn [qa 1 25]] (Kp 35) (.join [cv 0 (.l (.st 2)), cv 1 .i, cv 5 .i] (qr [wn 26 [wm 0, wm 5, wm 1, we (.st 2) 26 27, wO 2],
 qn [qw 1 30 28]] (Kp 35)) (sr [wn 31 [wm 1, wI .add 1],
 qn [qa 1 32]] (Kp 35) (.join [cv 0 (.l (.st 2)), cv 1 .i, cv 5 .i] (qr [wn 33 [wm 0, wm 5, wm 1, we (.st 2) 33 34, wO 3],
 qn [qw 1 37 35]] (Kp 35)) (sr [wn 38 [wm 1, wI .add 1],
 qn [qa 1 39]] (Kp 35) (.join [cv 0 (.l (.st 2)), cv 1 .i, cv 5 .i] (qr [wn 40 [wm 0, wm 5, wm 1, we (.st 2) 40 41, wO 4],
 qn [qw 1 44 42]] (Kp 35)) (sr [wn 45 [wm 1, wI .add 1],
 qn [qa 1 46]] (Kp 35) (.join [cv 0 (.l (.st 2)), cv 1 .i, cv 5 .i] (qr [wn 47 [wm 0, wm 5, wm 1, we (.st 2) 47 48, wO 5],
 qn [qw 1 51 49]] (Kp 35)) (sr [wn 52 [wm 1, wI .add 1],
 qn [qa 1 53]] (Kp 35) (.join [cv 0 (.l (.st 2)), cv 1 .i, cv 5 .i] (qr [wn 54 [wm 0, wm 5, wm 1, we (.st 2) 54 55, wO 6],
 qn [qw 1 58 56]] (Kp 35)) (sr [wn 59 [wm 1, wI .add 1],
 qn [qa 1 60]] (Kp 35) (.join [cv 0 (.l (.st 2)), cv 1 .i, cv 5 .i] (qr [wn 61 [wm 0, wm 5, wm 1, we (.st 2) 61 62, wO 7],
 qn [qw 1 65 63]] (Kp 35)) (sr [wn 66 [wm 1, wI .add 1],
 qn [qa 1 67]] (Kp 35) (.join [cv 0 (.l (.st 2)), cv 1 .i, cv 5 .i] (qr [wn 68 [wm 0, wm 5, wm 1, we (.st 2) 68 69, wO 8],
 qn [qw 1 72 70]] (Kp 35)) (sr [wn 73 [wm 1, wI .add 1],
 qn [qa 1 74]] (Kp 35) (.join [cv 0 (.l (.st 2)), cv 1 .i, cv 5 .i] (qr [wn 75 [wm 0, wm 5, wm 1, we (.st 2) 75 76, wO 9],
 qn [qw 1 79 77]] (Kp 35)) (qr [wn 80 [wm 1, wI .add 1],
 qn [qa 1 81]] (Kp 35)))))))))))))))))))))) (qr [wn 10 [wm 5, wI .add 1],
 qn [qa 5 11]] (Kp 35)))))) (sq [qm 82 1, qa 4 82] [0, 4] .ret))⟩
def d_xdh_j11 (L1 : ((List GParty) × Int × Int) → Option (Int × (List GParty))) (x_ : ((List GParty) × Int × Int)) : Option (Int × (List GParty)) :=
 match x_ with
 | (v52, v53, v54) => L1 ((v52, w64 (v53 + 1), w64 (v54 + 1)))
def d_xdh_j10 (L1 : ((List GParty) × Int × Int) → Option (Int × (List GParty))) (x_ : ((List GParty) × Int × Int)) : Option (Int × (List GParty)) :=
 match x_ with
 | (v47, v48, v49) => bd (at? v47 v49) fun x50 =>
 bd (at? v47 v49) fun x51 =>
 jn (d_xdh_j11 L1) ((List.set v47 v49.toNat (GParty.mk x51.Id x51.Cabin x51.From x51.Size x51.Tier x51.Since x51.Turn x51.State x51.Until (w64 (v48 + 1))), w64 (v48 + 1), v49))
def d_xdh_j9 (L1 : ((List GParty) × Int × Int) → Option (Int × (List GParty))) (x_ : ((List GParty) × Int × Int)) : Option (Int × (List GParty)) :=
 match x_ with
 | (v42, v43, v44) => bd (at? v42 v44) fun x45 =>
 bd (at? v42 v44) fun x46 =>
 jn (d_xdh_j10 L1) ((List.set v42 v44.toNat (GParty.mk x46.Id x46.Cabin x46.From x46.Size x46.Tier x46.Since x46.Turn x46.State (w64 (v43 + 1)) x46.Asked), w64 (v43 + 1), v44))
def d_xdh_j8 (L1 : ((List GParty) × Int × Int) → Option (Int × (List GParty))) (x_ : ((List GParty) × Int × Int)) : Option (Int × (List GParty)) :=
 match x_ with
 | (v37, v38, v39) => bd (at? v37 v39) fun x40 =>
 bd (at? v37 v39) fun x41 =>
 jn (d_xdh_j9 L1) ((List.set v37 v39.toNat (GParty.mk x41.Id x41.Cabin x41.From x41.Size x41.Tier x41.Since x41.Turn (w64 (v38 + 1)) x41.Until x41.Asked), w64 (v38 + 1), v39))
def d_xdh_j7 (L1 : ((List GParty) × Int × Int) → Option (Int × (List GParty))) (x_ : ((List GParty) × Int × Int)) : Option (Int × (List GParty)) :=
 match x_ with
 | (v32, v33, v34) => bd (at? v32 v34) fun x35 =>
 bd (at? v32 v34) fun x36 =>
 jn (d_xdh_j8 L1) ((List.set v32 v34.toNat (GParty.mk x36.Id x36.Cabin x36.From x36.Size x36.Tier x36.Since (w64 (v33 + 1)) x36.State x36.Until x36.Asked), w64 (v33 + 1), v34))
def d_xdh_j6 (L1 : ((List GParty) × Int × Int) → Option (Int × (List GParty))) (x_ : ((List GParty) × Int × Int)) : Option (Int × (List GParty)) :=
 match x_ with
 | (v27, v28, v29) => bd (at? v27 v29) fun x30 =>
 bd (at? v27 v29) fun x31 =>
 jn (d_xdh_j7 L1) ((List.set v27 v29.toNat (GParty.mk x31.Id x31.Cabin x31.From x31.Size x31.Tier (w64 (v28 + 1)) x31.Turn x31.State x31.Until x31.Asked), w64 (v28 + 1), v29))
def d_xdh_j5 (L1 : ((List GParty) × Int × Int) → Option (Int × (List GParty))) (x_ : ((List GParty) × Int × Int)) : Option (Int × (List GParty)) :=
 match x_ with
 | (v22, v23, v24) => bd (at? v22 v24) fun x25 =>
 bd (at? v22 v24) fun x26 =>
 jn (d_xdh_j6 L1) ((List.set v22 v24.toNat (GParty.mk x26.Id x26.Cabin x26.From x26.Size (w64 (v23 + 1)) x26.Since x26.Turn x26.State x26.Until x26.Asked), w64 (v23 + 1), v24))
def d_xdh_j4 (L1 : ((List GParty) × Int × Int) → Option (Int × (List GParty))) (x_ : ((List GParty) × Int × Int)) : Option (Int × (List GParty)) :=
 match x_ with
 | (v17, v18, v19) => bd (at? v17 v19) fun x20 =>
 bd (at? v17 v19) fun x21 =>
 jn (d_xdh_j5 L1) ((List.set v17 v19.toNat (GParty.mk x21.Id x21.Cabin x21.From (w64 (v18 + 1)) x21.Tier x21.Since x21.Turn x21.State x21.Until x21.Asked), w64 (v18 + 1), v19))
def d_xdh_j3 (L1 : ((List GParty) × Int × Int) → Option (Int × (List GParty))) (x_ : ((List GParty) × Int × Int)) : Option (Int × (List GParty)) :=
 match x_ with
 | (v12, v13, v14) => bd (at? v12 v14) fun x15 =>
 bd (at? v12 v14) fun x16 =>
 jn (d_xdh_j4 L1) ((List.set v12 v14.toNat (GParty.mk x16.Id x16.Cabin (w64 (v13 + 1)) x16.Size x16.Tier x16.Since x16.Turn x16.State x16.Until x16.Asked), w64 (v13 + 1), v14))
def d_xdh_j2 (L1 : ((List GParty) × Int × Int) → Option (Int × (List GParty))) (x_ : ((List GParty) × Int × Int)) : Option (Int × (List GParty)) :=
 match x_ with
 | (v7, v8, v9) => bd (at? v7 v9) fun x10 =>
 bd (at? v7 v9) fun x11 =>
 jn (d_xdh_j3 L1) ((List.set v7 v9.toNat (GParty.mk x11.Id (w64 (v8 + 1)) x11.From x11.Size x11.Tier x11.Since x11.Turn x11.State x11.Until x11.Asked), w64 (v8 + 1), v9))
def d_xdh_j12 (x_ : ((List GParty) × Int)) : Option (Int × (List GParty)) :=
 match x_ with
 | (v55, v56) => some (v56, v55)
def d_xdh_l1 (L1 : ((List GParty) × Int × Int) → Option (Int × (List GParty))) (x_ : ((List GParty) × Int × Int)) : Option (Int × (List GParty)) :=
 match x_ with
 | (v2, v3, v4) => br (decide (v4 < (↑(List.length v2) : Int)))
  (bd (at? v2 v4) fun x5 =>
  bd (at? v2 v4) fun x6 =>
  jn (d_xdh_j2 L1) ((List.set v2 v4.toNat (GParty.mk v3 x6.Cabin x6.From x6.Size x6.Tier x6.Since x6.Turn x6.State x6.Until x6.Asked), v3, v4)))
  (jn (d_xdh_j12) (v2, v3))
def d_xdh (p0 : (List GParty)) (p1 : Int) : Option (Int × (List GParty)) :=
 loopN (d_xdh_l1) big (p0, p1, 0)
def gf_xdh : GF := y_xdh.gf rfl rfl (fun a => d_xdh a.1 a.2.1) (fun a => by kernel_rfl)
def y_xdi : YF := ⟨[], [.m (.l (.st 4)), .v .i], [], .ret [.i], [.tmp 4],
 sq [qK 4 0] [0, 1] (.join [cv 0 (.l (.st 4)), cv 1 .i] (sq [qK 5 0] (Kp 35) (bl 0 [cv 0 (.l (.st 4)), cv 1 .i, cv 5 .i] (.seq (sw 6 [wM, wm 0, wZ, wB .lss 6] (Kp 547) (ce 9 (Kp 35) [0, 1] 0)) (.seq (.block 1 (.join [cv 0 (.l (.st 4)), cv 1 .i, cv 5 .i] (qr [wn 12 [wm 0, wm 5, wm 1, we (.st 4) 12 13, wO 0],
 qn [qw 1 16 14]] (Kp 35)) (sr [wn 17 [wm 1, wI .add 1],
 qn [qa 1 18]] (Kp 35) (.join [cv 0 (.l (.st 4)), cv 1 .i, cv 5 .i] (qr [wn 19 [wm 0, wm 5, wm 1, we (.st 4) 19 20, wO 1],
 qn [qw 1 23 21]] (Kp 35)) (sr [wn 24 [wm 1, wI .add 1],
 qn [qa 1 25]] (Kp 35) (.join [cv 0 (.l (.st 4)), cv 1 .i, cv 5 .i] (qr [wn 26 [wm 0, wm 5, wm 1, we (.st 4) 26 27, wO 2],
 qn [qw 1 30 28]] (Kp 35)) (sr [wn 31 [wm 1, wI .add 1],
 qn [qa 1 32]] (Kp 35) (.join [cv 0 (.l (.st 4)), cv 1 .i, cv 5 .i] (qr [wn 33 [wm 0, wm 5, wm 1, we (.st 4) 33 34, wO 3],
 qn [qw 1 37 35]] (Kp 35)) (qr [wn 38 [wm 1, wI .add 1],
 qn [qa 1 39]] (Kp 35)))))))))) (qr [wn 10 [wm 5, wI .add 1],
 qn [qa 5 11]] (Kp 35)))))) (sq [qm 40 1, qa 4 40] [0, 4] .ret))⟩
def d_xdi_j5 (L1 : ((List GEntry) × Int × Int) → Option (Int × (List GEntry))) (x_ : ((List GEntry) × Int × Int)) : Option (Int × (List GEntry)) :=
 match x_ with
 | (v22, v23, v24) => L1 ((v22, w64 (v23 + 1), w64 (v24 + 1)))
def d_xdi_j4 (L1 : ((List GEntry) × Int × Int) → Option (Int × (List GEntry))) (x_ : ((List GEntry) × Int × Int)) : Option (Int × (List GEntry)) :=
 match x_ with
 | (v17, v18, v19) => bd (at? v17 v19) fun x20 =>
 bd (at? v17 v19) fun x21 =>
 jn (d_xdi_j5 L1) ((List.set v17 v19.toNat (GEntry.mk x21.Level x21.Turn x21.Id (w64 (v18 + 1))), w64 (v18 + 1), v19))
def d_xdi_j3 (L1 : ((List GEntry) × Int × Int) → Option (Int × (List GEntry))) (x_ : ((List GEntry) × Int × Int)) : Option (Int × (List GEntry)) :=
 match x_ with
 | (v12, v13, v14) => bd (at? v12 v14) fun x15 =>
 bd (at? v12 v14) fun x16 =>
 jn (d_xdi_j4 L1) ((List.set v12 v14.toNat (GEntry.mk x16.Level x16.Turn (w64 (v13 + 1)) x16.Size), w64 (v13 + 1), v14))
def d_xdi_j2 (L1 : ((List GEntry) × Int × Int) → Option (Int × (List GEntry))) (x_ : ((List GEntry) × Int × Int)) : Option (Int × (List GEntry)) :=
 match x_ with
 | (v7, v8, v9) => bd (at? v7 v9) fun x10 =>
 bd (at? v7 v9) fun x11 =>
 jn (d_xdi_j3 L1) ((List.set v7 v9.toNat (GEntry.mk x11.Level (w64 (v8 + 1)) x11.Id x11.Size), w64 (v8 + 1), v9))
def d_xdi_j6 (x_ : ((List GEntry) × Int)) : Option (Int × (List GEntry)) :=
 match x_ with
 | (v25, v26) => some (v26, v25)
def d_xdi_l1 (L1 : ((List GEntry) × Int × Int) → Option (Int × (List GEntry))) (x_ : ((List GEntry) × Int × Int)) : Option (Int × (List GEntry)) :=
 match x_ with
 | (v2, v3, v4) => br (decide (v4 < (↑(List.length v2) : Int)))
  (bd (at? v2 v4) fun x5 =>
  bd (at? v2 v4) fun x6 =>
  jn (d_xdi_j2 L1) ((List.set v2 v4.toNat (GEntry.mk v3 x6.Turn x6.Id x6.Size), v3, v4)))
  (jn (d_xdi_j6) (v2, v3))
def d_xdi (p0 : (List GEntry)) (p1 : Int) : Option (Int × (List GEntry)) :=
 loopN (d_xdi_l1) big (p0, p1, 0)
def gf_xdi : GF := y_xdi.gf rfl rfl (fun a => d_xdi a.1 a.2.1) (fun a => by kernel_rfl)
def y_xdj : YF := ⟨[], [.m (.l (.st 5)), .v .i], [], .ret [.i], [.tmp 4],
 sq [qK 4 0] [0, 1] (.join [cv 0 (.l (.st 5)), cv 1 .i] (sq [qK 5 0] (Kp 35) (bl 0 [cv 0 (.l (.st 5)), cv 1 .i, cv 5 .i] (.seq (sw 6 [wM, wm 0, wZ, wB .lss 6] (Kp 547) (ce 9 (Kp 35) [0, 1] 0)) (.seq (.block 1 (.join [cv 0 (.l (.st 5)), cv 1 .i, cv 5 .i] (qr [wn 12 [wm 0, wm 5, wm 1, we (.st 5) 12 13, wO 0],
 qn [qw 1 16 14]] (Kp 35)) (sr [wn 17 [wm 1, wI .add 1],
 qn [qa 1 18]] (Kp 35) (.join [cv 0 (.l (.st 5)), cv 1 .i, cv 5 .i] (qr [wn 19 [wm 0, wm 5, wm 1, we (.st 5) 19 20, wO 1],
 qn [qw 1 23 21]] (Kp 35)) (qr [wn 24 [wm 1, wI .add 1],
 qn [qa 1 25]] (Kp 35)))))) (qr [wn 10 [wm 5, wI .add 1],
 qn [qa 5 11]] (Kp 35)))))) (sq [qm 26 1, qa 4 26] [0, 4] .ret))⟩
def d_xdj_j3 (L1 : ((List GPin) × Int × Int) → Option (Int × (List GPin))) (x_ : ((List GPin) × Int × Int)) : Option (Int × (List GPin)) :=
 match x_ with
 | (v12, v13, v14) => L1 ((v12, w64 (v13 + 1), w64 (v14 + 1)))
def d_xdj_j2 (L1 : ((List GPin) × Int × Int) → Option (Int × (List GPin))) (x_ : ((List GPin) × Int × Int)) : Option (Int × (List GPin)) :=
 match x_ with
 | (v7, v8, v9) => bd (at? v7 v9) fun x10 =>
 bd (at? v7 v9) fun x11 =>
 jn (d_xdj_j3 L1) ((List.set v7 v9.toNat (GPin.mk x11.At (w64 (v8 + 1))), w64 (v8 + 1), v9))
def d_xdj_j4 (x_ : ((List GPin) × Int)) : Option (Int × (List GPin)) :=
 match x_ with
 | (v15, v16) => some (v16, v15)
def d_xdj_l1 (L1 : ((List GPin) × Int × Int) → Option (Int × (List GPin))) (x_ : ((List GPin) × Int × Int)) : Option (Int × (List GPin)) :=
 match x_ with
 | (v2, v3, v4) => br (decide (v4 < (↑(List.length v2) : Int)))
  (bd (at? v2 v4) fun x5 =>
  bd (at? v2 v4) fun x6 =>
  jn (d_xdj_j2 L1) ((List.set v2 v4.toNat (GPin.mk v3 x6.Id), v3, v4)))
  (jn (d_xdj_j4) (v2, v3))
def d_xdj (p0 : (List GPin)) (p1 : Int) : Option (Int × (List GPin)) :=
 loopN (d_xdj_l1) big (p0, p1, 0)
def gf_xdj : GF := y_xdj.gf rfl rfl (fun a => d_xdj a.1 a.2.1) (fun a => by kernel_rfl)
def y_xdk : YF := ⟨[], [.m (.l (.l (.st 5))), .v .i], [], .ret [.i], [.tmp 4],
 sq [qK 4 0] [0, 1] (.join [cv 0 (.l (.l (.st 5))), cv 1 .i] (sq [qK 5 0] (Kp 35) (bl 0 [cv 0 (.l (.l (.st 5))), cv 1 .i, cv 5 .i] (.seq (sw 6 [wM, wm 0, wZ, wB .lss 6] (Kp 547) (ce 9 (Kp 35) [0, 1] 0)) (.seq (.block 1 (qr [wn 12 [wm 0, wm 5, wE (.l (.st 5)) 12, wL, wm 1, wc gf_xdj rfl [15, 16]],
 qn [qa 1 17]] (Kp 35))) (qr [wn 10 [wm 5, wI .add 1],
 qn [qa 5 11]] (Kp 35)))))) (sq [qm 18 1, qa 4 18] [0, 4] .ret))⟩
def d_xdk_j2 (x_ : ((List (List GPin)) × Int)) : Option (Int × (List (List GPin))) :=
 match x_ with
 | (v9, v10) => some (v10, v9)
def d_xdk_l1 (L1 : ((List (List GPin)) × Int × Int) → Option (Int × (List (List GPin)))) (x_ : ((List (List GPin)) × Int × Int)) : Option (Int × (List (List GPin))) :=
 match x_ with
 | (v2, v3, v4) => br (decide (v4 < (↑(List.length v2) : Int)))
  (bd (at? v2 v4) fun x5 =>
  bd (at? v2 v4) fun x6 =>
  bd (d_xdj x6 v3) fun x7 =>
  gd (v4.toNat = v4.toNat) (
  bd (v2[v4.toNat]?) fun x8 =>
  L1 ((List.set v2 v4.toNat x7.snd, x7.fst, w64 (v4 + 1)))))
  (jn (d_xdk_j2) (v2, v3))
def d_xdk (p0 : (List (List GPin))) (p1 : Int) : Option (Int × (List (List GPin))) :=
 loopN (d_xdk_l1) big (p0, p1, 0)
def gf_xdk : GF := y_xdk.gf rfl rfl (fun a => d_xdk a.1 a.2.1) (fun a => by kernel_rfl)
def y_xdl : YF := ⟨[], [.m (.l (.st 7)), .v .i], [], .ret [.i], [.tmp 4],
 sq [qK 4 0] [0, 1] (.join [cv 0 (.l (.st 7)), cv 1 .i] (sq [qK 5 0] (Kp 35) (bl 0 [cv 0 (.l (.st 7)), cv 1 .i, cv 5 .i] (.seq (sw 6 [wM, wm 0, wZ, wB .lss 6] (Kp 547) (ce 9 (Kp 35) [0, 1] 0)) (.seq (.block 1 (.join [cv 0 (.l (.st 7)), cv 1 .i, cv 5 .i] (qr [wn 12 [wm 0, wm 5, wm 1, we (.st 7) 12 13, wO 0, wO 0],
 qn [qw 1 17 14]] (Kp 35)) (sr [wn 18 [wm 1, wI .add 1],
 qn [qa 1 19]] (Kp 35) (.join [cv 0 (.l (.st 7)), cv 1 .i, cv 5 .i] (qr [wn 20 [wm 0, wm 5, wm 1, we (.st 7) 20 21, wO 0, wO 1],
 qn [qw 1 25 22]] (Kp 35)) (sr [wn 26 [wm 1, wI .add 1],
 qn [qa 1 27]] (Kp 35) (.join [cv 0 (.l (.st 7)), cv 1 .i, cv 5 .i] (qr [wn 28 [wm 0, wm 5, wm 1, we (.st 7) 28 29, wO 0, wO 2],
 qn [qw 1 33 30]] (Kp 35)) (sr [wn 34 [wm 1, wI .add 1],
 qn [qa 1 35]] (Kp 35) (.join [cv 0 (.l (.st 7)), cv 1 .i, cv 5 .i] (qr [wn 36 [wm 0, wm 5, wm 1, we (.st 7) 36 37, wO 0, wO 3],
 qn [qw 1 41 38]] (Kp 35)) (sr [wn 42 [wm 1, wI .add 1],
 qn [qa 1 43]] (Kp 35) (.join [cv 0 (.l (.st 7)), cv 1 .i, cv 5 .i] (qr [wn 44 [wm 0, wm 5, wm 1, we (.st 7) 44 45, wO 0, wO 4],
 qn [qw 1 49 46]] (Kp 35)) (sr [wn 50 [wm 1, wI .add 1],
 qn [qa 1 51]] (Kp 35) (.join [cv 0 (.l (.st 7)), cv 1 .i, cv 5 .i] (qr [wn 52 [wm 0, wm 5, wE (.st 7) 52, wO 5, wL, wm 1, wc gf_xdi rfl [56, 57]],
 qn [qa 1 58]] (Kp 35)) (qr [wn 59 [wm 0, wm 5, wE (.st 7) 59, wO 6, wO 0, wL, wm 1, wc gf_xdk rfl [64, 65]],
 qn [qa 1 66]] (Kp 35)))))))))))))) (qr [wn 10 [wm 5, wI .add 1],
 qn [qa 5 11]] (Kp 35)))))) (sq [qm 67 1, qa 4 67] [0, 4] .ret))⟩
def d_xdl_j7 (L1 : ((List GCabin) × Int × Int) → Option (Int × (List GCabin))) (x_ : ((List GCabin) × Int × Int)) : Option (Int × (List GCabin)) :=
 match x_ with
 | (v34, v35, v36) => bd (at? v34 v36) fun x37 =>
 bd (at? v34 v36) fun x38 =>
 bd (d_xdk x38.Wheel.Spoke v35) fun x39 =>
 gd (v36.toNat = v36.toNat) (
 bd (v34[v36.toNat]?) fun x40 =>
 L1 ((List.set v34 v36.toNat (GCabin.mk x40.Seats x40.Row (GWheel.mk x39.snd)), x39.fst, w64 (v36 + 1))))
def d_xdl_j6 (L1 : ((List GCabin) × Int × Int) → Option (Int × (List GCabin))) (x_ : ((List GCabin) × Int × Int)) : Option (Int × (List GCabin)) :=
 match x_ with
 | (v27, v28, v29) => bd (at? v27 v29) fun x30 =>
 bd (at? v27 v29) fun x31 =>
 bd (d_xdi x31.Row (w64 (v28 + 1))) fun x32 =>
 gd (v29.toNat = v29.toNat) (
 bd (v27[v29.toNat]?) fun x33 =>
 jn (d_xdl_j7 L1) ((List.set v27 v29.toNat (GCabin.mk x33.Seats x32.snd x33.Wheel), x32.fst, v29)))
def d_xdl_j5 (L1 : ((List GCabin) × Int × Int) → Option (Int × (List GCabin))) (x_ : ((List GCabin) × Int × Int)) : Option (Int × (List GCabin)) :=
 match x_ with
 | (v22, v23, v24) => bd (at? v22 v24) fun x25 =>
 bd (at? v22 v24) fun x26 =>
 jn (d_xdl_j6 L1) ((List.set v22 v24.toNat (GCabin.mk (GLedger.mk x26.Seats.Total x26.Seats.Free x26.Seats.Held x26.Seats.Sold (w64 (v23 + 1))) x26.Row x26.Wheel), w64 (v23 + 1), v24))
def d_xdl_j4 (L1 : ((List GCabin) × Int × Int) → Option (Int × (List GCabin))) (x_ : ((List GCabin) × Int × Int)) : Option (Int × (List GCabin)) :=
 match x_ with
 | (v17, v18, v19) => bd (at? v17 v19) fun x20 =>
 bd (at? v17 v19) fun x21 =>
 jn (d_xdl_j5 L1) ((List.set v17 v19.toNat (GCabin.mk (GLedger.mk x21.Seats.Total x21.Seats.Free x21.Seats.Held (w64 (v18 + 1)) x21.Seats.Tied) x21.Row x21.Wheel), w64 (v18 + 1), v19))
def d_xdl_j3 (L1 : ((List GCabin) × Int × Int) → Option (Int × (List GCabin))) (x_ : ((List GCabin) × Int × Int)) : Option (Int × (List GCabin)) :=
 match x_ with
 | (v12, v13, v14) => bd (at? v12 v14) fun x15 =>
 bd (at? v12 v14) fun x16 =>
 jn (d_xdl_j4 L1) ((List.set v12 v14.toNat (GCabin.mk (GLedger.mk x16.Seats.Total x16.Seats.Free (w64 (v13 + 1)) x16.Seats.Sold x16.Seats.Tied) x16.Row x16.Wheel), w64 (v13 + 1), v14))
def d_xdl_j2 (L1 : ((List GCabin) × Int × Int) → Option (Int × (List GCabin))) (x_ : ((List GCabin) × Int × Int)) : Option (Int × (List GCabin)) :=
 match x_ with
 | (v7, v8, v9) => bd (at? v7 v9) fun x10 =>
 bd (at? v7 v9) fun x11 =>
 jn (d_xdl_j3 L1) ((List.set v7 v9.toNat (GCabin.mk (GLedger.mk x11.Seats.Total (w64 (v8 + 1)) x11.Seats.Held x11.Seats.Sold x11.Seats.Tied) x11.Row x11.Wheel), w64 (v8 + 1), v9))
def d_xdl_j8 (x_ : ((List GCabin) × Int)) : Option (Int × (List GCabin)) :=
 match x_ with
 | (v41, v42) => some (v42, v41)
def d_xdl_l1 (L1 : ((List GCabin) × Int × Int) → Option (Int × (List GCabin))) (x_ : ((List GCabin) × Int × Int)) : Option (Int × (List GCabin)) :=
 match x_ with
 | (v2, v3, v4) => br (decide (v4 < (↑(List.length v2) : Int)))
  (bd (at? v2 v4) fun x5 =>
  bd (at? v2 v4) fun x6 =>
  jn (d_xdl_j2 L1) ((List.set v2 v4.toNat (GCabin.mk (GLedger.mk v3 x6.Seats.Free x6.Seats.Held x6.Seats.Sold x6.Seats.Tied) x6.Row x6.Wheel), v3, v4)))
  (jn (d_xdl_j8) (v2, v3))
def d_xdl (p0 : (List GCabin)) (p1 : Int) : Option (Int × (List GCabin)) :=
 loopN (d_xdl_l1) big (p0, p1, 0)
def gf_xdl : GF := y_xdl.gf rfl rfl (fun a => d_xdl a.1 a.2.1) (fun a => by kernel_rfl)
def y_xdm : YF := ⟨[], [.m (.st 8), .v .i], [], .ret [.i], [.tmp 4],
 sq [qu 2 0, qK 4 0] (Kp 7) (sr [wn 5 [wo 0 2, wK 9, wm 1, wc gf_xdg rfl [6, 7]],
 qn [qa 1 8]] (Kp 7) (sr [wn 9 [wo 11 2, wL, wm 1, wc gf_xdh rfl [10, 11]],
 qn [qa 1 12]] (Kp 7) (sr [wn 13 [wo 12 2, wL, wm 1, wc gf_xdl rfl [14, 15]],
 qn [qa 1 16]] (Kp 7) (sr [wn 17 [wo 13 2, wL, wm 1, wc gf_xdf rfl [18, 19]],
 qn [qa 1 20]] (Kp 7) (sr [wn 21 [wo 14 2, wL, wm 1, wc gf_xdf rfl [22, 23]],
 qn [qa 1 24]] [0, 1] (sq [qm 25 1, qa 4 25] [0, 4] .ret))))))⟩
def d_xdm (p0 : GHouse) (p1 : Int) : Option (Int × GHouse) :=
 bd (d_xdg p0.Rules p1) fun x1 =>
 bd (d_xdh p0.Parties x1.fst) fun x2 =>
 bd (d_xdl p0.Cabins x2.fst) fun x3 =>
 bd (d_xdf p0.Todo x3.fst) fun x4 =>
 bd (d_xdf p0.Jobs x4.fst) fun x5 =>
 some ((x5.fst, GHouse.mk (GRules.mk x1.snd.Seats p0.Rules.Tiers p0.Rules.Room p0.Rules.Size p0.Rules.Period p0.Rules.Window p0.Rules.Rest p0.Rules.Tries p0.Rules.Crew) p0.Now p0.Turn x2.snd x3.snd x4.snd x5.snd))
def gf_xdm : GF := y_xdm.gf rfl rfl (fun a => d_xdm a.1 a.2.1) (fun a => by kernel_rfl)
def y_xdn : YF := ⟨[], [.v (.l .i), .v .i], [], .ret [.i], [.tmp 4],
 sq [qK 4 0] [0, 1] (.join [cv 1 .i] (sq [qK 5 0] (Kp 35) (bl 0 [cv 1 .i, cv 5 .i] (.seq (sw 6 [wM, wm 0, wZ, wB .lss 6] (Kp 547) (ce 9 (Kp 35) [1] 0)) (.seq (.block 1 (.seq (sw 12 [wm 0, wm 5, wE .i 12, wL, wm 1, wB .neq 15] (Kp 131107) (cn 17 (Kp 35) (sq [qK 4 (-1)] [4] .ret))) (qr [wn 18 [wm 1, wI .add 1],
 qn [qa 1 19]] (Kp 35)))) (qr [wn 10 [wm 5, wI .add 1],
 qn [qa 5 11]] (Kp 35)))))) (sq [qm 20 1, qa 4 20] [4] .ret))⟩
def d_xdn_j2 (v5 : Int) : Option Int :=
 some v5
def d_xdn_l1 (p0 : (List Int)) (L1 : (Int × Int) → Option Int) (x_ : (Int × Int)) : Option Int :=
 match x_ with
 | (v2, v3) => br (decide (v3 < (↑p0.length : Int)))
  (bd (at? p0 v3) fun x4 =>
  br (x4 != v2)
   (some (-1))
   (L1 ((w64 (v2 + 1), w64 (v3 + 1)))))
  (jn (d_xdn_j2) v2)
def d_xdn (p0 : (List Int)) (p1 : Int) : Option Int :=
 loopN (d_xdn_l1 p0) big (p1, 0)
def gf_xdn : GF := y_xdn.gf rfl rfl (fun a => d_xdn a.1 a.2.1) (fun a => by kernel_rfl)
def y_xdo : YF := ⟨[], [.v (.st 1)], [], .ret [(.st 1)], [.cell 2 (some 9)],
 sq [qu 1 0, .alloc 2 zGRules, .nils [(.cell 2 0, .i)]] [1, 2] (sr [wn 3 [wh (.bslice · 0 .i []), wo 0 1, wL, wh (.app · .i true (.tmp 3) (.tmp 5)), wo 0 1],
 qn [qw 1 7 6]] [1, 2] (sq [qL 8 9 1, qw 9 2 8] [2] .ret))⟩
def d_xdo (p0 : GRules) : Option GRules :=
 gd (0 + p0.Seats.length ≤ lim) (
 some (GRules.mk ([] ++ p0.Seats) p0.Tiers p0.Room p0.Size p0.Period p0.Window p0.Rest p0.Tries p0.Crew))
def gf_xdo : GF := y_xdo.gf rfl rfl (fun a => d_xdo a.1) (fun a => by kernel_rfl)
def y_xdp : YF := ⟨[], [.v .i], [], .ret [(.st 3), .b], [.cell 2 (some 5), .tmp 3],
 sq [.alloc 2 zGLedger, qB 3 false] [0, 2] (sr [wn 5 [wm 0, wm 0, wh (.build · zGLedger [(0, 1, (.tmp 5)), (3, 1, (.tmp 6))])],
 qn [.alloc 4 zGLedger, qw 5 4 7]] [2, 4] (.seq (sw 8 [wk 5 4, wY gf_xk rfl, wX] (Kp 1044) (.cond 10 [2] [2, 4] (sq [.build 11 zGLedger [], qw 5 2 11, qB 3 false] [2, 3] .ret) .skip)) (sq [qL 12 5 4, qw 5 2 12, qB 3 true] [2, 3] .ret)))⟩
def d_xdp (p0 : Int) : Option (GLedger × Bool) :=
 bd (d_xk (GLedger.mk p0 0 0 p0 0)) fun x1 =>
 br (!x1)
  (some (GLedger.mk 0 0 0 0 0, false))
  (some (GLedger.mk p0 0 0 p0 0, true))
def gf_xdp : GF := y_xdp.gf rfl rfl (fun a => d_xdp a.1) (fun a => by kernel_rfl)
def y_xdq : YF := ⟨[], [], [], .ret [(.st 6)], [.cell 0 (some 1)],
 sq [.alloc 0 [.nil], .nils [(.cell 0 0, (.l (.st 5)))]] [0] (sq [.build 3 [.nil] [], .nils [(.tmp 3 0, (.l (.st 5)))], .alloc 1 [.nil], .nils [(.cell 1 0, (.l (.st 5)))], qw 1 1 3] [0, 1] (.join [cx 1 (.st 6)] (sq [qK 2 0] (Kp 7) (bl 0 [cv 2 .i, cx 1 (.st 6)] (.seq (sw 4 [wm 2, wI .lss 9] (Kp 39) (ce 5 (Kp 7) [0, 1] 0)) (.seq (.block 1 (qr [wn 8 [wo 0 1, wL, wh (.bslice · 0 (.st 5) []), wh (.bslice · 1 (.l (.st 5)) [(0, (.tmp 10))]), wh (.app · (.l (.st 5)) false (.tmp 9) (.tmp 11)), wo 0 1],
 qn [qw 1 13 12]] (Kp 7))) (qr [wn 6 [wm 2, wI .add 1],
 qn [qa 2 7]] (Kp 7)))))) (sq [qL 14 1 1, qw 1 0 14] [0] .ret)))⟩
def d_xdq_j2 (v4 : GWheel) : Option GWheel :=
 some v4
def d_xdq_l1 (L1 : (Int × GWheel) → Option GWheel) (x_ : (Int × GWheel)) : Option GWheel :=
 match x_ with
 | (v2, v3) => br (decide (v2 < 9))
  (gd (v3.Spoke.length + 1 ≤ lim) (
  L1 ((w64 (v2 + 1), GWheel.mk (v3.Spoke ++ [[]])))))
  (jn (d_xdq_j2) v3)
def d_xdq : Option GWheel :=
 loopN (d_xdq_l1) big (0, GWheel.mk [])
def gf_xdq : GF := y_xdq.gf rfl rfl (fun a => d_xdq ) (fun a => by kernel_rfl)
def y_xdr : YF := ⟨[], [.v .i], [], .ret [(.st 7), .b], [.cell 2 (some 7), .tmp 3],
 sq [.alloc 2 zGCabin, .nils [(.cell 2 5, (.st 4)), (.cell 2 6, (.l (.st 5)))], qB 3 false] [0, 2] (sr [wn 7 [wm 0, wY gf_xdp rfl],
 qn [qm 6 8],
 wn 9 [wh (.ext · (.tmp 6) 0), wh (.ext · (.tmp 6) 1)],
 qn [.alloc 4 zGLedger, qw 5 4 9, qa 5 10]] (Kp 52) (.seq (sw 11 [wm 5, wX] (Kp 4116) (.cond 12 [2] [2, 4] (sq [.build 13 zGCabin [], .nils [(.tmp 13 5, (.st 4)), (.tmp 13 6, (.l (.st 5)))], qw 7 2 13, qB 3 false] [2, 3] .ret) .skip)) (.seq (.dreg (.op 0 none [] (.ld 14 (some 5) (.tmp 4))
 (.op 1 none [4] (.call 15 gf_xdq [] rfl [])
 (.op 2 none [] (.build 16 zGCabin [(0, 5, (.tmp 14)), (6, 1, (.tmp 15))])
 (.nl [(.tmp 16 5, (.st 4))] (qd 3 [qn [qw 7 2 16, qB 3 true]] .nil))))) [2, 3]) .ret)))⟩
def d_xdr (p0 : Int) : Option (GCabin × Bool) :=
 bd (d_xdp p0) fun x1 =>
 br (!x1.snd)
  (some ((GCabin.mk (GLedger.mk 0 0 0 0 0) [] (GWheel.mk []), false)))
  (bd (d_xdq ) fun x2 =>
  some (GCabin.mk x1.fst [] x2, true))
def gf_xdr : GF := y_xdr.gf rfl rfl (fun a => d_xdr a.1) (fun a => by kernel_rfl)
def y_xds : YF := ⟨[], [.v (.st 1)], [], .ret [(.st 8), .b], [.cell 2 (some 15), .tmp 3],
 sq [qu 1 0, .alloc 2 zGHouse, .nils [(.cell 2 0, .i), (.cell 2 11, (.st 2)), (.cell 2 12, (.st 7)), (.cell 2 13, .i), (.cell 2 14, .i)], qB 3 false] [1, 2] (.seq (sw 9 [wk 9 1, wY gf_xf rfl, wX] (Kp 2054) (.cond 11 [2] [1, 2] (sq [.build 12 zGHouse [], .nils [(.tmp 12 0, .i), (.tmp 12 11, (.st 2)), (.tmp 12 12, (.st 7)), (.tmp 12 13, .i), (.tmp 12 14, .i)], qw 15 2 12, qB 3 false] [2, 3] .ret) .skip)) (sr [wn 13 [wk 9 1, wY gf_xdo rfl, wh (.build · zGHouse [(0, 9, (.tmp 14)), (10, 1, (.k (.int .i64 1)))])],
 qn [.nils [(.tmp 15 11, (.st 2)), (.tmp 15 12, (.st 7)), (.tmp 15 13, .i), (.tmp 15 14, .i)], .alloc 4 zGHouse, .nils [(.cell 4 0, .i), (.cell 4 11, (.st 2)), (.cell 4 12, (.st 7)), (.cell 4 13, .i), (.cell 4 14, .i)], qw 15 4 15]] (Kp 22) (.join [cx 4 (.st 8)] (sq [qK 5 0] (Kp 54) (bl 0 [cv 5 .i, cx 4 (.st 8)] (.seq (sw 16 [wm 5, wo 0 1, wL, wZ, wB .lss 16] (Kp 1048630) (ce 20 [1, 2, 4, 5] (Kp 22) 0)) (.seq (.block 1 (sr [wn 24 [wo 0 1, wL, wm 5, wE .i 25, wL, wY gf_xdr rfl],
 qn [qm 23 29],
 wn 30 [wh (.ext · (.tmp 23) 0), wh (.ext · (.tmp 23) 1)],
 qn [.alloc 6 zGCabin, .nils [(.cell 6 5, (.st 4)), (.cell 6 6, (.l (.st 5)))], qw 7 6 30, qa 7 31]] (Kp 118) (qr [wn 32 [wo 12 4, wL, wk 7 6, wh (.bslice · 1 (.st 7) [(0, (.tmp 34))]), wh (.app · (.st 7) false (.tmp 33) (.tmp 35)), wo 12 4],
 qn [qw 1 37 36]] (Kp 54)))) (qr [wn 21 [wm 5, wI .add 1],
 qn [qa 5 22]] (Kp 54)))))) (.join [cx 4 (.st 8)] (sq [qK 8 0] (Kp 278) (bl 2 [cv 8 .i, cx 4 (.st 8)] (.seq (sw 38 [wm 8, wo 8 1, wL, wB .lss 38] [1, 2, 4, 8, 41] (ce 41 (Kp 278) [2, 4] 2)) (.seq (.block 3 (qr [wn 44 [wo 14 4, wL, wh (.bslice · 1 .i [(0, (.k (.int .i64 (-1))))]), wh (.app · .i true (.tmp 45) (.tmp 46)), wo 14 4],
 qn [qw 1 48 47]] (Kp 278))) (qr [wn 42 [wm 8, wI .add 1],
 qn [qa 8 43]] (Kp 278)))))) (sq [qL 49 15 4, qw 15 2 49, qB 3 true] [2, 3] .ret)))))⟩
def d_xds_j4 (v12 : GHouse) : Option (GHouse × Bool) :=
 some (v12, true)
def d_xds_l3 (p0 : GRules) (L9 : (Int × GHouse) → Option (GHouse × Bool)) (x_ : (Int × GHouse)) : Option (GHouse × Bool) :=
 match x_ with
 | (v10, v11) => br (decide (v10 < p0.Crew))
  (gd (v11.Jobs.length + [-1].length ≤ lim) (
  L9 ((w64 (v10 + 1), GHouse.mk v11.Rules v11.Now v11.Turn v11.Parties v11.Cabins v11.Todo (v11.Jobs ++ [-1])))))
  (jn (d_xds_j4) v11)
def d_xds_j2 (p0 : GRules) (v8 : GHouse) : Option (GHouse × Bool) :=
 loopN (d_xds_l3 p0) big (0, v8)
def d_xds_l1 (p0 : GRules) (L3 : (Int × GHouse) → Option (GHouse × Bool)) (x_ : (Int × GHouse)) : Option (GHouse × Bool) :=
 match x_ with
 | (v4, v5) => br (decide (v4 < (↑p0.Seats.length : Int)))
  (bd (at? p0.Seats v4) fun x6 =>
  bd (d_xdr x6) fun x7 =>
  gd (v5.Cabins.length + [x7.fst].length ≤ lim) (
  L3 ((w64 (v4 + 1), GHouse.mk v5.Rules v5.Now v5.Turn v5.Parties (v5.Cabins ++ [x7.fst]) v5.Todo v5.Jobs))))
  (jn (d_xds_j2 p0) v5)
def d_xds (p0 : GRules) : Option (GHouse × Bool) :=
 bd (d_xf p0) fun x1 =>
 br (!x1)
  (some ((GHouse.mk (GRules.mk [] 0 0 0 0 0 0 0 0) 0 0 [] [] [] [], false)))
  (bd (d_xdo p0) fun x2 =>
  loopN (d_xds_l1 p0) big (0, GHouse.mk x2 0 1 [] [] [] []))
def gf_xds : GF := y_xds.gf rfl rfl (fun a => d_xds a.1) (fun a => by kernel_rfl)
def y_xdt : YF := ⟨[], [.v (.st 1)], [], .ret [(.st 11), .b], [.cell 2 (some 23), .tmp 3],
 sq [qu 1 0, .alloc 2 zGEngine, .nils [(.cell 2 0, .i), (.cell 2 11, (.st 2)), (.cell 2 12, (.st 7)), (.cell 2 13, .i), (.cell 2 14, .i), (.cell 2 22, (.st 0))], qB 3 false] [1, 2] (sr [wn 8 [wk 9 1, wY gf_xds rfl],
 qn [qm 7 9],
 wn 10 [wh (.ext · (.tmp 7) 0), wh (.ext · (.tmp 7) 1)],
 qn [.alloc 4 zGHouse, .nils [(.cell 4 0, .i), (.cell 4 11, (.st 2)), (.cell 4 12, (.st 7)), (.cell 4 13, .i), (.cell 4 14, .i)], qw 15 4 10, qa 5 11]] (Kp 52) (.seq (sw 12 [wm 5, wX] (Kp 8212) (.cond 13 [2] [2, 4] (sq [.build 14 zGEngine [], .nils [(.tmp 14 0, .i), (.tmp 14 11, (.st 2)), (.tmp 14 12, (.st 7)), (.tmp 14 13, .i), (.tmp 14 14, .i), (.tmp 14 22, (.st 0))], qw 23 2 14, qB 3 false] [2, 3] .ret) .skip)) (sr [wn 15 [wk 15 4, wc gf_xc5 rfl [15, qj 0]],
 qn [qa 6 16]] (Kp 84) (sr [wn 17 [wk 15 4, wm 6, wm 6, wh (.lens · (.tmp 19)), wh (.build · [.str [], .int .i64 0] [(0, 1, (.tmp 18)), (1, 1, (.tmp 20))]), wh (.build · zGStore [(2, 2, (.tmp 21))]), wh (.build · zGEngine [(0, 15, (.tmp 17)), (15, 6, (.tmp 22))])],
 qn [.nils [(.tmp 23 22, (.st 0))], qw 23 2 23, qB 3 true]] [2, 3] .ret))))⟩
def d_xdt (p0 : GRules) : Option (GEngine × Bool) :=
 bd (d_xds p0) fun x1 =>
 br (!x1.snd)
  (some ((GEngine.mk (GHouse.mk (GRules.mk [] 0 0 0 0 0 0 0 0) 0 0 [] [] [] []) (GStore.mk (GArea.mk [] 0) (GArea.mk [] 0) (GArea.mk [] 0)) 0 [], false)))
  (bd (d_xc5 x1.fst 0) fun x2 =>
  some ((GEngine.mk x1.fst (GStore.mk (GArea.mk [] 0) (GArea.mk x2 (↑(List.length x2) : Int)) (GArea.mk [] 0)) 0 [], true)))
def gf_xdt : GF := y_xdt.gf rfl rfl (fun a => d_xdt a.1) (fun a => by kernel_rfl)
def y_xdu : YF := ⟨[], [.v (.l .i)], [], .ret [(.l .i)], [.tmp 2],
 sq [.as 2 (.k .nil), .nils [(.tmp 2 0, .i)]] [0] (sr [wn 3 [wm 0, wh (.app · .i true (.k .nil) (.tmp 3))],
 qn [qa 2 4]] [2] .ret)⟩
def d_xdu (p0 : (List Int)) : Option (List Int) :=
 gd (0 + p0.length ≤ lim) (
 some p0)
def gf_xdu : GF := y_xdu.gf rfl rfl (fun a => d_xdu a.1) (fun a => by kernel_rfl)
def y_xdv : YF := ⟨[], [.v (.st 1)], [], .ret [(.st 1)], [.cell 2 (some 9)],
 sq [qu 1 0, .alloc 2 zGRules, .nils [(.cell 2 0, .i)]] [1, 2] (sr [wn 3 [wo 0 1, wL, wY gf_xdu rfl, wo 0 1],
 qn [qw 1 6 5]] [1, 2] (sq [qL 7 9 1, qw 9 2 7] [2] .ret))⟩
def d_xdv (p0 : GRules) : Option GRules :=
 bd (d_xdu p0.Seats) fun x1 =>
 some (GRules.mk x1 p0.Tiers p0.Room p0.Size p0.Period p0.Window p0.Rest p0.Tries p0.Crew)
def gf_xdv : GF := y_xdv.gf rfl rfl (fun a => d_xdv a.1) (fun a => by kernel_rfl)
def y_xdw : YF := ⟨[], [.v .i], [], .ret [(.st 3), .b], [.cell 2 (some 5), .tmp 3],
 sq [.alloc 2 zGLedger, qB 3 false] [0, 2] (sr [wn 5 [wm 0, wm 0, wh (.build · zGLedger [(0, 1, (.tmp 5)), (3, 1, (.tmp 6))])],
 qn [.alloc 4 zGLedger, qw 5 4 7]] [2, 4] (.seq (sw 8 [wk 5 4, wY gf_xbe rfl, wX] (Kp 1044) (.cond 10 [2] [2, 4] (sq [.build 11 zGLedger [], qw 5 2 11, qB 3 false] [2, 3] .ret) .skip)) (sq [qL 12 5 4, qw 5 2 12, qB 3 true] [2, 3] .ret)))⟩
def d_xdw (p0 : Int) : Option (GLedger × Bool) :=
 bd (d_xbe (GLedger.mk p0 0 0 p0 0)) fun x1 =>
 br (!x1)
  (some (GLedger.mk 0 0 0 0 0, false))
  (some (GLedger.mk p0 0 0 p0 0, true))
def gf_xdw : GF := y_xdw.gf rfl rfl (fun a => d_xdw a.1) (fun a => by kernel_rfl)
def y_xdx : YF := ⟨[], [], [], .ret [(.st 6)], [.cell 0 (some 1)],
 sq [.alloc 0 [.nil], .nils [(.cell 0 0, (.l (.st 5)))]] [0] (sr [wn 1 [wh (.mksl · (.l (.st 5)) (.k (.int .i64 9))), wh (.build · [.nil] [(0, 1, (.tmp 1))])],
 qn [qw 1 0 2]] [0] .ret)⟩
def d_xdx : Option GWheel :=
 some (GWheel.mk (List.replicate (Int.toNat 9) []))
def gf_xdx : GF := y_xdx.gf rfl rfl (fun a => d_xdx ) (fun a => by kernel_rfl)
def y_xdy : YF := ⟨[], [.v .i], [], .ret [(.st 7), .b], [.cell 2 (some 7), .tmp 3],
 sq [.alloc 2 zGCabin, .nils [(.cell 2 5, (.st 4)), (.cell 2 6, (.l (.st 5)))], qB 3 false] [0, 2] (sr [wn 7 [wm 0, wY gf_xdw rfl],
 qn [qm 6 8],
 wn 9 [wh (.ext · (.tmp 6) 0), wh (.ext · (.tmp 6) 1)],
 qn [.alloc 4 zGLedger, qw 5 4 9, qa 5 10]] (Kp 52) (.seq (sw 11 [wm 5, wX] (Kp 4116) (.cond 12 [2] [2, 4] (sq [.build 13 zGCabin [], .nils [(.tmp 13 5, (.st 4)), (.tmp 13 6, (.l (.st 5)))], qw 7 2 13, qB 3 false] [2, 3] .ret) .skip)) (.seq (.dreg (.op 0 none [] (.ld 14 (some 5) (.tmp 4))
 (.op 1 none [4] (.call 15 gf_xdx [] rfl [])
 (.op 2 none [] (.build 16 zGCabin [(0, 5, (.tmp 14)), (6, 1, (.tmp 15))])
 (.nl [(.tmp 16 5, (.st 4))] (qd 3 [qn [qw 7 2 16, qB 3 true]] .nil))))) [2, 3]) .ret)))⟩
def d_xdy (p0 : Int) : Option (GCabin × Bool) :=
 bd (d_xdw p0) fun x1 =>
 br (!x1.snd)
  (some ((GCabin.mk (GLedger.mk 0 0 0 0 0) [] (GWheel.mk []), false)))
  (bd (d_xdx ) fun x2 =>
  some (GCabin.mk x1.fst [] x2, true))
def gf_xdy : GF := y_xdy.gf rfl rfl (fun a => d_xdy a.1) (fun a => by kernel_rfl)
def y_xdz : YF := ⟨[], [.v (.st 1)], [], .ret [(.st 8), .b], [.cell 2 (some 15), .tmp 3],
 sq [qu 1 0, .alloc 2 zGHouse, .nils [(.cell 2 0, .i), (.cell 2 11, (.st 2)), (.cell 2 12, (.st 7)), (.cell 2 13, .i), (.cell 2 14, .i)], qB 3 false] [1, 2] (.seq (sw 10 [wk 9 1, wY gf_xba rfl, wX] (Kp 4102) (.cond 12 [2] [1, 2] (sq [.build 13 zGHouse [], .nils [(.tmp 13 0, .i), (.tmp 13 11, (.st 2)), (.tmp 13 12, (.st 7)), (.tmp 13 13, .i), (.tmp 13 14, .i)], qw 15 2 13, qB 3 false] [2, 3] .ret) .skip)) (sr [wn 14 [wk 9 1, wY gf_xdv rfl, wh (.build · zGHouse [(0, 9, (.tmp 15)), (10, 1, (.k (.int .i64 1)))])],
 qn [.nils [(.tmp 16 11, (.st 2)), (.tmp 16 12, (.st 7)), (.tmp 16 13, .i), (.tmp 16 14, .i)], .alloc 4 zGHouse, .nils [(.cell 4 0, .i), (.cell 4 11, (.st 2)), (.cell 4 12, (.st 7)), (.cell 4 13, .i), (.cell 4 14, .i)], qw 15 4 16]] (Kp 22) (.join [cx 4 (.st 8)] (sw 17 [wo 0 1, wL, wZ, wj 0] (Kp 1835030) (bl 0 [cv 20 .i, cx 4 (.st 8)] (sq [qb 21 .lss 20 19] (Kp 3932182) (.seq (ce 21 [1, 2, 4, 18, 19, 20] (Kp 22) 0) (.seq (.block 1 (sr [wn 22 [we .i 18 20, wL],
 qn [qa 6 23]] (Kp 1835094) (sr [wn 25 [wm 6, wY gf_xdy rfl],
 qn [qm 24 26],
 wn 27 [wh (.ext · (.tmp 24) 0), wh (.ext · (.tmp 24) 1)],
 qn [.alloc 7 zGCabin, .nils [(.cell 7 5, (.st 4)), (.cell 7 6, (.l (.st 5)))], qw 7 7 27, qa 8 28]] (Kp 1835158) (qr [wn 29 [wo 12 4, wL, wk 7 7, wh (.bslice · 1 (.st 7) [(0, (.tmp 31))]), wh (.app · (.st 7) false (.tmp 30) (.tmp 32)), wo 12 4],
 qn [qw 1 34 33]] (Kp 1835030))))) (q1 [qi 35 .add 20 1, qm 20 35] (Kp 1835030))))))) (.join [cx 4 (.st 8)] (sq [qK 9 0] (Kp 534) (bl 2 [cv 9 .i, cx 4 (.st 8)] (.seq (sw 36 [wm 9, wo 8 1, wL, wB .lss 36] [1, 2, 4, 9, 39] (ce 39 (Kp 534) [2, 4] 2)) (.seq (.block 3 (qr [wn 42 [wo 14 4, wL, wh (.bslice · 1 .i [(0, (.k (.int .i64 (-1))))]), wh (.app · .i true (.tmp 43) (.tmp 44)), wo 14 4],
 qn [qw 1 46 45]] (Kp 534))) (qr [wn 40 [wm 9, wI .add 1],
 qn [qa 9 41]] (Kp 534)))))) (sq [qL 47 15 4, qw 15 2 47, qB 3 true] [2, 3] .ret)))))⟩
def d_xdz_j4 (v12 : GHouse) : Option (GHouse × Bool) :=
 some (v12, true)
def d_xdz_l3 (p0 : GRules) (L9 : (Int × GHouse) → Option (GHouse × Bool)) (x_ : (Int × GHouse)) : Option (GHouse × Bool) :=
 match x_ with
 | (v10, v11) => br (decide (v10 < p0.Crew))
  (gd (v11.Jobs.length + [-1].length ≤ lim) (
  L9 ((w64 (v10 + 1), GHouse.mk v11.Rules v11.Now v11.Turn v11.Parties v11.Cabins v11.Todo (v11.Jobs ++ [-1])))))
  (jn (d_xdz_j4) v11)
def d_xdz_j2 (p0 : GRules) (v8 : GHouse) : Option (GHouse × Bool) :=
 loopN (d_xdz_l3 p0) big (0, v8)
def d_xdz_l1 (p0 : GRules) (L3 : (Int × GHouse) → Option (GHouse × Bool)) (x_ : (Int × GHouse)) : Option (GHouse × Bool) :=
 match x_ with
 | (v4, v5) => br (decide (v4 < (↑p0.Seats.length : Int)))
  (bd (at? p0.Seats v4) fun x6 =>
  bd (d_xdy x6) fun x7 =>
  gd (v5.Cabins.length + [x7.fst].length ≤ lim) (
  L3 ((w64 (v4 + 1), GHouse.mk v5.Rules v5.Now v5.Turn v5.Parties (v5.Cabins ++ [x7.fst]) v5.Todo v5.Jobs))))
  (jn (d_xdz_j2 p0) v5)
def d_xdz (p0 : GRules) : Option (GHouse × Bool) :=
 bd (d_xba p0) fun x1 =>
 br (!x1)
  (some ((GHouse.mk (GRules.mk [] 0 0 0 0 0 0 0 0) 0 0 [] [] [] [], false)))
  (bd (d_xdv p0) fun x2 =>
  loopN (d_xdz_l1 p0) big (0, GHouse.mk x2 0 1 [] [] [] []))
def gf_xdz : GF := y_xdz.gf rfl rfl (fun a => d_xdz a.1) (fun a => by kernel_rfl)
def y_xd0 : YF := ⟨[], [.v (.st 9)], [], .ret [(.st 9)], [.cell 2 (some 2)],
 sq [qu 1 0, .alloc 2 [.str [], .int .i64 0]] [1, 2] (.seq (sw 3 [wk 2 1, wY gf_xcf rfl, wX] (Kp 38) (.cond 5 [1, 2] [1, 2] (sq [qL 6 2 1, qw 2 2 6] [2] .ret) .skip)) (sr [wn 7 [wo 0 1, wL, wo 0 1, wL, wh (.lens · (.tmp 10)), wh (.build · [.str [], .int .i64 0] [(0, 1, (.tmp 8)), (1, 1, (.tmp 11))])],
 qn [qw 2 2 12]] [2] .ret))⟩
def d_xd0 (p0 : GArea) : Option GArea :=
 bd (d_xcf p0) fun x1 =>
 br (!x1)
  (some p0)
  (some (GArea.mk p0.Data (↑p0.Data.length : Int)))
def gf_xd0 : GF := y_xd0.gf rfl rfl (fun a => d_xd0 a.1) (fun a => by kernel_rfl)
def y_xd1 : YF := ⟨[], [.v (.st 1)], [], .ret [(.st 11), .b], [.cell 2 (some 23), .tmp 3],
 sq [qu 1 0, .alloc 2 zGEngine, .nils [(.cell 2 0, .i), (.cell 2 11, (.st 2)), (.cell 2 12, (.st 7)), (.cell 2 13, .i), (.cell 2 14, .i), (.cell 2 22, (.st 0))], qB 3 false] [1, 2] (sr [wn 7 [wk 9 1, wY gf_xdz rfl],
 qn [qm 6 8],
 wn 9 [wh (.ext · (.tmp 6) 0), wh (.ext · (.tmp 6) 1)],
 qn [.alloc 4 zGHouse, .nils [(.cell 4 0, .i), (.cell 4 11, (.st 2)), (.cell 4 12, (.st 7)), (.cell 4 13, .i), (.cell 4 14, .i)], qw 15 4 9, qa 5 10]] (Kp 52) (.seq (sw 11 [wm 5, wX] (Kp 4116) (.cond 12 [2] [2, 4] (sq [.build 13 zGEngine [], .nils [(.tmp 13 0, .i), (.tmp 13 11, (.st 2)), (.tmp 13 12, (.st 7)), (.tmp 13 13, .i), (.tmp 13 14, .i), (.tmp 13 22, (.st 0))], qw 23 2 13, qB 3 false] [2, 3] .ret) .skip)) (.seq (.dreg (qd 0 [wn 14 [wk 15 4, wk 15 4]] (.op 2 none [4] (.call 16 gf_xde [] rfl [(.tmp 15), (.k (.int .i64 0))])
 (.op 3 none [] (.build 17 [.str [], .int .i64 0] [(0, 1, (.tmp 16))])
 (.op 4 none [4] (.call 18 gf_xd0 [] rfl [(.tmp 17)])
 (qd 5 [wn 19 [wh (.build · zGStore [(2, 2, (.tmp 18))]), wh (.build · zGEngine [(0, 15, (.tmp 14)), (15, 6, (.tmp 19))])]] (.nl [(.tmp 20 22, (.st 0))] (qd 7 [qn [qw 23 2 20, qB 3 true]] .nil))))))) [2, 3]) .ret)))⟩
def d_xd1 (p0 : GRules) : Option (GEngine × Bool) :=
 bd (d_xdz p0) fun x1 =>
 br (!x1.snd)
  (some ((GEngine.mk (GHouse.mk (GRules.mk [] 0 0 0 0 0 0 0 0) 0 0 [] [] [] []) (GStore.mk (GArea.mk [] 0) (GArea.mk [] 0) (GArea.mk [] 0)) 0 [], false)))
  (bd (d_xde x1.fst 0) fun x2 =>
  bd (d_xd0 (GArea.mk x2 0)) fun x3 =>
  some ((GEngine.mk x1.fst (GStore.mk (GArea.mk [] 0) x3 (GArea.mk [] 0)) 0 [], true)))
def gf_xd1 : GF := y_xd1.gf rfl rfl (fun a => d_xd1 a.1) (fun a => by kernel_rfl)
def y_xd2 : YF := ⟨[], [.m (.l (.st 0)), .v .i], [], .ret [.i], [.tmp 4],
 sq [qK 4 0] [0, 1] (.join [cv 0 (.l (.st 0)), cv 1 .i] (sq [qK 5 0] (Kp 35) (bl 0 [cv 0 (.l (.st 0)), cv 1 .i, cv 5 .i] (.seq (sw 6 [wM, wm 0, wZ, wB .lss 6] (Kp 547) (ce 9 (Kp 35) [0, 1] 0)) (.seq (.block 1 (.join [cv 0 (.l (.st 0)), cv 1 .i, cv 5 .i] (qr [wn 12 [wm 0, wm 5, wm 1, we (.st 0) 12 13, wO 0],
 qn [qw 1 16 14]] (Kp 35)) (sr [wn 17 [wm 1, wI .add 1],
 qn [qa 1 18]] (Kp 35) (.join [cv 0 (.l (.st 0)), cv 1 .i, cv 5 .i] (qr [wn 19 [wm 0, wm 5, wm 1, we (.st 0) 19 20, wO 1],
 qn [qw 1 23 21]] (Kp 35)) (sr [wn 24 [wm 1, wI .add 1],
 qn [qa 1 25]] (Kp 35) (.join [cv 0 (.l (.st 0)), cv 1 .i, cv 5 .i] (qr [wn 26 [wm 0, wm 5, wm 1, we (.st 0) 26 27, wO 2],
 qn [qw 1 30 28]] (Kp 35)) (sr [wn 31 [wm 1, wI .add 1],
 qn [qa 1 32]] (Kp 35) (.join [cv 0 (.l (.st 0)), cv 1 .i, cv 5 .i] (qr [wn 33 [wm 0, wm 5, wm 1, we (.st 0) 33 34, wO 3],
 qn [qw 1 37 35]] (Kp 35)) (sr [wn 38 [wm 1, wI .add 1],
 qn [qa 1 39]] (Kp 35) (.join [cv 0 (.l (.st 0)), cv 1 .i, cv 5 .i] (qr [wn 40 [wm 0, wm 5, wm 1, we (.st 0) 40 41, wO 4],
 qn [qw 1 44 42]] (Kp 35)) (sr [wn 45 [wm 1, wI .add 1],
 qn [qa 1 46]] (Kp 35) (.join [cv 0 (.l (.st 0)), cv 1 .i, cv 5 .i] (qr [wn 47 [wm 0, wm 5, wm 1, we (.st 0) 47 48, wO 5],
 qn [qw 1 51 49]] (Kp 35)) (qr [wn 52 [wm 1, wI .add 1],
 qn [qa 1 53]] (Kp 35)))))))))))))) (qr [wn 10 [wm 5, wI .add 1],
 qn [qa 5 11]] (Kp 35)))))) (sq [qm 54 1, qa 4 54] [0, 4] .ret))⟩
def d_xd2_j7 (L1 : ((List GReq) × Int × Int) → Option (Int × (List GReq))) (x_ : ((List GReq) × Int × Int)) : Option (Int × (List GReq)) :=
 match x_ with
 | (v32, v33, v34) => L1 ((v32, w64 (v33 + 1), w64 (v34 + 1)))
def d_xd2_j6 (L1 : ((List GReq) × Int × Int) → Option (Int × (List GReq))) (x_ : ((List GReq) × Int × Int)) : Option (Int × (List GReq)) :=
 match x_ with
 | (v27, v28, v29) => bd (at? v27 v29) fun x30 =>
 bd (at? v27 v29) fun x31 =>
 jn (d_xd2_j7 L1) ((List.set v27 v29.toNat (GReq.mk x31.Kind x31.Id x31.Cabin x31.From x31.Size (w64 (v28 + 1))), w64 (v28 + 1), v29))
def d_xd2_j5 (L1 : ((List GReq) × Int × Int) → Option (Int × (List GReq))) (x_ : ((List GReq) × Int × Int)) : Option (Int × (List GReq)) :=
 match x_ with
 | (v22, v23, v24) => bd (at? v22 v24) fun x25 =>
 bd (at? v22 v24) fun x26 =>
 jn (d_xd2_j6 L1) ((List.set v22 v24.toNat (GReq.mk x26.Kind x26.Id x26.Cabin x26.From (w64 (v23 + 1)) x26.Tier), w64 (v23 + 1), v24))
def d_xd2_j4 (L1 : ((List GReq) × Int × Int) → Option (Int × (List GReq))) (x_ : ((List GReq) × Int × Int)) : Option (Int × (List GReq)) :=
 match x_ with
 | (v17, v18, v19) => bd (at? v17 v19) fun x20 =>
 bd (at? v17 v19) fun x21 =>
 jn (d_xd2_j5 L1) ((List.set v17 v19.toNat (GReq.mk x21.Kind x21.Id x21.Cabin (w64 (v18 + 1)) x21.Size x21.Tier), w64 (v18 + 1), v19))
def d_xd2_j3 (L1 : ((List GReq) × Int × Int) → Option (Int × (List GReq))) (x_ : ((List GReq) × Int × Int)) : Option (Int × (List GReq)) :=
 match x_ with
 | (v12, v13, v14) => bd (at? v12 v14) fun x15 =>
 bd (at? v12 v14) fun x16 =>
 jn (d_xd2_j4 L1) ((List.set v12 v14.toNat (GReq.mk x16.Kind x16.Id (w64 (v13 + 1)) x16.From x16.Size x16.Tier), w64 (v13 + 1), v14))
def d_xd2_j2 (L1 : ((List GReq) × Int × Int) → Option (Int × (List GReq))) (x_ : ((List GReq) × Int × Int)) : Option (Int × (List GReq)) :=
 match x_ with
 | (v7, v8, v9) => bd (at? v7 v9) fun x10 =>
 bd (at? v7 v9) fun x11 =>
 jn (d_xd2_j3 L1) ((List.set v7 v9.toNat (GReq.mk x11.Kind (w64 (v8 + 1)) x11.Cabin x11.From x11.Size x11.Tier), w64 (v8 + 1), v9))
def d_xd2_j8 (x_ : ((List GReq) × Int)) : Option (Int × (List GReq)) :=
 match x_ with
 | (v35, v36) => some (v36, v35)
def d_xd2_l1 (L1 : ((List GReq) × Int × Int) → Option (Int × (List GReq))) (x_ : ((List GReq) × Int × Int)) : Option (Int × (List GReq)) :=
 match x_ with
 | (v2, v3, v4) => br (decide (v4 < (↑(List.length v2) : Int)))
  (bd (at? v2 v4) fun x5 =>
  bd (at? v2 v4) fun x6 =>
  jn (d_xd2_j2 L1) ((List.set v2 v4.toNat (GReq.mk v3 x6.Id x6.Cabin x6.From x6.Size x6.Tier), v3, v4)))
  (jn (d_xd2_j8) (v2, v3))
def d_xd2 (p0 : (List GReq)) (p1 : Int) : Option (Int × (List GReq)) :=
 loopN (d_xd2_l1) big (p0, p1, 0)
def gf_xd2 : GF := y_xd2.gf rfl rfl (fun a => d_xd2 a.1 a.2.1) (fun a => by kernel_rfl)
def y_xd3 : YF := ⟨[], [.m (.st 11), .v .i], [], .ret [.i], [.tmp 4],
 sq [qu 2 0, qK 4 0] (Kp 7) (sr [wn 5 [wo 0 2, wK 15, wm 1, wc gf_xdm rfl [6, 7]],
 qn [qa 1 8]] (Kp 7) (sr [wn 9 [wo 22 2, wL, wm 1, wc gf_xd2 rfl [10, 11]],
 qn [qa 1 12]] [0, 1] (sq [qm 13 1, qa 4 13] [0, 4] .ret)))⟩
def d_xd3 (p0 : GEngine) (p1 : Int) : Option (Int × GEngine) :=
 bd (d_xdm p0.House p1) fun x1 =>
 bd (d_xd2 p0.Laid x1.fst) fun x2 =>
 some ((x2.fst, GEngine.mk (GHouse.mk (GRules.mk x1.snd.Rules.Seats p0.House.Rules.Tiers p0.House.Rules.Room p0.House.Rules.Size p0.House.Rules.Period p0.House.Rules.Window p0.House.Rules.Rest p0.House.Rules.Tries p0.House.Rules.Crew) p0.House.Now p0.House.Turn x1.snd.Parties x1.snd.Cabins x1.snd.Todo x1.snd.Jobs) p0.Store p0.Seq x2.snd))
def gf_xd3 : GF := y_xd3.gf rfl rfl (fun a => d_xd3 a.1 a.2.1) (fun a => by kernel_rfl)
def y_xd4 : YF := ⟨[], [.v (.st 1), .v .i], [], .ret [.i], [.tmp 4],
 sq [qu 2 0, qK 4 0] [1, 2] (sr [wn 5 [wo 0 2, wL, wm 1, wc gf_xdn rfl [6, 7]],
 qn [qa 1 8]] [1] (.seq (sw 9 [wm 1, wI .lss 0] [1, 10] (cn 10 [1] (sq [qK 4 (-1)] [4] .ret))) (sq [qm 11 1, qa 4 11] [4] .ret)))⟩
def d_xd4 (p0 : GRules) (p1 : Int) : Option Int :=
 bd (d_xdn p0.Seats p1) fun x1 =>
 br (decide (x1 < 0))
  (some (-1))
  (some x1)
def gf_xd4 : GF := y_xd4.gf rfl rfl (fun a => d_xd4 a.1 a.2.1) (fun a => by kernel_rfl)
def y_xd5 : YF := ⟨[], [.v (.l (.st 2)), .v .i], [], .ret [.i], [.tmp 4],
 sq [qK 4 0] [0, 1] (.join [cv 1 .i] (sq [qK 5 0] (Kp 35) (bl 0 [cv 1 .i, cv 5 .i] (.seq (sw 6 [wM, wm 0, wZ, wB .lss 6] (Kp 547) (ce 9 (Kp 35) [1] 0)) (.seq (.block 1 (.seq (sw 12 [wm 0, wm 5, wE (.st 2) 12, wO 0, wL, wm 1, wB .neq 16] (Kp 262179) (cn 18 (Kp 35) (sq [qK 4 (-1)] [4] .ret))) (sr [wn 19 [wm 1, wI .add 1],
 qn [qa 1 20]] (Kp 35) (.seq (sw 21 [wm 0, wm 5, wE (.st 2) 21, wO 1, wL, wm 1, wB .neq 25] [0, 1, 5, 27] (cn 27 (Kp 35) (sq [qK 4 (-1)] [4] .ret))) (sr [wn 28 [wm 1, wI .add 1],
 qn [qa 1 29]] (Kp 35) (.seq (sw 30 [wm 0, wm 5, wE (.st 2) 30, wO 2, wL, wm 1, wB .neq 34] [0, 1, 5, 36] (cn 36 (Kp 35) (sq [qK 4 (-1)] [4] .ret))) (sr [wn 37 [wm 1, wI .add 1],
 qn [qa 1 38]] (Kp 35) (.seq (sw 39 [wm 0, wm 5, wE (.st 2) 39, wO 3, wL, wm 1, wB .neq 43] [0, 1, 5, 45] (cn 45 (Kp 35) (sq [qK 4 (-1)] [4] .ret))) (sr [wn 46 [wm 1, wI .add 1],
 qn [qa 1 47]] (Kp 35) (.seq (sw 48 [wm 0, wm 5, wE (.st 2) 48, wO 4, wL, wm 1, wB .neq 52] [0, 1, 5, 54] (cn 54 (Kp 35) (sq [qK 4 (-1)] [4] .ret))) (sr [wn 55 [wm 1, wI .add 1],
 qn [qa 1 56]] (Kp 35) (.seq (sw 57 [wm 0, wm 5, wE (.st 2) 57, wO 5, wL, wm 1, wB .neq 61] [0, 1, 5, 63] (cn 63 (Kp 35) (sq [qK 4 (-1)] [4] .ret))) (sr [wn 64 [wm 1, wI .add 1],
 qn [qa 1 65]] (Kp 35) (.seq (sw 66 [wm 0, wm 5, wE (.st 2) 66, wO 6, wL, wm 1, wB .neq 70] [0, 1, 5, 72] (cn 72 (Kp 35) (sq [qK 4 (-1)] [4] .ret))) (sr [wn 73 [wm 1, wI .add 1],
 qn [qa 1 74]] (Kp 35) (.seq (sw 75 [wm 0, wm 5, wE (.st 2) 75, wO 7, wL, wm 1, wB .neq 79] [0, 1, 5, 81] (cn 81 (Kp 35) (sq [qK 4 (-1)] [4] .ret))) (sr [wn 82 [wm 1, wI .add 1],
 qn [qa 1 83]] (Kp 35) (.seq (sw 84 [wm 0, wm 5, wE (.st 2) 84, wO 8, wL, wm 1, wB .neq 88] [0, 1, 5, 90] (cn 90 (Kp 35) (sq [qK 4 (-1)] [4] .ret))) (sr [wn 91 [wm 1, wI .add 1],
 qn [qa 1 92]] (Kp 35) (.seq (sw 93 [wm 0, wm 5, wE (.st 2) 93, wO 9, wL, wm 1, wB .neq 97] [0, 1, 5, 99] (cn 99 (Kp 35) (sq [qK 4 (-1)] [4] .ret))) (qr [wn 100 [wm 1, wI .add 1],
 qn [qa 1 101]] (Kp 35)))))))))))))))))))))) (qr [wn 10 [wm 5, wI .add 1],
 qn [qa 5 11]] (Kp 35)))))) (sq [qm 102 1, qa 4 102] [4] .ret))⟩
def d_xd5_j2 (v14 : Int) : Option Int :=
 some v14
def d_xd5_l1 (p0 : (List GParty)) (L1 : (Int × Int) → Option Int) (x_ : (Int × Int)) : Option Int :=
 match x_ with
 | (v2, v3) => br (decide (v3 < (↑p0.length : Int)))
  (bd (at? p0 v3) fun x4 =>
  br (x4.Id != v2)
   (some (-1))
   (bd (at? p0 v3) fun x5 =>
   br (x5.Cabin != w64 (v2 + 1))
    (some (-1))
    (bd (at? p0 v3) fun x6 =>
    br (x6.From != w64 (w64 (v2 + 1) + 1))
     (some (-1))
     (bd (at? p0 v3) fun x7 =>
     br (x7.Size != w64 (w64 (w64 (v2 + 1) + 1) + 1))
      (some (-1))
      (bd (at? p0 v3) fun x8 =>
      br (x8.Tier != w64 (w64 (w64 (w64 (v2 + 1) + 1) + 1) + 1))
       (some (-1))
       (bd (at? p0 v3) fun x9 =>
       br (x9.Since != w64 (w64 (w64 (w64 (w64 (v2 + 1) + 1) + 1) + 1) + 1))
        (some (-1))
        (bd (at? p0 v3) fun x10 =>
        br (x10.Turn != w64 (w64 (w64 (w64 (w64 (w64 (v2 + 1) + 1) + 1) + 1) + 1) + 1))
         (some (-1))
         (bd (at? p0 v3) fun x11 =>
         br (x11.State != w64 (w64 (w64 (w64 (w64 (w64 (w64 (v2 + 1) + 1) + 1) + 1) + 1) + 1) + 1))
          (some (-1))
          (bd (at? p0 v3) fun x12 =>
          br (x12.Until != w64 (w64 (w64 (w64 (w64 (w64 (w64 (w64 (v2 + 1) + 1) + 1) + 1) + 1) + 1) + 1) + 1))
           (some (-1))
           (bd (at? p0 v3) fun x13 =>
           br (x13.Asked != w64 (w64 (w64 (w64 (w64 (w64 (w64 (w64 (w64 (v2 + 1) + 1) + 1) + 1) + 1) + 1) + 1) + 1) + 1))
            (some (-1))
            (L1 ((w64 (w64 (w64 (w64 (w64 (w64 (w64 (w64 (w64 (w64 (v2 + 1) + 1) + 1) + 1) + 1) + 1) + 1) + 1) + 1) + 1), w64 (v3 + 1))))))))))))))
  (jn (d_xd5_j2) v2)
def d_xd5 (p0 : (List GParty)) (p1 : Int) : Option Int :=
 loopN (d_xd5_l1 p0) big (p1, 0)
def gf_xd5 : GF := y_xd5.gf rfl rfl (fun a => d_xd5 a.1 a.2.1) (fun a => by kernel_rfl)
def y_xd6 : YF := ⟨[], [.v (.l (.st 4)), .v .i], [], .ret [.i], [.tmp 4],
 sq [qK 4 0] [0, 1] (.join [cv 1 .i] (sq [qK 5 0] (Kp 35) (bl 0 [cv 1 .i, cv 5 .i] (.seq (sw 6 [wM, wm 0, wZ, wB .lss 6] (Kp 547) (ce 9 (Kp 35) [1] 0)) (.seq (.block 1 (.seq (sw 12 [wm 0, wm 5, wE (.st 4) 12, wO 0, wL, wm 1, wB .neq 16] (Kp 262179) (cn 18 (Kp 35) (sq [qK 4 (-1)] [4] .ret))) (sr [wn 19 [wm 1, wI .add 1],
 qn [qa 1 20]] (Kp 35) (.seq (sw 21 [wm 0, wm 5, wE (.st 4) 21, wO 1, wL, wm 1, wB .neq 25] [0, 1, 5, 27] (cn 27 (Kp 35) (sq [qK 4 (-1)] [4] .ret))) (sr [wn 28 [wm 1, wI .add 1],
 qn [qa 1 29]] (Kp 35) (.seq (sw 30 [wm 0, wm 5, wE (.st 4) 30, wO 2, wL, wm 1, wB .neq 34] [0, 1, 5, 36] (cn 36 (Kp 35) (sq [qK 4 (-1)] [4] .ret))) (sr [wn 37 [wm 1, wI .add 1],
 qn [qa 1 38]] (Kp 35) (.seq (sw 39 [wm 0, wm 5, wE (.st 4) 39, wO 3, wL, wm 1, wB .neq 43] [0, 1, 5, 45] (cn 45 (Kp 35) (sq [qK 4 (-1)] [4] .ret))) (qr [wn 46 [wm 1, wI .add 1],
 qn [qa 1 47]] (Kp 35)))))))))) (qr [wn 10 [wm 5, wI .add 1],
 qn [qa 5 11]] (Kp 35)))))) (sq [qm 48 1, qa 4 48] [4] .ret))⟩
def d_xd6_j2 (v8 : Int) : Option Int :=
 some v8
def d_xd6_l1 (p0 : (List GEntry)) (L1 : (Int × Int) → Option Int) (x_ : (Int × Int)) : Option Int :=
 match x_ with
 | (v2, v3) => br (decide (v3 < (↑p0.length : Int)))
  (bd (at? p0 v3) fun x4 =>
  br (x4.Level != v2)
   (some (-1))
   (bd (at? p0 v3) fun x5 =>
   br (x5.Turn != w64 (v2 + 1))
    (some (-1))
    (bd (at? p0 v3) fun x6 =>
    br (x6.Id != w64 (w64 (v2 + 1) + 1))
     (some (-1))
     (bd (at? p0 v3) fun x7 =>
     br (x7.Size != w64 (w64 (w64 (v2 + 1) + 1) + 1))
      (some (-1))
      (L1 ((w64 (w64 (w64 (w64 (v2 + 1) + 1) + 1) + 1), w64 (v3 + 1))))))))
  (jn (d_xd6_j2) v2)
def d_xd6 (p0 : (List GEntry)) (p1 : Int) : Option Int :=
 loopN (d_xd6_l1 p0) big (p1, 0)
def gf_xd6 : GF := y_xd6.gf rfl rfl (fun a => d_xd6 a.1 a.2.1) (fun a => by kernel_rfl)
def y_xd7 : YF := ⟨[], [.v (.l (.st 5)), .v .i], [], .ret [.i], [.tmp 4],
 sq [qK 4 0] [0, 1] (.join [cv 1 .i] (sq [qK 5 0] (Kp 35) (bl 0 [cv 1 .i, cv 5 .i] (.seq (sw 6 [wM, wm 0, wZ, wB .lss 6] (Kp 547) (ce 9 (Kp 35) [1] 0)) (.seq (.block 1 (.seq (sw 12 [wm 0, wm 5, wE (.st 5) 12, wO 0, wL, wm 1, wB .neq 16] (Kp 262179) (cn 18 (Kp 35) (sq [qK 4 (-1)] [4] .ret))) (sr [wn 19 [wm 1, wI .add 1],
 qn [qa 1 20]] (Kp 35) (.seq (sw 21 [wm 0, wm 5, wE (.st 5) 21, wO 1, wL, wm 1, wB .neq 25] [0, 1, 5, 27] (cn 27 (Kp 35) (sq [qK 4 (-1)] [4] .ret))) (qr [wn 28 [wm 1, wI .add 1],
 qn [qa 1 29]] (Kp 35)))))) (qr [wn 10 [wm 5, wI .add 1],
 qn [qa 5 11]] (Kp 35)))))) (sq [qm 30 1, qa 4 30] [4] .ret))⟩
def d_xd7_j2 (v6 : Int) : Option Int :=
 some v6
def d_xd7_l1 (p0 : (List GPin)) (L1 : (Int × Int) → Option Int) (x_ : (Int × Int)) : Option Int :=
 match x_ with
 | (v2, v3) => br (decide (v3 < (↑p0.length : Int)))
  (bd (at? p0 v3) fun x4 =>
  br (x4.At != v2)
   (some (-1))
   (bd (at? p0 v3) fun x5 =>
   br (x5.Id != w64 (v2 + 1))
    (some (-1))
    (L1 ((w64 (w64 (v2 + 1) + 1), w64 (v3 + 1))))))
  (jn (d_xd7_j2) v2)
def d_xd7 (p0 : (List GPin)) (p1 : Int) : Option Int :=
 loopN (d_xd7_l1 p0) big (p1, 0)
def gf_xd7 : GF := y_xd7.gf rfl rfl (fun a => d_xd7 a.1 a.2.1) (fun a => by kernel_rfl)
def y_xd8 : YF := ⟨[], [.v (.l (.l (.st 5))), .v .i], [], .ret [.i], [.tmp 4],
 sq [qK 4 0] [0, 1] (.join [cv 1 .i] (sq [qK 5 0] (Kp 35) (bl 0 [cv 1 .i, cv 5 .i] (.seq (sw 6 [wM, wm 0, wZ, wB .lss 6] (Kp 547) (ce 9 (Kp 35) [1] 0)) (.seq (.block 1 (sr [wn 12 [wm 0, wm 5, wE (.l (.st 5)) 12, wL, wm 1, wc gf_xd7 rfl [15, 16]],
 qn [qa 1 17]] (Kp 35) (sw 18 [wm 1, wI .lss 0] (Kp 524323) (cn 19 (Kp 35) (sq [qK 4 (-1)] [4] .ret))))) (qr [wn 10 [wm 5, wI .add 1],
 qn [qa 5 11]] (Kp 35)))))) (sq [qm 20 1, qa 4 20] [4] .ret))⟩
def d_xd8_j2 (v6 : Int) : Option Int :=
 some v6
def d_xd8_l1 (p0 : (List (List GPin))) (L1 : (Int × Int) → Option Int) (x_ : (Int × Int)) : Option Int :=
 match x_ with
 | (v2, v3) => br (decide (v3 < (↑p0.length : Int)))
  (bd (at? p0 v3) fun x4 =>
  bd (d_xd7 x4 v2) fun x5 =>
  br (decide (x5 < 0))
   (some (-1))
   (L1 ((x5, w64 (v3 + 1)))))
  (jn (d_xd8_j2) v2)
def d_xd8 (p0 : (List (List GPin))) (p1 : Int) : Option Int :=
 loopN (d_xd8_l1 p0) big (p1, 0)
def gf_xd8 : GF := y_xd8.gf rfl rfl (fun a => d_xd8 a.1 a.2.1) (fun a => by kernel_rfl)
def y_xd9 : YF := ⟨[], [.v (.l (.st 7)), .v .i], [], .ret [.i], [.tmp 4],
 sq [qK 4 0] [0, 1] (.join [cv 1 .i] (sq [qK 5 0] (Kp 35) (bl 0 [cv 1 .i, cv 5 .i] (.seq (sw 6 [wM, wm 0, wZ, wB .lss 6] (Kp 547) (ce 9 (Kp 35) [1] 0)) (.seq (.block 1 (.seq (sw 12 [wm 0, wm 5, wE (.st 7) 12, wO 0, wO 0, wL, wm 1, wB .neq 17] (Kp 524323) (cn 19 (Kp 35) (sq [qK 4 (-1)] [4] .ret))) (sr [wn 20 [wm 1, wI .add 1],
 qn [qa 1 21]] (Kp 35) (.seq (sw 22 [wm 0, wm 5, wE (.st 7) 22, wO 0, wO 1, wL, wm 1, wB .neq 27] [0, 1, 5, 29] (cn 29 (Kp 35) (sq [qK 4 (-1)] [4] .ret))) (sr [wn 30 [wm 1, wI .add 1],
 qn [qa 1 31]] (Kp 35) (.seq (sw 32 [wm 0, wm 5, wE (.st 7) 32, wO 0, wO 2, wL, wm 1, wB .neq 37] [0, 1, 5, 39] (cn 39 (Kp 35) (sq [qK 4 (-1)] [4] .ret))) (sr [wn 40 [wm 1, wI .add 1],
 qn [qa 1 41]] (Kp 35) (.seq (sw 42 [wm 0, wm 5, wE (.st 7) 42, wO 0, wO 3, wL, wm 1, wB .neq 47] [0, 1, 5, 49] (cn 49 (Kp 35) (sq [qK 4 (-1)] [4] .ret))) (sr [wn 50 [wm 1, wI .add 1],
 qn [qa 1 51]] (Kp 35) (.seq (sw 52 [wm 0, wm 5, wE (.st 7) 52, wO 0, wO 4, wL, wm 1, wB .neq 57] [0, 1, 5, 59] (cn 59 (Kp 35) (sq [qK 4 (-1)] [4] .ret))) (sr [wn 60 [wm 1, wI .add 1],
 qn [qa 1 61]] (Kp 35) (sr [wn 62 [wm 0, wm 5, wE (.st 7) 62, wO 5, wL, wm 1, wc gf_xd6 rfl [66, 67]],
 qn [qa 1 68]] (Kp 35) (.seq (sw 69 [wm 1, wI .lss 0] [0, 1, 5, 70] (cn 70 (Kp 35) (sq [qK 4 (-1)] [4] .ret))) (sr [wn 71 [wm 0, wm 5, wE (.st 7) 71, wO 6, wO 0, wL, wm 1, wc gf_xd8 rfl [76, 77]],
 qn [qa 1 78]] (Kp 35) (sw 79 [wm 1, wI .lss 0] [0, 1, 5, 80] (cn 80 (Kp 35) (sq [qK 4 (-1)] [4] .ret))))))))))))))))) (qr [wn 10 [wm 5, wI .add 1],
 qn [qa 5 11]] (Kp 35)))))) (sq [qm 81 1, qa 4 81] [4] .ret))⟩
def d_xd9_j2 (v13 : Int) : Option Int :=
 some v13
def d_xd9_l1 (p0 : (List GCabin)) (L1 : (Int × Int) → Option Int) (x_ : (Int × Int)) : Option Int :=
 match x_ with
 | (v2, v3) => br (decide (v3 < (↑p0.length : Int)))
  (bd (at? p0 v3) fun x4 =>
  br (x4.Seats.Total != v2)
   (some (-1))
   (bd (at? p0 v3) fun x5 =>
   br (x5.Seats.Free != w64 (v2 + 1))
    (some (-1))
    (bd (at? p0 v3) fun x6 =>
    br (x6.Seats.Held != w64 (w64 (v2 + 1) + 1))
     (some (-1))
     (bd (at? p0 v3) fun x7 =>
     br (x7.Seats.Sold != w64 (w64 (w64 (v2 + 1) + 1) + 1))
      (some (-1))
      (bd (at? p0 v3) fun x8 =>
      br (x8.Seats.Tied != w64 (w64 (w64 (w64 (v2 + 1) + 1) + 1) + 1))
       (some (-1))
       (bd (at? p0 v3) fun x9 =>
       bd (d_xd6 x9.Row (w64 (w64 (w64 (w64 (w64 (v2 + 1) + 1) + 1) + 1) + 1))) fun x10 =>
       br (decide (x10 < 0))
        (some (-1))
        (bd (at? p0 v3) fun x11 =>
        bd (d_xd8 x11.Wheel.Spoke x10) fun x12 =>
        br (decide (x12 < 0))
         (some (-1))
         (L1 ((x12, w64 (v3 + 1)))))))))))
  (jn (d_xd9_j2) v2)
def d_xd9 (p0 : (List GCabin)) (p1 : Int) : Option Int :=
 loopN (d_xd9_l1 p0) big (p1, 0)
def gf_xd9 : GF := y_xd9.gf rfl rfl (fun a => d_xd9 a.1 a.2.1) (fun a => by kernel_rfl)
def y_xea : YF := ⟨[], [.v (.st 8), .v .i], [], .ret [.i], [.tmp 4],
 sq [qu 2 0, qK 4 0] [1, 2] (sr [wn 5 [wo 0 2, wK 9, wm 1, wc gf_xd4 rfl [6, 7]],
 qn [qa 1 8]] [1, 2] (.seq (sw 9 [wm 1, wI .lss 0] (Kp 1030) (cn 10 [1, 2] (sq [qK 4 (-1)] [4] .ret))) (sr [wn 11 [wo 11 2, wL, wm 1, wc gf_xd5 rfl [12, 13]],
 qn [qa 1 14]] [1, 2] (.seq (sw 15 [wm 1, wI .lss 0] [1, 2, 16] (cn 16 [1, 2] (sq [qK 4 (-1)] [4] .ret))) (sr [wn 17 [wo 12 2, wL, wm 1, wc gf_xd9 rfl [18, 19]],
 qn [qa 1 20]] [1, 2] (.seq (sw 21 [wm 1, wI .lss 0] [1, 2, 22] (cn 22 [1, 2] (sq [qK 4 (-1)] [4] .ret))) (sr [wn 23 [wo 13 2, wL, wm 1, wc gf_xdn rfl [24, 25]],
 qn [qa 1 26]] [1, 2] (.seq (sw 27 [wm 1, wI .lss 0] [1, 2, 28] (cn 28 [1, 2] (sq [qK 4 (-1)] [4] .ret))) (sr [wn 29 [wo 14 2, wL, wm 1, wc gf_xdn rfl [30, 31]],
 qn [qa 1 32]] [1] (.seq (sw 33 [wm 1, wI .lss 0] [1, 34] (cn 34 [1] (sq [qK 4 (-1)] [4] .ret))) (sq [qm 35 1, qa 4 35] [4] .ret)))))))))))⟩
def d_xea (p0 : GHouse) (p1 : Int) : Option Int :=
 bd (d_xd4 p0.Rules p1) fun x1 =>
 br (decide (x1 < 0))
  (some (-1))
  (bd (d_xd5 p0.Parties x1) fun x2 =>
  br (decide (x2 < 0))
   (some (-1))
   (bd (d_xd9 p0.Cabins x2) fun x3 =>
   br (decide (x3 < 0))
    (some (-1))
    (bd (d_xdn p0.Todo x3) fun x4 =>
    br (decide (x4 < 0))
     (some (-1))
     (bd (d_xdn p0.Jobs x4) fun x5 =>
     br (decide (x5 < 0))
      (some (-1))
      (some x5)))))
def gf_xea : GF := y_xea.gf rfl rfl (fun a => d_xea a.1 a.2.1) (fun a => by kernel_rfl)
def y_xeb : YF := ⟨[], [.v (.l (.st 0)), .v .i], [], .ret [.i], [.tmp 4],
 sq [qK 4 0] [0, 1] (.join [cv 1 .i] (sq [qK 5 0] (Kp 35) (bl 0 [cv 1 .i, cv 5 .i] (.seq (sw 6 [wM, wm 0, wZ, wB .lss 6] (Kp 547) (ce 9 (Kp 35) [1] 0)) (.seq (.block 1 (.seq (sw 12 [wm 0, wm 5, wE (.st 0) 12, wO 0, wL, wm 1, wB .neq 16] (Kp 262179) (cn 18 (Kp 35) (sq [qK 4 (-1)] [4] .ret))) (sr [wn 19 [wm 1, wI .add 1],
 qn [qa 1 20]] (Kp 35) (.seq (sw 21 [wm 0, wm 5, wE (.st 0) 21, wO 1, wL, wm 1, wB .neq 25] [0, 1, 5, 27] (cn 27 (Kp 35) (sq [qK 4 (-1)] [4] .ret))) (sr [wn 28 [wm 1, wI .add 1],
 qn [qa 1 29]] (Kp 35) (.seq (sw 30 [wm 0, wm 5, wE (.st 0) 30, wO 2, wL, wm 1, wB .neq 34] [0, 1, 5, 36] (cn 36 (Kp 35) (sq [qK 4 (-1)] [4] .ret))) (sr [wn 37 [wm 1, wI .add 1],
 qn [qa 1 38]] (Kp 35) (.seq (sw 39 [wm 0, wm 5, wE (.st 0) 39, wO 3, wL, wm 1, wB .neq 43] [0, 1, 5, 45] (cn 45 (Kp 35) (sq [qK 4 (-1)] [4] .ret))) (sr [wn 46 [wm 1, wI .add 1],
 qn [qa 1 47]] (Kp 35) (.seq (sw 48 [wm 0, wm 5, wE (.st 0) 48, wO 4, wL, wm 1, wB .neq 52] [0, 1, 5, 54] (cn 54 (Kp 35) (sq [qK 4 (-1)] [4] .ret))) (sr [wn 55 [wm 1, wI .add 1],
 qn [qa 1 56]] (Kp 35) (.seq (sw 57 [wm 0, wm 5, wE (.st 0) 57, wO 5, wL, wm 1, wB .neq 61] [0, 1, 5, 63] (cn 63 (Kp 35) (sq [qK 4 (-1)] [4] .ret))) (qr [wn 64 [wm 1, wI .add 1],
 qn [qa 1 65]] (Kp 35)))))))))))))) (qr [wn 10 [wm 5, wI .add 1],
 qn [qa 5 11]] (Kp 35)))))) (sq [qm 66 1, qa 4 66] [4] .ret))⟩
def d_xeb_j2 (v10 : Int) : Option Int :=
 some v10
def d_xeb_l1 (p0 : (List GReq)) (L1 : (Int × Int) → Option Int) (x_ : (Int × Int)) : Option Int :=
 match x_ with
 | (v2, v3) => br (decide (v3 < (↑p0.length : Int)))
  (bd (at? p0 v3) fun x4 =>
  br (x4.Kind != v2)
   (some (-1))
   (bd (at? p0 v3) fun x5 =>
   br (x5.Id != w64 (v2 + 1))
    (some (-1))
    (bd (at? p0 v3) fun x6 =>
    br (x6.Cabin != w64 (w64 (v2 + 1) + 1))
     (some (-1))
     (bd (at? p0 v3) fun x7 =>
     br (x7.From != w64 (w64 (w64 (v2 + 1) + 1) + 1))
      (some (-1))
      (bd (at? p0 v3) fun x8 =>
      br (x8.Size != w64 (w64 (w64 (w64 (v2 + 1) + 1) + 1) + 1))
       (some (-1))
       (bd (at? p0 v3) fun x9 =>
       br (x9.Tier != w64 (w64 (w64 (w64 (w64 (v2 + 1) + 1) + 1) + 1) + 1))
        (some (-1))
        (L1 ((w64 (w64 (w64 (w64 (w64 (w64 (v2 + 1) + 1) + 1) + 1) + 1) + 1), w64 (v3 + 1))))))))))
  (jn (d_xeb_j2) v2)
def d_xeb (p0 : (List GReq)) (p1 : Int) : Option Int :=
 loopN (d_xeb_l1 p0) big (p1, 0)
def gf_xeb : GF := y_xeb.gf rfl rfl (fun a => d_xeb a.1 a.2.1) (fun a => by kernel_rfl)
def y_xec : YF := ⟨[], [.v (.st 11), .v .i], [], .ret [.i], [.tmp 4],
 sq [qu 2 0, qK 4 0] [1, 2] (sr [wn 5 [wo 0 2, wK 15, wm 1, wc gf_xea rfl [6, 7]],
 qn [qa 1 8]] [1, 2] (.seq (sw 9 [wm 1, wI .lss 0] (Kp 1030) (cn 10 [1, 2] (sq [qK 4 (-1)] [4] .ret))) (sr [wn 11 [wo 22 2, wL, wm 1, wc gf_xeb rfl [12, 13]],
 qn [qa 1 14]] [1] (.seq (sw 15 [wm 1, wI .lss 0] [1, 16] (cn 16 [1] (sq [qK 4 (-1)] [4] .ret))) (sq [qm 17 1, qa 4 17] [4] .ret)))))⟩
def d_xec (p0 : GEngine) (p1 : Int) : Option Int :=
 bd (d_xea p0.House p1) fun x1 =>
 br (decide (x1 < 0))
  (some (-1))
  (bd (d_xeb p0.Laid x1) fun x2 =>
  br (decide (x2 < 0))
   (some (-1))
   (some x2))
def gf_xec : GF := y_xec.gf rfl rfl (fun a => d_xec a.1 a.2.1) (fun a => by kernel_rfl)
def y_laws_FnExactEngineNew : YF := ⟨[], [.v (.st 1)], [], .ret [.b], [.tmp 2],
 sq [qu 1 0, qB 2 false] [1] (sq [qK 3 1048576] [1, 3] (sr [wn 14 [wk 9 1, wm 3, wc gf_xb rfl [14, 15]],
 qn [qa 3 16]] [1, 3] (.seq (sw 17 [wm 3, wI .lss 0] [1, 18] (cn 18 [1] (sq [qB 2 true] [2] .ret))) (sr [wn 20 [wk 9 1, wY gf_xd rfl, wY gf_xdt rfl],
 qn [qm 19 22],
 wn 23 [wh (.ext · (.tmp 19) 0), wh (.ext · (.tmp 19) 1)],
 qn [.alloc 4 zGEngine, .nils [(.cell 4 0, .i), (.cell 4 11, (.st 2)), (.cell 4 12, (.st 7)), (.cell 4 13, .i), (.cell 4 14, .i), (.cell 4 22, (.st 0))], qw 23 4 23, qa 5 24]] (Kp 50) (sr [wn 25 [wk 9 1, wY gf_xd rfl],
 qn [.alloc 6 zGRules, .nils [(.cell 6 0, .i)], qw 9 6 26]] (Kp 114) (sr [wn 28 [wk 9 6, wY gf_xd1 rfl],
 qn [qm 27 29],
 wn 30 [wh (.ext · (.tmp 27) 0), wh (.ext · (.tmp 27) 1)],
 qn [.alloc 7 zGEngine, .nils [(.cell 7 0, .i), (.cell 7 11, (.st 2)), (.cell 7 12, (.st 7)), (.cell 7 13, .i), (.cell 7 14, .i), (.cell 7 22, (.st 0))], qw 23 7 30, qa 8 31]] (Kp 498) (.seq (.join [cv 40 .b] (qr [wn 32 [wk 23 7, wk 23 4, wc gf_xcy rfl [32, 33], wX, wM],
 wf 36 37 [wm 8, wm 5, wh (.bin · .bool .neq (.tmp 37) (.tmp 38))],
 qn [qp 40 36 39]] (Kp 1099511628274)) (cn 40 (Kp 498) (sq [qB 2 false] [2] .ret))) (.seq (.seq (.dreg (qd 0 [wn 41 [wk 9 6, wk 9 1]] (.op 2 none [6] (.call 43 gf_xd [] rfl [(.tmp 42)])
 (qd 3 [wn 44 [wc gf_xch rfl [41, 43], wX]] .nil))) [1, 4, 5, 6, 7, 8, 45]) (cn 45 (Kp 498) (sq [qB 2 false] [2] .ret))) (sq [qK 9 1] (Kp 1010) (sr [wn 46 [wk 9 6, wm 9, wc gf_xdg rfl [46, 47]],
 qn [qa 9 48]] (Kp 946) (.seq (.join [cv 61 .b] (qr [wn 49 [wm 9, wI .lss 0, wM],
 wf 51 52 [wk 23 7, wk 23 4, wc gf_xcy rfl [52, 53], wX],
 wn 56 [wR 51, wM],
 wf 57 58 [wm 8, wm 5, wh (.bin · .bool .neq (.tmp 58) (.tmp 59))],
 qn [qp 61 57 60]] [1, 4, 5, 7, 61]) (cn 61 (Kp 178) (sq [qB 2 false] [2] .ret))) (sq [qK 10 1] (Kp 1202) (sr [wn 62 [wk 23 7, wm 10, wc gf_xd3 rfl [62, 63]],
 qn [qa 10 64]] (Kp 1202) (sq [qK 11 1] (Kp 3250) (sr [wn 65 [wk 23 7, wm 11, wc gf_xec rfl [65, 66]],
 qn [qa 11 67]] (Kp 3250) (.seq (sw 68 [wm 11, wI .lss 0] [1, 4, 5, 7, 10, 11, 69] (cn 69 (Kp 3250) (sq [qB 2 false] [2] .ret))) (.seq (sw 70 [wm 11, wm 10, wB .neq 70] [1, 4, 5, 7, 10, 72] (cn 72 (Kp 1202) (sq [qB 2 false] [2] .ret))) (sr [wn 74 [wk 9 1, wY gf_xd rfl, wY gf_xd1 rfl],
 qn [qm 73 76],
 wn 77 [wh (.ext · (.tmp 73) 0), wh (.ext · (.tmp 73) 1)],
 qn [.alloc 12 zGEngine, .nils [(.cell 12 0, .i), (.cell 12 11, (.st 2)), (.cell 12 12, (.st 7)), (.cell 12 13, .i), (.cell 12 14, .i), (.cell 12 22, (.st 0))], qw 23 12 77, qa 13 78]] (Kp 13488) (.seq (.join [cv 87 .b] (qr [wn 79 [wk 23 12, wk 23 4, wc gf_xcy rfl [79, 80], wX, wM],
 wf 83 84 [wm 13, wm 5, wh (.bin · .bool .neq (.tmp 84) (.tmp 85))],
 qn [qp 87 83 86]] [7, 10, 87]) (cn 87 [7, 10] (sq [qB 2 false] [2] .ret))) (sq [qK 11 1] (Kp 3200) (sr [wn 88 [wk 23 7, wm 11, wc gf_xec rfl [88, 89]],
 qn [qa 11 90]] [10, 11] (.seq (sw 91 [wm 11, wI .lss 0] [10, 11, 92] (cn 92 [10, 11] (sq [qB 2 false] [2] .ret))) (.seq (sw 93 [wm 11, wm 10, wB .neq 93] [95] (cn 95 [] (sq [qB 2 false] [2] .ret))) (sq [qB 2 true] [2] .ret))))))))))))))))))))))))⟩
def d_laws_FnExactEngineNew_j3 (x5 : (GEngine × Bool)) (x12 : (Int × GEngine)) (v17 : Bool) : Option Bool :=
 br v17
  (some false)
  (bd (d_xec (GEngine.mk (GHouse.mk (GRules.mk x12.snd.House.Rules.Seats x5.fst.House.Rules.Tiers x5.fst.House.Rules.Room x5.fst.House.Rules.Size x5.fst.House.Rules.Period x5.fst.House.Rules.Window x5.fst.House.Rules.Rest x5.fst.House.Rules.Tries x5.fst.House.Rules.Crew) x5.fst.House.Now x5.fst.House.Turn x12.snd.House.Parties x12.snd.House.Cabins x12.snd.House.Todo x12.snd.House.Jobs) x5.fst.Store x5.fst.Seq x12.snd.Laid) 1) fun x18 =>
  br (decide (x18 < 0))
   (some false)
   (br (x18 != x12.fst)
    (some false)
    (some true)))
def d_laws_FnExactEngineNew_j2 (p0 : GRules) (x3 : (GEngine × Bool)) (x5 : (GEngine × Bool)) (v11 : Bool) : Option Bool :=
 br v11
  (some false)
  (bd (d_xd3 x5.fst 1) fun x12 =>
  bd (d_xec (GEngine.mk (GHouse.mk (GRules.mk x12.snd.House.Rules.Seats x5.fst.House.Rules.Tiers x5.fst.House.Rules.Room x5.fst.House.Rules.Size x5.fst.House.Rules.Period x5.fst.House.Rules.Window x5.fst.House.Rules.Rest x5.fst.House.Rules.Tries x5.fst.House.Rules.Crew) x5.fst.House.Now x5.fst.House.Turn x12.snd.House.Parties x12.snd.House.Cabins x12.snd.House.Todo x12.snd.House.Jobs) x5.fst.Store x5.fst.Seq x12.snd.Laid) 1) fun x13 =>
  br (decide (x13 < 0))
   (some false)
   (br (x13 != x12.fst)
    (some false)
    (bd (d_xd p0) fun x14 =>
    bd (d_xd1 x14) fun x15 =>
    bd (d_xcy x15.fst x3.fst) fun x16 =>
    br (!x16)
     (jn (d_laws_FnExactEngineNew_j3 x5 x12) true)
     (jn (d_laws_FnExactEngineNew_j3 x5 x12) (!x15.snd == x3.snd)))))
def d_laws_FnExactEngineNew_j1 (p0 : GRules) (x3 : (GEngine × Bool)) (x4 : GRules) (x5 : (GEngine × Bool)) (v7 : Bool) : Option Bool :=
 br v7
  (some false)
  (bd (d_xd p0) fun x8 =>
  bd (d_xch x4 x8) fun x9 =>
  br (!x9)
   (some false)
   (bd (d_xdg x4 1) fun x10 =>
   br (decide (x10.fst < 0))
    (jn (d_laws_FnExactEngineNew_j2 p0 x3 x5) true)
    (bd (d_xcy x5.fst x3.fst) fun x19 =>
    br (!x19)
     (jn (d_laws_FnExactEngineNew_j2 p0 x3 x5) true)
     (jn (d_laws_FnExactEngineNew_j2 p0 x3 x5) (!x5.snd == x3.snd)))))
def d_laws_FnExactEngineNew (p0 : GRules) : Option Bool :=
 bd (d_xb p0 1048576) fun x1 =>
 br (decide (x1 < 0))
  (some true)
  (bd (d_xd p0) fun x2 =>
  bd (d_xdt x2) fun x3 =>
  bd (d_xd p0) fun x4 =>
  bd (d_xd1 x4) fun x5 =>
  bd (d_xcy x5.fst x3.fst) fun x6 =>
  br (!x6)
   (jn (d_laws_FnExactEngineNew_j1 p0 x3 x4 x5) true)
   (jn (d_laws_FnExactEngineNew_j1 p0 x3 x4 x5) (!x5.snd == x3.snd)))
def gf_laws_FnExactEngineNew : GF := y_laws_FnExactEngineNew.gf rfl rfl (fun a => d_laws_FnExactEngineNew a.1) (fun a => by kernel_rfl)
def y_xed : YF := ⟨[], [.v (.st 1)], [], .ret [(.st 13), .b], [.cell 2 (some 26), .tmp 3],
 sq [qu 1 0, .alloc 2 zGWorld, .nils [(.cell 2 0, .i), (.cell 2 11, (.st 2)), (.cell 2 12, (.st 7)), (.cell 2 13, .i), (.cell 2 14, .i), (.cell 2 22, (.st 0)), (.cell 2 23, (.st 0)), (.cell 2 24, (.st 12))], qB 3 false] [1, 2] (sr [wn 7 [wk 9 1, wY gf_xdt rfl],
 qn [qm 6 8],
 wn 9 [wh (.ext · (.tmp 6) 0), wh (.ext · (.tmp 6) 1)],
 qn [.alloc 4 zGEngine, .nils [(.cell 4 0, .i), (.cell 4 11, (.st 2)), (.cell 4 12, (.st 7)), (.cell 4 13, .i), (.cell 4 14, .i), (.cell 4 22, (.st 0))], qw 23 4 9, qa 5 10]] (Kp 52) (.seq (sw 11 [wm 5, wX] (Kp 4116) (.cond 12 [2] [2, 4] (sq [.build 13 zGWorld [], .nils [(.tmp 13 0, .i), (.tmp 13 11, (.st 2)), (.tmp 13 12, (.st 7)), (.tmp 13 13, .i), (.tmp 13 14, .i), (.tmp 13 22, (.st 0)), (.tmp 13 23, (.st 0)), (.tmp 13 24, (.st 12))], qw 26 2 13, qB 3 false] [2, 3] .ret) .skip)) (sr [wn 14 [wk 23 4, wh (.build · zGWorld [(0, 23, (.tmp 14))])],
 qn [.nils [(.tmp 15 23, (.st 0)), (.tmp 15 24, (.st 12))], qw 26 2 15, qB 3 true]] [2, 3] .ret)))⟩
def d_xed (p0 : GRules) : Option (GWorld × Bool) :=
 bd (d_xdt p0) fun x1 =>
 br (!x1.snd)
  (some ((GWorld.mk (GEngine.mk (GHouse.mk (GRules.mk [] 0 0 0 0 0 0 0 0) 0 0 [] [] [] []) (GStore.mk (GArea.mk [] 0) (GArea.mk [] 0) (GArea.mk [] 0)) 0 []) [] [] 0, false)))
  (some (GWorld.mk x1.fst [] [] 0, true))
def gf_xed : GF := y_xed.gf rfl rfl (fun a => d_xed a.1) (fun a => by kernel_rfl)
def y_xee : YF := ⟨[], [.v (.st 1)], [], .ret [(.st 13), .b], [.cell 2 (some 26), .tmp 3],
 sq [qu 1 0, .alloc 2 zGWorld, .nils [(.cell 2 0, .i), (.cell 2 11, (.st 2)), (.cell 2 12, (.st 7)), (.cell 2 13, .i), (.cell 2 14, .i), (.cell 2 22, (.st 0)), (.cell 2 23, (.st 0)), (.cell 2 24, (.st 12))], qB 3 false] [1, 2] (sr [wn 7 [wk 9 1, wY gf_xd1 rfl],
 qn [qm 6 8],
 wn 9 [wh (.ext · (.tmp 6) 0), wh (.ext · (.tmp 6) 1)],
 qn [.alloc 4 zGEngine, .nils [(.cell 4 0, .i), (.cell 4 11, (.st 2)), (.cell 4 12, (.st 7)), (.cell 4 13, .i), (.cell 4 14, .i), (.cell 4 22, (.st 0))], qw 23 4 9, qa 5 10]] (Kp 52) (.seq (sw 11 [wm 5, wX] (Kp 4116) (.cond 12 [2] [2, 4] (sq [.build 13 zGWorld [], .nils [(.tmp 13 0, .i), (.tmp 13 11, (.st 2)), (.tmp 13 12, (.st 7)), (.tmp 13 13, .i), (.tmp 13 14, .i), (.tmp 13 22, (.st 0)), (.tmp 13 23, (.st 0)), (.tmp 13 24, (.st 12))], qw 26 2 13, qB 3 false] [2, 3] .ret) .skip)) (sr [wn 14 [wk 23 4, wh (.build · zGWorld [(0, 23, (.tmp 14))])],
 qn [.nils [(.tmp 15 23, (.st 0)), (.tmp 15 24, (.st 12))], qw 26 2 15, qB 3 true]] [2, 3] .ret)))⟩
def d_xee (p0 : GRules) : Option (GWorld × Bool) :=
 bd (d_xd1 p0) fun x1 =>
 br (!x1.snd)
  (some ((GWorld.mk (GEngine.mk (GHouse.mk (GRules.mk [] 0 0 0 0 0 0 0 0) 0 0 [] [] [] []) (GStore.mk (GArea.mk [] 0) (GArea.mk [] 0) (GArea.mk [] 0)) 0 []) [] [] 0, false)))
  (some (GWorld.mk x1.fst [] [] 0, true))
def gf_xee : GF := y_xee.gf rfl rfl (fun a => d_xee a.1) (fun a => by kernel_rfl)
def y_xef : YF := ⟨[], [.v (.st 12), .v (.st 12)], [], .ret [.b], [.tmp 4],
 sq [qu 2 0, qu 3 1, qB 4 false] [2, 3] (.seq (sw 5 [wo 0 2, wL, wo 0 3, wL, wB .neq 6] (Kp 524) (cn 9 [2, 3] (sq [qB 4 false] [4] .ret))) (.seq (sw 10 [wo 1 2, wL, wo 1 3, wL, wc gf_xcg rfl [11, 13], wX] [15] (cn 15 [] (sq [qB 4 false] [4] .ret))) (sq [qB 4 true] [4] .ret)))⟩
def d_xef (p0 : GReply) (p1 : GReply) : Option Bool :=
 br (p0.Code != p1.Code)
  (some false)
  (bd (d_xcg p0.Ids p1.Ids) fun x1 =>
  br (!x1)
   (some false)
   (some true))
def gf_xef : GF := y_xef.gf rfl rfl (fun a => d_xef a.1 a.2.1) (fun a => by kernel_rfl)
def y_xeg : YF := ⟨[], [.v (.l (.st 12)), .v (.l (.st 12))], [], .ret [.b], [.tmp 4],
 sq [qB 4 false] [0, 1] (.seq (sw 6 [wm 0, wZ, wm 1, wZ, wB .neq 7] (Kp 1027) (cn 10 [0, 1] (sq [qB 4 false] [4] .ret))) (.join [] (sq [qK 5 0] (Kp 35) (bl 0 [cv 5 .i] (.seq (sw 11 [wm 5, wm 0, wZ, wB .lss 11] (Kp 16419) (ce 14 (Kp 35) [] 0)) (.seq (.block 1 (.seq (.dreg (qd 0 [wn 17 [wm 0, wm 5, wE (.st 12) 17, wK 2, wm 1, wm 5, wE (.st 12) 21, wK 2, wc gf_xef rfl [20, 24], wX]] .nil) [0, 1, 5, 26]) (cn 26 (Kp 35) (sq [qB 4 false] [4] .ret)))) (qr [wn 15 [wm 5, wI .add 1],
 qn [qa 5 16]] (Kp 35)))))) (sq [qB 4 true] [4] .ret)))⟩
def d_xeg_j2 (_ : PUnit) : Option Bool :=
 some true
def d_xeg_l1 (p0 : (List GReply)) (p1 : (List GReply)) (L1 : Int → Option Bool) (v2 : Int) : Option Bool :=
 br (decide (v2 < (↑p0.length : Int)))
  (bd (at? p0 v2) fun x3 =>
  bd (at? p1 v2) fun x4 =>
  bd (d_xef x3 x4) fun x5 =>
  br (!x5)
   (some false)
   (L1 (w64 (v2 + 1))))
  (jn (d_xeg_j2) ())
def d_xeg (p0 : (List GReply)) (p1 : (List GReply)) : Option Bool :=
 br ((↑p0.length : Int) != (↑p1.length : Int))
  (some false)
  (loopN (d_xeg_l1 p0 p1) big 0)
def gf_xeg : GF := y_xeg.gf rfl rfl (fun a => d_xeg a.1 a.2.1) (fun a => by kernel_rfl)
def y_xeh : YF := ⟨[], [.v (.st 13), .v (.st 13)], [], .ret [.b], [.tmp 4],
 sq [qu 2 0, qu 3 1, qB 4 false] [2, 3] (.seq (sw 5 [wo 0 2, wK 23, wo 0 3, wK 23, wc gf_xcy rfl [6, 8], wX] (Kp 1036) (cn 10 [2, 3] (sq [qB 4 false] [4] .ret))) (.seq (sw 11 [wo 23 2, wL, wo 23 3, wL, wc gf_xcx rfl [12, 14], wX] [2, 3, 16] (cn 16 [2, 3] (sq [qB 4 false] [4] .ret))) (.seq (sw 17 [wo 24 2, wL, wo 24 3, wL, wc gf_xeg rfl [18, 20], wX] [2, 3, 22] (cn 22 [2, 3] (sq [qB 4 false] [4] .ret))) (.seq (sw 23 [wo 25 2, wL, wo 25 3, wL, wB .neq 24] [27] (cn 27 [] (sq [qB 4 false] [4] .ret))) (sq [qB 4 true] [4] .ret)))))⟩
def d_xeh (p0 : GWorld) (p1 : GWorld) : Option Bool :=
 bd (d_xcy p0.Engine p1.Engine) fun x1 =>
 br (!x1)
  (some false)
  (bd (d_xcx p0.Done p1.Done) fun x2 =>
  br (!x2)
   (some false)
   (bd (d_xeg p0.Replies p1.Replies) fun x3 =>
   br (!x3)
    (some false)
    (br (p0.Falls != p1.Falls)
     (some false)
     (some true))))
def gf_xeh : GF := y_xeh.gf rfl rfl (fun a => d_xeh a.1 a.2.1) (fun a => by kernel_rfl)
def y_xei : YF := ⟨[], [.m (.l (.st 12)), .v .i], [], .ret [.i], [.tmp 4],
 sq [qK 4 0] [0, 1] (.join [cv 0 (.l (.st 12)), cv 1 .i] (sq [qK 5 0] (Kp 35) (bl 0 [cv 0 (.l (.st 12)), cv 1 .i, cv 5 .i] (.seq (sw 6 [wM, wm 0, wZ, wB .lss 6] (Kp 547) (ce 9 (Kp 35) [0, 1] 0)) (.seq (.block 1 (.join [cv 0 (.l (.st 12)), cv 1 .i, cv 5 .i] (qr [wn 12 [wm 0, wm 5, wm 1, we (.st 12) 12 13, wO 0],
 qn [qw 1 16 14]] (Kp 35)) (sr [wn 17 [wm 1, wI .add 1],
 qn [qa 1 18]] (Kp 35) (qr [wn 19 [wm 0, wm 5, wE (.st 12) 19, wO 1, wL, wm 1, wc gf_xdf rfl [23, 24]],
 qn [qa 1 25]] (Kp 35))))) (qr [wn 10 [wm 5, wI .add 1],
 qn [qa 5 11]] (Kp 35)))))) (sq [qm 26 1, qa 4 26] [0, 4] .ret))⟩
def d_xei_j2 (L1 : ((List GReply) × Int × Int) → Option (Int × (List GReply))) (x_ : ((List GReply) × Int × Int)) : Option (Int × (List GReply)) :=
 match x_ with
 | (v7, v8, v9) => bd (at? v7 v9) fun x10 =>
 bd (at? v7 v9) fun x11 =>
 bd (d_xdf x11.Ids (w64 (v8 + 1))) fun x12 =>
 gd (v9.toNat = v9.toNat) (
 bd (v7[v9.toNat]?) fun x13 =>
 L1 ((List.set v7 v9.toNat (GReply.mk x13.Code x12.snd), x12.fst, w64 (v9 + 1))))
def d_xei_j3 (x_ : ((List GReply) × Int)) : Option (Int × (List GReply)) :=
 match x_ with
 | (v14, v15) => some (v15, v14)
def d_xei_l1 (L1 : ((List GReply) × Int × Int) → Option (Int × (List GReply))) (x_ : ((List GReply) × Int × Int)) : Option (Int × (List GReply)) :=
 match x_ with
 | (v2, v3, v4) => br (decide (v4 < (↑(List.length v2) : Int)))
  (bd (at? v2 v4) fun x5 =>
  bd (at? v2 v4) fun x6 =>
  jn (d_xei_j2 L1) ((List.set v2 v4.toNat (GReply.mk v3 x6.Ids), v3, v4)))
  (jn (d_xei_j3) (v2, v3))
def d_xei (p0 : (List GReply)) (p1 : Int) : Option (Int × (List GReply)) :=
 loopN (d_xei_l1) big (p0, p1, 0)
def gf_xei : GF := y_xei.gf rfl rfl (fun a => d_xei a.1 a.2.1) (fun a => by kernel_rfl)
def y_xej : YF := ⟨[], [.m (.st 13), .v .i], [], .ret [.i], [.tmp 4],
 sq [qu 2 0, qK 4 0] (Kp 7) (sr [wn 5 [wo 0 2, wK 23, wm 1, wc gf_xd3 rfl [6, 7]],
 qn [qa 1 8]] (Kp 7) (sr [wn 9 [wo 23 2, wL, wm 1, wc gf_xd2 rfl [10, 11]],
 qn [qa 1 12]] (Kp 7) (sr [wn 13 [wo 24 2, wL, wm 1, wc gf_xei rfl [14, 15]],
 qn [qa 1 16]] [0, 1] (sq [qm 17 1, qa 4 17] [0, 4] .ret))))⟩
def d_xej (p0 : GWorld) (p1 : Int) : Option (Int × GWorld) :=
 bd (d_xd3 p0.Engine p1) fun x1 =>
 bd (d_xd2 p0.Done x1.fst) fun x2 =>
 bd (d_xei p0.Replies x2.fst) fun x3 =>
 some ((x3.fst, GWorld.mk (GEngine.mk (GHouse.mk (GRules.mk x1.snd.House.Rules.Seats p0.Engine.House.Rules.Tiers p0.Engine.House.Rules.Room p0.Engine.House.Rules.Size p0.Engine.House.Rules.Period p0.Engine.House.Rules.Window p0.Engine.House.Rules.Rest p0.Engine.House.Rules.Tries p0.Engine.House.Rules.Crew) p0.Engine.House.Now p0.Engine.House.Turn x1.snd.House.Parties x1.snd.House.Cabins x1.snd.House.Todo x1.snd.House.Jobs) p0.Engine.Store p0.Engine.Seq x1.snd.Laid) x2.snd x3.snd p0.Falls))
def gf_xej : GF := y_xej.gf rfl rfl (fun a => d_xej a.1 a.2.1) (fun a => by kernel_rfl)
def y_xek : YF := ⟨[], [.v (.l (.st 12)), .v .i], [], .ret [.i], [.tmp 4],
 sq [qK 4 0] [0, 1] (.join [cv 1 .i] (sq [qK 5 0] (Kp 35) (bl 0 [cv 1 .i, cv 5 .i] (.seq (sw 6 [wM, wm 0, wZ, wB .lss 6] (Kp 547) (ce 9 (Kp 35) [1] 0)) (.seq (.block 1 (.seq (sw 12 [wm 0, wm 5, wE (.st 12) 12, wO 0, wL, wm 1, wB .neq 16] (Kp 262179) (cn 18 (Kp 35) (sq [qK 4 (-1)] [4] .ret))) (sr [wn 19 [wm 1, wI .add 1],
 qn [qa 1 20]] (Kp 35) (sr [wn 21 [wm 0, wm 5, wE (.st 12) 21, wO 1, wL, wm 1, wc gf_xdn rfl [25, 26]],
 qn [qa 1 27]] (Kp 35) (sw 28 [wm 1, wI .lss 0] [0, 1, 5, 29] (cn 29 (Kp 35) (sq [qK 4 (-1)] [4] .ret))))))) (qr [wn 10 [wm 5, wI .add 1],
 qn [qa 5 11]] (Kp 35)))))) (sq [qm 30 1, qa 4 30] [4] .ret))⟩
def d_xek_j2 (v7 : Int) : Option Int :=
 some v7
def d_xek_l1 (p0 : (List GReply)) (L1 : (Int × Int) → Option Int) (x_ : (Int × Int)) : Option Int :=
 match x_ with
 | (v2, v3) => br (decide (v3 < (↑p0.length : Int)))
  (bd (at? p0 v3) fun x4 =>
  br (x4.Code != v2)
   (some (-1))
   (bd (at? p0 v3) fun x5 =>
   bd (d_xdn x5.Ids (w64 (v2 + 1))) fun x6 =>
   br (decide (x6 < 0))
    (some (-1))
    (L1 ((x6, w64 (v3 + 1))))))
  (jn (d_xek_j2) v2)
def d_xek (p0 : (List GReply)) (p1 : Int) : Option Int :=
 loopN (d_xek_l1 p0) big (p1, 0)
def gf_xek : GF := y_xek.gf rfl rfl (fun a => d_xek a.1 a.2.1) (fun a => by kernel_rfl)
end
end Lv
/-
 Printed: functions of the program as texts of the typed machine, as plain functions, and that the one is the other.
-/
set_option linter.unusedVariables false
set_option maxRecDepth 100000
namespace Lv
open Go (IntKind BinOp UnOp)
noncomputable section
open Y (YF qn qf qt qr q1 qd qm qa qo ql qL qb qi qx qp qq qc qz qe qk qK qB qw qu qj Kp wn wf wt w1 sw sq sr wm wM wo wO wl wL wk wK wz wZ wx wX wb wB wi wI wr wR wq wQ we wE wc wY wj wh cv ca cx cn ce bl)
def y_xel : YF := ⟨[], [.v (.st 13), .v .i], [], .ret [.i], [.tmp 4],
 sq [qu 2 0, qK 4 0] [1, 2] (sr [wn 5 [wo 0 2, wK 23, wm 1, wc gf_xec rfl [6, 7]],
 qn [qa 1 8]] [1, 2] (.seq (sw 9 [wm 1, wI .lss 0] (Kp 1030) (cn 10 [1, 2] (sq [qK 4 (-1)] [4] .ret))) (sr [wn 11 [wo 23 2, wL, wm 1, wc gf_xeb rfl [12, 13]],
 qn [qa 1 14]] [1, 2] (.seq (sw 15 [wm 1, wI .lss 0] [1, 2, 16] (cn 16 [1, 2] (sq [qK 4 (-1)] [4] .ret))) (sr [wn 17 [wo 24 2, wL, wm 1, wc gf_xek rfl [18, 19]],
 qn [qa 1 20]] [1] (.seq (sw 21 [wm 1, wI .lss 0] [1, 22] (cn 22 [1] (sq [qK 4 (-1)] [4] .ret))) (sq [qm 23 1, qa 4 23] [4] .ret)))))))⟩
def d_xel (p0 : GWorld) (p1 : Int) : Option Int :=
 bd (d_xec p0.Engine p1) fun x1 =>
 br (decide (x1 < 0))
  (some (-1))
  (bd (d_xeb p0.Done x1) fun x2 =>
  br (decide (x2 < 0))
   (some (-1))
   (bd (d_xek p0.Replies x2) fun x3 =>
   br (decide (x3 < 0))
    (some (-1))
    (some x3)))
def gf_xel : GF := y_xel.gf rfl rfl (fun a => d_xel a.1 a.2.1) (fun a => by kernel_rfl)
def y_laws_FnExactWorldNew : YF := ⟨[], [.v (.st 1)], [], .ret [.b], [.tmp 2],
 sq [qu 1 0, qB 2 false] [1] (sq [qK 3 1048576] [1, 3] (sr [wn 14 [wk 9 1, wm 3, wc gf_xb rfl [14, 15]],
 qn [qa 3 16]] [1, 3] (.seq (sw 17 [wm 3, wI .lss 0] [1, 18] (cn 18 [1] (sq [qB 2 true] [2] .ret))) (sr [wn 20 [wk 9 1, wY gf_xd rfl, wY gf_xed rfl],
 qn [qm 19 22],
 wn 23 [wh (.ext · (.tmp 19) 0), wh (.ext · (.tmp 19) 1)],
 qn [.alloc 4 zGWorld, .nils [(.cell 4 0, .i), (.cell 4 11, (.st 2)), (.cell 4 12, (.st 7)), (.cell 4 13, .i), (.cell 4 14, .i), (.cell 4 22, (.st 0)), (.cell 4 23, (.st 0)), (.cell 4 24, (.st 12))], qw 26 4 23, qa 5 24]] (Kp 50) (sr [wn 25 [wk 9 1, wY gf_xd rfl],
 qn [.alloc 6 zGRules, .nils [(.cell 6 0, .i)], qw 9 6 26]] (Kp 114) (sr [wn 28 [wk 9 6, wY gf_xee rfl],
 qn [qm 27 29],
 wn 30 [wh (.ext · (.tmp 27) 0), wh (.ext · (.tmp 27) 1)],
 qn [.alloc 7 zGWorld, .nils [(.cell 7 0, .i), (.cell 7 11, (.st 2)), (.cell 7 12, (.st 7)), (.cell 7 13, .i), (.cell 7 14, .i), (.cell 7 22, (.st 0)), (.cell 7 23, (.st 0)), (.cell 7 24, (.st 12))], qw 26 7 30, qa 8 31]] (Kp 498) (.seq (.join [cv 40 .b] (qr [wn 32 [wk 26 7, wk 26 4, wc gf_xeh rfl [32, 33], wX, wM],
 wf 36 37 [wm 8, wm 5, wh (.bin · .bool .neq (.tmp 37) (.tmp 38))],
 qn [qp 40 36 39]] (Kp 1099511628274)) (cn 40 (Kp 498) (sq [qB 2 false] [2] .ret))) (.seq (.seq (.dreg (qd 0 [wn 41 [wk 9 6, wk 9 1]] (.op 2 none [6] (.call 43 gf_xd [] rfl [(.tmp 42)])
 (qd 3 [wn 44 [wc gf_xch rfl [41, 43], wX]] .nil))) [1, 4, 5, 6, 7, 8, 45]) (cn 45 (Kp 498) (sq [qB 2 false] [2] .ret))) (sq [qK 9 1] (Kp 1010) (sr [wn 46 [wk 9 6, wm 9, wc gf_xdg rfl [46, 47]],
 qn [qa 9 48]] (Kp 946) (.seq (.join [cv 61 .b] (qr [wn 49 [wm 9, wI .lss 0, wM],
 wf 51 52 [wk 26 7, wk 26 4, wc gf_xeh rfl [52, 53], wX],
 wn 56 [wR 51, wM],
 wf 57 58 [wm 8, wm 5, wh (.bin · .bool .neq (.tmp 58) (.tmp 59))],
 qn [qp 61 57 60]] [1, 4, 5, 7, 61]) (cn 61 (Kp 178) (sq [qB 2 false] [2] .ret))) (sq [qK 10 1] (Kp 1202) (sr [wn 62 [wk 26 7, wm 10, wc gf_xej rfl [62, 63]],
 qn [qa 10 64]] (Kp 1202) (sq [qK 11 1] (Kp 3250) (sr [wn 65 [wk 26 7, wm 11, wc gf_xel rfl [65, 66]],
 qn [qa 11 67]] (Kp 3250) (.seq (sw 68 [wm 11, wI .lss 0] [1, 4, 5, 7, 10, 11, 69] (cn 69 (Kp 3250) (sq [qB 2 false] [2] .ret))) (.seq (sw 70 [wm 11, wm 10, wB .neq 70] [1, 4, 5, 7, 10, 72] (cn 72 (Kp 1202) (sq [qB 2 false] [2] .ret))) (sr [wn 74 [wk 9 1, wY gf_xd rfl, wY gf_xee rfl],
 qn [qm 73 76],
 wn 77 [wh (.ext · (.tmp 73) 0), wh (.ext · (.tmp 73) 1)],
 qn [.alloc 12 zGWorld, .nils [(.cell 12 0, .i), (.cell 12 11, (.st 2)), (.cell 12 12, (.st 7)), (.cell 12 13, .i), (.cell 12 14, .i), (.cell 12 22, (.st 0)), (.cell 12 23, (.st 0)), (.cell 12 24, (.st 12))], qw 26 12 77, qa 13 78]] (Kp 13488) (.seq (.join [cv 87 .b] (qr [wn 79 [wk 26 12, wk 26 4, wc gf_xeh rfl [79, 80], wX, wM],
 wf 83 84 [wm 13, wm 5, wh (.bin · .bool .neq (.tmp 84) (.tmp 85))],
 qn [qp 87 83 86]] [7, 10, 87]) (cn 87 [7, 10] (sq [qB 2 false] [2] .ret))) (sq [qK 11 1] (Kp 3200) (sr [wn 88 [wk 26 7, wm 11, wc gf_xel rfl [88, 89]],
 qn [qa 11 90]] [10, 11] (.seq (sw 91 [wm 11, wI .lss 0] [10, 11, 92] (cn 92 [10, 11] (sq [qB 2 false] [2] .ret))) (.seq (sw 93 [wm 11, wm 10, wB .neq 93] [95] (cn 95 [] (sq [qB 2 false] [2] .ret))) (sq [qB 2 true] [2] .ret))))))))))))))))))))))))⟩
def d_laws_FnExactWorldNew_j3 (x5 : (GWorld × Bool)) (x12 : (Int × GWorld)) (v17 : Bool) : Option Bool :=
 br v17
  (some false)
  (bd (d_xel (GWorld.mk (GEngine.mk (GHouse.mk (GRules.mk x12.snd.Engine.House.Rules.Seats x5.fst.Engine.House.Rules.Tiers x5.fst.Engine.House.Rules.Room x5.fst.Engine.House.Rules.Size x5.fst.Engine.House.Rules.Period x5.fst.Engine.House.Rules.Window x5.fst.Engine.House.Rules.Rest x5.fst.Engine.House.Rules.Tries x5.fst.Engine.House.Rules.Crew) x5.fst.Engine.House.Now x5.fst.Engine.House.Turn x12.snd.Engine.House.Parties x12.snd.Engine.House.Cabins x12.snd.Engine.House.Todo x12.snd.Engine.House.Jobs) x5.fst.Engine.Store x5.fst.Engine.Seq x12.snd.Engine.Laid) x12.snd.Done x12.snd.Replies x5.fst.Falls) 1) fun x18 =>
  br (decide (x18 < 0))
   (some false)
   (br (x18 != x12.fst)
    (some false)
    (some true)))
def d_laws_FnExactWorldNew_j2 (p0 : GRules) (x3 : (GWorld × Bool)) (x5 : (GWorld × Bool)) (v11 : Bool) : Option Bool :=
 br v11
  (some false)
  (bd (d_xej x5.fst 1) fun x12 =>
  bd (d_xel (GWorld.mk (GEngine.mk (GHouse.mk (GRules.mk x12.snd.Engine.House.Rules.Seats x5.fst.Engine.House.Rules.Tiers x5.fst.Engine.House.Rules.Room x5.fst.Engine.House.Rules.Size x5.fst.Engine.House.Rules.Period x5.fst.Engine.House.Rules.Window x5.fst.Engine.House.Rules.Rest x5.fst.Engine.House.Rules.Tries x5.fst.Engine.House.Rules.Crew) x5.fst.Engine.House.Now x5.fst.Engine.House.Turn x12.snd.Engine.House.Parties x12.snd.Engine.House.Cabins x12.snd.Engine.House.Todo x12.snd.Engine.House.Jobs) x5.fst.Engine.Store x5.fst.Engine.Seq x12.snd.Engine.Laid) x12.snd.Done x12.snd.Replies x5.fst.Falls) 1) fun x13 =>
  br (decide (x13 < 0))
   (some false)
   (br (x13 != x12.fst)
    (some false)
    (bd (d_xd p0) fun x14 =>
    bd (d_xee x14) fun x15 =>
    bd (d_xeh x15.fst x3.fst) fun x16 =>
    br (!x16)
     (jn (d_laws_FnExactWorldNew_j3 x5 x12) true)
     (jn (d_laws_FnExactWorldNew_j3 x5 x12) (!x15.snd == x3.snd)))))
def d_laws_FnExactWorldNew_j1 (p0 : GRules) (x3 : (GWorld × Bool)) (x4 : GRules) (x5 : (GWorld × Bool)) (v7 : Bool) : Option Bool :=
 br v7
  (some false)
  (bd (d_xd p0) fun x8 =>
  bd (d_xch x4 x8) fun x9 =>
  br (!x9)
   (some false)
   (bd (d_xdg x4 1) fun x10 =>
   br (decide (x10.fst < 0))
    (jn (d_laws_FnExactWorldNew_j2 p0 x3 x5) true)
    (bd (d_xeh x5.fst x3.fst) fun x19 =>
    br (!x19)
     (jn (d_laws_FnExactWorldNew_j2 p0 x3 x5) true)
     (jn (d_laws_FnExactWorldNew_j2 p0 x3 x5) (!x5.snd == x3.snd)))))
def d_laws_FnExactWorldNew (p0 : GRules) : Option Bool :=
 bd (d_xb p0 1048576) fun x1 =>
 br (decide (x1 < 0))
  (some true)
  (bd (d_xd p0) fun x2 =>
  bd (d_xed x2) fun x3 =>
  bd (d_xd p0) fun x4 =>
  bd (d_xee x4) fun x5 =>
  bd (d_xeh x5.fst x3.fst) fun x6 =>
  br (!x6)
   (jn (d_laws_FnExactWorldNew_j1 p0 x3 x4 x5) true)
   (jn (d_laws_FnExactWorldNew_j1 p0 x3 x4 x5) (!x5.snd == x3.snd)))
def gf_laws_FnExactWorldNew : GF := y_laws_FnExactWorldNew.gf rfl rfl (fun a => d_laws_FnExactWorldNew a.1) (fun a => by kernel_rfl)
end
end Lv
