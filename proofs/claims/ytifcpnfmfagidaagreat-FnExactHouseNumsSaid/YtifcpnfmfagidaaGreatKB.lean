/-
  Printed: functions of the program as texts of the typed machine, as plain functions, and that the one is the other.
-/
import Derived.Test.YtifcpnfmfagidaaGreatKA
import Derived.KernelRfl
set_option linter.unusedVariables false
set_option linter.unusedSimpArgs false
set_option linter.unusedVariables false
set_option maxRecDepth 100000
namespace Lv
open Go (IntKind BinOp UnOp)
noncomputable section
open Y (YF qn qf qt qr q1 qd qm qa qo ql qL qb qi qx qp qq qc qz qe qk qK qB qw qu qj)
def y_xc8 : YF := ⟨[], [.v (.l (.l (.st 5))), .v (.l (.l (.st 5)))], [], .ret [.b], [.tmp 4],
 .seq (q1 [qB 4 false] [0, 1]) (.seq (.seq (q1 [qm 6 0, qz 7 6, qm 8 1, qz 9 8, qb 10 .neq 7 9] [0, 1, 10]) (.cond 10 [] [0, 1] (.seq (q1 [qB 4 false] [4]) (.ret)) (.skip))) (.join [] (.seq (q1 [qK 5 0] [0, 1, 5]) (.block 0 (.loop [(false, 5, .one, [.val .i none])] (.seq (.seq (q1 [qm 11 5, qm 12 0, qz 13 12, qb 14 .lss 11 13] [0, 1, 5, 14]) (.cond 14 [0, 1, 5] [] (.skip) (.exit 0))) (.seq (.block 1 (.seq (.dreg (qd 0 [qn [qm 17 0, qm 18 5, qe 19 (.l (.st 5)) 17 18, ql 20 19, qm 21 1, qm 22 5, qe 23 (.l (.st 5)) 21 22, ql 24 23, qc 25 gf_xc7 rfl [20, 24], qx 26 25]] .nil) [0, 1, 5, 26]) (.cond 26 [] [0, 1, 5] (.seq (q1 [qB 4 false] [4]) (.ret)) (.skip)))) (q1 [qm 15 5, qi 16 .add 15 1, qa 5 16] [0, 1, 5])))))) (.seq (q1 [qB 4 true] [4]) (.ret))))⟩
def d_xc8_j2 (_ : PUnit) : Option Bool :=
 some true
def d_xc8_l1 (p0 : (List (List GPin))) (p1 : (List (List GPin))) (L1 : Int → Option Bool) (v2 : Int) : Option Bool :=
 br (decide (v2 < (↑p0.length : Int)))
  (bd (at? p0 v2) fun x3 =>
  bd (at? p1 v2) fun x4 =>
  bd (d_xc7 x3 x4) fun x5 =>
  br (!x5)
   (some false)
   (L1 (w64 (v2 + 1))))
  (jn (d_xc8_j2) ())
def d_xc8 (p0 : (List (List GPin))) (p1 : (List (List GPin))) : Option Bool :=
 br ((↑p0.length : Int) != (↑p1.length : Int))
  (some false)
  (loopN (d_xc8_l1 p0 p1) big 0)
def gf_xc8 : GF := y_xc8.gf rfl rfl (fun a => d_xc8 a.1 a.2.1) (fun a => by kernel_rfl)
def y_xc9 : YF := ⟨[], [.v (.st 6), .v (.st 6)], [], .ret [.b], [.tmp 4],
 .seq (q1 [qu 2 0, qu 3 1, qB 4 false] [2, 3]) (.seq (.seq (q1 [qo 5 0 2, ql 6 5, qo 7 0 3, ql 8 7, qc 9 gf_xc8 rfl [6, 8], qx 10 9] [10]) (.cond 10 [] [] (.seq (q1 [qB 4 false] [4]) (.ret)) (.skip))) (.seq (q1 [qB 4 true] [4]) (.ret)))⟩
def d_xc9 (p0 : GWheel) (p1 : GWheel) : Option Bool :=
 bd (d_xc8 p0.Spoke p1.Spoke) fun x1 =>
 br (!x1)
  (some false)
  (some true)
def gf_xc9 : GF := y_xc9.gf rfl rfl (fun a => d_xc9 a.1 a.2.1) (fun a => by kernel_rfl)
def y_xda : YF := ⟨[], [.v (.st 7), .v (.st 7)], [], .ret [.b], [.tmp 4],
 .seq (q1 [qu 2 0, qu 3 1, qB 4 false] [2, 3]) (.seq (.seq (q1 [qo 5 0 2, qL 6 5 5, qo 7 0 3, qL 8 5 7, qc 9 gf_xc3 rfl [6, 8], qx 10 9] [2, 3, 10]) (.cond 10 [] [2, 3] (.seq (q1 [qB 4 false] [4]) (.ret)) (.skip))) (.seq (.seq (q1 [qo 11 5 2, ql 12 11, qo 13 5 3, ql 14 13, qc 15 gf_xc5 rfl [12, 14], qx 16 15] [2, 3, 16]) (.cond 16 [] [2, 3] (.seq (q1 [qB 4 false] [4]) (.ret)) (.skip))) (.seq (.seq (q1 [qo 17 6 2, qL 18 1 17, qo 19 6 3, qL 20 1 19, qc 21 gf_xc9 rfl [18, 20], qx 22 21] [22]) (.cond 22 [] [] (.seq (q1 [qB 4 false] [4]) (.ret)) (.skip))) (.seq (q1 [qB 4 true] [4]) (.ret)))))⟩
def d_xda (p0 : GCabin) (p1 : GCabin) : Option Bool :=
 bd (d_xc3 p0.Seats p1.Seats) fun x1 =>
 br (!x1)
  (some false)
  (bd (d_xc5 p0.Row p1.Row) fun x2 =>
  br (!x2)
   (some false)
   (bd (d_xc9 p0.Wheel p1.Wheel) fun x3 =>
   br (!x3)
    (some false)
    (some true)))
def gf_xda : GF := y_xda.gf rfl rfl (fun a => d_xda a.1 a.2.1) (fun a => by kernel_rfl)
def y_xdb : YF := ⟨[], [.v (.l (.st 7)), .v (.l (.st 7))], [], .ret [.b], [.tmp 4],
 .seq (q1 [qB 4 false] [0, 1]) (.seq (.seq (q1 [qm 6 0, qz 7 6, qm 8 1, qz 9 8, qb 10 .neq 7 9] [0, 1, 10]) (.cond 10 [] [0, 1] (.seq (q1 [qB 4 false] [4]) (.ret)) (.skip))) (.join [] (.seq (q1 [qK 5 0] [0, 1, 5]) (.block 0 (.loop [(false, 5, .one, [.val .i none])] (.seq (.seq (q1 [qm 11 5, qm 12 0, qz 13 12, qb 14 .lss 11 13] [0, 1, 5, 14]) (.cond 14 [0, 1, 5] [] (.skip) (.exit 0))) (.seq (.block 1 (.seq (.dreg (qd 0 [qn [qm 17 0, qm 18 5, qe 19 (.st 7) 17 18, qL 20 7 19, qm 21 1, qm 22 5, qe 23 (.st 7) 21 22, qL 24 7 23, qc 25 gf_xda rfl [20, 24], qx 26 25]] .nil) [0, 1, 5, 26]) (.cond 26 [] [0, 1, 5] (.seq (q1 [qB 4 false] [4]) (.ret)) (.skip)))) (q1 [qm 15 5, qi 16 .add 15 1, qa 5 16] [0, 1, 5])))))) (.seq (q1 [qB 4 true] [4]) (.ret))))⟩
def d_xdb_j2 (_ : PUnit) : Option Bool :=
 some true
def d_xdb_l1 (p0 : (List GCabin)) (p1 : (List GCabin)) (L1 : Int → Option Bool) (v2 : Int) : Option Bool :=
 br (decide (v2 < (↑p0.length : Int)))
  (bd (at? p0 v2) fun x3 =>
  bd (at? p1 v2) fun x4 =>
  bd (d_xda x3 x4) fun x5 =>
  br (!x5)
   (some false)
   (L1 (w64 (v2 + 1))))
  (jn (d_xdb_j2) ())
def d_xdb (p0 : (List GCabin)) (p1 : (List GCabin)) : Option Bool :=
 br ((↑p0.length : Int) != (↑p1.length : Int))
  (some false)
  (loopN (d_xdb_l1 p0 p1) big 0)
def gf_xdb : GF := y_xdb.gf rfl rfl (fun a => d_xdb a.1 a.2.1) (fun a => by kernel_rfl)
def y_xdc : YF := ⟨[], [.v (.st 8), .v (.st 8)], [], .ret [.b], [.tmp 4],
 .seq (q1 [qu 2 0, qu 3 1, qB 4 false] [2, 3]) (.seq (.seq (q1 [qo 5 0 2, qL 6 9 5, qo 7 0 3, qL 8 9 7, qc 9 gf_xc0 rfl [6, 8], qx 10 9] [2, 3, 10]) (.cond 10 [] [2, 3] (.seq (q1 [qB 4 false] [4]) (.ret)) (.skip))) (.seq (.seq (q1 [qo 11 9 2, ql 12 11, qo 13 9 3, ql 14 13, qb 15 .neq 12 14] [2, 3, 15]) (.cond 15 [] [2, 3] (.seq (q1 [qB 4 false] [4]) (.ret)) (.skip))) (.seq (.seq (q1 [qo 16 10 2, ql 17 16, qo 18 10 3, ql 19 18, qb 20 .neq 17 19] [2, 3, 20]) (.cond 20 [] [2, 3] (.seq (q1 [qB 4 false] [4]) (.ret)) (.skip))) (.seq (.seq (q1 [qo 21 11 2, ql 22 21, qo 23 11 3, ql 24 23, qc 25 gf_xc2 rfl [22, 24], qx 26 25] [2, 3, 26]) (.cond 26 [] [2, 3] (.seq (q1 [qB 4 false] [4]) (.ret)) (.skip))) (.seq (.seq (q1 [qo 27 12 2, ql 28 27, qo 29 12 3, ql 30 29, qc 31 gf_xdb rfl [28, 30], qx 32 31] [2, 3, 32]) (.cond 32 [] [2, 3] (.seq (q1 [qB 4 false] [4]) (.ret)) (.skip))) (.seq (.seq (q1 [qo 33 13 2, ql 34 33, qo 35 13 3, ql 36 35, qc 37 gf_xcz rfl [34, 36], qx 38 37] [2, 3, 38]) (.cond 38 [] [2, 3] (.seq (q1 [qB 4 false] [4]) (.ret)) (.skip))) (.seq (.seq (q1 [qo 39 14 2, ql 40 39, qo 41 14 3, ql 42 41, qc 43 gf_xcz rfl [40, 42], qx 44 43] [44]) (.cond 44 [] [] (.seq (q1 [qB 4 false] [4]) (.ret)) (.skip))) (.seq (q1 [qB 4 true] [4]) (.ret)))))))))⟩
def d_xdc (p0 : GHouse) (p1 : GHouse) : Option Bool :=
 bd (d_xc0 p0.Rules p1.Rules) fun x1 =>
 br (!x1)
  (some false)
  (br (p0.Now != p1.Now)
   (some false)
   (br (p0.Turn != p1.Turn)
    (some false)
    (bd (d_xc2 p0.Parties p1.Parties) fun x2 =>
    br (!x2)
     (some false)
     (bd (d_xdb p0.Cabins p1.Cabins) fun x3 =>
     br (!x3)
      (some false)
      (bd (d_xcz p0.Todo p1.Todo) fun x4 =>
      br (!x4)
       (some false)
       (bd (d_xcz p0.Jobs p1.Jobs) fun x5 =>
       br (!x5)
        (some false)
        (some true)))))))
def gf_xdc : GF := y_xdc.gf rfl rfl (fun a => d_xdc a.1 a.2.1) (fun a => by kernel_rfl)
def d_laws_eqReq (p0 : GReq) (p1 : GReq) : Option Bool :=
 br (p0.Kind != p1.Kind)
  (some false)
  (br (p0.Id != p1.Id)
   (some false)
   (br (p0.Cabin != p1.Cabin)
    (some false)
    (br (p0.From != p1.From)
     (some false)
     (br (p0.Size != p1.Size)
      (some false)
      (br (p0.Tier != p1.Tier)
       (some false)
       (some true))))))
def y_xdd : YF := ⟨[], [.v (.st 1)], [], .ret [(.l .i)], [.tmp 2],
 .seq (q1 [qu 1 0, .as 2 (.k .nil), .nils [(.tmp 2 0, .i)]] [1]) (.seq (.seq (q1 [qL 3 9 1, qc 4 gf_xz rfl [3], qx 5 4] [1, 5]) (.cond 5 [] [1] (.seq (q1 [.bslice 6 0 .i [], qa 2 6] [2]) (.ret)) (.skip))) (.seq (q1 [qo 7 1 1, ql 8 7, qo 9 2 1, ql 10 9, qo 11 3 1, ql 12 11, qo 13 4 1, ql 14 13, qo 15 5 1, ql 16 15, qo 17 6 1, ql 18 17, qo 19 7 1, ql 20 19, qo 21 8 1, ql 22 21, .bslice 23 8 .i [(0, (.tmp 8)), (1, (.tmp 10)), (2, (.tmp 12)), (3, (.tmp 14)), (4, (.tmp 16)), (5, (.tmp 18)), (6, (.tmp 20)), (7, (.tmp 22))], qo 24 0 1, ql 25 24, .app 26 .i true (.tmp 23) (.tmp 25), qa 2 26] [2]) (.ret)))⟩
def d_xdd (p0 : GRules) : Option (List Int) :=
 bd (d_xz p0) fun x1 =>
 br (!x1)
  (some [])
  (gd ([p0.Tiers, p0.Room, p0.Size, p0.Period, p0.Window, p0.Rest, p0.Tries, p0.Crew].length + p0.Seats.length ≤ lim) (
  some ([p0.Tiers, p0.Room, p0.Size, p0.Period, p0.Window, p0.Rest, p0.Tries, p0.Crew] ++ p0.Seats)))
def gf_xdd : GF := y_xdd.gf rfl rfl (fun a => d_xdd a.1) (fun a => by kernel_rfl)
def y_xde : YF := ⟨[], [.v (.st 8)], [], .ret [(.l .i)], [.tmp 2],
 .seq (q1 [qu 1 0, .as 2 (.k .nil), .nils [(.tmp 2 0, .i)]] [1]) (.seq (.seq (q1 [qL 9 15 1, qc 10 gf_xbs rfl [9], qx 11 10] [1, 11]) (.cond 11 [] [1] (.seq (q1 [.bslice 12 0 .i [], qa 2 12] [2]) (.ret)) (.skip))) (.seq (q1 [qo 13 0 1, qL 14 9 13, qc 15 gf_xdd rfl [14], qa 3 15] [1, 3]) (.seq (q1 [qm 16 3, qz 17 16, .bslice 18 1 .i [(0, (.tmp 17))], qm 19 3, .app 20 .i true (.tmp 18) (.tmp 19), qa 4 20] [1, 4]) (.seq (q1 [qm 21 4, qo 22 9 1, ql 23 22, qo 24 10 1, ql 25 24, qo 26 11 1, ql 27 26, qz 28 27, .bslice 29 3 .i [(0, (.tmp 23)), (1, (.tmp 25)), (2, (.tmp 28))], .app 30 .i true (.tmp 21) (.tmp 29), qa 4 30] [1, 4]) (.join [(false, 4, .one, [.val (.l .i) none])] (.seq (q1 [qK 5 0] [1, 4, 5]) (.block 0 (.loop [(false, 4, .one, [.val (.l .i) none]), (false, 5, .one, [.val .i none])] (.seq (.seq (q1 [qm 31 5, qo 32 11 1, ql 33 32, qz 34 33, qb 35 .lss 31 34] [1, 4, 5, 35]) (.cond 35 [1, 4, 5] [1, 4] (.skip) (.exit 0))) (.seq (.block 1 (.seq (q1 [qo 38 11 1, ql 39 38, qm 40 5, qe 41 (.st 2) 39 40, qL 42 10 41, .alloc 6 [.int .i64 0, .int .i64 0, .int .i64 0, .int .i64 0, .int .i64 0, .int .i64 0, .int .i64 0, .int .i64 0, .int .i64 0, .int .i64 0], qw 10 6 42] [1, 4, 5, 6]) (q1 [qm 43 4, qo 44 0 6, ql 45 44, qo 46 1 6, ql 47 46, qo 48 2 6, ql 49 48, qi 50 .add 49 1, qo 51 3 6, ql 52 51, qo 53 4 6, ql 54 53, qo 55 5 6, ql 56 55, qo 57 6 6, ql 58 57, qo 59 7 6, ql 60 59, qo 61 8 6, ql 62 61, qo 63 9 6, ql 64 63, .bslice 65 10 .i [(0, (.tmp 45)), (1, (.tmp 47)), (2, (.tmp 50)), (3, (.tmp 52)), (4, (.tmp 54)), (5, (.tmp 56)), (6, (.tmp 58)), (7, (.tmp 60)), (8, (.tmp 62)), (9, (.tmp 64))], .app 66 .i true (.tmp 43) (.tmp 65), qa 4 66] [1, 4, 5]))) (q1 [qm 36 5, qi 37 .add 36 1, qa 5 37] [1, 4, 5])))))) (.join [(false, 4, .one, [.val (.l .i) none])] (.seq (q1 [qK 7 0] [1, 4, 7]) (.block 2 (.loop [(false, 4, .one, [.val (.l .i) none]), (false, 7, .one, [.val .i none])] (.seq (.seq (q1 [qm 67 7, qo 68 12 1, ql 69 68, qz 70 69, qb 71 .lss 67 70] [1, 4, 7, 71]) (.cond 71 [1, 4, 7] [1, 4] (.skip) (.exit 2))) (.seq (.block 3 (q1 [qm 74 4, qo 75 12 1, ql 76 75, qm 77 7, qe 78 (.st 7) 76 77, qo 79 0 78, qo 80 1 79, ql 81 80, .bslice 82 1 .i [(0, (.tmp 81))], .app 83 .i true (.tmp 74) (.tmp 82), qa 4 83] [1, 4, 7])) (q1 [qm 72 7, qi 73 .add 72 1, qa 7 73] [1, 4, 7])))))) (.seq (q1 [qm 84 4, qo 85 13 1, ql 86 85, qz 87 86, .bslice 88 1 .i [(0, (.tmp 87))], .app 89 .i true (.tmp 84) (.tmp 88), qa 4 89] [1, 4]) (.seq (q1 [qm 90 4, qo 91 13 1, ql 92 91, .app 93 .i true (.tmp 90) (.tmp 92), qa 4 93] [1, 4]) (.join [(false, 4, .one, [.val (.l .i) none])] (.seq (q1 [qK 8 0] [1, 4, 8]) (.block 4 (.loop [(false, 4, .one, [.val (.l .i) none]), (false, 8, .one, [.val .i none])] (.seq (.seq (q1 [qm 94 8, qo 95 14 1, ql 96 95, qz 97 96, qb 98 .lss 94 97] [1, 4, 8, 98]) (.cond 98 [1, 4, 8] [4] (.skip) (.exit 4))) (.seq (.block 5 (q1 [qm 101 4, qo 102 14 1, ql 103 102, qm 104 8, qe 105 .i 103 104, ql 106 105, qi 107 .add 106 1, .bslice 108 1 .i [(0, (.tmp 107))], .app 109 .i true (.tmp 101) (.tmp 108), qa 4 109] [1, 4, 8])) (q1 [qm 99 8, qi 100 .add 99 1, qa 8 100] [1, 4, 8])))))) (.seq (q1 [qm 110 4, qa 2 110] [2]) (.ret)))))))))))⟩
def d_xde_j6 (v17 : (List Int)) : Option (List Int) :=
 some v17
def d_xde_l5 (p0 : GHouse) (L13 : ((List Int) × Int) → Option (List Int)) (x_ : ((List Int) × Int)) : Option (List Int) :=
 match x_ with
 | (v14, v15) => br (decide (v15 < (↑p0.Jobs.length : Int)))
  (bd (at? p0.Jobs v15) fun x16 =>
  gd (List.length v14 + [w64 (x16 + 1)].length ≤ lim) (
  L13 ((v14 ++ [w64 (x16 + 1)], w64 (v15 + 1)))))
  (jn (d_xde_j6) v14)
def d_xde_j4 (p0 : GHouse) (v12 : (List Int)) : Option (List Int) :=
 gd (v12.length + [(↑p0.Todo.length : Int)].length ≤ lim) (
 gd ((v12 ++ [(↑p0.Todo.length : Int)]).length + p0.Todo.length ≤ lim) (
 loopN (d_xde_l5 p0) big ((v12 ++ [(↑p0.Todo.length : Int)] ++ p0.Todo, 0))))
def d_xde_l3 (p0 : GHouse) (L8 : ((List Int) × Int) → Option (List Int)) (x_ : ((List Int) × Int)) : Option (List Int) :=
 match x_ with
 | (v9, v10) => br (decide (v10 < (↑p0.Cabins.length : Int)))
  (bd (at? p0.Cabins v10) fun x11 =>
  gd (List.length v9 + [x11.Seats.Free].length ≤ lim) (
  L8 ((v9 ++ [x11.Seats.Free], w64 (v10 + 1)))))
  (jn (d_xde_j4 p0) v9)
def d_xde_j2 (p0 : GHouse) (v7 : (List Int)) : Option (List Int) :=
 loopN (d_xde_l3 p0) big (v7, 0)
def d_xde_l1 (p0 : GHouse) (L3 : ((List Int) × Int) → Option (List Int)) (x_ : ((List Int) × Int)) : Option (List Int) :=
 match x_ with
 | (v4, v5) => br (decide (v5 < (↑p0.Parties.length : Int)))
  (bd (at? p0.Parties v5) fun x6 =>
  gd (List.length v4 + [x6.Id, x6.Cabin, w64 (x6.From + 1), x6.Size, x6.Tier, x6.Since, x6.Turn, x6.State, x6.Until, x6.Asked].length ≤ lim) (
  L3 ((v4 ++ [x6.Id, x6.Cabin, w64 (x6.From + 1), x6.Size, x6.Tier, x6.Since, x6.Turn, x6.State, x6.Until, x6.Asked], w64 (v5 + 1)))))
  (jn (d_xde_j2 p0) v4)
def d_xde (p0 : GHouse) : Option (List Int) :=
 bd (d_xbs p0) fun x1 =>
 br (!x1)
  (some [])
  (bd (d_xdd p0.Rules) fun x2 =>
  gd ([(↑(List.length x2) : Int)].length + List.length x2 ≤ lim) (
  gd (([(↑(List.length x2) : Int)] ++ x2).length + [p0.Now, p0.Turn, (↑p0.Parties.length : Int)].length ≤ lim) (
  loopN (d_xde_l1 p0) big (([(↑(List.length x2) : Int)] ++ x2 ++ [p0.Now, p0.Turn, (↑p0.Parties.length : Int)], 0)))))
def gf_xde : GF := y_xde.gf rfl rfl (fun a => d_xde a.1) (fun a => by kernel_rfl)
def y_xdf : YF := ⟨[], [.v .i], [], .ret [(.l .u)], [.tmp 2],
 .seq (q1 [.as 2 (.k .nil), .nils [(.tmp 2 0, .u)]] [0]) (.seq (q1 [.bslice 4 0 .u [], qa 3 4] [0, 3]) (.seq (.seq (q1 [qm 5 0, .call 6 gf_xy [] rfl [.tmp 5, qj 0, qj 2147483647], qx 7 6] [0, 3, 7]) (.cond 7 [3] [0, 3] (.seq (q1 [qm 8 3, qa 2 8] [2]) (.ret)) (.skip))) (.join [(false, 0, .one, [.val .i none]), (false, 3, .one, [.val (.l .u) none])] (.block 0 (.loop [(false, 0, .one, [.val .i none]), (false, 3, .one, [.val (.l .u) none])] (.seq (.seq (q1 [qm 9 0, qi 10 .gtr 9 127] [0, 3, 10]) (.cond 10 [0, 3] [0, 3] (.skip) (.exit 0))) (.block 1 (.seq (q1 [qm 11 3, qm 12 0, qi 13 .rem 12 128, qi 14 .add 13 128, .cvI 15 .u8 (.tmp 14), .bslice 16 1 .u [(0, (.tmp 15))], .app 17 .u true (.tmp 11) (.tmp 16), qa 3 17] [0, 3]) (q1 [qm 18 0, qi 19 .quo 18 128, qa 0 19] [0, 3])))))) (.seq (q1 [qm 20 3, qm 21 0, .cvI 22 .u8 (.tmp 21), .bslice 23 1 .u [(0, (.tmp 22))], .app 24 .u true (.tmp 20) (.tmp 23), qa 2 24] [2]) (.ret)))))⟩
def d_xdf_j2 (x_ : (Int × (List UInt8))) : Option (List UInt8) :=
 match x_ with
 | (v5, v6) => gd (v6.length + [toB v5].length ≤ lim) (
 some (v6 ++ [toB v5]))
def d_xdf_l1 (L2 : (Int × (List UInt8)) → Option (List UInt8)) (x_ : (Int × (List UInt8))) : Option (List UInt8) :=
 match x_ with
 | (v3, v4) => br (decide (v3 > 127))
  (gd (v4.length + [toB (w64 (Int.tmod v3 128 + 128))].length ≤ lim) (
  L2 ((w64 (Int.tdiv v3 128), v4 ++ [toB (w64 (Int.tmod v3 128 + 128))]))))
  (jn (d_xdf_j2) (v3, v4))
def d_xdf (p0 : Int) : Option (List UInt8) :=
 bd (d_xy p0 0 2147483647) fun x1 =>
 br (!x1)
  (some [])
  (loopN (d_xdf_l1) big (p0, []))
def gf_xdf : GF := y_xdf.gf rfl rfl (fun a => d_xdf a.1) (fun a => by kernel_rfl)
def y_xdg : YF := ⟨[], [.v (.l .i)], [], .ret [.s], [.tmp 2],
 .seq (q1 [.as 2 (.k (.str []))] [0]) (.seq (q1 [.bslice 5 0 .u [], qa 3 5] [0, 3]) (.join [(false, 3, .one, [.val (.l .u) none])] (.seq (q1 [qK 4 0] [0, 3, 4]) (.block 0 (.loop [(false, 3, .one, [.val (.l .u) none]), (false, 4, .one, [.val .i none])] (.seq (.seq (q1 [qm 6 4, qm 7 0, qz 8 7, qb 9 .lss 6 8] [0, 3, 4, 9]) (.cond 9 [0, 3, 4] [3] (.skip) (.exit 0))) (.seq (.block 1 (q1 [qm 12 3, qm 13 0, qm 14 4, qe 15 .i 13 14, ql 16 15, qc 17 gf_xdf rfl [16], .app 18 .u true (.tmp 12) (.tmp 17), qa 3 18] [0, 3, 4])) (q1 [qm 10 4, qi 11 .add 10 1, qa 4 11] [0, 3, 4])))))) (.seq (q1 [qm 19 3, .cvBS 20 (.tmp 19), qa 2 20] [2]) (.ret))))⟩
def d_xdg_j2 (v6 : (List UInt8)) : Option (List UInt8) :=
 some v6
def d_xdg_l1 (p0 : (List Int)) (L1 : ((List UInt8) × Int) → Option (List UInt8)) (x_ : ((List UInt8) × Int)) : Option (List UInt8) :=
 match x_ with
 | (v2, v3) => br (decide (v3 < (↑p0.length : Int)))
  (bd (at? p0 v3) fun x4 =>
  bd (d_xdf x4) fun x5 =>
  gd (List.length v2 + List.length x5 ≤ lim) (
  L1 ((v2 ++ x5, w64 (v3 + 1)))))
  (jn (d_xdg_j2) v2)
def d_xdg (p0 : (List Int)) : Option (List UInt8) :=
 loopN (d_xdg_l1 p0) big ([], 0)
def gf_xdg : GF := y_xdg.gf rfl rfl (fun a => d_xdg a.1) (fun a => by kernel_rfl)
def y_xdh : YF := ⟨[], [.v (.l .u)], [], .ret [.i], [.tmp 2],
 .seq (q1 [qK 2 0] [0]) (.seq (q1 [qK 3 4294967295] [0, 3]) (.join [(false, 3, .one, [.val .i none])] (.seq (q1 [qK 4 0] [0, 3, 4]) (.block 0 (.loop [(false, 3, .one, [.val .i none]), (false, 4, .one, [.val .i none])] (.seq (.seq (q1 [qm 7 4, qm 8 0, qz 9 8, qb 10 .lss 7 9] [0, 3, 4, 10]) (.cond 10 [0, 3, 4] [3] (.skip) (.exit 0))) (.join [(false, 3, .one, [.val .i none])] (.block 1 (.seq (q1 [qm 13 3, qm 14 0, qm 15 4, qe 16 .u 14 15, ql 17 16, .cvI 18 .i64 (.tmp 17), qb 19 .xor 13 18, qa 3 19] [0, 3, 4]) (.seq (q1 [qK 5 0] [0, 3, 4, 5]) (.block 2 (.loop [(false, 3, .one, [.val .i none]), (false, 5, .one, [.val .i none])] (.seq (.seq (q1 [qm 20 5, qi 21 .lss 20 8] [0, 3, 4, 5, 21]) (.cond 21 [0, 3, 4, 5] [0, 3, 4] (.skip) (.exit 2))) (.join [(false, 3, .one, [.val .i none])] (.block 3 (.seq (q1 [qm 24 3, qi 25 .rem 24 2, qi 26 .eql 25 1, qa 6 26] [0, 3, 4, 5, 6]) (.seq (q1 [qm 27 3, qi 28 .quo 27 2, qa 3 28] [0, 3, 4, 5, 6]) (.seq (q1 [qm 29 6] [0, 3, 4, 5, 29]) (.cond 29 [0, 3, 4, 5] [0, 3, 4, 5] (q1 [qm 30 3, qi 31 .xor 30 3988292384, qa 3 31] [0, 3, 4, 5]) (.skip)))))) (q1 [qm 22 5, qi 23 .add 22 1, qa 5 23] [0, 3, 4, 5])))))))) (q1 [qm 11 4, qi 12 .add 11 1, qa 4 12] [0, 3, 4])))))) (.seq (q1 [qm 32 3, qi 33 .xor 32 4294967295, qa 2 33] [2]) (.ret))))⟩
def d_xdh_j3 (L5 : (Int × Int) → Option Int) (v7 : Int) (v8 : Int) : Option Int :=
 L5 ((v8, w64 (v7 + 1)))
def d_xdh_j4 (L1 : (Int × Int) → Option Int) (v3 : Int) (v9 : Int) : Option Int :=
 L1 ((v9, w64 (v3 + 1)))
def d_xdh_l2 (L1 : (Int × Int) → Option Int) (v3 : Int) (L5 : (Int × Int) → Option Int) (x_ : (Int × Int)) : Option Int :=
 match x_ with
 | (v6, v7) => br (decide (v7 < 8))
  (br (Int.tmod v6 2 == 1)
   (jn (d_xdh_j3 L5 v7) (xorI (w64 (Int.tdiv v6 2)) 3988292384))
   (jn (d_xdh_j3 L5 v7) (w64 (Int.tdiv v6 2))))
  (jn (d_xdh_j4 L1 v3) v6)
def d_xdh_j5 (v10 : Int) : Option Int :=
 some (xorI v10 4294967295)
def d_xdh_l1 (p0 : (List UInt8)) (L1 : (Int × Int) → Option Int) (x_ : (Int × Int)) : Option Int :=
 match x_ with
 | (v2, v3) => br (decide (v3 < (↑p0.length : Int)))
  (bd (at? p0 v3) fun x4 =>
  loopN (d_xdh_l2 L1 v3) big ((xorI v2 (w64 (↑(UInt8.toNat x4) : Int)), 0)))
  (jn (d_xdh_j5) v2)
def d_xdh (p0 : (List UInt8)) : Option Int :=
 loopN (d_xdh_l1 p0) big (4294967295, 0)
def gf_xdh : GF := y_xdh.gf rfl rfl (fun a => d_xdh a.1) (fun a => by kernel_rfl)
def y_xdi : YF := ⟨[], [.v .i], [], .ret [.s], [.tmp 2],
 .seq (q1 [.as 2 (.k (.str []))] [0]) (.seq (q1 [qm 3 0, .bin 4 .num .shr (.tmp 3) (.k (.int .u64 24)), .cvI 5 .u8 (.tmp 4), qm 6 0, .bin 7 .num .shr (.tmp 6) (.k (.int .u64 16)), .cvI 8 .u8 (.tmp 7), qm 9 0, .bin 10 .num .shr (.tmp 9) (.k (.int .u64 8)), .cvI 11 .u8 (.tmp 10), qm 12 0, .cvI 13 .u8 (.tmp 12), .bslice 14 4 .u [(0, (.tmp 5)), (1, (.tmp 8)), (2, (.tmp 11)), (3, (.tmp 13))], .cvBS 15 (.tmp 14), qa 2 15] [2]) (.ret))⟩
def d_xdi (p0 : Int) : Option (List UInt8) :=
 some ([toB (shrI p0 24), toB (shrI p0 16), toB (shrI p0 8), toB p0])
def gf_xdi : GF := y_xdi.gf rfl rfl (fun a => d_xdi a.1) (fun a => by kernel_rfl)
def y_xdj : YF := ⟨[], [.v (.st 8), .v .i], [], .ret [.s], [.tmp 4],
 .seq (q1 [qu 2 0, .as 4 (.k (.str []))] [1, 2]) (.seq (.join [(false, 13, .one, [.val .b none])] (qr [qn [qL 6 15 2, qc 7 gf_xbs rfl [6], qx 8 7, qm 9 8],
 qf 9 [qm 10 1, .call 11 gf_xy [] rfl [.tmp 10, qj 0, qj 1000000], qx 12 11],
 qn [qp 13 9 12]] [1, 2, 13]) (.cond 13 [] [1, 2] (.seq (q1 [.as 4 (.k (.str []))] [4]) (.ret)) (.skip))) (.seq (q1 [qm 14 1, .bslice 15 1 .i [(0, (.tmp 14))], qL 16 15 2, qc 17 gf_xde rfl [16], .app 18 .i true (.tmp 15) (.tmp 17), qc 19 gf_xdg rfl [18], qa 5 19] [5]) (.seq (q1 [qm 20 5, .cvSB 21 (.tmp 20), qc 22 gf_xdh rfl [21], qc 23 gf_xdi rfl [22], qm 24 5, qb 25 .add 23 24, qa 4 25] [4]) (.ret))))⟩
def d_xdj_j1 (p0 : GHouse) (p1 : Int) (v2 : Bool) : Option (List UInt8) :=
 br v2
  (some [])
  (bd (d_xde p0) fun x3 =>
  gd ([p1].length + List.length x3 ≤ lim) (
  bd (d_xdg ([p1] ++ x3)) fun x4 =>
  bd (d_xdh x4) fun x5 =>
  bd (d_xdi x5) fun x6 =>
  gd (List.length x6 + List.length x4 ≤ slim) (
  some (x6 ++ x4))))
def d_xdj (p0 : GHouse) (p1 : Int) : Option (List UInt8) :=
 bd (d_xbs p0) fun x1 =>
 br (!x1)
  (jn (d_xdj_j1 p0 p1) true)
  (bd (d_xy p1 0 1000000) fun x7 =>
  jn (d_xdj_j1 p0 p1) (!x7))
def gf_xdj : GF := y_xdj.gf rfl rfl (fun a => d_xdj a.1 a.2.1) (fun a => by kernel_rfl)
def y_xdk : YF := ⟨[], [.v (.st 1)], [], .ret [(.l .i)], [.tmp 2],
 .seq (q1 [qu 1 0, .as 2 (.k .nil), .nils [(.tmp 2 0, .i)]] [1]) (.seq (.seq (q1 [qL 3 9 1, qc 4 gf_xbu rfl [3], qx 5 4] [1, 5]) (.cond 5 [] [1] (.seq (q1 [.as 2 (.k .nil), .nils [(.tmp 2 0, .i)]] [2]) (.ret)) (.skip))) (.seq (q1 [qo 6 1 1, ql 7 6, qo 8 2 1, ql 9 8, qo 10 3 1, ql 11 10, qo 12 4 1, ql 13 12, qo 14 5 1, ql 15 14, qo 16 6 1, ql 17 16, qo 18 7 1, ql 19 18, qo 20 8 1, ql 21 20, .bslice 22 8 .i [(0, (.tmp 7)), (1, (.tmp 9)), (2, (.tmp 11)), (3, (.tmp 13)), (4, (.tmp 15)), (5, (.tmp 17)), (6, (.tmp 19)), (7, (.tmp 21))], qo 23 0 1, ql 24 23, .app 25 .i true (.tmp 22) (.tmp 24), qa 2 25] [2]) (.ret)))⟩
def d_xdk (p0 : GRules) : Option (List Int) :=
 bd (d_xbu p0) fun x1 =>
 br (!x1)
  (some [])
  (gd ([p0.Tiers, p0.Room, p0.Size, p0.Period, p0.Window, p0.Rest, p0.Tries, p0.Crew].length + p0.Seats.length ≤ lim) (
  some ([p0.Tiers, p0.Room, p0.Size, p0.Period, p0.Window, p0.Rest, p0.Tries, p0.Crew] ++ p0.Seats)))
def gf_xdk : GF := y_xdk.gf rfl rfl (fun a => d_xdk a.1) (fun a => by kernel_rfl)
def y_xdl : YF := ⟨[], [.v (.st 8)], [], .ret [(.l .i)], [.tmp 2],
 .seq (q1 [qu 1 0, .as 2 (.k .nil)] [1]) (.seq (.seq (q1 [qL 11 15 1, qc 12 gf_xcy rfl [11], qx 13 12] [1, 13]) (.cond 13 [] [1] (.seq (q1 [.as 2 (.k .nil)] [2]) (.ret)) (.skip))) (.seq (q1 [qo 14 0 1, qL 15 9 14, qc 16 gf_xdk rfl [15], qa 3 16] [1, 3]) (.seq (q1 [qm 17 3, qz 18 17, .bslice 19 1 .i [(0, (.tmp 18))], qm 20 3, .app 21 .i true (.tmp 19) (.tmp 20), qa 4 21] [1, 4]) (.seq (q1 [qm 22 4, qo 23 9 1, ql 24 23, qo 25 10 1, ql 26 25, qo 27 11 1, ql 28 27, qz 29 28, .bslice 30 3 .i [(0, (.tmp 24)), (1, (.tmp 26)), (2, (.tmp 29))], .app 31 .i true (.tmp 22) (.tmp 30), qa 4 31] [1, 4]) (.join [(false, 4, .one, [.val (.l .i) none])] (.seq (q1 [qo 32 11 1, ql 33 32, qz 34 33, qk 35 0] [1, 4, 33, 34, 35]) (.block 0 (.loop [(false, 4, .one, [.val (.l .i) none]), (false, 35, .one, [.val .i none])] (.seq (q1 [qb 36 .lss 35 34] [1, 4, 33, 34, 35, 36]) (.seq (.cond 36 [1, 4, 33, 34, 35] [1, 4] (.skip) (.exit 0)) (.seq (.block 1 (.seq (q1 [qe 37 (.st 2) 33 35, qL 38 10 37, .alloc 6 [.int .i64 0, .int .i64 0, .int .i64 0, .int .i64 0, .int .i64 0, .int .i64 0, .int .i64 0, .int .i64 0, .int .i64 0, .int .i64 0], qw 10 6 38] [1, 4, 6, 33, 34, 35]) (q1 [qm 39 4, qo 40 0 6, ql 41 40, qo 42 1 6, ql 43 42, qo 44 2 6, ql 45 44, qi 46 .add 45 1, qo 47 3 6, ql 48 47, qo 49 4 6, ql 50 49, qo 51 5 6, ql 52 51, qo 53 6 6, ql 54 53, qo 55 7 6, ql 56 55, qo 57 8 6, ql 58 57, qo 59 9 6, ql 60 59, .bslice 61 10 .i [(0, (.tmp 41)), (1, (.tmp 43)), (2, (.tmp 46)), (3, (.tmp 48)), (4, (.tmp 50)), (5, (.tmp 52)), (6, (.tmp 54)), (7, (.tmp 56)), (8, (.tmp 58)), (9, (.tmp 60))], .app 62 .i true (.tmp 39) (.tmp 61), qa 4 62] [1, 4, 33, 34, 35]))) (q1 [qi 63 .add 35 1, qm 35 63] [1, 4, 33, 34, 35]))))))) (.join [(false, 4, .one, [.val (.l .i) none])] (.seq (q1 [qo 64 12 1, ql 65 64, qz 66 65, qk 67 0] [1, 4, 65, 66, 67]) (.block 2 (.loop [(false, 4, .one, [.val (.l .i) none]), (false, 67, .one, [.val .i none])] (.seq (q1 [qb 68 .lss 67 66] [1, 4, 65, 66, 67, 68]) (.seq (.cond 68 [1, 4, 65, 66, 67] [1, 4] (.skip) (.exit 2)) (.seq (.block 3 (.seq (q1 [qe 69 (.st 7) 65 67, qL 70 7 69, .alloc 8 [.int .i64 0, .int .i64 0, .int .i64 0, .int .i64 0, .int .i64 0, .nil, .nil], .nils [(.cell 8 5, (.st 4)), (.cell 8 6, (.l (.st 5)))], qw 7 8 70] [1, 4, 8, 65, 66, 67]) (q1 [qm 71 4, qo 72 0 8, qo 73 1 72, ql 74 73, .bslice 75 1 .i [(0, (.tmp 74))], .app 76 .i true (.tmp 71) (.tmp 75), qa 4 76] [1, 4, 65, 66, 67]))) (q1 [qi 77 .add 67 1, qm 67 77] [1, 4, 65, 66, 67]))))))) (.seq (q1 [qm 78 4, qo 79 13 1, ql 80 79, qz 81 80, .bslice 82 1 .i [(0, (.tmp 81))], .app 83 .i true (.tmp 78) (.tmp 82), qa 4 83] [1, 4]) (.seq (q1 [qm 84 4, qo 85 13 1, ql 86 85, .app 87 .i true (.tmp 84) (.tmp 86), qa 4 87] [1, 4]) (.join [(false, 4, .one, [.val (.l .i) none])] (.seq (q1 [qo 88 14 1, ql 89 88, qz 90 89, qk 91 0] [4, 89, 90, 91]) (.block 4 (.loop [(false, 4, .one, [.val (.l .i) none]), (false, 91, .one, [.val .i none])] (.seq (q1 [qb 92 .lss 91 90] [4, 89, 90, 91, 92]) (.seq (.cond 92 [4, 89, 90, 91] [4] (.skip) (.exit 4)) (.seq (.block 5 (.seq (q1 [qe 93 .i 89 91, ql 94 93, qa 10 94] [4, 10, 89, 90, 91]) (q1 [qm 95 4, qm 96 10, qi 97 .add 96 1, .bslice 98 1 .i [(0, (.tmp 97))], .app 99 .i true (.tmp 95) (.tmp 98), qa 4 99] [4, 89, 90, 91]))) (q1 [qi 100 .add 91 1, qm 91 100] [4, 89, 90, 91]))))))) (.seq (q1 [qm 101 4, qa 2 101] [2]) (.ret)))))))))))⟩
def d_xdl_j6 (v17 : (List Int)) : Option (List Int) :=
 some v17
def d_xdl_l5 (p0 : GHouse) (L13 : ((List Int) × Int) → Option (List Int)) (x_ : ((List Int) × Int)) : Option (List Int) :=
 match x_ with
 | (v14, v15) => br (decide (v15 < (↑p0.Jobs.length : Int)))
  (bd (at? p0.Jobs v15) fun x16 =>
  gd (List.length v14 + [w64 (x16 + 1)].length ≤ lim) (
  L13 ((v14 ++ [w64 (x16 + 1)], w64 (v15 + 1)))))
  (jn (d_xdl_j6) v14)
def d_xdl_j4 (p0 : GHouse) (v12 : (List Int)) : Option (List Int) :=
 gd (v12.length + [(↑p0.Todo.length : Int)].length ≤ lim) (
 gd ((v12 ++ [(↑p0.Todo.length : Int)]).length + p0.Todo.length ≤ lim) (
 loopN (d_xdl_l5 p0) big ((v12 ++ [(↑p0.Todo.length : Int)] ++ p0.Todo, 0))))
def d_xdl_l3 (p0 : GHouse) (L8 : ((List Int) × Int) → Option (List Int)) (x_ : ((List Int) × Int)) : Option (List Int) :=
 match x_ with
 | (v9, v10) => br (decide (v10 < (↑p0.Cabins.length : Int)))
  (bd (at? p0.Cabins v10) fun x11 =>
  gd (List.length v9 + [x11.Seats.Free].length ≤ lim) (
  L8 ((v9 ++ [x11.Seats.Free], w64 (v10 + 1)))))
  (jn (d_xdl_j4 p0) v9)
def d_xdl_j2 (p0 : GHouse) (v7 : (List Int)) : Option (List Int) :=
 loopN (d_xdl_l3 p0) big (v7, 0)
def d_xdl_l1 (p0 : GHouse) (L3 : ((List Int) × Int) → Option (List Int)) (x_ : ((List Int) × Int)) : Option (List Int) :=
 match x_ with
 | (v4, v5) => br (decide (v5 < (↑p0.Parties.length : Int)))
  (bd (at? p0.Parties v5) fun x6 =>
  gd (List.length v4 + [x6.Id, x6.Cabin, w64 (x6.From + 1), x6.Size, x6.Tier, x6.Since, x6.Turn, x6.State, x6.Until, x6.Asked].length ≤ lim) (
  L3 ((v4 ++ [x6.Id, x6.Cabin, w64 (x6.From + 1), x6.Size, x6.Tier, x6.Since, x6.Turn, x6.State, x6.Until, x6.Asked], w64 (v5 + 1)))))
  (jn (d_xdl_j2 p0) v4)
def d_xdl (p0 : GHouse) : Option (List Int) :=
 bd (d_xcy p0) fun x1 =>
 br (!x1)
  (none)
  (bd (d_xdk p0.Rules) fun x2 =>
  gd ([(↑(List.length x2) : Int)].length + List.length x2 ≤ lim) (
  gd (([(↑(List.length x2) : Int)] ++ x2).length + [p0.Now, p0.Turn, (↑p0.Parties.length : Int)].length ≤ lim) (
  loopN (d_xdl_l1 p0) big (([(↑(List.length x2) : Int)] ++ x2 ++ [p0.Now, p0.Turn, (↑p0.Parties.length : Int)], 0)))))
def gf_xdl : GF := y_xdl.gf rfl rfl (fun a => d_xdl a.1) (fun a => by kernel_rfl)
def y_xdm : YF := ⟨[], [.v .i], [], .ret [(.l .u)], [.tmp 2],
 .seq (q1 [.as 2 (.k .nil), .nils [(.tmp 2 0, .u)]] [0]) (.seq (.seq (q1 [qm 4 0, .call 5 gf_xbt [] rfl [.tmp 4, qj 0, qj 2147483647], qx 6 5] [0, 6]) (.cond 6 [] [0] (.seq (q1 [.as 2 (.k .nil), .nils [(.tmp 2 0, .u)]] [2]) (.ret)) (.skip))) (.seq (q1 [.as 3 (.k .nil), .nils [(.tmp 3 0, .u)]] [0, 3]) (.join [(false, 0, .one, [.val .i none]), (false, 3, .one, [.val (.l .u) none])] (.block 0 (.loop [(false, 0, .one, [.val .i none]), (false, 3, .one, [.val (.l .u) none])] (.seq (.seq (q1 [qm 7 0, qi 8 .geq 7 128] [0, 3, 8]) (.cond 8 [0, 3] [0, 3] (.skip) (.exit 0))) (.block 1 (.seq (q1 [qm 9 3, qm 10 0, qi 11 .rem 10 128, qi 12 .add 11 128, .cvI 13 .u8 (.tmp 12), .bslice 14 1 .u [(0, (.tmp 13))], .app 15 .u true (.tmp 9) (.tmp 14), qa 3 15] [0, 3]) (q1 [qm 16 0, qi 17 .quo 16 128, qa 0 17] [0, 3])))))) (.seq (q1 [qm 18 3, qm 19 0, .cvI 20 .u8 (.tmp 19), .bslice 21 1 .u [(0, (.tmp 20))], .app 22 .u true (.tmp 18) (.tmp 21), qa 2 22] [2]) (.ret)))))⟩
def d_xdm_j2 (x_ : (Int × (List UInt8))) : Option (List UInt8) :=
 match x_ with
 | (v5, v6) => gd (v6.length + [toB v5].length ≤ lim) (
 some (v6 ++ [toB v5]))
def d_xdm_l1 (L2 : (Int × (List UInt8)) → Option (List UInt8)) (x_ : (Int × (List UInt8))) : Option (List UInt8) :=
 match x_ with
 | (v3, v4) => br (decide (v3 ≥ 128))
  (gd (v4.length + [toB (w64 (Int.tmod v3 128 + 128))].length ≤ lim) (
  L2 ((w64 (Int.tdiv v3 128), v4 ++ [toB (w64 (Int.tmod v3 128 + 128))]))))
  (jn (d_xdm_j2) (v3, v4))
def d_xdm (p0 : Int) : Option (List UInt8) :=
 bd (d_xbt p0 0 2147483647) fun x1 =>
 br (!x1)
  (some [])
  (loopN (d_xdm_l1) big (p0, []))
def gf_xdm : GF := y_xdm.gf rfl rfl (fun a => d_xdm a.1) (fun a => by kernel_rfl)
def y_xdn : YF := ⟨[], [.v (.l .i)], [], .ret [.s], [.tmp 2],
 .seq (q1 [.as 2 (.k (.str []))] [0]) (.seq (q1 [.as 3 (.k .nil), .nils [(.tmp 3 0, .u)]] [0, 3]) (.join [(false, 3, .one, [.val (.l .u) none])] (.seq (q1 [qm 6 0, qz 7 6, qk 8 0] [3, 6, 7, 8]) (.block 0 (.loop [(false, 3, .one, [.val (.l .u) none]), (false, 8, .one, [.val .i none])] (.seq (q1 [qb 9 .lss 8 7] [3, 6, 7, 8, 9]) (.seq (.cond 9 [3, 6, 7, 8] [3] (.skip) (.exit 0)) (.seq (.block 1 (.seq (q1 [qe 10 .i 6 8, ql 11 10, qa 5 11] [3, 5, 6, 7, 8]) (q1 [qm 12 3, qm 13 5, qc 14 gf_xdm rfl [13], .app 15 .u true (.tmp 12) (.tmp 14), qa 3 15] [3, 6, 7, 8]))) (q1 [qi 16 .add 8 1, qm 8 16] [3, 6, 7, 8]))))))) (.seq (q1 [qm 17 3, .cvBS 18 (.tmp 17), qa 2 18] [2]) (.ret))))⟩
def d_xdn_j2 (v6 : (List UInt8)) : Option (List UInt8) :=
 some v6
def d_xdn_l1 (p0 : (List Int)) (L1 : ((List UInt8) × Int) → Option (List UInt8)) (x_ : ((List UInt8) × Int)) : Option (List UInt8) :=
 match x_ with
 | (v2, v3) => br (decide (v3 < (↑p0.length : Int)))
  (bd (at? p0 v3) fun x4 =>
  bd (d_xdm x4) fun x5 =>
  gd (List.length v2 + List.length x5 ≤ lim) (
  L1 ((v2 ++ x5, w64 (v3 + 1)))))
  (jn (d_xdn_j2) v2)
def d_xdn (p0 : (List Int)) : Option (List UInt8) :=
 loopN (d_xdn_l1 p0) big ([], 0)
def gf_xdn : GF := y_xdn.gf rfl rfl (fun a => d_xdn a.1) (fun a => by kernel_rfl)
def y_xdo : YF := ⟨[], [.v (.l .u)], [], .ret [.i], [.tmp 2],
 .seq (q1 [qK 2 0] [0]) (.seq (q1 [qK 3 4294967295] [0, 3]) (.join [(false, 3, .one, [.val .i none])] (.seq (q1 [qm 8 0, qz 9 8, qk 10 0] [3, 8, 9, 10]) (.block 0 (.loop [(false, 3, .one, [.val .i none]), (false, 10, .one, [.val .i none])] (.seq (q1 [qb 11 .lss 10 9] [3, 8, 9, 10, 11]) (.seq (.cond 11 [3, 8, 9, 10] [3] (.skip) (.exit 0)) (.join [(false, 3, .one, [.val .i none])] (.block 1 (.seq (q1 [qe 12 .u 8 10, ql 13 12, qa 5 13] [3, 5, 8, 9, 10]) (.seq (q1 [qm 14 3, qm 15 5, .cvI 16 .i64 (.tmp 15), qb 17 .xor 14 16, qa 3 17] [3, 8, 9, 10]) (.seq (q1 [qK 6 0] [3, 6, 8, 9, 10]) (.block 2 (.loop [(false, 3, .one, [.val .i none]), (false, 6, .one, [.val .i none])] (.seq (.seq (q1 [qm 18 6, qi 19 .lss 18 8] [3, 6, 8, 9, 10, 19]) (.cond 19 [3, 6, 8, 9, 10] [3, 8, 9, 10] (.skip) (.exit 2))) (.join [(false, 3, .one, [.val .i none])] (.block 3 (.seq (q1 [qm 22 3, qi 23 .and 22 1, qa 7 23] [3, 6, 7, 8, 9, 10]) (.seq (q1 [qm 24 3, .bin 25 .num .shr (.tmp 24) (.k (.int .u64 1)), qa 3 25] [3, 6, 7, 8, 9, 10]) (.seq (q1 [qm 26 7, qi 27 .eql 26 1] [3, 6, 8, 9, 10, 27]) (.cond 27 [3, 6, 8, 9, 10] [3, 6, 8, 9, 10] (q1 [qm 28 3, qi 29 .xor 28 3988292384, qa 3 29] [3, 6, 8, 9, 10]) (.skip)))))) (q1 [qm 20 6, qi 21 .add 20 1, qa 6 21] [3, 6, 8, 9, 10]))))))))) (q1 [qi 30 .add 10 1, qm 10 30] [3, 8, 9, 10]))))))) (.seq (q1 [qm 31 3, qi 32 .xor 31 4294967295, qa 2 32] [2]) (.ret))))⟩
def d_xdo_j3 (L5 : (Int × Int) → Option Int) (v7 : Int) (v8 : Int) : Option Int :=
 L5 ((v8, w64 (v7 + 1)))
def d_xdo_j4 (L1 : (Int × Int) → Option Int) (v3 : Int) (v9 : Int) : Option Int :=
 L1 ((v9, w64 (v3 + 1)))
def d_xdo_l2 (L1 : (Int × Int) → Option Int) (v3 : Int) (L5 : (Int × Int) → Option Int) (x_ : (Int × Int)) : Option Int :=
 match x_ with
 | (v6, v7) => br (decide (v7 < 8))
  (br (andI v6 1 == 1)
   (jn (d_xdo_j3 L5 v7) (xorI (shrI v6 1) 3988292384))
   (jn (d_xdo_j3 L5 v7) (shrI v6 1)))
  (jn (d_xdo_j4 L1 v3) v6)
def d_xdo_j5 (v10 : Int) : Option Int :=
 some (xorI v10 4294967295)
def d_xdo_l1 (p0 : (List UInt8)) (L1 : (Int × Int) → Option Int) (x_ : (Int × Int)) : Option Int :=
 match x_ with
 | (v2, v3) => br (decide (v3 < (↑p0.length : Int)))
  (bd (at? p0 v3) fun x4 =>
  loopN (d_xdo_l2 L1 v3) big ((xorI v2 (w64 (↑(UInt8.toNat x4) : Int)), 0)))
  (jn (d_xdo_j5) v2)
def d_xdo (p0 : (List UInt8)) : Option Int :=
 loopN (d_xdo_l1 p0) big (4294967295, 0)
def gf_xdo : GF := y_xdo.gf rfl rfl (fun a => d_xdo a.1) (fun a => by kernel_rfl)
def y_xdp : YF := ⟨[], [.v (.st 8), .v .i], [], .ret [.s], [.tmp 4],
 .seq (q1 [qu 2 0, .as 4 (.k (.str []))] [1, 2]) (.seq (q1 [qL 8 15 2, qc 9 gf_xdl rfl [8], qa 5 9] [1, 5]) (.seq (.seq (qr [qn [qm 10 5, .bin 11 .sl .eql (.tmp 10) (.k .nil), qm 12 11],
 qf 12 [qm 13 1, .call 14 gf_xbt [] rfl [.tmp 13, qj 0, qj 1000000], qx 15 14],
 qn [qp 16 12 15]] [1, 5, 16]) (.cond 16 [] [1, 5] (.seq (q1 [.as 4 (.k (.str []))] [4]) (.ret)) (.skip))) (.seq (.dreg (.op 0 none [] (.mv 17 (.tmp 1))
 (.op 3 none [] (.mv 20 (.tmp 5))
 (qd 1 [qn [qc 18 gf_xdm rfl [17], .cvBS 19 (.tmp 18)]] (.op 4 none [18] (.call 21 gf_xdn [] rfl [(.tmp 20)])
 (qd 5 [qn [qb 22 .add 19 21, qa 6 22]] .nil))))) [6]) (.seq (q1 [qm 23 6, .cvSB 24 (.tmp 23), qc 25 gf_xdo rfl [24], qa 7 25] [6, 7]) (.seq (q1 [qm 26 7, .bin 27 .num .shr (.tmp 26) (.k (.int .u64 24)), .cvI 28 .u8 (.tmp 27), qm 29 7, .bin 30 .num .shr (.tmp 29) (.k (.int .u64 16)), .cvI 31 .u8 (.tmp 30), qm 32 7, .bin 33 .num .shr (.tmp 32) (.k (.int .u64 8)), .cvI 34 .u8 (.tmp 33), qm 35 7, .cvI 36 .u8 (.tmp 35), .bslice 37 4 .u [(0, (.tmp 28)), (1, (.tmp 31)), (2, (.tmp 34)), (3, (.tmp 36))], .cvBS 38 (.tmp 37), qm 39 6, qb 40 .add 38 39, qa 4 40] [4]) (.ret))))))⟩
def d_xdp (p0 : GHouse) (p1 : Int) : Option (List UInt8) :=
 bd (d_xdl p0) fun x1 =>
 gd (List.isEmpty x1 = false) (
 bd (d_xbt p1 0 1000000) fun x2 =>
 br (!x2)
  (some [])
  (bd (d_xdm p1) fun x3 =>
  bd (d_xdn x1) fun x4 =>
  gd (List.length x3 + List.length x4 ≤ slim) (
  bd (d_xdo (x3 ++ x4)) fun x5 =>
  gd ([toB (shrI x5 24), toB (shrI x5 16), toB (shrI x5 8), toB x5].length + (x3 ++ x4).length ≤ slim) (
  some ([toB (shrI x5 24), toB (shrI x5 16), toB (shrI x5 8), toB x5] ++ (x3 ++ x4))))))
def gf_xdp : GF := y_xdp.gf rfl rfl (fun a => d_xdp a.1 a.2.1) (fun a => by kernel_rfl)
def y_xdq : YF := ⟨[], [.v (.st 8)], [], .ret [.z], [.tmp 2],
 .seq (q1 [qu 1 0, .as 2 (.k .nil)] [1]) (.seq (.seq (q1 [qL 11 15 1, qc 12 gf_xcy rfl [11], qx 13 12] [1, 13]) (.cond 13 [] [1] (.seq (q1 [.as 2 (.k .nil)] [2]) (.ret)) (.skip))) (.seq (q1 [qo 14 0 1, qL 15 9 14, qc 16 gf_xdk rfl [15], qa 3 16] [1, 3]) (.seq (q1 [qm 17 3, qz 18 17, .bslice 19 1 .i [(0, (.tmp 18))], qm 20 3, .app 21 .i true (.tmp 19) (.tmp 20), qa 4 21] [1, 4]) (.seq (q1 [qm 22 4, qo 23 9 1, ql 24 23, qo 25 10 1, ql 26 25, qo 27 11 1, ql 28 27, qz 29 28, .bslice 30 3 .i [(0, (.tmp 24)), (1, (.tmp 26)), (2, (.tmp 29))], .app 31 .i true (.tmp 22) (.tmp 30), qa 4 31] [1, 4]) (.join [(false, 4, .one, [.val (.l .i) none])] (.seq (q1 [qo 32 11 1, ql 33 32, qz 34 33, qk 35 0] [1, 4, 33, 34, 35]) (.block 0 (.loop [(false, 4, .one, [.val (.l .i) none]), (false, 35, .one, [.val .i none])] (.seq (q1 [qb 36 .lss 35 34] [1, 4, 33, 34, 35, 36]) (.seq (.cond 36 [1, 4, 33, 34, 35] [1, 4] (.skip) (.exit 0)) (.seq (.block 1 (.seq (q1 [qe 37 (.st 2) 33 35, qL 38 10 37, .alloc 6 [.int .i64 0, .int .i64 0, .int .i64 0, .int .i64 0, .int .i64 0, .int .i64 0, .int .i64 0, .int .i64 0, .int .i64 0, .int .i64 0], qw 10 6 38] [1, 4, 6, 33, 34, 35]) (q1 [qm 39 4, qo 40 0 6, ql 41 40, qo 42 1 6, ql 43 42, qo 44 2 6, ql 45 44, qi 46 .add 45 1, qo 47 3 6, ql 48 47, qo 49 4 6, ql 50 49, qo 51 5 6, ql 52 51, qo 53 6 6, ql 54 53, qo 55 7 6, ql 56 55, qo 57 8 6, ql 58 57, qo 59 9 6, ql 60 59, .bslice 61 10 .i [(0, (.tmp 41)), (1, (.tmp 43)), (2, (.tmp 46)), (3, (.tmp 48)), (4, (.tmp 50)), (5, (.tmp 52)), (6, (.tmp 54)), (7, (.tmp 56)), (8, (.tmp 58)), (9, (.tmp 60))], .app 62 .i true (.tmp 39) (.tmp 61), qa 4 62] [1, 4, 33, 34, 35]))) (q1 [qi 63 .add 35 1, qm 35 63] [1, 4, 33, 34, 35]))))))) (.join [(false, 4, .one, [.val (.l .i) none])] (.seq (q1 [qo 64 12 1, ql 65 64, qz 66 65, qk 67 0] [1, 4, 65, 66, 67]) (.block 2 (.loop [(false, 4, .one, [.val (.l .i) none]), (false, 67, .one, [.val .i none])] (.seq (q1 [qb 68 .lss 67 66] [1, 4, 65, 66, 67, 68]) (.seq (.cond 68 [1, 4, 65, 66, 67] [1, 4] (.skip) (.exit 2)) (.seq (.block 3 (.seq (q1 [qe 69 (.st 7) 65 67, qL 70 7 69, .alloc 8 [.int .i64 0, .int .i64 0, .int .i64 0, .int .i64 0, .int .i64 0, .nil, .nil], .nils [(.cell 8 5, (.st 4)), (.cell 8 6, (.l (.st 5)))], qw 7 8 70] [1, 4, 8, 65, 66, 67]) (q1 [qm 71 4, qo 72 0 8, qo 73 1 72, ql 74 73, .bslice 75 1 .i [(0, (.tmp 74))], .app 76 .i true (.tmp 71) (.tmp 75), qa 4 76] [1, 4, 65, 66, 67]))) (q1 [qi 77 .add 67 1, qm 67 77] [1, 4, 65, 66, 67]))))))) (.seq (q1 [qm 78 4, qo 79 13 1, ql 80 79, qz 81 80, .bslice 82 1 .i [(0, (.tmp 81))], .app 83 .i true (.tmp 78) (.tmp 82), qa 4 83] [1, 4]) (.seq (q1 [qm 84 4, qo 85 13 1, ql 86 85, .app 87 .i true (.tmp 84) (.tmp 86), qa 4 87] [1, 4]) (.join [(false, 4, .one, [.val (.l .i) none])] (.seq (q1 [qo 88 14 1, ql 89 88, qz 90 89, qk 91 0] [4, 89, 90, 91]) (.block 4 (.loop [(false, 4, .one, [.val (.l .i) none]), (false, 91, .one, [.val .i none])] (.seq (q1 [qb 92 .lss 91 90] [4, 89, 90, 91, 92]) (.seq (.cond 92 [4, 89, 90, 91] [4] (.skip) (.exit 4)) (.seq (.block 5 (.seq (q1 [qe 93 .i 89 91, ql 94 93, qa 10 94] [4, 10, 89, 90, 91]) (q1 [qm 95 4, qm 96 10, qi 97 .add 96 1, .bslice 98 1 .i [(0, (.tmp 97))], .app 99 .i true (.tmp 95) (.tmp 98), qa 4 99] [4, 89, 90, 91]))) (q1 [qi 100 .add 91 1, qm 91 100] [4, 89, 90, 91]))))))) (.seq (q1 [qm 101 4, qa 2 101] [2]) (.ret)))))))))))⟩
def d_xdq_j6 (v17 : (List Int)) : Option PUnit :=
 none
def d_xdq_l5 (p0 : GHouse) (L13 : ((List Int) × Int) → Option PUnit) (x_ : ((List Int) × Int)) : Option PUnit :=
 match x_ with
 | (v14, v15) => br (decide (v15 < (↑p0.Jobs.length : Int)))
  (bd (at? p0.Jobs v15) fun x16 =>
  gd (List.length v14 + [w64 (x16 + 1)].length ≤ lim) (
  L13 ((v14 ++ [w64 (x16 + 1)], w64 (v15 + 1)))))
  (jn (d_xdq_j6) v14)
def d_xdq_j4 (p0 : GHouse) (v12 : (List Int)) : Option PUnit :=
 gd (v12.length + [(↑p0.Todo.length : Int)].length ≤ lim) (
 gd ((v12 ++ [(↑p0.Todo.length : Int)]).length + p0.Todo.length ≤ lim) (
 loopN (d_xdq_l5 p0) big ((v12 ++ [(↑p0.Todo.length : Int)] ++ p0.Todo, 0))))
def d_xdq_l3 (p0 : GHouse) (L8 : ((List Int) × Int) → Option PUnit) (x_ : ((List Int) × Int)) : Option PUnit :=
 match x_ with
 | (v9, v10) => br (decide (v10 < (↑p0.Cabins.length : Int)))
  (bd (at? p0.Cabins v10) fun x11 =>
  gd (List.length v9 + [x11.Seats.Free].length ≤ lim) (
  L8 ((v9 ++ [x11.Seats.Free], w64 (v10 + 1)))))
  (jn (d_xdq_j4 p0) v9)
def d_xdq_j2 (p0 : GHouse) (v7 : (List Int)) : Option PUnit :=
 loopN (d_xdq_l3 p0) big (v7, 0)
def d_xdq_l1 (p0 : GHouse) (L3 : ((List Int) × Int) → Option PUnit) (x_ : ((List Int) × Int)) : Option PUnit :=
 match x_ with
 | (v4, v5) => br (decide (v5 < (↑p0.Parties.length : Int)))
  (bd (at? p0.Parties v5) fun x6 =>
  gd (List.length v4 + [x6.Id, x6.Cabin, w64 (x6.From + 1), x6.Size, x6.Tier, x6.Since, x6.Turn, x6.State, x6.Until, x6.Asked].length ≤ lim) (
  L3 ((v4 ++ [x6.Id, x6.Cabin, w64 (x6.From + 1), x6.Size, x6.Tier, x6.Since, x6.Turn, x6.State, x6.Until, x6.Asked], w64 (v5 + 1)))))
  (jn (d_xdq_j2 p0) v4)
def d_xdq (p0 : GHouse) : Option PUnit :=
 bd (d_xcy p0) fun x1 =>
 br (!x1)
  (some ())
  (bd (d_xdk p0.Rules) fun x2 =>
  gd ([(↑(List.length x2) : Int)].length + List.length x2 ≤ lim) (
  gd (([(↑(List.length x2) : Int)] ++ x2).length + [p0.Now, p0.Turn, (↑p0.Parties.length : Int)].length ≤ lim) (
  loopN (d_xdq_l1 p0) big (([(↑(List.length x2) : Int)] ++ x2 ++ [p0.Now, p0.Turn, (↑p0.Parties.length : Int)], 0)))))
def gf_xdq : GF := y_xdq.gf rfl rfl (fun a => d_xdq a.1) (fun a => by kernel_rfl)
def y_xdr : YF := ⟨[], [.v (.st 8), .v .i], [], .ret [.s], [.tmp 4],
 .seq (q1 [qu 2 0, .as 4 (.k (.str []))] [1, 2]) (.seq (q1 [qL 8 15 2, qc 9 gf_xdq rfl [8], qa 5 9] [1, 5]) (.seq (.seq (qr [qn [qm 10 5, .bin 11 .sl .eql (.tmp 10) (.k .nil), qm 12 11],
 qf 12 [qm 13 1, .call 14 gf_xbt [] rfl [.tmp 13, qj 0, qj 1000000], qx 15 14],
 qn [qp 16 12 15]] [1, 5, 16]) (.cond 16 [] [1, 5] (.seq (q1 [.as 4 (.k (.str []))] [4]) (.ret)) (.skip))) (.seq (.dreg (.op 0 none [] (.mv 17 (.tmp 1))
 (.op 3 none [] (.mv 20 (.tmp 5))
 (qd 1 [qn [qc 18 gf_xdm rfl [17], .cvBS 19 (.tmp 18)]] (.op 4 none [18] (.call 21 gf_xdn [] rfl [(.tmp 20)])
 (qd 5 [qn [qb 22 .add 19 21, qa 6 22]] .nil))))) [6]) (.seq (q1 [qm 23 6, .cvSB 24 (.tmp 23), qc 25 gf_xdo rfl [24], qa 7 25] [6, 7]) (.seq (q1 [qm 26 7, .bin 27 .num .shr (.tmp 26) (.k (.int .u64 24)), .cvI 28 .u8 (.tmp 27), qm 29 7, .bin 30 .num .shr (.tmp 29) (.k (.int .u64 16)), .cvI 31 .u8 (.tmp 30), qm 32 7, .bin 33 .num .shr (.tmp 32) (.k (.int .u64 8)), .cvI 34 .u8 (.tmp 33), qm 35 7, .cvI 36 .u8 (.tmp 35), .bslice 37 4 .u [(0, (.tmp 28)), (1, (.tmp 31)), (2, (.tmp 34)), (3, (.tmp 36))], .cvBS 38 (.tmp 37), qm 39 6, qb 40 .add 38 39, qa 4 40] [4]) (.ret))))))⟩
def d_xdr (p0 : GHouse) (p1 : Int) : Option (List UInt8) :=
 bd (d_xdq p0) fun x1 =>
 some []
def gf_xdr : GF := y_xdr.gf rfl rfl (fun a => d_xdr a.1 a.2.1) (fun a => by kernel_rfl)
def d_xds (p0 : GHouse) (p1 : Int) : Option (List UInt8) := orE (d_xdp p0 p1) (d_xdr p0 p1)
def gf_xds : GF := gf_xdp.orE (fun a => d_xds a.1 a.2.1) (fun a => d_xdr a.1 a.2.1) (fun a => by kernel_rfl) (fun a r h => Eq.mp (by kernel_rfl) (gf_xdr.ok a r h))
def y_laws_FnExactSnapText : YF := ⟨[], [.v (.st 8), .v .i], [], .ret [.b], [.tmp 4],
 .seq (q1 [qu 2 0, qB 4 false] [1, 2]) (.seq (q1 [qK 5 1048576] [1, 2, 5]) (.seq (q1 [qL 9 15 2, qm 10 5, qc 11 gf_xj rfl [9, 10], qa 5 11] [1, 2, 5]) (.seq (.seq (q1 [qm 12 5, qi 13 .lss 12 0] [1, 2, 13]) (.cond 13 [] [1, 2] (.seq (q1 [qB 4 true] [4]) (.ret)) (.skip))) (.seq (q1 [qL 14 15 2, qc 15 gf_xx rfl [14], qm 16 1, qc 17 gf_xdj rfl [15, 16], qa 6 17] [1, 2, 6]) (.seq (q1 [qL 18 15 2, qc 19 gf_xx rfl [18], .alloc 7 [.nil, .int .i64 0, .int .i64 0, .int .i64 0, .int .i64 0, .int .i64 0, .int .i64 0, .int .i64 0, .int .i64 0, .int .i64 0, .int .i64 0, .nil, .nil, .nil, .nil], .nils [(.cell 7 0, .i), (.cell 7 11, (.st 2)), (.cell 7 12, (.st 7)), (.cell 7 13, .i), (.cell 7 14, .i)], qw 15 7 19] [1, 2, 6, 7]) (.seq (q1 [qL 20 15 7, qm 21 1, qc 22 gf_xds rfl [20, 21], qa 8 22] [2, 6, 7, 8]) (.seq (.seq (q1 [qm 23 8, qm 24 6, qb 25 .neq 23 24] [2, 7, 25]) (.cond 25 [] [2, 7] (.seq (q1 [qB 4 false] [4]) (.ret)) (.skip))) (.seq (.seq (.dreg (qd 0 [qn [qL 26 15 7, qL 27 15 2]] (.op 2 none [7] (.call 28 gf_xx [] rfl [(.tmp 27)])
 (qd 3 [qn [qc 29 gf_xdc rfl [26, 28], qx 30 29]] .nil))) [30]) (.cond 30 [] [] (.seq (q1 [qB 4 false] [4]) (.ret)) (.skip))) (.seq (q1 [qB 4 true] [4]) (.ret))))))))))⟩
def d_laws_FnExactSnapText (p0 : GHouse) (p1 : Int) : Option Bool :=
 bd (d_xj p0 1048576) fun x1 =>
 br (decide (x1 < 0))
  (some true)
  (bd (d_xx p0) fun x2 =>
  bd (d_xdj x2 p1) fun x3 =>
  bd (d_xx p0) fun x4 =>
  bd (d_xds x4 p1) fun x5 =>
  br (x5 != x3)
   (some false)
   (bd (d_xx p0) fun x6 =>
   bd (d_xdc x4 x6) fun x7 =>
   br (!x7)
    (some false)
    (some true)))
def gf_laws_FnExactSnapText : GF := y_laws_FnExactSnapText.gf rfl rfl (fun a => d_laws_FnExactSnapText a.1 a.2.1) (fun a => by kernel_rfl)
def y_xdt : YF := ⟨[], [.v (.st 8)], [], .ret [(.l .i)], [.tmp 2],
 .seq (q1 [qu 1 0, .as 2 (.k .nil), .nils [(.tmp 2 0, .i)]] [1]) (.seq (.seq (q1 [qL 11 15 1, qc 12 gf_xcy rfl [11], qx 13 12] [1, 13]) (.cond 13 [] [1] (.seq (q1 [.as 2 (.k .nil), .nils [(.tmp 2 0, .i)]] [2]) (.ret)) (.skip))) (.seq (q1 [qo 14 0 1, qL 15 9 14, qc 16 gf_xdk rfl [15], qa 3 16] [1, 3]) (.seq (q1 [qm 17 3, qz 18 17, .bslice 19 1 .i [(0, (.tmp 18))], qm 20 3, .app 21 .i true (.tmp 19) (.tmp 20), qa 4 21] [1, 4]) (.seq (q1 [qm 22 4, qo 23 9 1, ql 24 23, qo 25 10 1, ql 26 25, qo 27 11 1, ql 28 27, qz 29 28, .bslice 30 3 .i [(0, (.tmp 24)), (1, (.tmp 26)), (2, (.tmp 29))], .app 31 .i true (.tmp 22) (.tmp 30), qa 4 31] [1, 4]) (.join [(false, 4, .one, [.val (.l .i) none])] (.seq (q1 [qo 32 11 1, ql 33 32, qz 34 33, qk 35 0] [1, 4, 33, 34, 35]) (.block 0 (.loop [(false, 4, .one, [.val (.l .i) none]), (false, 35, .one, [.val .i none])] (.seq (q1 [qb 36 .lss 35 34] [1, 4, 33, 34, 35, 36]) (.seq (.cond 36 [1, 4, 33, 34, 35] [1, 4] (.skip) (.exit 0)) (.seq (.block 1 (.seq (q1 [qe 37 (.st 2) 33 35, qL 38 10 37, .alloc 6 [.int .i64 0, .int .i64 0, .int .i64 0, .int .i64 0, .int .i64 0, .int .i64 0, .int .i64 0, .int .i64 0, .int .i64 0, .int .i64 0], qw 10 6 38] [1, 4, 6, 33, 34, 35]) (q1 [qm 39 4, qo 40 0 6, ql 41 40, qo 42 1 6, ql 43 42, qo 44 2 6, ql 45 44, qi 46 .add 45 1, qo 47 3 6, ql 48 47, qo 49 4 6, ql 50 49, qo 51 5 6, ql 52 51, qo 53 6 6, ql 54 53, qo 55 7 6, ql 56 55, qo 57 8 6, ql 58 57, qo 59 9 6, ql 60 59, .bslice 61 10 .i [(0, (.tmp 41)), (1, (.tmp 43)), (2, (.tmp 46)), (3, (.tmp 48)), (4, (.tmp 50)), (5, (.tmp 52)), (6, (.tmp 54)), (7, (.tmp 56)), (8, (.tmp 58)), (9, (.tmp 60))], .app 62 .i true (.tmp 39) (.tmp 61), qa 4 62] [1, 4, 33, 34, 35]))) (q1 [qi 63 .add 35 1, qm 35 63] [1, 4, 33, 34, 35]))))))) (.join [(false, 4, .one, [.val (.l .i) none])] (.seq (q1 [qo 64 12 1, ql 65 64, qz 66 65, qk 67 0] [1, 4, 65, 66, 67]) (.block 2 (.loop [(false, 4, .one, [.val (.l .i) none]), (false, 67, .one, [.val .i none])] (.seq (q1 [qb 68 .lss 67 66] [1, 4, 65, 66, 67, 68]) (.seq (.cond 68 [1, 4, 65, 66, 67] [1, 4] (.skip) (.exit 2)) (.seq (.block 3 (.seq (q1 [qe 69 (.st 7) 65 67, qL 70 7 69, .alloc 8 [.int .i64 0, .int .i64 0, .int .i64 0, .int .i64 0, .int .i64 0, .nil, .nil], .nils [(.cell 8 5, (.st 4)), (.cell 8 6, (.l (.st 5)))], qw 7 8 70] [1, 4, 8, 65, 66, 67]) (q1 [qm 71 4, qo 72 0 8, qo 73 1 72, ql 74 73, .bslice 75 1 .i [(0, (.tmp 74))], .app 76 .i true (.tmp 71) (.tmp 75), qa 4 76] [1, 4, 65, 66, 67]))) (q1 [qi 77 .add 67 1, qm 67 77] [1, 4, 65, 66, 67]))))))) (.seq (q1 [qm 78 4, qo 79 13 1, ql 80 79, qz 81 80, .bslice 82 1 .i [(0, (.tmp 81))], .app 83 .i true (.tmp 78) (.tmp 82), qa 4 83] [1, 4]) (.seq (q1 [qm 84 4, qo 85 13 1, ql 86 85, .app 87 .i true (.tmp 84) (.tmp 86), qa 4 87] [1, 4]) (.join [(false, 4, .one, [.val (.l .i) none])] (.seq (q1 [qo 88 14 1, ql 89 88, qz 90 89, qk 91 0] [4, 89, 90, 91]) (.block 4 (.loop [(false, 4, .one, [.val (.l .i) none]), (false, 91, .one, [.val .i none])] (.seq (q1 [qb 92 .lss 91 90] [4, 89, 90, 91, 92]) (.seq (.cond 92 [4, 89, 90, 91] [4] (.skip) (.exit 4)) (.seq (.block 5 (.seq (q1 [qe 93 .i 89 91, ql 94 93, qa 10 94] [4, 10, 89, 90, 91]) (q1 [qm 95 4, qm 96 10, qi 97 .add 96 1, .bslice 98 1 .i [(0, (.tmp 97))], .app 99 .i true (.tmp 95) (.tmp 98), qa 4 99] [4, 89, 90, 91]))) (q1 [qi 100 .add 91 1, qm 91 100] [4, 89, 90, 91]))))))) (.seq (q1 [qm 101 4, qa 2 101] [2]) (.ret)))))))))))⟩
def d_xdt_j6 (v17 : (List Int)) : Option (List Int) :=
 some v17
def d_xdt_l5 (p0 : GHouse) (L13 : ((List Int) × Int) → Option (List Int)) (x_ : ((List Int) × Int)) : Option (List Int) :=
 match x_ with
 | (v14, v15) => br (decide (v15 < (↑p0.Jobs.length : Int)))
  (bd (at? p0.Jobs v15) fun x16 =>
  gd (List.length v14 + [w64 (x16 + 1)].length ≤ lim) (
  L13 ((v14 ++ [w64 (x16 + 1)], w64 (v15 + 1)))))
  (jn (d_xdt_j6) v14)
def d_xdt_j4 (p0 : GHouse) (v12 : (List Int)) : Option (List Int) :=
 gd (v12.length + [(↑p0.Todo.length : Int)].length ≤ lim) (
 gd ((v12 ++ [(↑p0.Todo.length : Int)]).length + p0.Todo.length ≤ lim) (
 loopN (d_xdt_l5 p0) big ((v12 ++ [(↑p0.Todo.length : Int)] ++ p0.Todo, 0))))
def d_xdt_l3 (p0 : GHouse) (L8 : ((List Int) × Int) → Option (List Int)) (x_ : ((List Int) × Int)) : Option (List Int) :=
 match x_ with
 | (v9, v10) => br (decide (v10 < (↑p0.Cabins.length : Int)))
  (bd (at? p0.Cabins v10) fun x11 =>
  gd (List.length v9 + [x11.Seats.Free].length ≤ lim) (
  L8 ((v9 ++ [x11.Seats.Free], w64 (v10 + 1)))))
  (jn (d_xdt_j4 p0) v9)
def d_xdt_j2 (p0 : GHouse) (v7 : (List Int)) : Option (List Int) :=
 loopN (d_xdt_l3 p0) big (v7, 0)
def d_xdt_l1 (p0 : GHouse) (L3 : ((List Int) × Int) → Option (List Int)) (x_ : ((List Int) × Int)) : Option (List Int) :=
 match x_ with
 | (v4, v5) => br (decide (v5 < (↑p0.Parties.length : Int)))
  (bd (at? p0.Parties v5) fun x6 =>
  gd (List.length v4 + [x6.Id, x6.Cabin, w64 (x6.From + 1), x6.Size, x6.Tier, x6.Since, x6.Turn, x6.State, x6.Until, x6.Asked].length ≤ lim) (
  L3 ((v4 ++ [x6.Id, x6.Cabin, w64 (x6.From + 1), x6.Size, x6.Tier, x6.Since, x6.Turn, x6.State, x6.Until, x6.Asked], w64 (v5 + 1)))))
  (jn (d_xdt_j2 p0) v4)
def d_xdt (p0 : GHouse) : Option (List Int) :=
 bd (d_xcy p0) fun x1 =>
 br (!x1)
  (some [])
  (bd (d_xdk p0.Rules) fun x2 =>
  gd ([(↑(List.length x2) : Int)].length + List.length x2 ≤ lim) (
  gd (([(↑(List.length x2) : Int)] ++ x2).length + [p0.Now, p0.Turn, (↑p0.Parties.length : Int)].length ≤ lim) (
  loopN (d_xdt_l1 p0) big (([(↑(List.length x2) : Int)] ++ x2 ++ [p0.Now, p0.Turn, (↑p0.Parties.length : Int)], 0)))))
def gf_xdt : GF := y_xdt.gf rfl rfl (fun a => d_xdt a.1) (fun a => by kernel_rfl)
def y_xdu : YF := ⟨[], [.m (.l .i), .v .i], [], .ret [.i], [.tmp 4],
 .seq (q1 [qK 4 0] [0, 1]) (.join [(false, 0, .one, [.val (.l .i) none]), (false, 1, .one, [.val .i none])] (.seq (q1 [qK 5 0] [0, 1, 5]) (.block 0 (.loop [(false, 0, .one, [.val (.l .i) none]), (false, 1, .one, [.val .i none]), (false, 5, .one, [.val .i none])] (.seq (.seq (q1 [qm 6 5, qm 7 0, qz 8 7, qb 9 .lss 6 8] [0, 1, 5, 9]) (.cond 9 [0, 1, 5] [0, 1] (.skip) (.exit 0))) (.seq (.block 1 (.join [(false, 0, .one, [.val (.l .i) none]), (false, 1, .one, [.val .i none]), (false, 5, .one, [.val .i none])] (q1 [qm 12 0, qm 13 5, qm 14 1, qe 15 .i 12 13, qw 1 15 14] [0, 1, 5]) (q1 [qm 16 1, qi 17 .add 16 1, qa 1 17] [0, 1, 5]))) (q1 [qm 10 5, qi 11 .add 10 1, qa 5 11] [0, 1, 5])))))) (.seq (q1 [qm 18 1, qa 4 18] [0, 4]) (.ret)))⟩
def d_xdu_j2 (L1 : ((List Int) × Int × Int) → Option (Int × (List Int))) (x_ : ((List Int) × Int × Int)) : Option (Int × (List Int)) :=
 match x_ with
 | (v7, v8, v9) => L1 ((v7, w64 (v8 + 1), w64 (v9 + 1)))
def d_xdu_j3 (x_ : ((List Int) × Int)) : Option (Int × (List Int)) :=
 match x_ with
 | (v10, v11) => some (v11, v10)
def d_xdu_l1 (L1 : ((List Int) × Int × Int) → Option (Int × (List Int))) (x_ : ((List Int) × Int × Int)) : Option (Int × (List Int)) :=
 match x_ with
 | (v2, v3, v4) => br (decide (v4 < (↑(List.length v2) : Int)))
  (bd (at? v2 v4) fun x5 =>
  bd (at? v2 v4) fun x6 =>
  jn (d_xdu_j2 L1) (List.set v2 v4.toNat v3, v3, v4))
  (jn (d_xdu_j3) (v2, v3))
def d_xdu (p0 : (List Int)) (p1 : Int) : Option (Int × (List Int)) :=
 loopN (d_xdu_l1) big (p0, p1, 0)
def gf_xdu : GF := y_xdu.gf rfl rfl (fun a => d_xdu a.1 a.2.1) (fun a => by kernel_rfl)
def y_xdv : YF := ⟨[], [.m (.st 1), .v .i], [], .ret [.i], [.tmp 4],
 .seq (q1 [qu 2 0, qK 4 0] [0, 1, 2]) (.seq (q1 [qo 5 0 2, ql 6 5, qm 7 1, qc 8 gf_xdu rfl [6, 7], qa 1 8] [0, 1]) (.seq (q1 [qm 9 1, qa 4 9] [0, 4]) (.ret)))⟩
def d_xdv (p0 : GRules) (p1 : Int) : Option (Int × GRules) :=
 bd (d_xdu p0.Seats p1) fun x1 =>
 some (x1.fst, GRules.mk x1.snd p0.Tiers p0.Room p0.Size p0.Period p0.Window p0.Rest p0.Tries p0.Crew)
def gf_xdv : GF := y_xdv.gf rfl rfl (fun a => d_xdv a.1 a.2.1) (fun a => by kernel_rfl)
def y_xdw : YF := ⟨[], [.m (.l (.st 2)), .v .i], [], .ret [.i], [.tmp 4],
 .seq (q1 [qK 4 0] [0, 1]) (.join [(false, 0, .one, [.val (.l (.st 2)) none]), (false, 1, .one, [.val .i none])] (.seq (q1 [qK 5 0] [0, 1, 5]) (.block 0 (.loop [(false, 0, .one, [.val (.l (.st 2)) none]), (false, 1, .one, [.val .i none]), (false, 5, .one, [.val .i none])] (.seq (.seq (q1 [qm 6 5, qm 7 0, qz 8 7, qb 9 .lss 6 8] [0, 1, 5, 9]) (.cond 9 [0, 1, 5] [0, 1] (.skip) (.exit 0))) (.seq (.block 1 (.join [(false, 0, .one, [.val (.l (.st 2)) none]), (false, 1, .one, [.val .i none]), (false, 5, .one, [.val .i none])] (q1 [qm 12 0, qm 13 5, qm 14 1, qe 15 (.st 2) 12 13, qo 16 0 15, qw 1 16 14] [0, 1, 5]) (.seq (q1 [qm 17 1, qi 18 .add 17 1, qa 1 18] [0, 1, 5]) (.join [(false, 0, .one, [.val (.l (.st 2)) none]), (false, 1, .one, [.val .i none]), (false, 5, .one, [.val .i none])] (q1 [qm 19 0, qm 20 5, qm 21 1, qe 22 (.st 2) 19 20, qo 23 1 22, qw 1 23 21] [0, 1, 5]) (.seq (q1 [qm 24 1, qi 25 .add 24 1, qa 1 25] [0, 1, 5]) (.join [(false, 0, .one, [.val (.l (.st 2)) none]), (false, 1, .one, [.val .i none]), (false, 5, .one, [.val .i none])] (q1 [qm 26 0, qm 27 5, qm 28 1, qe 29 (.st 2) 26 27, qo 30 2 29, qw 1 30 28] [0, 1, 5]) (.seq (q1 [qm 31 1, qi 32 .add 31 1, qa 1 32] [0, 1, 5]) (.join [(false, 0, .one, [.val (.l (.st 2)) none]), (false, 1, .one, [.val .i none]), (false, 5, .one, [.val .i none])] (q1 [qm 33 0, qm 34 5, qm 35 1, qe 36 (.st 2) 33 34, qo 37 3 36, qw 1 37 35] [0, 1, 5]) (.seq (q1 [qm 38 1, qi 39 .add 38 1, qa 1 39] [0, 1, 5]) (.join [(false, 0, .one, [.val (.l (.st 2)) none]), (false, 1, .one, [.val .i none]), (false, 5, .one, [.val .i none])] (q1 [qm 40 0, qm 41 5, qm 42 1, qe 43 (.st 2) 40 41, qo 44 4 43, qw 1 44 42] [0, 1, 5]) (.seq (q1 [qm 45 1, qi 46 .add 45 1, qa 1 46] [0, 1, 5]) (.join [(false, 0, .one, [.val (.l (.st 2)) none]), (false, 1, .one, [.val .i none]), (false, 5, .one, [.val .i none])] (q1 [qm 47 0, qm 48 5, qm 49 1, qe 50 (.st 2) 47 48, qo 51 5 50, qw 1 51 49] [0, 1, 5]) (.seq (q1 [qm 52 1, qi 53 .add 52 1, qa 1 53] [0, 1, 5]) (.join [(false, 0, .one, [.val (.l (.st 2)) none]), (false, 1, .one, [.val .i none]), (false, 5, .one, [.val .i none])] (q1 [qm 54 0, qm 55 5, qm 56 1, qe 57 (.st 2) 54 55, qo 58 6 57, qw 1 58 56] [0, 1, 5]) (.seq (q1 [qm 59 1, qi 60 .add 59 1, qa 1 60] [0, 1, 5]) (.join [(false, 0, .one, [.val (.l (.st 2)) none]), (false, 1, .one, [.val .i none]), (false, 5, .one, [.val .i none])] (q1 [qm 61 0, qm 62 5, qm 63 1, qe 64 (.st 2) 61 62, qo 65 7 64, qw 1 65 63] [0, 1, 5]) (.seq (q1 [qm 66 1, qi 67 .add 66 1, qa 1 67] [0, 1, 5]) (.join [(false, 0, .one, [.val (.l (.st 2)) none]), (false, 1, .one, [.val .i none]), (false, 5, .one, [.val .i none])] (q1 [qm 68 0, qm 69 5, qm 70 1, qe 71 (.st 2) 68 69, qo 72 8 71, qw 1 72 70] [0, 1, 5]) (.seq (q1 [qm 73 1, qi 74 .add 73 1, qa 1 74] [0, 1, 5]) (.join [(false, 0, .one, [.val (.l (.st 2)) none]), (false, 1, .one, [.val .i none]), (false, 5, .one, [.val .i none])] (q1 [qm 75 0, qm 76 5, qm 77 1, qe 78 (.st 2) 75 76, qo 79 9 78, qw 1 79 77] [0, 1, 5]) (q1 [qm 80 1, qi 81 .add 80 1, qa 1 81] [0, 1, 5]))))))))))))))))))))) (q1 [qm 10 5, qi 11 .add 10 1, qa 5 11] [0, 1, 5])))))) (.seq (q1 [qm 82 1, qa 4 82] [0, 4]) (.ret)))⟩
def d_xdw_j11 (L1 : ((List GParty) × Int × Int) → Option (Int × (List GParty))) (x_ : ((List GParty) × Int × Int)) : Option (Int × (List GParty)) :=
 match x_ with
 | (v52, v53, v54) => L1 ((v52, w64 (v53 + 1), w64 (v54 + 1)))
def d_xdw_j10 (L1 : ((List GParty) × Int × Int) → Option (Int × (List GParty))) (x_ : ((List GParty) × Int × Int)) : Option (Int × (List GParty)) :=
 match x_ with
 | (v47, v48, v49) => bd (at? v47 v49) fun x50 =>
 bd (at? v47 v49) fun x51 =>
 jn (d_xdw_j11 L1) ((List.set v47 v49.toNat (GParty.mk x51.Id x51.Cabin x51.From x51.Size x51.Tier x51.Since x51.Turn x51.State x51.Until (w64 (v48 + 1))), w64 (v48 + 1), v49))
def d_xdw_j9 (L1 : ((List GParty) × Int × Int) → Option (Int × (List GParty))) (x_ : ((List GParty) × Int × Int)) : Option (Int × (List GParty)) :=
 match x_ with
 | (v42, v43, v44) => bd (at? v42 v44) fun x45 =>
 bd (at? v42 v44) fun x46 =>
 jn (d_xdw_j10 L1) ((List.set v42 v44.toNat (GParty.mk x46.Id x46.Cabin x46.From x46.Size x46.Tier x46.Since x46.Turn x46.State (w64 (v43 + 1)) x46.Asked), w64 (v43 + 1), v44))
def d_xdw_j8 (L1 : ((List GParty) × Int × Int) → Option (Int × (List GParty))) (x_ : ((List GParty) × Int × Int)) : Option (Int × (List GParty)) :=
 match x_ with
 | (v37, v38, v39) => bd (at? v37 v39) fun x40 =>
 bd (at? v37 v39) fun x41 =>
 jn (d_xdw_j9 L1) ((List.set v37 v39.toNat (GParty.mk x41.Id x41.Cabin x41.From x41.Size x41.Tier x41.Since x41.Turn (w64 (v38 + 1)) x41.Until x41.Asked), w64 (v38 + 1), v39))
def d_xdw_j7 (L1 : ((List GParty) × Int × Int) → Option (Int × (List GParty))) (x_ : ((List GParty) × Int × Int)) : Option (Int × (List GParty)) :=
 match x_ with
 | (v32, v33, v34) => bd (at? v32 v34) fun x35 =>
 bd (at? v32 v34) fun x36 =>
 jn (d_xdw_j8 L1) ((List.set v32 v34.toNat (GParty.mk x36.Id x36.Cabin x36.From x36.Size x36.Tier x36.Since (w64 (v33 + 1)) x36.State x36.Until x36.Asked), w64 (v33 + 1), v34))
def d_xdw_j6 (L1 : ((List GParty) × Int × Int) → Option (Int × (List GParty))) (x_ : ((List GParty) × Int × Int)) : Option (Int × (List GParty)) :=
 match x_ with
 | (v27, v28, v29) => bd (at? v27 v29) fun x30 =>
 bd (at? v27 v29) fun x31 =>
 jn (d_xdw_j7 L1) ((List.set v27 v29.toNat (GParty.mk x31.Id x31.Cabin x31.From x31.Size x31.Tier (w64 (v28 + 1)) x31.Turn x31.State x31.Until x31.Asked), w64 (v28 + 1), v29))
def d_xdw_j5 (L1 : ((List GParty) × Int × Int) → Option (Int × (List GParty))) (x_ : ((List GParty) × Int × Int)) : Option (Int × (List GParty)) :=
 match x_ with
 | (v22, v23, v24) => bd (at? v22 v24) fun x25 =>
 bd (at? v22 v24) fun x26 =>
 jn (d_xdw_j6 L1) ((List.set v22 v24.toNat (GParty.mk x26.Id x26.Cabin x26.From x26.Size (w64 (v23 + 1)) x26.Since x26.Turn x26.State x26.Until x26.Asked), w64 (v23 + 1), v24))
def d_xdw_j4 (L1 : ((List GParty) × Int × Int) → Option (Int × (List GParty))) (x_ : ((List GParty) × Int × Int)) : Option (Int × (List GParty)) :=
 match x_ with
 | (v17, v18, v19) => bd (at? v17 v19) fun x20 =>
 bd (at? v17 v19) fun x21 =>
 jn (d_xdw_j5 L1) ((List.set v17 v19.toNat (GParty.mk x21.Id x21.Cabin x21.From (w64 (v18 + 1)) x21.Tier x21.Since x21.Turn x21.State x21.Until x21.Asked), w64 (v18 + 1), v19))
def d_xdw_j3 (L1 : ((List GParty) × Int × Int) → Option (Int × (List GParty))) (x_ : ((List GParty) × Int × Int)) : Option (Int × (List GParty)) :=
 match x_ with
 | (v12, v13, v14) => bd (at? v12 v14) fun x15 =>
 bd (at? v12 v14) fun x16 =>
 jn (d_xdw_j4 L1) ((List.set v12 v14.toNat (GParty.mk x16.Id x16.Cabin (w64 (v13 + 1)) x16.Size x16.Tier x16.Since x16.Turn x16.State x16.Until x16.Asked), w64 (v13 + 1), v14))
def d_xdw_j2 (L1 : ((List GParty) × Int × Int) → Option (Int × (List GParty))) (x_ : ((List GParty) × Int × Int)) : Option (Int × (List GParty)) :=
 match x_ with
 | (v7, v8, v9) => bd (at? v7 v9) fun x10 =>
 bd (at? v7 v9) fun x11 =>
 jn (d_xdw_j3 L1) ((List.set v7 v9.toNat (GParty.mk x11.Id (w64 (v8 + 1)) x11.From x11.Size x11.Tier x11.Since x11.Turn x11.State x11.Until x11.Asked), w64 (v8 + 1), v9))
def d_xdw_j12 (x_ : ((List GParty) × Int)) : Option (Int × (List GParty)) :=
 match x_ with
 | (v55, v56) => some (v56, v55)
def d_xdw_l1 (L1 : ((List GParty) × Int × Int) → Option (Int × (List GParty))) (x_ : ((List GParty) × Int × Int)) : Option (Int × (List GParty)) :=
 match x_ with
 | (v2, v3, v4) => br (decide (v4 < (↑(List.length v2) : Int)))
  (bd (at? v2 v4) fun x5 =>
  bd (at? v2 v4) fun x6 =>
  jn (d_xdw_j2 L1) ((List.set v2 v4.toNat (GParty.mk v3 x6.Cabin x6.From x6.Size x6.Tier x6.Since x6.Turn x6.State x6.Until x6.Asked), v3, v4)))
  (jn (d_xdw_j12) (v2, v3))
def d_xdw (p0 : (List GParty)) (p1 : Int) : Option (Int × (List GParty)) :=
 loopN (d_xdw_l1) big (p0, p1, 0)
def gf_xdw : GF := y_xdw.gf rfl rfl (fun a => d_xdw a.1 a.2.1) (fun a => by kernel_rfl)
def y_xdx : YF := ⟨[], [.m (.l (.st 4)), .v .i], [], .ret [.i], [.tmp 4],
 .seq (q1 [qK 4 0] [0, 1]) (.join [(false, 0, .one, [.val (.l (.st 4)) none]), (false, 1, .one, [.val .i none])] (.seq (q1 [qK 5 0] [0, 1, 5]) (.block 0 (.loop [(false, 0, .one, [.val (.l (.st 4)) none]), (false, 1, .one, [.val .i none]), (false, 5, .one, [.val .i none])] (.seq (.seq (q1 [qm 6 5, qm 7 0, qz 8 7, qb 9 .lss 6 8] [0, 1, 5, 9]) (.cond 9 [0, 1, 5] [0, 1] (.skip) (.exit 0))) (.seq (.block 1 (.join [(false, 0, .one, [.val (.l (.st 4)) none]), (false, 1, .one, [.val .i none]), (false, 5, .one, [.val .i none])] (q1 [qm 12 0, qm 13 5, qm 14 1, qe 15 (.st 4) 12 13, qo 16 0 15, qw 1 16 14] [0, 1, 5]) (.seq (q1 [qm 17 1, qi 18 .add 17 1, qa 1 18] [0, 1, 5]) (.join [(false, 0, .one, [.val (.l (.st 4)) none]), (false, 1, .one, [.val .i none]), (false, 5, .one, [.val .i none])] (q1 [qm 19 0, qm 20 5, qm 21 1, qe 22 (.st 4) 19 20, qo 23 1 22, qw 1 23 21] [0, 1, 5]) (.seq (q1 [qm 24 1, qi 25 .add 24 1, qa 1 25] [0, 1, 5]) (.join [(false, 0, .one, [.val (.l (.st 4)) none]), (false, 1, .one, [.val .i none]), (false, 5, .one, [.val .i none])] (q1 [qm 26 0, qm 27 5, qm 28 1, qe 29 (.st 4) 26 27, qo 30 2 29, qw 1 30 28] [0, 1, 5]) (.seq (q1 [qm 31 1, qi 32 .add 31 1, qa 1 32] [0, 1, 5]) (.join [(false, 0, .one, [.val (.l (.st 4)) none]), (false, 1, .one, [.val .i none]), (false, 5, .one, [.val .i none])] (q1 [qm 33 0, qm 34 5, qm 35 1, qe 36 (.st 4) 33 34, qo 37 3 36, qw 1 37 35] [0, 1, 5]) (q1 [qm 38 1, qi 39 .add 38 1, qa 1 39] [0, 1, 5]))))))))) (q1 [qm 10 5, qi 11 .add 10 1, qa 5 11] [0, 1, 5])))))) (.seq (q1 [qm 40 1, qa 4 40] [0, 4]) (.ret)))⟩
def d_xdx_j5 (L1 : ((List GEntry) × Int × Int) → Option (Int × (List GEntry))) (x_ : ((List GEntry) × Int × Int)) : Option (Int × (List GEntry)) :=
 match x_ with
 | (v22, v23, v24) => L1 ((v22, w64 (v23 + 1), w64 (v24 + 1)))
def d_xdx_j4 (L1 : ((List GEntry) × Int × Int) → Option (Int × (List GEntry))) (x_ : ((List GEntry) × Int × Int)) : Option (Int × (List GEntry)) :=
 match x_ with
 | (v17, v18, v19) => bd (at? v17 v19) fun x20 =>
 bd (at? v17 v19) fun x21 =>
 jn (d_xdx_j5 L1) ((List.set v17 v19.toNat (GEntry.mk x21.Level x21.Turn x21.Id (w64 (v18 + 1))), w64 (v18 + 1), v19))
def d_xdx_j3 (L1 : ((List GEntry) × Int × Int) → Option (Int × (List GEntry))) (x_ : ((List GEntry) × Int × Int)) : Option (Int × (List GEntry)) :=
 match x_ with
 | (v12, v13, v14) => bd (at? v12 v14) fun x15 =>
 bd (at? v12 v14) fun x16 =>
 jn (d_xdx_j4 L1) ((List.set v12 v14.toNat (GEntry.mk x16.Level x16.Turn (w64 (v13 + 1)) x16.Size), w64 (v13 + 1), v14))
def d_xdx_j2 (L1 : ((List GEntry) × Int × Int) → Option (Int × (List GEntry))) (x_ : ((List GEntry) × Int × Int)) : Option (Int × (List GEntry)) :=
 match x_ with
 | (v7, v8, v9) => bd (at? v7 v9) fun x10 =>
 bd (at? v7 v9) fun x11 =>
 jn (d_xdx_j3 L1) ((List.set v7 v9.toNat (GEntry.mk x11.Level (w64 (v8 + 1)) x11.Id x11.Size), w64 (v8 + 1), v9))
def d_xdx_j6 (x_ : ((List GEntry) × Int)) : Option (Int × (List GEntry)) :=
 match x_ with
 | (v25, v26) => some (v26, v25)
def d_xdx_l1 (L1 : ((List GEntry) × Int × Int) → Option (Int × (List GEntry))) (x_ : ((List GEntry) × Int × Int)) : Option (Int × (List GEntry)) :=
 match x_ with
 | (v2, v3, v4) => br (decide (v4 < (↑(List.length v2) : Int)))
  (bd (at? v2 v4) fun x5 =>
  bd (at? v2 v4) fun x6 =>
  jn (d_xdx_j2 L1) ((List.set v2 v4.toNat (GEntry.mk v3 x6.Turn x6.Id x6.Size), v3, v4)))
  (jn (d_xdx_j6) (v2, v3))
def d_xdx (p0 : (List GEntry)) (p1 : Int) : Option (Int × (List GEntry)) :=
 loopN (d_xdx_l1) big (p0, p1, 0)
def gf_xdx : GF := y_xdx.gf rfl rfl (fun a => d_xdx a.1 a.2.1) (fun a => by kernel_rfl)
def y_xdy : YF := ⟨[], [.m (.l (.st 5)), .v .i], [], .ret [.i], [.tmp 4],
 .seq (q1 [qK 4 0] [0, 1]) (.join [(false, 0, .one, [.val (.l (.st 5)) none]), (false, 1, .one, [.val .i none])] (.seq (q1 [qK 5 0] [0, 1, 5]) (.block 0 (.loop [(false, 0, .one, [.val (.l (.st 5)) none]), (false, 1, .one, [.val .i none]), (false, 5, .one, [.val .i none])] (.seq (.seq (q1 [qm 6 5, qm 7 0, qz 8 7, qb 9 .lss 6 8] [0, 1, 5, 9]) (.cond 9 [0, 1, 5] [0, 1] (.skip) (.exit 0))) (.seq (.block 1 (.join [(false, 0, .one, [.val (.l (.st 5)) none]), (false, 1, .one, [.val .i none]), (false, 5, .one, [.val .i none])] (q1 [qm 12 0, qm 13 5, qm 14 1, qe 15 (.st 5) 12 13, qo 16 0 15, qw 1 16 14] [0, 1, 5]) (.seq (q1 [qm 17 1, qi 18 .add 17 1, qa 1 18] [0, 1, 5]) (.join [(false, 0, .one, [.val (.l (.st 5)) none]), (false, 1, .one, [.val .i none]), (false, 5, .one, [.val .i none])] (q1 [qm 19 0, qm 20 5, qm 21 1, qe 22 (.st 5) 19 20, qo 23 1 22, qw 1 23 21] [0, 1, 5]) (q1 [qm 24 1, qi 25 .add 24 1, qa 1 25] [0, 1, 5]))))) (q1 [qm 10 5, qi 11 .add 10 1, qa 5 11] [0, 1, 5])))))) (.seq (q1 [qm 26 1, qa 4 26] [0, 4]) (.ret)))⟩
def d_xdy_j3 (L1 : ((List GPin) × Int × Int) → Option (Int × (List GPin))) (x_ : ((List GPin) × Int × Int)) : Option (Int × (List GPin)) :=
 match x_ with
 | (v12, v13, v14) => L1 ((v12, w64 (v13 + 1), w64 (v14 + 1)))
def d_xdy_j2 (L1 : ((List GPin) × Int × Int) → Option (Int × (List GPin))) (x_ : ((List GPin) × Int × Int)) : Option (Int × (List GPin)) :=
 match x_ with
 | (v7, v8, v9) => bd (at? v7 v9) fun x10 =>
 bd (at? v7 v9) fun x11 =>
 jn (d_xdy_j3 L1) ((List.set v7 v9.toNat (GPin.mk x11.At (w64 (v8 + 1))), w64 (v8 + 1), v9))
def d_xdy_j4 (x_ : ((List GPin) × Int)) : Option (Int × (List GPin)) :=
 match x_ with
 | (v15, v16) => some (v16, v15)
def d_xdy_l1 (L1 : ((List GPin) × Int × Int) → Option (Int × (List GPin))) (x_ : ((List GPin) × Int × Int)) : Option (Int × (List GPin)) :=
 match x_ with
 | (v2, v3, v4) => br (decide (v4 < (↑(List.length v2) : Int)))
  (bd (at? v2 v4) fun x5 =>
  bd (at? v2 v4) fun x6 =>
  jn (d_xdy_j2 L1) ((List.set v2 v4.toNat (GPin.mk v3 x6.Id), v3, v4)))
  (jn (d_xdy_j4) (v2, v3))
def d_xdy (p0 : (List GPin)) (p1 : Int) : Option (Int × (List GPin)) :=
 loopN (d_xdy_l1) big (p0, p1, 0)
def gf_xdy : GF := y_xdy.gf rfl rfl (fun a => d_xdy a.1 a.2.1) (fun a => by kernel_rfl)
def y_xdz : YF := ⟨[], [.m (.l (.l (.st 5))), .v .i], [], .ret [.i], [.tmp 4],
 .seq (q1 [qK 4 0] [0, 1]) (.join [(false, 0, .one, [.val (.l (.l (.st 5))) none]), (false, 1, .one, [.val .i none])] (.seq (q1 [qK 5 0] [0, 1, 5]) (.block 0 (.loop [(false, 0, .one, [.val (.l (.l (.st 5))) none]), (false, 1, .one, [.val .i none]), (false, 5, .one, [.val .i none])] (.seq (.seq (q1 [qm 6 5, qm 7 0, qz 8 7, qb 9 .lss 6 8] [0, 1, 5, 9]) (.cond 9 [0, 1, 5] [0, 1] (.skip) (.exit 0))) (.seq (.block 1 (q1 [qm 12 0, qm 13 5, qe 14 (.l (.st 5)) 12 13, ql 15 14, qm 16 1, qc 17 gf_xdy rfl [15, 16], qa 1 17] [0, 1, 5])) (q1 [qm 10 5, qi 11 .add 10 1, qa 5 11] [0, 1, 5])))))) (.seq (q1 [qm 18 1, qa 4 18] [0, 4]) (.ret)))⟩
def d_xdz_j2 (x_ : ((List (List GPin)) × Int)) : Option (Int × (List (List GPin))) :=
 match x_ with
 | (v9, v10) => some (v10, v9)
def d_xdz_l1 (L1 : ((List (List GPin)) × Int × Int) → Option (Int × (List (List GPin)))) (x_ : ((List (List GPin)) × Int × Int)) : Option (Int × (List (List GPin))) :=
 match x_ with
 | (v2, v3, v4) => br (decide (v4 < (↑(List.length v2) : Int)))
  (bd (at? v2 v4) fun x5 =>
  bd (at? v2 v4) fun x6 =>
  bd (d_xdy x6 v3) fun x7 =>
  gd (v4.toNat = v4.toNat) (
  bd (v2[v4.toNat]?) fun x8 =>
  L1 ((List.set v2 v4.toNat x7.snd, x7.fst, w64 (v4 + 1)))))
  (jn (d_xdz_j2) (v2, v3))
def d_xdz (p0 : (List (List GPin))) (p1 : Int) : Option (Int × (List (List GPin))) :=
 loopN (d_xdz_l1) big (p0, p1, 0)
def gf_xdz : GF := y_xdz.gf rfl rfl (fun a => d_xdz a.1 a.2.1) (fun a => by kernel_rfl)
def y_xd0 : YF := ⟨[], [.m (.l (.st 7)), .v .i], [], .ret [.i], [.tmp 4],
 .seq (q1 [qK 4 0] [0, 1]) (.join [(false, 0, .one, [.val (.l (.st 7)) none]), (false, 1, .one, [.val .i none])] (.seq (q1 [qK 5 0] [0, 1, 5]) (.block 0 (.loop [(false, 0, .one, [.val (.l (.st 7)) none]), (false, 1, .one, [.val .i none]), (false, 5, .one, [.val .i none])] (.seq (.seq (q1 [qm 6 5, qm 7 0, qz 8 7, qb 9 .lss 6 8] [0, 1, 5, 9]) (.cond 9 [0, 1, 5] [0, 1] (.skip) (.exit 0))) (.seq (.block 1 (.join [(false, 0, .one, [.val (.l (.st 7)) none]), (false, 1, .one, [.val .i none]), (false, 5, .one, [.val .i none])] (q1 [qm 12 0, qm 13 5, qm 14 1, qe 15 (.st 7) 12 13, qo 16 0 15, qo 17 0 16, qw 1 17 14] [0, 1, 5]) (.seq (q1 [qm 18 1, qi 19 .add 18 1, qa 1 19] [0, 1, 5]) (.join [(false, 0, .one, [.val (.l (.st 7)) none]), (false, 1, .one, [.val .i none]), (false, 5, .one, [.val .i none])] (q1 [qm 20 0, qm 21 5, qm 22 1, qe 23 (.st 7) 20 21, qo 24 0 23, qo 25 1 24, qw 1 25 22] [0, 1, 5]) (.seq (q1 [qm 26 1, qi 27 .add 26 1, qa 1 27] [0, 1, 5]) (.join [(false, 0, .one, [.val (.l (.st 7)) none]), (false, 1, .one, [.val .i none]), (false, 5, .one, [.val .i none])] (q1 [qm 28 0, qm 29 5, qm 30 1, qe 31 (.st 7) 28 29, qo 32 0 31, qo 33 2 32, qw 1 33 30] [0, 1, 5]) (.seq (q1 [qm 34 1, qi 35 .add 34 1, qa 1 35] [0, 1, 5]) (.join [(false, 0, .one, [.val (.l (.st 7)) none]), (false, 1, .one, [.val .i none]), (false, 5, .one, [.val .i none])] (q1 [qm 36 0, qm 37 5, qm 38 1, qe 39 (.st 7) 36 37, qo 40 0 39, qo 41 3 40, qw 1 41 38] [0, 1, 5]) (.seq (q1 [qm 42 1, qi 43 .add 42 1, qa 1 43] [0, 1, 5]) (.join [(false, 0, .one, [.val (.l (.st 7)) none]), (false, 1, .one, [.val .i none]), (false, 5, .one, [.val .i none])] (q1 [qm 44 0, qm 45 5, qm 46 1, qe 47 (.st 7) 44 45, qo 48 0 47, qo 49 4 48, qw 1 49 46] [0, 1, 5]) (.seq (q1 [qm 50 1, qi 51 .add 50 1, qa 1 51] [0, 1, 5]) (.join [(false, 0, .one, [.val (.l (.st 7)) none]), (false, 1, .one, [.val .i none]), (false, 5, .one, [.val .i none])] (q1 [qm 52 0, qm 53 5, qe 54 (.st 7) 52 53, qo 55 5 54, ql 56 55, qm 57 1, qc 58 gf_xdx rfl [56, 57], qa 1 58] [0, 1, 5]) (q1 [qm 59 0, qm 60 5, qe 61 (.st 7) 59 60, qo 62 6 61, qo 63 0 62, ql 64 63, qm 65 1, qc 66 gf_xdz rfl [64, 65], qa 1 66] [0, 1, 5]))))))))))))) (q1 [qm 10 5, qi 11 .add 10 1, qa 5 11] [0, 1, 5])))))) (.seq (q1 [qm 67 1, qa 4 67] [0, 4]) (.ret)))⟩
def d_xd0_j7 (L1 : ((List GCabin) × Int × Int) → Option (Int × (List GCabin))) (x_ : ((List GCabin) × Int × Int)) : Option (Int × (List GCabin)) :=
 match x_ with
 | (v34, v35, v36) => bd (at? v34 v36) fun x37 =>
 bd (at? v34 v36) fun x38 =>
 bd (d_xdz x38.Wheel.Spoke v35) fun x39 =>
 gd (v36.toNat = v36.toNat) (
 bd (v34[v36.toNat]?) fun x40 =>
 L1 ((List.set v34 v36.toNat (GCabin.mk x40.Seats x40.Row (GWheel.mk x39.snd)), x39.fst, w64 (v36 + 1))))
def d_xd0_j6 (L1 : ((List GCabin) × Int × Int) → Option (Int × (List GCabin))) (x_ : ((List GCabin) × Int × Int)) : Option (Int × (List GCabin)) :=
 match x_ with
 | (v27, v28, v29) => bd (at? v27 v29) fun x30 =>
 bd (at? v27 v29) fun x31 =>
 bd (d_xdx x31.Row (w64 (v28 + 1))) fun x32 =>
 gd (v29.toNat = v29.toNat) (
 bd (v27[v29.toNat]?) fun x33 =>
 jn (d_xd0_j7 L1) ((List.set v27 v29.toNat (GCabin.mk x33.Seats x32.snd x33.Wheel), x32.fst, v29)))
def d_xd0_j5 (L1 : ((List GCabin) × Int × Int) → Option (Int × (List GCabin))) (x_ : ((List GCabin) × Int × Int)) : Option (Int × (List GCabin)) :=
 match x_ with
 | (v22, v23, v24) => bd (at? v22 v24) fun x25 =>
 bd (at? v22 v24) fun x26 =>
 jn (d_xd0_j6 L1) ((List.set v22 v24.toNat (GCabin.mk (GLedger.mk x26.Seats.Total x26.Seats.Free x26.Seats.Held x26.Seats.Sold (w64 (v23 + 1))) x26.Row x26.Wheel), w64 (v23 + 1), v24))
def d_xd0_j4 (L1 : ((List GCabin) × Int × Int) → Option (Int × (List GCabin))) (x_ : ((List GCabin) × Int × Int)) : Option (Int × (List GCabin)) :=
 match x_ with
 | (v17, v18, v19) => bd (at? v17 v19) fun x20 =>
 bd (at? v17 v19) fun x21 =>
 jn (d_xd0_j5 L1) ((List.set v17 v19.toNat (GCabin.mk (GLedger.mk x21.Seats.Total x21.Seats.Free x21.Seats.Held (w64 (v18 + 1)) x21.Seats.Tied) x21.Row x21.Wheel), w64 (v18 + 1), v19))
def d_xd0_j3 (L1 : ((List GCabin) × Int × Int) → Option (Int × (List GCabin))) (x_ : ((List GCabin) × Int × Int)) : Option (Int × (List GCabin)) :=
 match x_ with
 | (v12, v13, v14) => bd (at? v12 v14) fun x15 =>
 bd (at? v12 v14) fun x16 =>
 jn (d_xd0_j4 L1) ((List.set v12 v14.toNat (GCabin.mk (GLedger.mk x16.Seats.Total x16.Seats.Free (w64 (v13 + 1)) x16.Seats.Sold x16.Seats.Tied) x16.Row x16.Wheel), w64 (v13 + 1), v14))
def d_xd0_j2 (L1 : ((List GCabin) × Int × Int) → Option (Int × (List GCabin))) (x_ : ((List GCabin) × Int × Int)) : Option (Int × (List GCabin)) :=
 match x_ with
 | (v7, v8, v9) => bd (at? v7 v9) fun x10 =>
 bd (at? v7 v9) fun x11 =>
 jn (d_xd0_j3 L1) ((List.set v7 v9.toNat (GCabin.mk (GLedger.mk x11.Seats.Total (w64 (v8 + 1)) x11.Seats.Held x11.Seats.Sold x11.Seats.Tied) x11.Row x11.Wheel), w64 (v8 + 1), v9))
def d_xd0_j8 (x_ : ((List GCabin) × Int)) : Option (Int × (List GCabin)) :=
 match x_ with
 | (v41, v42) => some (v42, v41)
def d_xd0_l1 (L1 : ((List GCabin) × Int × Int) → Option (Int × (List GCabin))) (x_ : ((List GCabin) × Int × Int)) : Option (Int × (List GCabin)) :=
 match x_ with
 | (v2, v3, v4) => br (decide (v4 < (↑(List.length v2) : Int)))
  (bd (at? v2 v4) fun x5 =>
  bd (at? v2 v4) fun x6 =>
  jn (d_xd0_j2 L1) ((List.set v2 v4.toNat (GCabin.mk (GLedger.mk v3 x6.Seats.Free x6.Seats.Held x6.Seats.Sold x6.Seats.Tied) x6.Row x6.Wheel), v3, v4)))
  (jn (d_xd0_j8) (v2, v3))
def d_xd0 (p0 : (List GCabin)) (p1 : Int) : Option (Int × (List GCabin)) :=
 loopN (d_xd0_l1) big (p0, p1, 0)
def gf_xd0 : GF := y_xd0.gf rfl rfl (fun a => d_xd0 a.1 a.2.1) (fun a => by kernel_rfl)
def y_xd1 : YF := ⟨[], [.m (.st 8), .v .i], [], .ret [.i], [.tmp 4],
 .seq (q1 [qu 2 0, qK 4 0] [0, 1, 2]) (.seq (q1 [qo 5 0 2, qL 6 9 5, qm 7 1, qc 8 gf_xdv rfl [6, 7], qa 1 8] [0, 1, 2]) (.seq (q1 [qo 9 11 2, ql 10 9, qm 11 1, qc 12 gf_xdw rfl [10, 11], qa 1 12] [0, 1, 2]) (.seq (q1 [qo 13 12 2, ql 14 13, qm 15 1, qc 16 gf_xd0 rfl [14, 15], qa 1 16] [0, 1, 2]) (.seq (q1 [qo 17 13 2, ql 18 17, qm 19 1, qc 20 gf_xdu rfl [18, 19], qa 1 20] [0, 1, 2]) (.seq (q1 [qo 21 14 2, ql 22 21, qm 23 1, qc 24 gf_xdu rfl [22, 23], qa 1 24] [0, 1]) (.seq (q1 [qm 25 1, qa 4 25] [0, 4]) (.ret)))))))⟩
def d_xd1 (p0 : GHouse) (p1 : Int) : Option (Int × GHouse) :=
 bd (d_xdv p0.Rules p1) fun x1 =>
 bd (d_xdw p0.Parties x1.fst) fun x2 =>
 bd (d_xd0 p0.Cabins x2.fst) fun x3 =>
 bd (d_xdu p0.Todo x3.fst) fun x4 =>
 bd (d_xdu p0.Jobs x4.fst) fun x5 =>
 some ((x5.fst, GHouse.mk (GRules.mk x1.snd.Seats p0.Rules.Tiers p0.Rules.Room p0.Rules.Size p0.Rules.Period p0.Rules.Window p0.Rules.Rest p0.Rules.Tries p0.Rules.Crew) p0.Now p0.Turn x2.snd x3.snd x4.snd x5.snd))
def gf_xd1 : GF := y_xd1.gf rfl rfl (fun a => d_xd1 a.1 a.2.1) (fun a => by kernel_rfl)
def y_xd2 : YF := ⟨[], [.v (.l .i), .v .i], [], .ret [.i], [.tmp 4],
 .seq (q1 [qK 4 0] [0, 1]) (.join [(false, 1, .one, [.val .i none])] (.seq (q1 [qK 5 0] [0, 1, 5]) (.block 0 (.loop [(false, 1, .one, [.val .i none]), (false, 5, .one, [.val .i none])] (.seq (.seq (q1 [qm 6 5, qm 7 0, qz 8 7, qb 9 .lss 6 8] [0, 1, 5, 9]) (.cond 9 [0, 1, 5] [1] (.skip) (.exit 0))) (.seq (.block 1 (.seq (.seq (q1 [qm 12 0, qm 13 5, qe 14 .i 12 13, ql 15 14, qm 16 1, qb 17 .neq 15 16] [0, 1, 5, 17]) (.cond 17 [] [0, 1, 5] (.seq (q1 [qK 4 (-1)] [4]) (.ret)) (.skip))) (q1 [qm 18 1, qi 19 .add 18 1, qa 1 19] [0, 1, 5]))) (q1 [qm 10 5, qi 11 .add 10 1, qa 5 11] [0, 1, 5])))))) (.seq (q1 [qm 20 1, qa 4 20] [4]) (.ret)))⟩
def d_xd2_j2 (v5 : Int) : Option Int :=
 some v5
def d_xd2_l1 (p0 : (List Int)) (L1 : (Int × Int) → Option Int) (x_ : (Int × Int)) : Option Int :=
 match x_ with
 | (v2, v3) => br (decide (v3 < (↑p0.length : Int)))
  (bd (at? p0 v3) fun x4 =>
  br (x4 != v2)
   (some (-1))
   (L1 ((w64 (v2 + 1), w64 (v3 + 1)))))
  (jn (d_xd2_j2) v2)
def d_xd2 (p0 : (List Int)) (p1 : Int) : Option Int :=
 loopN (d_xd2_l1 p0) big (p1, 0)
def gf_xd2 : GF := y_xd2.gf rfl rfl (fun a => d_xd2 a.1 a.2.1) (fun a => by kernel_rfl)
def y_laws_FnExactHouseNums : YF := ⟨[], [.v (.st 8)], [], .ret [.b], [.tmp 2],
 .seq (q1 [qu 1 0, qB 2 false] [1]) (.seq (q1 [qK 3 1048576] [1, 3]) (.seq (q1 [qL 11 15 1, qm 12 3, qc 13 gf_xj rfl [11, 12], qa 3 13] [1, 3]) (.seq (.seq (q1 [qm 14 3, qi 15 .lss 14 0] [1, 15]) (.cond 15 [] [1] (.seq (q1 [qB 2 true] [2]) (.ret)) (.skip))) (.seq (q1 [qL 16 15 1, qc 17 gf_xx rfl [16], qc 18 gf_xde rfl [17], qa 4 18] [1, 4]) (.seq (q1 [qL 19 15 1, qc 20 gf_xx rfl [19], .alloc 5 [.nil, .int .i64 0, .int .i64 0, .int .i64 0, .int .i64 0, .int .i64 0, .int .i64 0, .int .i64 0, .int .i64 0, .int .i64 0, .int .i64 0, .nil, .nil, .nil, .nil], .nils [(.cell 5 0, .i), (.cell 5 11, (.st 2)), (.cell 5 12, (.st 7)), (.cell 5 13, .i), (.cell 5 14, .i)], qw 15 5 20] [1, 4, 5]) (.seq (q1 [qL 21 15 5, qc 22 gf_xdt rfl [21], qa 6 22] [1, 4, 5, 6]) (.seq (.seq (q1 [qm 23 6, qm 24 4, qc 25 gf_xcz rfl [23, 24], qx 26 25] [1, 4, 5, 6, 26]) (.cond 26 [] [1, 4, 5, 6] (.seq (q1 [qB 2 false] [2]) (.ret)) (.skip))) (.seq (.seq (.dreg (qd 0 [qn [qL 27 15 5, qL 28 15 1]] (.op 2 none [5] (.call 29 gf_xx [] rfl [(.tmp 28)])
 (qd 3 [qn [qc 30 gf_xdc rfl [27, 29], qx 31 30]] .nil))) [1, 4, 5, 6, 31]) (.cond 31 [] [1, 4, 5, 6] (.seq (q1 [qB 2 false] [2]) (.ret)) (.skip))) (.seq (q1 [qK 7 1] [1, 4, 5, 6, 7]) (.seq (q1 [qL 32 15 5, qm 33 7, qc 34 gf_xd1 rfl [32, 33], qa 7 34] [1, 4, 6, 7]) (.seq (.join [(false, 42, .one, [.val .b none])] (qr [qn [qm 35 7, qi 36 .lss 35 0, qm 37 36],
 qf 37 [qm 38 6, qm 39 4, qc 40 gf_xcz rfl [38, 39], qx 41 40],
 qn [qp 42 37 41]] [1, 4, 6, 42]) (.cond 42 [] [1, 4, 6] (.seq (q1 [qB 2 false] [2]) (.ret)) (.skip))) (.seq (q1 [qK 8 1] [1, 4, 6, 8]) (.seq (q1 [qm 43 6, qm 44 8, qc 45 gf_xdu rfl [43, 44], qa 8 45] [1, 4, 6, 8]) (.seq (q1 [qK 9 1] [1, 4, 6, 8, 9]) (.seq (q1 [qm 46 6, qm 47 9, qc 48 gf_xd2 rfl [46, 47], qa 9 48] [1, 4, 6, 8, 9]) (.seq (.seq (q1 [qm 49 9, qi 50 .lss 49 0] [1, 4, 6, 8, 9, 50]) (.cond 50 [] [1, 4, 6, 8, 9] (.seq (q1 [qB 2 false] [2]) (.ret)) (.skip))) (.seq (.seq (q1 [qm 51 9, qm 52 8, qb 53 .neq 51 52] [1, 4, 6, 8, 53]) (.cond 53 [] [1, 4, 6, 8] (.seq (q1 [qB 2 false] [2]) (.ret)) (.skip))) (.seq (q1 [qL 54 15 1, qc 55 gf_xx rfl [54], qc 56 gf_xdt rfl [55], qa 10 56] [4, 6, 8, 10]) (.seq (.seq (q1 [qm 57 10, qm 58 4, qc 59 gf_xcz rfl [57, 58], qx 60 59] [6, 8, 60]) (.cond 60 [] [6, 8] (.seq (q1 [qB 2 false] [2]) (.ret)) (.skip))) (.seq (q1 [qK 9 1] [6, 8, 9]) (.seq (q1 [qm 61 6, qm 62 9, qc 63 gf_xd2 rfl [61, 62], qa 9 63] [8, 9]) (.seq (.seq (q1 [qm 64 9, qi 65 .lss 64 0] [8, 9, 65]) (.cond 65 [] [8, 9] (.seq (q1 [qB 2 false] [2]) (.ret)) (.skip))) (.seq (.seq (q1 [qm 66 9, qm 67 8, qb 68 .neq 66 67] [68]) (.cond 68 [] [] (.seq (q1 [qB 2 false] [2]) (.ret)) (.skip))) (.seq (q1 [qB 2 true] [2]) (.ret)))))))))))))))))))))))))⟩
def d_laws_FnExactHouseNums_j1 (p0 : GHouse) (x3 : (List Int)) (x5 : (List Int)) (v10 : Bool) : Option Bool :=
 br v10
  (some false)
  (bd (d_xdu x5 1) fun x11 =>
  bd (d_xd2 x11.snd 1) fun x12 =>
  br (decide (x12 < 0))
   (some false)
   (br (x12 != x11.fst)
    (some false)
    (bd (d_xx p0) fun x13 =>
    bd (d_xdt x13) fun x14 =>
    bd (d_xcz x14 x3) fun x15 =>
    br (!x15)
     (some false)
     (bd (d_xd2 x11.snd 1) fun x16 =>
     br (decide (x16 < 0))
      (some false)
      (br (x16 != x11.fst)
       (some false)
       (some true))))))
def d_laws_FnExactHouseNums (p0 : GHouse) : Option Bool :=
 bd (d_xj p0 1048576) fun x1 =>
 br (decide (x1 < 0))
  (some true)
  (bd (d_xx p0) fun x2 =>
  bd (d_xde x2) fun x3 =>
  bd (d_xx p0) fun x4 =>
  bd (d_xdt x4) fun x5 =>
  bd (d_xcz x5 x3) fun x6 =>
  br (!x6)
   (some false)
   (bd (d_xx p0) fun x7 =>
   bd (d_xdc x4 x7) fun x8 =>
   br (!x8)
    (some false)
    (bd (d_xd1 x4 1) fun x9 =>
    br (decide (x9.fst < 0))
     (jn (d_laws_FnExactHouseNums_j1 p0 x3 x5) true)
     (bd (d_xcz x5 x3) fun x17 =>
     jn (d_laws_FnExactHouseNums_j1 p0 x3 x5) (!x17)))))
def gf_laws_FnExactHouseNums : GF := y_laws_FnExactHouseNums.gf rfl rfl (fun a => d_laws_FnExactHouseNums a.1) (fun a => by kernel_rfl)
end
end Lv
/-
 Printed: functions of the program as texts of the typed machine, as plain functions, and that the one is the other.
-/
set_option linter.unusedVariables false
set_option maxRecDepth 100000
namespace Lv
open Go (IntKind BinOp UnOp)
noncomputable section
open Y (YF qn qf qt qr q1 qd qm qa qo ql qL qb qi qx qp qq qc qz qe qk qK qB qw qu qj)
def d_laws_heldRules (p0 : GRules) (p1 : Int) : Option Int :=
 bd (d_xd2 p0.Seats p1) fun x1 =>
 br (decide (x1 < 0))
  (some (-1))
  (some x1)
def d_laws_heldPartyS_j2 (v14 : Int) : Option Int :=
 some v14
def d_laws_heldPartyS_l1 (p0 : (List GParty)) (L1 : (Int × Int) → Option Int) (x_ : (Int × Int)) : Option Int :=
 match x_ with
 | (v2, v3) => br (decide (v3 < (↑p0.length : Int)))
  (bd (at? p0 v3) fun x4 =>
  br (x4.Id != v2)
   (some (-1))
   (bd (at? p0 v3) fun x5 =>
   br (x5.Cabin != w64 (v2 + 1))
    (some (-1))
    (bd (at? p0 v3) fun x6 =>
    br (x6.From != w64 (w64 (v2 + 1) + 1))
     (some (-1))
     (bd (at? p0 v3) fun x7 =>
     br (x7.Size != w64 (w64 (w64 (v2 + 1) + 1) + 1))
      (some (-1))
      (bd (at? p0 v3) fun x8 =>
      br (x8.Tier != w64 (w64 (w64 (w64 (v2 + 1) + 1) + 1) + 1))
       (some (-1))
       (bd (at? p0 v3) fun x9 =>
       br (x9.Since != w64 (w64 (w64 (w64 (w64 (v2 + 1) + 1) + 1) + 1) + 1))
        (some (-1))
        (bd (at? p0 v3) fun x10 =>
        br (x10.Turn != w64 (w64 (w64 (w64 (w64 (w64 (v2 + 1) + 1) + 1) + 1) + 1) + 1))
         (some (-1))
         (bd (at? p0 v3) fun x11 =>
         br (x11.State != w64 (w64 (w64 (w64 (w64 (w64 (w64 (v2 + 1) + 1) + 1) + 1) + 1) + 1) + 1))
          (some (-1))
          (bd (at? p0 v3) fun x12 =>
          br (x12.Until != w64 (w64 (w64 (w64 (w64 (w64 (w64 (w64 (v2 + 1) + 1) + 1) + 1) + 1) + 1) + 1) + 1))
           (some (-1))
           (bd (at? p0 v3) fun x13 =>
           br (x13.Asked != w64 (w64 (w64 (w64 (w64 (w64 (w64 (w64 (w64 (v2 + 1) + 1) + 1) + 1) + 1) + 1) + 1) + 1) + 1))
            (some (-1))
            (L1 ((w64 (w64 (w64 (w64 (w64 (w64 (w64 (w64 (w64 (w64 (v2 + 1) + 1) + 1) + 1) + 1) + 1) + 1) + 1) + 1) + 1), w64 (v3 + 1))))))))))))))
  (jn (d_laws_heldPartyS_j2) v2)
def d_laws_heldPartyS (p0 : (List GParty)) (p1 : Int) : Option Int :=
 loopN (d_laws_heldPartyS_l1 p0) big (p1, 0)
def d_laws_heldEntryS_j2 (v8 : Int) : Option Int :=
 some v8
def d_laws_heldEntryS_l1 (p0 : (List GEntry)) (L1 : (Int × Int) → Option Int) (x_ : (Int × Int)) : Option Int :=
 match x_ with
 | (v2, v3) => br (decide (v3 < (↑p0.length : Int)))
  (bd (at? p0 v3) fun x4 =>
  br (x4.Level != v2)
   (some (-1))
   (bd (at? p0 v3) fun x5 =>
   br (x5.Turn != w64 (v2 + 1))
    (some (-1))
    (bd (at? p0 v3) fun x6 =>
    br (x6.Id != w64 (w64 (v2 + 1) + 1))
     (some (-1))
     (bd (at? p0 v3) fun x7 =>
     br (x7.Size != w64 (w64 (w64 (v2 + 1) + 1) + 1))
      (some (-1))
      (L1 ((w64 (w64 (w64 (w64 (v2 + 1) + 1) + 1) + 1), w64 (v3 + 1))))))))
  (jn (d_laws_heldEntryS_j2) v2)
def d_laws_heldEntryS (p0 : (List GEntry)) (p1 : Int) : Option Int :=
 loopN (d_laws_heldEntryS_l1 p0) big (p1, 0)
def d_laws_heldPinS_j2 (v6 : Int) : Option Int :=
 some v6
def d_laws_heldPinS_l1 (p0 : (List GPin)) (L1 : (Int × Int) → Option Int) (x_ : (Int × Int)) : Option Int :=
 match x_ with
 | (v2, v3) => br (decide (v3 < (↑p0.length : Int)))
  (bd (at? p0 v3) fun x4 =>
  br (x4.At != v2)
   (some (-1))
   (bd (at? p0 v3) fun x5 =>
   br (x5.Id != w64 (v2 + 1))
    (some (-1))
    (L1 ((w64 (w64 (v2 + 1) + 1), w64 (v3 + 1))))))
  (jn (d_laws_heldPinS_j2) v2)
def d_laws_heldPinS (p0 : (List GPin)) (p1 : Int) : Option Int :=
 loopN (d_laws_heldPinS_l1 p0) big (p1, 0)
def d_laws_heldPinSS_j2 (v6 : Int) : Option Int :=
 some v6
def d_laws_heldPinSS_l1 (p0 : (List (List GPin))) (L1 : (Int × Int) → Option Int) (x_ : (Int × Int)) : Option Int :=
 match x_ with
 | (v2, v3) => br (decide (v3 < (↑p0.length : Int)))
  (bd (at? p0 v3) fun x4 =>
  bd (d_laws_heldPinS x4 v2) fun x5 =>
  br (decide (x5 < 0))
   (some (-1))
   (L1 ((x5, w64 (v3 + 1)))))
  (jn (d_laws_heldPinSS_j2) v2)
def d_laws_heldPinSS (p0 : (List (List GPin))) (p1 : Int) : Option Int :=
 loopN (d_laws_heldPinSS_l1 p0) big (p1, 0)
def d_laws_heldCabinS_j2 (v13 : Int) : Option Int :=
 some v13
def d_laws_heldCabinS_l1 (p0 : (List GCabin)) (L1 : (Int × Int) → Option Int) (x_ : (Int × Int)) : Option Int :=
 match x_ with
 | (v2, v3) => br (decide (v3 < (↑p0.length : Int)))
  (bd (at? p0 v3) fun x4 =>
  br (x4.Seats.Total != v2)
   (some (-1))
   (bd (at? p0 v3) fun x5 =>
   br (x5.Seats.Free != w64 (v2 + 1))
    (some (-1))
    (bd (at? p0 v3) fun x6 =>
    br (x6.Seats.Held != w64 (w64 (v2 + 1) + 1))
     (some (-1))
     (bd (at? p0 v3) fun x7 =>
     br (x7.Seats.Sold != w64 (w64 (w64 (v2 + 1) + 1) + 1))
      (some (-1))
      (bd (at? p0 v3) fun x8 =>
      br (x8.Seats.Tied != w64 (w64 (w64 (w64 (v2 + 1) + 1) + 1) + 1))
       (some (-1))
       (bd (at? p0 v3) fun x9 =>
       bd (d_laws_heldEntryS x9.Row (w64 (w64 (w64 (w64 (w64 (v2 + 1) + 1) + 1) + 1) + 1))) fun x10 =>
       br (decide (x10 < 0))
        (some (-1))
        (bd (at? p0 v3) fun x11 =>
        bd (d_laws_heldPinSS x11.Wheel.Spoke x10) fun x12 =>
        br (decide (x12 < 0))
         (some (-1))
         (L1 ((x12, w64 (v3 + 1)))))))))))
  (jn (d_laws_heldCabinS_j2) v2)
def d_laws_heldCabinS (p0 : (List GCabin)) (p1 : Int) : Option Int :=
 loopN (d_laws_heldCabinS_l1 p0) big (p1, 0)
def d_laws_heldHouse (p0 : GHouse) (p1 : Int) : Option Int :=
 bd (d_laws_heldRules p0.Rules p1) fun x1 =>
 br (decide (x1 < 0))
  (some (-1))
  (bd (d_laws_heldPartyS p0.Parties x1) fun x2 =>
  br (decide (x2 < 0))
   (some (-1))
   (bd (d_laws_heldCabinS p0.Cabins x2) fun x3 =>
   br (decide (x3 < 0))
    (some (-1))
    (bd (d_xd2 p0.Todo x3) fun x4 =>
    br (decide (x4 < 0))
     (some (-1))
     (bd (d_xd2 p0.Jobs x4) fun x5 =>
     br (decide (x5 < 0))
      (some (-1))
      (some x5)))))
end
end Lv
