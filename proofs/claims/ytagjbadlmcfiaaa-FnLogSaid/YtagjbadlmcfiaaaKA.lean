/-
  Printed: functions of the program as texts of the typed machine, as plain functions, and that the one is the other.
-/
import Derived.Test.YtagjbadlmcfiaaaTB
import Derived.KernelRfl
set_option linter.unusedVariables false
set_option linter.unusedSimpArgs false
set_option linter.unusedVariables false
set_option maxRecDepth 100000
namespace Lv
open Go (IntKind BinOp UnOp)
open Y (YF)
noncomputable def y_spec_l1In : Y.YF where
  R := []
  ps := [.v .i, .v .i, .v .i]
  fs := []
  rk := .ret [.b]
  rs := [.tmp 6]
  body := .seq (.region [(none, .as 6 (.k (.bool false)))] [0, 1, 2]) (.join [(false, 6, .one, [.val .b none])] (.region [(none, .mv 7 (.tmp 0)),
 (none, .mv 8 (.tmp 1)),
 (none, .bin 9 .num .geq (.tmp 7) (.tmp 8)),
 (none, .mv 10 (.tmp 9)),
 ((some (10, true)), .mv 11 (.tmp 0)),
 ((some (10, true)), .mv 12 (.tmp 2)),
 ((some (10, true)), .bin 13 .num .leq (.tmp 11) (.tmp 12)),
 (none, .pick 14 (.tmp 10) (.tmp 13) (.k (.bool false))),
 (none, .as 6 (.tmp 14))] [6]) (.ret))
noncomputable def d_spec_l1In_j1 (v1 : Bool) : Option Bool :=
  some v1
noncomputable def d_spec_l1In (p0 : Int) (p1 : Int) (p2 : Int) : Option Bool :=
  br (decide (p0 ≥ p1))
    (jn (d_spec_l1In_j1) (decide (p0 ≤ p2)))
    (jn (d_spec_l1In_j1) false)
noncomputable def gf_spec_l1In : GF := y_spec_l1In.gf rfl rfl (fun a => d_spec_l1In a.1 a.2.1 a.2.2.1) (fun a => by kernel_rfl)
noncomputable def y_spec_l12Field : Y.YF where
  R := []
  ps := [.v .i]
  fs := []
  rk := .ret [.b]
  rs := [.tmp 2]
  body := .seq (.region [(none, .as 2 (.k (.bool false)))] [0]) (.seq (.region [(none, .mv 3 (.tmp 0)),
 (none, .call 4 gf_spec_l1In [] rfl [(.tmp 3), (.k (.int .i64 0)), (.k (.int .i64 9999))]),
 (none, .as 2 (.tmp 4))] [2]) (.ret))
noncomputable def d_spec_l12Field (p0 : Int) : Option Bool :=
  bd (d_spec_l1In p0 0 9999) fun x1 =>
  some x1
noncomputable def gf_spec_l12Field : GF := y_spec_l12Field.gf rfl rfl (fun a => d_spec_l12Field a.1) (fun a => by kernel_rfl)
noncomputable def y_spec_ReqOk : Y.YF where
  R := []
  ps := [.v (.st 0)]
  fs := []
  rk := .ret [.b]
  rs := [.tmp 2]
  body := .seq (.region [(none, .box 1 (.tmp 0)),
 (none, .as 2 (.k (.bool false)))] [1]) (.seq (.seq (.region [(none, .fa 3 0 (.tmp 1)),
 (none, .ld 4 none (.tmp 3))] [1, 4]) (.block 0 (.seq (.region [(none, .bin 6 .num .eql (.tmp 4) (.k (.int .i64 1))),
 (none, .as 5 (.tmp 6))] [1, 4, 5]) (.cond 5 [1] [1, 4] (.join [(false, 2, .one, [.val .b none])] (.region [(none, .fa 7 1 (.tmp 1)),
 (none, .ld 8 none (.tmp 7)),
 (none, .call 9 gf_spec_l12Field [] rfl [(.tmp 8)]),
 (none, .mv 10 (.tmp 9)),
 ((some (10, true)), .fa 11 2 (.tmp 1)),
 ((some (10, true)), .ld 12 none (.tmp 11)),
 ((some (10, true)), .call 13 gf_spec_l12Field [] rfl [(.tmp 12)]),
 (none, .pick 14 (.tmp 10) (.tmp 13) (.k (.bool false))),
 (none, .mv 15 (.tmp 14)),
 ((some (15, true)), .fa 16 3 (.tmp 1)),
 ((some (15, true)), .ld 17 none (.tmp 16)),
 ((some (15, true)), .call 18 gf_spec_l1In [] rfl [(.tmp 17), (.k (.int .i64 (-1))), (.k (.int .i64 9999))]),
 (none, .pick 19 (.tmp 15) (.tmp 18) (.k (.bool false))),
 (none, .mv 20 (.tmp 19)),
 ((some (20, true)), .fa 21 4 (.tmp 1)),
 ((some (20, true)), .ld 22 none (.tmp 21)),
 ((some (20, true)), .call 23 gf_spec_l12Field [] rfl [(.tmp 22)]),
 (none, .pick 24 (.tmp 20) (.tmp 23) (.k (.bool false))),
 (none, .mv 25 (.tmp 24)),
 ((some (25, true)), .fa 26 5 (.tmp 1)),
 ((some (25, true)), .ld 27 none (.tmp 26)),
 ((some (25, true)), .call 28 gf_spec_l12Field [] rfl [(.tmp 27)]),
 (none, .pick 29 (.tmp 25) (.tmp 28) (.k (.bool false))),
 (none, .as 2 (.tmp 29))] [2]) (.ret)) (.join [(false, 30, .one, [.val .b none])] (.seq (.region [(none, .bin 31 .num .eql (.tmp 4) (.k (.int .i64 2))),
 (none, .as 30 (.tmp 31))] [1, 4, 30]) (.cond 30 [1, 4, 30] [1, 4] (.skip) (.seq (.region [(none, .bin 32 .num .eql (.tmp 4) (.k (.int .i64 4))),
 (none, .as 30 (.tmp 32))] [1, 4, 30]) (.cond 30 [1, 4, 30] [1, 4] (.skip) (.seq (.region [(none, .bin 33 .num .eql (.tmp 4) (.k (.int .i64 5))),
 (none, .as 30 (.tmp 33))] [1, 4, 30]) (.cond 30 [1, 4, 30] [1, 4] (.skip) (.region [(none, .bin 34 .num .eql (.tmp 4) (.k (.int .i64 7))),
 (none, .as 30 (.tmp 34))] [1, 4, 30]))))))) (.cond 30 [1] [1, 4] (.join [(false, 2, .one, [.val .b none])] (.region [(none, .fa 35 1 (.tmp 1)),
 (none, .ld 36 none (.tmp 35)),
 (none, .call 37 gf_spec_l12Field [] rfl [(.tmp 36)]),
 (none, .mv 38 (.tmp 37)),
 ((some (38, true)), .ld 39 (some 6) (.tmp 1)),
 ((some (38, true)), .fa 40 0 (.tmp 1)),
 ((some (38, true)), .ld 41 none (.tmp 40)),
 ((some (38, true)), .fa 42 1 (.tmp 1)),
 ((some (38, true)), .ld 43 none (.tmp 42)),
 ((some (38, true)), .build 44 [.int .i64 0, .int .i64 0, .int .i64 0, .int .i64 0, .int .i64 0, .int .i64 0] [(0, 1, (.tmp 41)), (1, 1, (.tmp 43))]),
 ((some (38, true)), .bin 45 (.agg [.i, .i, .i, .i, .i, .i]) .eql (.tmp 39) (.tmp 44)),
 (none, .pick 46 (.tmp 38) (.tmp 45) (.k (.bool false))),
 (none, .as 2 (.tmp 46))] [2]) (.ret)) (.seq (.region [(none, .bin 48 .num .eql (.tmp 4) (.k (.int .i64 3))),
 (none, .as 47 (.tmp 48))] [1, 4, 47]) (.cond 47 [1] [1, 4] (.join [(false, 2, .one, [.val .b none])] (.region [(none, .fa 49 2 (.tmp 1)),
 (none, .ld 50 none (.tmp 49)),
 (none, .call 51 gf_spec_l12Field [] rfl [(.tmp 50)]),
 (none, .mv 52 (.tmp 51)),
 ((some (52, true)), .fa 53 4 (.tmp 1)),
 ((some (52, true)), .ld 54 none (.tmp 53)),
 ((some (52, true)), .call 55 gf_spec_l12Field [] rfl [(.tmp 54)]),
 (none, .pick 56 (.tmp 52) (.tmp 55) (.k (.bool false))),
 (none, .mv 57 (.tmp 56)),
 ((some (57, true)), .ld 58 (some 6) (.tmp 1)),
 ((some (57, true)), .fa 59 0 (.tmp 1)),
 ((some (57, true)), .ld 60 none (.tmp 59)),
 ((some (57, true)), .fa 61 2 (.tmp 1)),
 ((some (57, true)), .ld 62 none (.tmp 61)),
 ((some (57, true)), .fa 63 4 (.tmp 1)),
 ((some (57, true)), .ld 64 none (.tmp 63)),
 ((some (57, true)), .build 65 [.int .i64 0, .int .i64 0, .int .i64 0, .int .i64 0, .int .i64 0, .int .i64 0] [(0, 1, (.tmp 60)), (2, 1, (.tmp 62)), (4, 1, (.tmp 64))]),
 ((some (57, true)), .bin 66 (.agg [.i, .i, .i, .i, .i, .i]) .eql (.tmp 58) (.tmp 65)),
 (none, .pick 67 (.tmp 57) (.tmp 66) (.k (.bool false))),
 (none, .as 2 (.tmp 67))] [2]) (.ret)) (.seq (.region [(none, .bin 69 .num .eql (.tmp 4) (.k (.int .i64 6))),
 (none, .as 68 (.tmp 69))] [1, 68]) (.cond 68 [1] [] (.seq (.region [(none, .ld 70 (some 6) (.tmp 1)),
 (none, .fa 71 0 (.tmp 1)),
 (none, .ld 72 none (.tmp 71)),
 (none, .build 73 [.int .i64 0, .int .i64 0, .int .i64 0, .int .i64 0, .int .i64 0, .int .i64 0] [(0, 1, (.tmp 72))]),
 (none, .bin 74 (.agg [.i, .i, .i, .i, .i, .i]) .eql (.tmp 70) (.tmp 73)),
 (none, .as 2 (.tmp 74))] [2]) (.ret)) (.skip))))))))))) (.seq (.region [(none, .as 2 (.k (.bool false)))] [2]) (.ret)))
noncomputable def d_spec_ReqOk_j1 (v6 : Bool) : Option Bool :=
  some v6
noncomputable def d_spec_ReqOk_j2 (p0 : GReq) (v7 : Bool) : Option Bool :=
  br v7
    (bd (d_spec_l12Field p0.Id) fun x8 =>
    br x8
      (jn (d_spec_ReqOk_j1) (p0.Kind == p0.Kind && (p0.Id == p0.Id && (p0.Cabin == 0 && (p0.From == 0 && (p0.Size == 0 && (p0.Tier == 0 && true)))))))
      (jn (d_spec_ReqOk_j1) false))
    (br (p0.Kind == 3)
      (bd (d_spec_l12Field p0.Cabin) fun x9 =>
      br x9
        (bd (d_spec_l12Field p0.Size) fun x10 =>
        br x10
          (jn (d_spec_ReqOk_j1) (p0.Kind == p0.Kind && (p0.Id == 0 && (p0.Cabin == p0.Cabin && (p0.From == 0 && (p0.Size == p0.Size && (p0.Tier == 0 && true)))))))
          (jn (d_spec_ReqOk_j1) false))
        (jn (d_spec_ReqOk_j1) false))
      (br (p0.Kind == 6)
        (some (p0.Kind == p0.Kind && (p0.Id == 0 && (p0.Cabin == 0 && (p0.From == 0 && (p0.Size == 0 && (p0.Tier == 0 && true)))))))
        (some false)))
noncomputable def d_spec_ReqOk (p0 : GReq) : Option Bool :=
  br (p0.Kind == 1)
    (bd (d_spec_l12Field p0.Id) fun x1 =>
    br x1
      (bd (d_spec_l12Field p0.Cabin) fun x2 =>
      br x2
        (bd (d_spec_l1In p0.From (-1) 9999) fun x3 =>
        br x3
          (bd (d_spec_l12Field p0.Size) fun x4 =>
          br x4
            (bd (d_spec_l12Field p0.Tier) fun x5 =>
            jn (d_spec_ReqOk_j1) x5)
            (jn (d_spec_ReqOk_j1) false))
          (jn (d_spec_ReqOk_j1) false))
        (jn (d_spec_ReqOk_j1) false))
      (jn (d_spec_ReqOk_j1) false))
    (br (p0.Kind == 2)
      (jn (d_spec_ReqOk_j2 p0) (p0.Kind == 2))
      (br (p0.Kind == 4)
        (jn (d_spec_ReqOk_j2 p0) (p0.Kind == 4))
        (br (p0.Kind == 5)
          (jn (d_spec_ReqOk_j2 p0) (p0.Kind == 5))
          (jn (d_spec_ReqOk_j2 p0) (p0.Kind == 7)))))
noncomputable def gf_spec_ReqOk : GF := y_spec_ReqOk.gf rfl rfl (fun a => d_spec_ReqOk a.1) (fun a => by kernel_rfl)
noncomputable def y_spec_PutNum : Y.YF where
  R := []
  ps := [.v .i]
  fs := []
  rk := .ret [(.l .u)]
  rs := [.tmp 2]
  body := .seq (.region [(none, .as 2 (.k .nil)),
 (none, .nils [(.tmp 2 0, .u)])] [0]) (.seq (.region [(none, .bslice 4 0 .u []),
 (none, .as 3 (.tmp 4))] [0, 3]) (.seq (.seq (.region [(none, .mv 5 (.tmp 0)),
 (none, .call 6 gf_spec_l1In [] rfl [(.tmp 5), (.k (.int .i64 0)), (.k (.int .i64 2147483647))]),
 (none, .un 7 .not (.tmp 6))] [0, 3, 7]) (.cond 7 [3] [0, 3] (.seq (.region [(none, .mv 8 (.tmp 3)),
 (none, .as 2 (.tmp 8))] [2]) (.ret)) (.skip))) (.join [(false, 0, .one, [.val .i none]), (false, 3, .one, [.val (.l .u) none])] (.block 0 (.loop [(false, 0, .one, [.val .i none]), (false, 3, .one, [.val (.l .u) none])] (.seq (.seq (.region [(none, .mv 9 (.tmp 0)),
 (none, .bin 10 .num .gtr (.tmp 9) (.k (.int .i64 127)))] [0, 3, 10]) (.cond 10 [0, 3] [0, 3] (.skip) (.exit 0))) (.block 1 (.seq (.region [(none, .mv 11 (.tmp 3)),
 (none, .mv 12 (.tmp 0)),
 (none, .bin 13 .num .rem (.tmp 12) (.k (.int .i64 128))),
 (none, .bin 14 .num .add (.tmp 13) (.k (.int .i64 128))),
 (none, .cvI 15 .u8 (.tmp 14)),
 (none, .bslice 16 1 .u [(0, (.tmp 15))]),
 (none, .app 17 .u true (.tmp 11) (.tmp 16)),
 (none, .as 3 (.tmp 17))] [0, 3]) (.region [(none, .mv 18 (.tmp 0)),
 (none, .bin 19 .num .quo (.tmp 18) (.k (.int .i64 128))),
 (none, .as 0 (.tmp 19))] [0, 3])))))) (.seq (.region [(none, .mv 20 (.tmp 3)),
 (none, .mv 21 (.tmp 0)),
 (none, .cvI 22 .u8 (.tmp 21)),
 (none, .bslice 23 1 .u [(0, (.tmp 22))]),
 (none, .app 24 .u true (.tmp 20) (.tmp 23)),
 (none, .as 2 (.tmp 24))] [2]) (.ret)))))
noncomputable def d_spec_PutNum_j2 (x_ : (Int × (List UInt8))) : Option (List UInt8) :=
  match x_ with
  | (v5, v6) => gd (v6.length + [toB v5].length ≤ lim) (
  some (v6 ++ [toB v5]))
noncomputable def d_spec_PutNum_l1 (L2 : (Int × (List UInt8)) → Option (List UInt8)) (x_ : (Int × (List UInt8))) : Option (List UInt8) :=
  match x_ with
  | (v3, v4) => br (decide (v3 > 127))
    (gd (v4.length + [toB (w64 (Int.tmod v3 128 + 128))].length ≤ lim) (
    L2 ((w64 (Int.tdiv v3 128), v4 ++ [toB (w64 (Int.tmod v3 128 + 128))]))))
    (jn (d_spec_PutNum_j2) (v3, v4))
noncomputable def d_spec_PutNum (p0 : Int) : Option (List UInt8) :=
  bd (d_spec_l1In p0 0 2147483647) fun x1 =>
  br (!x1)
    (some [])
    (loopN (d_spec_PutNum_l1) big (p0, []))
noncomputable def gf_spec_PutNum : GF := y_spec_PutNum.gf rfl rfl (fun a => d_spec_PutNum a.1) (fun a => by kernel_rfl)
noncomputable def y_spec_l18Nums : Y.YF where
  R := []
  ps := [.v (.l .i)]
  fs := []
  rk := .ret [.s]
  rs := [.tmp 2]
  body := .seq (.region [(none, .as 2 (.k (.str [])))] [0]) (.seq (.region [(none, .bslice 5 0 .u []),
 (none, .as 3 (.tmp 5))] [0, 3]) (.join [(false, 3, .one, [.val (.l .u) none])] (.seq (.region [(none, .as 4 (.k (.int .i64 0)))] [0, 3, 4]) (.block 0 (.loop [(false, 3, .one, [.val (.l .u) none]), (false, 4, .one, [.val .i none])] (.seq (.seq (.region [(none, .mv 6 (.tmp 4)),
 (none, .mv 7 (.tmp 0)),
 (none, .len 8 (.tmp 7)),
 (none, .bin 9 .num .lss (.tmp 6) (.tmp 8))] [0, 3, 4, 9]) (.cond 9 [0, 3, 4] [3] (.skip) (.exit 0))) (.seq (.block 1 (.region [(none, .mv 12 (.tmp 3)),
 (none, .mv 13 (.tmp 0)),
 (none, .mv 14 (.tmp 4)),
 (none, .ia 15 .i (.tmp 13) (.tmp 14)),
 (none, .ld 16 none (.tmp 15)),
 (none, .call 17 gf_spec_PutNum [] rfl [(.tmp 16)]),
 (none, .app 18 .u true (.tmp 12) (.tmp 17)),
 (none, .as 3 (.tmp 18))] [0, 3, 4])) (.region [(none, .mv 10 (.tmp 4)),
 (none, .bin 11 .num .add (.tmp 10) (.k (.int .i64 1))),
 (none, .as 4 (.tmp 11))] [0, 3, 4])))))) (.seq (.region [(none, .mv 19 (.tmp 3)),
 (none, .cvBS 20 (.tmp 19)),
 (none, .as 2 (.tmp 20))] [2]) (.ret))))
noncomputable def d_spec_l18Nums_j2 (v6 : (List UInt8)) : Option (List UInt8) :=
  some v6
noncomputable def d_spec_l18Nums_l1 (p0 : (List Int)) (L1 : ((List UInt8) × Int) → Option (List UInt8)) (x_ : ((List UInt8) × Int)) : Option (List UInt8) :=
  match x_ with
  | (v2, v3) => br (decide (v3 < (↑p0.length : Int)))
    (bd (at? p0 v3) fun x4 =>
    bd (d_spec_PutNum x4) fun x5 =>
    gd (List.length v2 + List.length x5 ≤ lim) (
    L1 ((v2 ++ x5, w64 (v3 + 1)))))
    (jn (d_spec_l18Nums_j2) v2)
noncomputable def d_spec_l18Nums (p0 : (List Int)) : Option (List UInt8) :=
  loopN (d_spec_l18Nums_l1 p0) big ([], 0)
noncomputable def gf_spec_l18Nums : GF := y_spec_l18Nums.gf rfl rfl (fun a => d_spec_l18Nums a.1) (fun a => by kernel_rfl)
noncomputable def y_spec_ReqBytes : Y.YF where
  R := []
  ps := [.v (.st 0)]
  fs := []
  rk := .ret [.s]
  rs := [.tmp 2]
  body := .seq (.region [(none, .box 1 (.tmp 0)),
 (none, .as 2 (.k (.str [])))] [1]) (.seq (.seq (.region [(none, .ld 3 (some 6) (.tmp 1)),
 (none, .call 4 gf_spec_ReqOk [] rfl [(.tmp 3)]),
 (none, .un 5 .not (.tmp 4))] [1, 5]) (.cond 5 [] [1] (.seq (.region [(none, .as 2 (.k (.str [])))] [2]) (.ret)) (.skip))) (.seq (.seq (.region [(none, .fa 6 0 (.tmp 1)),
 (none, .ld 7 none (.tmp 6))] [1, 7]) (.block 0 (.seq (.region [(none, .bin 9 .num .eql (.tmp 7) (.k (.int .i64 1))),
 (none, .as 8 (.tmp 9))] [1, 7, 8]) (.cond 8 [1] [1, 7] (.seq (.region [(none, .fa 10 0 (.tmp 1)),
 (none, .ld 11 none (.tmp 10)),
 (none, .fa 12 1 (.tmp 1)),
 (none, .ld 13 none (.tmp 12)),
 (none, .fa 14 2 (.tmp 1)),
 (none, .ld 15 none (.tmp 14)),
 (none, .fa 16 3 (.tmp 1)),
 (none, .ld 17 none (.tmp 16)),
 (none, .bin 18 .num .add (.tmp 17) (.k (.int .i64 1))),
 (none, .fa 19 4 (.tmp 1)),
 (none, .ld 20 none (.tmp 19)),
 (none, .fa 21 5 (.tmp 1)),
 (none, .ld 22 none (.tmp 21)),
 (none, .bslice 23 6 .i [(0, (.tmp 11)), (1, (.tmp 13)), (2, (.tmp 15)), (3, (.tmp 18)), (4, (.tmp 20)), (5, (.tmp 22))]),
 (none, .call 24 gf_spec_l18Nums [] rfl [(.tmp 23)]),
 (none, .as 2 (.tmp 24))] [2]) (.ret)) (.seq (.region [(none, .bin 26 .num .eql (.tmp 7) (.k (.int .i64 3))),
 (none, .as 25 (.tmp 26))] [1, 7, 25]) (.cond 25 [1] [1, 7] (.seq (.region [(none, .fa 27 0 (.tmp 1)),
 (none, .ld 28 none (.tmp 27)),
 (none, .fa 29 2 (.tmp 1)),
 (none, .ld 30 none (.tmp 29)),
 (none, .fa 31 4 (.tmp 1)),
 (none, .ld 32 none (.tmp 31)),
 (none, .bslice 33 3 .i [(0, (.tmp 28)), (1, (.tmp 30)), (2, (.tmp 32))]),
 (none, .call 34 gf_spec_l18Nums [] rfl [(.tmp 33)]),
 (none, .as 2 (.tmp 34))] [2]) (.ret)) (.seq (.region [(none, .bin 36 .num .eql (.tmp 7) (.k (.int .i64 6))),
 (none, .as 35 (.tmp 36))] [1, 35]) (.cond 35 [1] [1] (.seq (.region [(none, .fa 37 0 (.tmp 1)),
 (none, .ld 38 none (.tmp 37)),
 (none, .bslice 39 1 .i [(0, (.tmp 38))]),
 (none, .call 40 gf_spec_l18Nums [] rfl [(.tmp 39)]),
 (none, .as 2 (.tmp 40))] [2]) (.ret)) (.skip))))))))) (.seq (.region [(none, .fa 41 0 (.tmp 1)),
 (none, .ld 42 none (.tmp 41)),
 (none, .fa 43 1 (.tmp 1)),
 (none, .ld 44 none (.tmp 43)),
 (none, .bslice 45 2 .i [(0, (.tmp 42)), (1, (.tmp 44))]),
 (none, .call 46 gf_spec_l18Nums [] rfl [(.tmp 45)]),
 (none, .as 2 (.tmp 46))] [2]) (.ret))))
noncomputable def d_spec_ReqBytes (p0 : GReq) : Option (List UInt8) :=
  bd (d_spec_ReqOk p0) fun x1 =>
  br (!x1)
    (some [])
    (br (p0.Kind == 1)
      (bd (d_spec_l18Nums ([p0.Kind, p0.Id, p0.Cabin, w64 (p0.From + 1), p0.Size, p0.Tier])) fun x2 =>
      some x2)
      (br (p0.Kind == 3)
        (bd (d_spec_l18Nums ([p0.Kind, p0.Cabin, p0.Size])) fun x3 =>
        some x3)
        (br (p0.Kind == 6)
          (bd (d_spec_l18Nums [p0.Kind]) fun x4 =>
          some x4)
          (bd (d_spec_l18Nums ([p0.Kind, p0.Id])) fun x5 =>
          some x5))))
noncomputable def gf_spec_ReqBytes : GF := y_spec_ReqBytes.gf rfl rfl (fun a => d_spec_ReqBytes a.1) (fun a => by kernel_rfl)
noncomputable def y_impl_within : Y.YF where
  R := []
  ps := [.v .i, .v .i, .v .i]
  fs := []
  rk := .ret [.b]
  rs := [.tmp 6]
  body := .seq (.region [(none, .as 6 (.k (.bool false)))] [0, 1, 2]) (.join [(false, 6, .one, [.val .b none])] (.region [(none, .mv 7 (.tmp 0)),
 (none, .mv 8 (.tmp 1)),
 (none, .bin 9 .num .geq (.tmp 7) (.tmp 8)),
 (none, .mv 10 (.tmp 9)),
 ((some (10, true)), .mv 11 (.tmp 0)),
 ((some (10, true)), .mv 12 (.tmp 2)),
 ((some (10, true)), .bin 13 .num .leq (.tmp 11) (.tmp 12)),
 (none, .pick 14 (.tmp 10) (.tmp 13) (.k (.bool false))),
 (none, .as 6 (.tmp 14))] [6]) (.ret))
noncomputable def d_impl_within_j1 (v1 : Bool) : Option Bool :=
  some v1
noncomputable def d_impl_within (p0 : Int) (p1 : Int) (p2 : Int) : Option Bool :=
  br (decide (p0 ≥ p1))
    (jn (d_impl_within_j1) (decide (p0 ≤ p2)))
    (jn (d_impl_within_j1) false)
noncomputable def gf_impl_within : GF := y_impl_within.gf rfl rfl (fun a => d_impl_within a.1 a.2.1 a.2.2.1) (fun a => by kernel_rfl)
noncomputable def y_impl_PutNum : Y.YF where
  R := []
  ps := [.v .i]
  fs := []
  rk := .ret [(.l .u)]
  rs := [.tmp 2]
  body := .seq (.region [(none, .as 2 (.k .nil)),
 (none, .nils [(.tmp 2 0, .u)])] [0]) (.seq (.seq (.region [(none, .mv 4 (.tmp 0)),
 (none, .call 5 gf_impl_within [] rfl [(.tmp 4), (.k (.int .i64 0)), (.k (.int .i64 2147483647))]),
 (none, .un 6 .not (.tmp 5))] [0, 6]) (.cond 6 [] [0] (.seq (.region [(none, .as 2 (.k .nil)),
 (none, .nils [(.tmp 2 0, .u)])] [2]) (.ret)) (.skip))) (.seq (.region [(none, .as 3 (.k .nil)),
 (none, .nils [(.tmp 3 0, .u)])] [0, 3]) (.join [(false, 0, .one, [.val .i none]), (false, 3, .one, [.val (.l .u) none])] (.block 0 (.loop [(false, 0, .one, [.val .i none]), (false, 3, .one, [.val (.l .u) none])] (.seq (.seq (.region [(none, .mv 7 (.tmp 0)),
 (none, .bin 8 .num .geq (.tmp 7) (.k (.int .i64 128)))] [0, 3, 8]) (.cond 8 [0, 3] [0, 3] (.skip) (.exit 0))) (.block 1 (.seq (.region [(none, .mv 9 (.tmp 3)),
 (none, .mv 10 (.tmp 0)),
 (none, .bin 11 .num .rem (.tmp 10) (.k (.int .i64 128))),
 (none, .bin 12 .num .add (.tmp 11) (.k (.int .i64 128))),
 (none, .cvI 13 .u8 (.tmp 12)),
 (none, .bslice 14 1 .u [(0, (.tmp 13))]),
 (none, .app 15 .u true (.tmp 9) (.tmp 14)),
 (none, .as 3 (.tmp 15))] [0, 3]) (.region [(none, .mv 16 (.tmp 0)),
 (none, .bin 17 .num .quo (.tmp 16) (.k (.int .i64 128))),
 (none, .as 0 (.tmp 17))] [0, 3])))))) (.seq (.region [(none, .mv 18 (.tmp 3)),
 (none, .mv 19 (.tmp 0)),
 (none, .cvI 20 .u8 (.tmp 19)),
 (none, .bslice 21 1 .u [(0, (.tmp 20))]),
 (none, .app 22 .u true (.tmp 18) (.tmp 21)),
 (none, .as 2 (.tmp 22))] [2]) (.ret)))))
noncomputable def d_impl_PutNum_j2 (x_ : (Int × (List UInt8))) : Option (List UInt8) :=
  match x_ with
  | (v5, v6) => gd (v6.length + [toB v5].length ≤ lim) (
  some (v6 ++ [toB v5]))
noncomputable def d_impl_PutNum_l1 (L2 : (Int × (List UInt8)) → Option (List UInt8)) (x_ : (Int × (List UInt8))) : Option (List UInt8) :=
  match x_ with
  | (v3, v4) => br (decide (v3 ≥ 128))
    (gd (v4.length + [toB (w64 (Int.tmod v3 128 + 128))].length ≤ lim) (
    L2 ((w64 (Int.tdiv v3 128), v4 ++ [toB (w64 (Int.tmod v3 128 + 128))]))))
    (jn (d_impl_PutNum_j2) (v3, v4))
noncomputable def d_impl_PutNum (p0 : Int) : Option (List UInt8) :=
  bd (d_impl_within p0 0 2147483647) fun x1 =>
  br (!x1)
    (some [])
    (loopN (d_impl_PutNum_l1) big (p0, []))
noncomputable def gf_impl_PutNum : GF := y_impl_PutNum.gf rfl rfl (fun a => d_impl_PutNum a.1) (fun a => by kernel_rfl)
noncomputable def y_impl_GetNum : Y.YF where
  R := []
  ps := [.v (.l .u), .v .i]
  fs := []
  rk := .ret [.i, .i, .b]
  rs := [.tmp 4, .tmp 5, .tmp 6]
  body := .seq (.region [(none, .as 4 (.k (.int .i64 0))),
 (none, .as 5 (.k (.int .i64 0))),
 (none, .as 6 (.k (.bool false)))] [0, 1]) (.seq (.seq (.region [(none, .mv 10 (.tmp 1)),
 (none, .mv 11 (.tmp 0)),
 (none, .len 12 (.tmp 11)),
 (none, .bin 13 .num .sub (.tmp 12) (.k (.int .i64 1))),
 (none, .call 14 gf_impl_within [] rfl [(.tmp 10), (.k (.int .i64 0)), (.tmp 13)]),
 (none, .un 15 .not (.tmp 14))] [0, 1, 15]) (.cond 15 [] [0, 1] (.seq (.region [(none, .as 4 (.k (.int .i64 0))),
 (none, .as 5 (.k (.int .i64 0))),
 (none, .as 6 (.k (.bool false)))] [4, 5, 6]) (.ret)) (.skip))) (.seq (.region [(none, .as 7 (.k (.int .i64 0)))] [0, 1, 7]) (.join [] (.seq (.region [(none, .as 8 (.k (.int .i64 0)))] [0, 1, 7, 8]) (.block 0 (.loop [(false, 7, .one, [.val .i none]), (false, 8, .one, [.val .i none])] (.seq (.join [(false, 25, .one, [.val .b none])] (.region [(none, .mv 16 (.tmp 8)),
 (none, .bin 17 .num .lss (.tmp 16) (.k (.int .i64 5))),
 (none, .mv 18 (.tmp 17)),
 ((some (18, true)), .mv 19 (.tmp 1)),
 ((some (18, true)), .mv 20 (.tmp 8)),
 ((some (18, true)), .bin 21 .num .add (.tmp 19) (.tmp 20)),
 ((some (18, true)), .mv 22 (.tmp 0)),
 ((some (18, true)), .len 23 (.tmp 22)),
 ((some (18, true)), .bin 24 .num .lss (.tmp 21) (.tmp 23)),
 (none, .pick 25 (.tmp 18) (.tmp 24) (.k (.bool false)))] [0, 1, 7, 8, 25]) (.cond 25 [0, 1, 7, 8] [] (.skip) (.exit 0))) (.seq (.block 1 (.seq (.region [(none, .mv 28 (.tmp 0)),
 (none, .mv 29 (.tmp 1)),
 (none, .mv 30 (.tmp 8)),
 (none, .bin 31 .num .add (.tmp 29) (.tmp 30)),
 (none, .ia 32 .u (.tmp 28) (.tmp 31)),
 (none, .ld 33 none (.tmp 32)),
 (none, .cvI 34 .i64 (.tmp 33)),
 (none, .as 9 (.tmp 34))] [0, 1, 7, 8, 9]) (.seq (.region [(none, .mv 35 (.tmp 7)),
 (none, .mv 36 (.tmp 9)),
 (none, .bin 37 .num .rem (.tmp 36) (.k (.int .i64 128))),
 (none, .mv 38 (.tmp 8)),
 (none, .bin 39 .num .mul (.k (.int .i64 7)) (.tmp 38)),
 (none, .bin 40 .num .shl (.tmp 37) (.tmp 39)),
 (none, .bin 41 .num .add (.tmp 35) (.tmp 40)),
 (none, .as 7 (.tmp 41))] [0, 1, 7, 8, 9]) (.seq (.region [(none, .mv 42 (.tmp 9)),
 (none, .bin 43 .num .lss (.tmp 42) (.k (.int .i64 128)))] [0, 1, 7, 8, 43]) (.cond 43 [1, 7, 8] [0, 1, 7, 8] (.seq (.seq (.region [(none, .mv 44 (.tmp 7)),
 (none, .call 45 gf_impl_PutNum [] rfl [(.tmp 44)]),
 (none, .len 46 (.tmp 45)),
 (none, .mv 47 (.tmp 8)),
 (none, .bin 48 .num .add (.tmp 47) (.k (.int .i64 1))),
 (none, .bin 49 .num .neq (.tmp 46) (.tmp 48))] [1, 7, 8, 49]) (.cond 49 [] [1, 7, 8] (.seq (.region [(none, .as 4 (.k (.int .i64 0))),
 (none, .as 5 (.k (.int .i64 0))),
 (none, .as 6 (.k (.bool false)))] [4, 5, 6]) (.ret)) (.skip))) (.seq (.region [(none, .mv 50 (.tmp 7)),
 (none, .mv 51 (.tmp 1)),
 (none, .mv 52 (.tmp 8)),
 (none, .bin 53 .num .add (.tmp 51) (.tmp 52)),
 (none, .bin 54 .num .add (.tmp 53) (.k (.int .i64 1))),
 (none, .as 4 (.tmp 50)),
 (none, .as 5 (.tmp 54)),
 (none, .as 6 (.k (.bool true)))] [4, 5, 6]) (.ret))) (.skip)))))) (.region [(none, .mv 26 (.tmp 8)),
 (none, .bin 27 .num .add (.tmp 26) (.k (.int .i64 1))),
 (none, .as 8 (.tmp 27))] [0, 1, 7, 8])))))) (.seq (.region [(none, .as 4 (.k (.int .i64 0))),
 (none, .as 5 (.k (.int .i64 0))),
 (none, .as 6 (.k (.bool false)))] [4, 5, 6]) (.ret)))))
noncomputable def d_impl_GetNum_j3 (_ : PUnit) : Option (Int × Int × Bool) :=
  some (0, 0, false)
noncomputable def d_impl_GetNum_j2 (p0 : (List UInt8)) (p1 : Int) (L2 : (Int × Int) → Option (Int × Int × Bool)) (v3 : Int) (v4 : Int) (v5 : Bool) : Option (Int × Int × Bool) :=
  br v5
    (bd (at? p0 (w64 (p1 + v4))) fun x6 =>
    gd (¬w64 (7 * v4) < 0) (
    br (decide (w64 (↑(UInt8.toNat x6) : Int) < 128))
      (bd (d_impl_PutNum (w64 (v3 + shlI ((w64 (↑(UInt8.toNat x6) : Int)).tmod 128) (w64 (7 * v4))))) fun x7 =>
      br ((↑(List.length x7) : Int) != w64 (v4 + 1))
        (some (0, 0, false))
        (some ((w64 (v3 + shlI ((w64 (↑(UInt8.toNat x6) : Int)).tmod 128) (w64 (7 * v4))), w64 (w64 (p1 + v4) + 1), true))))
      (L2 ((w64 (v3 + shlI ((w64 (↑(UInt8.toNat x6) : Int)).tmod 128) (w64 (7 * v4))), w64 (v4 + 1))))))
    (jn (d_impl_GetNum_j3) ())
noncomputable def d_impl_GetNum_l1 (p0 : (List UInt8)) (p1 : Int) (L2 : (Int × Int) → Option (Int × Int × Bool)) (x_ : (Int × Int)) : Option (Int × Int × Bool) :=
  match x_ with
  | (v3, v4) => br (decide (v4 < 5))
    (jn (d_impl_GetNum_j2 p0 p1 L2 v3 v4) (decide (w64 (p1 + v4) < (↑p0.length : Int))))
    (jn (d_impl_GetNum_j2 p0 p1 L2 v3 v4) false)
noncomputable def d_impl_GetNum (p0 : (List UInt8)) (p1 : Int) : Option (Int × Int × Bool) :=
  bd (d_impl_within p1 0 (w64 ((↑p0.length : Int) - 1))) fun x1 =>
  br (!x1)
    (some (0, 0, false))
    (loopN (d_impl_GetNum_l1 p0 p1) big (0, 0))
noncomputable def gf_impl_GetNum : GF := y_impl_GetNum.gf rfl rfl (fun a => d_impl_GetNum a.1 a.2.1) (fun a => by kernel_rfl)
noncomputable def y_impl_getNums : Y.YF where
  R := []
  ps := [.v .s]
  fs := []
  rk := .ret [(.l .i), .b]
  rs := [.tmp 2, .tmp 3]
  body := .seq (.region [(none, .as 2 (.k .nil)),
 (none, .nils [(.tmp 2 0, .i)]),
 (none, .as 3 (.k (.bool false)))] [0]) (.seq (.region [(none, .mv 10 (.tmp 0)),
 (none, .cvSB 11 (.tmp 10)),
 (none, .as 4 (.tmp 11))] [4]) (.seq (.region [(none, .as 5 (.k .nil)),
 (none, .nils [(.tmp 5 0, .i)])] [4, 5]) (.join [(false, 5, .one, [.val (.l .i) none])] (.seq (.region [(none, .as 6 (.k (.int .i64 0)))] [4, 5, 6]) (.block 0 (.loop [(false, 5, .one, [.val (.l .i) none]), (false, 6, .one, [.val .i none])] (.seq (.seq (.region [(none, .mv 12 (.tmp 6)),
 (none, .mv 13 (.tmp 4)),
 (none, .len 14 (.tmp 13)),
 (none, .bin 15 .num .lss (.tmp 12) (.tmp 14))] [4, 5, 6, 15]) (.cond 15 [4, 5, 6] [5] (.skip) (.exit 0))) (.block 1 (.seq (.region [(none, .mv 17 (.tmp 4)),
 (none, .mv 18 (.tmp 6)),
 (none, .call 19 gf_impl_GetNum [] rfl [(.tmp 17), (.tmp 18)]),
 (none, .mv 16 (.tmp 19)),
 (none, .ext 20 (.tmp 16) 0),
 (none, .ext 21 (.tmp 16) 1),
 (none, .ext 22 (.tmp 16) 2),
 (none, .as 7 (.tmp 20)),
 (none, .as 8 (.tmp 21)),
 (none, .as 9 (.tmp 22))] [4, 5, 7, 8, 9]) (.seq (.seq (.region [(none, .mv 23 (.tmp 9)),
 (none, .un 24 .not (.tmp 23))] [4, 5, 7, 8, 24]) (.cond 24 [] [4, 5, 7, 8] (.seq (.region [(none, .as 2 (.k .nil)),
 (none, .nils [(.tmp 2 0, .i)]),
 (none, .as 3 (.k (.bool false)))] [2, 3]) (.ret)) (.skip))) (.seq (.region [(none, .mv 25 (.tmp 5)),
 (none, .mv 26 (.tmp 7)),
 (none, .bslice 27 1 .i [(0, (.tmp 26))]),
 (none, .app 28 .i true (.tmp 25) (.tmp 27)),
 (none, .as 5 (.tmp 28))] [4, 5, 8]) (.region [(none, .mv 29 (.tmp 8)),
 (none, .as 6 (.tmp 29))] [4, 5, 6]))))))))) (.seq (.region [(none, .mv 30 (.tmp 5)),
 (none, .as 2 (.tmp 30)),
 (none, .as 3 (.k (.bool true)))] [2, 3]) (.ret)))))
noncomputable def d_impl_getNums_j2 (v5 : (List Int)) : Option ((List Int) × Bool) :=
  some (v5, true)
noncomputable def d_impl_getNums_l1 (p0 : (List UInt8)) (L1 : ((List Int) × Int) → Option ((List Int) × Bool)) (x_ : ((List Int) × Int)) : Option ((List Int) × Bool) :=
  match x_ with
  | (v2, v3) => br (decide (v3 < (↑p0.length : Int)))
    (bd (d_impl_GetNum p0 v3) fun x4 =>
    br (!x4.snd.snd)
      (some ([], false))
      (gd (List.length v2 + [x4.fst].length ≤ lim) (
      L1 (v2 ++ [x4.fst], x4.snd.fst))))
    (jn (d_impl_getNums_j2) v2)
noncomputable def d_impl_getNums (p0 : (List UInt8)) : Option ((List Int) × Bool) :=
  loopN (d_impl_getNums_l1 p0) big ([], 0)
noncomputable def gf_impl_getNums : GF := y_impl_getNums.gf rfl rfl (fun a => d_impl_getNums a.1) (fun a => by kernel_rfl)
noncomputable def y_impl_ReqOk_1 : Y.YF where
  R := []
  ps := [.v .i]
  fs := []
  rk := .ret [.b]
  rs := [.tmp 2]
  body := .seq (.region [(none, .as 2 (.k (.bool false)))] [0]) (.seq (.region [(none, .mv 3 (.tmp 0)),
 (none, .call 4 gf_impl_within [] rfl [(.tmp 3), (.k (.int .i64 0)), (.k (.int .i64 9999))]),
 (none, .as 2 (.tmp 4))] [2]) (.ret))
noncomputable def d_impl_ReqOk_1 (p0 : Int) : Option Bool :=
  bd (d_impl_within p0 0 9999) fun x1 =>
  some x1
noncomputable def gf_impl_ReqOk_1 : GF := y_impl_ReqOk_1.gf rfl rfl (fun a => d_impl_ReqOk_1 a.1) (fun a => by kernel_rfl)
noncomputable def y_impl_ReqOk : Y.YF where
  R := [gf_impl_ReqOk_1]
  ps := [.v (.st 0)]
  fs := []
  rk := .ret [.b]
  rs := [.tmp 2]
  body := .seq (.region [(none, .box 1 (.tmp 0)),
 (none, .as 2 (.k (.bool false)))] [1]) (.seq (.region [(none, .as 3 (.fn 0))] [1, 3]) (.seq (.seq (.region [(none, .fa 4 0 (.tmp 1)),
 (none, .ld 5 none (.tmp 4))] [1, 3, 5]) (.block 0 (.seq (.region [(none, .bin 7 .num .eql (.tmp 5) (.k (.int .i64 1))),
 (none, .as 6 (.tmp 7))] [1, 3, 5, 6]) (.cond 6 [1, 3] [1, 3, 5] (.join [(false, 2, .one, [.val .b none])] (.region [(none, .mv 8 (.tmp 3)),
 (none, .fa 9 1 (.tmp 1)),
 (none, .ld 10 none (.tmp 9)),
 (none, .callv 11 (.tmp 8) [.v] [(.tmp 10)]),
 (none, .mv 12 (.tmp 11)),
 ((some (12, true)), .mv 13 (.tmp 3)),
 ((some (12, true)), .fa 14 2 (.tmp 1)),
 ((some (12, true)), .ld 15 none (.tmp 14)),
 ((some (12, true)), .callv 16 (.tmp 13) [.v] [(.tmp 15)]),
 (none, .pick 17 (.tmp 12) (.tmp 16) (.k (.bool false))),
 (none, .mv 18 (.tmp 17)),
 ((some (18, true)), .fa 19 3 (.tmp 1)),
 ((some (18, true)), .ld 20 none (.tmp 19)),
 ((some (18, true)), .call 21 gf_impl_within [] rfl [(.tmp 20), (.k (.int .i64 (-1))), (.k (.int .i64 9999))]),
 (none, .pick 22 (.tmp 18) (.tmp 21) (.k (.bool false))),
 (none, .mv 23 (.tmp 22)),
 ((some (23, true)), .mv 24 (.tmp 3)),
 ((some (23, true)), .fa 25 4 (.tmp 1)),
 ((some (23, true)), .ld 26 none (.tmp 25)),
 ((some (23, true)), .callv 27 (.tmp 24) [.v] [(.tmp 26)]),
 (none, .pick 28 (.tmp 23) (.tmp 27) (.k (.bool false))),
 (none, .mv 29 (.tmp 28)),
 ((some (29, true)), .mv 30 (.tmp 3)),
 ((some (29, true)), .fa 31 5 (.tmp 1)),
 ((some (29, true)), .ld 32 none (.tmp 31)),
 ((some (29, true)), .callv 33 (.tmp 30) [.v] [(.tmp 32)]),
 (none, .pick 34 (.tmp 29) (.tmp 33) (.k (.bool false))),
 (none, .as 2 (.tmp 34))] [2]) (.ret)) (.join [(false, 35, .one, [.val .b none])] (.seq (.region [(none, .bin 36 .num .eql (.tmp 5) (.k (.int .i64 2))),
 (none, .as 35 (.tmp 36))] [1, 3, 5, 35]) (.cond 35 [1, 3, 5, 35] [1, 3, 5] (.skip) (.seq (.region [(none, .bin 37 .num .eql (.tmp 5) (.k (.int .i64 4))),
 (none, .as 35 (.tmp 37))] [1, 3, 5, 35]) (.cond 35 [1, 3, 5, 35] [1, 3, 5] (.skip) (.seq (.region [(none, .bin 38 .num .eql (.tmp 5) (.k (.int .i64 5))),
 (none, .as 35 (.tmp 38))] [1, 3, 5, 35]) (.cond 35 [1, 3, 5, 35] [1, 3, 5] (.skip) (.region [(none, .bin 39 .num .eql (.tmp 5) (.k (.int .i64 7))),
 (none, .as 35 (.tmp 39))] [1, 3, 5, 35]))))))) (.cond 35 [1, 3] [1, 3, 5] (.join [(false, 2, .one, [.val .b none])] (.region [(none, .mv 40 (.tmp 3)),
 (none, .fa 41 1 (.tmp 1)),
 (none, .ld 42 none (.tmp 41)),
 (none, .callv 43 (.tmp 40) [.v] [(.tmp 42)]),
 (none, .mv 44 (.tmp 43)),
 ((some (44, true)), .ld 45 (some 6) (.tmp 1)),
 ((some (44, true)), .fa 46 0 (.tmp 1)),
 ((some (44, true)), .ld 47 none (.tmp 46)),
 ((some (44, true)), .fa 48 1 (.tmp 1)),
 ((some (44, true)), .ld 49 none (.tmp 48)),
 ((some (44, true)), .build 50 [.int .i64 0, .int .i64 0, .int .i64 0, .int .i64 0, .int .i64 0, .int .i64 0] [(0, 1, (.tmp 47)), (1, 1, (.tmp 49))]),
 ((some (44, true)), .bin 51 (.agg [.i, .i, .i, .i, .i, .i]) .eql (.tmp 45) (.tmp 50)),
 (none, .pick 52 (.tmp 44) (.tmp 51) (.k (.bool false))),
 (none, .as 2 (.tmp 52))] [2]) (.ret)) (.seq (.region [(none, .bin 54 .num .eql (.tmp 5) (.k (.int .i64 3))),
 (none, .as 53 (.tmp 54))] [1, 3, 5, 53]) (.cond 53 [1, 3] [1, 5] (.join [(false, 2, .one, [.val .b none])] (.region [(none, .mv 55 (.tmp 3)),
 (none, .fa 56 2 (.tmp 1)),
 (none, .ld 57 none (.tmp 56)),
 (none, .callv 58 (.tmp 55) [.v] [(.tmp 57)]),
 (none, .mv 59 (.tmp 58)),
 ((some (59, true)), .mv 60 (.tmp 3)),
 ((some (59, true)), .fa 61 4 (.tmp 1)),
 ((some (59, true)), .ld 62 none (.tmp 61)),
 ((some (59, true)), .callv 63 (.tmp 60) [.v] [(.tmp 62)]),
 (none, .pick 64 (.tmp 59) (.tmp 63) (.k (.bool false))),
 (none, .mv 65 (.tmp 64)),
 ((some (65, true)), .ld 66 (some 6) (.tmp 1)),
 ((some (65, true)), .fa 67 0 (.tmp 1)),
 ((some (65, true)), .ld 68 none (.tmp 67)),
 ((some (65, true)), .fa 69 2 (.tmp 1)),
 ((some (65, true)), .ld 70 none (.tmp 69)),
 ((some (65, true)), .fa 71 4 (.tmp 1)),
 ((some (65, true)), .ld 72 none (.tmp 71)),
 ((some (65, true)), .build 73 [.int .i64 0, .int .i64 0, .int .i64 0, .int .i64 0, .int .i64 0, .int .i64 0] [(0, 1, (.tmp 68)), (2, 1, (.tmp 70)), (4, 1, (.tmp 72))]),
 ((some (65, true)), .bin 74 (.agg [.i, .i, .i, .i, .i, .i]) .eql (.tmp 66) (.tmp 73)),
 (none, .pick 75 (.tmp 65) (.tmp 74) (.k (.bool false))),
 (none, .as 2 (.tmp 75))] [2]) (.ret)) (.seq (.region [(none, .bin 77 .num .eql (.tmp 5) (.k (.int .i64 6))),
 (none, .as 76 (.tmp 77))] [1, 76]) (.cond 76 [1] [] (.seq (.region [(none, .ld 78 (some 6) (.tmp 1)),
 (none, .build 79 [.int .i64 0, .int .i64 0, .int .i64 0, .int .i64 0, .int .i64 0, .int .i64 0] [(0, 1, (.k (.int .i64 6)))]),
 (none, .bin 80 (.agg [.i, .i, .i, .i, .i, .i]) .eql (.tmp 78) (.tmp 79)),
 (none, .as 2 (.tmp 80))] [2]) (.ret)) (.skip))))))))))) (.seq (.region [(none, .as 2 (.k (.bool false)))] [2]) (.ret))))
noncomputable def d_impl_ReqOk_j1 (v6 : Bool) : Option Bool :=
  some v6
noncomputable def d_impl_ReqOk_j2 (p0 : GReq) (v7 : Bool) : Option Bool :=
  br v7
    (bd (d_impl_ReqOk_1 p0.Id) fun x8 =>
    br x8
      (jn (d_impl_ReqOk_j1) (p0.Kind == p0.Kind && (p0.Id == p0.Id && (p0.Cabin == 0 && (p0.From == 0 && (p0.Size == 0 && (p0.Tier == 0 && true)))))))
      (jn (d_impl_ReqOk_j1) false))
    (br (p0.Kind == 3)
      (bd (d_impl_ReqOk_1 p0.Cabin) fun x9 =>
      br x9
        (bd (d_impl_ReqOk_1 p0.Size) fun x10 =>
        br x10
          (jn (d_impl_ReqOk_j1) (p0.Kind == p0.Kind && (p0.Id == 0 && (p0.Cabin == p0.Cabin && (p0.From == 0 && (p0.Size == p0.Size && (p0.Tier == 0 && true)))))))
          (jn (d_impl_ReqOk_j1) false))
        (jn (d_impl_ReqOk_j1) false))
      (br (p0.Kind == 6)
        (some (p0.Kind == 6 && (p0.Id == 0 && (p0.Cabin == 0 && (p0.From == 0 && (p0.Size == 0 && (p0.Tier == 0 && true)))))))
        (some false)))
noncomputable def d_impl_ReqOk (p0 : GReq) : Option Bool :=
  br (p0.Kind == 1)
    (bd (d_impl_ReqOk_1 p0.Id) fun x1 =>
    br x1
      (bd (d_impl_ReqOk_1 p0.Cabin) fun x2 =>
      br x2
        (bd (d_impl_within p0.From (-1) 9999) fun x3 =>
        br x3
          (bd (d_impl_ReqOk_1 p0.Size) fun x4 =>
          br x4
            (bd (d_impl_ReqOk_1 p0.Tier) fun x5 =>
            jn (d_impl_ReqOk_j1) x5)
            (jn (d_impl_ReqOk_j1) false))
          (jn (d_impl_ReqOk_j1) false))
        (jn (d_impl_ReqOk_j1) false))
      (jn (d_impl_ReqOk_j1) false))
    (br (p0.Kind == 2)
      (jn (d_impl_ReqOk_j2 p0) (p0.Kind == 2))
      (br (p0.Kind == 4)
        (jn (d_impl_ReqOk_j2 p0) (p0.Kind == 4))
        (br (p0.Kind == 5)
          (jn (d_impl_ReqOk_j2 p0) (p0.Kind == 5))
          (jn (d_impl_ReqOk_j2 p0) (p0.Kind == 7)))))
noncomputable def gf_impl_ReqOk : GF := y_impl_ReqOk.gf rfl rfl (fun a => d_impl_ReqOk a.1) (fun a => by kernel_rfl)
noncomputable def y_impl_putNums : Y.YF where
  R := []
  ps := [.v (.l .i)]
  fs := []
  rk := .ret [.s]
  rs := [.tmp 2]
  body := .seq (.region [(none, .as 2 (.k (.str [])))] [0]) (.seq (.region [(none, .as 3 (.k .nil)),
 (none, .nils [(.tmp 3 0, .u)])] [0, 3]) (.join [(false, 3, .one, [.val (.l .u) none])] (.seq (.region [(none, .mv 6 (.tmp 0)),
 (none, .len 7 (.tmp 6)),
 (none, .mv 8 (.k (.int .i64 0)))] [3, 6, 7, 8]) (.block 0 (.loop [(false, 3, .one, [.val (.l .u) none]), (false, 8, .one, [.val .i none])] (.seq (.region [(none, .bin 9 .num .lss (.tmp 8) (.tmp 7))] [3, 6, 7, 8, 9]) (.seq (.cond 9 [3, 6, 7, 8] [3] (.skip) (.exit 0)) (.seq (.block 1 (.seq (.region [(none, .ia 10 .i (.tmp 6) (.tmp 8)),
 (none, .ld 11 none (.tmp 10)),
 (none, .as 5 (.tmp 11))] [3, 5, 6, 7, 8]) (.region [(none, .mv 12 (.tmp 3)),
 (none, .mv 13 (.tmp 5)),
 (none, .call 14 gf_impl_PutNum [] rfl [(.tmp 13)]),
 (none, .app 15 .u true (.tmp 12) (.tmp 14)),
 (none, .as 3 (.tmp 15))] [3, 6, 7, 8]))) (.region [(none, .bin 16 .num .add (.tmp 8) (.k (.int .i64 1))),
 (none, .mv 8 (.tmp 16))] [3, 6, 7, 8]))))))) (.seq (.region [(none, .mv 17 (.tmp 3)),
 (none, .cvBS 18 (.tmp 17)),
 (none, .as 2 (.tmp 18))] [2]) (.ret))))
noncomputable def d_impl_putNums_j2 (v6 : (List UInt8)) : Option (List UInt8) :=
  some v6
noncomputable def d_impl_putNums_l1 (p0 : (List Int)) (L1 : ((List UInt8) × Int) → Option (List UInt8)) (x_ : ((List UInt8) × Int)) : Option (List UInt8) :=
  match x_ with
  | (v2, v3) => br (decide (v3 < (↑p0.length : Int)))
    (bd (at? p0 v3) fun x4 =>
    bd (d_impl_PutNum x4) fun x5 =>
    gd (List.length v2 + List.length x5 ≤ lim) (
    L1 ((v2 ++ x5, w64 (v3 + 1)))))
    (jn (d_impl_putNums_j2) v2)
noncomputable def d_impl_putNums (p0 : (List Int)) : Option (List UInt8) :=
  loopN (d_impl_putNums_l1 p0) big ([], 0)
noncomputable def gf_impl_putNums : GF := y_impl_putNums.gf rfl rfl (fun a => d_impl_putNums a.1) (fun a => by kernel_rfl)
noncomputable def y_impl_ReqBytes : Y.YF where
  R := []
  ps := [.v (.st 0)]
  fs := []
  rk := .ret [.s]
  rs := [.tmp 2]
  body := .seq (.region [(none, .box 1 (.tmp 0)),
 (none, .as 2 (.k (.str [])))] [1]) (.seq (.seq (.region [(none, .ld 4 (some 6) (.tmp 1)),
 (none, .call 5 gf_impl_ReqOk [] rfl [(.tmp 4)]),
 (none, .un 6 .not (.tmp 5))] [1, 6]) (.cond 6 [] [1] (.seq (.region [(none, .as 2 (.k (.str [])))] [2]) (.ret)) (.skip))) (.seq (.region [(none, .fa 7 0 (.tmp 1)),
 (none, .ld 8 none (.tmp 7)),
 (none, .bslice 9 1 .i [(0, (.tmp 8))]),
 (none, .as 3 (.tmp 9))] [1, 3]) (.join [(false, 3, .one, [.val (.l .i) none])] (.seq (.region [(none, .fa 10 0 (.tmp 1)),
 (none, .ld 11 none (.tmp 10))] [1, 3, 11]) (.block 0 (.seq (.region [(none, .bin 18 .num .eql (.tmp 11) (.k (.int .i64 1))),
 (none, .as 17 (.tmp 18))] [1, 3, 11, 17]) (.cond 17 [1, 3] [1, 3, 11] (.region [(none, .mv 19 (.tmp 3)),
 (none, .fa 20 1 (.tmp 1)),
 (none, .ld 21 none (.tmp 20)),
 (none, .fa 22 2 (.tmp 1)),
 (none, .ld 23 none (.tmp 22)),
 (none, .fa 24 3 (.tmp 1)),
 (none, .ld 25 none (.tmp 24)),
 (none, .bin 26 .num .add (.tmp 25) (.k (.int .i64 1))),
 (none, .fa 27 4 (.tmp 1)),
 (none, .ld 28 none (.tmp 27)),
 (none, .fa 29 5 (.tmp 1)),
 (none, .ld 30 none (.tmp 29)),
 (none, .bslice 31 5 .i [(0, (.tmp 21)), (1, (.tmp 23)), (2, (.tmp 26)), (3, (.tmp 28)), (4, (.tmp 30))]),
 (none, .app 32 .i true (.tmp 19) (.tmp 31)),
 (none, .as 3 (.tmp 32))] [3]) (.seq (.region [(none, .bin 34 .num .eql (.tmp 11) (.k (.int .i64 3))),
 (none, .as 33 (.tmp 34))] [1, 3, 11, 33]) (.cond 33 [1, 3] [1, 3, 11] (.region [(none, .mv 35 (.tmp 3)),
 (none, .fa 36 2 (.tmp 1)),
 (none, .ld 37 none (.tmp 36)),
 (none, .fa 38 4 (.tmp 1)),
 (none, .ld 39 none (.tmp 38)),
 (none, .bslice 40 2 .i [(0, (.tmp 37)), (1, (.tmp 39))]),
 (none, .app 41 .i true (.tmp 35) (.tmp 40)),
 (none, .as 3 (.tmp 41))] [3]) (.seq (.region [(none, .bin 43 .num .eql (.tmp 11) (.k (.int .i64 6))),
 (none, .as 42 (.tmp 43))] [1, 3, 42]) (.cond 42 [3] [1, 3] (.skip) (.region [(none, .mv 12 (.tmp 3)),
 (none, .fa 13 1 (.tmp 1)),
 (none, .ld 14 none (.tmp 13)),
 (none, .bslice 15 1 .i [(0, (.tmp 14))]),
 (none, .app 16 .i true (.tmp 12) (.tmp 15)),
 (none, .as 3 (.tmp 16))] [3]))))))))) (.seq (.region [(none, .mv 44 (.tmp 3)),
 (none, .call 45 gf_impl_putNums [] rfl [(.tmp 44)]),
 (none, .as 2 (.tmp 45))] [2]) (.ret)))))
noncomputable def d_impl_ReqBytes_j1 (v2 : (List Int)) : Option (List UInt8) :=
  bd (d_impl_putNums v2) fun x3 =>
  some x3
noncomputable def d_impl_ReqBytes (p0 : GReq) : Option (List UInt8) :=
  bd (d_impl_ReqOk p0) fun x1 =>
  br (!x1)
    (some [])
    (br (p0.Kind == 1)
      (gd ([p0.Kind].length + [p0.Id, p0.Cabin, w64 (p0.From + 1), p0.Size, p0.Tier].length ≤ lim) (
      jn (d_impl_ReqBytes_j1) ([p0.Kind] ++ [p0.Id, p0.Cabin, w64 (p0.From + 1), p0.Size, p0.Tier])))
      (br (p0.Kind == 3)
        (gd ([p0.Kind].length + [p0.Cabin, p0.Size].length ≤ lim) (
        jn (d_impl_ReqBytes_j1) ([p0.Kind] ++ [p0.Cabin, p0.Size])))
        (br (p0.Kind == 6)
          (jn (d_impl_ReqBytes_j1) [p0.Kind])
          (gd ([p0.Kind].length + [p0.Id].length ≤ lim) (
          jn (d_impl_ReqBytes_j1) ([p0.Kind] ++ [p0.Id]))))))
noncomputable def gf_impl_ReqBytes : GF := y_impl_ReqBytes.gf rfl rfl (fun a => d_impl_ReqBytes a.1) (fun a => by kernel_rfl)
noncomputable def y_impl_ReqRead : Y.YF where
  R := []
  ps := [.v .s]
  fs := []
  rk := .ret [(.st 0), .b]
  rs := [.cell 2 (some 6), .tmp 3]
  body := .seq (.region [(none, .alloc 2 [.int .i64 0, .int .i64 0, .int .i64 0, .int .i64 0, .int .i64 0, .int .i64 0]),
 (none, .as 3 (.k (.bool false)))] [0, 2]) (.seq (.region [(none, .mv 10 (.tmp 0)),
 (none, .call 11 gf_impl_getNums [] rfl [(.tmp 10)]),
 (none, .mv 9 (.tmp 11)),
 (none, .ext 12 (.tmp 9) 0),
 (none, .ext 13 (.tmp 9) 1),
 (none, .as 4 (.tmp 12)),
 (none, .as 5 (.tmp 13))] [0, 2, 4, 5]) (.seq (.join [(false, 20, .one, [.val .b none])] (.region [(none, .mv 14 (.tmp 5)),
 (none, .un 15 .not (.tmp 14)),
 (none, .mv 16 (.tmp 15)),
 ((some (16, false)), .mv 17 (.tmp 4)),
 ((some (16, false)), .len 18 (.tmp 17)),
 ((some (16, false)), .bin 19 .num .eql (.tmp 18) (.k (.int .i64 0))),
 (none, .pick 20 (.tmp 16) (.k (.bool true)) (.tmp 19))] [0, 2, 4, 20]) (.cond 20 [2] [0, 2, 4] (.seq (.region [(none, .build 21 [.int .i64 0, .int .i64 0, .int .i64 0, .int .i64 0, .int .i64 0, .int .i64 0] []),
 (none, .st 6 (.tmp 2) (.tmp 21)),
 (none, .as 3 (.k (.bool false)))] [2, 3]) (.ret)) (.skip))) (.seq (.region [(none, .mv 22 (.tmp 4)),
 (none, .ia 23 .i (.tmp 22) (.k (.int .i64 0))),
 (none, .ld 24 none (.tmp 23)),
 (none, .build 25 [.int .i64 0, .int .i64 0, .int .i64 0, .int .i64 0, .int .i64 0, .int .i64 0] [(0, 1, (.tmp 24))]),
 (none, .alloc 6 [.int .i64 0, .int .i64 0, .int .i64 0, .int .i64 0, .int .i64 0, .int .i64 0]),
 (none, .st 6 (.tmp 6) (.tmp 25))] [0, 2, 4, 6]) (.seq (.region [(none, .mv 26 (.tmp 4)),
 (none, .sub 27 .i (.tmp 26) (some (.k (.int .i64 1))) none),
 (none, .appz 28 .i (.tmp 27) (.k (.int .i64 5))),
 (none, .as 7 (.tmp 28))] [0, 2, 6, 7]) (.join [(true, 6, .one, [.val (.st 0) none])] (.seq (.region [(none, .fa 29 0 (.tmp 6)),
 (none, .ld 30 none (.tmp 29))] [0, 2, 6, 7, 30]) (.block 0 (.seq (.region [(none, .bin 36 .num .eql (.tmp 30) (.k (.int .i64 1))),
 (none, .as 35 (.tmp 36))] [0, 2, 6, 7, 30, 35]) (.cond 35 [0, 2, 6, 7] [0, 2, 6, 7, 30] (.dreg (.op 0 none [] (.mv 37 (.tmp 7))
 (.op 1 none [] (.ia 38 .i (.tmp 37) (.k (.int .i64 0)))
 (.op 2 none [] (.ld 39 none (.tmp 38))
 (.op 3 none [] (.mv 40 (.tmp 7))
 (.op 4 none [] (.ia 41 .i (.tmp 40) (.k (.int .i64 1)))
 (.op 5 none [] (.ld 42 none (.tmp 41))
 (.op 6 none [] (.mv 43 (.tmp 7))
 (.op 7 none [] (.ia 44 .i (.tmp 43) (.k (.int .i64 2)))
 (.op 8 none [] (.ld 45 none (.tmp 44))
 (.op 9 none [] (.bin 46 .num .sub (.tmp 45) (.k (.int .i64 1)))
 (.op 10 none [] (.mv 47 (.tmp 7))
 (.op 11 none [] (.ia 48 .i (.tmp 47) (.k (.int .i64 3)))
 (.op 12 none [] (.ld 49 none (.tmp 48))
 (.op 13 none [] (.mv 50 (.tmp 7))
 (.op 14 none [] (.ia 51 .i (.tmp 50) (.k (.int .i64 4)))
 (.op 15 none [] (.ld 52 none (.tmp 51))
 (.op 16 none [] (.fa 53 1 (.tmp 6))
 (.op 17 none [41, 44, 48, 51] (.st 1 (.tmp 53) (.tmp 39))
 (.op 18 none [] (.fa 54 2 (.tmp 6))
 (.op 19 none [44, 48, 51] (.st 1 (.tmp 54) (.tmp 42))
 (.op 20 none [] (.fa 55 3 (.tmp 6))
 (.op 21 none [48, 51] (.st 1 (.tmp 55) (.tmp 46))
 (.op 22 none [] (.fa 56 4 (.tmp 6))
 (.op 23 none [51] (.st 1 (.tmp 56) (.tmp 49))
 (.op 24 none [] (.fa 57 5 (.tmp 6))
 (.op 25 none [] (.st 1 (.tmp 57) (.tmp 52))
 .nil)))))))))))))))))))))))))) [0, 2, 6]) (.seq (.region [(none, .bin 59 .num .eql (.tmp 30) (.k (.int .i64 3))),
 (none, .as 58 (.tmp 59))] [0, 2, 6, 7, 30, 58]) (.cond 58 [0, 2, 6, 7] [0, 2, 6, 7, 30] (.dreg (.op 0 none [] (.mv 60 (.tmp 7))
 (.op 1 none [] (.ia 61 .i (.tmp 60) (.k (.int .i64 0)))
 (.op 2 none [] (.ld 62 none (.tmp 61))
 (.op 3 none [] (.mv 63 (.tmp 7))
 (.op 4 none [] (.ia 64 .i (.tmp 63) (.k (.int .i64 1)))
 (.op 5 none [] (.ld 65 none (.tmp 64))
 (.op 6 none [] (.fa 66 2 (.tmp 6))
 (.op 7 none [64] (.st 1 (.tmp 66) (.tmp 62))
 (.op 8 none [] (.fa 67 4 (.tmp 6))
 (.op 9 none [] (.st 1 (.tmp 67) (.tmp 65))
 .nil)))))))))) [0, 2, 6]) (.seq (.region [(none, .bin 69 .num .eql (.tmp 30) (.k (.int .i64 6))),
 (none, .as 68 (.tmp 69))] [0, 2, 6, 7, 68]) (.cond 68 [0, 2, 6] [0, 2, 6, 7] (.skip) (.region [(none, .mv 31 (.tmp 7)),
 (none, .ia 32 .i (.tmp 31) (.k (.int .i64 0))),
 (none, .ld 33 none (.tmp 32)),
 (none, .fa 34 1 (.tmp 6)),
 (none, .st 1 (.tmp 34) (.tmp 33))] [0, 2, 6]))))))))) (.seq (.region [(none, .ld 70 (some 6) (.tmp 6)),
 (none, .call 71 gf_impl_ReqBytes [] rfl [(.tmp 70)]),
 (none, .as 8 (.tmp 71))] [0, 2, 6, 8]) (.seq (.join [(false, 78, .one, [.val .b none])] (.region [(none, .mv 72 (.tmp 8)),
 (none, .bin 73 .num .eql (.tmp 72) (.k (.str []))),
 (none, .mv 74 (.tmp 73)),
 ((some (74, false)), .mv 75 (.tmp 8)),
 ((some (74, false)), .mv 76 (.tmp 0)),
 ((some (74, false)), .bin 77 .num .neq (.tmp 75) (.tmp 76)),
 (none, .pick 78 (.tmp 74) (.k (.bool true)) (.tmp 77))] [2, 6, 78]) (.cond 78 [2] [2, 6] (.seq (.region [(none, .build 79 [.int .i64 0, .int .i64 0, .int .i64 0, .int .i64 0, .int .i64 0, .int .i64 0] []),
 (none, .st 6 (.tmp 2) (.tmp 79)),
 (none, .as 3 (.k (.bool false)))] [2, 3]) (.ret)) (.skip))) (.seq (.region [(none, .ld 80 (some 6) (.tmp 6)),
 (none, .st 6 (.tmp 2) (.tmp 80)),
 (none, .as 3 (.k (.bool true)))] [2, 3]) (.ret)))))))))
noncomputable def d_impl_ReqRead_j3 (v15 : GReq) (v17 : Bool) : Option (GReq × Bool) :=
  br v17
    (some (GReq.mk 0 0 0 0 0 0, false))
    (some (v15, true))
noncomputable def d_impl_ReqRead_j2 (p0 : (List UInt8)) (v15 : GReq) : Option (GReq × Bool) :=
  bd (d_impl_ReqBytes v15) fun x16 =>
  br (x16 == [])
    (jn (d_impl_ReqRead_j3 v15) true)
    (jn (d_impl_ReqRead_j3 v15) (x16 != p0))
noncomputable def d_impl_ReqRead_j1 (p0 : (List UInt8)) (x1 : ((List Int) × Bool)) (v2 : Bool) : Option (GReq × Bool) :=
  br v2
    (some (GReq.mk 0 0 0 0 0 0, false))
    (bd (at? x1.fst 0) fun x3 =>
    bd (at? x1.fst 0) fun x4 =>
    gd ((0 : Int) ≤ 1 ∧ 1 ≤ (↑(List.length x1.fst) : Int)) (
    gd (Int.toNat 1 + (List.length x1.fst - Int.toNat 1) = List.length x1.fst) (
    gd ((List.take (List.length x1.fst - Int.toNat 1) (List.drop (Int.toNat 1) x1.fst)).length + Int.toNat 5 ≤ lim) (
    br (x4 == 1)
      (bd (at? (List.take (List.length x1.fst - Int.toNat 1) (List.drop (Int.toNat 1) x1.fst) ++ List.replicate (Int.toNat 5) 0) 0) fun x5 =>
      bd (at? (List.take (List.length x1.fst - Int.toNat 1) (List.drop (Int.toNat 1) x1.fst) ++ List.replicate (Int.toNat 5) 0) 0) fun x6 =>
      bd (at? (List.take (List.length x1.fst - Int.toNat 1) (List.drop (Int.toNat 1) x1.fst) ++ List.replicate (Int.toNat 5) 0) 1) fun x7 =>
      bd (at? (List.take (List.length x1.fst - Int.toNat 1) (List.drop (Int.toNat 1) x1.fst) ++ List.replicate (Int.toNat 5) 0) 1) fun x8 =>
      bd (at? (List.take (List.length x1.fst - Int.toNat 1) (List.drop (Int.toNat 1) x1.fst) ++ List.replicate (Int.toNat 5) 0) 2) fun x9 =>
      bd (at? (List.take (List.length x1.fst - Int.toNat 1) (List.drop (Int.toNat 1) x1.fst) ++ List.replicate (Int.toNat 5) 0) 2) fun x10 =>
      bd (at? (List.take (List.length x1.fst - Int.toNat 1) (List.drop (Int.toNat 1) x1.fst) ++ List.replicate (Int.toNat 5) 0) 3) fun x11 =>
      bd (at? (List.take (List.length x1.fst - Int.toNat 1) (List.drop (Int.toNat 1) x1.fst) ++ List.replicate (Int.toNat 5) 0) 3) fun x12 =>
      bd (at? (List.take (List.length x1.fst - Int.toNat 1) (List.drop (Int.toNat 1) x1.fst) ++ List.replicate (Int.toNat 5) 0) 4) fun x13 =>
      bd (at? (List.take (List.length x1.fst - Int.toNat 1) (List.drop (Int.toNat 1) x1.fst) ++ List.replicate (Int.toNat 5) 0) 4) fun x14 =>
      jn (d_impl_ReqRead_j2 p0) (GReq.mk x4 x6 x8 (w64 (x10 - 1)) x12 x14))
      (br (x4 == 3)
        (bd (at? (List.take (List.length x1.fst - Int.toNat 1) (List.drop (Int.toNat 1) x1.fst) ++ List.replicate (Int.toNat 5) 0) 0) fun x18 =>
        bd (at? (List.take (List.length x1.fst - Int.toNat 1) (List.drop (Int.toNat 1) x1.fst) ++ List.replicate (Int.toNat 5) 0) 0) fun x19 =>
        bd (at? (List.take (List.length x1.fst - Int.toNat 1) (List.drop (Int.toNat 1) x1.fst) ++ List.replicate (Int.toNat 5) 0) 1) fun x20 =>
        bd (at? (List.take (List.length x1.fst - Int.toNat 1) (List.drop (Int.toNat 1) x1.fst) ++ List.replicate (Int.toNat 5) 0) 1) fun x21 =>
        jn (d_impl_ReqRead_j2 p0) (GReq.mk x4 0 x19 0 x21 0))
        (br (x4 == 6)
          (jn (d_impl_ReqRead_j2 p0) (GReq.mk x4 0 0 0 0 0))
          (bd (at? (List.take (List.length x1.fst - Int.toNat 1) (List.drop (Int.toNat 1) x1.fst) ++ List.replicate (Int.toNat 5) 0) 0) fun x22 =>
          bd (at? (List.take (List.length x1.fst - Int.toNat 1) (List.drop (Int.toNat 1) x1.fst) ++ List.replicate (Int.toNat 5) 0) 0) fun x23 =>
          jn (d_impl_ReqRead_j2 p0) (GReq.mk x4 x23 0 0 0 0))))))))
noncomputable def d_impl_ReqRead (p0 : (List UInt8)) : Option (GReq × Bool) :=
  bd (d_impl_getNums p0) fun x1 =>
  br (!x1.snd)
    (jn (d_impl_ReqRead_j1 p0 x1) true)
    (jn (d_impl_ReqRead_j1 p0 x1) ((↑(List.length x1.fst) : Int) == 0))
noncomputable def gf_impl_ReqRead : GF := y_impl_ReqRead.gf rfl rfl (fun a => d_impl_ReqRead a.1) (fun a => by kernel_rfl)
noncomputable def d_laws_eqReq (p0 : GReq) (p1 : GReq) : Option Bool :=
  br (p0.Kind != p1.Kind)
    (some false)
    (br (p0.Id != p1.Id)
      (some false)
      (br (p0.Cabin != p1.Cabin)
        (some false)
        (br (p0.From != p1.From)
          (some false)
          (br (p0.Size != p1.Size)
            (some false)
            (br (p0.Tier != p1.Tier)
              (some false)
              (some true))))))
noncomputable def y_spec_l1Min : Y.YF where
  R := []
  ps := [.v .i, .v .i]
  fs := []
  rk := .ret [.i]
  rs := [.tmp 4]
  body := .seq (.region [(none, .as 4 (.k (.int .i64 0)))] [0, 1]) (.seq (.seq (.region [(none, .mv 5 (.tmp 0)),
 (none, .mv 6 (.tmp 1)),
 (none, .bin 7 .num .lss (.tmp 5) (.tmp 6))] [0, 1, 7]) (.cond 7 [0] [1] (.seq (.region [(none, .mv 8 (.tmp 0)),
 (none, .as 4 (.tmp 8))] [4]) (.ret)) (.skip))) (.seq (.region [(none, .mv 9 (.tmp 1)),
 (none, .as 4 (.tmp 9))] [4]) (.ret)))
noncomputable def d_spec_l1Min (p0 : Int) (p1 : Int) : Option Int :=
  br (decide (p0 < p1))
    (some p0)
    (some p1)
noncomputable def gf_spec_l1Min : GF := y_spec_l1Min.gf rfl rfl (fun a => d_spec_l1Min a.1 a.2.1) (fun a => by kernel_rfl)
noncomputable def y_spec_Crc : Y.YF where
  R := []
  ps := [.v (.l .u)]
  fs := []
  rk := .ret [.i]
  rs := [.tmp 2]
  body := .seq (.region [(none, .as 2 (.k (.int .i64 0)))] [0]) (.seq (.region [(none, .as 3 (.k (.int .i64 4294967295)))] [0, 3]) (.join [(false, 3, .one, [.val .i none])] (.seq (.region [(none, .as 4 (.k (.int .i64 0)))] [0, 3, 4]) (.block 0 (.loop [(false, 3, .one, [.val .i none]), (false, 4, .one, [.val .i none])] (.seq (.seq (.region [(none, .mv 7 (.tmp 4)),
 (none, .mv 8 (.tmp 0)),
 (none, .len 9 (.tmp 8)),
 (none, .bin 10 .num .lss (.tmp 7) (.tmp 9))] [0, 3, 4, 10]) (.cond 10 [0, 3, 4] [3] (.skip) (.exit 0))) (.join [(false, 3, .one, [.val .i none])] (.block 1 (.seq (.region [(none, .mv 13 (.tmp 3)),
 (none, .mv 14 (.tmp 0)),
 (none, .mv 15 (.tmp 4)),
 (none, .ia 16 .u (.tmp 14) (.tmp 15)),
 (none, .ld 17 none (.tmp 16)),
 (none, .cvI 18 .i64 (.tmp 17)),
 (none, .bin 19 .num .xor (.tmp 13) (.tmp 18)),
 (none, .as 3 (.tmp 19))] [0, 3, 4]) (.seq (.region [(none, .as 5 (.k (.int .i64 0)))] [0, 3, 4, 5]) (.block 2 (.loop [(false, 3, .one, [.val .i none]), (false, 5, .one, [.val .i none])] (.seq (.seq (.region [(none, .mv 20 (.tmp 5)),
 (none, .bin 21 .num .lss (.tmp 20) (.k (.int .i64 8)))] [0, 3, 4, 5, 21]) (.cond 21 [0, 3, 4, 5] [0, 3, 4] (.skip) (.exit 2))) (.join [(false, 3, .one, [.val .i none])] (.block 3 (.seq (.region [(none, .mv 24 (.tmp 3)),
 (none, .bin 25 .num .rem (.tmp 24) (.k (.int .i64 2))),
 (none, .bin 26 .num .eql (.tmp 25) (.k (.int .i64 1))),
 (none, .as 6 (.tmp 26))] [0, 3, 4, 5, 6]) (.seq (.region [(none, .mv 27 (.tmp 3)),
 (none, .bin 28 .num .quo (.tmp 27) (.k (.int .i64 2))),
 (none, .as 3 (.tmp 28))] [0, 3, 4, 5, 6]) (.seq (.region [(none, .mv 29 (.tmp 6))] [0, 3, 4, 5, 29]) (.cond 29 [0, 3, 4, 5] [0, 3, 4, 5] (.region [(none, .mv 30 (.tmp 3)),
 (none, .bin 31 .num .xor (.tmp 30) (.k (.int .i64 3988292384))),
 (none, .as 3 (.tmp 31))] [0, 3, 4, 5]) (.skip)))))) (.region [(none, .mv 22 (.tmp 5)),
 (none, .bin 23 .num .add (.tmp 22) (.k (.int .i64 1))),
 (none, .as 5 (.tmp 23))] [0, 3, 4, 5])))))))) (.region [(none, .mv 11 (.tmp 4)),
 (none, .bin 12 .num .add (.tmp 11) (.k (.int .i64 1))),
 (none, .as 4 (.tmp 12))] [0, 3, 4])))))) (.seq (.region [(none, .mv 32 (.tmp 3)),
 (none, .bin 33 .num .xor (.tmp 32) (.k (.int .i64 4294967295))),
 (none, .as 2 (.tmp 33))] [2]) (.ret))))
noncomputable def d_spec_Crc_j3 (L5 : (Int × Int) → Option Int) (v7 : Int) (v8 : Int) : Option Int :=
  L5 ((v8, w64 (v7 + 1)))
noncomputable def d_spec_Crc_j4 (L1 : (Int × Int) → Option Int) (v3 : Int) (v9 : Int) : Option Int :=
  L1 ((v9, w64 (v3 + 1)))
noncomputable def d_spec_Crc_l2 (L1 : (Int × Int) → Option Int) (v3 : Int) (L5 : (Int × Int) → Option Int) (x_ : (Int × Int)) : Option Int :=
  match x_ with
  | (v6, v7) => br (decide (v7 < 8))
    (br (Int.tmod v6 2 == 1)
      (jn (d_spec_Crc_j3 L5 v7) (xorI (w64 (Int.tdiv v6 2)) 3988292384))
      (jn (d_spec_Crc_j3 L5 v7) (w64 (Int.tdiv v6 2))))
    (jn (d_spec_Crc_j4 L1 v3) v6)
noncomputable def d_spec_Crc_j5 (v10 : Int) : Option Int :=
  some (xorI v10 4294967295)
noncomputable def d_spec_Crc_l1 (p0 : (List UInt8)) (L1 : (Int × Int) → Option Int) (x_ : (Int × Int)) : Option Int :=
  match x_ with
  | (v2, v3) => br (decide (v3 < (↑p0.length : Int)))
    (bd (at? p0 v3) fun x4 =>
    loopN (d_spec_Crc_l2 L1 v3) big ((xorI v2 (w64 (↑(UInt8.toNat x4) : Int)), 0)))
    (jn (d_spec_Crc_j5) v2)
noncomputable def d_spec_Crc (p0 : (List UInt8)) : Option Int :=
  loopN (d_spec_Crc_l1 p0) big (4294967295, 0)
noncomputable def gf_spec_Crc : GF := y_spec_Crc.gf rfl rfl (fun a => d_spec_Crc a.1) (fun a => by kernel_rfl)
noncomputable def y_spec_l2Four : Y.YF where
  R := []
  ps := [.v .i]
  fs := []
  rk := .ret [.s]
  rs := [.tmp 2]
  body := .seq (.region [(none, .as 2 (.k (.str [])))] [0]) (.seq (.region [(none, .mv 3 (.tmp 0)),
 (none, .bin 4 .num .shr (.tmp 3) (.k (.int .u64 24))),
 (none, .cvI 5 .u8 (.tmp 4)),
 (none, .mv 6 (.tmp 0)),
 (none, .bin 7 .num .shr (.tmp 6) (.k (.int .u64 16))),
 (none, .cvI 8 .u8 (.tmp 7)),
 (none, .mv 9 (.tmp 0)),
 (none, .bin 10 .num .shr (.tmp 9) (.k (.int .u64 8))),
 (none, .cvI 11 .u8 (.tmp 10)),
 (none, .mv 12 (.tmp 0)),
 (none, .cvI 13 .u8 (.tmp 12)),
 (none, .bslice 14 4 .u [(0, (.tmp 5)), (1, (.tmp 8)), (2, (.tmp 11)), (3, (.tmp 13))]),
 (none, .cvBS 15 (.tmp 14)),
 (none, .as 2 (.tmp 15))] [2]) (.ret))
noncomputable def d_spec_l2Four (p0 : Int) : Option (List UInt8) :=
  some ([toB (shrI p0 24), toB (shrI p0 16), toB (shrI p0 8), toB p0])
noncomputable def gf_spec_l2Four : GF := y_spec_l2Four.gf rfl rfl (fun a => d_spec_l2Four a.1) (fun a => by kernel_rfl)
noncomputable def y_spec_FrameOf : Y.YF where
  R := []
  ps := [.v .i, .v .s]
  fs := []
  rk := .ret [.s]
  rs := [.tmp 4]
  body := .seq (.region [(none, .as 4 (.k (.str [])))] [0, 1]) (.seq (.join [(false, 15, .one, [.val .b none])] (.region [(none, .mv 7 (.tmp 0)),
 (none, .call 8 gf_spec_l1In [] rfl [(.tmp 7), (.k (.int .i64 1)), (.k (.int .i64 1000000))]),
 (none, .un 9 .not (.tmp 8)),
 (none, .mv 10 (.tmp 9)),
 ((some (10, false)), .mv 11 (.tmp 1)),
 ((some (10, false)), .lens 12 (.tmp 11)),
 ((some (10, false)), .call 13 gf_spec_l1In [] rfl [(.tmp 12), (.k (.int .i64 1)), (.k (.int .i64 60))]),
 ((some (10, false)), .un 14 .not (.tmp 13)),
 (none, .pick 15 (.tmp 10) (.k (.bool true)) (.tmp 14))] [0, 1, 15]) (.cond 15 [] [0, 1] (.seq (.region [(none, .as 4 (.k (.str [])))] [4]) (.ret)) (.skip))) (.seq (.region [(none, .mv 16 (.tmp 0)),
 (none, .call 17 gf_spec_PutNum [] rfl [(.tmp 16)]),
 (none, .cvBS 18 (.tmp 17)),
 (none, .mv 19 (.tmp 1)),
 (none, .bin 20 .num .add (.tmp 18) (.tmp 19)),
 (none, .as 5 (.tmp 20))] [5]) (.seq (.region [(none, .mv 21 (.tmp 5)),
 (none, .cvSB 22 (.tmp 21)),
 (none, .call 23 gf_spec_Crc [] rfl [(.tmp 22)]),
 (none, .call 24 gf_spec_l2Four [] rfl [(.tmp 23)]),
 (none, .mv 25 (.tmp 5)),
 (none, .bin 26 .num .add (.tmp 24) (.tmp 25)),
 (none, .as 6 (.tmp 26))] [6]) (.seq (.region [(none, .mv 27 (.tmp 6)),
 (none, .lens 28 (.tmp 27)),
 (none, .call 29 gf_spec_PutNum [] rfl [(.tmp 28)]),
 (none, .cvBS 30 (.tmp 29)),
 (none, .mv 31 (.tmp 6)),
 (none, .bin 32 .num .add (.tmp 30) (.tmp 31)),
 (none, .as 4 (.tmp 32))] [4]) (.ret)))))
noncomputable def d_spec_FrameOf_j1 (p0 : Int) (p1 : (List UInt8)) (v2 : Bool) : Option (List UInt8) :=
  br v2
    (some [])
    (bd (d_spec_PutNum p0) fun x3 =>
    gd (List.length x3 + p1.length ≤ slim) (
    bd (d_spec_Crc (x3 ++ p1)) fun x4 =>
    bd (d_spec_l2Four x4) fun x5 =>
    gd (List.length x5 + (x3 ++ p1).length ≤ slim) (
    bd (d_spec_PutNum ((↑(x5 ++ (x3 ++ p1)).length : Int))) fun x6 =>
    gd (List.length x6 + (x5 ++ (x3 ++ p1)).length ≤ slim) (
    some (x6 ++ (x5 ++ (x3 ++ p1)))))))
noncomputable def d_spec_FrameOf (p0 : Int) (p1 : (List UInt8)) : Option (List UInt8) :=
  bd (d_spec_l1In p0 1 1000000) fun x1 =>
  br (!x1)
    (jn (d_spec_FrameOf_j1 p0 p1) true)
    (bd (d_spec_l1In (↑p1.length : Int) 1 60) fun x7 =>
    jn (d_spec_FrameOf_j1 p0 p1) (!x7))
noncomputable def gf_spec_FrameOf : GF := y_spec_FrameOf.gf rfl rfl (fun a => d_spec_FrameOf a.1 a.2.1) (fun a => by kernel_rfl)
end Lv
/-
  Printed: functions of the program as texts of the typed machine, as plain functions, and that the one is the other.
-/
set_option linter.unusedVariables false
set_option maxRecDepth 100000
namespace Lv
open Go (IntKind BinOp UnOp)
open Y (YF)
noncomputable def y_impl_isIndex : Y.YF where
  R := []
  ps := [.v .i, .v .i]
  fs := []
  rk := .ret [.b]
  rs := [.tmp 4]
  body := .seq (.region [(none, .as 4 (.k (.bool false)))] [0, 1]) (.seq (.region [(none, .mv 5 (.tmp 0)),
 (none, .mv 6 (.tmp 1)),
 (none, .bin 7 .num .sub (.tmp 6) (.k (.int .i64 1))),
 (none, .call 8 gf_impl_within [] rfl [(.tmp 5), (.k (.int .i64 0)), (.tmp 7)]),
 (none, .as 4 (.tmp 8))] [4]) (.ret))
noncomputable def d_impl_isIndex (p0 : Int) (p1 : Int) : Option Bool :=
  bd (d_impl_within p0 0 (w64 (p1 - 1))) fun x1 =>
  some x1
noncomputable def gf_impl_isIndex : GF := y_impl_isIndex.gf rfl rfl (fun a => d_impl_isIndex a.1 a.2.1) (fun a => by kernel_rfl)
noncomputable def y_impl_Crc : Y.YF where
  R := []
  ps := [.v (.l .u)]
  fs := []
  rk := .ret [.i]
  rs := [.tmp 2]
  body := .seq (.region [(none, .as 2 (.k (.int .i64 0)))] [0]) (.seq (.region [(none, .as 3 (.k (.int .i64 4294967295)))] [0, 3]) (.join [(false, 3, .one, [.val .i none])] (.seq (.region [(none, .mv 8 (.tmp 0)),
 (none, .len 9 (.tmp 8)),
 (none, .mv 10 (.k (.int .i64 0)))] [3, 8, 9, 10]) (.block 0 (.loop [(false, 3, .one, [.val .i none]), (false, 10, .one, [.val .i none])] (.seq (.region [(none, .bin 11 .num .lss (.tmp 10) (.tmp 9))] [3, 8, 9, 10, 11]) (.seq (.cond 11 [3, 8, 9, 10] [3] (.skip) (.exit 0)) (.join [(false, 3, .one, [.val .i none])] (.block 1 (.seq (.region [(none, .ia 12 .u (.tmp 8) (.tmp 10)),
 (none, .ld 13 none (.tmp 12)),
 (none, .as 5 (.tmp 13))] [3, 5, 8, 9, 10]) (.seq (.region [(none, .mv 14 (.tmp 3)),
 (none, .mv 15 (.tmp 5)),
 (none, .cvI 16 .i64 (.tmp 15)),
 (none, .bin 17 .num .xor (.tmp 14) (.tmp 16)),
 (none, .as 3 (.tmp 17))] [3, 8, 9, 10]) (.seq (.region [(none, .as 6 (.k (.int .i64 0)))] [3, 6, 8, 9, 10]) (.block 2 (.loop [(false, 3, .one, [.val .i none]), (false, 6, .one, [.val .i none])] (.seq (.seq (.region [(none, .mv 18 (.tmp 6)),
 (none, .bin 19 .num .lss (.tmp 18) (.k (.int .i64 8)))] [3, 6, 8, 9, 10, 19]) (.cond 19 [3, 6, 8, 9, 10] [3, 8, 9, 10] (.skip) (.exit 2))) (.join [(false, 3, .one, [.val .i none])] (.block 3 (.seq (.region [(none, .mv 22 (.tmp 3)),
 (none, .bin 23 .num .and (.tmp 22) (.k (.int .i64 1))),
 (none, .as 7 (.tmp 23))] [3, 6, 7, 8, 9, 10]) (.seq (.region [(none, .mv 24 (.tmp 3)),
 (none, .bin 25 .num .shr (.tmp 24) (.k (.int .u64 1))),
 (none, .as 3 (.tmp 25))] [3, 6, 7, 8, 9, 10]) (.seq (.region [(none, .mv 26 (.tmp 7)),
 (none, .bin 27 .num .eql (.tmp 26) (.k (.int .i64 1)))] [3, 6, 8, 9, 10, 27]) (.cond 27 [3, 6, 8, 9, 10] [3, 6, 8, 9, 10] (.region [(none, .mv 28 (.tmp 3)),
 (none, .bin 29 .num .xor (.tmp 28) (.k (.int .i64 3988292384))),
 (none, .as 3 (.tmp 29))] [3, 6, 8, 9, 10]) (.skip)))))) (.region [(none, .mv 20 (.tmp 6)),
 (none, .bin 21 .num .add (.tmp 20) (.k (.int .i64 1))),
 (none, .as 6 (.tmp 21))] [3, 6, 8, 9, 10]))))))))) (.region [(none, .bin 30 .num .add (.tmp 10) (.k (.int .i64 1))),
 (none, .mv 10 (.tmp 30))] [3, 8, 9, 10]))))))) (.seq (.region [(none, .mv 31 (.tmp 3)),
 (none, .bin 32 .num .xor (.tmp 31) (.k (.int .i64 4294967295))),
 (none, .as 2 (.tmp 32))] [2]) (.ret))))
noncomputable def d_impl_Crc_j3 (L5 : (Int × Int) → Option Int) (v7 : Int) (v8 : Int) : Option Int :=
  L5 ((v8, w64 (v7 + 1)))
noncomputable def d_impl_Crc_j4 (L1 : (Int × Int) → Option Int) (v3 : Int) (v9 : Int) : Option Int :=
  L1 ((v9, w64 (v3 + 1)))
noncomputable def d_impl_Crc_l2 (L1 : (Int × Int) → Option Int) (v3 : Int) (L5 : (Int × Int) → Option Int) (x_ : (Int × Int)) : Option Int :=
  match x_ with
  | (v6, v7) => br (decide (v7 < 8))
    (br (andI v6 1 == 1)
      (jn (d_impl_Crc_j3 L5 v7) (xorI (shrI v6 1) 3988292384))
      (jn (d_impl_Crc_j3 L5 v7) (shrI v6 1)))
    (jn (d_impl_Crc_j4 L1 v3) v6)
noncomputable def d_impl_Crc_j5 (v10 : Int) : Option Int :=
  some (xorI v10 4294967295)
noncomputable def d_impl_Crc_l1 (p0 : (List UInt8)) (L1 : (Int × Int) → Option Int) (x_ : (Int × Int)) : Option Int :=
  match x_ with
  | (v2, v3) => br (decide (v3 < (↑p0.length : Int)))
    (bd (at? p0 v3) fun x4 =>
    loopN (d_impl_Crc_l2 L1 v3) big ((xorI v2 (w64 (↑(UInt8.toNat x4) : Int)), 0)))
    (jn (d_impl_Crc_j5) v2)
noncomputable def d_impl_Crc (p0 : (List UInt8)) : Option Int :=
  loopN (d_impl_Crc_l1 p0) big (4294967295, 0)
noncomputable def gf_impl_Crc : GF := y_impl_Crc.gf rfl rfl (fun a => d_impl_Crc a.1) (fun a => by kernel_rfl)
noncomputable def y_impl_FrameOf : Y.YF where
  R := []
  ps := [.v .i, .v .s]
  fs := []
  rk := .ret [.s]
  rs := [.tmp 4]
  body := .seq (.region [(none, .as 4 (.k (.str [])))] [0, 1]) (.seq (.join [(false, 16, .one, [.val .b none])] (.region [(none, .mv 8 (.tmp 0)),
 (none, .call 9 gf_impl_within [] rfl [(.tmp 8), (.k (.int .i64 1)), (.k (.int .i64 1000000))]),
 (none, .un 10 .not (.tmp 9)),
 (none, .mv 11 (.tmp 10)),
 ((some (11, false)), .mv 12 (.tmp 1)),
 ((some (11, false)), .lens 13 (.tmp 12)),
 ((some (11, false)), .call 14 gf_impl_within [] rfl [(.tmp 13), (.k (.int .i64 1)), (.k (.int .i64 60))]),
 ((some (11, false)), .un 15 .not (.tmp 14)),
 (none, .pick 16 (.tmp 11) (.k (.bool true)) (.tmp 15))] [0, 1, 16]) (.cond 16 [] [0, 1] (.seq (.region [(none, .as 4 (.k (.str [])))] [4]) (.ret)) (.skip))) (.seq (.region [(none, .mv 17 (.tmp 0)),
 (none, .call 18 gf_impl_PutNum [] rfl [(.tmp 17)]),
 (none, .mv 19 (.tmp 1)),
 (none, .app 20 .u true (.tmp 18) (.tmp 19)),
 (none, .as 5 (.tmp 20))] [5]) (.seq (.region [(none, .mv 21 (.tmp 5)),
 (none, .call 22 gf_impl_Crc [] rfl [(.tmp 21)]),
 (none, .as 6 (.tmp 22))] [5, 6]) (.seq (.region [(none, .mv 23 (.tmp 6)),
 (none, .bin 24 .num .shr (.tmp 23) (.k (.int .u64 24))),
 (none, .cvI 25 .u8 (.tmp 24)),
 (none, .mv 26 (.tmp 6)),
 (none, .bin 27 .num .shr (.tmp 26) (.k (.int .u64 16))),
 (none, .cvI 28 .u8 (.tmp 27)),
 (none, .mv 29 (.tmp 6)),
 (none, .bin 30 .num .shr (.tmp 29) (.k (.int .u64 8))),
 (none, .cvI 31 .u8 (.tmp 30)),
 (none, .mv 32 (.tmp 6)),
 (none, .cvI 33 .u8 (.tmp 32)),
 (none, .bslice 34 4 .u [(0, (.tmp 25)), (1, (.tmp 28)), (2, (.tmp 31)), (3, (.tmp 33))]),
 (none, .mv 35 (.tmp 5)),
 (none, .app 36 .u true (.tmp 34) (.tmp 35)),
 (none, .as 7 (.tmp 36))] [7]) (.seq (.dreg (.op 0 none [] (.mv 37 (.tmp 7))
 (.op 1 none [] (.len 38 (.tmp 37))
 (.op 4 none [] (.mv 41 (.tmp 7))
 (.op 5 none [] (.cvBS 42 (.tmp 41))
 (.op 2 none [41] (.call 39 gf_impl_PutNum [] rfl [(.tmp 38)])
 (.op 3 none [] (.cvBS 40 (.tmp 39))
 (.op 6 none [] (.bin 43 .num .add (.tmp 40) (.tmp 42))
 (.op 7 none [] (.as 4 (.tmp 43))
 .nil)))))))) [4]) (.ret))))))
noncomputable def d_impl_FrameOf_j1 (p0 : Int) (p1 : (List UInt8)) (v2 : Bool) : Option (List UInt8) :=
  br v2
    (some [])
    (bd (d_impl_PutNum p0) fun x3 =>
    gd (List.length x3 + p1.length ≤ lim) (
    bd (d_impl_Crc (x3 ++ p1)) fun x4 =>
    gd ([toB (shrI x4 24), toB (shrI x4 16), toB (shrI x4 8), toB x4].length + (x3 ++ p1).length ≤ lim) (
    bd (d_impl_PutNum ((↑([toB (shrI x4 24), toB (shrI x4 16), toB (shrI x4 8), toB x4] ++ (x3 ++ p1)).length : Int))) fun x5 =>
    gd (List.length x5 + ([toB (shrI x4 24), toB (shrI x4 16), toB (shrI x4 8), toB x4] ++ (x3 ++ p1)).length ≤ slim) (
    some (x5 ++ ([toB (shrI x4 24), toB (shrI x4 16), toB (shrI x4 8), toB x4] ++ (x3 ++ p1)))))))
noncomputable def d_impl_FrameOf (p0 : Int) (p1 : (List UInt8)) : Option (List UInt8) :=
  bd (d_impl_within p0 1 1000000) fun x1 =>
  br (!x1)
    (jn (d_impl_FrameOf_j1 p0 p1) true)
    (bd (d_impl_within (↑p1.length : Int) 1 60) fun x6 =>
    jn (d_impl_FrameOf_j1 p0 p1) (!x6))
noncomputable def gf_impl_FrameOf : GF := y_impl_FrameOf.gf rfl rfl (fun a => d_impl_FrameOf a.1 a.2.1) (fun a => by kernel_rfl)
noncomputable def y_impl_FrameAt : Y.YF where
  R := []
  ps := [.v .s, .v .i]
  fs := []
  rk := .ret [(.st 15), .b]
  rs := [.cell 4 (some 3), .tmp 5]
  body := .seq (.region [(none, .alloc 4 [.int .i64 0, .str [], .int .i64 0]),
 (none, .as 5 (.k (.bool false)))] [0, 1, 4]) (.seq (.seq (.region [(none, .mv 15 (.tmp 1)),
 (none, .mv 16 (.tmp 0)),
 (none, .lens 17 (.tmp 16)),
 (none, .call 18 gf_impl_isIndex [] rfl [(.tmp 15), (.tmp 17)]),
 (none, .un 19 .not (.tmp 18))] [0, 1, 4, 19]) (.cond 19 [4] [0, 1, 4] (.seq (.region [(none, .build 20 [.int .i64 0, .str [], .int .i64 0] []),
 (none, .st 3 (.tmp 4) (.tmp 20)),
 (none, .as 5 (.k (.bool false)))] [4, 5]) (.ret)) (.skip))) (.seq (.region [(none, .mv 21 (.tmp 0)),
 (none, .mv 22 (.tmp 1)),
 (none, .mv 23 (.tmp 0)),
 (none, .lens 24 (.tmp 23)),
 (none, .mv 25 (.tmp 1)),
 (none, .bin 26 .num .add (.tmp 25) (.k (.int .i64 5))),
 (none, .mm 27 false (.tmp 24) (.tmp 26)),
 (none, .subs 28 (.tmp 21) (some (.tmp 22)) (some (.tmp 27))),
 (none, .cvSB 29 (.tmp 28)),
 (none, .as 6 (.tmp 29))] [0, 1, 4, 6]) (.seq (.region [(none, .mv 31 (.tmp 6)),
 (none, .call 32 gf_impl_GetNum [] rfl [(.tmp 31), (.k (.int .i64 0))]),
 (none, .mv 30 (.tmp 32)),
 (none, .ext 33 (.tmp 30) 0),
 (none, .ext 34 (.tmp 30) 1),
 (none, .ext 35 (.tmp 30) 2),
 (none, .as 7 (.tmp 33)),
 (none, .as 8 (.tmp 34)),
 (none, .as 9 (.tmp 35))] [0, 1, 4, 7, 8, 9]) (.seq (.join [(false, 51, .one, [.val .b none])] (.region [(none, .mv 36 (.tmp 9)),
 (none, .un 37 .not (.tmp 36)),
 (none, .mv 38 (.tmp 37)),
 ((some (38, false)), .mv 39 (.tmp 7)),
 ((some (38, false)), .bin 40 .num .lss (.tmp 39) (.k (.int .i64 6))),
 (none, .pick 41 (.tmp 38) (.k (.bool true)) (.tmp 40)),
 (none, .mv 42 (.tmp 41)),
 ((some (42, false)), .mv 43 (.tmp 7)),
 ((some (42, false)), .mv 44 (.tmp 0)),
 ((some (42, false)), .lens 45 (.tmp 44)),
 ((some (42, false)), .mv 46 (.tmp 1)),
 ((some (42, false)), .bin 47 .num .sub (.tmp 45) (.tmp 46)),
 ((some (42, false)), .mv 48 (.tmp 8)),
 ((some (42, false)), .bin 49 .num .sub (.tmp 47) (.tmp 48)),
 ((some (42, false)), .bin 50 .num .gtr (.tmp 43) (.tmp 49)),
 (none, .pick 51 (.tmp 42) (.k (.bool true)) (.tmp 50))] [0, 1, 4, 7, 8, 51]) (.cond 51 [4] [0, 1, 4, 7, 8] (.seq (.region [(none, .build 52 [.int .i64 0, .str [], .int .i64 0] []),
 (none, .st 3 (.tmp 4) (.tmp 52)),
 (none, .as 5 (.k (.bool false)))] [4, 5]) (.ret)) (.skip))) (.seq (.region [(none, .mv 53 (.tmp 0)),
 (none, .mv 54 (.tmp 1)),
 (none, .mv 55 (.tmp 8)),
 (none, .bin 56 .num .add (.tmp 54) (.tmp 55)),
 (none, .mv 57 (.tmp 1)),
 (none, .mv 58 (.tmp 8)),
 (none, .bin 59 .num .add (.tmp 57) (.tmp 58)),
 (none, .mv 60 (.tmp 7)),
 (none, .bin 61 .num .add (.tmp 59) (.tmp 60)),
 (none, .subs 62 (.tmp 53) (some (.tmp 56)) (some (.tmp 61))),
 (none, .cvSB 63 (.tmp 62)),
 (none, .as 10 (.tmp 63))] [0, 1, 4, 7, 8, 10]) (.seq (.region [(none, .mv 65 (.tmp 10)),
 (none, .call 66 gf_impl_GetNum [] rfl [(.tmp 65), (.k (.int .i64 4))]),
 (none, .mv 64 (.tmp 66)),
 (none, .ext 67 (.tmp 64) 0),
 (none, .ext 68 (.tmp 64) 1),
 (none, .ext 69 (.tmp 64) 2),
 (none, .as 11 (.tmp 67)),
 (none, .as 12 (.tmp 68)),
 (none, .as 9 (.tmp 69))] [0, 1, 4, 7, 8, 9, 10, 11, 12]) (.seq (.seq (.region [(none, .mv 70 (.tmp 9)),
 (none, .un 71 .not (.tmp 70))] [0, 1, 4, 7, 8, 10, 11, 12, 71]) (.cond 71 [4] [0, 1, 4, 7, 8, 10, 11, 12] (.seq (.region [(none, .build 72 [.int .i64 0, .str [], .int .i64 0] []),
 (none, .st 3 (.tmp 4) (.tmp 72)),
 (none, .as 5 (.k (.bool false)))] [4, 5]) (.ret)) (.skip))) (.seq (.region [(none, .mv 73 (.tmp 11)),
 (none, .mv 74 (.tmp 10)),
 (none, .mv 75 (.tmp 12)),
 (none, .sub 76 .u (.tmp 74) (some (.tmp 75)) none),
 (none, .cvBS 77 (.tmp 76)),
 (none, .mv 78 (.tmp 1)),
 (none, .mv 79 (.tmp 8)),
 (none, .bin 80 .num .add (.tmp 78) (.tmp 79)),
 (none, .mv 81 (.tmp 7)),
 (none, .bin 82 .num .add (.tmp 80) (.tmp 81)),
 (none, .build 83 [.int .i64 0, .str [], .int .i64 0] [(0, 1, (.tmp 73)), (1, 1, (.tmp 77)), (2, 1, (.tmp 82))]),
 (none, .alloc 13 [.int .i64 0, .str [], .int .i64 0]),
 (none, .st 3 (.tmp 13) (.tmp 83))] [0, 1, 4, 13]) (.seq (.region [(none, .fa 84 0 (.tmp 13)),
 (none, .ld 85 none (.tmp 84)),
 (none, .fa 86 1 (.tmp 13)),
 (none, .ld 87 none (.tmp 86)),
 (none, .call 88 gf_impl_FrameOf [] rfl [(.tmp 85), (.tmp 87)]),
 (none, .as 14 (.tmp 88))] [0, 1, 4, 13, 14]) (.seq (.join [(false, 99, .one, [.val .b none])] (.region [(none, .mv 89 (.tmp 14)),
 (none, .bin 90 .num .eql (.tmp 89) (.k (.str []))),
 (none, .mv 91 (.tmp 90)),
 ((some (91, false)), .mv 92 (.tmp 14)),
 ((some (91, false)), .mv 93 (.tmp 0)),
 ((some (91, false)), .mv 94 (.tmp 1)),
 ((some (91, false)), .fa 95 2 (.tmp 13)),
 ((some (91, false)), .ld 96 none (.tmp 95)),
 ((some (91, false)), .subs 97 (.tmp 93) (some (.tmp 94)) (some (.tmp 96))),
 ((some (91, false)), .bin 98 .num .neq (.tmp 92) (.tmp 97)),
 (none, .pick 99 (.tmp 91) (.k (.bool true)) (.tmp 98))] [4, 13, 99]) (.cond 99 [4] [4, 13] (.seq (.region [(none, .build 100 [.int .i64 0, .str [], .int .i64 0] []),
 (none, .st 3 (.tmp 4) (.tmp 100)),
 (none, .as 5 (.k (.bool false)))] [4, 5]) (.ret)) (.skip))) (.seq (.region [(none, .ld 101 (some 3) (.tmp 13)),
 (none, .st 3 (.tmp 4) (.tmp 101)),
 (none, .as 5 (.k (.bool true)))] [4, 5]) (.ret))))))))))))
noncomputable def d_impl_FrameAt_j2 (p0 : (List UInt8)) (p1 : Int) (x2 : (Int × Int × Bool)) (x4 : (Int × Int × Bool)) (v6 : Bool) : Option (GFrame × Bool) :=
  br v6
    (some (GFrame.mk 0 [] 0, false))
    (some ((GFrame.mk x4.fst (List.take ((List.take ((w64 (w64 (p1 + x2.snd.fst) + x2.fst)).toNat - (w64 (p1 + x2.snd.fst)).toNat) (List.drop (w64 (p1 + x2.snd.fst)).toNat p0)).length - Int.toNat x4.snd.fst) (List.drop (Int.toNat x4.snd.fst) (List.take ((w64 (w64 (p1 + x2.snd.fst) + x2.fst)).toNat - (w64 (p1 + x2.snd.fst)).toNat) (List.drop (w64 (p1 + x2.snd.fst)).toNat p0)))) (w64 (w64 (p1 + x2.snd.fst) + x2.fst)), true)))
noncomputable def d_impl_FrameAt_j1 (p0 : (List UInt8)) (p1 : Int) (x2 : (Int × Int × Bool)) (v3 : Bool) : Option (GFrame × Bool) :=
  br v3
    (some (GFrame.mk 0 [] 0, false))
    (gd (0 ≤ w64 (p1 + x2.snd.fst) ∧ w64 (p1 + x2.snd.fst) ≤ w64 (w64 (p1 + x2.snd.fst) + x2.fst) ∧ w64 (w64 (p1 + x2.snd.fst) + x2.fst) ≤ (↑p0.length : Int)) (
    bd (d_impl_GetNum (List.take ((w64 (w64 (p1 + x2.snd.fst) + x2.fst)).toNat - (w64 (p1 + x2.snd.fst)).toNat) (List.drop (w64 (p1 + x2.snd.fst)).toNat p0)) 4) fun x4 =>
    br (!x4.snd.snd)
      (some (GFrame.mk 0 [] 0, false))
      (gd (0 ≤ x4.snd.fst ∧ x4.snd.fst ≤ (↑(List.take ((w64 (w64 (p1 + x2.snd.fst) + x2.fst)).toNat - (w64 (p1 + x2.snd.fst)).toNat) (List.drop (w64 (p1 + x2.snd.fst)).toNat p0)).length : Int)) (
      bd (d_impl_FrameOf x4.fst (List.take ((List.take ((w64 (w64 (p1 + x2.snd.fst) + x2.fst)).toNat - (w64 (p1 + x2.snd.fst)).toNat) (List.drop (w64 (p1 + x2.snd.fst)).toNat p0)).length - Int.toNat x4.snd.fst) (List.drop (Int.toNat x4.snd.fst) (List.take ((w64 (w64 (p1 + x2.snd.fst) + x2.fst)).toNat - (w64 (p1 + x2.snd.fst)).toNat) (List.drop (w64 (p1 + x2.snd.fst)).toNat p0))))) fun x5 =>
      br (x5 == [])
        (jn (d_impl_FrameAt_j2 p0 p1 x2 x4) true)
        (gd (0 ≤ p1 ∧ p1 ≤ w64 (w64 (p1 + x2.snd.fst) + x2.fst) ∧ w64 (w64 (p1 + x2.snd.fst) + x2.fst) ≤ (↑p0.length : Int)) (
        jn (d_impl_FrameAt_j2 p0 p1 x2 x4) (x5 != List.take ((w64 (w64 (p1 + x2.snd.fst) + x2.fst)).toNat - p1.toNat) (List.drop p1.toNat p0))))))))
noncomputable def d_impl_FrameAt (p0 : (List UInt8)) (p1 : Int) : Option (GFrame × Bool) :=
  bd (d_impl_isIndex p1 (↑p0.length : Int)) fun x1 =>
  br (!x1)
    (some (GFrame.mk 0 [] 0, false))
    (gd (0 ≤ p1 ∧ (p1 ≤ if false = true then if w64 (p1 + 5) > (↑p0.length : Int) then w64 (p1 + 5) else (↑p0.length : Int) else if w64 (p1 + 5) < (↑p0.length : Int) then w64 (p1 + 5) else (↑p0.length : Int)) ∧ (if false = true then if w64 (p1 + 5) > (↑p0.length : Int) then w64 (p1 + 5) else (↑p0.length : Int) else if w64 (p1 + 5) < (↑p0.length : Int) then w64 (p1 + 5) else (↑p0.length : Int)) ≤ (↑p0.length : Int)) (
    bd (d_impl_GetNum (List.take ((if false = true then if w64 (p1 + 5) > (↑p0.length : Int) then w64 (p1 + 5) else (↑p0.length : Int) else if w64 (p1 + 5) < (↑p0.length : Int) then w64 (p1 + 5) else (↑p0.length : Int)).toNat - p1.toNat) (List.drop p1.toNat p0)) 0) fun x2 =>
    br (!x2.snd.snd)
      (jn (d_impl_FrameAt_j1 p0 p1 x2) true)
      (br (decide (x2.fst < 6))
        (jn (d_impl_FrameAt_j1 p0 p1 x2) true)
        (jn (d_impl_FrameAt_j1 p0 p1 x2) (decide (x2.fst > w64 (w64 ((↑p0.length : Int) - p1) - x2.snd.fst)))))))
noncomputable def gf_impl_FrameAt : GF := y_impl_FrameAt.gf rfl rfl (fun a => d_impl_FrameAt a.1 a.2.1) (fun a => by kernel_rfl)
noncomputable def y_impl_Frames : Y.YF where
  R := []
  ps := [.v .s]
  fs := []
  rk := .ret [(.l (.st 15))]
  rs := [.tmp 2]
  body := .seq (.region [(none, .as 2 (.k .nil)),
 (none, .nils [(.tmp 2 0, (.st 15))])] [0]) (.seq (.region [(none, .as 3 (.k .nil)),
 (none, .nils [(.tmp 3 0, (.st 15))])] [0, 3]) (.seq (.region [(none, .as 4 (.k (.int .i64 0)))] [0, 3, 4]) (.block 0 (.loop [(false, 3, .one, [.val (.l (.st 15)) none]), (false, 4, .one, [.val .i none])] (.block 1 (.seq (.region [(none, .mv 8 (.tmp 0)),
 (none, .mv 9 (.tmp 4)),
 (none, .call 10 gf_impl_FrameAt [] rfl [(.tmp 8), (.tmp 9)]),
 (none, .mv 7 (.tmp 10)),
 (none, .ext 11 (.tmp 7) 0),
 (none, .ext 12 (.tmp 7) 1),
 (none, .alloc 5 [.int .i64 0, .str [], .int .i64 0]),
 (none, .st 3 (.tmp 5) (.tmp 11)),
 (none, .as 6 (.tmp 12))] [0, 3, 5, 6]) (.seq (.seq (.region [(none, .mv 13 (.tmp 6)),
 (none, .un 14 .not (.tmp 13))] [0, 3, 5, 14]) (.cond 14 [3] [0, 3, 5] (.seq (.region [(none, .mv 15 (.tmp 3)),
 (none, .as 2 (.tmp 15))] [2]) (.ret)) (.skip))) (.seq (.region [(none, .mv 16 (.tmp 3)),
 (none, .ld 17 (some 3) (.tmp 5)),
 (none, .bslice 18 1 (.st 15) [(0, (.tmp 17))]),
 (none, .app 19 (.st 15) true (.tmp 16) (.tmp 18)),
 (none, .as 3 (.tmp 19))] [0, 3, 5]) (.region [(none, .fa 20 2 (.tmp 5)),
 (none, .ld 21 none (.tmp 20)),
 (none, .as 4 (.tmp 21))] [0, 3, 4])))))))))
noncomputable def d_impl_Frames_l1 (p0 : (List UInt8)) (L1 : ((List GFrame) × Int) → Option (List GFrame)) (x_ : ((List GFrame) × Int)) : Option (List GFrame) :=
  match x_ with
  | (v2, v3) => bd (d_impl_FrameAt p0 v3) fun x4 =>
  br (!x4.snd)
    (some v2)
    (gd (List.length v2 + [x4.fst].length ≤ lim) (
    L1 (v2 ++ [x4.fst], x4.fst.Next)))
noncomputable def d_impl_Frames (p0 : (List UInt8)) : Option (List GFrame) :=
  loopN (d_impl_Frames_l1 p0) big ([], 0)
noncomputable def gf_impl_Frames : GF := y_impl_Frames.gf rfl rfl (fun a => d_impl_Frames a.1) (fun a => by kernel_rfl)
noncomputable def y_spec_NoteOf : Y.YF where
  R := []
  ps := [.v .i, .v (.st 0)]
  fs := []
  rk := .ret [.s]
  rs := [.tmp 4]
  body := .seq (.region [(none, .box 3 (.tmp 1)),
 (none, .as 4 (.k (.str [])))] [0, 3]) (.seq (.region [(none, .ld 6 (some 6) (.tmp 3)),
 (none, .call 7 gf_spec_ReqBytes [] rfl [(.tmp 6)]),
 (none, .as 5 (.tmp 7))] [0, 5]) (.seq (.seq (.region [(none, .mv 8 (.tmp 5)),
 (none, .bin 9 .num .eql (.tmp 8) (.k (.str [])))] [0, 5, 9]) (.cond 9 [] [0, 5] (.seq (.region [(none, .as 4 (.k (.str [])))] [4]) (.ret)) (.skip))) (.seq (.region [(none, .mv 10 (.tmp 0)),
 (none, .mv 11 (.tmp 5)),
 (none, .call 12 gf_spec_FrameOf [] rfl [(.tmp 10), (.tmp 11)]),
 (none, .as 4 (.tmp 12))] [4]) (.ret))))
noncomputable def d_spec_NoteOf (p0 : Int) (p1 : GReq) : Option (List UInt8) :=
  bd (d_spec_ReqBytes p1) fun x1 =>
  br (x1 == [])
    (some [])
    (bd (d_spec_FrameOf p0 x1) fun x2 =>
    some x2)
noncomputable def gf_spec_NoteOf : GF := y_spec_NoteOf.gf rfl rfl (fun a => d_spec_NoteOf a.1 a.2.1) (fun a => by kernel_rfl)
noncomputable def y_spec_LogOf : Y.YF where
  R := []
  ps := [.v (.l (.st 0)), .v .i]
  fs := []
  rk := .ret [.s]
  rs := [.tmp 4]
  body := .seq (.region [(none, .as 4 (.k (.str [])))] [0, 1]) (.seq (.region [(none, .bslice 8 0 .u []),
 (none, .as 5 (.tmp 8))] [0, 1, 5]) (.join [(false, 5, .one, [.val (.l .u) none])] (.seq (.region [(none, .as 6 (.k (.int .i64 0)))] [0, 1, 5, 6]) (.block 0 (.loop [(false, 1, .one, [.val .i none]), (false, 5, .one, [.val (.l .u) none]), (false, 6, .one, [.val .i none])] (.seq (.seq (.region [(none, .mv 9 (.tmp 6)),
 (none, .mv 10 (.tmp 0)),
 (none, .len 11 (.tmp 10)),
 (none, .bin 12 .num .lss (.tmp 9) (.tmp 11))] [0, 1, 5, 6, 12]) (.cond 12 [0, 1, 5, 6] [5] (.skip) (.exit 0))) (.seq (.block 1 (.seq (.seq (.region [(none, .mv 15 (.tmp 1)),
 (none, .bin 16 .num .gtr (.tmp 15) (.k (.int .i64 1000000)))] [0, 1, 5, 6, 16]) (.cond 16 [] [0, 1, 5, 6] (.seq (.region [(none, .as 4 (.k (.str [])))] [4]) (.ret)) (.skip))) (.seq (.region [(none, .mv 17 (.tmp 1)),
 (none, .mv 18 (.tmp 0)),
 (none, .mv 19 (.tmp 6)),
 (none, .ia 20 (.st 0) (.tmp 18) (.tmp 19)),
 (none, .ld 21 (some 6) (.tmp 20)),
 (none, .call 22 gf_spec_NoteOf [] rfl [(.tmp 17), (.tmp 21)]),
 (none, .as 7 (.tmp 22))] [0, 1, 5, 6, 7]) (.seq (.seq (.region [(none, .mv 23 (.tmp 7)),
 (none, .bin 24 .num .eql (.tmp 23) (.k (.str [])))] [0, 1, 5, 6, 7, 24]) (.cond 24 [] [0, 1, 5, 6, 7] (.seq (.region [(none, .as 4 (.k (.str [])))] [4]) (.ret)) (.skip))) (.seq (.region [(none, .mv 25 (.tmp 5)),
 (none, .mv 26 (.tmp 7)),
 (none, .app 27 .u true (.tmp 25) (.tmp 26)),
 (none, .as 5 (.tmp 27))] [0, 1, 5, 6]) (.region [(none, .mv 28 (.tmp 1)),
 (none, .bin 29 .num .add (.tmp 28) (.k (.int .i64 1))),
 (none, .as 1 (.tmp 29))] [0, 1, 5, 6])))))) (.region [(none, .mv 13 (.tmp 6)),
 (none, .bin 14 .num .add (.tmp 13) (.k (.int .i64 1))),
 (none, .as 6 (.tmp 14))] [0, 1, 5, 6])))))) (.seq (.region [(none, .mv 30 (.tmp 5)),
 (none, .cvBS 31 (.tmp 30)),
 (none, .as 4 (.tmp 31))] [4]) (.ret))))
noncomputable def d_spec_LogOf_j2 (v7 : (List UInt8)) : Option (List UInt8) :=
  some v7
noncomputable def d_spec_LogOf_l1 (p0 : (List GReq)) (L1 : (Int × (List UInt8) × Int) → Option (List UInt8)) (x_ : (Int × (List UInt8) × Int)) : Option (List UInt8) :=
  match x_ with
  | (v2, v3, v4) => br (decide (v4 < (↑p0.length : Int)))
    (br (decide (v2 > 1000000))
      (some [])
      (bd (at? p0 v4) fun x5 =>
      bd (d_spec_NoteOf v2 x5) fun x6 =>
      br (x6 == [])
        (some [])
        (gd (List.length v3 + List.length x6 ≤ lim) (
        L1 ((w64 (v2 + 1), v3 ++ x6, w64 (v4 + 1)))))))
    (jn (d_spec_LogOf_j2) v3)
noncomputable def d_spec_LogOf (p0 : (List GReq)) (p1 : Int) : Option (List UInt8) :=
  loopN (d_spec_LogOf_l1 p0) big (p1, [], 0)
noncomputable def gf_spec_LogOf : GF := y_spec_LogOf.gf rfl rfl (fun a => d_spec_LogOf a.1 a.2.1) (fun a => by kernel_rfl)
noncomputable def y_impl_NoteOf : Y.YF where
  R := []
  ps := [.v .i, .v (.st 0)]
  fs := []
  rk := .ret [.s]
  rs := [.tmp 4]
  body := .seq (.region [(none, .box 3 (.tmp 1)),
 (none, .as 4 (.k (.str [])))] [0, 3]) (.seq (.region [(none, .mv 5 (.tmp 0)),
 (none, .ld 6 (some 6) (.tmp 3)),
 (none, .call 7 gf_impl_ReqBytes [] rfl [(.tmp 6)]),
 (none, .call 8 gf_impl_FrameOf [] rfl [(.tmp 5), (.tmp 7)]),
 (none, .as 4 (.tmp 8))] [4]) (.ret))
noncomputable def d_impl_NoteOf (p0 : Int) (p1 : GReq) : Option (List UInt8) :=
  bd (d_impl_ReqBytes p1) fun x1 =>
  bd (d_impl_FrameOf p0 x1) fun x2 =>
  some x2
noncomputable def gf_impl_NoteOf : GF := y_impl_NoteOf.gf rfl rfl (fun a => d_impl_NoteOf a.1 a.2.1) (fun a => by kernel_rfl)
noncomputable def y_impl_LogOf : Y.YF where
  R := []
  ps := [.v (.l (.st 0)), .v .i]
  fs := []
  rk := .ret [.s]
  rs := [.tmp 4]
  body := .seq (.region [(none, .as 4 (.k (.str [])))] [0, 1]) (.seq (.region [(none, .as 5 (.k (.str [])))] [0, 1, 5]) (.join [(false, 5, .one, [.val .s none])] (.seq (.region [(none, .mv 9 (.tmp 0)),
 (none, .len 10 (.tmp 9)),
 (none, .mv 11 (.k (.int .i64 0)))] [1, 5, 9, 10, 11]) (.block 0 (.loop [(false, 5, .one, [.val .s none]), (false, 11, .one, [.val .i none])] (.seq (.region [(none, .bin 12 .num .lss (.tmp 11) (.tmp 10))] [1, 5, 9, 10, 11, 12]) (.seq (.cond 12 [1, 5, 9, 10, 11] [5] (.skip) (.exit 0)) (.seq (.block 1 (.seq (.region [(none, .mv 13 (.tmp 11)),
 (none, .ia 14 (.st 0) (.tmp 9) (.tmp 11)),
 (none, .ld 15 (some 6) (.tmp 14)),
 (none, .alloc 7 [.int .i64 0, .int .i64 0, .int .i64 0, .int .i64 0, .int .i64 0, .int .i64 0]),
 (none, .as 6 (.tmp 13)),
 (none, .st 6 (.tmp 7) (.tmp 15))] [1, 5, 6, 7, 9, 10, 11]) (.seq (.region [(none, .mv 16 (.tmp 1)),
 (none, .mv 17 (.tmp 6)),
 (none, .bin 18 .num .add (.tmp 16) (.tmp 17)),
 (none, .ld 19 (some 6) (.tmp 7)),
 (none, .call 20 gf_impl_NoteOf [] rfl [(.tmp 18), (.tmp 19)]),
 (none, .as 8 (.tmp 20))] [1, 5, 8, 9, 10, 11]) (.seq (.seq (.region [(none, .mv 21 (.tmp 8)),
 (none, .bin 22 .num .eql (.tmp 21) (.k (.str [])))] [1, 5, 8, 9, 10, 11, 22]) (.cond 22 [] [1, 5, 8, 9, 10, 11] (.seq (.region [(none, .as 4 (.k (.str [])))] [4]) (.ret)) (.skip))) (.region [(none, .mv 23 (.tmp 5)),
 (none, .mv 24 (.tmp 8)),
 (none, .bin 25 .num .add (.tmp 23) (.tmp 24)),
 (none, .as 5 (.tmp 25))] [1, 5, 9, 10, 11]))))) (.region [(none, .bin 26 .num .add (.tmp 11) (.k (.int .i64 1))),
 (none, .mv 11 (.tmp 26))] [1, 5, 9, 10, 11]))))))) (.seq (.region [(none, .mv 27 (.tmp 5)),
 (none, .as 4 (.tmp 27))] [4]) (.ret))))
noncomputable def d_impl_LogOf_j2 (v6 : (List UInt8)) : Option (List UInt8) :=
  some v6
noncomputable def d_impl_LogOf_l1 (p0 : (List GReq)) (p1 : Int) (L1 : ((List UInt8) × Int) → Option (List UInt8)) (x_ : ((List UInt8) × Int)) : Option (List UInt8) :=
  match x_ with
  | (v2, v3) => br (decide (v3 < (↑p0.length : Int)))
    (bd (at? p0 v3) fun x4 =>
    bd (d_impl_NoteOf (w64 (p1 + v3)) x4) fun x5 =>
    br (x5 == [])
      (some [])
      (gd (List.length v2 + List.length x5 ≤ slim) (
      L1 ((v2 ++ x5, w64 (v3 + 1))))))
    (jn (d_impl_LogOf_j2) v2)
noncomputable def d_impl_LogOf (p0 : (List GReq)) (p1 : Int) : Option (List UInt8) :=
  loopN (d_impl_LogOf_l1 p0 p1) big ([], 0)
noncomputable def gf_impl_LogOf : GF := y_impl_LogOf.gf rfl rfl (fun a => d_impl_LogOf a.1 a.2.1) (fun a => by kernel_rfl)
noncomputable def y_impl_NotesIn : Y.YF where
  R := []
  ps := [.v (.l (.st 15))]
  fs := []
  rk := .ret [(.l (.st 0))]
  rs := [.tmp 2]
  body := .seq (.region [(none, .as 2 (.k .nil)),
 (none, .nils [(.tmp 2 0, (.st 0))])] [0]) (.seq (.region [(none, .as 3 (.k .nil)),
 (none, .nils [(.tmp 3 0, (.st 0))])] [0, 3]) (.join [(false, 3, .one, [.val (.l (.st 0)) none])] (.seq (.region [(none, .mv 8 (.tmp 0)),
 (none, .len 9 (.tmp 8)),
 (none, .mv 10 (.k (.int .i64 0)))] [3, 8, 9, 10]) (.block 0 (.loop [(false, 3, .one, [.val (.l (.st 0)) none]), (false, 10, .one, [.val .i none])] (.seq (.region [(none, .bin 11 .num .lss (.tmp 10) (.tmp 9))] [3, 8, 9, 10, 11]) (.seq (.cond 11 [3, 8, 9, 10] [3] (.skip) (.exit 0)) (.seq (.block 1 (.seq (.region [(none, .ia 12 (.st 15) (.tmp 8) (.tmp 10)),
 (none, .ld 13 (some 3) (.tmp 12)),
 (none, .alloc 5 [.int .i64 0, .str [], .int .i64 0]),
 (none, .st 3 (.tmp 5) (.tmp 13))] [3, 5, 8, 9, 10]) (.seq (.region [(none, .fa 15 1 (.tmp 5)),
 (none, .ld 16 none (.tmp 15)),
 (none, .call 17 gf_impl_ReqRead [] rfl [(.tmp 16)]),
 (none, .mv 14 (.tmp 17)),
 (none, .ext 18 (.tmp 14) 0),
 (none, .ext 19 (.tmp 14) 1),
 (none, .alloc 6 [.int .i64 0, .int .i64 0, .int .i64 0, .int .i64 0, .int .i64 0, .int .i64 0]),
 (none, .st 6 (.tmp 6) (.tmp 18)),
 (none, .as 7 (.tmp 19))] [3, 6, 7, 8, 9, 10]) (.seq (.seq (.region [(none, .mv 20 (.tmp 7)),
 (none, .un 21 .not (.tmp 20))] [3, 6, 8, 9, 10, 21]) (.cond 21 [3] [3, 6, 8, 9, 10] (.exit 0) (.skip))) (.region [(none, .mv 22 (.tmp 3)),
 (none, .ld 23 (some 6) (.tmp 6)),
 (none, .bslice 24 1 (.st 0) [(0, (.tmp 23))]),
 (none, .app 25 (.st 0) true (.tmp 22) (.tmp 24)),
 (none, .as 3 (.tmp 25))] [3, 8, 9, 10]))))) (.region [(none, .bin 26 .num .add (.tmp 10) (.k (.int .i64 1))),
 (none, .mv 10 (.tmp 26))] [3, 8, 9, 10]))))))) (.seq (.region [(none, .mv 27 (.tmp 3)),
 (none, .as 2 (.tmp 27))] [2]) (.ret))))
noncomputable def d_impl_NotesIn_j2 (v6 : (List GReq)) : Option (List GReq) :=
  some v6
noncomputable def d_impl_NotesIn_l1 (p0 : (List GFrame)) (L1 : ((List GReq) × Int) → Option (List GReq)) (x_ : ((List GReq) × Int)) : Option (List GReq) :=
  match x_ with
  | (v2, v3) => br (decide (v3 < (↑p0.length : Int)))
    (bd (at? p0 v3) fun x4 =>
    bd (d_impl_ReqRead x4.Body) fun x5 =>
    br (!x5.snd)
      (jn (d_impl_NotesIn_j2) v2)
      (gd (List.length v2 + [x5.fst].length ≤ lim) (
      L1 ((v2 ++ [x5.fst], w64 (v3 + 1))))))
    (jn (d_impl_NotesIn_j2) v2)
noncomputable def d_impl_NotesIn (p0 : (List GFrame)) : Option (List GReq) :=
  loopN (d_impl_NotesIn_l1 p0) big ([], 0)
noncomputable def gf_impl_NotesIn : GF := y_impl_NotesIn.gf rfl rfl (fun a => d_impl_NotesIn a.1) (fun a => by kernel_rfl)
end Lv
/-
  Printed: functions of the program as texts of the typed machine, as plain functions, and that the one is the other.
-/
set_option linter.unusedVariables false
set_option maxRecDepth 100000
namespace Lv
open Go (IntKind BinOp UnOp)
open Y (YF)
noncomputable def y_laws_big : Y.YF where
  R := []
  ps := [.v (.l .u)]
  fs := []
  rk := .ret [.b]
  rs := [.tmp 2]
  body := .seq (.region [(none, .as 2 (.k (.bool false)))] [0]) (.seq (.region [(none, .mv 3 (.tmp 0)),
 (none, .len 4 (.tmp 3)),
 (none, .bin 5 .num .gtr (.tmp 4) (.k (.int .i64 1048576))),
 (none, .as 2 (.tmp 5))] [2]) (.ret))
noncomputable def d_laws_big (p0 : (List UInt8)) : Option Bool :=
  some (decide ((↑p0.length : Int) > 1048576))
noncomputable def gf_laws_big : GF := y_laws_big.gf rfl rfl (fun a => d_laws_big a.1) (fun a => by kernel_rfl)
noncomputable def y_spec_l1New : Y.YF where
  R := []
  ps := [.v (.l .u)]
  fs := []
  rk := .ptr 0 (.st 17)
  rs := [.bx 2]
  body := .seq (.region [(none, .as 2 (.k .np))] [0]) (.seq (.region [(none, .mv 5 (.tmp 0)),
 (none, .len 6 (.tmp 5)),
 (none, .bin 7 .num .add (.k (.int .i64 28285)) (.tmp 6)),
 (none, .as 3 (.tmp 7))] [0, 3]) (.join [(false, 3, .one, [.val .i none])] (.seq (.region [(none, .as 4 (.k (.int .i64 0)))] [0, 3, 4]) (.block 0 (.loop [(false, 3, .one, [.val .i none]), (false, 4, .one, [.val .i none])] (.seq (.join [(false, 15, .one, [.val .b none])] (.region [(none, .mv 8 (.tmp 4)),
 (none, .mv 9 (.tmp 0)),
 (none, .len 10 (.tmp 9)),
 (none, .bin 11 .num .lss (.tmp 8) (.tmp 10)),
 (none, .mv 12 (.tmp 11)),
 ((some (12, true)), .mv 13 (.tmp 4)),
 ((some (12, true)), .bin 14 .num .lss (.tmp 13) (.k (.int .i64 4000))),
 (none, .pick 15 (.tmp 12) (.tmp 14) (.k (.bool false)))] [0, 3, 4, 15]) (.cond 15 [0, 3, 4] [0, 3] (.skip) (.exit 0))) (.seq (.block 1 (.region [(none, .mv 18 (.tmp 3)),
 (none, .bin 19 .num .mul (.tmp 18) (.k (.int .i64 131))),
 (none, .mv 20 (.tmp 0)),
 (none, .mv 21 (.tmp 4)),
 (none, .ia 22 .u (.tmp 20) (.tmp 21)),
 (none, .ld 23 none (.tmp 22)),
 (none, .cvI 24 .i64 (.tmp 23)),
 (none, .bin 25 .num .add (.tmp 19) (.tmp 24)),
 (none, .bin 26 .num .add (.tmp 25) (.k (.int .i64 7))),
 (none, .bin 27 .num .and (.tmp 26) (.k (.int .i64 1073741823))),
 (none, .as 3 (.tmp 27))] [0, 3, 4])) (.region [(none, .mv 16 (.tmp 4)),
 (none, .bin 17 .num .add (.tmp 16) (.k (.int .i64 1))),
 (none, .as 4 (.tmp 17))] [0, 3, 4])))))) (.seq (.region [(none, .mv 28 (.tmp 0)),
 (none, .mv 29 (.tmp 3)),
 (none, .build 30 [.nil, .int .i64 0, .int .i64 0] [(0, 1, (.tmp 28)), (2, 1, (.tmp 29))]),
 (none, .box 31 (.tmp 30)),
 (none, .as 2 (.tmp 31))] [2]) (.ret))))
noncomputable def d_spec_l1New_j3 (p0 : (List UInt8)) (v6 : Int) : Option Gl1Cur :=
  some (Gl1Cur.mk p0 0 v6)
noncomputable def d_spec_l1New_j2 (p0 : (List UInt8)) (L1 : (Int × Int) → Option Gl1Cur) (v2 : Int) (v3 : Int) (v4 : Bool) : Option Gl1Cur :=
  br v4
    (bd (at? p0 v3) fun x5 =>
    L1 ((andI (w64 (w64 (w64 (v2 * 131) + w64 (↑(UInt8.toNat x5) : Int)) + 7)) 1073741823, w64 (v3 + 1))))
    (jn (d_spec_l1New_j3 p0) v2)
noncomputable def d_spec_l1New_l1 (p0 : (List UInt8)) (L1 : (Int × Int) → Option Gl1Cur) (x_ : (Int × Int)) : Option Gl1Cur :=
  match x_ with
  | (v2, v3) => br (decide (v3 < (↑p0.length : Int)))
    (jn (d_spec_l1New_j2 p0 L1 v2 v3) (decide (v3 < 4000)))
    (jn (d_spec_l1New_j2 p0 L1 v2 v3) false)
noncomputable def d_spec_l1New (p0 : (List UInt8)) : Option Gl1Cur :=
  loopN (d_spec_l1New_l1 p0) big ((w64 (28285 + (↑p0.length : Int)), 0))
noncomputable def gf_spec_l1New : GF := y_spec_l1New.gf rfl rfl (fun a => d_spec_l1New a.1) (fun a => by kernel_rfl)
noncomputable def y_spec_l1Byte : Y.YF where
  R := []
  ps := [.b (.st 17)]
  fs := []
  rk := .ret [.i]
  rs := [.tmp 2]
  body := .seq (.region [(none, .as 2 (.k (.int .i64 0)))] [0]) (.seq (.region [(none, .mv 4 (.tmp 0)),
 (none, .mv 5 (.tmp 0)),
 (none, .chk 6 (.tmp 5)),
 (none, .fa 7 2 (.tmp 6)),
 (none, .ld 8 none (.tmp 7)),
 (none, .bin 9 .num .mul (.tmp 8) (.k (.int .i64 6364136223846793005))),
 (none, .bin 10 .num .add (.tmp 9) (.k (.int .i64 1442695040888963407))),
 (none, .chk 11 (.tmp 4)),
 (none, .fa 12 2 (.tmp 11)),
 (none, .st 1 (.tmp 12) (.tmp 10))] [0]) (.seq (.dreg (.op 0 none [] (.mv 13 (.tmp 0))
 (.op 1 none [] (.chk 14 (.tmp 13))
 (.op 2 none [] (.fa 15 2 (.tmp 14))
 (.op 3 none [] (.ld 16 none (.tmp 15))
 (.op 4 none [] (.bin 17 .num .shr (.tmp 16) (.k (.int .u64 33)))
 (.op 5 none [] (.mv 18 (.tmp 0))
 (.op 6 none [] (.chk 19 (.tmp 18))
 (.op 7 none [] (.fa 20 2 (.tmp 19))
 (.op 8 none [] (.ld 21 none (.tmp 20))
 (.op 9 none [] (.bin 22 .num .shr (.tmp 21) (.k (.int .u64 45)))
 (.op 10 none [] (.bin 23 .num .xor (.tmp 17) (.tmp 22))
 (.op 11 none [] (.bin 24 .num .and (.tmp 23) (.k (.int .i64 255)))
 (.op 12 none [] (.as 3 (.tmp 24))
 .nil))))))))))))) [0, 3]) (.join [(false, 3, .one, [.val .i none]), (true, 0, .one, [.val (.st 17) (some (.old 0))])] (.seq (.dreg (.op 0 none [] (.mv 25 (.tmp 0))
 (.op 1 none [] (.chk 26 (.tmp 25))
 (.op 2 none [] (.fa 27 1 (.tmp 26))
 (.op 3 none [] (.ld 28 none (.tmp 27))
 (.op 4 none [] (.mv 29 (.tmp 0))
 (.op 5 none [] (.chk 30 (.tmp 29))
 (.op 6 none [] (.fa 31 0 (.tmp 30))
 (.op 7 none [] (.ld 32 none (.tmp 31))
 (.op 8 none [] (.len 33 (.tmp 32))
 (.op 9 none [] (.bin 34 .num .lss (.tmp 28) (.tmp 33))
 .nil)))))))))) [0, 3, 34]) (.cond 34 [0, 3] [0, 3] (.seq (.dreg (.op 0 none [] (.mv 35 (.tmp 3))
 (.op 1 none [] (.mv 36 (.tmp 0))
 (.op 2 none [] (.chk 37 (.tmp 36))
 (.op 3 none [] (.fa 38 0 (.tmp 37))
 (.op 4 none [] (.ld 39 none (.tmp 38))
 (.op 5 none [] (.mv 40 (.tmp 0))
 (.op 6 none [] (.chk 41 (.tmp 40))
 (.op 7 none [] (.fa 42 1 (.tmp 41))
 (.op 8 none [] (.ld 43 none (.tmp 42))
 (.op 9 none [] (.ia 44 .u (.tmp 39) (.tmp 43))
 (.op 10 none [] (.ld 45 none (.tmp 44))
 (.op 11 none [] (.cvI 46 .i64 (.tmp 45))
 (.op 12 none [] (.bin 47 .num .add (.tmp 35) (.tmp 46))
 (.op 13 none [] (.bin 48 .num .and (.tmp 47) (.k (.int .i64 255)))
 (.op 14 none [] (.as 3 (.tmp 48))
 .nil))))))))))))))) [0, 3]) (.region [(none, .mv 49 (.tmp 0)),
 (none, .mv 50 (.tmp 0)),
 (none, .chk 51 (.tmp 50)),
 (none, .fa 52 1 (.tmp 51)),
 (none, .ld 53 none (.tmp 52)),
 (none, .bin 54 .num .add (.tmp 53) (.k (.int .i64 1))),
 (none, .chk 55 (.tmp 49)),
 (none, .fa 56 1 (.tmp 55)),
 (none, .st 1 (.tmp 56) (.tmp 54))] [0, 3])) (.skip))) (.seq (.region [(none, .mv 57 (.tmp 3)),
 (none, .as 2 (.tmp 57))] [0, 2]) (.ret)))))
noncomputable def d_spec_l1Byte_j1 (x_ : (Int × Gl1Cur)) : Option (Int × Gl1Cur) :=
  match x_ with
  | (v2, v3) => some (v2, v3)
noncomputable def d_spec_l1Byte (p0 : Gl1Cur) : Option (Int × Gl1Cur) :=
  br (decide (p0.i_ < (↑p0.b_.length : Int)))
    (bd (at? p0.b_ p0.i_) fun x1 =>
    jn (d_spec_l1Byte_j1) ((andI (w64 (andI (xorI (shrI (w64 (w64 (p0.h_ * 6364136223846793005) + 1442695040888963407)) 33) (shrI (w64 (w64 (p0.h_ * 6364136223846793005) + 1442695040888963407)) 45)) 255 + w64 (↑(UInt8.toNat x1) : Int))) 255, Gl1Cur.mk p0.b_ (w64 (p0.i_ + 1)) (w64 (w64 (p0.h_ * 6364136223846793005) + 1442695040888963407)))))
    (jn (d_spec_l1Byte_j1) ((andI (xorI (shrI (w64 (w64 (p0.h_ * 6364136223846793005) + 1442695040888963407)) 33) (shrI (w64 (w64 (p0.h_ * 6364136223846793005) + 1442695040888963407)) 45)) 255, Gl1Cur.mk p0.b_ p0.i_ (w64 (w64 (p0.h_ * 6364136223846793005) + 1442695040888963407)))))
noncomputable def gf_spec_l1Byte : GF := y_spec_l1Byte.gf rfl rfl (fun a => d_spec_l1Byte a.1) (fun a => by kernel_rfl)
noncomputable def y_spec_l1Below : Y.YF where
  R := []
  ps := [.b (.st 17), .v .i]
  fs := []
  rk := .ret [.i]
  rs := [.tmp 4]
  body := .seq (.region [(none, .as 4 (.k (.int .i64 0)))] [0, 1]) (.seq (.seq (.region [(none, .mv 9 (.tmp 1)),
 (none, .bin 10 .num .leq (.tmp 9) (.k (.int .i64 0)))] [0, 1, 10]) (.cond 10 [0] [0, 1] (.seq (.region [(none, .as 4 (.k (.int .i64 0)))] [0, 4]) (.ret)) (.skip))) (.seq (.seq (.region [(none, .mv 11 (.tmp 1)),
 (none, .bin 12 .num .leq (.tmp 11) (.k (.int .i64 256)))] [0, 1, 12]) (.cond 12 [0, 1] [0, 1] (.seq (.region [(none, .mv 13 (.tmp 0)),
 (none, .call 14 gf_spec_l1Byte [] rfl [(.tmp 13)]),
 (none, .mv 15 (.tmp 1)),
 (none, .bin 16 .num .rem (.tmp 14) (.tmp 15)),
 (none, .as 4 (.tmp 16))] [0, 4]) (.ret)) (.skip))) (.seq (.region [(none, .mv 17 (.tmp 0)),
 (none, .call 18 gf_spec_l1Byte [] rfl [(.tmp 17)]),
 (none, .as 5 (.tmp 18))] [0, 1, 5]) (.seq (.region [(none, .mv 19 (.tmp 0)),
 (none, .call 20 gf_spec_l1Byte [] rfl [(.tmp 19)]),
 (none, .as 6 (.tmp 20))] [0, 1, 5, 6]) (.seq (.region [(none, .mv 21 (.tmp 0)),
 (none, .call 22 gf_spec_l1Byte [] rfl [(.tmp 21)]),
 (none, .as 7 (.tmp 22))] [0, 1, 5, 6, 7]) (.seq (.region [(none, .mv 23 (.tmp 0)),
 (none, .call 24 gf_spec_l1Byte [] rfl [(.tmp 23)]),
 (none, .as 8 (.tmp 24))] [0, 1, 5, 6, 7, 8]) (.seq (.region [(none, .mv 25 (.tmp 5)),
 (none, .bin 26 .num .mul (.tmp 25) (.k (.int .i64 16777216))),
 (none, .mv 27 (.tmp 6)),
 (none, .bin 28 .num .mul (.tmp 27) (.k (.int .i64 65536))),
 (none, .bin 29 .num .add (.tmp 26) (.tmp 28)),
 (none, .mv 30 (.tmp 7)),
 (none, .bin 31 .num .mul (.tmp 30) (.k (.int .i64 256))),
 (none, .bin 32 .num .add (.tmp 29) (.tmp 31)),
 (none, .mv 33 (.tmp 8)),
 (none, .bin 34 .num .add (.tmp 32) (.tmp 33)),
 (none, .mv 35 (.tmp 1)),
 (none, .bin 36 .num .rem (.tmp 34) (.tmp 35)),
 (none, .as 4 (.tmp 36))] [0, 4]) (.ret))))))))
noncomputable def d_spec_l1Below (p0 : Gl1Cur) (p1 : Int) : Option (Int × Gl1Cur) :=
  br (decide (p1 ≤ 0))
    (some (0, p0))
    (br (decide (p1 ≤ 256))
      (bd (d_spec_l1Byte p0) fun x1 =>
      gd (p1 ≠ 0) (
      some (Int.tmod x1.fst p1, x1.snd)))
      (bd (d_spec_l1Byte p0) fun x2 =>
      bd (d_spec_l1Byte x2.snd) fun x3 =>
      bd (d_spec_l1Byte x3.snd) fun x4 =>
      bd (d_spec_l1Byte x4.snd) fun x5 =>
      gd (p1 ≠ 0) (
      some (((w64 (w64 (w64 (w64 (x2.fst * 16777216) + w64 (x3.fst * 65536)) + w64 (x4.fst * 256)) + x5.fst)).tmod p1, x5.snd)))))
noncomputable def gf_spec_l1Below : GF := y_spec_l1Below.gf rfl rfl (fun a => d_spec_l1Below a.1 a.2.1) (fun a => by kernel_rfl)
noncomputable def y_spec_l5Right : Y.YF where
  R := []
  ps := [.b (.st 17)]
  fs := []
  rk := .ret [(.st 1)]
  rs := [.cell 2 (some 9)]
  body := .seq (.region [(none, .alloc 2 [.nil, .int .i64 0, .int .i64 0, .int .i64 0, .int .i64 0, .int .i64 0, .int .i64 0, .int .i64 0, .int .i64 0]),
 (none, .nils [(.cell 2 0, .i)])] [0, 2]) (.seq (.region [(none, .mv 6 (.tmp 0)),
 (none, .call 7 gf_spec_l1Below [] rfl [(.tmp 6), (.k (.int .i64 5))]),
 (none, .bin 8 .num .add (.k (.int .i64 1)) (.tmp 7)),
 (none, .mv 9 (.tmp 0)),
 (none, .call 10 gf_spec_l1Below [] rfl [(.tmp 9), (.k (.int .i64 9))]),
 (none, .bin 11 .num .add (.k (.int .i64 2)) (.tmp 10)),
 (none, .mv 12 (.tmp 0)),
 (none, .call 13 gf_spec_l1Below [] rfl [(.tmp 12), (.k (.int .i64 6))]),
 (none, .bin 14 .num .add (.k (.int .i64 1)) (.tmp 13)),
 (none, .mv 15 (.tmp 0)),
 (none, .call 16 gf_spec_l1Below [] rfl [(.tmp 15), (.k (.int .i64 5))]),
 (none, .bin 17 .num .add (.k (.int .i64 1)) (.tmp 16)),
 (none, .mv 18 (.tmp 0)),
 (none, .call 19 gf_spec_l1Below [] rfl [(.tmp 18), (.k (.int .i64 4))]),
 (none, .bin 20 .num .add (.k (.int .i64 1)) (.tmp 19)),
 (none, .mv 21 (.tmp 0)),
 (none, .call 22 gf_spec_l1Below [] rfl [(.tmp 21), (.k (.int .i64 4))]),
 (none, .mv 23 (.tmp 0)),
 (none, .call 24 gf_spec_l1Below [] rfl [(.tmp 23), (.k (.int .i64 4))]),
 (none, .bin 25 .num .add (.k (.int .i64 1)) (.tmp 24)),
 (none, .mv 26 (.tmp 0)),
 (none, .call 27 gf_spec_l1Below [] rfl [(.tmp 26), (.k (.int .i64 3))]),
 (none, .bin 28 .num .add (.k (.int .i64 1)) (.tmp 27)),
 (none, .build 29 [.nil, .int .i64 0, .int .i64 0, .int .i64 0, .int .i64 0, .int .i64 0, .int .i64 0, .int .i64 0, .int .i64 0] [(1, 1, (.tmp 8)), (2, 1, (.tmp 11)), (3, 1, (.tmp 14)), (4, 1, (.tmp 17)), (5, 1, (.tmp 20)), (6, 1, (.tmp 22)), (7, 1, (.tmp 25)), (8, 1, (.tmp 28))]),
 (none, .nils [(.tmp 29 0, .i)]),
 (none, .alloc 3 [.nil, .int .i64 0, .int .i64 0, .int .i64 0, .int .i64 0, .int .i64 0, .int .i64 0, .int .i64 0, .int .i64 0]),
 (none, .nils [(.cell 3 0, .i)]),
 (none, .st 9 (.tmp 3) (.tmp 29))] [0, 2, 3]) (.seq (.region [(none, .mv 30 (.tmp 0)),
 (none, .call 31 gf_spec_l1Below [] rfl [(.tmp 30), (.k (.int .i64 3))]),
 (none, .bin 32 .num .add (.k (.int .i64 1)) (.tmp 31)),
 (none, .as 4 (.tmp 32))] [0, 2, 3, 4]) (.join [(true, 0, .one, [.val (.st 17) (some (.old 0))]), (true, 3, .one, [.val (.st 1) none])] (.seq (.region [(none, .as 5 (.k (.int .i64 0)))] [0, 2, 3, 4, 5]) (.block 0 (.loop [(false, 5, .one, [.val .i none]), (true, 0, .one, [.val (.st 17) (some (.old 0))]), (true, 3, .one, [.val (.st 1) none])] (.seq (.seq (.region [(none, .mv 33 (.tmp 5)),
 (none, .mv 34 (.tmp 4)),
 (none, .bin 35 .num .lss (.tmp 33) (.tmp 34))] [0, 2, 3, 4, 5, 35]) (.cond 35 [0, 2, 3, 4, 5] [0, 2, 3] (.skip) (.exit 0))) (.seq (.block 1 (.dreg (.op 0 none [] (.fa 38 0 (.tmp 3))
 (.op 1 none [] (.ld 39 none (.tmp 38))
 (.op 2 none [] (.mv 40 (.tmp 0))
 (.op 3 none [38] (.call 41 gf_spec_l1Below [] rfl [(.tmp 40), (.k (.int .i64 12))])
 (.op 4 none [] (.bin 42 .num .add (.k (.int .i64 2)) (.tmp 41))
 (.op 5 none [38] (.bslice 43 1 .i [(0, (.tmp 42))])
 (.op 6 none [] (.app 44 .i true (.tmp 39) (.tmp 43))
 (.op 7 none [] (.fa 45 0 (.tmp 3))
 (.op 8 none [] (.st 1 (.tmp 45) (.tmp 44))
 .nil))))))))) [0, 2, 3, 4, 5])) (.region [(none, .mv 36 (.tmp 5)),
 (none, .bin 37 .num .add (.tmp 36) (.k (.int .i64 1))),
 (none, .as 5 (.tmp 37))] [0, 2, 3, 4, 5])))))) (.seq (.region [(none, .ld 46 (some 9) (.tmp 3)),
 (none, .st 9 (.tmp 2) (.tmp 46))] [0, 2]) (.ret)))))
noncomputable def d_spec_l5Right_j2 (x_ : (Gl1Cur × GRules)) : Option (GRules × Gl1Cur) :=
  match x_ with
  | (v15, v16) => some (v16, v15)
noncomputable def d_spec_l5Right_l1 (x9 : (Int × Gl1Cur)) (L10 : (Int × Gl1Cur × GRules) → Option (GRules × Gl1Cur)) (x_ : (Int × Gl1Cur × GRules)) : Option (GRules × Gl1Cur) :=
  match x_ with
  | (v11, v12, v13) => br (decide (v11 < w64 (1 + x9.fst)))
    (bd (d_spec_l1Below v12 12) fun x14 =>
    gd (v13.Seats.length + [w64 (2 + x14.fst)].length ≤ lim) (
    L10 ((w64 (v11 + 1), x14.snd, GRules.mk (v13.Seats ++ [w64 (2 + x14.fst)]) v13.Tiers v13.Room v13.Size v13.Period v13.Window v13.Rest v13.Tries v13.Crew))))
    (jn (d_spec_l5Right_j2) (v12, v13))
noncomputable def d_spec_l5Right (p0 : Gl1Cur) : Option (GRules × Gl1Cur) :=
  bd (d_spec_l1Below p0 5) fun x1 =>
  bd (d_spec_l1Below x1.snd 9) fun x2 =>
  bd (d_spec_l1Below x2.snd 6) fun x3 =>
  bd (d_spec_l1Below x3.snd 5) fun x4 =>
  bd (d_spec_l1Below x4.snd 4) fun x5 =>
  bd (d_spec_l1Below x5.snd 4) fun x6 =>
  bd (d_spec_l1Below x6.snd 4) fun x7 =>
  bd (d_spec_l1Below x7.snd 3) fun x8 =>
  bd (d_spec_l1Below x8.snd 3) fun x9 =>
  loopN (d_spec_l5Right_l1 x9) big ((0, x9.snd, GRules.mk [] (w64 (1 + x1.fst)) (w64 (2 + x2.fst)) (w64 (1 + x3.fst)) (w64 (1 + x4.fst)) (w64 (1 + x5.fst)) x6.fst (w64 (1 + x7.fst)) (w64 (1 + x8.fst))))
noncomputable def gf_spec_l5Right : GF := y_spec_l5Right.gf rfl rfl (fun a => d_spec_l5Right a.1) (fun a => by kernel_rfl)
noncomputable def y_spec_RulesOk : Y.YF where
  R := []
  ps := [.v (.st 1)]
  fs := []
  rk := .ret [.b]
  rs := [.tmp 2]
  body := .seq (.region [(none, .box 1 (.tmp 0)),
 (none, .as 2 (.k (.bool false)))] [1]) (.seq (.join [(false, 32, .one, [.val .b none])] (.region [(none, .fa 4 0 (.tmp 1)),
 (none, .ld 5 none (.tmp 4)),
 (none, .len 6 (.tmp 5)),
 (none, .call 7 gf_spec_l1In [] rfl [(.tmp 6), (.k (.int .i64 1)), (.k (.int .i64 4))]),
 (none, .un 8 .not (.tmp 7)),
 (none, .mv 9 (.tmp 8)),
 ((some (9, false)), .fa 10 1 (.tmp 1)),
 ((some (9, false)), .ld 11 none (.tmp 10)),
 ((some (9, false)), .call 12 gf_spec_l1In [] rfl [(.tmp 11), (.k (.int .i64 1)), (.k (.int .i64 5))]),
 ((some (9, false)), .un 13 .not (.tmp 12)),
 (none, .pick 14 (.tmp 9) (.k (.bool true)) (.tmp 13)),
 (none, .mv 15 (.tmp 14)),
 ((some (15, false)), .fa 16 2 (.tmp 1)),
 ((some (15, false)), .ld 17 none (.tmp 16)),
 ((some (15, false)), .call 18 gf_spec_l1In [] rfl [(.tmp 17), (.k (.int .i64 1)), (.k (.int .i64 10))]),
 ((some (15, false)), .un 19 .not (.tmp 18)),
 (none, .pick 20 (.tmp 15) (.k (.bool true)) (.tmp 19)),
 (none, .mv 21 (.tmp 20)),
 ((some (21, false)), .fa 22 3 (.tmp 1)),
 ((some (21, false)), .ld 23 none (.tmp 22)),
 ((some (21, false)), .call 24 gf_spec_l1In [] rfl [(.tmp 23), (.k (.int .i64 1)), (.k (.int .i64 6))]),
 ((some (21, false)), .un 25 .not (.tmp 24)),
 (none, .pick 26 (.tmp 21) (.k (.bool true)) (.tmp 25)),
 (none, .mv 27 (.tmp 26)),
 ((some (27, false)), .fa 28 4 (.tmp 1)),
 ((some (27, false)), .ld 29 none (.tmp 28)),
 ((some (27, false)), .call 30 gf_spec_l1In [] rfl [(.tmp 29), (.k (.int .i64 1)), (.k (.int .i64 12))]),
 ((some (27, false)), .un 31 .not (.tmp 30)),
 (none, .pick 32 (.tmp 27) (.k (.bool true)) (.tmp 31))] [1, 32]) (.cond 32 [] [1] (.seq (.region [(none, .as 2 (.k (.bool false)))] [2]) (.ret)) (.skip))) (.join [] (.seq (.region [(none, .as 3 (.k (.int .i64 0)))] [1, 3]) (.block 0 (.loop [(false, 3, .one, [.val .i none])] (.seq (.seq (.region [(none, .mv 33 (.tmp 3)),
 (none, .fa 34 0 (.tmp 1)),
 (none, .ld 35 none (.tmp 34)),
 (none, .len 36 (.tmp 35)),
 (none, .bin 37 .num .lss (.tmp 33) (.tmp 36))] [1, 3, 37]) (.cond 37 [1, 3] [1] (.skip) (.exit 0))) (.seq (.block 1 (.seq (.region [(none, .fa 40 0 (.tmp 1)),
 (none, .ld 41 none (.tmp 40)),
 (none, .mv 42 (.tmp 3)),
 (none, .ia 43 .i (.tmp 41) (.tmp 42)),
 (none, .ld 44 none (.tmp 43)),
 (none, .call 45 gf_spec_l1In [] rfl [(.tmp 44), (.k (.int .i64 1)), (.k (.int .i64 60))]),
 (none, .un 46 .not (.tmp 45))] [1, 3, 46]) (.cond 46 [] [1, 3] (.seq (.region [(none, .as 2 (.k (.bool false)))] [2]) (.ret)) (.skip)))) (.region [(none, .mv 38 (.tmp 3)),
 (none, .bin 39 .num .add (.tmp 38) (.k (.int .i64 1))),
 (none, .as 3 (.tmp 39))] [1, 3])))))) (.join [(false, 2, .one, [.val .b none])] (.region [(none, .fa 47 5 (.tmp 1)),
 (none, .ld 48 none (.tmp 47)),
 (none, .call 49 gf_spec_l1In [] rfl [(.tmp 48), (.k (.int .i64 1)), (.k (.int .i64 8))]),
 (none, .mv 50 (.tmp 49)),
 ((some (50, true)), .fa 51 6 (.tmp 1)),
 ((some (50, true)), .ld 52 none (.tmp 51)),
 ((some (50, true)), .call 53 gf_spec_l1In [] rfl [(.tmp 52), (.k (.int .i64 0)), (.k (.int .i64 8))]),
 (none, .pick 54 (.tmp 50) (.tmp 53) (.k (.bool false))),
 (none, .mv 55 (.tmp 54)),
 ((some (55, true)), .fa 56 7 (.tmp 1)),
 ((some (55, true)), .ld 57 none (.tmp 56)),
 ((some (55, true)), .call 58 gf_spec_l1In [] rfl [(.tmp 57), (.k (.int .i64 1)), (.k (.int .i64 4))]),
 (none, .pick 59 (.tmp 55) (.tmp 58) (.k (.bool false))),
 (none, .mv 60 (.tmp 59)),
 ((some (60, true)), .fa 61 8 (.tmp 1)),
 ((some (60, true)), .ld 62 none (.tmp 61)),
 ((some (60, true)), .call 63 gf_spec_l1In [] rfl [(.tmp 62), (.k (.int .i64 1)), (.k (.int .i64 3))]),
 (none, .pick 64 (.tmp 60) (.tmp 63) (.k (.bool false))),
 (none, .as 2 (.tmp 64))] [2]) (.ret))))
noncomputable def d_spec_RulesOk_j4 (v11 : Bool) : Option Bool :=
  some v11
noncomputable def d_spec_RulesOk_j3 (p0 : GRules) (_ : PUnit) : Option Bool :=
  bd (d_spec_l1In p0.Window 1 8) fun x7 =>
  br x7
    (bd (d_spec_l1In p0.Rest 0 8) fun x8 =>
    br x8
      (bd (d_spec_l1In p0.Tries 1 4) fun x9 =>
      br x9
        (bd (d_spec_l1In p0.Crew 1 3) fun x10 =>
        jn (d_spec_RulesOk_j4) x10)
        (jn (d_spec_RulesOk_j4) false))
      (jn (d_spec_RulesOk_j4) false))
    (jn (d_spec_RulesOk_j4) false)
noncomputable def d_spec_RulesOk_l2 (p0 : GRules) (L3 : Int → Option Bool) (v4 : Int) : Option Bool :=
  br (decide (v4 < (↑p0.Seats.length : Int)))
    (bd (at? p0.Seats v4) fun x5 =>
    bd (d_spec_l1In x5 1 60) fun x6 =>
    br (!x6)
      (some false)
      (L3 (w64 (v4 + 1))))
    (jn (d_spec_RulesOk_j3 p0) ())
noncomputable def d_spec_RulesOk_j1 (p0 : GRules) (v2 : Bool) : Option Bool :=
  br v2
    (some false)
    (loopN (d_spec_RulesOk_l2 p0) big 0)
noncomputable def d_spec_RulesOk (p0 : GRules) : Option Bool :=
  bd (d_spec_l1In (↑p0.Seats.length : Int) 1 4) fun x1 =>
  br (!x1)
    (jn (d_spec_RulesOk_j1 p0) true)
    (bd (d_spec_l1In p0.Tiers 1 5) fun x12 =>
    br (!x12)
      (jn (d_spec_RulesOk_j1 p0) true)
      (bd (d_spec_l1In p0.Room 1 10) fun x13 =>
      br (!x13)
        (jn (d_spec_RulesOk_j1 p0) true)
        (bd (d_spec_l1In p0.Size 1 6) fun x14 =>
        br (!x14)
          (jn (d_spec_RulesOk_j1 p0) true)
          (bd (d_spec_l1In p0.Period 1 12) fun x15 =>
          jn (d_spec_RulesOk_j1 p0) (!x15)))))
noncomputable def gf_spec_RulesOk : GF := y_spec_RulesOk.gf rfl rfl (fun a => d_spec_RulesOk a.1) (fun a => by kernel_rfl)
noncomputable def y_spec_l5Copy : Y.YF where
  R := []
  ps := [.v (.st 1)]
  fs := []
  rk := .ret [(.st 1)]
  rs := [.cell 2 (some 9)]
  body := .seq (.region [(none, .box 1 (.tmp 0)),
 (none, .alloc 2 [.nil, .int .i64 0, .int .i64 0, .int .i64 0, .int .i64 0, .int .i64 0, .int .i64 0, .int .i64 0, .int .i64 0]),
 (none, .nils [(.cell 2 0, .i)])] [1, 2]) (.seq (.region [(none, .bslice 3 0 .i []),
 (none, .fa 4 0 (.tmp 1)),
 (none, .ld 5 none (.tmp 4)),
 (none, .app 6 .i true (.tmp 3) (.tmp 5)),
 (none, .fa 7 0 (.tmp 1)),
 (none, .st 1 (.tmp 7) (.tmp 6))] [1, 2]) (.seq (.region [(none, .ld 8 (some 9) (.tmp 1)),
 (none, .st 9 (.tmp 2) (.tmp 8))] [2]) (.ret)))
noncomputable def d_spec_l5Copy (p0 : GRules) : Option GRules :=
  gd (0 + p0.Seats.length ≤ lim) (
  some (GRules.mk ([] ++ p0.Seats) p0.Tiers p0.Room p0.Size p0.Period p0.Window p0.Rest p0.Tries p0.Crew))
noncomputable def gf_spec_l5Copy : GF := y_spec_l5Copy.gf rfl rfl (fun a => d_spec_l5Copy a.1) (fun a => by kernel_rfl)
noncomputable def y_spec_LedgerOk : Y.YF where
  R := []
  ps := [.v (.st 3)]
  fs := []
  rk := .ret [.b]
  rs := [.tmp 2]
  body := .seq (.region [(none, .box 1 (.tmp 0)),
 (none, .as 2 (.k (.bool false)))] [1]) (.join [(false, 2, .one, [.val .b none])] (.region [(none, .fa 3 0 (.tmp 1)),
 (none, .ld 4 none (.tmp 3)),
 (none, .call 5 gf_spec_l1In [] rfl [(.tmp 4), (.k (.int .i64 1)), (.k (.int .i64 60))]),
 (none, .mv 6 (.tmp 5)),
 ((some (6, true)), .fa 7 1 (.tmp 1)),
 ((some (6, true)), .ld 8 none (.tmp 7)),
 ((some (6, true)), .fa 9 0 (.tmp 1)),
 ((some (6, true)), .ld 10 none (.tmp 9)),
 ((some (6, true)), .call 11 gf_spec_l1In [] rfl [(.tmp 8), (.k (.int .i64 0)), (.tmp 10)]),
 (none, .pick 12 (.tmp 6) (.tmp 11) (.k (.bool false))),
 (none, .mv 13 (.tmp 12)),
 ((some (13, true)), .fa 14 2 (.tmp 1)),
 ((some (13, true)), .ld 15 none (.tmp 14)),
 ((some (13, true)), .fa 16 0 (.tmp 1)),
 ((some (13, true)), .ld 17 none (.tmp 16)),
 ((some (13, true)), .call 18 gf_spec_l1In [] rfl [(.tmp 15), (.k (.int .i64 0)), (.tmp 17)]),
 (none, .pick 19 (.tmp 13) (.tmp 18) (.k (.bool false))),
 (none, .mv 20 (.tmp 19)),
 ((some (20, true)), .fa 21 3 (.tmp 1)),
 ((some (20, true)), .ld 22 none (.tmp 21)),
 ((some (20, true)), .fa 23 0 (.tmp 1)),
 ((some (20, true)), .ld 24 none (.tmp 23)),
 ((some (20, true)), .call 25 gf_spec_l1In [] rfl [(.tmp 22), (.k (.int .i64 0)), (.tmp 24)]),
 (none, .pick 26 (.tmp 20) (.tmp 25) (.k (.bool false))),
 (none, .mv 27 (.tmp 26)),
 ((some (27, true)), .fa 28 1 (.tmp 1)),
 ((some (27, true)), .ld 29 none (.tmp 28)),
 ((some (27, true)), .fa 30 2 (.tmp 1)),
 ((some (27, true)), .ld 31 none (.tmp 30)),
 ((some (27, true)), .bin 32 .num .add (.tmp 29) (.tmp 31)),
 ((some (27, true)), .fa 33 3 (.tmp 1)),
 ((some (27, true)), .ld 34 none (.tmp 33)),
 ((some (27, true)), .bin 35 .num .add (.tmp 32) (.tmp 34)),
 ((some (27, true)), .fa 36 0 (.tmp 1)),
 ((some (27, true)), .ld 37 none (.tmp 36)),
 ((some (27, true)), .bin 38 .num .eql (.tmp 35) (.tmp 37)),
 (none, .pick 39 (.tmp 27) (.tmp 38) (.k (.bool false))),
 (none, .mv 40 (.tmp 39)),
 ((some (40, true)), .fa 41 4 (.tmp 1)),
 ((some (40, true)), .ld 42 none (.tmp 41)),
 ((some (40, true)), .fa 43 3 (.tmp 1)),
 ((some (40, true)), .ld 44 none (.tmp 43)),
 ((some (40, true)), .call 45 gf_spec_l1In [] rfl [(.tmp 42), (.k (.int .i64 0)), (.tmp 44)]),
 (none, .pick 46 (.tmp 40) (.tmp 45) (.k (.bool false))),
 (none, .as 2 (.tmp 46))] [2]) (.ret))
noncomputable def d_spec_LedgerOk_j1 (v6 : Bool) : Option Bool :=
  some v6
noncomputable def d_spec_LedgerOk (p0 : GLedger) : Option Bool :=
  bd (d_spec_l1In p0.Total 1 60) fun x1 =>
  br x1
    (bd (d_spec_l1In p0.Free 0 p0.Total) fun x2 =>
    br x2
      (bd (d_spec_l1In p0.Held 0 p0.Total) fun x3 =>
      br x3
        (bd (d_spec_l1In p0.Sold 0 p0.Total) fun x4 =>
        br x4
          (br (w64 (w64 (p0.Free + p0.Held) + p0.Sold) == p0.Total)
            (bd (d_spec_l1In p0.Tied 0 p0.Sold) fun x5 =>
            jn (d_spec_LedgerOk_j1) x5)
            (jn (d_spec_LedgerOk_j1) false))
          (jn (d_spec_LedgerOk_j1) false))
        (jn (d_spec_LedgerOk_j1) false))
      (jn (d_spec_LedgerOk_j1) false))
    (jn (d_spec_LedgerOk_j1) false)
noncomputable def gf_spec_LedgerOk : GF := y_spec_LedgerOk.gf rfl rfl (fun a => d_spec_LedgerOk a.1) (fun a => by kernel_rfl)
noncomputable def y_spec_LedgerNew : Y.YF where
  R := []
  ps := [.v .i]
  fs := []
  rk := .ret [(.st 3), .b]
  rs := [.cell 2 (some 5), .tmp 3]
  body := .seq (.region [(none, .alloc 2 [.int .i64 0, .int .i64 0, .int .i64 0, .int .i64 0, .int .i64 0]),
 (none, .as 3 (.k (.bool false)))] [0, 2]) (.seq (.region [(none, .mv 5 (.tmp 0)),
 (none, .mv 6 (.tmp 0)),
 (none, .build 7 [.int .i64 0, .int .i64 0, .int .i64 0, .int .i64 0, .int .i64 0] [(0, 1, (.tmp 5)), (3, 1, (.tmp 6))]),
 (none, .alloc 4 [.int .i64 0, .int .i64 0, .int .i64 0, .int .i64 0, .int .i64 0]),
 (none, .st 5 (.tmp 4) (.tmp 7))] [2, 4]) (.seq (.seq (.region [(none, .ld 8 (some 5) (.tmp 4)),
 (none, .call 9 gf_spec_LedgerOk [] rfl [(.tmp 8)]),
 (none, .un 10 .not (.tmp 9))] [2, 4, 10]) (.cond 10 [2] [2, 4] (.seq (.region [(none, .build 11 [.int .i64 0, .int .i64 0, .int .i64 0, .int .i64 0, .int .i64 0] []),
 (none, .st 5 (.tmp 2) (.tmp 11)),
 (none, .as 3 (.k (.bool false)))] [2, 3]) (.ret)) (.skip))) (.seq (.region [(none, .ld 12 (some 5) (.tmp 4)),
 (none, .st 5 (.tmp 2) (.tmp 12)),
 (none, .as 3 (.k (.bool true)))] [2, 3]) (.ret))))
noncomputable def d_spec_LedgerNew (p0 : Int) : Option (GLedger × Bool) :=
  bd (d_spec_LedgerOk (GLedger.mk p0 0 0 p0 0)) fun x1 =>
  br (!x1)
    (some (GLedger.mk 0 0 0 0 0, false))
    (some (GLedger.mk p0 0 0 p0 0, true))
noncomputable def gf_spec_LedgerNew : GF := y_spec_LedgerNew.gf rfl rfl (fun a => d_spec_LedgerNew a.1) (fun a => by kernel_rfl)
noncomputable def y_spec_WheelNew : Y.YF where
  R := []
  ps := []
  fs := []
  rk := .ret [(.st 6)]
  rs := [.cell 0 (some 1)]
  body := .seq (.region [(none, .alloc 0 [.nil]),
 (none, .nils [(.cell 0 0, (.l (.st 5)))])] [0]) (.seq (.region [(none, .build 3 [.nil] []),
 (none, .nils [(.tmp 3 0, (.l (.st 5)))]),
 (none, .alloc 1 [.nil]),
 (none, .nils [(.cell 1 0, (.l (.st 5)))]),
 (none, .st 1 (.tmp 1) (.tmp 3))] [0, 1]) (.join [(true, 1, .one, [.val (.st 6) none])] (.seq (.region [(none, .as 2 (.k (.int .i64 0)))] [0, 1, 2]) (.block 0 (.loop [(false, 2, .one, [.val .i none]), (true, 1, .one, [.val (.st 6) none])] (.seq (.seq (.region [(none, .mv 4 (.tmp 2)),
 (none, .bin 5 .num .lss (.tmp 4) (.k (.int .i64 9)))] [0, 1, 2, 5]) (.cond 5 [0, 1, 2] [0, 1] (.skip) (.exit 0))) (.seq (.block 1 (.region [(none, .fa 8 0 (.tmp 1)),
 (none, .ld 9 none (.tmp 8)),
 (none, .bslice 10 0 (.st 5) []),
 (none, .bslice 11 1 (.l (.st 5)) [(0, (.tmp 10))]),
 (none, .app 12 (.l (.st 5)) false (.tmp 9) (.tmp 11)),
 (none, .fa 13 0 (.tmp 1)),
 (none, .st 1 (.tmp 13) (.tmp 12))] [0, 1, 2])) (.region [(none, .mv 6 (.tmp 2)),
 (none, .bin 7 .num .add (.tmp 6) (.k (.int .i64 1))),
 (none, .as 2 (.tmp 7))] [0, 1, 2])))))) (.seq (.region [(none, .ld 14 (some 1) (.tmp 1)),
 (none, .st 1 (.tmp 0) (.tmp 14))] [0]) (.ret))))
noncomputable def d_spec_WheelNew_j2 (v4 : GWheel) : Option GWheel :=
  some v4
noncomputable def d_spec_WheelNew_l1 (L1 : (Int × GWheel) → Option GWheel) (x_ : (Int × GWheel)) : Option GWheel :=
  match x_ with
  | (v2, v3) => br (decide (v2 < 9))
    (gd (v3.Spoke.length + 1 ≤ lim) (
    L1 ((w64 (v2 + 1), GWheel.mk (v3.Spoke ++ [[]])))))
    (jn (d_spec_WheelNew_j2) v3)
noncomputable def d_spec_WheelNew : Option GWheel :=
  loopN (d_spec_WheelNew_l1) big (0, GWheel.mk [])
noncomputable def gf_spec_WheelNew : GF := y_spec_WheelNew.gf rfl rfl (fun a => d_spec_WheelNew ) (fun a => by kernel_rfl)
noncomputable def y_spec_CabinNew : Y.YF where
  R := []
  ps := [.v .i]
  fs := []
  rk := .ret [(.st 7), .b]
  rs := [.cell 2 (some 7), .tmp 3]
  body := .seq (.region [(none, .alloc 2 [.int .i64 0, .int .i64 0, .int .i64 0, .int .i64 0, .int .i64 0, .nil, .nil]),
 (none, .nils [(.cell 2 5, (.st 4)), (.cell 2 6, (.l (.st 5)))]),
 (none, .as 3 (.k (.bool false)))] [0, 2]) (.seq (.region [(none, .mv 7 (.tmp 0)),
 (none, .call 8 gf_spec_LedgerNew [] rfl [(.tmp 7)]),
 (none, .mv 6 (.tmp 8)),
 (none, .ext 9 (.tmp 6) 0),
 (none, .ext 10 (.tmp 6) 1),
 (none, .alloc 4 [.int .i64 0, .int .i64 0, .int .i64 0, .int .i64 0, .int .i64 0]),
 (none, .st 5 (.tmp 4) (.tmp 9)),
 (none, .as 5 (.tmp 10))] [2, 4, 5]) (.seq (.seq (.region [(none, .mv 11 (.tmp 5)),
 (none, .un 12 .not (.tmp 11))] [2, 4, 12]) (.cond 12 [2] [2, 4] (.seq (.region [(none, .build 13 [.int .i64 0, .int .i64 0, .int .i64 0, .int .i64 0, .int .i64 0, .nil, .nil] []),
 (none, .nils [(.tmp 13 5, (.st 4)), (.tmp 13 6, (.l (.st 5)))]),
 (none, .st 7 (.tmp 2) (.tmp 13)),
 (none, .as 3 (.k (.bool false)))] [2, 3]) (.ret)) (.skip))) (.seq (.dreg (.op 0 none [] (.ld 14 (some 5) (.tmp 4))
 (.op 1 none [4] (.call 15 gf_spec_WheelNew [] rfl [])
 (.op 2 none [] (.build 16 [.int .i64 0, .int .i64 0, .int .i64 0, .int .i64 0, .int .i64 0, .nil, .nil] [(0, 5, (.tmp 14)), (6, 1, (.tmp 15))])
 (.nl [(.tmp 16 5, (.st 4))] (.op 3 none [] (.st 7 (.tmp 2) (.tmp 16))
 (.op 4 none [] (.as 3 (.k (.bool true)))
 .nil)))))) [2, 3]) (.ret))))
noncomputable def d_spec_CabinNew (p0 : Int) : Option (GCabin × Bool) :=
  bd (d_spec_LedgerNew p0) fun x1 =>
  br (!x1.snd)
    (some ((GCabin.mk (GLedger.mk 0 0 0 0 0) [] (GWheel.mk []), false)))
    (bd (d_spec_WheelNew ) fun x2 =>
    some (GCabin.mk x1.fst [] x2, true))
noncomputable def gf_spec_CabinNew : GF := y_spec_CabinNew.gf rfl rfl (fun a => d_spec_CabinNew a.1) (fun a => by kernel_rfl)
noncomputable def y_spec_HouseNew : Y.YF where
  R := []
  ps := [.v (.st 1)]
  fs := []
  rk := .ret [(.st 8), .b]
  rs := [.cell 2 (some 15), .tmp 3]
  body := .seq (.region [(none, .box 1 (.tmp 0)),
 (none, .alloc 2 [.nil, .int .i64 0, .int .i64 0, .int .i64 0, .int .i64 0, .int .i64 0, .int .i64 0, .int .i64 0, .int .i64 0, .int .i64 0, .int .i64 0, .nil, .nil, .nil, .nil]),
 (none, .nils [(.cell 2 0, .i), (.cell 2 11, (.st 2)), (.cell 2 12, (.st 7)), (.cell 2 13, .i), (.cell 2 14, .i)]),
 (none, .as 3 (.k (.bool false)))] [1, 2]) (.seq (.seq (.region [(none, .ld 9 (some 9) (.tmp 1)),
 (none, .call 10 gf_spec_RulesOk [] rfl [(.tmp 9)]),
 (none, .un 11 .not (.tmp 10))] [1, 2, 11]) (.cond 11 [2] [1, 2] (.seq (.region [(none, .build 12 [.nil, .int .i64 0, .int .i64 0, .int .i64 0, .int .i64 0, .int .i64 0, .int .i64 0, .int .i64 0, .int .i64 0, .int .i64 0, .int .i64 0, .nil, .nil, .nil, .nil] []),
 (none, .nils [(.tmp 12 0, .i), (.tmp 12 11, (.st 2)), (.tmp 12 12, (.st 7)), (.tmp 12 13, .i), (.tmp 12 14, .i)]),
 (none, .st 15 (.tmp 2) (.tmp 12)),
 (none, .as 3 (.k (.bool false)))] [2, 3]) (.ret)) (.skip))) (.seq (.region [(none, .ld 13 (some 9) (.tmp 1)),
 (none, .call 14 gf_spec_l5Copy [] rfl [(.tmp 13)]),
 (none, .build 15 [.nil, .int .i64 0, .int .i64 0, .int .i64 0, .int .i64 0, .int .i64 0, .int .i64 0, .int .i64 0, .int .i64 0, .int .i64 0, .int .i64 0, .nil, .nil, .nil, .nil] [(0, 9, (.tmp 14)), (10, 1, (.k (.int .i64 1)))]),
 (none, .nils [(.tmp 15 11, (.st 2)), (.tmp 15 12, (.st 7)), (.tmp 15 13, .i), (.tmp 15 14, .i)]),
 (none, .alloc 4 [.nil, .int .i64 0, .int .i64 0, .int .i64 0, .int .i64 0, .int .i64 0, .int .i64 0, .int .i64 0, .int .i64 0, .int .i64 0, .int .i64 0, .nil, .nil, .nil, .nil]),
 (none, .nils [(.cell 4 0, .i), (.cell 4 11, (.st 2)), (.cell 4 12, (.st 7)), (.cell 4 13, .i), (.cell 4 14, .i)]),
 (none, .st 15 (.tmp 4) (.tmp 15))] [1, 2, 4]) (.join [(true, 4, .one, [.val (.st 8) none])] (.seq (.region [(none, .as 5 (.k (.int .i64 0)))] [1, 2, 4, 5]) (.block 0 (.loop [(false, 5, .one, [.val .i none]), (true, 4, .one, [.val (.st 8) none])] (.seq (.seq (.region [(none, .mv 16 (.tmp 5)),
 (none, .fa 17 0 (.tmp 1)),
 (none, .ld 18 none (.tmp 17)),
 (none, .len 19 (.tmp 18)),
 (none, .bin 20 .num .lss (.tmp 16) (.tmp 19))] [1, 2, 4, 5, 20]) (.cond 20 [1, 2, 4, 5] [1, 2, 4] (.skip) (.exit 0))) (.seq (.block 1 (.seq (.region [(none, .fa 24 0 (.tmp 1)),
 (none, .ld 25 none (.tmp 24)),
 (none, .mv 26 (.tmp 5)),
 (none, .ia 27 .i (.tmp 25) (.tmp 26)),
 (none, .ld 28 none (.tmp 27)),
 (none, .call 29 gf_spec_CabinNew [] rfl [(.tmp 28)]),
 (none, .mv 23 (.tmp 29)),
 (none, .ext 30 (.tmp 23) 0),
 (none, .ext 31 (.tmp 23) 1),
 (none, .alloc 6 [.int .i64 0, .int .i64 0, .int .i64 0, .int .i64 0, .int .i64 0, .nil, .nil]),
 (none, .nils [(.cell 6 5, (.st 4)), (.cell 6 6, (.l (.st 5)))]),
 (none, .st 7 (.tmp 6) (.tmp 30)),
 (none, .as 7 (.tmp 31))] [1, 2, 4, 5, 6]) (.region [(none, .fa 32 12 (.tmp 4)),
 (none, .ld 33 none (.tmp 32)),
 (none, .ld 34 (some 7) (.tmp 6)),
 (none, .bslice 35 1 (.st 7) [(0, (.tmp 34))]),
 (none, .app 36 (.st 7) false (.tmp 33) (.tmp 35)),
 (none, .fa 37 12 (.tmp 4)),
 (none, .st 1 (.tmp 37) (.tmp 36))] [1, 2, 4, 5]))) (.region [(none, .mv 21 (.tmp 5)),
 (none, .bin 22 .num .add (.tmp 21) (.k (.int .i64 1))),
 (none, .as 5 (.tmp 22))] [1, 2, 4, 5])))))) (.join [(true, 4, .one, [.val (.st 8) none])] (.seq (.region [(none, .as 8 (.k (.int .i64 0)))] [1, 2, 4, 8]) (.block 2 (.loop [(false, 8, .one, [.val .i none]), (true, 4, .one, [.val (.st 8) none])] (.seq (.seq (.region [(none, .mv 38 (.tmp 8)),
 (none, .fa 39 8 (.tmp 1)),
 (none, .ld 40 none (.tmp 39)),
 (none, .bin 41 .num .lss (.tmp 38) (.tmp 40))] [1, 2, 4, 8, 41]) (.cond 41 [1, 2, 4, 8] [2, 4] (.skip) (.exit 2))) (.seq (.block 3 (.region [(none, .fa 44 14 (.tmp 4)),
 (none, .ld 45 none (.tmp 44)),
 (none, .bslice 46 1 .i [(0, (.k (.int .i64 (-1))))]),
 (none, .app 47 .i true (.tmp 45) (.tmp 46)),
 (none, .fa 48 14 (.tmp 4)),
 (none, .st 1 (.tmp 48) (.tmp 47))] [1, 2, 4, 8])) (.region [(none, .mv 42 (.tmp 8)),
 (none, .bin 43 .num .add (.tmp 42) (.k (.int .i64 1))),
 (none, .as 8 (.tmp 43))] [1, 2, 4, 8])))))) (.seq (.region [(none, .ld 49 (some 15) (.tmp 4)),
 (none, .st 15 (.tmp 2) (.tmp 49)),
 (none, .as 3 (.k (.bool true)))] [2, 3]) (.ret))))))
noncomputable def d_spec_HouseNew_j4 (v12 : GHouse) : Option (GHouse × Bool) :=
  some (v12, true)
noncomputable def d_spec_HouseNew_l3 (p0 : GRules) (L9 : (Int × GHouse) → Option (GHouse × Bool)) (x_ : (Int × GHouse)) : Option (GHouse × Bool) :=
  match x_ with
  | (v10, v11) => br (decide (v10 < p0.Crew))
    (gd (v11.Jobs.length + [-1].length ≤ lim) (
    L9 ((w64 (v10 + 1), GHouse.mk v11.Rules v11.Now v11.Turn v11.Parties v11.Cabins v11.Todo (v11.Jobs ++ [-1])))))
    (jn (d_spec_HouseNew_j4) v11)
noncomputable def d_spec_HouseNew_j2 (p0 : GRules) (v8 : GHouse) : Option (GHouse × Bool) :=
  loopN (d_spec_HouseNew_l3 p0) big (0, v8)
noncomputable def d_spec_HouseNew_l1 (p0 : GRules) (L3 : (Int × GHouse) → Option (GHouse × Bool)) (x_ : (Int × GHouse)) : Option (GHouse × Bool) :=
  match x_ with
  | (v4, v5) => br (decide (v4 < (↑p0.Seats.length : Int)))
    (bd (at? p0.Seats v4) fun x6 =>
    bd (d_spec_CabinNew x6) fun x7 =>
    gd (v5.Cabins.length + [x7.fst].length ≤ lim) (
    L3 ((w64 (v4 + 1), GHouse.mk v5.Rules v5.Now v5.Turn v5.Parties (v5.Cabins ++ [x7.fst]) v5.Todo v5.Jobs))))
    (jn (d_spec_HouseNew_j2 p0) v5)
noncomputable def d_spec_HouseNew (p0 : GRules) : Option (GHouse × Bool) :=
  bd (d_spec_RulesOk p0) fun x1 =>
  br (!x1)
    (some ((GHouse.mk (GRules.mk [] 0 0 0 0 0 0 0 0) 0 0 [] [] [] [], false)))
    (bd (d_spec_l5Copy p0) fun x2 =>
    loopN (d_spec_HouseNew_l1 p0) big (0, GHouse.mk x2 0 1 [] [] [] []))
noncomputable def gf_spec_HouseNew : GF := y_spec_HouseNew.gf rfl rfl (fun a => d_spec_HouseNew a.1) (fun a => by kernel_rfl)
noncomputable def y_spec_l1Once : Y.YF where
  R := []
  ps := [.b (.st 17), .v .i]
  fs := []
  rk := .ret [.b]
  rs := [.tmp 4]
  body := .seq (.region [(none, .as 4 (.k (.bool false)))] [0, 1]) (.seq (.region [(none, .mv 5 (.tmp 0)),
 (none, .mv 6 (.tmp 1)),
 (none, .call 7 gf_spec_l1Below [] rfl [(.tmp 5), (.tmp 6)]),
 (none, .bin 8 .num .eql (.tmp 7) (.k (.int .i64 0))),
 (none, .as 4 (.tmp 8))] [0, 4]) (.ret))
noncomputable def d_spec_l1Once (p0 : Gl1Cur) (p1 : Int) : Option (Bool × Gl1Cur) :=
  bd (d_spec_l1Below p0 p1) fun x1 =>
  some (x1.fst == 0, x1.snd)
noncomputable def gf_spec_l1Once : GF := y_spec_l1Once.gf rfl rfl (fun a => d_spec_l1Once a.1 a.2.1) (fun a => by kernel_rfl)
noncomputable def y_spec_l6Right : Y.YF where
  R := []
  ps := [.b (.st 17), .v (.st 1), .v .i]
  fs := []
  rk := .ret [(.st 2)]
  rs := [.cell 6 (some 10)]
  body := .seq (.region [(none, .box 4 (.tmp 1)),
 (none, .alloc 6 [.int .i64 0, .int .i64 0, .int .i64 0, .int .i64 0, .int .i64 0, .int .i64 0, .int .i64 0, .int .i64 0, .int .i64 0, .int .i64 0])] [0, 2, 4, 6]) (.seq (.dreg (.op 0 none [] (.mv 8 (.tmp 0))
 (.op 3 none [] (.mv 11 (.tmp 0))
 (.op 4 none [] (.fa 12 0 (.tmp 4))
 (.op 5 none [] (.ld 13 none (.tmp 12))
 (.op 6 none [] (.len 14 (.tmp 13))
 (.op 8 none [] (.mv 16 (.tmp 0))
 (.op 9 none [] (.fa 17 3 (.tmp 4))
 (.op 10 none [] (.ld 18 none (.tmp 17))
 (.op 13 none [] (.mv 21 (.tmp 0))
 (.op 14 none [] (.fa 22 1 (.tmp 4))
 (.op 15 none [] (.ld 23 none (.tmp 22))
 (.op 17 none [] (.mv 25 (.tmp 0))
 (.op 20 none [] (.mv 28 (.tmp 0))
 (.op 21 none [] (.fa 29 7 (.tmp 4))
 (.op 22 none [] (.ld 30 none (.tmp 29))
 (.both 0 (.op 1 none [12, 17, 22, 29] (.call 9 gf_spec_l1Below [] rfl [(.tmp 8), (.k (.int .i64 12))])
 (.op 2 none [] (.bin 10 .num .add (.k (.int .i64 1)) (.tmp 9))
 (.both 0 (.op 7 none [17, 22, 29] (.call 15 gf_spec_l1Below [] rfl [(.tmp 11), (.tmp 14)])
 (.both 0 (.op 11 none [22, 29] (.call 19 gf_spec_l1Below [] rfl [(.tmp 16), (.tmp 18)])
 (.op 12 none [] (.bin 20 .num .add (.k (.int .i64 1)) (.tmp 19))
 (.both 0 (.op 16 none [29] (.call 24 gf_spec_l1Below [] rfl [(.tmp 21), (.tmp 23)])
 (.both 0 (.op 18 none [29] (.call 26 gf_spec_l1Below [] rfl [(.tmp 25), (.k (.int .i64 40))])
 (.op 19 none [] (.bin 27 .num .add (.k (.int .i64 1)) (.tmp 26))
 (.both 0 (.op 23 none [] (.call 31 gf_spec_l1Below [] rfl [(.tmp 28), (.tmp 30)])
 (.op 24 none [] (.build 32 [.int .i64 0, .int .i64 0, .int .i64 0, .int .i64 0, .int .i64 0, .int .i64 0, .int .i64 0, .int .i64 0, .int .i64 0, .int .i64 0] [(0, 1, (.tmp 10)), (1, 1, (.tmp 15)), (2, 1, (.k (.int .i64 (-1)))), (3, 1, (.tmp 20)), (4, 1, (.tmp 24)), (6, 1, (.tmp 27)), (7, 1, (.k (.int .i64 1))), (9, 1, (.tmp 31))])
 (.op 25 none [12, 17, 22, 29] (.alloc 7 [.int .i64 0, .int .i64 0, .int .i64 0, .int .i64 0, .int .i64 0, .int .i64 0, .int .i64 0, .int .i64 0, .int .i64 0, .int .i64 0])
 (.op 26 none [] (.st 10 (.tmp 7) (.tmp 32))
 .nil)))) (.op 25 none [12, 17, 22, 29] (.alloc 7 [.int .i64 0, .int .i64 0, .int .i64 0, .int .i64 0, .int .i64 0, .int .i64 0, .int .i64 0, .int .i64 0, .int .i64 0, .int .i64 0])
 (.op 23 none [] (.call 31 gf_spec_l1Below [] rfl [(.tmp 28), (.tmp 30)])
 (.op 24 none [] (.build 32 [.int .i64 0, .int .i64 0, .int .i64 0, .int .i64 0, .int .i64 0, .int .i64 0, .int .i64 0, .int .i64 0, .int .i64 0, .int .i64 0] [(0, 1, (.tmp 10)), (1, 1, (.tmp 15)), (2, 1, (.k (.int .i64 (-1)))), (3, 1, (.tmp 20)), (4, 1, (.tmp 24)), (6, 1, (.tmp 27)), (7, 1, (.k (.int .i64 1))), (9, 1, (.tmp 31))])
 (.op 26 none [] (.st 10 (.tmp 7) (.tmp 32))
 .nil))))))) (.op 25 none [12, 17, 22, 29] (.alloc 7 [.int .i64 0, .int .i64 0, .int .i64 0, .int .i64 0, .int .i64 0, .int .i64 0, .int .i64 0, .int .i64 0, .int .i64 0, .int .i64 0])
 (.op 18 none [29] (.call 26 gf_spec_l1Below [] rfl [(.tmp 25), (.k (.int .i64 40))])
 (.op 19 none [] (.bin 27 .num .add (.k (.int .i64 1)) (.tmp 26))
 (.op 23 none [] (.call 31 gf_spec_l1Below [] rfl [(.tmp 28), (.tmp 30)])
 (.op 24 none [] (.build 32 [.int .i64 0, .int .i64 0, .int .i64 0, .int .i64 0, .int .i64 0, .int .i64 0, .int .i64 0, .int .i64 0, .int .i64 0, .int .i64 0] [(0, 1, (.tmp 10)), (1, 1, (.tmp 15)), (2, 1, (.k (.int .i64 (-1)))), (3, 1, (.tmp 20)), (4, 1, (.tmp 24)), (6, 1, (.tmp 27)), (7, 1, (.k (.int .i64 1))), (9, 1, (.tmp 31))])
 (.op 26 none [] (.st 10 (.tmp 7) (.tmp 32))
 .nil)))))))) (.op 25 none [12, 17, 22, 29] (.alloc 7 [.int .i64 0, .int .i64 0, .int .i64 0, .int .i64 0, .int .i64 0, .int .i64 0, .int .i64 0, .int .i64 0, .int .i64 0, .int .i64 0])
 (.op 16 none [29] (.call 24 gf_spec_l1Below [] rfl [(.tmp 21), (.tmp 23)])
 (.op 18 none [29] (.call 26 gf_spec_l1Below [] rfl [(.tmp 25), (.k (.int .i64 40))])
 (.op 19 none [] (.bin 27 .num .add (.k (.int .i64 1)) (.tmp 26))
 (.op 23 none [] (.call 31 gf_spec_l1Below [] rfl [(.tmp 28), (.tmp 30)])
 (.op 24 none [] (.build 32 [.int .i64 0, .int .i64 0, .int .i64 0, .int .i64 0, .int .i64 0, .int .i64 0, .int .i64 0, .int .i64 0, .int .i64 0, .int .i64 0] [(0, 1, (.tmp 10)), (1, 1, (.tmp 15)), (2, 1, (.k (.int .i64 (-1)))), (3, 1, (.tmp 20)), (4, 1, (.tmp 24)), (6, 1, (.tmp 27)), (7, 1, (.k (.int .i64 1))), (9, 1, (.tmp 31))])
 (.op 26 none [] (.st 10 (.tmp 7) (.tmp 32))
 .nil)))))))))) (.op 25 none [12, 17, 22, 29] (.alloc 7 [.int .i64 0, .int .i64 0, .int .i64 0, .int .i64 0, .int .i64 0, .int .i64 0, .int .i64 0, .int .i64 0, .int .i64 0, .int .i64 0])
 (.op 11 none [22, 29] (.call 19 gf_spec_l1Below [] rfl [(.tmp 16), (.tmp 18)])
 (.op 12 none [] (.bin 20 .num .add (.k (.int .i64 1)) (.tmp 19))
 (.op 16 none [29] (.call 24 gf_spec_l1Below [] rfl [(.tmp 21), (.tmp 23)])
 (.op 18 none [29] (.call 26 gf_spec_l1Below [] rfl [(.tmp 25), (.k (.int .i64 40))])
 (.op 19 none [] (.bin 27 .num .add (.k (.int .i64 1)) (.tmp 26))
 (.op 23 none [] (.call 31 gf_spec_l1Below [] rfl [(.tmp 28), (.tmp 30)])
 (.op 24 none [] (.build 32 [.int .i64 0, .int .i64 0, .int .i64 0, .int .i64 0, .int .i64 0, .int .i64 0, .int .i64 0, .int .i64 0, .int .i64 0, .int .i64 0] [(0, 1, (.tmp 10)), (1, 1, (.tmp 15)), (2, 1, (.k (.int .i64 (-1)))), (3, 1, (.tmp 20)), (4, 1, (.tmp 24)), (6, 1, (.tmp 27)), (7, 1, (.k (.int .i64 1))), (9, 1, (.tmp 31))])
 (.op 26 none [] (.st 10 (.tmp 7) (.tmp 32))
 .nil))))))))))) (.op 25 none [12, 17, 22, 29] (.alloc 7 [.int .i64 0, .int .i64 0, .int .i64 0, .int .i64 0, .int .i64 0, .int .i64 0, .int .i64 0, .int .i64 0, .int .i64 0, .int .i64 0])
 (.op 7 none [17, 22, 29] (.call 15 gf_spec_l1Below [] rfl [(.tmp 11), (.tmp 14)])
 (.op 11 none [22, 29] (.call 19 gf_spec_l1Below [] rfl [(.tmp 16), (.tmp 18)])
 (.op 12 none [] (.bin 20 .num .add (.k (.int .i64 1)) (.tmp 19))
 (.op 16 none [29] (.call 24 gf_spec_l1Below [] rfl [(.tmp 21), (.tmp 23)])
 (.op 18 none [29] (.call 26 gf_spec_l1Below [] rfl [(.tmp 25), (.k (.int .i64 40))])
 (.op 19 none [] (.bin 27 .num .add (.k (.int .i64 1)) (.tmp 26))
 (.op 23 none [] (.call 31 gf_spec_l1Below [] rfl [(.tmp 28), (.tmp 30)])
 (.op 24 none [] (.build 32 [.int .i64 0, .int .i64 0, .int .i64 0, .int .i64 0, .int .i64 0, .int .i64 0, .int .i64 0, .int .i64 0, .int .i64 0, .int .i64 0] [(0, 1, (.tmp 10)), (1, 1, (.tmp 15)), (2, 1, (.k (.int .i64 (-1)))), (3, 1, (.tmp 20)), (4, 1, (.tmp 24)), (6, 1, (.tmp 27)), (7, 1, (.k (.int .i64 1))), (9, 1, (.tmp 31))])
 (.op 26 none [] (.st 10 (.tmp 7) (.tmp 32))
 .nil))))))))))))) (.op 25 none [12, 17, 22, 29] (.alloc 7 [.int .i64 0, .int .i64 0, .int .i64 0, .int .i64 0, .int .i64 0, .int .i64 0, .int .i64 0, .int .i64 0, .int .i64 0, .int .i64 0])
 (.op 1 none [12, 17, 22, 29] (.call 9 gf_spec_l1Below [] rfl [(.tmp 8), (.k (.int .i64 12))])
 (.op 2 none [] (.bin 10 .num .add (.k (.int .i64 1)) (.tmp 9))
 (.op 7 none [17, 22, 29] (.call 15 gf_spec_l1Below [] rfl [(.tmp 11), (.tmp 14)])
 (.op 11 none [22, 29] (.call 19 gf_spec_l1Below [] rfl [(.tmp 16), (.tmp 18)])
 (.op 12 none [] (.bin 20 .num .add (.k (.int .i64 1)) (.tmp 19))
 (.op 16 none [29] (.call 24 gf_spec_l1Below [] rfl [(.tmp 21), (.tmp 23)])
 (.op 18 none [29] (.call 26 gf_spec_l1Below [] rfl [(.tmp 25), (.k (.int .i64 40))])
 (.op 19 none [] (.bin 27 .num .add (.k (.int .i64 1)) (.tmp 26))
 (.op 23 none [] (.call 31 gf_spec_l1Below [] rfl [(.tmp 28), (.tmp 30)])
 (.op 24 none [] (.build 32 [.int .i64 0, .int .i64 0, .int .i64 0, .int .i64 0, .int .i64 0, .int .i64 0, .int .i64 0, .int .i64 0, .int .i64 0, .int .i64 0] [(0, 1, (.tmp 10)), (1, 1, (.tmp 15)), (2, 1, (.k (.int .i64 (-1)))), (3, 1, (.tmp 20)), (4, 1, (.tmp 24)), (6, 1, (.tmp 27)), (7, 1, (.k (.int .i64 1))), (9, 1, (.tmp 31))])
 (.op 26 none [] (.st 10 (.tmp 7) (.tmp 32))
 .nil)))))))))))))))))))))))))))) [0, 2, 4, 6, 7]) (.join [(true, 0, .one, [.val (.st 17) (some (.old 0))]), (true, 7, .one, [.val (.st 2) none])] (.seq (.region [(none, .mv 33 (.tmp 2)),
 (none, .call 34 gf_spec_l1In [] rfl [(.tmp 33), (.k (.int .i64 0)), (.k (.int .i64 10000000))])] [0, 2, 4, 6, 7, 34]) (.cond 34 [0, 2, 4, 6, 7] [0, 4, 6, 7] (.seq (.region [(none, .mv 35 (.tmp 0)),
 (none, .mv 36 (.tmp 2)),
 (none, .bin 37 .num .add (.tmp 36) (.k (.int .i64 1))),
 (none, .call 38 gf_spec_l1Below [] rfl [(.tmp 35), (.tmp 37)]),
 (none, .fa 39 5 (.tmp 7)),
 (none, .st 1 (.tmp 39) (.tmp 38))] [0, 2, 4, 6, 7]) (.join [(true, 0, .one, [.val (.st 17) (some (.old 0))]), (true, 7, .one, [.val (.st 2) none])] (.seq (.region [(none, .mv 40 (.tmp 0)),
 (none, .call 41 gf_spec_l1Once [] rfl [(.tmp 40), (.k (.int .i64 3))])] [0, 2, 4, 6, 7, 41]) (.cond 41 [0, 2, 4, 6, 7] [0, 2, 4, 6, 7] (.region [(none, .mv 42 (.tmp 0)),
 (none, .mv 43 (.tmp 2)),
 (none, .fa 44 6 (.tmp 4)),
 (none, .ld 45 none (.tmp 44)),
 (none, .bin 46 .num .add (.tmp 43) (.tmp 45)),
 (none, .bin 47 .num .add (.tmp 46) (.k (.int .i64 1))),
 (none, .call 48 gf_spec_l1Below [] rfl [(.tmp 42), (.tmp 47)]),
 (none, .fa 49 8 (.tmp 7)),
 (none, .st 1 (.tmp 49) (.tmp 48))] [0, 2, 4, 6, 7]) (.skip))) (.seq (.region [(none, .mv 50 (.tmp 0)),
 (none, .call 51 gf_spec_l1Once [] rfl [(.tmp 50), (.k (.int .i64 3))])] [0, 2, 4, 6, 7, 51]) (.cond 51 [0, 2, 4, 6, 7] [0, 4, 6, 7] (.seq (.region [(none, .fa 52 7 (.tmp 7)),
 (none, .st 1 (.tmp 52) (.k (.int .i64 2)))] [0, 2, 4, 6, 7]) (.region [(none, .mv 53 (.tmp 0)),
 (none, .mv 54 (.tmp 2)),
 (none, .fa 55 5 (.tmp 4)),
 (none, .ld 56 none (.tmp 55)),
 (none, .bin 57 .num .add (.tmp 54) (.tmp 56)),
 (none, .call 58 gf_spec_l1Below [] rfl [(.tmp 53), (.tmp 57)]),
 (none, .bin 59 .num .add (.k (.int .i64 1)) (.tmp 58)),
 (none, .fa 60 8 (.tmp 7)),
 (none, .st 1 (.tmp 60) (.tmp 59))] [0, 4, 6, 7])) (.skip))))) (.skip))) (.join [(true, 0, .one, [.val (.st 17) (some (.old 0))]), (true, 7, .one, [.val (.st 2) none])] (.seq (.region [(none, .mv 61 (.tmp 0)),
 (none, .call 62 gf_spec_l1Once [] rfl [(.tmp 61), (.k (.int .i64 4))])] [0, 4, 6, 7, 62]) (.cond 62 [0, 4, 6, 7] [0, 6, 7] (.region [(none, .mv 63 (.tmp 0)),
 (none, .fa 64 0 (.tmp 4)),
 (none, .ld 65 none (.tmp 64)),
 (none, .len 66 (.tmp 65)),
 (none, .call 67 gf_spec_l1Below [] rfl [(.tmp 63), (.tmp 66)]),
 (none, .fa 68 2 (.tmp 7)),
 (none, .st 1 (.tmp 68) (.tmp 67))] [0, 6, 7]) (.skip))) (.seq (.region [(none, .ld 69 (some 10) (.tmp 7)),
 (none, .st 10 (.tmp 6) (.tmp 69))] [0, 6]) (.ret)))))
noncomputable def d_spec_l6Right_j3 (x_ : (Gl1Cur × GParty)) : Option (GParty × Gl1Cur) :=
  match x_ with
  | (v40, v41) => some (v41, v40)
noncomputable def d_spec_l6Right_j2 (p1 : GRules) (x_ : (Gl1Cur × GParty)) : Option (GParty × Gl1Cur) :=
  match x_ with
  | (v36, v37) => bd (d_spec_l1Once v36 4) fun x38 =>
  br x38.fst
    (bd (d_spec_l1Below x38.snd (↑p1.Seats.length : Int)) fun x39 =>
    jn (d_spec_l6Right_j3) (x39.snd, GParty.mk v37.Id v37.Cabin x39.fst v37.Size v37.Tier v37.Since v37.Turn v37.State v37.Until v37.Asked))
    (jn (d_spec_l6Right_j3) (x38.snd, v37))
noncomputable def d_spec_l6Right_j1 (p1 : GRules) (p2 : Int) (x_ : (Gl1Cur × GParty)) : Option (GParty × Gl1Cur) :=
  match x_ with
  | (v32, v33) => bd (d_spec_l1Once v32 3) fun x34 =>
  br x34.fst
    (bd (d_spec_l1Below x34.snd (w64 (p2 + p1.Window))) fun x35 =>
    jn (d_spec_l6Right_j2 p1) ((x35.snd, GParty.mk v33.Id v33.Cabin v33.From v33.Size v33.Tier v33.Since v33.Turn 2 (w64 (1 + x35.fst)) v33.Asked)))
    (jn (d_spec_l6Right_j2 p1) (x34.snd, v33))
noncomputable def d_spec_l6Right (p0 : Gl1Cur) (p1 : GRules) (p2 : Int) : Option (GParty × Gl1Cur) :=
  bd (d_spec_l1Below p0 12) fun x1 =>
  bd (d_spec_l1Below x1.snd (↑p1.Seats.length : Int)) fun x2 =>
  bd (d_spec_l1Below x2.snd p1.Size) fun x3 =>
  bd (d_spec_l1Below x3.snd p1.Tiers) fun x4 =>
  bd (d_spec_l1Below x4.snd 40) fun x5 =>
  bd (d_spec_l1Below x5.snd p1.Tries) fun x6 =>
  bd (d_spec_l1Below x5.snd p1.Tries) fun x7 =>
  eqv x6.fst x7.fst (
  eqv (w64 (1 + x1.fst)) (w64 (1 + x1.fst)) (
  eqv x2.fst x2.fst (
  eqv (α := Int) (-1) (-1) (
  eqv (w64 (1 + x3.fst)) (w64 (1 + x3.fst)) (
  eqv x4.fst x4.fst (
  eqv (α := Int) 0 0 (
  eqv (w64 (1 + x5.fst)) (w64 (1 + x5.fst)) (
  eqv (α := Int) 1 1 (
  eqv (α := Int) 0 0 (
  eqv x6.fst x7.fst (
  eqv x6.snd.b_ x7.snd.b_ (
  eqv x6.snd.i_ x7.snd.i_ (
  eqv x6.snd.h_ x7.snd.h_ (
  eqv (w64 (1 + x1.fst)) (w64 (1 + x1.fst)) (
  eqv x2.fst x2.fst (
  eqv (α := Int) (-1) (-1) (
  eqv (w64 (1 + x3.fst)) (w64 (1 + x3.fst)) (
  eqv x4.fst x4.fst (
  eqv (α := Int) 0 0 (
  eqv (w64 (1 + x5.fst)) (w64 (1 + x5.fst)) (
  eqv (α := Int) 1 1 (
  eqv (α := Int) 0 0 (
  eqv x6.fst x7.fst (
  bd (d_spec_l1Below x4.snd 40) fun x8 =>
  bd (d_spec_l1Below x8.snd p1.Tries) fun x9 =>
  eqv x5.fst x8.fst (
  eqv (w64 (1 + x5.fst)) (w64 (1 + x8.fst)) (
  eqv x6.fst x9.fst (
  eqv (w64 (1 + x1.fst)) (w64 (1 + x1.fst)) (
  eqv x2.fst x2.fst (
  eqv (α := Int) (-1) (-1) (
  eqv (w64 (1 + x3.fst)) (w64 (1 + x3.fst)) (
  eqv x4.fst x4.fst (
  eqv (α := Int) 0 0 (
  eqv (w64 (1 + x5.fst)) (w64 (1 + x8.fst)) (
  eqv (α := Int) 1 1 (
  eqv (α := Int) 0 0 (
  eqv x6.fst x9.fst (
  eqv x6.snd.b_ x9.snd.b_ (
  eqv x6.snd.i_ x9.snd.i_ (
  eqv x6.snd.h_ x9.snd.h_ (
  eqv (w64 (1 + x1.fst)) (w64 (1 + x1.fst)) (
  eqv x2.fst x2.fst (
  eqv (α := Int) (-1) (-1) (
  eqv (w64 (1 + x3.fst)) (w64 (1 + x3.fst)) (
  eqv x4.fst x4.fst (
  eqv (α := Int) 0 0 (
  eqv (w64 (1 + x5.fst)) (w64 (1 + x8.fst)) (
  eqv (α := Int) 1 1 (
  eqv (α := Int) 0 0 (
  eqv x6.fst x9.fst (
  bd (d_spec_l1Below x3.snd p1.Tiers) fun x10 =>
  bd (d_spec_l1Below x10.snd 40) fun x11 =>
  bd (d_spec_l1Below x11.snd p1.Tries) fun x12 =>
  eqv x4.fst x10.fst (
  eqv x5.fst x11.fst (
  eqv (w64 (1 + x5.fst)) (w64 (1 + x11.fst)) (
  eqv x6.fst x12.fst (
  eqv (w64 (1 + x1.fst)) (w64 (1 + x1.fst)) (
  eqv x2.fst x2.fst (
  eqv (α := Int) (-1) (-1) (
  eqv (w64 (1 + x3.fst)) (w64 (1 + x3.fst)) (
  eqv x4.fst x10.fst (
  eqv (α := Int) 0 0 (
  eqv (w64 (1 + x5.fst)) (w64 (1 + x11.fst)) (
  eqv (α := Int) 1 1 (
  eqv (α := Int) 0 0 (
  eqv x6.fst x12.fst (
  eqv x6.snd.b_ x12.snd.b_ (
  eqv x6.snd.i_ x12.snd.i_ (
  eqv x6.snd.h_ x12.snd.h_ (
  eqv (w64 (1 + x1.fst)) (w64 (1 + x1.fst)) (
  eqv x2.fst x2.fst (
  eqv (α := Int) (-1) (-1) (
  eqv (w64 (1 + x3.fst)) (w64 (1 + x3.fst)) (
  eqv x4.fst x10.fst (
  eqv (α := Int) 0 0 (
  eqv (w64 (1 + x5.fst)) (w64 (1 + x11.fst)) (
  eqv (α := Int) 1 1 (
  eqv (α := Int) 0 0 (
  eqv x6.fst x12.fst (
  bd (d_spec_l1Below x2.snd p1.Size) fun x13 =>
  bd (d_spec_l1Below x13.snd p1.Tiers) fun x14 =>
  bd (d_spec_l1Below x14.snd 40) fun x15 =>
  bd (d_spec_l1Below x15.snd p1.Tries) fun x16 =>
  eqv x3.fst x13.fst (
  eqv (w64 (1 + x3.fst)) (w64 (1 + x13.fst)) (
  eqv x4.fst x14.fst (
  eqv x5.fst x15.fst (
  eqv (w64 (1 + x5.fst)) (w64 (1 + x15.fst)) (
  eqv x6.fst x16.fst (
  eqv (w64 (1 + x1.fst)) (w64 (1 + x1.fst)) (
  eqv x2.fst x2.fst (
  eqv (α := Int) (-1) (-1) (
  eqv (w64 (1 + x3.fst)) (w64 (1 + x13.fst)) (
  eqv x4.fst x14.fst (
  eqv (α := Int) 0 0 (
  eqv (w64 (1 + x5.fst)) (w64 (1 + x15.fst)) (
  eqv (α := Int) 1 1 (
  eqv (α := Int) 0 0 (
  eqv x6.fst x16.fst (
  eqv x6.snd.b_ x16.snd.b_ (
  eqv x6.snd.i_ x16.snd.i_ (
  eqv x6.snd.h_ x16.snd.h_ (
  eqv (w64 (1 + x1.fst)) (w64 (1 + x1.fst)) (
  eqv x2.fst x2.fst (
  eqv (α := Int) (-1) (-1) (
  eqv (w64 (1 + x3.fst)) (w64 (1 + x13.fst)) (
  eqv x4.fst x14.fst (
  eqv (α := Int) 0 0 (
  eqv (w64 (1 + x5.fst)) (w64 (1 + x15.fst)) (
  eqv (α := Int) 1 1 (
  eqv (α := Int) 0 0 (
  eqv x6.fst x16.fst (
  bd (d_spec_l1Below x1.snd (↑p1.Seats.length : Int)) fun x17 =>
  bd (d_spec_l1Below x17.snd p1.Size) fun x18 =>
  bd (d_spec_l1Below x18.snd p1.Tiers) fun x19 =>
  bd (d_spec_l1Below x19.snd 40) fun x20 =>
  bd (d_spec_l1Below x20.snd p1.Tries) fun x21 =>
  eqv x2.fst x17.fst (
  eqv x3.fst x18.fst (
  eqv (w64 (1 + x3.fst)) (w64 (1 + x18.fst)) (
  eqv x4.fst x19.fst (
  eqv x5.fst x20.fst (
  eqv (w64 (1 + x5.fst)) (w64 (1 + x20.fst)) (
  eqv x6.fst x21.fst (
  eqv (w64 (1 + x1.fst)) (w64 (1 + x1.fst)) (
  eqv x2.fst x17.fst (
  eqv (α := Int) (-1) (-1) (
  eqv (w64 (1 + x3.fst)) (w64 (1 + x18.fst)) (
  eqv x4.fst x19.fst (
  eqv (α := Int) 0 0 (
  eqv (w64 (1 + x5.fst)) (w64 (1 + x20.fst)) (
  eqv (α := Int) 1 1 (
  eqv (α := Int) 0 0 (
  eqv x6.fst x21.fst (
  eqv x6.snd.b_ x21.snd.b_ (
  eqv x6.snd.i_ x21.snd.i_ (
  eqv x6.snd.h_ x21.snd.h_ (
  eqv (w64 (1 + x1.fst)) (w64 (1 + x1.fst)) (
  eqv x2.fst x17.fst (
  eqv (α := Int) (-1) (-1) (
  eqv (w64 (1 + x3.fst)) (w64 (1 + x18.fst)) (
  eqv x4.fst x19.fst (
  eqv (α := Int) 0 0 (
  eqv (w64 (1 + x5.fst)) (w64 (1 + x20.fst)) (
  eqv (α := Int) 1 1 (
  eqv (α := Int) 0 0 (
  eqv x6.fst x21.fst (
  bd (d_spec_l1Below p0 12) fun x22 =>
  bd (d_spec_l1Below x22.snd (↑p1.Seats.length : Int)) fun x23 =>
  bd (d_spec_l1Below x23.snd p1.Size) fun x24 =>
  bd (d_spec_l1Below x24.snd p1.Tiers) fun x25 =>
  bd (d_spec_l1Below x25.snd 40) fun x26 =>
  bd (d_spec_l1Below x26.snd p1.Tries) fun x27 =>
  eqv x1.fst x22.fst (
  eqv (w64 (1 + x1.fst)) (w64 (1 + x22.fst)) (
  eqv x2.fst x23.fst (
  eqv x3.fst x24.fst (
  eqv (w64 (1 + x3.fst)) (w64 (1 + x24.fst)) (
  eqv x4.fst x25.fst (
  eqv x5.fst x26.fst (
  eqv (w64 (1 + x5.fst)) (w64 (1 + x26.fst)) (
  eqv x6.fst x27.fst (
  eqv (w64 (1 + x1.fst)) (w64 (1 + x22.fst)) (
  eqv x2.fst x23.fst (
  eqv (α := Int) (-1) (-1) (
  eqv (w64 (1 + x3.fst)) (w64 (1 + x24.fst)) (
  eqv x4.fst x25.fst (
  eqv (α := Int) 0 0 (
  eqv (w64 (1 + x5.fst)) (w64 (1 + x26.fst)) (
  eqv (α := Int) 1 1 (
  eqv (α := Int) 0 0 (
  eqv x6.fst x27.fst (
  eqv x6.snd.b_ x27.snd.b_ (
  eqv x6.snd.i_ x27.snd.i_ (
  eqv x6.snd.h_ x27.snd.h_ (
  eqv (w64 (1 + x1.fst)) (w64 (1 + x22.fst)) (
  eqv x2.fst x23.fst (
  eqv (α := Int) (-1) (-1) (
  eqv (w64 (1 + x3.fst)) (w64 (1 + x24.fst)) (
  eqv x4.fst x25.fst (
  eqv (α := Int) 0 0 (
  eqv (w64 (1 + x5.fst)) (w64 (1 + x26.fst)) (
  eqv (α := Int) 1 1 (
  eqv (α := Int) 0 0 (
  eqv x6.fst x27.fst (
  bd (d_spec_l1In p2 0 10000000) fun x28 =>
  br x28
    (bd (d_spec_l1Below x6.snd (w64 (p2 + 1))) fun x29 =>
    bd (d_spec_l1Once x29.snd 3) fun x30 =>
    br x30.fst
      (bd (d_spec_l1Below x30.snd (w64 (w64 (p2 + p1.Rest) + 1))) fun x31 =>
      jn (d_spec_l6Right_j1 p1 p2) ((x31.snd, GParty.mk (w64 (1 + x1.fst)) x2.fst (-1) (w64 (1 + x3.fst)) x4.fst x29.fst (w64 (1 + x5.fst)) 1 x31.fst x6.fst)))
      (jn (d_spec_l6Right_j1 p1 p2) ((x30.snd, GParty.mk (w64 (1 + x1.fst)) x2.fst (-1) (w64 (1 + x3.fst)) x4.fst x29.fst (w64 (1 + x5.fst)) 1 0 x6.fst))))
    (jn (d_spec_l6Right_j2 p1) ((x6.snd, GParty.mk (w64 (1 + x1.fst)) x2.fst (-1) (w64 (1 + x3.fst)) x4.fst 0 (w64 (1 + x5.fst)) 1 0 x6.fst)))))))))))))))))))))))))))))))))))))))))))))))))))))))))))))))))))))))))))))))))))))))))))))))))))))))))))))))))))))))))))))))))))))))))))))))))))))))))))))))))))))))))))
noncomputable def gf_spec_l6Right : GF := y_spec_l6Right.gf rfl rfl (fun a => d_spec_l6Right a.1 a.2.1 a.2.2.1) (fun a => by kernel_rfl)
noncomputable def y_spec_l11At : Y.YF where
  R := []
  ps := [.v (.l (.st 2)), .v .i]
  fs := []
  rk := .ret [.i]
  rs := [.tmp 4]
  body := .seq (.region [(none, .as 4 (.k (.int .i64 0)))] [0, 1]) (.join [] (.seq (.region [(none, .as 5 (.k (.int .i64 0)))] [0, 1, 5]) (.block 0 (.loop [(false, 5, .one, [.val .i none])] (.seq (.seq (.region [(none, .mv 6 (.tmp 5)),
 (none, .mv 7 (.tmp 0)),
 (none, .len 8 (.tmp 7)),
 (none, .bin 9 .num .lss (.tmp 6) (.tmp 8))] [0, 1, 5, 9]) (.cond 9 [0, 1, 5] [] (.skip) (.exit 0))) (.seq (.block 1 (.seq (.region [(none, .mv 12 (.tmp 0)),
 (none, .mv 13 (.tmp 5)),
 (none, .ia 14 (.st 2) (.tmp 12) (.tmp 13)),
 (none, .fa 15 0 (.tmp 14)),
 (none, .ld 16 none (.tmp 15)),
 (none, .mv 17 (.tmp 1)),
 (none, .bin 18 .num .eql (.tmp 16) (.tmp 17))] [0, 1, 5, 18]) (.cond 18 [5] [0, 1, 5] (.seq (.region [(none, .mv 19 (.tmp 5)),
 (none, .as 4 (.tmp 19))] [4]) (.ret)) (.skip)))) (.region [(none, .mv 10 (.tmp 5)),
 (none, .bin 11 .num .add (.tmp 10) (.k (.int .i64 1))),
 (none, .as 5 (.tmp 11))] [0, 1, 5])))))) (.seq (.region [(none, .as 4 (.k (.int .i64 (-1))))] [4]) (.ret)))
noncomputable def d_spec_l11At_j2 (_ : PUnit) : Option Int :=
  some (-1)
noncomputable def d_spec_l11At_l1 (p0 : (List GParty)) (p1 : Int) (L1 : Int → Option Int) (v2 : Int) : Option Int :=
  br (decide (v2 < (↑p0.length : Int)))
    (bd (at? p0 v2) fun x3 =>
    br (x3.Id == p1)
      (some v2)
      (L1 (w64 (v2 + 1))))
    (jn (d_spec_l11At_j2) ())
noncomputable def d_spec_l11At (p0 : (List GParty)) (p1 : Int) : Option Int :=
  loopN (d_spec_l11At_l1 p0 p1) big 0
noncomputable def gf_spec_l11At : GF := y_spec_l11At.gf rfl rfl (fun a => d_spec_l11At a.1 a.2.1) (fun a => by kernel_rfl)
noncomputable def y_spec_CountIn : Y.YF where
  R := []
  ps := [.v (.l (.st 2)), .v .i]
  fs := []
  rk := .ret [.i]
  rs := [.tmp 4]
  body := .seq (.region [(none, .as 4 (.k (.int .i64 0)))] [0, 1]) (.seq (.region [(none, .as 5 (.k (.int .i64 0)))] [0, 1, 5]) (.join [(false, 5, .one, [.val .i none])] (.seq (.region [(none, .as 6 (.k (.int .i64 0)))] [0, 1, 5, 6]) (.block 0 (.loop [(false, 5, .one, [.val .i none]), (false, 6, .one, [.val .i none])] (.seq (.seq (.region [(none, .mv 7 (.tmp 6)),
 (none, .mv 8 (.tmp 0)),
 (none, .len 9 (.tmp 8)),
 (none, .bin 10 .num .lss (.tmp 7) (.tmp 9))] [0, 1, 5, 6, 10]) (.cond 10 [0, 1, 5, 6] [5] (.skip) (.exit 0))) (.join [(false, 5, .one, [.val .i none])] (.block 1 (.seq (.region [(none, .mv 13 (.tmp 0)),
 (none, .mv 14 (.tmp 6)),
 (none, .ia 15 (.st 2) (.tmp 13) (.tmp 14)),
 (none, .fa 16 1 (.tmp 15)),
 (none, .ld 17 none (.tmp 16)),
 (none, .mv 18 (.tmp 1)),
 (none, .bin 19 .num .eql (.tmp 17) (.tmp 18))] [0, 1, 5, 6, 19]) (.cond 19 [0, 1, 5, 6] [0, 1, 5, 6] (.region [(none, .mv 20 (.tmp 5)),
 (none, .bin 21 .num .add (.tmp 20) (.k (.int .i64 1))),
 (none, .as 5 (.tmp 21))] [0, 1, 5, 6]) (.skip)))) (.region [(none, .mv 11 (.tmp 6)),
 (none, .bin 12 .num .add (.tmp 11) (.k (.int .i64 1))),
 (none, .as 6 (.tmp 12))] [0, 1, 5, 6])))))) (.seq (.region [(none, .mv 22 (.tmp 5)),
 (none, .as 4 (.tmp 22))] [4]) (.ret))))
noncomputable def d_spec_CountIn_j2 (L1 : (Int × Int) → Option Int) (v3 : Int) (v5 : Int) : Option Int :=
  L1 ((v5, w64 (v3 + 1)))
noncomputable def d_spec_CountIn_j3 (v6 : Int) : Option Int :=
  some v6
noncomputable def d_spec_CountIn_l1 (p0 : (List GParty)) (p1 : Int) (L1 : (Int × Int) → Option Int) (x_ : (Int × Int)) : Option Int :=
  match x_ with
  | (v2, v3) => br (decide (v3 < (↑p0.length : Int)))
    (bd (at? p0 v3) fun x4 =>
    br (x4.Cabin == p1)
      (jn (d_spec_CountIn_j2 L1 v3) (w64 (v2 + 1)))
      (jn (d_spec_CountIn_j2 L1 v3) v2))
    (jn (d_spec_CountIn_j3) v2)
noncomputable def d_spec_CountIn (p0 : (List GParty)) (p1 : Int) : Option Int :=
  loopN (d_spec_CountIn_l1 p0 p1) big (0, 0)
noncomputable def gf_spec_CountIn : GF := y_spec_CountIn.gf rfl rfl (fun a => d_spec_CountIn a.1 a.2.1) (fun a => by kernel_rfl)
noncomputable def y_spec_HeldIn : Y.YF where
  R := []
  ps := [.v (.l (.st 2)), .v .i]
  fs := []
  rk := .ret [.i]
  rs := [.tmp 4]
  body := .seq (.region [(none, .as 4 (.k (.int .i64 0)))] [0, 1]) (.seq (.region [(none, .as 5 (.k (.int .i64 0)))] [0, 1, 5]) (.join [(false, 5, .one, [.val .i none])] (.seq (.region [(none, .as 6 (.k (.int .i64 0)))] [0, 1, 5, 6]) (.block 0 (.loop [(false, 5, .one, [.val .i none]), (false, 6, .one, [.val .i none])] (.seq (.seq (.region [(none, .mv 7 (.tmp 6)),
 (none, .mv 8 (.tmp 0)),
 (none, .len 9 (.tmp 8)),
 (none, .bin 10 .num .lss (.tmp 7) (.tmp 9))] [0, 1, 5, 6, 10]) (.cond 10 [0, 1, 5, 6] [5] (.skip) (.exit 0))) (.join [(false, 5, .one, [.val .i none])] (.block 1 (.join [(false, 35, .one, [.val .b none])] (.region [(none, .mv 13 (.tmp 0)),
 (none, .mv 14 (.tmp 6)),
 (none, .ia 15 (.st 2) (.tmp 13) (.tmp 14)),
 (none, .fa 16 7 (.tmp 15)),
 (none, .ld 17 none (.tmp 16)),
 (none, .bin 18 .num .eql (.tmp 17) (.k (.int .i64 2))),
 (none, .mv 19 (.tmp 18)),
 ((some (19, true)), .mv 20 (.tmp 0)),
 ((some (19, true)), .mv 21 (.tmp 6)),
 ((some (19, true)), .ia 22 (.st 2) (.tmp 20) (.tmp 21)),
 ((some (19, true)), .fa 23 1 (.tmp 22)),
 ((some (19, true)), .ld 24 none (.tmp 23)),
 ((some (19, true)), .mv 25 (.tmp 1)),
 ((some (19, true)), .bin 26 .num .eql (.tmp 24) (.tmp 25)),
 (none, .pick 27 (.tmp 19) (.tmp 26) (.k (.bool false))),
 (none, .mv 28 (.tmp 27)),
 ((some (28, true)), .mv 29 (.tmp 0)),
 ((some (28, true)), .mv 30 (.tmp 6)),
 ((some (28, true)), .ia 31 (.st 2) (.tmp 29) (.tmp 30)),
 ((some (28, true)), .fa 32 3 (.tmp 31)),
 ((some (28, true)), .ld 33 none (.tmp 32)),
 ((some (28, true)), .call 34 gf_spec_l1In [] rfl [(.tmp 33), (.k (.int .i64 1)), (.k (.int .i64 6))]),
 (none, .pick 35 (.tmp 28) (.tmp 34) (.k (.bool false)))] [0, 1, 5, 6, 35]) (.cond 35 [0, 1, 5, 6] [0, 1, 5, 6] (.region [(none, .mv 36 (.tmp 5)),
 (none, .mv 37 (.tmp 0)),
 (none, .mv 38 (.tmp 6)),
 (none, .ia 39 (.st 2) (.tmp 37) (.tmp 38)),
 (none, .fa 40 3 (.tmp 39)),
 (none, .ld 41 none (.tmp 40)),
 (none, .bin 42 .num .add (.tmp 36) (.tmp 41)),
 (none, .as 5 (.tmp 42))] [0, 1, 5, 6]) (.skip)))) (.region [(none, .mv 11 (.tmp 6)),
 (none, .bin 12 .num .add (.tmp 11) (.k (.int .i64 1))),
 (none, .as 6 (.tmp 12))] [0, 1, 5, 6])))))) (.seq (.region [(none, .mv 43 (.tmp 5)),
 (none, .as 4 (.tmp 43))] [4]) (.ret))))
noncomputable def d_spec_HeldIn_j3 (L1 : (Int × Int) → Option Int) (v3 : Int) (v10 : Int) : Option Int :=
  L1 ((v10, w64 (v3 + 1)))
noncomputable def d_spec_HeldIn_j2 (p0 : (List GParty)) (L1 : (Int × Int) → Option Int) (v2 : Int) (v3 : Int) (v8 : Bool) : Option Int :=
  br v8
    (bd (at? p0 v3) fun x9 =>
    jn (d_spec_HeldIn_j3 L1 v3) (w64 (v2 + x9.Size)))
    (jn (d_spec_HeldIn_j3 L1 v3) v2)
noncomputable def d_spec_HeldIn_j4 (v11 : Int) : Option Int :=
  some v11
noncomputable def d_spec_HeldIn_l1 (p0 : (List GParty)) (p1 : Int) (L1 : (Int × Int) → Option Int) (x_ : (Int × Int)) : Option Int :=
  match x_ with
  | (v2, v3) => br (decide (v3 < (↑p0.length : Int)))
    (bd (at? p0 v3) fun x4 =>
    br (x4.State == 2)
      (bd (at? p0 v3) fun x5 =>
      br (x5.Cabin == p1)
        (bd (at? p0 v3) fun x6 =>
        bd (d_spec_l1In x6.Size 1 6) fun x7 =>
        jn (d_spec_HeldIn_j2 p0 L1 v2 v3) x7)
        (jn (d_spec_HeldIn_j2 p0 L1 v2 v3) false))
      (jn (d_spec_HeldIn_j2 p0 L1 v2 v3) false))
    (jn (d_spec_HeldIn_j4) v2)
noncomputable def d_spec_HeldIn (p0 : (List GParty)) (p1 : Int) : Option Int :=
  loopN (d_spec_HeldIn_l1 p0 p1) big (0, 0)
noncomputable def gf_spec_HeldIn : GF := y_spec_HeldIn.gf rfl rfl (fun a => d_spec_HeldIn a.1 a.2.1) (fun a => by kernel_rfl)
noncomputable def y_spec_TiedIn : Y.YF where
  R := []
  ps := [.v (.l (.st 2)), .v .i]
  fs := []
  rk := .ret [.i]
  rs := [.tmp 4]
  body := .seq (.region [(none, .as 4 (.k (.int .i64 0)))] [0, 1]) (.seq (.region [(none, .as 5 (.k (.int .i64 0)))] [0, 1, 5]) (.join [(false, 5, .one, [.val .i none])] (.seq (.region [(none, .as 6 (.k (.int .i64 0)))] [0, 1, 5, 6]) (.block 0 (.loop [(false, 5, .one, [.val .i none]), (false, 6, .one, [.val .i none])] (.seq (.seq (.region [(none, .mv 7 (.tmp 6)),
 (none, .mv 8 (.tmp 0)),
 (none, .len 9 (.tmp 8)),
 (none, .bin 10 .num .lss (.tmp 7) (.tmp 9))] [0, 1, 5, 6, 10]) (.cond 10 [0, 1, 5, 6] [5] (.skip) (.exit 0))) (.join [(false, 5, .one, [.val .i none])] (.block 1 (.join [(false, 27, .one, [.val .b none])] (.region [(none, .mv 13 (.tmp 0)),
 (none, .mv 14 (.tmp 6)),
 (none, .ia 15 (.st 2) (.tmp 13) (.tmp 14)),
 (none, .fa 16 2 (.tmp 15)),
 (none, .ld 17 none (.tmp 16)),
 (none, .mv 18 (.tmp 1)),
 (none, .bin 19 .num .eql (.tmp 17) (.tmp 18)),
 (none, .mv 20 (.tmp 19)),
 ((some (20, true)), .mv 21 (.tmp 0)),
 ((some (20, true)), .mv 22 (.tmp 6)),
 ((some (20, true)), .ia 23 (.st 2) (.tmp 21) (.tmp 22)),
 ((some (20, true)), .fa 24 3 (.tmp 23)),
 ((some (20, true)), .ld 25 none (.tmp 24)),
 ((some (20, true)), .call 26 gf_spec_l1In [] rfl [(.tmp 25), (.k (.int .i64 1)), (.k (.int .i64 6))]),
 (none, .pick 27 (.tmp 20) (.tmp 26) (.k (.bool false)))] [0, 1, 5, 6, 27]) (.cond 27 [0, 1, 5, 6] [0, 1, 5, 6] (.region [(none, .mv 28 (.tmp 5)),
 (none, .mv 29 (.tmp 0)),
 (none, .mv 30 (.tmp 6)),
 (none, .ia 31 (.st 2) (.tmp 29) (.tmp 30)),
 (none, .fa 32 3 (.tmp 31)),
 (none, .ld 33 none (.tmp 32)),
 (none, .bin 34 .num .add (.tmp 28) (.tmp 33)),
 (none, .as 5 (.tmp 34))] [0, 1, 5, 6]) (.skip)))) (.region [(none, .mv 11 (.tmp 6)),
 (none, .bin 12 .num .add (.tmp 11) (.k (.int .i64 1))),
 (none, .as 6 (.tmp 12))] [0, 1, 5, 6])))))) (.seq (.region [(none, .mv 35 (.tmp 5)),
 (none, .as 4 (.tmp 35))] [4]) (.ret))))
noncomputable def d_spec_TiedIn_j3 (L1 : (Int × Int) → Option Int) (v3 : Int) (v9 : Int) : Option Int :=
  L1 ((v9, w64 (v3 + 1)))
noncomputable def d_spec_TiedIn_j2 (p0 : (List GParty)) (L1 : (Int × Int) → Option Int) (v2 : Int) (v3 : Int) (v7 : Bool) : Option Int :=
  br v7
    (bd (at? p0 v3) fun x8 =>
    jn (d_spec_TiedIn_j3 L1 v3) (w64 (v2 + x8.Size)))
    (jn (d_spec_TiedIn_j3 L1 v3) v2)
noncomputable def d_spec_TiedIn_j4 (v10 : Int) : Option Int :=
  some v10
noncomputable def d_spec_TiedIn_l1 (p0 : (List GParty)) (p1 : Int) (L1 : (Int × Int) → Option Int) (x_ : (Int × Int)) : Option Int :=
  match x_ with
  | (v2, v3) => br (decide (v3 < (↑p0.length : Int)))
    (bd (at? p0 v3) fun x4 =>
    br (x4.From == p1)
      (bd (at? p0 v3) fun x5 =>
      bd (d_spec_l1In x5.Size 1 6) fun x6 =>
      jn (d_spec_TiedIn_j2 p0 L1 v2 v3) x6)
      (jn (d_spec_TiedIn_j2 p0 L1 v2 v3) false))
    (jn (d_spec_TiedIn_j4) v2)
noncomputable def d_spec_TiedIn (p0 : (List GParty)) (p1 : Int) : Option Int :=
  loopN (d_spec_TiedIn_l1 p0 p1) big (0, 0)
noncomputable def gf_spec_TiedIn : GF := y_spec_TiedIn.gf rfl rfl (fun a => d_spec_TiedIn a.1 a.2.1) (fun a => by kernel_rfl)
noncomputable def y_spec_l11Room : Y.YF where
  R := []
  ps := [.v (.st 8), .v (.st 2)]
  fs := []
  rk := .ret [.b]
  rs := [.tmp 4]
  body := .seq (.region [(none, .box 2 (.tmp 0)),
 (none, .box 3 (.tmp 1)),
 (none, .as 4 (.k (.bool false)))] [2, 3]) (.seq (.dreg (.op 1 none [] (.fa 8 11 (.tmp 2))
 (.op 2 none [] (.ld 9 none (.tmp 8))
 (.op 4 none [] (.ld 11 (some 10) (.tmp 3))
 (.both 0 (.op 0 none [3, 8] (.bslice 7 0 (.st 2) [])
 (.both 0 (.op 3 none [3] (.app 10 (.st 2) true (.tmp 7) (.tmp 9))
 (.op 5 none [8] (.bslice 12 1 (.st 2) [(0, (.tmp 11))])
 (.op 6 none [] (.app 13 (.st 2) true (.tmp 10) (.tmp 12))
 (.op 7 none [] (.as 5 (.tmp 13))
 .nil)))) (.op 5 none [8] (.bslice 12 1 (.st 2) [(0, (.tmp 11))])
 (.op 3 none [3] (.app 10 (.st 2) true (.tmp 7) (.tmp 9))
 (.op 6 none [] (.app 13 (.st 2) true (.tmp 10) (.tmp 12))
 (.op 7 none [] (.as 5 (.tmp 13))
 .nil)))))) (.op 5 none [8] (.bslice 12 1 (.st 2) [(0, (.tmp 11))])
 (.op 0 none [3, 8] (.bslice 7 0 (.st 2) [])
 (.op 3 none [3] (.app 10 (.st 2) true (.tmp 7) (.tmp 9))
 (.op 6 none [] (.app 13 (.st 2) true (.tmp 10) (.tmp 12))
 (.op 7 none [] (.as 5 (.tmp 13))
 .nil))))))))) [2, 5]) (.join [] (.seq (.region [(none, .as 6 (.k (.int .i64 0)))] [2, 5, 6]) (.block 0 (.loop [(false, 6, .one, [.val .i none])] (.seq (.seq (.region [(none, .mv 14 (.tmp 6)),
 (none, .fa 15 12 (.tmp 2)),
 (none, .ld 16 none (.tmp 15)),
 (none, .len 17 (.tmp 16)),
 (none, .bin 18 .num .lss (.tmp 14) (.tmp 17))] [2, 5, 6, 18]) (.cond 18 [2, 5, 6] [] (.skip) (.exit 0))) (.seq (.block 1 (.seq (.dreg (.op 0 none [] (.mv 21 (.tmp 5))
 (.op 1 none [] (.mv 22 (.tmp 6))
 (.op 3 none [] (.mv 24 (.tmp 5))
 (.op 4 none [] (.mv 25 (.tmp 6))
 (.op 7 none [] (.fa 28 0 (.tmp 2))
 (.op 8 none [] (.fa 29 0 (.tmp 28))
 (.op 9 none [] (.ld 30 none (.tmp 29))
 (.op 10 none [] (.mv 31 (.tmp 6))
 (.op 11 none [] (.ia 32 .i (.tmp 30) (.tmp 31))
 (.op 12 none [] (.ld 33 none (.tmp 32))
 (.op 2 none [29, 32] (.call 23 gf_spec_HeldIn [] rfl [(.tmp 21), (.tmp 22)])
 (.op 5 none [29, 32] (.call 26 gf_spec_TiedIn [] rfl [(.tmp 24), (.tmp 25)])
 (.op 6 none [] (.bin 27 .num .add (.tmp 23) (.tmp 26))
 (.op 13 none [] (.bin 34 .num .gtr (.tmp 27) (.tmp 33))
 .nil)))))))))))))) [2, 5, 6, 34]) (.cond 34 [] [2, 5, 6] (.seq (.region [(none, .as 4 (.k (.bool false)))] [4]) (.ret)) (.skip)))) (.region [(none, .mv 19 (.tmp 6)),
 (none, .bin 20 .num .add (.tmp 19) (.k (.int .i64 1))),
 (none, .as 6 (.tmp 20))] [2, 5, 6])))))) (.seq (.region [(none, .as 4 (.k (.bool true)))] [4]) (.ret))))
noncomputable def d_spec_l11Room_j2 (_ : PUnit) : Option Bool :=
  some true
noncomputable def d_spec_l11Room_l1 (p0 : GHouse) (p1 : GParty) (L1 : Int → Option Bool) (v2 : Int) : Option Bool :=
  br (decide (v2 < (↑p0.Cabins.length : Int)))
    (bd (at? p0.Rules.Seats v2) fun x3 =>
    bd (d_spec_HeldIn ([] ++ p0.Parties ++ [p1]) v2) fun x4 =>
    bd (d_spec_TiedIn ([] ++ p0.Parties ++ [p1]) v2) fun x5 =>
    br (decide (w64 (x4 + x5) > x3))
      (some false)
      (L1 (w64 (v2 + 1))))
    (jn (d_spec_l11Room_j2) ())
noncomputable def d_spec_l11Room (p0 : GHouse) (p1 : GParty) : Option Bool :=
  gd (0 + p0.Parties.length ≤ lim) (
  gd (([] ++ p0.Parties).length + [p1].length ≤ lim) (
  gd (0 + p0.Parties.length ≤ lim) (
  gd (([] ++ p0.Parties).length + [p1].length ≤ lim) (
  eqv ([] ++ p0.Parties ++ [p1]) ([] ++ p0.Parties ++ [p1]) (
  eqv [p1] [p1] (
  gd (0 + p0.Parties.length ≤ lim) (
  gd (([] ++ p0.Parties).length + [p1].length ≤ lim) (
  eqv ([] ++ p0.Parties ++ [p1]) ([] ++ p0.Parties ++ [p1]) (
  eqv [p1] [p1] (
  loopN (d_spec_l11Room_l1 p0 p1) big 0))))))))))
noncomputable def gf_spec_l11Room : GF := y_spec_l11Room.gf rfl rfl (fun a => d_spec_l11Room a.1 a.2.1) (fun a => by kernel_rfl)
noncomputable def y_spec_PartyPut : Y.YF where
  R := []
  ps := [.v (.l (.st 2)), .v (.st 2)]
  fs := []
  rk := .ret [(.l (.st 2))]
  rs := [.tmp 4]
  body := .seq (.region [(none, .box 3 (.tmp 1)),
 (none, .as 4 (.k .nil)),
 (none, .nils [(.tmp 4 0, (.st 2))])] [0, 3]) (.seq (.region [(none, .mv 7 (.tmp 0)),
 (none, .fa 8 0 (.tmp 3)),
 (none, .ld 9 none (.tmp 8)),
 (none, .call 10 gf_spec_l11At [] rfl [(.tmp 7), (.tmp 9)]),
 (none, .as 5 (.tmp 10))] [0, 3, 5]) (.seq (.region [(none, .bslice 11 0 (.st 2) []),
 (none, .mv 12 (.tmp 0)),
 (none, .app 13 (.st 2) true (.tmp 11) (.tmp 12)),
 (none, .as 6 (.tmp 13))] [0, 3, 5, 6]) (.seq (.seq (.region [(none, .mv 14 (.tmp 5)),
 (none, .bin 15 .num .geq (.tmp 14) (.k (.int .i64 0)))] [0, 3, 5, 6, 15]) (.cond 15 [3, 5, 6] [0, 3] (.seq (.region [(none, .mv 16 (.tmp 6)),
 (none, .mv 17 (.tmp 5)),
 (none, .ld 18 (some 10) (.tmp 3)),
 (none, .ia 19 (.st 2) (.tmp 16) (.tmp 17)),
 (none, .st 10 (.tmp 19) (.tmp 18))] [6]) (.seq (.region [(none, .mv 20 (.tmp 6)),
 (none, .as 4 (.tmp 20))] [4]) (.ret))) (.skip))) (.seq (.region [(none, .as 5 (.k (.int .i64 0)))] [0, 3, 5]) (.join [(false, 5, .one, [.val .i none])] (.block 0 (.loop [(false, 5, .one, [.val .i none])] (.seq (.join [(false, 34, .one, [.val .b none])] (.dreg (.op 0 none [] (.mv 21 (.tmp 5))
 (.op 1 none [] (.mv 22 (.tmp 0))
 (.op 2 none [] (.len 23 (.tmp 22))
 (.op 3 none [] (.bin 24 .num .lss (.tmp 21) (.tmp 23))
 (.op 4 none [] (.mv 25 (.tmp 24))
 (.op 5 (some (25, true)) [] (.mv 26 (.tmp 0))
 (.op 6 (some (25, true)) [] (.mv 27 (.tmp 5))
 (.op 7 (some (25, true)) [] (.ia 28 (.st 2) (.tmp 26) (.tmp 27))
 (.op 8 (some (25, true)) [] (.fa 29 0 (.tmp 28))
 (.op 9 (some (25, true)) [] (.ld 30 none (.tmp 29))
 (.op 10 (some (25, true)) [] (.fa 31 0 (.tmp 3))
 (.op 11 (some (25, true)) [] (.ld 32 none (.tmp 31))
 (.op 12 (some (25, true)) [] (.bin 33 .num .lss (.tmp 30) (.tmp 32))
 (.op 13 none [] (.pick 34 (.tmp 25) (.tmp 33) (.k (.bool false)))
 .nil)))))))))))))) [0, 3, 5, 34]) (.cond 34 [0, 3, 5] [0, 3, 5] (.skip) (.exit 0))) (.block 1 (.region [(none, .mv 35 (.tmp 5)),
 (none, .bin 36 .num .add (.tmp 35) (.k (.int .i64 1))),
 (none, .as 5 (.tmp 36))] [0, 3, 5]))))) (.seq (.dreg (.op 1 none [] (.mv 38 (.tmp 0))
 (.op 2 none [] (.mv 39 (.tmp 5))
 (.op 3 none [] (.sub 40 (.st 2) (.tmp 38) none (some (.tmp 39)))
 (.op 5 none [] (.ld 42 (some 10) (.tmp 3))
 (.both 0 (.op 0 none [3] (.bslice 37 0 (.st 2) [])
 (.both 0 (.op 4 none [3] (.app 41 (.st 2) true (.tmp 37) (.tmp 40))
 (.op 6 none [] (.bslice 43 1 (.st 2) [(0, (.tmp 42))])
 (.op 7 none [] (.app 44 (.st 2) true (.tmp 41) (.tmp 43))
 (.op 8 none [] (.as 6 (.tmp 44))
 .nil)))) (.op 6 none [] (.bslice 43 1 (.st 2) [(0, (.tmp 42))])
 (.op 4 none [3] (.app 41 (.st 2) true (.tmp 37) (.tmp 40))
 (.op 7 none [] (.app 44 (.st 2) true (.tmp 41) (.tmp 43))
 (.op 8 none [] (.as 6 (.tmp 44))
 .nil)))))) (.op 6 none [] (.bslice 43 1 (.st 2) [(0, (.tmp 42))])
 (.op 0 none [3] (.bslice 37 0 (.st 2) [])
 (.op 4 none [3] (.app 41 (.st 2) true (.tmp 37) (.tmp 40))
 (.op 7 none [] (.app 44 (.st 2) true (.tmp 41) (.tmp 43))
 (.op 8 none [] (.as 6 (.tmp 44))
 .nil)))))))))) [0, 5, 6]) (.seq (.region [(none, .mv 45 (.tmp 6)),
 (none, .mv 46 (.tmp 0)),
 (none, .mv 47 (.tmp 5)),
 (none, .sub 48 (.st 2) (.tmp 46) (some (.tmp 47)) none),
 (none, .app 49 (.st 2) true (.tmp 45) (.tmp 48)),
 (none, .as 4 (.tmp 49))] [4]) (.ret))))))))
noncomputable def d_spec_PartyPut_j3 (p0 : (List GParty)) (p1 : GParty) (v8 : Int) : Option (List GParty) :=
  gd (0 ≤ v8 ∧ v8 ≤ (↑p0.length : Int)) (
  gd (0 + (List.take v8.toNat p0).length ≤ lim) (
  gd (([] ++ List.take v8.toNat p0).length + [p1].length ≤ lim) (
  gd (0 + (List.take v8.toNat p0).length ≤ lim) (
  gd (([] ++ List.take v8.toNat p0).length + [p1].length ≤ lim) (
  eqv ([] ++ List.take v8.toNat p0 ++ [p1]) ([] ++ List.take v8.toNat p0 ++ [p1]) (
  eqv [p1] [p1] (
  gd (0 + (List.take v8.toNat p0).length ≤ lim) (
  gd (([] ++ List.take v8.toNat p0).length + [p1].length ≤ lim) (
  eqv ([] ++ List.take v8.toNat p0 ++ [p1]) ([] ++ List.take v8.toNat p0 ++ [p1]) (
  eqv [p1] [p1] (
  gd (0 ≤ v8 ∧ v8 ≤ (↑p0.length : Int)) (
  gd (([] ++ List.take v8.toNat p0 ++ [p1]).length + (List.drop v8.toNat p0).length ≤ lim) (
  some ([] ++ List.take v8.toNat p0 ++ [p1] ++ List.drop v8.toNat p0))))))))))))))
noncomputable def d_spec_PartyPut_j2 (p0 : (List GParty)) (p1 : GParty) (L4 : Int → Option (List GParty)) (v5 : Int) (v7 : Bool) : Option (List GParty) :=
  br v7
    (L4 (w64 (v5 + 1)))
    (jn (d_spec_PartyPut_j3 p0 p1) v5)
noncomputable def d_spec_PartyPut_l1 (p0 : (List GParty)) (p1 : GParty) (L4 : Int → Option (List GParty)) (v5 : Int) : Option (List GParty) :=
  br (decide (v5 < (↑p0.length : Int)))
    (bd (at? p0 v5) fun x6 =>
    jn (d_spec_PartyPut_j2 p0 p1 L4 v5) (decide (x6.Id < p1.Id)))
    (jn (d_spec_PartyPut_j2 p0 p1 L4 v5) false)
noncomputable def d_spec_PartyPut (p0 : (List GParty)) (p1 : GParty) : Option (List GParty) :=
  bd (d_spec_l11At p0 p1.Id) fun x1 =>
  gd (0 + p0.length ≤ lim) (
  br (decide (x1 ≥ 0))
    (bd (at? ([] ++ p0) x1) fun x2 =>
    bd (at? ([] ++ p0) x1) fun x3 =>
    some (([] ++ p0).set (Int.toNat x1) p1))
    (loopN (d_spec_PartyPut_l1 p0 p1) big 0))
noncomputable def gf_spec_PartyPut : GF := y_spec_PartyPut.gf rfl rfl (fun a => d_spec_PartyPut a.1 a.2.1) (fun a => by kernel_rfl)
noncomputable def y_spec_l9Less : Y.YF where
  R := []
  ps := [.v (.st 5), .v (.st 5)]
  fs := []
  rk := .ret [.b]
  rs := [.tmp 4]
  body := .seq (.region [(none, .box 2 (.tmp 0)),
 (none, .box 3 (.tmp 1)),
 (none, .as 4 (.k (.bool false)))] [2, 3]) (.join [(false, 4, .one, [.val .b none])] (.region [(none, .fa 5 0 (.tmp 2)),
 (none, .ld 6 none (.tmp 5)),
 (none, .fa 7 0 (.tmp 3)),
 (none, .ld 8 none (.tmp 7)),
 (none, .bin 9 .num .lss (.tmp 6) (.tmp 8)),
 (none, .mv 10 (.tmp 9)),
 ((some (10, false)), .fa 11 0 (.tmp 2)),
 ((some (10, false)), .ld 12 none (.tmp 11)),
 ((some (10, false)), .fa 13 0 (.tmp 3)),
 ((some (10, false)), .ld 14 none (.tmp 13)),
 ((some (10, false)), .bin 15 .num .eql (.tmp 12) (.tmp 14)),
 ((some (10, false)), .mv 16 (.tmp 15)),
 ((some (16, true)), .fa 17 1 (.tmp 2)),
 ((some (16, true)), .ld 18 none (.tmp 17)),
 ((some (16, true)), .fa 19 1 (.tmp 3)),
 ((some (16, true)), .ld 20 none (.tmp 19)),
 ((some (16, true)), .bin 21 .num .lss (.tmp 18) (.tmp 20)),
 ((some (10, false)), .pick 22 (.tmp 16) (.tmp 21) (.k (.bool false))),
 (none, .pick 23 (.tmp 10) (.k (.bool true)) (.tmp 22)),
 (none, .as 4 (.tmp 23))] [4]) (.ret))
noncomputable def d_spec_l9Less_j1 (v1 : Bool) : Option Bool :=
  some v1
noncomputable def d_spec_l9Less (p0 : GPin) (p1 : GPin) : Option Bool :=
  br (decide (p0.At < p1.At))
    (jn (d_spec_l9Less_j1) true)
    (br (p0.At == p1.At)
      (jn (d_spec_l9Less_j1) (decide (p0.Id < p1.Id)))
      (jn (d_spec_l9Less_j1) false))
noncomputable def gf_spec_l9Less : GF := y_spec_l9Less.gf rfl rfl (fun a => d_spec_l9Less a.1 a.2.1) (fun a => by kernel_rfl)
noncomputable def y_spec_l9Put : Y.YF where
  R := []
  ps := [.v (.l (.st 5)), .v (.st 5)]
  fs := []
  rk := .ret [(.l (.st 5))]
  rs := [.tmp 4]
  body := .seq (.region [(none, .box 3 (.tmp 1)),
 (none, .as 4 (.k .nil)),
 (none, .nils [(.tmp 4 0, (.st 5))])] [0, 3]) (.seq (.region [(none, .as 5 (.k (.int .i64 0)))] [0, 3, 5]) (.join [(false, 5, .one, [.val .i none])] (.block 0 (.loop [(false, 5, .one, [.val .i none])] (.seq (.join [(false, 18, .one, [.val .b none])] (.dreg (.op 0 none [] (.mv 7 (.tmp 5))
 (.op 1 none [] (.mv 8 (.tmp 0))
 (.op 2 none [] (.len 9 (.tmp 8))
 (.op 3 none [] (.bin 10 .num .lss (.tmp 7) (.tmp 9))
 (.op 4 none [] (.mv 11 (.tmp 10))
 (.op 5 (some (11, true)) [] (.mv 12 (.tmp 0))
 (.op 6 (some (11, true)) [] (.mv 13 (.tmp 5))
 (.op 7 (some (11, true)) [] (.ia 14 (.st 5) (.tmp 12) (.tmp 13))
 (.op 8 (some (11, true)) [] (.ld 15 (some 2) (.tmp 14))
 (.op 9 (some (11, true)) [] (.ld 16 (some 2) (.tmp 3))
 (.op 10 (some (11, true)) [] (.call 17 gf_spec_l9Less [] rfl [(.tmp 15), (.tmp 16)])
 (.op 11 none [] (.pick 18 (.tmp 11) (.tmp 17) (.k (.bool false)))
 .nil)))))))))))) [0, 3, 5, 18]) (.cond 18 [0, 3, 5] [0, 3, 5] (.skip) (.exit 0))) (.block 1 (.region [(none, .mv 19 (.tmp 5)),
 (none, .bin 20 .num .add (.tmp 19) (.k (.int .i64 1))),
 (none, .as 5 (.tmp 20))] [0, 3, 5]))))) (.seq (.region [(none, .bslice 21 0 (.st 5) []),
 (none, .mv 22 (.tmp 0)),
 (none, .mv 23 (.tmp 5)),
 (none, .sub 24 (.st 5) (.tmp 22) none (some (.tmp 23))),
 (none, .app 25 (.st 5) true (.tmp 21) (.tmp 24)),
 (none, .as 6 (.tmp 25))] [0, 3, 5, 6]) (.seq (.region [(none, .mv 26 (.tmp 6)),
 (none, .ld 27 (some 2) (.tmp 3)),
 (none, .bslice 28 1 (.st 5) [(0, (.tmp 27))]),
 (none, .app 29 (.st 5) true (.tmp 26) (.tmp 28)),
 (none, .as 6 (.tmp 29))] [0, 5, 6]) (.seq (.region [(none, .mv 30 (.tmp 6)),
 (none, .mv 31 (.tmp 0)),
 (none, .mv 32 (.tmp 5)),
 (none, .sub 33 (.st 5) (.tmp 31) (some (.tmp 32)) none),
 (none, .app 34 (.st 5) true (.tmp 30) (.tmp 33)),
 (none, .as 4 (.tmp 34))] [4]) (.ret))))))
noncomputable def d_spec_l9Put_j3 (p0 : (List GPin)) (p1 : GPin) (v6 : Int) : Option (List GPin) :=
  gd (0 ≤ v6 ∧ v6 ≤ (↑p0.length : Int)) (
  gd (0 + (List.take v6.toNat p0).length ≤ lim) (
  gd (([] ++ List.take v6.toNat p0).length + [p1].length ≤ lim) (
  gd (0 ≤ v6 ∧ v6 ≤ (↑p0.length : Int)) (
  gd (([] ++ List.take v6.toNat p0 ++ [p1]).length + (List.drop v6.toNat p0).length ≤ lim) (
  some ([] ++ List.take v6.toNat p0 ++ [p1] ++ List.drop v6.toNat p0))))))
noncomputable def d_spec_l9Put_j2 (p0 : (List GPin)) (p1 : GPin) (L1 : Int → Option (List GPin)) (v2 : Int) (v5 : Bool) : Option (List GPin) :=
  br v5
    (L1 (w64 (v2 + 1)))
    (jn (d_spec_l9Put_j3 p0 p1) v2)
noncomputable def d_spec_l9Put_l1 (p0 : (List GPin)) (p1 : GPin) (L1 : Int → Option (List GPin)) (v2 : Int) : Option (List GPin) :=
  br (decide (v2 < (↑p0.length : Int)))
    (bd (at? p0 v2) fun x3 =>
    bd (d_spec_l9Less x3 p1) fun x4 =>
    jn (d_spec_l9Put_j2 p0 p1 L1 v2) x4)
    (jn (d_spec_l9Put_j2 p0 p1 L1 v2) false)
noncomputable def d_spec_l9Put (p0 : (List GPin)) (p1 : GPin) : Option (List GPin) :=
  loopN (d_spec_l9Put_l1 p0 p1) big 0
noncomputable def gf_spec_l9Put : GF := y_spec_l9Put.gf rfl rfl (fun a => d_spec_l9Put a.1 a.2.1) (fun a => by kernel_rfl)
end Lv
