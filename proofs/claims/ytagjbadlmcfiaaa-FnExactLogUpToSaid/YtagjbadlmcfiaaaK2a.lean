/-
  Printed: functions of the program as texts of the typed machine, as plain functions, and that the one is the other.
-/
import Derived.Test.YtagjbadlmcfiaaaTB
import Derived.KernelRfl
set_option linter.unusedVariables false
set_option linter.unusedSimpArgs false
set_option linter.unusedVariables false
set_option maxRecDepth 100000
namespace Lv
open Go (IntKind BinOp UnOp)
open Y (YF)

noncomputable def y_spec_GetNum : Y.YF where
  R := []
  ps := [.v (.l .u), .v .i]
  fs := []
  rk := .ret [.i, .i, .b]
  rs := [.tmp 4, .tmp 5, .tmp 6]
  body := .seq (.region [(none, .as 4 (.k (.int .i64 0))),
 (none, .as 5 (.k (.int .i64 0))),
 (none, .as 6 (.k (.bool false)))] [0, 1]) (.seq (.region [(none, .as 7 (.k (.int .i64 0)))] [0, 1, 7]) (.join [] (.seq (.region [(none, .as 8 (.k (.int .i64 0)))] [0, 1, 7, 8]) (.block 0 (.loop [(false, 7, .one, [.val .i none]), (false, 8, .one, [.val .i none])] (.seq (.seq (.region [(none, .mv 10 (.tmp 8)),
 (none, .bin 11 .num .lss (.tmp 10) (.k (.int .i64 5)))] [0, 1, 7, 8, 11]) (.cond 11 [0, 1, 7, 8] [] (.skip) (.exit 0))) (.seq (.block 1 (.seq (.join [(false, 23, .one, [.val .b none])] (.region [(none, .mv 14 (.tmp 1)),
 (none, .bin 15 .num .lss (.tmp 14) (.k (.int .i64 0))),
 (none, .mv 16 (.tmp 15)),
 ((some (16, false)), .mv 17 (.tmp 1)),
 ((some (16, false)), .mv 18 (.tmp 0)),
 ((some (16, false)), .len 19 (.tmp 18)),
 ((some (16, false)), .mv 20 (.tmp 8)),
 ((some (16, false)), .bin 21 .num .sub (.tmp 19) (.tmp 20)),
 ((some (16, false)), .bin 22 .num .geq (.tmp 17) (.tmp 21)),
 (none, .pick 23 (.tmp 16) (.k (.bool true)) (.tmp 22))] [0, 1, 7, 8, 23]) (.cond 23 [] [0, 1, 7, 8] (.seq (.region [(none, .as 4 (.k (.int .i64 0))),
 (none, .as 5 (.k (.int .i64 0))),
 (none, .as 6 (.k (.bool false)))] [4, 5, 6]) (.ret)) (.skip))) (.seq (.region [(none, .mv 24 (.tmp 0)),
 (none, .mv 25 (.tmp 1)),
 (none, .mv 26 (.tmp 8)),
 (none, .bin 27 .num .add (.tmp 25) (.tmp 26)),
 (none, .ia 28 .u (.tmp 24) (.tmp 27)),
 (none, .ld 29 none (.tmp 28)),
 (none, .cvI 30 .i64 (.tmp 29)),
 (none, .as 9 (.tmp 30))] [0, 1, 7, 8, 9]) (.seq (.region [(none, .mv 31 (.tmp 7)),
 (none, .mv 32 (.tmp 9)),
 (none, .bin 33 .num .rem (.tmp 32) (.k (.int .i64 128))),
 (none, .mv 34 (.tmp 8)),
 (none, .bin 35 .num .mul (.k (.int .i64 7)) (.tmp 34)),
 (none, .bin 36 .num .shl (.tmp 33) (.tmp 35)),
 (none, .bin 37 .num .or (.tmp 31) (.tmp 36)),
 (none, .as 7 (.tmp 37))] [0, 1, 7, 8, 9]) (.seq (.region [(none, .mv 38 (.tmp 9)),
 (none, .bin 39 .num .lss (.tmp 38) (.k (.int .i64 128)))] [0, 1, 7, 8, 9, 39]) (.cond 39 [1, 7, 8, 9] [0, 1, 7, 8] (.seq (.join [(false, 49, .one, [.val .b none])] (.region [(none, .mv 40 (.tmp 8)),
 (none, .bin 41 .num .gtr (.tmp 40) (.k (.int .i64 0))),
 (none, .mv 42 (.tmp 41)),
 ((some (42, true)), .mv 43 (.tmp 9)),
 ((some (42, true)), .bin 44 .num .eql (.tmp 43) (.k (.int .i64 0))),
 (none, .pick 45 (.tmp 42) (.tmp 44) (.k (.bool false))),
 (none, .mv 46 (.tmp 45)),
 ((some (46, false)), .mv 47 (.tmp 7)),
 ((some (46, false)), .bin 48 .num .gtr (.tmp 47) (.k (.int .i64 2147483647))),
 (none, .pick 49 (.tmp 46) (.k (.bool true)) (.tmp 48))] [1, 7, 8, 49]) (.cond 49 [] [1, 7, 8] (.seq (.region [(none, .as 4 (.k (.int .i64 0))),
 (none, .as 5 (.k (.int .i64 0))),
 (none, .as 6 (.k (.bool false)))] [4, 5, 6]) (.ret)) (.skip))) (.seq (.region [(none, .mv 50 (.tmp 7)),
 (none, .mv 51 (.tmp 1)),
 (none, .mv 52 (.tmp 8)),
 (none, .bin 53 .num .add (.tmp 51) (.tmp 52)),
 (none, .bin 54 .num .add (.tmp 53) (.k (.int .i64 1))),
 (none, .as 4 (.tmp 50)),
 (none, .as 5 (.tmp 54)),
 (none, .as 6 (.k (.bool true)))] [4, 5, 6]) (.ret))) (.skip))))))) (.region [(none, .mv 12 (.tmp 8)),
 (none, .bin 13 .num .add (.tmp 12) (.k (.int .i64 1))),
 (none, .as 8 (.tmp 13))] [0, 1, 7, 8])))))) (.seq (.region [(none, .as 4 (.k (.int .i64 0))),
 (none, .as 5 (.k (.int .i64 0))),
 (none, .as 6 (.k (.bool false)))] [4, 5, 6]) (.ret))))
noncomputable def d_spec_GetNum_j3 (p1 : Int) (v2 : Int) (v3 : Int) (x5 : UInt8) (v6 : Bool) : Option (Int × Int × Bool) :=
  br v6
    (some (0, 0, false))
    (some ((orI v2 (shlI ((w64 (↑(UInt8.toNat x5) : Int)).tmod 128) (w64 (7 * v3))), w64 (w64 (p1 + v3) + 1), true)))
noncomputable def d_spec_GetNum_j2 (p0 : (List UInt8)) (p1 : Int) (L1 : (Int × Int) → Option (Int × Int × Bool)) (v2 : Int) (v3 : Int) (v4 : Bool) : Option (Int × Int × Bool) :=
  br v4
    (some (0, 0, false))
    (bd (at? p0 (w64 (p1 + v3))) fun x5 =>
    gd (¬w64 (7 * v3) < 0) (
    br (decide (w64 (↑(UInt8.toNat x5) : Int) < 128))
      (br (decide (v3 > 0))
        (br (w64 (↑(UInt8.toNat x5) : Int) == 0)
          (jn (d_spec_GetNum_j3 p1 v2 v3 x5) true)
          (jn (d_spec_GetNum_j3 p1 v2 v3 x5) (decide (orI v2 (shlI ((w64 (↑(UInt8.toNat x5) : Int)).tmod 128) (w64 (7 * v3))) > 2147483647))))
        (jn (d_spec_GetNum_j3 p1 v2 v3 x5) (decide (orI v2 (shlI ((w64 (↑(UInt8.toNat x5) : Int)).tmod 128) (w64 (7 * v3))) > 2147483647))))
      (L1 ((orI v2 (shlI ((w64 (↑(UInt8.toNat x5) : Int)).tmod 128) (w64 (7 * v3))), w64 (v3 + 1))))))
noncomputable def d_spec_GetNum_j4 (_ : PUnit) : Option (Int × Int × Bool) :=
  some (0, 0, false)
noncomputable def d_spec_GetNum_l1 (p0 : (List UInt8)) (p1 : Int) (L1 : (Int × Int) → Option (Int × Int × Bool)) (x_ : (Int × Int)) : Option (Int × Int × Bool) :=
  match x_ with
  | (v2, v3) => br (decide (v3 < 5))
    (br (decide (p1 < 0))
      (jn (d_spec_GetNum_j2 p0 p1 L1 v2 v3) true)
      (jn (d_spec_GetNum_j2 p0 p1 L1 v2 v3) (decide (p1 ≥ w64 ((↑p0.length : Int) - v3)))))
    (jn (d_spec_GetNum_j4) ())
noncomputable def d_spec_GetNum (p0 : (List UInt8)) (p1 : Int) : Option (Int × Int × Bool) :=
  loopN (d_spec_GetNum_l1 p0 p1) big (0, 0)
noncomputable def gf_spec_GetNum : GF := y_spec_GetNum.gf rfl rfl (fun a => d_spec_GetNum a.1 a.2.1) (fun a => by kernel_rfl)

noncomputable def y_spec_l18Read : Y.YF where
  R := []
  ps := [.v .s]
  fs := []
  rk := .ret [(.l .i), .b]
  rs := [.tmp 2, .tmp 3]
  body := .seq (.region [(none, .as 2 (.k .nil)),
 (none, .nils [(.tmp 2 0, .i)]),
 (none, .as 3 (.k (.bool false)))] [0]) (.seq (.region [(none, .mv 10 (.tmp 0)),
 (none, .cvSB 11 (.tmp 10)),
 (none, .as 4 (.tmp 11))] [4]) (.seq (.region [(none, .bslice 12 0 .i []),
 (none, .as 5 (.tmp 12))] [4, 5]) (.seq (.region [(none, .as 6 (.k (.int .i64 0)))] [4, 5, 6]) (.join [(false, 5, .one, [.val (.l .i) none])] (.block 0 (.loop [(false, 5, .one, [.val (.l .i) none]), (false, 6, .one, [.val .i none])] (.seq (.seq (.region [(none, .mv 13 (.tmp 6)),
 (none, .mv 14 (.tmp 4)),
 (none, .len 15 (.tmp 14)),
 (none, .bin 16 .num .lss (.tmp 13) (.tmp 15))] [4, 5, 6, 16]) (.cond 16 [4, 5, 6] [5] (.skip) (.exit 0))) (.block 1 (.seq (.region [(none, .mv 18 (.tmp 4)),
 (none, .mv 19 (.tmp 6)),
 (none, .call 20 gf_spec_GetNum [] rfl [(.tmp 18), (.tmp 19)]),
 (none, .mv 17 (.tmp 20)),
 (none, .ext 21 (.tmp 17) 0),
 (none, .ext 22 (.tmp 17) 1),
 (none, .ext 23 (.tmp 17) 2),
 (none, .as 7 (.tmp 21)),
 (none, .as 8 (.tmp 22)),
 (none, .as 9 (.tmp 23))] [4, 5, 7, 8, 9]) (.seq (.seq (.region [(none, .mv 24 (.tmp 9)),
 (none, .un 25 .not (.tmp 24))] [4, 5, 7, 8, 25]) (.cond 25 [] [4, 5, 7, 8] (.seq (.region [(none, .bslice 26 0 .i []),
 (none, .as 2 (.tmp 26)),
 (none, .as 3 (.k (.bool false)))] [2, 3]) (.ret)) (.skip))) (.seq (.region [(none, .mv 27 (.tmp 5)),
 (none, .mv 28 (.tmp 7)),
 (none, .bslice 29 1 .i [(0, (.tmp 28))]),
 (none, .app 30 .i true (.tmp 27) (.tmp 29)),
 (none, .as 5 (.tmp 30))] [4, 5, 8]) (.region [(none, .mv 31 (.tmp 8)),
 (none, .as 6 (.tmp 31))] [4, 5, 6])))))))) (.seq (.region [(none, .mv 32 (.tmp 5)),
 (none, .as 2 (.tmp 32)),
 (none, .as 3 (.k (.bool true)))] [2, 3]) (.ret))))))
noncomputable def d_spec_l18Read_j2 (v5 : (List Int)) : Option ((List Int) × Bool) :=
  some (v5, true)
noncomputable def d_spec_l18Read_l1 (p0 : (List UInt8)) (L1 : ((List Int) × Int) → Option ((List Int) × Bool)) (x_ : ((List Int) × Int)) : Option ((List Int) × Bool) :=
  match x_ with
  | (v2, v3) => br (decide (v3 < (↑p0.length : Int)))
    (bd (d_spec_GetNum p0 v3) fun x4 =>
    br (!x4.snd.snd)
      (some ([], false))
      (gd (List.length v2 + [x4.fst].length ≤ lim) (
      L1 (v2 ++ [x4.fst], x4.snd.fst))))
    (jn (d_spec_l18Read_j2) v2)
noncomputable def d_spec_l18Read (p0 : (List UInt8)) : Option ((List Int) × Bool) :=
  loopN (d_spec_l18Read_l1 p0) big ([], 0)
noncomputable def gf_spec_l18Read : GF := y_spec_l18Read.gf rfl rfl (fun a => d_spec_l18Read a.1) (fun a => by kernel_rfl)

noncomputable def y_spec_l1In : Y.YF where
  R := []
  ps := [.v .i, .v .i, .v .i]
  fs := []
  rk := .ret [.b]
  rs := [.tmp 6]
  body := .seq (.region [(none, .as 6 (.k (.bool false)))] [0, 1, 2]) (.join [(false, 6, .one, [.val .b none])] (.region [(none, .mv 7 (.tmp 0)),
 (none, .mv 8 (.tmp 1)),
 (none, .bin 9 .num .geq (.tmp 7) (.tmp 8)),
 (none, .mv 10 (.tmp 9)),
 ((some (10, true)), .mv 11 (.tmp 0)),
 ((some (10, true)), .mv 12 (.tmp 2)),
 ((some (10, true)), .bin 13 .num .leq (.tmp 11) (.tmp 12)),
 (none, .pick 14 (.tmp 10) (.tmp 13) (.k (.bool false))),
 (none, .as 6 (.tmp 14))] [6]) (.ret))
noncomputable def d_spec_l1In_j1 (v1 : Bool) : Option Bool :=
  some v1
noncomputable def d_spec_l1In (p0 : Int) (p1 : Int) (p2 : Int) : Option Bool :=
  br (decide (p0 ≥ p1))
    (jn (d_spec_l1In_j1) (decide (p0 ≤ p2)))
    (jn (d_spec_l1In_j1) false)
noncomputable def gf_spec_l1In : GF := y_spec_l1In.gf rfl rfl (fun a => d_spec_l1In a.1 a.2.1 a.2.2.1) (fun a => by kernel_rfl)

noncomputable def y_spec_l12Field : Y.YF where
  R := []
  ps := [.v .i]
  fs := []
  rk := .ret [.b]
  rs := [.tmp 2]
  body := .seq (.region [(none, .as 2 (.k (.bool false)))] [0]) (.seq (.region [(none, .mv 3 (.tmp 0)),
 (none, .call 4 gf_spec_l1In [] rfl [(.tmp 3), (.k (.int .i64 0)), (.k (.int .i64 9999))]),
 (none, .as 2 (.tmp 4))] [2]) (.ret))
noncomputable def d_spec_l12Field (p0 : Int) : Option Bool :=
  bd (d_spec_l1In p0 0 9999) fun x1 =>
  some x1
noncomputable def gf_spec_l12Field : GF := y_spec_l12Field.gf rfl rfl (fun a => d_spec_l12Field a.1) (fun a => by kernel_rfl)

noncomputable def y_spec_ReqOk : Y.YF where
  R := []
  ps := [.v (.st 0)]
  fs := []
  rk := .ret [.b]
  rs := [.tmp 2]
  body := .seq (.region [(none, .box 1 (.tmp 0)),
 (none, .as 2 (.k (.bool false)))] [1]) (.seq (.seq (.region [(none, .fa 3 0 (.tmp 1)),
 (none, .ld 4 none (.tmp 3))] [1, 4]) (.block 0 (.seq (.region [(none, .bin 6 .num .eql (.tmp 4) (.k (.int .i64 1))),
 (none, .as 5 (.tmp 6))] [1, 4, 5]) (.cond 5 [1] [1, 4] (.join [(false, 2, .one, [.val .b none])] (.region [(none, .fa 7 1 (.tmp 1)),
 (none, .ld 8 none (.tmp 7)),
 (none, .call 9 gf_spec_l12Field [] rfl [(.tmp 8)]),
 (none, .mv 10 (.tmp 9)),
 ((some (10, true)), .fa 11 2 (.tmp 1)),
 ((some (10, true)), .ld 12 none (.tmp 11)),
 ((some (10, true)), .call 13 gf_spec_l12Field [] rfl [(.tmp 12)]),
 (none, .pick 14 (.tmp 10) (.tmp 13) (.k (.bool false))),
 (none, .mv 15 (.tmp 14)),
 ((some (15, true)), .fa 16 3 (.tmp 1)),
 ((some (15, true)), .ld 17 none (.tmp 16)),
 ((some (15, true)), .call 18 gf_spec_l1In [] rfl [(.tmp 17), (.k (.int .i64 (-1))), (.k (.int .i64 9999))]),
 (none, .pick 19 (.tmp 15) (.tmp 18) (.k (.bool false))),
 (none, .mv 20 (.tmp 19)),
 ((some (20, true)), .fa 21 4 (.tmp 1)),
 ((some (20, true)), .ld 22 none (.tmp 21)),
 ((some (20, true)), .call 23 gf_spec_l12Field [] rfl [(.tmp 22)]),
 (none, .pick 24 (.tmp 20) (.tmp 23) (.k (.bool false))),
 (none, .mv 25 (.tmp 24)),
 ((some (25, true)), .fa 26 5 (.tmp 1)),
 ((some (25, true)), .ld 27 none (.tmp 26)),
 ((some (25, true)), .call 28 gf_spec_l12Field [] rfl [(.tmp 27)]),
 (none, .pick 29 (.tmp 25) (.tmp 28) (.k (.bool false))),
 (none, .as 2 (.tmp 29))] [2]) (.ret)) (.join [(false, 30, .one, [.val .b none])] (.seq (.region [(none, .bin 31 .num .eql (.tmp 4) (.k (.int .i64 2))),
 (none, .as 30 (.tmp 31))] [1, 4, 30]) (.cond 30 [1, 4, 30] [1, 4] (.skip) (.seq (.region [(none, .bin 32 .num .eql (.tmp 4) (.k (.int .i64 4))),
 (none, .as 30 (.tmp 32))] [1, 4, 30]) (.cond 30 [1, 4, 30] [1, 4] (.skip) (.seq (.region [(none, .bin 33 .num .eql (.tmp 4) (.k (.int .i64 5))),
 (none, .as 30 (.tmp 33))] [1, 4, 30]) (.cond 30 [1, 4, 30] [1, 4] (.skip) (.region [(none, .bin 34 .num .eql (.tmp 4) (.k (.int .i64 7))),
 (none, .as 30 (.tmp 34))] [1, 4, 30]))))))) (.cond 30 [1] [1, 4] (.join [(false, 2, .one, [.val .b none])] (.region [(none, .fa 35 1 (.tmp 1)),
 (none, .ld 36 none (.tmp 35)),
 (none, .call 37 gf_spec_l12Field [] rfl [(.tmp 36)]),
 (none, .mv 38 (.tmp 37)),
 ((some (38, true)), .ld 39 (some 6) (.tmp 1)),
 ((some (38, true)), .fa 40 0 (.tmp 1)),
 ((some (38, true)), .ld 41 none (.tmp 40)),
 ((some (38, true)), .fa 42 1 (.tmp 1)),
 ((some (38, true)), .ld 43 none (.tmp 42)),
 ((some (38, true)), .build 44 [.int .i64 0, .int .i64 0, .int .i64 0, .int .i64 0, .int .i64 0, .int .i64 0] [(0, 1, (.tmp 41)), (1, 1, (.tmp 43))]),
 ((some (38, true)), .bin 45 (.agg [.i, .i, .i, .i, .i, .i]) .eql (.tmp 39) (.tmp 44)),
 (none, .pick 46 (.tmp 38) (.tmp 45) (.k (.bool false))),
 (none, .as 2 (.tmp 46))] [2]) (.ret)) (.seq (.region [(none, .bin 48 .num .eql (.tmp 4) (.k (.int .i64 3))),
 (none, .as 47 (.tmp 48))] [1, 4, 47]) (.cond 47 [1] [1, 4] (.join [(false, 2, .one, [.val .b none])] (.region [(none, .fa 49 2 (.tmp 1)),
 (none, .ld 50 none (.tmp 49)),
 (none, .call 51 gf_spec_l12Field [] rfl [(.tmp 50)]),
 (none, .mv 52 (.tmp 51)),
 ((some (52, true)), .fa 53 4 (.tmp 1)),
 ((some (52, true)), .ld 54 none (.tmp 53)),
 ((some (52, true)), .call 55 gf_spec_l12Field [] rfl [(.tmp 54)]),
 (none, .pick 56 (.tmp 52) (.tmp 55) (.k (.bool false))),
 (none, .mv 57 (.tmp 56)),
 ((some (57, true)), .ld 58 (some 6) (.tmp 1)),
 ((some (57, true)), .fa 59 0 (.tmp 1)),
 ((some (57, true)), .ld 60 none (.tmp 59)),
 ((some (57, true)), .fa 61 2 (.tmp 1)),
 ((some (57, true)), .ld 62 none (.tmp 61)),
 ((some (57, true)), .fa 63 4 (.tmp 1)),
 ((some (57, true)), .ld 64 none (.tmp 63)),
 ((some (57, true)), .build 65 [.int .i64 0, .int .i64 0, .int .i64 0, .int .i64 0, .int .i64 0, .int .i64 0] [(0, 1, (.tmp 60)), (2, 1, (.tmp 62)), (4, 1, (.tmp 64))]),
 ((some (57, true)), .bin 66 (.agg [.i, .i, .i, .i, .i, .i]) .eql (.tmp 58) (.tmp 65)),
 (none, .pick 67 (.tmp 57) (.tmp 66) (.k (.bool false))),
 (none, .as 2 (.tmp 67))] [2]) (.ret)) (.seq (.region [(none, .bin 69 .num .eql (.tmp 4) (.k (.int .i64 6))),
 (none, .as 68 (.tmp 69))] [1, 68]) (.cond 68 [1] [] (.seq (.region [(none, .ld 70 (some 6) (.tmp 1)),
 (none, .fa 71 0 (.tmp 1)),
 (none, .ld 72 none (.tmp 71)),
 (none, .build 73 [.int .i64 0, .int .i64 0, .int .i64 0, .int .i64 0, .int .i64 0, .int .i64 0] [(0, 1, (.tmp 72))]),
 (none, .bin 74 (.agg [.i, .i, .i, .i, .i, .i]) .eql (.tmp 70) (.tmp 73)),
 (none, .as 2 (.tmp 74))] [2]) (.ret)) (.skip))))))))))) (.seq (.region [(none, .as 2 (.k (.bool false)))] [2]) (.ret)))
noncomputable def d_spec_ReqOk_j1 (v6 : Bool) : Option Bool :=
  some v6
noncomputable def d_spec_ReqOk_j2 (p0 : GReq) (v7 : Bool) : Option Bool :=
  br v7
    (bd (d_spec_l12Field p0.Id) fun x8 =>
    br x8
      (jn (d_spec_ReqOk_j1) (p0.Kind == p0.Kind && (p0.Id == p0.Id && (p0.Cabin == 0 && (p0.From == 0 && (p0.Size == 0 && (p0.Tier == 0 && true)))))))
      (jn (d_spec_ReqOk_j1) false))
    (br (p0.Kind == 3)
      (bd (d_spec_l12Field p0.Cabin) fun x9 =>
      br x9
        (bd (d_spec_l12Field p0.Size) fun x10 =>
        br x10
          (jn (d_spec_ReqOk_j1) (p0.Kind == p0.Kind && (p0.Id == 0 && (p0.Cabin == p0.Cabin && (p0.From == 0 && (p0.Size == p0.Size && (p0.Tier == 0 && true)))))))
          (jn (d_spec_ReqOk_j1) false))
        (jn (d_spec_ReqOk_j1) false))
      (br (p0.Kind == 6)
        (some (p0.Kind == p0.Kind && (p0.Id == 0 && (p0.Cabin == 0 && (p0.From == 0 && (p0.Size == 0 && (p0.Tier == 0 && true)))))))
        (some false)))
noncomputable def d_spec_ReqOk (p0 : GReq) : Option Bool :=
  br (p0.Kind == 1)
    (bd (d_spec_l12Field p0.Id) fun x1 =>
    br x1
      (bd (d_spec_l12Field p0.Cabin) fun x2 =>
      br x2
        (bd (d_spec_l1In p0.From (-1) 9999) fun x3 =>
        br x3
          (bd (d_spec_l12Field p0.Size) fun x4 =>
          br x4
            (bd (d_spec_l12Field p0.Tier) fun x5 =>
            jn (d_spec_ReqOk_j1) x5)
            (jn (d_spec_ReqOk_j1) false))
          (jn (d_spec_ReqOk_j1) false))
        (jn (d_spec_ReqOk_j1) false))
      (jn (d_spec_ReqOk_j1) false))
    (br (p0.Kind == 2)
      (jn (d_spec_ReqOk_j2 p0) (p0.Kind == 2))
      (br (p0.Kind == 4)
        (jn (d_spec_ReqOk_j2 p0) (p0.Kind == 4))
        (br (p0.Kind == 5)
          (jn (d_spec_ReqOk_j2 p0) (p0.Kind == 5))
          (jn (d_spec_ReqOk_j2 p0) (p0.Kind == 7)))))
noncomputable def gf_spec_ReqOk : GF := y_spec_ReqOk.gf rfl rfl (fun a => d_spec_ReqOk a.1) (fun a => by kernel_rfl)

noncomputable def y_spec_PutNum : Y.YF where
  R := []
  ps := [.v .i]
  fs := []
  rk := .ret [(.l .u)]
  rs := [.tmp 2]
  body := .seq (.region [(none, .as 2 (.k .nil)),
 (none, .nils [(.tmp 2 0, .u)])] [0]) (.seq (.region [(none, .bslice 4 0 .u []),
 (none, .as 3 (.tmp 4))] [0, 3]) (.seq (.seq (.region [(none, .mv 5 (.tmp 0)),
 (none, .call 6 gf_spec_l1In [] rfl [(.tmp 5), (.k (.int .i64 0)), (.k (.int .i64 2147483647))]),
 (none, .un 7 .not (.tmp 6))] [0, 3, 7]) (.cond 7 [3] [0, 3] (.seq (.region [(none, .mv 8 (.tmp 3)),
 (none, .as 2 (.tmp 8))] [2]) (.ret)) (.skip))) (.join [(false, 0, .one, [.val .i none]), (false, 3, .one, [.val (.l .u) none])] (.block 0 (.loop [(false, 0, .one, [.val .i none]), (false, 3, .one, [.val (.l .u) none])] (.seq (.seq (.region [(none, .mv 9 (.tmp 0)),
 (none, .bin 10 .num .gtr (.tmp 9) (.k (.int .i64 127)))] [0, 3, 10]) (.cond 10 [0, 3] [0, 3] (.skip) (.exit 0))) (.block 1 (.seq (.region [(none, .mv 11 (.tmp 3)),
 (none, .mv 12 (.tmp 0)),
 (none, .bin 13 .num .rem (.tmp 12) (.k (.int .i64 128))),
 (none, .bin 14 .num .add (.tmp 13) (.k (.int .i64 128))),
 (none, .cvI 15 .u8 (.tmp 14)),
 (none, .bslice 16 1 .u [(0, (.tmp 15))]),
 (none, .app 17 .u true (.tmp 11) (.tmp 16)),
 (none, .as 3 (.tmp 17))] [0, 3]) (.region [(none, .mv 18 (.tmp 0)),
 (none, .bin 19 .num .quo (.tmp 18) (.k (.int .i64 128))),
 (none, .as 0 (.tmp 19))] [0, 3])))))) (.seq (.region [(none, .mv 20 (.tmp 3)),
 (none, .mv 21 (.tmp 0)),
 (none, .cvI 22 .u8 (.tmp 21)),
 (none, .bslice 23 1 .u [(0, (.tmp 22))]),
 (none, .app 24 .u true (.tmp 20) (.tmp 23)),
 (none, .as 2 (.tmp 24))] [2]) (.ret)))))
noncomputable def d_spec_PutNum_j2 (x_ : (Int × (List UInt8))) : Option (List UInt8) :=
  match x_ with
  | (v5, v6) => gd (v6.length + [toB v5].length ≤ lim) (
  some (v6 ++ [toB v5]))
noncomputable def d_spec_PutNum_l1 (L2 : (Int × (List UInt8)) → Option (List UInt8)) (x_ : (Int × (List UInt8))) : Option (List UInt8) :=
  match x_ with
  | (v3, v4) => br (decide (v3 > 127))
    (gd (v4.length + [toB (w64 (Int.tmod v3 128 + 128))].length ≤ lim) (
    L2 ((w64 (Int.tdiv v3 128), v4 ++ [toB (w64 (Int.tmod v3 128 + 128))]))))
    (jn (d_spec_PutNum_j2) (v3, v4))
noncomputable def d_spec_PutNum (p0 : Int) : Option (List UInt8) :=
  bd (d_spec_l1In p0 0 2147483647) fun x1 =>
  br (!x1)
    (some [])
    (loopN (d_spec_PutNum_l1) big (p0, []))
noncomputable def gf_spec_PutNum : GF := y_spec_PutNum.gf rfl rfl (fun a => d_spec_PutNum a.1) (fun a => by kernel_rfl)

noncomputable def y_spec_l18Nums : Y.YF where
  R := []
  ps := [.v (.l .i)]
  fs := []
  rk := .ret [.s]
  rs := [.tmp 2]
  body := .seq (.region [(none, .as 2 (.k (.str [])))] [0]) (.seq (.region [(none, .bslice 5 0 .u []),
 (none, .as 3 (.tmp 5))] [0, 3]) (.join [(false, 3, .one, [.val (.l .u) none])] (.seq (.region [(none, .as 4 (.k (.int .i64 0)))] [0, 3, 4]) (.block 0 (.loop [(false, 3, .one, [.val (.l .u) none]), (false, 4, .one, [.val .i none])] (.seq (.seq (.region [(none, .mv 6 (.tmp 4)),
 (none, .mv 7 (.tmp 0)),
 (none, .len 8 (.tmp 7)),
 (none, .bin 9 .num .lss (.tmp 6) (.tmp 8))] [0, 3, 4, 9]) (.cond 9 [0, 3, 4] [3] (.skip) (.exit 0))) (.seq (.block 1 (.region [(none, .mv 12 (.tmp 3)),
 (none, .mv 13 (.tmp 0)),
 (none, .mv 14 (.tmp 4)),
 (none, .ia 15 .i (.tmp 13) (.tmp 14)),
 (none, .ld 16 none (.tmp 15)),
 (none, .call 17 gf_spec_PutNum [] rfl [(.tmp 16)]),
 (none, .app 18 .u true (.tmp 12) (.tmp 17)),
 (none, .as 3 (.tmp 18))] [0, 3, 4])) (.region [(none, .mv 10 (.tmp 4)),
 (none, .bin 11 .num .add (.tmp 10) (.k (.int .i64 1))),
 (none, .as 4 (.tmp 11))] [0, 3, 4])))))) (.seq (.region [(none, .mv 19 (.tmp 3)),
 (none, .cvBS 20 (.tmp 19)),
 (none, .as 2 (.tmp 20))] [2]) (.ret))))
noncomputable def d_spec_l18Nums_j2 (v6 : (List UInt8)) : Option (List UInt8) :=
  some v6
noncomputable def d_spec_l18Nums_l1 (p0 : (List Int)) (L1 : ((List UInt8) × Int) → Option (List UInt8)) (x_ : ((List UInt8) × Int)) : Option (List UInt8) :=
  match x_ with
  | (v2, v3) => br (decide (v3 < (↑p0.length : Int)))
    (bd (at? p0 v3) fun x4 =>
    bd (d_spec_PutNum x4) fun x5 =>
    gd (List.length v2 + List.length x5 ≤ lim) (
    L1 ((v2 ++ x5, w64 (v3 + 1)))))
    (jn (d_spec_l18Nums_j2) v2)
noncomputable def d_spec_l18Nums (p0 : (List Int)) : Option (List UInt8) :=
  loopN (d_spec_l18Nums_l1 p0) big ([], 0)
noncomputable def gf_spec_l18Nums : GF := y_spec_l18Nums.gf rfl rfl (fun a => d_spec_l18Nums a.1) (fun a => by kernel_rfl)

noncomputable def y_spec_ReqBytes : Y.YF where
  R := []
  ps := [.v (.st 0)]
  fs := []
  rk := .ret [.s]
  rs := [.tmp 2]
  body := .seq (.region [(none, .box 1 (.tmp 0)),
 (none, .as 2 (.k (.str [])))] [1]) (.seq (.seq (.region [(none, .ld 3 (some 6) (.tmp 1)),
 (none, .call 4 gf_spec_ReqOk [] rfl [(.tmp 3)]),
 (none, .un 5 .not (.tmp 4))] [1, 5]) (.cond 5 [] [1] (.seq (.region [(none, .as 2 (.k (.str [])))] [2]) (.ret)) (.skip))) (.seq (.seq (.region [(none, .fa 6 0 (.tmp 1)),
 (none, .ld 7 none (.tmp 6))] [1, 7]) (.block 0 (.seq (.region [(none, .bin 9 .num .eql (.tmp 7) (.k (.int .i64 1))),
 (none, .as 8 (.tmp 9))] [1, 7, 8]) (.cond 8 [1] [1, 7] (.seq (.region [(none, .fa 10 0 (.tmp 1)),
 (none, .ld 11 none (.tmp 10)),
 (none, .fa 12 1 (.tmp 1)),
 (none, .ld 13 none (.tmp 12)),
 (none, .fa 14 2 (.tmp 1)),
 (none, .ld 15 none (.tmp 14)),
 (none, .fa 16 3 (.tmp 1)),
 (none, .ld 17 none (.tmp 16)),
 (none, .bin 18 .num .add (.tmp 17) (.k (.int .i64 1))),
 (none, .fa 19 4 (.tmp 1)),
 (none, .ld 20 none (.tmp 19)),
 (none, .fa 21 5 (.tmp 1)),
 (none, .ld 22 none (.tmp 21)),
 (none, .bslice 23 6 .i [(0, (.tmp 11)), (1, (.tmp 13)), (2, (.tmp 15)), (3, (.tmp 18)), (4, (.tmp 20)), (5, (.tmp 22))]),
 (none, .call 24 gf_spec_l18Nums [] rfl [(.tmp 23)]),
 (none, .as 2 (.tmp 24))] [2]) (.ret)) (.seq (.region [(none, .bin 26 .num .eql (.tmp 7) (.k (.int .i64 3))),
 (none, .as 25 (.tmp 26))] [1, 7, 25]) (.cond 25 [1] [1, 7] (.seq (.region [(none, .fa 27 0 (.tmp 1)),
 (none, .ld 28 none (.tmp 27)),
 (none, .fa 29 2 (.tmp 1)),
 (none, .ld 30 none (.tmp 29)),
 (none, .fa 31 4 (.tmp 1)),
 (none, .ld 32 none (.tmp 31)),
 (none, .bslice 33 3 .i [(0, (.tmp 28)), (1, (.tmp 30)), (2, (.tmp 32))]),
 (none, .call 34 gf_spec_l18Nums [] rfl [(.tmp 33)]),
 (none, .as 2 (.tmp 34))] [2]) (.ret)) (.seq (.region [(none, .bin 36 .num .eql (.tmp 7) (.k (.int .i64 6))),
 (none, .as 35 (.tmp 36))] [1, 35]) (.cond 35 [1] [1] (.seq (.region [(none, .fa 37 0 (.tmp 1)),
 (none, .ld 38 none (.tmp 37)),
 (none, .bslice 39 1 .i [(0, (.tmp 38))]),
 (none, .call 40 gf_spec_l18Nums [] rfl [(.tmp 39)]),
 (none, .as 2 (.tmp 40))] [2]) (.ret)) (.skip))))))))) (.seq (.region [(none, .fa 41 0 (.tmp 1)),
 (none, .ld 42 none (.tmp 41)),
 (none, .fa 43 1 (.tmp 1)),
 (none, .ld 44 none (.tmp 43)),
 (none, .bslice 45 2 .i [(0, (.tmp 42)), (1, (.tmp 44))]),
 (none, .call 46 gf_spec_l18Nums [] rfl [(.tmp 45)]),
 (none, .as 2 (.tmp 46))] [2]) (.ret))))
noncomputable def d_spec_ReqBytes (p0 : GReq) : Option (List UInt8) :=
  bd (d_spec_ReqOk p0) fun x1 =>
  br (!x1)
    (some [])
    (br (p0.Kind == 1)
      (bd (d_spec_l18Nums ([p0.Kind, p0.Id, p0.Cabin, w64 (p0.From + 1), p0.Size, p0.Tier])) fun x2 =>
      some x2)
      (br (p0.Kind == 3)
        (bd (d_spec_l18Nums ([p0.Kind, p0.Cabin, p0.Size])) fun x3 =>
        some x3)
        (br (p0.Kind == 6)
          (bd (d_spec_l18Nums [p0.Kind]) fun x4 =>
          some x4)
          (bd (d_spec_l18Nums ([p0.Kind, p0.Id])) fun x5 =>
          some x5))))
noncomputable def gf_spec_ReqBytes : GF := y_spec_ReqBytes.gf rfl rfl (fun a => d_spec_ReqBytes a.1) (fun a => by kernel_rfl)

noncomputable def y_spec_ReqRead : Y.YF where
  R := []
  ps := [.v .s]
  fs := []
  rk := .ret [(.st 0), .b]
  rs := [.cell 2 (some 6), .tmp 3]
  body := .seq (.region [(none, .alloc 2 [.int .i64 0, .int .i64 0, .int .i64 0, .int .i64 0, .int .i64 0, .int .i64 0]),
 (none, .as 3 (.k (.bool false)))] [0, 2]) (.seq (.seq (.region [(none, .mv 7 (.tmp 0)),
 (none, .lens 8 (.tmp 7)),
 (none, .bin 9 .num .gtr (.tmp 8) (.k (.int .i64 60)))] [0, 2, 9]) (.cond 9 [2] [0, 2] (.seq (.region [(none, .build 10 [.int .i64 0, .int .i64 0, .int .i64 0, .int .i64 0, .int .i64 0, .int .i64 0] []),
 (none, .st 6 (.tmp 2) (.tmp 10)),
 (none, .as 3 (.k (.bool false)))] [2, 3]) (.ret)) (.skip))) (.seq (.region [(none, .mv 12 (.tmp 0)),
 (none, .call 13 gf_spec_l18Read [] rfl [(.tmp 12)]),
 (none, .mv 11 (.tmp 13)),
 (none, .ext 14 (.tmp 11) 0),
 (none, .ext 15 (.tmp 11) 1),
 (none, .as 4 (.tmp 14)),
 (none, .as 5 (.tmp 15))] [0, 2, 4, 5]) (.seq (.join [(false, 22, .one, [.val .b none])] (.region [(none, .mv 16 (.tmp 5)),
 (none, .un 17 .not (.tmp 16)),
 (none, .mv 18 (.tmp 17)),
 ((some (18, false)), .mv 19 (.tmp 4)),
 ((some (18, false)), .len 20 (.tmp 19)),
 ((some (18, false)), .bin 21 .num .eql (.tmp 20) (.k (.int .i64 0))),
 (none, .pick 22 (.tmp 18) (.k (.bool true)) (.tmp 21))] [0, 2, 4, 22]) (.cond 22 [2] [0, 2, 4] (.seq (.region [(none, .build 23 [.int .i64 0, .int .i64 0, .int .i64 0, .int .i64 0, .int .i64 0, .int .i64 0] []),
 (none, .st 6 (.tmp 2) (.tmp 23)),
 (none, .as 3 (.k (.bool false)))] [2, 3]) (.ret)) (.skip))) (.seq (.region [(none, .mv 24 (.tmp 4)),
 (none, .ia 25 .i (.tmp 24) (.k (.int .i64 0))),
 (none, .ld 26 none (.tmp 25)),
 (none, .build 27 [.int .i64 0, .int .i64 0, .int .i64 0, .int .i64 0, .int .i64 0, .int .i64 0] [(0, 1, (.tmp 26))]),
 (none, .alloc 6 [.int .i64 0, .int .i64 0, .int .i64 0, .int .i64 0, .int .i64 0, .int .i64 0]),
 (none, .st 6 (.tmp 6) (.tmp 27))] [0, 2, 4, 6]) (.join [(true, 6, .one, [.val (.st 0) none])] (.seq (.region [(none, .mv 28 (.tmp 4)),
 (none, .len 29 (.tmp 28))] [0, 2, 4, 6, 29]) (.block 0 (.seq (.region [(none, .bin 31 .num .eql (.tmp 29) (.k (.int .i64 2))),
 (none, .as 30 (.tmp 31))] [0, 2, 4, 6, 29, 30]) (.cond 30 [0, 2, 4, 6] [0, 2, 4, 6, 29] (.region [(none, .mv 32 (.tmp 4)),
 (none, .ia 33 .i (.tmp 32) (.k (.int .i64 1))),
 (none, .ld 34 none (.tmp 33)),
 (none, .fa 35 1 (.tmp 6)),
 (none, .st 1 (.tmp 35) (.tmp 34))] [0, 2, 6]) (.seq (.region [(none, .bin 37 .num .eql (.tmp 29) (.k (.int .i64 3))),
 (none, .as 36 (.tmp 37))] [0, 2, 4, 6, 29, 36]) (.cond 36 [0, 2, 4, 6] [0, 2, 4, 6, 29] (.seq (.region [(none, .mv 38 (.tmp 4)),
 (none, .ia 39 .i (.tmp 38) (.k (.int .i64 1))),
 (none, .ld 40 none (.tmp 39)),
 (none, .fa 41 2 (.tmp 6)),
 (none, .st 1 (.tmp 41) (.tmp 40))] [0, 2, 4, 6]) (.region [(none, .mv 42 (.tmp 4)),
 (none, .ia 43 .i (.tmp 42) (.k (.int .i64 2))),
 (none, .ld 44 none (.tmp 43)),
 (none, .fa 45 4 (.tmp 6)),
 (none, .st 1 (.tmp 45) (.tmp 44))] [0, 2, 6])) (.seq (.region [(none, .bin 47 .num .eql (.tmp 29) (.k (.int .i64 6))),
 (none, .as 46 (.tmp 47))] [0, 2, 4, 6, 46]) (.cond 46 [0, 2, 4, 6] [0, 2, 6] (.dreg (.op 0 none [] (.mv 48 (.tmp 4))
 (.op 1 none [] (.ia 49 .i (.tmp 48) (.k (.int .i64 0)))
 (.op 2 none [] (.ld 50 none (.tmp 49))
 (.op 3 none [] (.mv 51 (.tmp 4))
 (.op 4 none [] (.ia 52 .i (.tmp 51) (.k (.int .i64 1)))
 (.op 5 none [] (.ld 53 none (.tmp 52))
 (.op 6 none [] (.mv 54 (.tmp 4))
 (.op 7 none [] (.ia 55 .i (.tmp 54) (.k (.int .i64 2)))
 (.op 8 none [] (.ld 56 none (.tmp 55))
 (.op 9 none [] (.mv 57 (.tmp 4))
 (.op 10 none [] (.ia 58 .i (.tmp 57) (.k (.int .i64 3)))
 (.op 11 none [] (.ld 59 none (.tmp 58))
 (.op 12 none [] (.bin 60 .num .sub (.tmp 59) (.k (.int .i64 1)))
 (.op 13 none [] (.mv 61 (.tmp 4))
 (.op 14 none [] (.ia 62 .i (.tmp 61) (.k (.int .i64 4)))
 (.op 15 none [] (.ld 63 none (.tmp 62))
 (.op 16 none [] (.mv 64 (.tmp 4))
 (.op 17 none [] (.ia 65 .i (.tmp 64) (.k (.int .i64 5)))
 (.op 18 none [] (.ld 66 none (.tmp 65))
 (.op 19 none [] (.build 67 [.int .i64 0, .int .i64 0, .int .i64 0, .int .i64 0, .int .i64 0, .int .i64 0] [(0, 1, (.tmp 50)), (1, 1, (.tmp 53)), (2, 1, (.tmp 56)), (3, 1, (.tmp 60)), (4, 1, (.tmp 63)), (5, 1, (.tmp 66))])
 (.op 20 none [] (.st 6 (.tmp 6) (.tmp 67))
 .nil))))))))))))))))))))) [0, 2, 6]) (.skip))))))))) (.seq (.seq (.region [(none, .ld 68 (some 6) (.tmp 6)),
 (none, .call 69 gf_spec_ReqBytes [] rfl [(.tmp 68)]),
 (none, .mv 70 (.tmp 0)),
 (none, .bin 71 .num .neq (.tmp 69) (.tmp 70))] [2, 6, 71]) (.cond 71 [2] [2, 6] (.seq (.region [(none, .build 72 [.int .i64 0, .int .i64 0, .int .i64 0, .int .i64 0, .int .i64 0, .int .i64 0] []),
 (none, .st 6 (.tmp 2) (.tmp 72)),
 (none, .as 3 (.k (.bool false)))] [2, 3]) (.ret)) (.skip))) (.seq (.region [(none, .ld 73 (some 6) (.tmp 6)),
 (none, .st 6 (.tmp 2) (.tmp 73)),
 (none, .as 3 (.k (.bool true)))] [2, 3]) (.ret))))))))
noncomputable def d_spec_ReqRead_j2 (p0 : (List UInt8)) (v7 : GReq) : Option (GReq × Bool) :=
  bd (d_spec_ReqBytes v7) fun x8 =>
  br (x8 != p0)
    (some (GReq.mk 0 0 0 0 0 0, false))
    (some (v7, true))
noncomputable def d_spec_ReqRead_j1 (p0 : (List UInt8)) (x1 : ((List Int) × Bool)) (v2 : Bool) : Option (GReq × Bool) :=
  br v2
    (some (GReq.mk 0 0 0 0 0 0, false))
    (bd (at? x1.fst 0) fun x3 =>
    bd (at? x1.fst 0) fun x4 =>
    br ((↑(List.length x1.fst) : Int) == 2)
      (bd (at? x1.fst 1) fun x5 =>
      bd (at? x1.fst 1) fun x6 =>
      jn (d_spec_ReqRead_j2 p0) (GReq.mk x4 x6 0 0 0 0))
      (br ((↑(List.length x1.fst) : Int) == 3)
        (bd (at? x1.fst 1) fun x9 =>
        bd (at? x1.fst 1) fun x10 =>
        bd (at? x1.fst 2) fun x11 =>
        bd (at? x1.fst 2) fun x12 =>
        jn (d_spec_ReqRead_j2 p0) (GReq.mk x4 0 x10 0 x12 0))
        (br ((↑(List.length x1.fst) : Int) == 6)
          (bd (at? x1.fst 0) fun x13 =>
          bd (at? x1.fst 0) fun x14 =>
          bd (at? x1.fst 1) fun x15 =>
          bd (at? x1.fst 1) fun x16 =>
          bd (at? x1.fst 2) fun x17 =>
          bd (at? x1.fst 2) fun x18 =>
          bd (at? x1.fst 3) fun x19 =>
          bd (at? x1.fst 3) fun x20 =>
          bd (at? x1.fst 4) fun x21 =>
          bd (at? x1.fst 4) fun x22 =>
          bd (at? x1.fst 5) fun x23 =>
          bd (at? x1.fst 5) fun x24 =>
          jn (d_spec_ReqRead_j2 p0) (GReq.mk x14 x16 x18 (w64 (x20 - 1)) x22 x24))
          (jn (d_spec_ReqRead_j2 p0) (GReq.mk x4 0 0 0 0 0)))))
noncomputable def d_spec_ReqRead (p0 : (List UInt8)) : Option (GReq × Bool) :=
  br (decide ((↑p0.length : Int) > 60))
    (some (GReq.mk 0 0 0 0 0 0, false))
    (bd (d_spec_l18Read p0) fun x1 =>
    br (!x1.snd)
      (jn (d_spec_ReqRead_j1 p0 x1) true)
      (jn (d_spec_ReqRead_j1 p0 x1) ((↑(List.length x1.fst) : Int) == 0)))
noncomputable def gf_spec_ReqRead : GF := y_spec_ReqRead.gf rfl rfl (fun a => d_spec_ReqRead a.1) (fun a => by kernel_rfl)

noncomputable def y_impl_within : Y.YF where
  R := []
  ps := [.v .i, .v .i, .v .i]
  fs := []
  rk := .ret [.b]
  rs := [.tmp 6]
  body := .seq (.region [(none, .as 6 (.k (.bool false)))] [0, 1, 2]) (.join [(false, 6, .one, [.val .b none])] (.region [(none, .mv 7 (.tmp 0)),
 (none, .mv 8 (.tmp 1)),
 (none, .bin 9 .num .geq (.tmp 7) (.tmp 8)),
 (none, .mv 10 (.tmp 9)),
 ((some (10, true)), .mv 11 (.tmp 0)),
 ((some (10, true)), .mv 12 (.tmp 2)),
 ((some (10, true)), .bin 13 .num .leq (.tmp 11) (.tmp 12)),
 (none, .pick 14 (.tmp 10) (.tmp 13) (.k (.bool false))),
 (none, .as 6 (.tmp 14))] [6]) (.ret))
noncomputable def d_impl_within_j1 (v1 : Bool) : Option Bool :=
  some v1
noncomputable def d_impl_within (p0 : Int) (p1 : Int) (p2 : Int) : Option Bool :=
  br (decide (p0 ≥ p1))
    (jn (d_impl_within_j1) (decide (p0 ≤ p2)))
    (jn (d_impl_within_j1) false)
noncomputable def gf_impl_within : GF := y_impl_within.gf rfl rfl (fun a => d_impl_within a.1 a.2.1 a.2.2.1) (fun a => by kernel_rfl)

noncomputable def y_impl_PutNum : Y.YF where
  R := []
  ps := [.v .i]
  fs := []
  rk := .ret [(.l .u)]
  rs := [.tmp 2]
  body := .seq (.region [(none, .as 2 (.k .nil)),
 (none, .nils [(.tmp 2 0, .u)])] [0]) (.seq (.seq (.region [(none, .mv 4 (.tmp 0)),
 (none, .call 5 gf_impl_within [] rfl [(.tmp 4), (.k (.int .i64 0)), (.k (.int .i64 2147483647))]),
 (none, .un 6 .not (.tmp 5))] [0, 6]) (.cond 6 [] [0] (.seq (.region [(none, .as 2 (.k .nil)),
 (none, .nils [(.tmp 2 0, .u)])] [2]) (.ret)) (.skip))) (.seq (.region [(none, .as 3 (.k .nil)),
 (none, .nils [(.tmp 3 0, .u)])] [0, 3]) (.join [(false, 0, .one, [.val .i none]), (false, 3, .one, [.val (.l .u) none])] (.block 0 (.loop [(false, 0, .one, [.val .i none]), (false, 3, .one, [.val (.l .u) none])] (.seq (.seq (.region [(none, .mv 7 (.tmp 0)),
 (none, .bin 8 .num .geq (.tmp 7) (.k (.int .i64 128)))] [0, 3, 8]) (.cond 8 [0, 3] [0, 3] (.skip) (.exit 0))) (.block 1 (.seq (.region [(none, .mv 9 (.tmp 3)),
 (none, .mv 10 (.tmp 0)),
 (none, .bin 11 .num .rem (.tmp 10) (.k (.int .i64 128))),
 (none, .bin 12 .num .add (.tmp 11) (.k (.int .i64 128))),
 (none, .cvI 13 .u8 (.tmp 12)),
 (none, .bslice 14 1 .u [(0, (.tmp 13))]),
 (none, .app 15 .u true (.tmp 9) (.tmp 14)),
 (none, .as 3 (.tmp 15))] [0, 3]) (.region [(none, .mv 16 (.tmp 0)),
 (none, .bin 17 .num .quo (.tmp 16) (.k (.int .i64 128))),
 (none, .as 0 (.tmp 17))] [0, 3])))))) (.seq (.region [(none, .mv 18 (.tmp 3)),
 (none, .mv 19 (.tmp 0)),
 (none, .cvI 20 .u8 (.tmp 19)),
 (none, .bslice 21 1 .u [(0, (.tmp 20))]),
 (none, .app 22 .u true (.tmp 18) (.tmp 21)),
 (none, .as 2 (.tmp 22))] [2]) (.ret)))))
noncomputable def d_impl_PutNum_j2 (x_ : (Int × (List UInt8))) : Option (List UInt8) :=
  match x_ with
  | (v5, v6) => gd (v6.length + [toB v5].length ≤ lim) (
  some (v6 ++ [toB v5]))
noncomputable def d_impl_PutNum_l1 (L2 : (Int × (List UInt8)) → Option (List UInt8)) (x_ : (Int × (List UInt8))) : Option (List UInt8) :=
  match x_ with
  | (v3, v4) => br (decide (v3 ≥ 128))
    (gd (v4.length + [toB (w64 (Int.tmod v3 128 + 128))].length ≤ lim) (
    L2 ((w64 (Int.tdiv v3 128), v4 ++ [toB (w64 (Int.tmod v3 128 + 128))]))))
    (jn (d_impl_PutNum_j2) (v3, v4))
noncomputable def d_impl_PutNum (p0 : Int) : Option (List UInt8) :=
  bd (d_impl_within p0 0 2147483647) fun x1 =>
  br (!x1)
    (some [])
    (loopN (d_impl_PutNum_l1) big (p0, []))
noncomputable def gf_impl_PutNum : GF := y_impl_PutNum.gf rfl rfl (fun a => d_impl_PutNum a.1) (fun a => by kernel_rfl)

noncomputable def y_impl_GetNum : Y.YF where
  R := []
  ps := [.v (.l .u), .v .i]
  fs := []
  rk := .ret [.i, .i, .b]
  rs := [.tmp 4, .tmp 5, .tmp 6]
  body := .seq (.region [(none, .as 4 (.k (.int .i64 0))),
 (none, .as 5 (.k (.int .i64 0))),
 (none, .as 6 (.k (.bool false)))] [0, 1]) (.seq (.seq (.region [(none, .mv 10 (.tmp 1)),
 (none, .mv 11 (.tmp 0)),
 (none, .len 12 (.tmp 11)),
 (none, .bin 13 .num .sub (.tmp 12) (.k (.int .i64 1))),
 (none, .call 14 gf_impl_within [] rfl [(.tmp 10), (.k (.int .i64 0)), (.tmp 13)]),
 (none, .un 15 .not (.tmp 14))] [0, 1, 15]) (.cond 15 [] [0, 1] (.seq (.region [(none, .as 4 (.k (.int .i64 0))),
 (none, .as 5 (.k (.int .i64 0))),
 (none, .as 6 (.k (.bool false)))] [4, 5, 6]) (.ret)) (.skip))) (.seq (.region [(none, .as 7 (.k (.int .i64 0)))] [0, 1, 7]) (.join [] (.seq (.region [(none, .as 8 (.k (.int .i64 0)))] [0, 1, 7, 8]) (.block 0 (.loop [(false, 7, .one, [.val .i none]), (false, 8, .one, [.val .i none])] (.seq (.join [(false, 25, .one, [.val .b none])] (.region [(none, .mv 16 (.tmp 8)),
 (none, .bin 17 .num .lss (.tmp 16) (.k (.int .i64 5))),
 (none, .mv 18 (.tmp 17)),
 ((some (18, true)), .mv 19 (.tmp 1)),
 ((some (18, true)), .mv 20 (.tmp 8)),
 ((some (18, true)), .bin 21 .num .add (.tmp 19) (.tmp 20)),
 ((some (18, true)), .mv 22 (.tmp 0)),
 ((some (18, true)), .len 23 (.tmp 22)),
 ((some (18, true)), .bin 24 .num .lss (.tmp 21) (.tmp 23)),
 (none, .pick 25 (.tmp 18) (.tmp 24) (.k (.bool false)))] [0, 1, 7, 8, 25]) (.cond 25 [0, 1, 7, 8] [] (.skip) (.exit 0))) (.seq (.block 1 (.seq (.region [(none, .mv 28 (.tmp 0)),
 (none, .mv 29 (.tmp 1)),
 (none, .mv 30 (.tmp 8)),
 (none, .bin 31 .num .add (.tmp 29) (.tmp 30)),
 (none, .ia 32 .u (.tmp 28) (.tmp 31)),
 (none, .ld 33 none (.tmp 32)),
 (none, .cvI 34 .i64 (.tmp 33)),
 (none, .as 9 (.tmp 34))] [0, 1, 7, 8, 9]) (.seq (.region [(none, .mv 35 (.tmp 7)),
 (none, .mv 36 (.tmp 9)),
 (none, .bin 37 .num .rem (.tmp 36) (.k (.int .i64 128))),
 (none, .mv 38 (.tmp 8)),
 (none, .bin 39 .num .mul (.k (.int .i64 7)) (.tmp 38)),
 (none, .bin 40 .num .shl (.tmp 37) (.tmp 39)),
 (none, .bin 41 .num .add (.tmp 35) (.tmp 40)),
 (none, .as 7 (.tmp 41))] [0, 1, 7, 8, 9]) (.seq (.region [(none, .mv 42 (.tmp 9)),
 (none, .bin 43 .num .lss (.tmp 42) (.k (.int .i64 128)))] [0, 1, 7, 8, 43]) (.cond 43 [1, 7, 8] [0, 1, 7, 8] (.seq (.seq (.region [(none, .mv 44 (.tmp 7)),
 (none, .call 45 gf_impl_PutNum [] rfl [(.tmp 44)]),
 (none, .len 46 (.tmp 45)),
 (none, .mv 47 (.tmp 8)),
 (none, .bin 48 .num .add (.tmp 47) (.k (.int .i64 1))),
 (none, .bin 49 .num .neq (.tmp 46) (.tmp 48))] [1, 7, 8, 49]) (.cond 49 [] [1, 7, 8] (.seq (.region [(none, .as 4 (.k (.int .i64 0))),
 (none, .as 5 (.k (.int .i64 0))),
 (none, .as 6 (.k (.bool false)))] [4, 5, 6]) (.ret)) (.skip))) (.seq (.region [(none, .mv 50 (.tmp 7)),
 (none, .mv 51 (.tmp 1)),
 (none, .mv 52 (.tmp 8)),
 (none, .bin 53 .num .add (.tmp 51) (.tmp 52)),
 (none, .bin 54 .num .add (.tmp 53) (.k (.int .i64 1))),
 (none, .as 4 (.tmp 50)),
 (none, .as 5 (.tmp 54)),
 (none, .as 6 (.k (.bool true)))] [4, 5, 6]) (.ret))) (.skip)))))) (.region [(none, .mv 26 (.tmp 8)),
 (none, .bin 27 .num .add (.tmp 26) (.k (.int .i64 1))),
 (none, .as 8 (.tmp 27))] [0, 1, 7, 8])))))) (.seq (.region [(none, .as 4 (.k (.int .i64 0))),
 (none, .as 5 (.k (.int .i64 0))),
 (none, .as 6 (.k (.bool false)))] [4, 5, 6]) (.ret)))))
noncomputable def d_impl_GetNum_j3 (_ : PUnit) : Option (Int × Int × Bool) :=
  some (0, 0, false)
noncomputable def d_impl_GetNum_j2 (p0 : (List UInt8)) (p1 : Int) (L2 : (Int × Int) → Option (Int × Int × Bool)) (v3 : Int) (v4 : Int) (v5 : Bool) : Option (Int × Int × Bool) :=
  br v5
    (bd (at? p0 (w64 (p1 + v4))) fun x6 =>
    gd (¬w64 (7 * v4) < 0) (
    br (decide (w64 (↑(UInt8.toNat x6) : Int) < 128))
      (bd (d_impl_PutNum (w64 (v3 + shlI ((w64 (↑(UInt8.toNat x6) : Int)).tmod 128) (w64 (7 * v4))))) fun x7 =>
      br ((↑(List.length x7) : Int) != w64 (v4 + 1))
        (some (0, 0, false))
        (some ((w64 (v3 + shlI ((w64 (↑(UInt8.toNat x6) : Int)).tmod 128) (w64 (7 * v4))), w64 (w64 (p1 + v4) + 1), true))))
      (L2 ((w64 (v3 + shlI ((w64 (↑(UInt8.toNat x6) : Int)).tmod 128) (w64 (7 * v4))), w64 (v4 + 1))))))
    (jn (d_impl_GetNum_j3) ())
noncomputable def d_impl_GetNum_l1 (p0 : (List UInt8)) (p1 : Int) (L2 : (Int × Int) → Option (Int × Int × Bool)) (x_ : (Int × Int)) : Option (Int × Int × Bool) :=
  match x_ with
  | (v3, v4) => br (decide (v4 < 5))
    (jn (d_impl_GetNum_j2 p0 p1 L2 v3 v4) (decide (w64 (p1 + v4) < (↑p0.length : Int))))
    (jn (d_impl_GetNum_j2 p0 p1 L2 v3 v4) false)
noncomputable def d_impl_GetNum (p0 : (List UInt8)) (p1 : Int) : Option (Int × Int × Bool) :=
  bd (d_impl_within p1 0 (w64 ((↑p0.length : Int) - 1))) fun x1 =>
  br (!x1)
    (some (0, 0, false))
    (loopN (d_impl_GetNum_l1 p0 p1) big (0, 0))
noncomputable def gf_impl_GetNum : GF := y_impl_GetNum.gf rfl rfl (fun a => d_impl_GetNum a.1 a.2.1) (fun a => by kernel_rfl)

noncomputable def y_impl_getNums : Y.YF where
  R := []
  ps := [.v .s]
  fs := []
  rk := .ret [(.l .i), .b]
  rs := [.tmp 2, .tmp 3]
  body := .seq (.region [(none, .as 2 (.k .nil)),
 (none, .nils [(.tmp 2 0, .i)]),
 (none, .as 3 (.k (.bool false)))] [0]) (.seq (.region [(none, .mv 10 (.tmp 0)),
 (none, .cvSB 11 (.tmp 10)),
 (none, .as 4 (.tmp 11))] [4]) (.seq (.region [(none, .as 5 (.k .nil)),
 (none, .nils [(.tmp 5 0, .i)])] [4, 5]) (.join [(false, 5, .one, [.val (.l .i) none])] (.seq (.region [(none, .as 6 (.k (.int .i64 0)))] [4, 5, 6]) (.block 0 (.loop [(false, 5, .one, [.val (.l .i) none]), (false, 6, .one, [.val .i none])] (.seq (.seq (.region [(none, .mv 12 (.tmp 6)),
 (none, .mv 13 (.tmp 4)),
 (none, .len 14 (.tmp 13)),
 (none, .bin 15 .num .lss (.tmp 12) (.tmp 14))] [4, 5, 6, 15]) (.cond 15 [4, 5, 6] [5] (.skip) (.exit 0))) (.block 1 (.seq (.region [(none, .mv 17 (.tmp 4)),
 (none, .mv 18 (.tmp 6)),
 (none, .call 19 gf_impl_GetNum [] rfl [(.tmp 17), (.tmp 18)]),
 (none, .mv 16 (.tmp 19)),
 (none, .ext 20 (.tmp 16) 0),
 (none, .ext 21 (.tmp 16) 1),
 (none, .ext 22 (.tmp 16) 2),
 (none, .as 7 (.tmp 20)),
 (none, .as 8 (.tmp 21)),
 (none, .as 9 (.tmp 22))] [4, 5, 7, 8, 9]) (.seq (.seq (.region [(none, .mv 23 (.tmp 9)),
 (none, .un 24 .not (.tmp 23))] [4, 5, 7, 8, 24]) (.cond 24 [] [4, 5, 7, 8] (.seq (.region [(none, .as 2 (.k .nil)),
 (none, .nils [(.tmp 2 0, .i)]),
 (none, .as 3 (.k (.bool false)))] [2, 3]) (.ret)) (.skip))) (.seq (.region [(none, .mv 25 (.tmp 5)),
 (none, .mv 26 (.tmp 7)),
 (none, .bslice 27 1 .i [(0, (.tmp 26))]),
 (none, .app 28 .i true (.tmp 25) (.tmp 27)),
 (none, .as 5 (.tmp 28))] [4, 5, 8]) (.region [(none, .mv 29 (.tmp 8)),
 (none, .as 6 (.tmp 29))] [4, 5, 6]))))))))) (.seq (.region [(none, .mv 30 (.tmp 5)),
 (none, .as 2 (.tmp 30)),
 (none, .as 3 (.k (.bool true)))] [2, 3]) (.ret)))))
noncomputable def d_impl_getNums_j2 (v5 : (List Int)) : Option ((List Int) × Bool) :=
  some (v5, true)
noncomputable def d_impl_getNums_l1 (p0 : (List UInt8)) (L1 : ((List Int) × Int) → Option ((List Int) × Bool)) (x_ : ((List Int) × Int)) : Option ((List Int) × Bool) :=
  match x_ with
  | (v2, v3) => br (decide (v3 < (↑p0.length : Int)))
    (bd (d_impl_GetNum p0 v3) fun x4 =>
    br (!x4.snd.snd)
      (some ([], false))
      (gd (List.length v2 + [x4.fst].length ≤ lim) (
      L1 (v2 ++ [x4.fst], x4.snd.fst))))
    (jn (d_impl_getNums_j2) v2)
noncomputable def d_impl_getNums (p0 : (List UInt8)) : Option ((List Int) × Bool) :=
  loopN (d_impl_getNums_l1 p0) big ([], 0)
noncomputable def gf_impl_getNums : GF := y_impl_getNums.gf rfl rfl (fun a => d_impl_getNums a.1) (fun a => by kernel_rfl)

noncomputable def y_impl_ReqOk_1 : Y.YF where
  R := []
  ps := [.v .i]
  fs := []
  rk := .ret [.b]
  rs := [.tmp 2]
  body := .seq (.region [(none, .as 2 (.k (.bool false)))] [0]) (.seq (.region [(none, .mv 3 (.tmp 0)),
 (none, .call 4 gf_impl_within [] rfl [(.tmp 3), (.k (.int .i64 0)), (.k (.int .i64 9999))]),
 (none, .as 2 (.tmp 4))] [2]) (.ret))
noncomputable def d_impl_ReqOk_1 (p0 : Int) : Option Bool :=
  bd (d_impl_within p0 0 9999) fun x1 =>
  some x1
noncomputable def gf_impl_ReqOk_1 : GF := y_impl_ReqOk_1.gf rfl rfl (fun a => d_impl_ReqOk_1 a.1) (fun a => by kernel_rfl)

noncomputable def y_impl_ReqOk : Y.YF where
  R := [gf_impl_ReqOk_1]
  ps := [.v (.st 0)]
  fs := []
  rk := .ret [.b]
  rs := [.tmp 2]
  body := .seq (.region [(none, .box 1 (.tmp 0)),
 (none, .as 2 (.k (.bool false)))] [1]) (.seq (.region [(none, .as 3 (.fn 0))] [1, 3]) (.seq (.seq (.region [(none, .fa 4 0 (.tmp 1)),
 (none, .ld 5 none (.tmp 4))] [1, 3, 5]) (.block 0 (.seq (.region [(none, .bin 7 .num .eql (.tmp 5) (.k (.int .i64 1))),
 (none, .as 6 (.tmp 7))] [1, 3, 5, 6]) (.cond 6 [1, 3] [1, 3, 5] (.join [(false, 2, .one, [.val .b none])] (.region [(none, .mv 8 (.tmp 3)),
 (none, .fa 9 1 (.tmp 1)),
 (none, .ld 10 none (.tmp 9)),
 (none, .callv 11 (.tmp 8) [.v] [(.tmp 10)]),
 (none, .mv 12 (.tmp 11)),
 ((some (12, true)), .mv 13 (.tmp 3)),
 ((some (12, true)), .fa 14 2 (.tmp 1)),
 ((some (12, true)), .ld 15 none (.tmp 14)),
 ((some (12, true)), .callv 16 (.tmp 13) [.v] [(.tmp 15)]),
 (none, .pick 17 (.tmp 12) (.tmp 16) (.k (.bool false))),
 (none, .mv 18 (.tmp 17)),
 ((some (18, true)), .fa 19 3 (.tmp 1)),
 ((some (18, true)), .ld 20 none (.tmp 19)),
 ((some (18, true)), .call 21 gf_impl_within [] rfl [(.tmp 20), (.k (.int .i64 (-1))), (.k (.int .i64 9999))]),
 (none, .pick 22 (.tmp 18) (.tmp 21) (.k (.bool false))),
 (none, .mv 23 (.tmp 22)),
 ((some (23, true)), .mv 24 (.tmp 3)),
 ((some (23, true)), .fa 25 4 (.tmp 1)),
 ((some (23, true)), .ld 26 none (.tmp 25)),
 ((some (23, true)), .callv 27 (.tmp 24) [.v] [(.tmp 26)]),
 (none, .pick 28 (.tmp 23) (.tmp 27) (.k (.bool false))),
 (none, .mv 29 (.tmp 28)),
 ((some (29, true)), .mv 30 (.tmp 3)),
 ((some (29, true)), .fa 31 5 (.tmp 1)),
 ((some (29, true)), .ld 32 none (.tmp 31)),
 ((some (29, true)), .callv 33 (.tmp 30) [.v] [(.tmp 32)]),
 (none, .pick 34 (.tmp 29) (.tmp 33) (.k (.bool false))),
 (none, .as 2 (.tmp 34))] [2]) (.ret)) (.join [(false, 35, .one, [.val .b none])] (.seq (.region [(none, .bin 36 .num .eql (.tmp 5) (.k (.int .i64 2))),
 (none, .as 35 (.tmp 36))] [1, 3, 5, 35]) (.cond 35 [1, 3, 5, 35] [1, 3, 5] (.skip) (.seq (.region [(none, .bin 37 .num .eql (.tmp 5) (.k (.int .i64 4))),
 (none, .as 35 (.tmp 37))] [1, 3, 5, 35]) (.cond 35 [1, 3, 5, 35] [1, 3, 5] (.skip) (.seq (.region [(none, .bin 38 .num .eql (.tmp 5) (.k (.int .i64 5))),
 (none, .as 35 (.tmp 38))] [1, 3, 5, 35]) (.cond 35 [1, 3, 5, 35] [1, 3, 5] (.skip) (.region [(none, .bin 39 .num .eql (.tmp 5) (.k (.int .i64 7))),
 (none, .as 35 (.tmp 39))] [1, 3, 5, 35]))))))) (.cond 35 [1, 3] [1, 3, 5] (.join [(false, 2, .one, [.val .b none])] (.region [(none, .mv 40 (.tmp 3)),
 (none, .fa 41 1 (.tmp 1)),
 (none, .ld 42 none (.tmp 41)),
 (none, .callv 43 (.tmp 40) [.v] [(.tmp 42)]),
 (none, .mv 44 (.tmp 43)),
 ((some (44, true)), .ld 45 (some 6) (.tmp 1)),
 ((some (44, true)), .fa 46 0 (.tmp 1)),
 ((some (44, true)), .ld 47 none (.tmp 46)),
 ((some (44, true)), .fa 48 1 (.tmp 1)),
 ((some (44, true)), .ld 49 none (.tmp 48)),
 ((some (44, true)), .build 50 [.int .i64 0, .int .i64 0, .int .i64 0, .int .i64 0, .int .i64 0, .int .i64 0] [(0, 1, (.tmp 47)), (1, 1, (.tmp 49))]),
 ((some (44, true)), .bin 51 (.agg [.i, .i, .i, .i, .i, .i]) .eql (.tmp 45) (.tmp 50)),
 (none, .pick 52 (.tmp 44) (.tmp 51) (.k (.bool false))),
 (none, .as 2 (.tmp 52))] [2]) (.ret)) (.seq (.region [(none, .bin 54 .num .eql (.tmp 5) (.k (.int .i64 3))),
 (none, .as 53 (.tmp 54))] [1, 3, 5, 53]) (.cond 53 [1, 3] [1, 5] (.join [(false, 2, .one, [.val .b none])] (.region [(none, .mv 55 (.tmp 3)),
 (none, .fa 56 2 (.tmp 1)),
 (none, .ld 57 none (.tmp 56)),
 (none, .callv 58 (.tmp 55) [.v] [(.tmp 57)]),
 (none, .mv 59 (.tmp 58)),
 ((some (59, true)), .mv 60 (.tmp 3)),
 ((some (59, true)), .fa 61 4 (.tmp 1)),
 ((some (59, true)), .ld 62 none (.tmp 61)),
 ((some (59, true)), .callv 63 (.tmp 60) [.v] [(.tmp 62)]),
 (none, .pick 64 (.tmp 59) (.tmp 63) (.k (.bool false))),
 (none, .mv 65 (.tmp 64)),
 ((some (65, true)), .ld 66 (some 6) (.tmp 1)),
 ((some (65, true)), .fa 67 0 (.tmp 1)),
 ((some (65, true)), .ld 68 none (.tmp 67)),
 ((some (65, true)), .fa 69 2 (.tmp 1)),
 ((some (65, true)), .ld 70 none (.tmp 69)),
 ((some (65, true)), .fa 71 4 (.tmp 1)),
 ((some (65, true)), .ld 72 none (.tmp 71)),
 ((some (65, true)), .build 73 [.int .i64 0, .int .i64 0, .int .i64 0, .int .i64 0, .int .i64 0, .int .i64 0] [(0, 1, (.tmp 68)), (2, 1, (.tmp 70)), (4, 1, (.tmp 72))]),
 ((some (65, true)), .bin 74 (.agg [.i, .i, .i, .i, .i, .i]) .eql (.tmp 66) (.tmp 73)),
 (none, .pick 75 (.tmp 65) (.tmp 74) (.k (.bool false))),
 (none, .as 2 (.tmp 75))] [2]) (.ret)) (.seq (.region [(none, .bin 77 .num .eql (.tmp 5) (.k (.int .i64 6))),
 (none, .as 76 (.tmp 77))] [1, 76]) (.cond 76 [1] [] (.seq (.region [(none, .ld 78 (some 6) (.tmp 1)),
 (none, .build 79 [.int .i64 0, .int .i64 0, .int .i64 0, .int .i64 0, .int .i64 0, .int .i64 0] [(0, 1, (.k (.int .i64 6)))]),
 (none, .bin 80 (.agg [.i, .i, .i, .i, .i, .i]) .eql (.tmp 78) (.tmp 79)),
 (none, .as 2 (.tmp 80))] [2]) (.ret)) (.skip))))))))))) (.seq (.region [(none, .as 2 (.k (.bool false)))] [2]) (.ret))))
noncomputable def d_impl_ReqOk_j1 (v6 : Bool) : Option Bool :=
  some v6
noncomputable def d_impl_ReqOk_j2 (p0 : GReq) (v7 : Bool) : Option Bool :=
  br v7
    (bd (d_impl_ReqOk_1 p0.Id) fun x8 =>
    br x8
      (jn (d_impl_ReqOk_j1) (p0.Kind == p0.Kind && (p0.Id == p0.Id && (p0.Cabin == 0 && (p0.From == 0 && (p0.Size == 0 && (p0.Tier == 0 && true)))))))
      (jn (d_impl_ReqOk_j1) false))
    (br (p0.Kind == 3)
      (bd (d_impl_ReqOk_1 p0.Cabin) fun x9 =>
      br x9
        (bd (d_impl_ReqOk_1 p0.Size) fun x10 =>
        br x10
          (jn (d_impl_ReqOk_j1) (p0.Kind == p0.Kind && (p0.Id == 0 && (p0.Cabin == p0.Cabin && (p0.From == 0 && (p0.Size == p0.Size && (p0.Tier == 0 && true)))))))
          (jn (d_impl_ReqOk_j1) false))
        (jn (d_impl_ReqOk_j1) false))
      (br (p0.Kind == 6)
        (some (p0.Kind == 6 && (p0.Id == 0 && (p0.Cabin == 0 && (p0.From == 0 && (p0.Size == 0 && (p0.Tier == 0 && true)))))))
        (some false)))
noncomputable def d_impl_ReqOk (p0 : GReq) : Option Bool :=
  br (p0.Kind == 1)
    (bd (d_impl_ReqOk_1 p0.Id) fun x1 =>
    br x1
      (bd (d_impl_ReqOk_1 p0.Cabin) fun x2 =>
      br x2
        (bd (d_impl_within p0.From (-1) 9999) fun x3 =>
        br x3
          (bd (d_impl_ReqOk_1 p0.Size) fun x4 =>
          br x4
            (bd (d_impl_ReqOk_1 p0.Tier) fun x5 =>
            jn (d_impl_ReqOk_j1) x5)
            (jn (d_impl_ReqOk_j1) false))
          (jn (d_impl_ReqOk_j1) false))
        (jn (d_impl_ReqOk_j1) false))
      (jn (d_impl_ReqOk_j1) false))
    (br (p0.Kind == 2)
      (jn (d_impl_ReqOk_j2 p0) (p0.Kind == 2))
      (br (p0.Kind == 4)
        (jn (d_impl_ReqOk_j2 p0) (p0.Kind == 4))
        (br (p0.Kind == 5)
          (jn (d_impl_ReqOk_j2 p0) (p0.Kind == 5))
          (jn (d_impl_ReqOk_j2 p0) (p0.Kind == 7)))))
noncomputable def gf_impl_ReqOk : GF := y_impl_ReqOk.gf rfl rfl (fun a => d_impl_ReqOk a.1) (fun a => by kernel_rfl)

noncomputable def y_impl_putNums : Y.YF where
  R := []
  ps := [.v (.l .i)]
  fs := []
  rk := .ret [.s]
  rs := [.tmp 2]
  body := .seq (.region [(none, .as 2 (.k (.str [])))] [0]) (.seq (.region [(none, .as 3 (.k .nil)),
 (none, .nils [(.tmp 3 0, .u)])] [0, 3]) (.join [(false, 3, .one, [.val (.l .u) none])] (.seq (.region [(none, .mv 6 (.tmp 0)),
 (none, .len 7 (.tmp 6)),
 (none, .mv 8 (.k (.int .i64 0)))] [3, 6, 7, 8]) (.block 0 (.loop [(false, 3, .one, [.val (.l .u) none]), (false, 8, .one, [.val .i none])] (.seq (.region [(none, .bin 9 .num .lss (.tmp 8) (.tmp 7))] [3, 6, 7, 8, 9]) (.seq (.cond 9 [3, 6, 7, 8] [3] (.skip) (.exit 0)) (.seq (.block 1 (.seq (.region [(none, .ia 10 .i (.tmp 6) (.tmp 8)),
 (none, .ld 11 none (.tmp 10)),
 (none, .as 5 (.tmp 11))] [3, 5, 6, 7, 8]) (.region [(none, .mv 12 (.tmp 3)),
 (none, .mv 13 (.tmp 5)),
 (none, .call 14 gf_impl_PutNum [] rfl [(.tmp 13)]),
 (none, .app 15 .u true (.tmp 12) (.tmp 14)),
 (none, .as 3 (.tmp 15))] [3, 6, 7, 8]))) (.region [(none, .bin 16 .num .add (.tmp 8) (.k (.int .i64 1))),
 (none, .mv 8 (.tmp 16))] [3, 6, 7, 8]))))))) (.seq (.region [(none, .mv 17 (.tmp 3)),
 (none, .cvBS 18 (.tmp 17)),
 (none, .as 2 (.tmp 18))] [2]) (.ret))))
noncomputable def d_impl_putNums_j2 (v6 : (List UInt8)) : Option (List UInt8) :=
  some v6
noncomputable def d_impl_putNums_l1 (p0 : (List Int)) (L1 : ((List UInt8) × Int) → Option (List UInt8)) (x_ : ((List UInt8) × Int)) : Option (List UInt8) :=
  match x_ with
  | (v2, v3) => br (decide (v3 < (↑p0.length : Int)))
    (bd (at? p0 v3) fun x4 =>
    bd (d_impl_PutNum x4) fun x5 =>
    gd (List.length v2 + List.length x5 ≤ lim) (
    L1 ((v2 ++ x5, w64 (v3 + 1)))))
    (jn (d_impl_putNums_j2) v2)
noncomputable def d_impl_putNums (p0 : (List Int)) : Option (List UInt8) :=
  loopN (d_impl_putNums_l1 p0) big ([], 0)
noncomputable def gf_impl_putNums : GF := y_impl_putNums.gf rfl rfl (fun a => d_impl_putNums a.1) (fun a => by kernel_rfl)

noncomputable def y_impl_ReqBytes : Y.YF where
  R := []
  ps := [.v (.st 0)]
  fs := []
  rk := .ret [.s]
  rs := [.tmp 2]
  body := .seq (.region [(none, .box 1 (.tmp 0)),
 (none, .as 2 (.k (.str [])))] [1]) (.seq (.seq (.region [(none, .ld 4 (some 6) (.tmp 1)),
 (none, .call 5 gf_impl_ReqOk [] rfl [(.tmp 4)]),
 (none, .un 6 .not (.tmp 5))] [1, 6]) (.cond 6 [] [1] (.seq (.region [(none, .as 2 (.k (.str [])))] [2]) (.ret)) (.skip))) (.seq (.region [(none, .fa 7 0 (.tmp 1)),
 (none, .ld 8 none (.tmp 7)),
 (none, .bslice 9 1 .i [(0, (.tmp 8))]),
 (none, .as 3 (.tmp 9))] [1, 3]) (.join [(false, 3, .one, [.val (.l .i) none])] (.seq (.region [(none, .fa 10 0 (.tmp 1)),
 (none, .ld 11 none (.tmp 10))] [1, 3, 11]) (.block 0 (.seq (.region [(none, .bin 18 .num .eql (.tmp 11) (.k (.int .i64 1))),
 (none, .as 17 (.tmp 18))] [1, 3, 11, 17]) (.cond 17 [1, 3] [1, 3, 11] (.region [(none, .mv 19 (.tmp 3)),
 (none, .fa 20 1 (.tmp 1)),
 (none, .ld 21 none (.tmp 20)),
 (none, .fa 22 2 (.tmp 1)),
 (none, .ld 23 none (.tmp 22)),
 (none, .fa 24 3 (.tmp 1)),
 (none, .ld 25 none (.tmp 24)),
 (none, .bin 26 .num .add (.tmp 25) (.k (.int .i64 1))),
 (none, .fa 27 4 (.tmp 1)),
 (none, .ld 28 none (.tmp 27)),
 (none, .fa 29 5 (.tmp 1)),
 (none, .ld 30 none (.tmp 29)),
 (none, .bslice 31 5 .i [(0, (.tmp 21)), (1, (.tmp 23)), (2, (.tmp 26)), (3, (.tmp 28)), (4, (.tmp 30))]),
 (none, .app 32 .i true (.tmp 19) (.tmp 31)),
 (none, .as 3 (.tmp 32))] [3]) (.seq (.region [(none, .bin 34 .num .eql (.tmp 11) (.k (.int .i64 3))),
 (none, .as 33 (.tmp 34))] [1, 3, 11, 33]) (.cond 33 [1, 3] [1, 3, 11] (.region [(none, .mv 35 (.tmp 3)),
 (none, .fa 36 2 (.tmp 1)),
 (none, .ld 37 none (.tmp 36)),
 (none, .fa 38 4 (.tmp 1)),
 (none, .ld 39 none (.tmp 38)),
 (none, .bslice 40 2 .i [(0, (.tmp 37)), (1, (.tmp 39))]),
 (none, .app 41 .i true (.tmp 35) (.tmp 40)),
 (none, .as 3 (.tmp 41))] [3]) (.seq (.region [(none, .bin 43 .num .eql (.tmp 11) (.k (.int .i64 6))),
 (none, .as 42 (.tmp 43))] [1, 3, 42]) (.cond 42 [3] [1, 3] (.skip) (.region [(none, .mv 12 (.tmp 3)),
 (none, .fa 13 1 (.tmp 1)),
 (none, .ld 14 none (.tmp 13)),
 (none, .bslice 15 1 .i [(0, (.tmp 14))]),
 (none, .app 16 .i true (.tmp 12) (.tmp 15)),
 (none, .as 3 (.tmp 16))] [3]))))))))) (.seq (.region [(none, .mv 44 (.tmp 3)),
 (none, .call 45 gf_impl_putNums [] rfl [(.tmp 44)]),
 (none, .as 2 (.tmp 45))] [2]) (.ret)))))
noncomputable def d_impl_ReqBytes_j1 (v2 : (List Int)) : Option (List UInt8) :=
  bd (d_impl_putNums v2) fun x3 =>
  some x3
noncomputable def d_impl_ReqBytes (p0 : GReq) : Option (List UInt8) :=
  bd (d_impl_ReqOk p0) fun x1 =>
  br (!x1)
    (some [])
    (br (p0.Kind == 1)
      (gd ([p0.Kind].length + [p0.Id, p0.Cabin, w64 (p0.From + 1), p0.Size, p0.Tier].length ≤ lim) (
      jn (d_impl_ReqBytes_j1) ([p0.Kind] ++ [p0.Id, p0.Cabin, w64 (p0.From + 1), p0.Size, p0.Tier])))
      (br (p0.Kind == 3)
        (gd ([p0.Kind].length + [p0.Cabin, p0.Size].length ≤ lim) (
        jn (d_impl_ReqBytes_j1) ([p0.Kind] ++ [p0.Cabin, p0.Size])))
        (br (p0.Kind == 6)
          (jn (d_impl_ReqBytes_j1) [p0.Kind])
          (gd ([p0.Kind].length + [p0.Id].length ≤ lim) (
          jn (d_impl_ReqBytes_j1) ([p0.Kind] ++ [p0.Id]))))))
noncomputable def gf_impl_ReqBytes : GF := y_impl_ReqBytes.gf rfl rfl (fun a => d_impl_ReqBytes a.1) (fun a => by kernel_rfl)

noncomputable def y_impl_ReqRead : Y.YF where
  R := []
  ps := [.v .s]
  fs := []
  rk := .ret [(.st 0), .b]
  rs := [.cell 2 (some 6), .tmp 3]
  body := .seq (.region [(none, .alloc 2 [.int .i64 0, .int .i64 0, .int .i64 0, .int .i64 0, .int .i64 0, .int .i64 0]),
 (none, .as 3 (.k (.bool false)))] [0, 2]) (.seq (.region [(none, .mv 10 (.tmp 0)),
 (none, .call 11 gf_impl_getNums [] rfl [(.tmp 10)]),
 (none, .mv 9 (.tmp 11)),
 (none, .ext 12 (.tmp 9) 0),
 (none, .ext 13 (.tmp 9) 1),
 (none, .as 4 (.tmp 12)),
 (none, .as 5 (.tmp 13))] [0, 2, 4, 5]) (.seq (.join [(false, 20, .one, [.val .b none])] (.region [(none, .mv 14 (.tmp 5)),
 (none, .un 15 .not (.tmp 14)),
 (none, .mv 16 (.tmp 15)),
 ((some (16, false)), .mv 17 (.tmp 4)),
 ((some (16, false)), .len 18 (.tmp 17)),
 ((some (16, false)), .bin 19 .num .eql (.tmp 18) (.k (.int .i64 0))),
 (none, .pick 20 (.tmp 16) (.k (.bool true)) (.tmp 19))] [0, 2, 4, 20]) (.cond 20 [2] [0, 2, 4] (.seq (.region [(none, .build 21 [.int .i64 0, .int .i64 0, .int .i64 0, .int .i64 0, .int .i64 0, .int .i64 0] []),
 (none, .st 6 (.tmp 2) (.tmp 21)),
 (none, .as 3 (.k (.bool false)))] [2, 3]) (.ret)) (.skip))) (.seq (.region [(none, .mv 22 (.tmp 4)),
 (none, .ia 23 .i (.tmp 22) (.k (.int .i64 0))),
 (none, .ld 24 none (.tmp 23)),
 (none, .build 25 [.int .i64 0, .int .i64 0, .int .i64 0, .int .i64 0, .int .i64 0, .int .i64 0] [(0, 1, (.tmp 24))]),
 (none, .alloc 6 [.int .i64 0, .int .i64 0, .int .i64 0, .int .i64 0, .int .i64 0, .int .i64 0]),
 (none, .st 6 (.tmp 6) (.tmp 25))] [0, 2, 4, 6]) (.seq (.region [(none, .mv 26 (.tmp 4)),
 (none, .sub 27 .i (.tmp 26) (some (.k (.int .i64 1))) none),
 (none, .appz 28 .i (.tmp 27) (.k (.int .i64 5))),
 (none, .as 7 (.tmp 28))] [0, 2, 6, 7]) (.join [(true, 6, .one, [.val (.st 0) none])] (.seq (.region [(none, .fa 29 0 (.tmp 6)),
 (none, .ld 30 none (.tmp 29))] [0, 2, 6, 7, 30]) (.block 0 (.seq (.region [(none, .bin 36 .num .eql (.tmp 30) (.k (.int .i64 1))),
 (none, .as 35 (.tmp 36))] [0, 2, 6, 7, 30, 35]) (.cond 35 [0, 2, 6, 7] [0, 2, 6, 7, 30] (.dreg (.op 0 none [] (.mv 37 (.tmp 7))
 (.op 1 none [] (.ia 38 .i (.tmp 37) (.k (.int .i64 0)))
 (.op 2 none [] (.ld 39 none (.tmp 38))
 (.op 3 none [] (.mv 40 (.tmp 7))
 (.op 4 none [] (.ia 41 .i (.tmp 40) (.k (.int .i64 1)))
 (.op 5 none [] (.ld 42 none (.tmp 41))
 (.op 6 none [] (.mv 43 (.tmp 7))
 (.op 7 none [] (.ia 44 .i (.tmp 43) (.k (.int .i64 2)))
 (.op 8 none [] (.ld 45 none (.tmp 44))
 (.op 9 none [] (.bin 46 .num .sub (.tmp 45) (.k (.int .i64 1)))
 (.op 10 none [] (.mv 47 (.tmp 7))
 (.op 11 none [] (.ia 48 .i (.tmp 47) (.k (.int .i64 3)))
 (.op 12 none [] (.ld 49 none (.tmp 48))
 (.op 13 none [] (.mv 50 (.tmp 7))
 (.op 14 none [] (.ia 51 .i (.tmp 50) (.k (.int .i64 4)))
 (.op 15 none [] (.ld 52 none (.tmp 51))
 (.op 16 none [] (.fa 53 1 (.tmp 6))
 (.op 17 none [41, 44, 48, 51] (.st 1 (.tmp 53) (.tmp 39))
 (.op 18 none [] (.fa 54 2 (.tmp 6))
 (.op 19 none [44, 48, 51] (.st 1 (.tmp 54) (.tmp 42))
 (.op 20 none [] (.fa 55 3 (.tmp 6))
 (.op 21 none [48, 51] (.st 1 (.tmp 55) (.tmp 46))
 (.op 22 none [] (.fa 56 4 (.tmp 6))
 (.op 23 none [51] (.st 1 (.tmp 56) (.tmp 49))
 (.op 24 none [] (.fa 57 5 (.tmp 6))
 (.op 25 none [] (.st 1 (.tmp 57) (.tmp 52))
 .nil)))))))))))))))))))))))))) [0, 2, 6]) (.seq (.region [(none, .bin 59 .num .eql (.tmp 30) (.k (.int .i64 3))),
 (none, .as 58 (.tmp 59))] [0, 2, 6, 7, 30, 58]) (.cond 58 [0, 2, 6, 7] [0, 2, 6, 7, 30] (.dreg (.op 0 none [] (.mv 60 (.tmp 7))
 (.op 1 none [] (.ia 61 .i (.tmp 60) (.k (.int .i64 0)))
 (.op 2 none [] (.ld 62 none (.tmp 61))
 (.op 3 none [] (.mv 63 (.tmp 7))
 (.op 4 none [] (.ia 64 .i (.tmp 63) (.k (.int .i64 1)))
 (.op 5 none [] (.ld 65 none (.tmp 64))
 (.op 6 none [] (.fa 66 2 (.tmp 6))
 (.op 7 none [64] (.st 1 (.tmp 66) (.tmp 62))
 (.op 8 none [] (.fa 67 4 (.tmp 6))
 (.op 9 none [] (.st 1 (.tmp 67) (.tmp 65))
 .nil)))))))))) [0, 2, 6]) (.seq (.region [(none, .bin 69 .num .eql (.tmp 30) (.k (.int .i64 6))),
 (none, .as 68 (.tmp 69))] [0, 2, 6, 7, 68]) (.cond 68 [0, 2, 6] [0, 2, 6, 7] (.skip) (.region [(none, .mv 31 (.tmp 7)),
 (none, .ia 32 .i (.tmp 31) (.k (.int .i64 0))),
 (none, .ld 33 none (.tmp 32)),
 (none, .fa 34 1 (.tmp 6)),
 (none, .st 1 (.tmp 34) (.tmp 33))] [0, 2, 6]))))))))) (.seq (.region [(none, .ld 70 (some 6) (.tmp 6)),
 (none, .call 71 gf_impl_ReqBytes [] rfl [(.tmp 70)]),
 (none, .as 8 (.tmp 71))] [0, 2, 6, 8]) (.seq (.join [(false, 78, .one, [.val .b none])] (.region [(none, .mv 72 (.tmp 8)),
 (none, .bin 73 .num .eql (.tmp 72) (.k (.str []))),
 (none, .mv 74 (.tmp 73)),
 ((some (74, false)), .mv 75 (.tmp 8)),
 ((some (74, false)), .mv 76 (.tmp 0)),
 ((some (74, false)), .bin 77 .num .neq (.tmp 75) (.tmp 76)),
 (none, .pick 78 (.tmp 74) (.k (.bool true)) (.tmp 77))] [2, 6, 78]) (.cond 78 [2] [2, 6] (.seq (.region [(none, .build 79 [.int .i64 0, .int .i64 0, .int .i64 0, .int .i64 0, .int .i64 0, .int .i64 0] []),
 (none, .st 6 (.tmp 2) (.tmp 79)),
 (none, .as 3 (.k (.bool false)))] [2, 3]) (.ret)) (.skip))) (.seq (.region [(none, .ld 80 (some 6) (.tmp 6)),
 (none, .st 6 (.tmp 2) (.tmp 80)),
 (none, .as 3 (.k (.bool true)))] [2, 3]) (.ret)))))))))
noncomputable def d_impl_ReqRead_j3 (v15 : GReq) (v17 : Bool) : Option (GReq × Bool) :=
  br v17
    (some (GReq.mk 0 0 0 0 0 0, false))
    (some (v15, true))
noncomputable def d_impl_ReqRead_j2 (p0 : (List UInt8)) (v15 : GReq) : Option (GReq × Bool) :=
  bd (d_impl_ReqBytes v15) fun x16 =>
  br (x16 == [])
    (jn (d_impl_ReqRead_j3 v15) true)
    (jn (d_impl_ReqRead_j3 v15) (x16 != p0))
noncomputable def d_impl_ReqRead_j1 (p0 : (List UInt8)) (x1 : ((List Int) × Bool)) (v2 : Bool) : Option (GReq × Bool) :=
  br v2
    (some (GReq.mk 0 0 0 0 0 0, false))
    (bd (at? x1.fst 0) fun x3 =>
    bd (at? x1.fst 0) fun x4 =>
    gd ((0 : Int) ≤ 1 ∧ 1 ≤ (↑(List.length x1.fst) : Int)) (
    gd (Int.toNat 1 + (List.length x1.fst - Int.toNat 1) = List.length x1.fst) (
    gd ((List.take (List.length x1.fst - Int.toNat 1) (List.drop (Int.toNat 1) x1.fst)).length + Int.toNat 5 ≤ lim) (
    br (x4 == 1)
      (bd (at? (List.take (List.length x1.fst - Int.toNat 1) (List.drop (Int.toNat 1) x1.fst) ++ List.replicate (Int.toNat 5) 0) 0) fun x5 =>
      bd (at? (List.take (List.length x1.fst - Int.toNat 1) (List.drop (Int.toNat 1) x1.fst) ++ List.replicate (Int.toNat 5) 0) 0) fun x6 =>
      bd (at? (List.take (List.length x1.fst - Int.toNat 1) (List.drop (Int.toNat 1) x1.fst) ++ List.replicate (Int.toNat 5) 0) 1) fun x7 =>
      bd (at? (List.take (List.length x1.fst - Int.toNat 1) (List.drop (Int.toNat 1) x1.fst) ++ List.replicate (Int.toNat 5) 0) 1) fun x8 =>
      bd (at? (List.take (List.length x1.fst - Int.toNat 1) (List.drop (Int.toNat 1) x1.fst) ++ List.replicate (Int.toNat 5) 0) 2) fun x9 =>
      bd (at? (List.take (List.length x1.fst - Int.toNat 1) (List.drop (Int.toNat 1) x1.fst) ++ List.replicate (Int.toNat 5) 0) 2) fun x10 =>
      bd (at? (List.take (List.length x1.fst - Int.toNat 1) (List.drop (Int.toNat 1) x1.fst) ++ List.replicate (Int.toNat 5) 0) 3) fun x11 =>
      bd (at? (List.take (List.length x1.fst - Int.toNat 1) (List.drop (Int.toNat 1) x1.fst) ++ List.replicate (Int.toNat 5) 0) 3) fun x12 =>
      bd (at? (List.take (List.length x1.fst - Int.toNat 1) (List.drop (Int.toNat 1) x1.fst) ++ List.replicate (Int.toNat 5) 0) 4) fun x13 =>
      bd (at? (List.take (List.length x1.fst - Int.toNat 1) (List.drop (Int.toNat 1) x1.fst) ++ List.replicate (Int.toNat 5) 0) 4) fun x14 =>
      jn (d_impl_ReqRead_j2 p0) (GReq.mk x4 x6 x8 (w64 (x10 - 1)) x12 x14))
      (br (x4 == 3)
        (bd (at? (List.take (List.length x1.fst - Int.toNat 1) (List.drop (Int.toNat 1) x1.fst) ++ List.replicate (Int.toNat 5) 0) 0) fun x18 =>
        bd (at? (List.take (List.length x1.fst - Int.toNat 1) (List.drop (Int.toNat 1) x1.fst) ++ List.replicate (Int.toNat 5) 0) 0) fun x19 =>
        bd (at? (List.take (List.length x1.fst - Int.toNat 1) (List.drop (Int.toNat 1) x1.fst) ++ List.replicate (Int.toNat 5) 0) 1) fun x20 =>
        bd (at? (List.take (List.length x1.fst - Int.toNat 1) (List.drop (Int.toNat 1) x1.fst) ++ List.replicate (Int.toNat 5) 0) 1) fun x21 =>
        jn (d_impl_ReqRead_j2 p0) (GReq.mk x4 0 x19 0 x21 0))
        (br (x4 == 6)
          (jn (d_impl_ReqRead_j2 p0) (GReq.mk x4 0 0 0 0 0))
          (bd (at? (List.take (List.length x1.fst - Int.toNat 1) (List.drop (Int.toNat 1) x1.fst) ++ List.replicate (Int.toNat 5) 0) 0) fun x22 =>
          bd (at? (List.take (List.length x1.fst - Int.toNat 1) (List.drop (Int.toNat 1) x1.fst) ++ List.replicate (Int.toNat 5) 0) 0) fun x23 =>
          jn (d_impl_ReqRead_j2 p0) (GReq.mk x4 x23 0 0 0 0))))))))
noncomputable def d_impl_ReqRead (p0 : (List UInt8)) : Option (GReq × Bool) :=
  bd (d_impl_getNums p0) fun x1 =>
  br (!x1.snd)
    (jn (d_impl_ReqRead_j1 p0 x1) true)
    (jn (d_impl_ReqRead_j1 p0 x1) ((↑(List.length x1.fst) : Int) == 0))
noncomputable def gf_impl_ReqRead : GF := y_impl_ReqRead.gf rfl rfl (fun a => d_impl_ReqRead a.1) (fun a => by kernel_rfl)

noncomputable def y_laws_eqReq : Y.YF where
  R := []
  ps := [.v (.st 0), .v (.st 0)]
  fs := []
  rk := .ret [.b]
  rs := [.tmp 4]
  body := .seq (.region [(none, .box 2 (.tmp 0)),
 (none, .box 3 (.tmp 1)),
 (none, .as 4 (.k (.bool false)))] [2, 3]) (.seq (.seq (.region [(none, .fa 5 0 (.tmp 2)),
 (none, .ld 6 none (.tmp 5)),
 (none, .fa 7 0 (.tmp 3)),
 (none, .ld 8 none (.tmp 7)),
 (none, .bin 9 .num .neq (.tmp 6) (.tmp 8))] [2, 3, 9]) (.cond 9 [] [2, 3] (.seq (.region [(none, .as 4 (.k (.bool false)))] [4]) (.ret)) (.skip))) (.seq (.seq (.region [(none, .fa 10 1 (.tmp 2)),
 (none, .ld 11 none (.tmp 10)),
 (none, .fa 12 1 (.tmp 3)),
 (none, .ld 13 none (.tmp 12)),
 (none, .bin 14 .num .neq (.tmp 11) (.tmp 13))] [2, 3, 14]) (.cond 14 [] [2, 3] (.seq (.region [(none, .as 4 (.k (.bool false)))] [4]) (.ret)) (.skip))) (.seq (.seq (.region [(none, .fa 15 2 (.tmp 2)),
 (none, .ld 16 none (.tmp 15)),
 (none, .fa 17 2 (.tmp 3)),
 (none, .ld 18 none (.tmp 17)),
 (none, .bin 19 .num .neq (.tmp 16) (.tmp 18))] [2, 3, 19]) (.cond 19 [] [2, 3] (.seq (.region [(none, .as 4 (.k (.bool false)))] [4]) (.ret)) (.skip))) (.seq (.seq (.region [(none, .fa 20 3 (.tmp 2)),
 (none, .ld 21 none (.tmp 20)),
 (none, .fa 22 3 (.tmp 3)),
 (none, .ld 23 none (.tmp 22)),
 (none, .bin 24 .num .neq (.tmp 21) (.tmp 23))] [2, 3, 24]) (.cond 24 [] [2, 3] (.seq (.region [(none, .as 4 (.k (.bool false)))] [4]) (.ret)) (.skip))) (.seq (.seq (.region [(none, .fa 25 4 (.tmp 2)),
 (none, .ld 26 none (.tmp 25)),
 (none, .fa 27 4 (.tmp 3)),
 (none, .ld 28 none (.tmp 27)),
 (none, .bin 29 .num .neq (.tmp 26) (.tmp 28))] [2, 3, 29]) (.cond 29 [] [2, 3] (.seq (.region [(none, .as 4 (.k (.bool false)))] [4]) (.ret)) (.skip))) (.seq (.seq (.region [(none, .fa 30 5 (.tmp 2)),
 (none, .ld 31 none (.tmp 30)),
 (none, .fa 32 5 (.tmp 3)),
 (none, .ld 33 none (.tmp 32)),
 (none, .bin 34 .num .neq (.tmp 31) (.tmp 33))] [34]) (.cond 34 [] [] (.seq (.region [(none, .as 4 (.k (.bool false)))] [4]) (.ret)) (.skip))) (.seq (.region [(none, .as 4 (.k (.bool true)))] [4]) (.ret))))))))
noncomputable def d_laws_eqReq (p0 : GReq) (p1 : GReq) : Option Bool :=
  br (p0.Kind != p1.Kind)
    (some false)
    (br (p0.Id != p1.Id)
      (some false)
      (br (p0.Cabin != p1.Cabin)
        (some false)
        (br (p0.From != p1.From)
          (some false)
          (br (p0.Size != p1.Size)
            (some false)
            (br (p0.Tier != p1.Tier)
              (some false)
              (some true))))))
noncomputable def gf_laws_eqReq : GF := y_laws_eqReq.gf rfl rfl (fun a => d_laws_eqReq a.1 a.2.1) (fun a => by kernel_rfl)

noncomputable def y_laws_FnExactReqRead : Y.YF where
  R := []
  ps := [.v .s]
  fs := []
  rk := .ret [.b]
  rs := [.tmp 2]
  body := .seq (.region [(none, .as 2 (.k (.bool false)))] [0]) (.seq (.seq (.region [(none, .mv 7 (.tmp 0)),
 (none, .lens 8 (.tmp 7)),
 (none, .bin 9 .num .gtr (.tmp 8) (.k (.int .i64 1048576)))] [0, 9]) (.cond 9 [] [0] (.seq (.region [(none, .as 2 (.k (.bool true)))] [2]) (.ret)) (.skip))) (.seq (.region [(none, .mv 11 (.tmp 0)),
 (none, .call 12 gf_spec_ReqRead [] rfl [(.tmp 11)]),
 (none, .mv 10 (.tmp 12)),
 (none, .ext 13 (.tmp 10) 0),
 (none, .ext 14 (.tmp 10) 1),
 (none, .alloc 3 [.int .i64 0, .int .i64 0, .int .i64 0, .int .i64 0, .int .i64 0, .int .i64 0]),
 (none, .st 6 (.tmp 3) (.tmp 13)),
 (none, .as 4 (.tmp 14))] [0, 3, 4]) (.seq (.region [(none, .mv 16 (.tmp 0)),
 (none, .call 17 gf_impl_ReqRead [] rfl [(.tmp 16)]),
 (none, .mv 15 (.tmp 17)),
 (none, .ext 18 (.tmp 15) 0),
 (none, .ext 19 (.tmp 15) 1),
 (none, .alloc 5 [.int .i64 0, .int .i64 0, .int .i64 0, .int .i64 0, .int .i64 0, .int .i64 0]),
 (none, .st 6 (.tmp 5) (.tmp 18)),
 (none, .as 6 (.tmp 19))] [3, 4, 5, 6]) (.seq (.join [(false, 28, .one, [.val .b none])] (.region [(none, .ld 20 (some 6) (.tmp 5)),
 (none, .ld 21 (some 6) (.tmp 3)),
 (none, .call 22 gf_laws_eqReq [] rfl [(.tmp 20), (.tmp 21)]),
 (none, .un 23 .not (.tmp 22)),
 (none, .mv 24 (.tmp 23)),
 ((some (24, false)), .mv 25 (.tmp 6)),
 ((some (24, false)), .mv 26 (.tmp 4)),
 ((some (24, false)), .bin 27 .bool .neq (.tmp 25) (.tmp 26)),
 (none, .pick 28 (.tmp 24) (.k (.bool true)) (.tmp 27))] [28]) (.cond 28 [] [] (.seq (.region [(none, .as 2 (.k (.bool false)))] [2]) (.ret)) (.skip))) (.seq (.region [(none, .as 2 (.k (.bool true)))] [2]) (.ret))))))
noncomputable def d_laws_FnExactReqRead_j1 (v4 : Bool) : Option Bool :=
  br v4
    (some false)
    (some true)
noncomputable def d_laws_FnExactReqRead (p0 : (List UInt8)) : Option Bool :=
  br (decide ((↑p0.length : Int) > 1048576))
    (some true)
    (bd (d_spec_ReqRead p0) fun x1 =>
    bd (d_impl_ReqRead p0) fun x2 =>
    bd (d_laws_eqReq x2.fst x1.fst) fun x3 =>
    br (!x3)
      (jn (d_laws_FnExactReqRead_j1) true)
      (jn (d_laws_FnExactReqRead_j1) (!x2.snd == x1.snd)))
noncomputable def gf_laws_FnExactReqRead : GF := y_laws_FnExactReqRead.gf rfl rfl (fun a => d_laws_FnExactReqRead a.1) (fun a => by kernel_rfl)

noncomputable def y_laws_szArea : Y.YF where
  R := []
  ps := [.v (.st 9), .v .i]
  fs := []
  rk := .ret [.i]
  rs := [.tmp 4]
  body := .seq (.region [(none, .box 2 (.tmp 0)),
 (none, .as 4 (.k (.int .i64 0)))] [1, 2]) (.seq (.region [(none, .mv 5 (.tmp 1)),
 (none, .fa 6 0 (.tmp 2)),
 (none, .ld 7 none (.tmp 6)),
 (none, .lens 8 (.tmp 7)),
 (none, .bin 9 .num .sub (.tmp 5) (.tmp 8)),
 (none, .as 1 (.tmp 9))] [1]) (.seq (.seq (.region [(none, .mv 10 (.tmp 1)),
 (none, .bin 11 .num .lss (.tmp 10) (.k (.int .i64 0)))] [1, 11]) (.cond 11 [] [1] (.seq (.region [(none, .as 4 (.k (.int .i64 (-1))))] [4]) (.ret)) (.skip))) (.seq (.region [(none, .mv 12 (.tmp 1)),
 (none, .as 4 (.tmp 12))] [4]) (.ret))))
noncomputable def d_laws_szArea (p0 : GArea) (p1 : Int) : Option Int :=
  br (decide (w64 (p1 - (↑p0.Data.length : Int)) < 0))
    (some (-1))
    (some (w64 (p1 - (↑p0.Data.length : Int))))
noncomputable def gf_laws_szArea : GF := y_laws_szArea.gf rfl rfl (fun a => d_laws_szArea a.1 a.2.1) (fun a => by kernel_rfl)

noncomputable def y_laws_szStore : Y.YF where
  R := []
  ps := [.v (.st 10), .v .i]
  fs := []
  rk := .ret [.i]
  rs := [.tmp 4]
  body := .seq (.region [(none, .box 2 (.tmp 0)),
 (none, .as 4 (.k (.int .i64 0)))] [1, 2]) (.seq (.region [(none, .fa 5 0 (.tmp 2)),
 (none, .ld 6 (some 2) (.tmp 5)),
 (none, .mv 7 (.tmp 1)),
 (none, .call 8 gf_laws_szArea [] rfl [(.tmp 6), (.tmp 7)]),
 (none, .as 1 (.tmp 8))] [1, 2]) (.seq (.seq (.region [(none, .mv 9 (.tmp 1)),
 (none, .bin 10 .num .lss (.tmp 9) (.k (.int .i64 0)))] [1, 2, 10]) (.cond 10 [] [1, 2] (.seq (.region [(none, .as 4 (.k (.int .i64 (-1))))] [4]) (.ret)) (.skip))) (.seq (.region [(none, .fa 11 2 (.tmp 2)),
 (none, .ld 12 (some 2) (.tmp 11)),
 (none, .mv 13 (.tmp 1)),
 (none, .call 14 gf_laws_szArea [] rfl [(.tmp 12), (.tmp 13)]),
 (none, .as 1 (.tmp 14))] [1, 2]) (.seq (.seq (.region [(none, .mv 15 (.tmp 1)),
 (none, .bin 16 .num .lss (.tmp 15) (.k (.int .i64 0)))] [1, 2, 16]) (.cond 16 [] [1, 2] (.seq (.region [(none, .as 4 (.k (.int .i64 (-1))))] [4]) (.ret)) (.skip))) (.seq (.region [(none, .fa 17 4 (.tmp 2)),
 (none, .ld 18 (some 2) (.tmp 17)),
 (none, .mv 19 (.tmp 1)),
 (none, .call 20 gf_laws_szArea [] rfl [(.tmp 18), (.tmp 19)]),
 (none, .as 1 (.tmp 20))] [1]) (.seq (.seq (.region [(none, .mv 21 (.tmp 1)),
 (none, .bin 22 .num .lss (.tmp 21) (.k (.int .i64 0)))] [1, 22]) (.cond 22 [] [1] (.seq (.region [(none, .as 4 (.k (.int .i64 (-1))))] [4]) (.ret)) (.skip))) (.seq (.region [(none, .mv 23 (.tmp 1)),
 (none, .as 4 (.tmp 23))] [4]) (.ret))))))))
noncomputable def d_laws_szStore (p0 : GStore) (p1 : Int) : Option Int :=
  bd (d_laws_szArea p0.Log p1) fun x1 =>
  br (decide (x1 < 0))
    (some (-1))
    (bd (d_laws_szArea p0.Even x1) fun x2 =>
    br (decide (x2 < 0))
      (some (-1))
      (bd (d_laws_szArea p0.Odd x2) fun x3 =>
      br (decide (x3 < 0))
        (some (-1))
        (some x3)))
noncomputable def gf_laws_szStore : GF := y_laws_szStore.gf rfl rfl (fun a => d_laws_szStore a.1 a.2.1) (fun a => by kernel_rfl)

noncomputable def y_laws_toArea : Y.YF where
  R := []
  ps := [.v (.st 9)]
  fs := []
  rk := .ret [(.st 9)]
  rs := [.cell 2 (some 2)]
  body := .seq (.region [(none, .box 1 (.tmp 0)),
 (none, .alloc 2 [.str [], .int .i64 0])] [1, 2]) (.seq (.region [(none, .alloc 3 [.str [], .int .i64 0])] [1, 2, 3]) (.seq (.region [(none, .fa 4 0 (.tmp 1)),
 (none, .ld 5 none (.tmp 4)),
 (none, .fa 6 0 (.tmp 3)),
 (none, .st 1 (.tmp 6) (.tmp 5))] [1, 2, 3]) (.seq (.region [(none, .fa 7 1 (.tmp 1)),
 (none, .ld 8 none (.tmp 7)),
 (none, .fa 9 1 (.tmp 3)),
 (none, .st 1 (.tmp 9) (.tmp 8))] [2, 3]) (.seq (.region [(none, .ld 10 (some 2) (.tmp 3)),
 (none, .st 2 (.tmp 2) (.tmp 10))] [2]) (.ret)))))
noncomputable def d_laws_toArea (p0 : GArea) : Option GArea :=
  some p0
noncomputable def gf_laws_toArea : GF := y_laws_toArea.gf rfl rfl (fun a => d_laws_toArea a.1) (fun a => by kernel_rfl)

noncomputable def y_laws_toStore : Y.YF where
  R := []
  ps := [.v (.st 10)]
  fs := []
  rk := .ret [(.st 10)]
  rs := [.cell 2 (some 6)]
  body := .seq (.region [(none, .box 1 (.tmp 0)),
 (none, .alloc 2 [.str [], .int .i64 0, .str [], .int .i64 0, .str [], .int .i64 0])] [1, 2]) (.seq (.region [(none, .alloc 3 [.str [], .int .i64 0, .str [], .int .i64 0, .str [], .int .i64 0])] [1, 2, 3]) (.seq (.region [(none, .fa 4 0 (.tmp 1)),
 (none, .ld 5 (some 2) (.tmp 4)),
 (none, .call 6 gf_laws_toArea [] rfl [(.tmp 5)]),
 (none, .fa 7 0 (.tmp 3)),
 (none, .st 2 (.tmp 7) (.tmp 6))] [1, 2, 3]) (.seq (.region [(none, .fa 8 2 (.tmp 1)),
 (none, .ld 9 (some 2) (.tmp 8)),
 (none, .call 10 gf_laws_toArea [] rfl [(.tmp 9)]),
 (none, .fa 11 2 (.tmp 3)),
 (none, .st 2 (.tmp 11) (.tmp 10))] [1, 2, 3]) (.seq (.region [(none, .fa 12 4 (.tmp 1)),
 (none, .ld 13 (some 2) (.tmp 12)),
 (none, .call 14 gf_laws_toArea [] rfl [(.tmp 13)]),
 (none, .fa 15 4 (.tmp 3)),
 (none, .st 2 (.tmp 15) (.tmp 14))] [2, 3]) (.seq (.region [(none, .ld 16 (some 6) (.tmp 3)),
 (none, .st 6 (.tmp 2) (.tmp 16))] [2]) (.ret))))))
noncomputable def d_laws_toStore (p0 : GStore) : Option GStore :=
  bd (d_laws_toArea p0.Log) fun x1 =>
  bd (d_laws_toArea p0.Even) fun x2 =>
  bd (d_laws_toArea p0.Odd) fun x3 =>
  some (GStore.mk x1 x2 x3)
noncomputable def gf_laws_toStore : GF := y_laws_toStore.gf rfl rfl (fun a => d_laws_toStore a.1) (fun a => by kernel_rfl)

noncomputable def y_spec_l1Min : Y.YF where
  R := []
  ps := [.v .i, .v .i]
  fs := []
  rk := .ret [.i]
  rs := [.tmp 4]
  body := .seq (.region [(none, .as 4 (.k (.int .i64 0)))] [0, 1]) (.seq (.seq (.region [(none, .mv 5 (.tmp 0)),
 (none, .mv 6 (.tmp 1)),
 (none, .bin 7 .num .lss (.tmp 5) (.tmp 6))] [0, 1, 7]) (.cond 7 [0] [1] (.seq (.region [(none, .mv 8 (.tmp 0)),
 (none, .as 4 (.tmp 8))] [4]) (.ret)) (.skip))) (.seq (.region [(none, .mv 9 (.tmp 1)),
 (none, .as 4 (.tmp 9))] [4]) (.ret)))
noncomputable def d_spec_l1Min (p0 : Int) (p1 : Int) : Option Int :=
  br (decide (p0 < p1))
    (some p0)
    (some p1)
noncomputable def gf_spec_l1Min : GF := y_spec_l1Min.gf rfl rfl (fun a => d_spec_l1Min a.1 a.2.1) (fun a => by kernel_rfl)

noncomputable def y_spec_Crc : Y.YF where
  R := []
  ps := [.v (.l .u)]
  fs := []
  rk := .ret [.i]
  rs := [.tmp 2]
  body := .seq (.region [(none, .as 2 (.k (.int .i64 0)))] [0]) (.seq (.region [(none, .as 3 (.k (.int .i64 4294967295)))] [0, 3]) (.join [(false, 3, .one, [.val .i none])] (.seq (.region [(none, .as 4 (.k (.int .i64 0)))] [0, 3, 4]) (.block 0 (.loop [(false, 3, .one, [.val .i none]), (false, 4, .one, [.val .i none])] (.seq (.seq (.region [(none, .mv 7 (.tmp 4)),
 (none, .mv 8 (.tmp 0)),
 (none, .len 9 (.tmp 8)),
 (none, .bin 10 .num .lss (.tmp 7) (.tmp 9))] [0, 3, 4, 10]) (.cond 10 [0, 3, 4] [3] (.skip) (.exit 0))) (.join [(false, 3, .one, [.val .i none])] (.block 1 (.seq (.region [(none, .mv 13 (.tmp 3)),
 (none, .mv 14 (.tmp 0)),
 (none, .mv 15 (.tmp 4)),
 (none, .ia 16 .u (.tmp 14) (.tmp 15)),
 (none, .ld 17 none (.tmp 16)),
 (none, .cvI 18 .i64 (.tmp 17)),
 (none, .bin 19 .num .xor (.tmp 13) (.tmp 18)),
 (none, .as 3 (.tmp 19))] [0, 3, 4]) (.seq (.region [(none, .as 5 (.k (.int .i64 0)))] [0, 3, 4, 5]) (.block 2 (.loop [(false, 3, .one, [.val .i none]), (false, 5, .one, [.val .i none])] (.seq (.seq (.region [(none, .mv 20 (.tmp 5)),
 (none, .bin 21 .num .lss (.tmp 20) (.k (.int .i64 8)))] [0, 3, 4, 5, 21]) (.cond 21 [0, 3, 4, 5] [0, 3, 4] (.skip) (.exit 2))) (.join [(false, 3, .one, [.val .i none])] (.block 3 (.seq (.region [(none, .mv 24 (.tmp 3)),
 (none, .bin 25 .num .rem (.tmp 24) (.k (.int .i64 2))),
 (none, .bin 26 .num .eql (.tmp 25) (.k (.int .i64 1))),
 (none, .as 6 (.tmp 26))] [0, 3, 4, 5, 6]) (.seq (.region [(none, .mv 27 (.tmp 3)),
 (none, .bin 28 .num .quo (.tmp 27) (.k (.int .i64 2))),
 (none, .as 3 (.tmp 28))] [0, 3, 4, 5, 6]) (.seq (.region [(none, .mv 29 (.tmp 6))] [0, 3, 4, 5, 29]) (.cond 29 [0, 3, 4, 5] [0, 3, 4, 5] (.region [(none, .mv 30 (.tmp 3)),
 (none, .bin 31 .num .xor (.tmp 30) (.k (.int .i64 3988292384))),
 (none, .as 3 (.tmp 31))] [0, 3, 4, 5]) (.skip)))))) (.region [(none, .mv 22 (.tmp 5)),
 (none, .bin 23 .num .add (.tmp 22) (.k (.int .i64 1))),
 (none, .as 5 (.tmp 23))] [0, 3, 4, 5])))))))) (.region [(none, .mv 11 (.tmp 4)),
 (none, .bin 12 .num .add (.tmp 11) (.k (.int .i64 1))),
 (none, .as 4 (.tmp 12))] [0, 3, 4])))))) (.seq (.region [(none, .mv 32 (.tmp 3)),
 (none, .bin 33 .num .xor (.tmp 32) (.k (.int .i64 4294967295))),
 (none, .as 2 (.tmp 33))] [2]) (.ret))))
noncomputable def d_spec_Crc_j3 (L5 : (Int × Int) → Option Int) (v7 : Int) (v8 : Int) : Option Int :=
  L5 ((v8, w64 (v7 + 1)))
noncomputable def d_spec_Crc_j4 (L1 : (Int × Int) → Option Int) (v3 : Int) (v9 : Int) : Option Int :=
  L1 ((v9, w64 (v3 + 1)))
noncomputable def d_spec_Crc_l2 (L1 : (Int × Int) → Option Int) (v3 : Int) (L5 : (Int × Int) → Option Int) (x_ : (Int × Int)) : Option Int :=
  match x_ with
  | (v6, v7) => br (decide (v7 < 8))
    (br (Int.tmod v6 2 == 1)
      (jn (d_spec_Crc_j3 L5 v7) (xorI (w64 (Int.tdiv v6 2)) 3988292384))
      (jn (d_spec_Crc_j3 L5 v7) (w64 (Int.tdiv v6 2))))
    (jn (d_spec_Crc_j4 L1 v3) v6)
noncomputable def d_spec_Crc_j5 (v10 : Int) : Option Int :=
  some (xorI v10 4294967295)
noncomputable def d_spec_Crc_l1 (p0 : (List UInt8)) (L1 : (Int × Int) → Option Int) (x_ : (Int × Int)) : Option Int :=
  match x_ with
  | (v2, v3) => br (decide (v3 < (↑p0.length : Int)))
    (bd (at? p0 v3) fun x4 =>
    loopN (d_spec_Crc_l2 L1 v3) big ((xorI v2 (w64 (↑(UInt8.toNat x4) : Int)), 0)))
    (jn (d_spec_Crc_j5) v2)
noncomputable def d_spec_Crc (p0 : (List UInt8)) : Option Int :=
  loopN (d_spec_Crc_l1 p0) big (4294967295, 0)
noncomputable def gf_spec_Crc : GF := y_spec_Crc.gf rfl rfl (fun a => d_spec_Crc a.1) (fun a => by kernel_rfl)

noncomputable def y_spec_l2Four : Y.YF where
  R := []
  ps := [.v .i]
  fs := []
  rk := .ret [.s]
  rs := [.tmp 2]
  body := .seq (.region [(none, .as 2 (.k (.str [])))] [0]) (.seq (.region [(none, .mv 3 (.tmp 0)),
 (none, .bin 4 .num .shr (.tmp 3) (.k (.int .u64 24))),
 (none, .cvI 5 .u8 (.tmp 4)),
 (none, .mv 6 (.tmp 0)),
 (none, .bin 7 .num .shr (.tmp 6) (.k (.int .u64 16))),
 (none, .cvI 8 .u8 (.tmp 7)),
 (none, .mv 9 (.tmp 0)),
 (none, .bin 10 .num .shr (.tmp 9) (.k (.int .u64 8))),
 (none, .cvI 11 .u8 (.tmp 10)),
 (none, .mv 12 (.tmp 0)),
 (none, .cvI 13 .u8 (.tmp 12)),
 (none, .bslice 14 4 .u [(0, (.tmp 5)), (1, (.tmp 8)), (2, (.tmp 11)), (3, (.tmp 13))]),
 (none, .cvBS 15 (.tmp 14)),
 (none, .as 2 (.tmp 15))] [2]) (.ret))
noncomputable def d_spec_l2Four (p0 : Int) : Option (List UInt8) :=
  some ([toB (shrI p0 24), toB (shrI p0 16), toB (shrI p0 8), toB p0])
noncomputable def gf_spec_l2Four : GF := y_spec_l2Four.gf rfl rfl (fun a => d_spec_l2Four a.1) (fun a => by kernel_rfl)

noncomputable def y_spec_FrameOf : Y.YF where
  R := []
  ps := [.v .i, .v .s]
  fs := []
  rk := .ret [.s]
  rs := [.tmp 4]
  body := .seq (.region [(none, .as 4 (.k (.str [])))] [0, 1]) (.seq (.join [(false, 15, .one, [.val .b none])] (.region [(none, .mv 7 (.tmp 0)),
 (none, .call 8 gf_spec_l1In [] rfl [(.tmp 7), (.k (.int .i64 1)), (.k (.int .i64 1000000))]),
 (none, .un 9 .not (.tmp 8)),
 (none, .mv 10 (.tmp 9)),
 ((some (10, false)), .mv 11 (.tmp 1)),
 ((some (10, false)), .lens 12 (.tmp 11)),
 ((some (10, false)), .call 13 gf_spec_l1In [] rfl [(.tmp 12), (.k (.int .i64 1)), (.k (.int .i64 60))]),
 ((some (10, false)), .un 14 .not (.tmp 13)),
 (none, .pick 15 (.tmp 10) (.k (.bool true)) (.tmp 14))] [0, 1, 15]) (.cond 15 [] [0, 1] (.seq (.region [(none, .as 4 (.k (.str [])))] [4]) (.ret)) (.skip))) (.seq (.region [(none, .mv 16 (.tmp 0)),
 (none, .call 17 gf_spec_PutNum [] rfl [(.tmp 16)]),
 (none, .cvBS 18 (.tmp 17)),
 (none, .mv 19 (.tmp 1)),
 (none, .bin 20 .num .add (.tmp 18) (.tmp 19)),
 (none, .as 5 (.tmp 20))] [5]) (.seq (.region [(none, .mv 21 (.tmp 5)),
 (none, .cvSB 22 (.tmp 21)),
 (none, .call 23 gf_spec_Crc [] rfl [(.tmp 22)]),
 (none, .call 24 gf_spec_l2Four [] rfl [(.tmp 23)]),
 (none, .mv 25 (.tmp 5)),
 (none, .bin 26 .num .add (.tmp 24) (.tmp 25)),
 (none, .as 6 (.tmp 26))] [6]) (.seq (.region [(none, .mv 27 (.tmp 6)),
 (none, .lens 28 (.tmp 27)),
 (none, .call 29 gf_spec_PutNum [] rfl [(.tmp 28)]),
 (none, .cvBS 30 (.tmp 29)),
 (none, .mv 31 (.tmp 6)),
 (none, .bin 32 .num .add (.tmp 30) (.tmp 31)),
 (none, .as 4 (.tmp 32))] [4]) (.ret)))))
noncomputable def d_spec_FrameOf_j1 (p0 : Int) (p1 : (List UInt8)) (v2 : Bool) : Option (List UInt8) :=
  br v2
    (some [])
    (bd (d_spec_PutNum p0) fun x3 =>
    gd (List.length x3 + p1.length ≤ slim) (
    bd (d_spec_Crc (x3 ++ p1)) fun x4 =>
    bd (d_spec_l2Four x4) fun x5 =>
    gd (List.length x5 + (x3 ++ p1).length ≤ slim) (
    bd (d_spec_PutNum ((↑(x5 ++ (x3 ++ p1)).length : Int))) fun x6 =>
    gd (List.length x6 + (x5 ++ (x3 ++ p1)).length ≤ slim) (
    some (x6 ++ (x5 ++ (x3 ++ p1)))))))
noncomputable def d_spec_FrameOf (p0 : Int) (p1 : (List UInt8)) : Option (List UInt8) :=
  bd (d_spec_l1In p0 1 1000000) fun x1 =>
  br (!x1)
    (jn (d_spec_FrameOf_j1 p0 p1) true)
    (bd (d_spec_l1In (↑p1.length : Int) 1 60) fun x7 =>
    jn (d_spec_FrameOf_j1 p0 p1) (!x7))
noncomputable def gf_spec_FrameOf : GF := y_spec_FrameOf.gf rfl rfl (fun a => d_spec_FrameOf a.1 a.2.1) (fun a => by kernel_rfl)

end Lv

