/-
  Printed: functions of the program as texts of the typed machine, as plain functions, and that the one is the other.
-/
import Derived.Test.YtagjbadlmcfiaaaKA
import Derived.KernelRfl
set_option linter.unusedVariables false
set_option linter.unusedSimpArgs false
set_option linter.unusedVariables false
set_option maxRecDepth 100000
namespace Lv
open Go (IntKind BinOp UnOp)
open Y (YF)
noncomputable def y_spec_PinsIn : Y.YF where
  R := []
  ps := [.v (.l (.st 2)), .v .i]
  fs := []
  rk := .ret [(.l (.st 5))]
  rs := [.tmp 4]
  body := .seq (.region [(none, .as 4 (.k .nil)),
 (none, .nils [(.tmp 4 0, (.st 5))])] [0, 1]) (.seq (.region [(none, .bslice 7 0 (.st 5) []),
 (none, .as 5 (.tmp 7))] [0, 1, 5]) (.join [(false, 5, .one, [.val (.l (.st 5)) none])] (.seq (.region [(none, .as 6 (.k (.int .i64 0)))] [0, 1, 5, 6]) (.block 0 (.loop [(false, 5, .one, [.val (.l (.st 5)) none]), (false, 6, .one, [.val .i none])] (.seq (.seq (.region [(none, .mv 8 (.tmp 6)),
 (none, .mv 9 (.tmp 0)),
 (none, .len 10 (.tmp 9)),
 (none, .bin 11 .num .lss (.tmp 8) (.tmp 10))] [0, 1, 5, 6, 11]) (.cond 11 [0, 1, 5, 6] [5] (.skip) (.exit 0))) (.join [(false, 5, .one, [.val (.l (.st 5)) none])] (.block 1 (.join [(false, 28, .one, [.val .b none])] (.region [(none, .mv 14 (.tmp 0)),
 (none, .mv 15 (.tmp 6)),
 (none, .ia 16 (.st 2) (.tmp 14) (.tmp 15)),
 (none, .fa 17 7 (.tmp 16)),
 (none, .ld 18 none (.tmp 17)),
 (none, .bin 19 .num .eql (.tmp 18) (.k (.int .i64 2))),
 (none, .mv 20 (.tmp 19)),
 ((some (20, true)), .mv 21 (.tmp 0)),
 ((some (20, true)), .mv 22 (.tmp 6)),
 ((some (20, true)), .ia 23 (.st 2) (.tmp 21) (.tmp 22)),
 ((some (20, true)), .fa 24 1 (.tmp 23)),
 ((some (20, true)), .ld 25 none (.tmp 24)),
 ((some (20, true)), .mv 26 (.tmp 1)),
 ((some (20, true)), .bin 27 .num .eql (.tmp 25) (.tmp 26)),
 (none, .pick 28 (.tmp 20) (.tmp 27) (.k (.bool false)))] [0, 1, 5, 6, 28]) (.cond 28 [0, 1, 5, 6] [0, 1, 5, 6] (.dreg (.op 0 none [] (.mv 29 (.tmp 5))
 (.op 1 none [] (.mv 30 (.tmp 0))
 (.op 2 none [] (.mv 31 (.tmp 6))
 (.op 3 none [] (.ia 32 (.st 2) (.tmp 30) (.tmp 31))
 (.op 4 none [] (.fa 33 8 (.tmp 32))
 (.op 5 none [] (.ld 34 none (.tmp 33))
 (.op 6 none [] (.mv 35 (.tmp 0))
 (.op 7 none [] (.mv 36 (.tmp 6))
 (.op 8 none [] (.ia 37 (.st 2) (.tmp 35) (.tmp 36))
 (.op 9 none [] (.fa 38 0 (.tmp 37))
 (.op 10 none [] (.ld 39 none (.tmp 38))
 (.op 11 none [] (.build 40 [.int .i64 0, .int .i64 0] [(0, 1, (.tmp 34)), (1, 1, (.tmp 39))])
 (.op 12 none [] (.call 41 gf_spec_l9Put [] rfl [(.tmp 29), (.tmp 40)])
 (.op 13 none [] (.as 5 (.tmp 41))
 .nil)))))))))))))) [0, 1, 5, 6]) (.skip)))) (.region [(none, .mv 12 (.tmp 6)),
 (none, .bin 13 .num .add (.tmp 12) (.k (.int .i64 1))),
 (none, .as 6 (.tmp 13))] [0, 1, 5, 6])))))) (.seq (.region [(none, .mv 42 (.tmp 5)),
 (none, .as 4 (.tmp 42))] [4]) (.ret))))
noncomputable def d_spec_PinsIn_j3 (L1 : ((List GPin) × Int) → Option (List GPin)) (v3 : Int) (v10 : (List GPin)) : Option (List GPin) :=
  L1 ((v10, w64 (v3 + 1)))
noncomputable def d_spec_PinsIn_j2 (p0 : (List GParty)) (L1 : ((List GPin) × Int) → Option (List GPin)) (v2 : (List GPin)) (v3 : Int) (v6 : Bool) : Option (List GPin) :=
  br v6
    (bd (at? p0 v3) fun x7 =>
    bd (at? p0 v3) fun x8 =>
    bd (d_spec_l9Put v2 (GPin.mk x7.Until x8.Id)) fun x9 =>
    jn (d_spec_PinsIn_j3 L1 v3) x9)
    (jn (d_spec_PinsIn_j3 L1 v3) v2)
noncomputable def d_spec_PinsIn_j4 (v11 : (List GPin)) : Option (List GPin) :=
  some v11
noncomputable def d_spec_PinsIn_l1 (p0 : (List GParty)) (p1 : Int) (L1 : ((List GPin) × Int) → Option (List GPin)) (x_ : ((List GPin) × Int)) : Option (List GPin) :=
  match x_ with
  | (v2, v3) => br (decide (v3 < (↑p0.length : Int)))
    (bd (at? p0 v3) fun x4 =>
    br (x4.State == 2)
      (bd (at? p0 v3) fun x5 =>
      jn (d_spec_PinsIn_j2 p0 L1 v2 v3) (x5.Cabin == p1))
      (jn (d_spec_PinsIn_j2 p0 L1 v2 v3) false))
    (jn (d_spec_PinsIn_j4) v2)
noncomputable def d_spec_PinsIn (p0 : (List GParty)) (p1 : Int) : Option (List GPin) :=
  loopN (d_spec_PinsIn_l1 p0 p1) big ([], 0)
noncomputable def gf_spec_PinsIn : GF := y_spec_PinsIn.gf rfl rfl (fun a => d_spec_PinsIn a.1 a.2.1) (fun a => by kernel_rfl)
noncomputable def y_spec_l9Copy : Y.YF where
  R := []
  ps := [.v (.st 6)]
  fs := []
  rk := .ret [(.st 6)]
  rs := [.cell 2 (some 1)]
  body := .seq (.region [(none, .box 1 (.tmp 0)),
 (none, .alloc 2 [.nil]),
 (none, .nils [(.cell 2 0, (.l (.st 5)))])] [1, 2]) (.seq (.region [(none, .build 5 [.nil] []),
 (none, .nils [(.tmp 5 0, (.l (.st 5)))]),
 (none, .alloc 3 [.nil]),
 (none, .nils [(.cell 3 0, (.l (.st 5)))]),
 (none, .st 1 (.tmp 3) (.tmp 5))] [1, 2, 3]) (.join [(true, 3, .one, [.val (.st 6) none])] (.seq (.region [(none, .as 4 (.k (.int .i64 0)))] [1, 2, 3, 4]) (.block 0 (.loop [(false, 4, .one, [.val .i none]), (true, 3, .one, [.val (.st 6) none])] (.seq (.seq (.region [(none, .mv 6 (.tmp 4)),
 (none, .fa 7 0 (.tmp 1)),
 (none, .ld 8 none (.tmp 7)),
 (none, .len 9 (.tmp 8)),
 (none, .bin 10 .num .lss (.tmp 6) (.tmp 9))] [1, 2, 3, 4, 10]) (.cond 10 [1, 2, 3, 4] [2, 3] (.skip) (.exit 0))) (.seq (.block 1 (.dreg (.op 0 none [] (.fa 13 0 (.tmp 3))
 (.op 1 none [] (.ld 14 none (.tmp 13))
 (.op 3 none [] (.fa 16 0 (.tmp 1))
 (.op 4 none [] (.ld 17 none (.tmp 16))
 (.op 5 none [] (.mv 18 (.tmp 4))
 (.op 6 none [] (.ia 19 (.l (.st 5)) (.tmp 17) (.tmp 18))
 (.op 7 none [] (.ld 20 none (.tmp 19))
 (.op 2 none [13, 16, 19] (.bslice 15 0 (.st 5) [])
 (.op 8 none [13] (.app 21 (.st 5) true (.tmp 15) (.tmp 20))
 (.op 9 none [13] (.bslice 22 1 (.l (.st 5)) [(0, (.tmp 21))])
 (.op 10 none [] (.app 23 (.l (.st 5)) false (.tmp 14) (.tmp 22))
 (.op 11 none [] (.fa 24 0 (.tmp 3))
 (.op 12 none [] (.st 1 (.tmp 24) (.tmp 23))
 .nil))))))))))))) [1, 2, 3, 4])) (.region [(none, .mv 11 (.tmp 4)),
 (none, .bin 12 .num .add (.tmp 11) (.k (.int .i64 1))),
 (none, .as 4 (.tmp 12))] [1, 2, 3, 4])))))) (.seq (.region [(none, .ld 25 (some 1) (.tmp 3)),
 (none, .st 1 (.tmp 2) (.tmp 25))] [2]) (.ret))))
noncomputable def d_spec_l9Copy_j2 (v5 : GWheel) : Option GWheel :=
  some v5
noncomputable def d_spec_l9Copy_l1 (p0 : GWheel) (L1 : (Int × GWheel) → Option GWheel) (x_ : (Int × GWheel)) : Option GWheel :=
  match x_ with
  | (v2, v3) => br (decide (v2 < (↑p0.Spoke.length : Int)))
    (bd (at? p0.Spoke v2) fun x4 =>
    gd (0 + List.length x4 ≤ lim) (
    gd (v3.Spoke.length + [[] ++ x4].length ≤ lim) (
    L1 ((w64 (v2 + 1), GWheel.mk (v3.Spoke ++ [[] ++ x4]))))))
    (jn (d_spec_l9Copy_j2) v3)
noncomputable def d_spec_l9Copy (p0 : GWheel) : Option GWheel :=
  loopN (d_spec_l9Copy_l1 p0) big (0, GWheel.mk [])
noncomputable def gf_spec_l9Copy : GF := y_spec_l9Copy.gf rfl rfl (fun a => d_spec_l9Copy a.1) (fun a => by kernel_rfl)
noncomputable def y_spec_l9All : Y.YF where
  R := []
  ps := [.v (.st 6)]
  fs := []
  rk := .ret [(.l (.st 5))]
  rs := [.tmp 2]
  body := .seq (.region [(none, .box 1 (.tmp 0)),
 (none, .as 2 (.k .nil)),
 (none, .nils [(.tmp 2 0, (.st 5))])] [1]) (.seq (.region [(none, .bslice 5 0 (.st 5) []),
 (none, .as 3 (.tmp 5))] [1, 3]) (.join [(false, 3, .one, [.val (.l (.st 5)) none])] (.seq (.region [(none, .as 4 (.k (.int .i64 0)))] [1, 3, 4]) (.block 0 (.loop [(false, 3, .one, [.val (.l (.st 5)) none]), (false, 4, .one, [.val .i none])] (.seq (.seq (.region [(none, .mv 6 (.tmp 4)),
 (none, .fa 7 0 (.tmp 1)),
 (none, .ld 8 none (.tmp 7)),
 (none, .len 9 (.tmp 8)),
 (none, .bin 10 .num .lss (.tmp 6) (.tmp 9))] [1, 3, 4, 10]) (.cond 10 [1, 3, 4] [3] (.skip) (.exit 0))) (.seq (.block 1 (.region [(none, .mv 13 (.tmp 3)),
 (none, .fa 14 0 (.tmp 1)),
 (none, .ld 15 none (.tmp 14)),
 (none, .mv 16 (.tmp 4)),
 (none, .ia 17 (.l (.st 5)) (.tmp 15) (.tmp 16)),
 (none, .ld 18 none (.tmp 17)),
 (none, .app 19 (.st 5) true (.tmp 13) (.tmp 18)),
 (none, .as 3 (.tmp 19))] [1, 3, 4])) (.region [(none, .mv 11 (.tmp 4)),
 (none, .bin 12 .num .add (.tmp 11) (.k (.int .i64 1))),
 (none, .as 4 (.tmp 12))] [1, 3, 4])))))) (.seq (.region [(none, .mv 20 (.tmp 3)),
 (none, .as 2 (.tmp 20))] [2]) (.ret))))
noncomputable def d_spec_l9All_j2 (v5 : (List GPin)) : Option (List GPin) :=
  some v5
noncomputable def d_spec_l9All_l1 (p0 : GWheel) (L1 : ((List GPin) × Int) → Option (List GPin)) (x_ : ((List GPin) × Int)) : Option (List GPin) :=
  match x_ with
  | (v2, v3) => br (decide (v3 < (↑p0.Spoke.length : Int)))
    (bd (at? p0.Spoke v3) fun x4 =>
    gd (List.length v2 + List.length x4 ≤ lim) (
    L1 ((v2 ++ x4, w64 (v3 + 1)))))
    (jn (d_spec_l9All_j2) v2)
noncomputable def d_spec_l9All (p0 : GWheel) : Option (List GPin) :=
  loopN (d_spec_l9All_l1 p0) big ([], 0)
noncomputable def gf_spec_l9All : GF := y_spec_l9All.gf rfl rfl (fun a => d_spec_l9All a.1) (fun a => by kernel_rfl)
noncomputable def y_spec_WheelOk : Y.YF where
  R := []
  ps := [.v (.st 6)]
  fs := []
  rk := .ret [.b]
  rs := [.tmp 2]
  body := .seq (.region [(none, .box 1 (.tmp 0)),
 (none, .as 2 (.k (.bool false)))] [1]) (.seq (.region [(none, .ld 8 (some 1) (.tmp 1)),
 (none, .call 9 gf_spec_l9All [] rfl [(.tmp 8)]),
 (none, .as 3 (.tmp 9))] [1, 3]) (.seq (.join [(false, 18, .one, [.val .b none])] (.region [(none, .fa 10 0 (.tmp 1)),
 (none, .ld 11 none (.tmp 10)),
 (none, .len 12 (.tmp 11)),
 (none, .bin 13 .num .neq (.tmp 12) (.k (.int .i64 9))),
 (none, .mv 14 (.tmp 13)),
 ((some (14, false)), .mv 15 (.tmp 3)),
 ((some (14, false)), .len 16 (.tmp 15)),
 ((some (14, false)), .bin 17 .num .gtr (.tmp 16) (.k (.int .i64 10))),
 (none, .pick 18 (.tmp 14) (.k (.bool true)) (.tmp 17))] [1, 3, 18]) (.cond 18 [] [1, 3] (.seq (.region [(none, .as 2 (.k (.bool false)))] [2]) (.ret)) (.skip))) (.join [] (.seq (.region [(none, .as 4 (.k (.int .i64 0)))] [1, 3, 4]) (.block 0 (.loop [(false, 4, .one, [.val .i none])] (.seq (.seq (.region [(none, .mv 19 (.tmp 4)),
 (none, .mv 20 (.tmp 3)),
 (none, .len 21 (.tmp 20)),
 (none, .bin 22 .num .lss (.tmp 19) (.tmp 21))] [1, 3, 4, 22]) (.cond 22 [1, 3, 4] [1] (.skip) (.exit 0))) (.join [] (.block 1 (.seq (.join [(false, 40, .one, [.val .b none])] (.region [(none, .mv 25 (.tmp 3)),
 (none, .mv 26 (.tmp 4)),
 (none, .ia 27 (.st 5) (.tmp 25) (.tmp 26)),
 (none, .fa 28 0 (.tmp 27)),
 (none, .ld 29 none (.tmp 28)),
 (none, .call 30 gf_spec_l1In [] rfl [(.tmp 29), (.k (.int .i64 1)), (.k (.int .i64 1000008))]),
 (none, .un 31 .not (.tmp 30)),
 (none, .mv 32 (.tmp 31)),
 ((some (32, false)), .mv 33 (.tmp 3)),
 ((some (32, false)), .mv 34 (.tmp 4)),
 ((some (32, false)), .ia 35 (.st 5) (.tmp 33) (.tmp 34)),
 ((some (32, false)), .fa 36 1 (.tmp 35)),
 ((some (32, false)), .ld 37 none (.tmp 36)),
 ((some (32, false)), .call 38 gf_spec_l1In [] rfl [(.tmp 37), (.k (.int .i64 1)), (.k (.int .i64 999))]),
 ((some (32, false)), .un 39 .not (.tmp 38)),
 (none, .pick 40 (.tmp 32) (.k (.bool true)) (.tmp 39))] [1, 3, 4, 40]) (.cond 40 [] [1, 3, 4] (.seq (.region [(none, .as 2 (.k (.bool false)))] [2]) (.ret)) (.skip))) (.seq (.region [(none, .as 5 (.k (.int .i64 0)))] [1, 3, 4, 5]) (.block 2 (.loop [(false, 5, .one, [.val .i none])] (.seq (.seq (.region [(none, .mv 41 (.tmp 5)),
 (none, .mv 42 (.tmp 4)),
 (none, .bin 43 .num .lss (.tmp 41) (.tmp 42))] [1, 3, 4, 5, 43]) (.cond 43 [1, 3, 4, 5] [1, 3, 4] (.skip) (.exit 2))) (.seq (.block 3 (.seq (.dreg (.op 0 none [] (.mv 46 (.tmp 3))
 (.op 1 none [] (.mv 47 (.tmp 5))
 (.op 2 none [] (.ia 48 (.st 5) (.tmp 46) (.tmp 47))
 (.op 3 none [] (.fa 49 1 (.tmp 48))
 (.op 4 none [] (.ld 50 none (.tmp 49))
 (.op 5 none [] (.mv 51 (.tmp 3))
 (.op 6 none [] (.mv 52 (.tmp 4))
 (.op 7 none [] (.ia 53 (.st 5) (.tmp 51) (.tmp 52))
 (.op 8 none [] (.fa 54 1 (.tmp 53))
 (.op 9 none [] (.ld 55 none (.tmp 54))
 (.op 10 none [] (.bin 56 .num .eql (.tmp 50) (.tmp 55))
 .nil))))))))))) [1, 3, 4, 5, 56]) (.cond 56 [] [1, 3, 4, 5] (.seq (.region [(none, .as 2 (.k (.bool false)))] [2]) (.ret)) (.skip)))) (.region [(none, .mv 44 (.tmp 5)),
 (none, .bin 45 .num .add (.tmp 44) (.k (.int .i64 1))),
 (none, .as 5 (.tmp 45))] [1, 3, 4, 5])))))))) (.region [(none, .mv 23 (.tmp 4)),
 (none, .bin 24 .num .add (.tmp 23) (.k (.int .i64 1))),
 (none, .as 4 (.tmp 24))] [1, 3, 4])))))) (.join [] (.seq (.region [(none, .as 6 (.k (.int .i64 0)))] [1, 6]) (.block 4 (.loop [(false, 6, .one, [.val .i none])] (.seq (.seq (.region [(none, .mv 57 (.tmp 6)),
 (none, .fa 58 0 (.tmp 1)),
 (none, .ld 59 none (.tmp 58)),
 (none, .len 60 (.tmp 59)),
 (none, .bin 61 .num .lss (.tmp 57) (.tmp 60))] [1, 6, 61]) (.cond 61 [1, 6] [] (.skip) (.exit 4))) (.join [] (.block 5 (.seq (.region [(none, .as 7 (.k (.int .i64 0)))] [1, 6, 7]) (.block 6 (.loop [(false, 7, .one, [.val .i none])] (.seq (.seq (.region [(none, .mv 64 (.tmp 7)),
 (none, .fa 65 0 (.tmp 1)),
 (none, .ld 66 none (.tmp 65)),
 (none, .mv 67 (.tmp 6)),
 (none, .ia 68 (.l (.st 5)) (.tmp 66) (.tmp 67)),
 (none, .ld 69 none (.tmp 68)),
 (none, .len 70 (.tmp 69)),
 (none, .bin 71 .num .lss (.tmp 64) (.tmp 70))] [1, 6, 7, 71]) (.cond 71 [1, 6, 7] [1, 6] (.skip) (.exit 6))) (.seq (.block 7 (.join [(false, 110, .one, [.val .b none])] (.dreg (.op 0 none [] (.fa 74 0 (.tmp 1))
 (.op 1 none [] (.ld 75 none (.tmp 74))
 (.op 2 none [] (.mv 76 (.tmp 6))
 (.op 3 none [] (.ia 77 (.l (.st 5)) (.tmp 75) (.tmp 76))
 (.op 4 none [] (.ld 78 none (.tmp 77))
 (.op 5 none [] (.mv 79 (.tmp 7))
 (.op 6 none [] (.ia 80 (.st 5) (.tmp 78) (.tmp 79))
 (.op 7 none [] (.fa 81 0 (.tmp 80))
 (.op 8 none [] (.ld 82 none (.tmp 81))
 (.op 9 none [] (.bin 83 .num .rem (.tmp 82) (.k (.int .i64 9)))
 (.op 10 none [] (.mv 84 (.tmp 6))
 (.op 11 none [] (.bin 85 .num .neq (.tmp 83) (.tmp 84))
 (.op 12 none [] (.mv 86 (.tmp 85))
 (.op 13 (some (86, false)) [] (.mv 87 (.tmp 7))
 (.op 14 (some (86, false)) [] (.bin 88 .num .gtr (.tmp 87) (.k (.int .i64 0)))
 (.op 15 (some (86, false)) [] (.mv 89 (.tmp 88))
 (.op 16 (some (89, true)) [] (.fa 90 0 (.tmp 1))
 (.op 17 (some (89, true)) [] (.ld 91 none (.tmp 90))
 (.op 18 (some (89, true)) [] (.mv 92 (.tmp 6))
 (.op 19 (some (89, true)) [] (.ia 93 (.l (.st 5)) (.tmp 91) (.tmp 92))
 (.op 20 (some (89, true)) [] (.ld 94 none (.tmp 93))
 (.op 21 (some (89, true)) [] (.mv 95 (.tmp 7))
 (.op 22 (some (89, true)) [] (.bin 96 .num .sub (.tmp 95) (.k (.int .i64 1)))
 (.op 23 (some (89, true)) [] (.ia 97 (.st 5) (.tmp 94) (.tmp 96))
 (.op 24 (some (89, true)) [] (.ld 98 (some 2) (.tmp 97))
 (.op 25 (some (89, true)) [] (.fa 99 0 (.tmp 1))
 (.op 26 (some (89, true)) [] (.ld 100 none (.tmp 99))
 (.op 27 (some (89, true)) [] (.mv 101 (.tmp 6))
 (.op 28 (some (89, true)) [] (.ia 102 (.l (.st 5)) (.tmp 100) (.tmp 101))
 (.op 29 (some (89, true)) [] (.ld 103 none (.tmp 102))
 (.op 30 (some (89, true)) [] (.mv 104 (.tmp 7))
 (.op 31 (some (89, true)) [] (.ia 105 (.st 5) (.tmp 103) (.tmp 104))
 (.op 32 (some (89, true)) [] (.ld 106 (some 2) (.tmp 105))
 (.op 33 (some (89, true)) [] (.call 107 gf_spec_l9Less [] rfl [(.tmp 98), (.tmp 106)])
 (.op 34 (some (89, true)) [] (.un 108 .not (.tmp 107))
 (.op 35 (some (86, false)) [] (.pick 109 (.tmp 89) (.tmp 108) (.k (.bool false)))
 (.op 36 none [] (.pick 110 (.tmp 86) (.k (.bool true)) (.tmp 109))
 .nil))))))))))))))))))))))))))))))))))))) [1, 6, 7, 110]) (.cond 110 [] [1, 6, 7] (.seq (.region [(none, .as 2 (.k (.bool false)))] [2]) (.ret)) (.skip)))) (.region [(none, .mv 72 (.tmp 7)),
 (none, .bin 73 .num .add (.tmp 72) (.k (.int .i64 1))),
 (none, .as 7 (.tmp 73))] [1, 6, 7]))))))) (.region [(none, .mv 62 (.tmp 6)),
 (none, .bin 63 .num .add (.tmp 62) (.k (.int .i64 1))),
 (none, .as 6 (.tmp 63))] [1, 6])))))) (.seq (.region [(none, .as 2 (.k (.bool true)))] [2]) (.ret))))))
noncomputable def d_spec_WheelOk_j5 (L3 : Int → Option Bool) (v4 : Int) (_ : PUnit) : Option Bool :=
  L3 (w64 (v4 + 1))
noncomputable def d_spec_WheelOk_l4 (x1 : (List GPin)) (L3 : Int → Option Bool) (v4 : Int) (L9 : Int → Option Bool) (v10 : Int) : Option Bool :=
  br (decide (v10 < v4))
    (bd (at? x1 v10) fun x11 =>
    bd (at? x1 v10) fun x12 =>
    bd (at? x1 v4) fun x13 =>
    bd (at? x1 v4) fun x14 =>
    br (x12.Id == x14.Id)
      (some false)
      (L9 (w64 (v10 + 1))))
    (jn (d_spec_WheelOk_j5 L3 v4) ())
noncomputable def d_spec_WheelOk_j3 (x1 : (List GPin)) (L3 : Int → Option Bool) (v4 : Int) (v8 : Bool) : Option Bool :=
  br v8
    (some false)
    (loopN (d_spec_WheelOk_l4 x1 L3 v4) big 0)
noncomputable def d_spec_WheelOk_j9 (L20 : Int → Option Bool) (v21 : Int) (v25 : Bool) : Option Bool :=
  br v25
    (some false)
    (L20 (w64 (v21 + 1)))
noncomputable def d_spec_WheelOk_j10 (L18 : Int → Option Bool) (v19 : Int) (_ : PUnit) : Option Bool :=
  L18 (w64 (v19 + 1))
noncomputable def d_spec_WheelOk_l8 (p0 : GWheel) (L18 : Int → Option Bool) (v19 : Int) (L20 : Int → Option Bool) (v21 : Int) : Option Bool :=
  bd (at? p0.Spoke v19) fun x22 =>
  br (decide (v21 < (↑(List.length x22) : Int)))
    (bd (at? p0.Spoke v19) fun x23 =>
    bd (at? x23 v21) fun x24 =>
    br (x24.At.tmod 9 != v19)
      (jn (d_spec_WheelOk_j9 L20 v21) true)
      (br (decide (v21 > 0))
        (bd (at? p0.Spoke v19) fun x26 =>
        bd (at? x26 (w64 (v21 - 1))) fun x27 =>
        bd (at? p0.Spoke v19) fun x28 =>
        bd (at? x28 v21) fun x29 =>
        bd (d_spec_l9Less x27 x29) fun x30 =>
        jn (d_spec_WheelOk_j9 L20 v21) (!x30))
        (jn (d_spec_WheelOk_j9 L20 v21) false)))
    (jn (d_spec_WheelOk_j10 L18 v19) ())
noncomputable def d_spec_WheelOk_j11 (_ : PUnit) : Option Bool :=
  some true
noncomputable def d_spec_WheelOk_l7 (p0 : GWheel) (L18 : Int → Option Bool) (v19 : Int) : Option Bool :=
  br (decide (v19 < (↑p0.Spoke.length : Int)))
    (loopN (d_spec_WheelOk_l8 p0 L18 v19) big 0)
    (jn (d_spec_WheelOk_j11) ())
noncomputable def d_spec_WheelOk_j6 (p0 : GWheel) (_ : PUnit) : Option Bool :=
  loopN (d_spec_WheelOk_l7 p0) big 0
noncomputable def d_spec_WheelOk_l2 (p0 : GWheel) (x1 : (List GPin)) (L3 : Int → Option Bool) (v4 : Int) : Option Bool :=
  br (decide (v4 < (↑(List.length x1) : Int)))
    (bd (at? x1 v4) fun x5 =>
    bd (at? x1 v4) fun x6 =>
    bd (d_spec_l1In x6.At 1 1000008) fun x7 =>
    br (!x7)
      (jn (d_spec_WheelOk_j3 x1 L3 v4) true)
      (bd (at? x1 v4) fun x15 =>
      bd (at? x1 v4) fun x16 =>
      bd (d_spec_l1In x16.Id 1 999) fun x17 =>
      jn (d_spec_WheelOk_j3 x1 L3 v4) (!x17)))
    (jn (d_spec_WheelOk_j6 p0) ())
noncomputable def d_spec_WheelOk_j1 (p0 : GWheel) (x1 : (List GPin)) (v2 : Bool) : Option Bool :=
  br v2
    (some false)
    (loopN (d_spec_WheelOk_l2 p0 x1) big 0)
noncomputable def d_spec_WheelOk (p0 : GWheel) : Option Bool :=
  bd (d_spec_l9All p0) fun x1 =>
  br ((↑p0.Spoke.length : Int) != 9)
    (jn (d_spec_WheelOk_j1 p0 x1) true)
    (jn (d_spec_WheelOk_j1 p0 x1) (decide ((↑(List.length x1) : Int) > 10)))
noncomputable def gf_spec_WheelOk : GF := y_spec_WheelOk.gf rfl rfl (fun a => d_spec_WheelOk a.1) (fun a => by kernel_rfl)
noncomputable def y_spec_WheelPut : Y.YF where
  R := []
  ps := [.v (.st 6), .v (.st 5)]
  fs := []
  rk := .ret [(.st 6), .b]
  rs := [.cell 4 (some 1), .tmp 5]
  body := .seq (.region [(none, .box 2 (.tmp 0)),
 (none, .box 3 (.tmp 1)),
 (none, .alloc 4 [.nil]),
 (none, .nils [(.cell 4 0, (.l (.st 5)))]),
 (none, .as 5 (.k (.bool false)))] [2, 3, 4]) (.seq (.region [(none, .ld 8 (some 1) (.tmp 2)),
 (none, .call 9 gf_spec_l9Copy [] rfl [(.tmp 8)]),
 (none, .alloc 6 [.nil]),
 (none, .nils [(.cell 6 0, (.l (.st 5)))]),
 (none, .st 1 (.tmp 6) (.tmp 9))] [2, 3, 4, 6]) (.seq (.join [(false, 17, .one, [.val .b none])] (.region [(none, .ld 10 (some 1) (.tmp 2)),
 (none, .call 11 gf_spec_WheelOk [] rfl [(.tmp 10)]),
 (none, .un 12 .not (.tmp 11)),
 (none, .mv 13 (.tmp 12)),
 ((some (13, false)), .fa 14 0 (.tmp 3)),
 ((some (13, false)), .ld 15 none (.tmp 14)),
 ((some (13, false)), .bin 16 .num .lss (.tmp 15) (.k (.int .i64 1))),
 (none, .pick 17 (.tmp 13) (.k (.bool true)) (.tmp 16))] [2, 3, 4, 6, 17]) (.cond 17 [4, 6] [2, 3, 4, 6] (.seq (.region [(none, .ld 18 (some 1) (.tmp 6)),
 (none, .st 1 (.tmp 4) (.tmp 18)),
 (none, .as 5 (.k (.bool false)))] [4, 5]) (.ret)) (.skip))) (.seq (.region [(none, .fa 19 0 (.tmp 3)),
 (none, .ld 20 none (.tmp 19)),
 (none, .bin 21 .num .rem (.tmp 20) (.k (.int .i64 9))),
 (none, .as 7 (.tmp 21))] [2, 3, 4, 6, 7]) (.seq (.dreg (.op 0 none [] (.fa 22 0 (.tmp 6))
 (.op 1 none [] (.ld 23 none (.tmp 22))
 (.op 2 none [] (.mv 24 (.tmp 7))
 (.op 3 none [] (.fa 25 0 (.tmp 6))
 (.op 4 none [] (.ld 26 none (.tmp 25))
 (.op 5 none [] (.mv 27 (.tmp 7))
 (.op 6 none [] (.ia 28 (.l (.st 5)) (.tmp 26) (.tmp 27))
 (.op 7 none [] (.ld 29 none (.tmp 28))
 (.op 8 none [] (.ld 30 (some 2) (.tmp 3))
 (.op 9 none [22] (.call 31 gf_spec_l9Put [] rfl [(.tmp 29), (.tmp 30)])
 (.op 10 none [] (.ia 32 (.l (.st 5)) (.tmp 23) (.tmp 24))
 (.op 11 none [] (.st 1 (.tmp 32) (.tmp 31))
 .nil)))))))))))) [2, 4, 6]) (.seq (.seq (.region [(none, .ld 33 (some 1) (.tmp 6)),
 (none, .call 34 gf_spec_WheelOk [] rfl [(.tmp 33)]),
 (none, .un 35 .not (.tmp 34))] [2, 4, 6, 35]) (.cond 35 [2, 4] [4, 6] (.seq (.region [(none, .ld 36 (some 1) (.tmp 2)),
 (none, .call 37 gf_spec_l9Copy [] rfl [(.tmp 36)]),
 (none, .st 1 (.tmp 4) (.tmp 37)),
 (none, .as 5 (.k (.bool false)))] [4, 5]) (.ret)) (.skip))) (.seq (.region [(none, .ld 38 (some 1) (.tmp 6)),
 (none, .st 1 (.tmp 4) (.tmp 38)),
 (none, .as 5 (.k (.bool true)))] [4, 5]) (.ret)))))))
noncomputable def d_spec_WheelPut_j1 (p0 : GWheel) (p1 : GPin) (x1 : GWheel) (v3 : Bool) : Option (GWheel × Bool) :=
  br v3
    (some (x1, false))
    (bd (at? x1.Spoke (p1.At.tmod 9)) fun x4 =>
    bd (at? x1.Spoke (p1.At.tmod 9)) fun x5 =>
    bd (d_spec_l9Put x5 p1) fun x6 =>
    bd (at? x1.Spoke (p1.At.tmod 9)) fun x7 =>
    bd (at? x1.Spoke (p1.At.tmod 9)) fun x8 =>
    bd (d_spec_WheelOk (GWheel.mk (x1.Spoke.set (p1.At.tmod 9).toNat x6))) fun x9 =>
    br (!x9)
      (bd (d_spec_l9Copy p0) fun x10 =>
      some (x10, false))
      (some ((GWheel.mk (x1.Spoke.set (p1.At.tmod 9).toNat x6), true))))
noncomputable def d_spec_WheelPut (p0 : GWheel) (p1 : GPin) : Option (GWheel × Bool) :=
  bd (d_spec_l9Copy p0) fun x1 =>
  bd (d_spec_WheelOk p0) fun x2 =>
  br (!x2)
    (jn (d_spec_WheelPut_j1 p0 p1 x1) true)
    (jn (d_spec_WheelPut_j1 p0 p1 x1) (decide (p1.At < 1)))
noncomputable def gf_spec_WheelPut : GF := y_spec_WheelPut.gf rfl rfl (fun a => d_spec_WheelPut a.1 a.2.1) (fun a => by kernel_rfl)
noncomputable def y_spec_l1Max : Y.YF where
  R := []
  ps := [.v .i, .v .i]
  fs := []
  rk := .ret [.i]
  rs := [.tmp 4]
  body := .seq (.region [(none, .as 4 (.k (.int .i64 0)))] [0, 1]) (.seq (.seq (.region [(none, .mv 5 (.tmp 0)),
 (none, .mv 6 (.tmp 1)),
 (none, .bin 7 .num .gtr (.tmp 5) (.tmp 6))] [0, 1, 7]) (.cond 7 [0] [1] (.seq (.region [(none, .mv 8 (.tmp 0)),
 (none, .as 4 (.tmp 8))] [4]) (.ret)) (.skip))) (.seq (.region [(none, .mv 9 (.tmp 1)),
 (none, .as 4 (.tmp 9))] [4]) (.ret)))
noncomputable def d_spec_l1Max (p0 : Int) (p1 : Int) : Option Int :=
  br (decide (p0 > p1))
    (some p0)
    (some p1)
noncomputable def gf_spec_l1Max : GF := y_spec_l1Max.gf rfl rfl (fun a => d_spec_l1Max a.1 a.2.1) (fun a => by kernel_rfl)
noncomputable def y_spec_PartyOk : Y.YF where
  R := []
  ps := [.v (.st 1), .v (.st 2), .v .i]
  fs := []
  rk := .ret [.b]
  rs := [.tmp 6]
  body := .seq (.region [(none, .box 3 (.tmp 0)),
 (none, .box 4 (.tmp 1)),
 (none, .as 6 (.k (.bool false)))] [2, 3, 4]) (.seq (.join [(false, 47, .one, [.val .b none])] (.region [(none, .ld 7 (some 9) (.tmp 3)),
 (none, .call 8 gf_spec_RulesOk [] rfl [(.tmp 7)]),
 (none, .un 9 .not (.tmp 8)),
 (none, .mv 10 (.tmp 9)),
 ((some (10, false)), .mv 11 (.tmp 2)),
 ((some (10, false)), .call 12 gf_spec_l1In [] rfl [(.tmp 11), (.k (.int .i64 0)), (.k (.int .i64 1000000))]),
 ((some (10, false)), .un 13 .not (.tmp 12)),
 (none, .pick 14 (.tmp 10) (.k (.bool true)) (.tmp 13)),
 (none, .mv 15 (.tmp 14)),
 ((some (15, false)), .fa 16 0 (.tmp 4)),
 ((some (15, false)), .ld 17 none (.tmp 16)),
 ((some (15, false)), .call 18 gf_spec_l1In [] rfl [(.tmp 17), (.k (.int .i64 1)), (.k (.int .i64 999))]),
 ((some (15, false)), .un 19 .not (.tmp 18)),
 (none, .pick 20 (.tmp 15) (.k (.bool true)) (.tmp 19)),
 (none, .mv 21 (.tmp 20)),
 ((some (21, false)), .fa 22 1 (.tmp 4)),
 ((some (21, false)), .ld 23 none (.tmp 22)),
 ((some (21, false)), .fa 24 0 (.tmp 3)),
 ((some (21, false)), .ld 25 none (.tmp 24)),
 ((some (21, false)), .len 26 (.tmp 25)),
 ((some (21, false)), .bin 27 .num .sub (.tmp 26) (.k (.int .i64 1))),
 ((some (21, false)), .call 28 gf_spec_l1In [] rfl [(.tmp 23), (.k (.int .i64 0)), (.tmp 27)]),
 ((some (21, false)), .un 29 .not (.tmp 28)),
 (none, .pick 30 (.tmp 21) (.k (.bool true)) (.tmp 29)),
 (none, .mv 31 (.tmp 30)),
 ((some (31, false)), .fa 32 2 (.tmp 4)),
 ((some (31, false)), .ld 33 none (.tmp 32)),
 ((some (31, false)), .fa 34 0 (.tmp 3)),
 ((some (31, false)), .ld 35 none (.tmp 34)),
 ((some (31, false)), .len 36 (.tmp 35)),
 ((some (31, false)), .bin 37 .num .sub (.tmp 36) (.k (.int .i64 1))),
 ((some (31, false)), .call 38 gf_spec_l1In [] rfl [(.tmp 33), (.k (.int .i64 (-1))), (.tmp 37)]),
 ((some (31, false)), .un 39 .not (.tmp 38)),
 (none, .pick 40 (.tmp 31) (.k (.bool true)) (.tmp 39)),
 (none, .mv 41 (.tmp 40)),
 ((some (41, false)), .fa 42 2 (.tmp 4)),
 ((some (41, false)), .ld 43 none (.tmp 42)),
 ((some (41, false)), .fa 44 1 (.tmp 4)),
 ((some (41, false)), .ld 45 none (.tmp 44)),
 ((some (41, false)), .bin 46 .num .eql (.tmp 43) (.tmp 45)),
 (none, .pick 47 (.tmp 41) (.k (.bool true)) (.tmp 46))] [2, 3, 4, 47]) (.cond 47 [] [2, 3, 4] (.seq (.region [(none, .as 6 (.k (.bool false)))] [6]) (.ret)) (.skip))) (.seq (.join [(false, 84, .one, [.val .b none])] (.region [(none, .fa 48 3 (.tmp 4)),
 (none, .ld 49 none (.tmp 48)),
 (none, .fa 50 3 (.tmp 3)),
 (none, .ld 51 none (.tmp 50)),
 (none, .call 52 gf_spec_l1In [] rfl [(.tmp 49), (.k (.int .i64 1)), (.tmp 51)]),
 (none, .un 53 .not (.tmp 52)),
 (none, .mv 54 (.tmp 53)),
 ((some (54, false)), .fa 55 4 (.tmp 4)),
 ((some (54, false)), .ld 56 none (.tmp 55)),
 ((some (54, false)), .fa 57 1 (.tmp 3)),
 ((some (54, false)), .ld 58 none (.tmp 57)),
 ((some (54, false)), .bin 59 .num .sub (.tmp 58) (.k (.int .i64 1))),
 ((some (54, false)), .call 60 gf_spec_l1In [] rfl [(.tmp 56), (.k (.int .i64 0)), (.tmp 59)]),
 ((some (54, false)), .un 61 .not (.tmp 60)),
 (none, .pick 62 (.tmp 54) (.k (.bool true)) (.tmp 61)),
 (none, .mv 63 (.tmp 62)),
 ((some (63, false)), .fa 64 5 (.tmp 4)),
 ((some (63, false)), .ld 65 none (.tmp 64)),
 ((some (63, false)), .mv 66 (.tmp 2)),
 ((some (63, false)), .call 67 gf_spec_l1In [] rfl [(.tmp 65), (.k (.int .i64 0)), (.tmp 66)]),
 ((some (63, false)), .un 68 .not (.tmp 67)),
 (none, .pick 69 (.tmp 63) (.k (.bool true)) (.tmp 68)),
 (none, .mv 70 (.tmp 69)),
 ((some (70, false)), .fa 71 6 (.tmp 4)),
 ((some (70, false)), .ld 72 none (.tmp 71)),
 ((some (70, false)), .call 73 gf_spec_l1In [] rfl [(.tmp 72), (.k (.int .i64 1)), (.k (.int .i64 1000000))]),
 ((some (70, false)), .un 74 .not (.tmp 73)),
 (none, .pick 75 (.tmp 70) (.k (.bool true)) (.tmp 74)),
 (none, .mv 76 (.tmp 75)),
 ((some (76, false)), .fa 77 9 (.tmp 4)),
 ((some (76, false)), .ld 78 none (.tmp 77)),
 ((some (76, false)), .fa 79 7 (.tmp 3)),
 ((some (76, false)), .ld 80 none (.tmp 79)),
 ((some (76, false)), .bin 81 .num .sub (.tmp 80) (.k (.int .i64 1))),
 ((some (76, false)), .call 82 gf_spec_l1In [] rfl [(.tmp 78), (.k (.int .i64 0)), (.tmp 81)]),
 ((some (76, false)), .un 83 .not (.tmp 82)),
 (none, .pick 84 (.tmp 76) (.k (.bool true)) (.tmp 83))] [2, 3, 4, 84]) (.cond 84 [] [2, 3, 4] (.seq (.region [(none, .as 6 (.k (.bool false)))] [6]) (.ret)) (.skip))) (.join [(false, 6, .one, [.val .b none])] (.region [(none, .fa 85 7 (.tmp 4)),
 (none, .ld 86 none (.tmp 85)),
 (none, .bin 87 .num .eql (.tmp 86) (.k (.int .i64 1))),
 (none, .mv 88 (.tmp 87)),
 ((some (88, true)), .fa 89 8 (.tmp 4)),
 ((some (88, true)), .ld 90 none (.tmp 89)),
 ((some (88, true)), .mv 91 (.tmp 2)),
 ((some (88, true)), .fa 92 6 (.tmp 3)),
 ((some (88, true)), .ld 93 none (.tmp 92)),
 ((some (88, true)), .bin 94 .num .add (.tmp 91) (.tmp 93)),
 ((some (88, true)), .call 95 gf_spec_l1In [] rfl [(.tmp 90), (.k (.int .i64 0)), (.tmp 94)]),
 (none, .pick 96 (.tmp 88) (.tmp 95) (.k (.bool false))),
 (none, .mv 97 (.tmp 96)),
 ((some (97, false)), .fa 98 7 (.tmp 4)),
 ((some (97, false)), .ld 99 none (.tmp 98)),
 ((some (97, false)), .bin 100 .num .eql (.tmp 99) (.k (.int .i64 2))),
 ((some (97, false)), .mv 101 (.tmp 100)),
 ((some (101, true)), .fa 102 8 (.tmp 4)),
 ((some (101, true)), .ld 103 none (.tmp 102)),
 ((some (101, true)), .mv 104 (.tmp 2)),
 ((some (101, true)), .fa 105 5 (.tmp 3)),
 ((some (101, true)), .ld 106 none (.tmp 105)),
 ((some (101, true)), .bin 107 .num .add (.tmp 104) (.tmp 106)),
 ((some (101, true)), .call 108 gf_spec_l1In [] rfl [(.tmp 103), (.k (.int .i64 1)), (.tmp 107)]),
 ((some (97, false)), .pick 109 (.tmp 101) (.tmp 108) (.k (.bool false))),
 (none, .pick 110 (.tmp 97) (.k (.bool true)) (.tmp 109)),
 (none, .as 6 (.tmp 110))] [6]) (.ret))))
noncomputable def d_spec_PartyOk_j3 (v6 : Bool) : Option Bool :=
  some v6
noncomputable def d_spec_PartyOk_j2 (p0 : GRules) (p1 : GParty) (p2 : Int) (v4 : Bool) : Option Bool :=
  br v4
    (some false)
    (br (p1.State == 1)
      (bd (d_spec_l1In p1.Until 0 (w64 (p2 + p0.Rest))) fun x5 =>
      br x5
        (jn (d_spec_PartyOk_j3) true)
        (br (p1.State == 2)
          (bd (d_spec_l1In p1.Until 1 (w64 (p2 + p0.Window))) fun x7 =>
          jn (d_spec_PartyOk_j3) x7)
          (jn (d_spec_PartyOk_j3) false)))
      (br (p1.State == 2)
        (bd (d_spec_l1In p1.Until 1 (w64 (p2 + p0.Window))) fun x8 =>
        jn (d_spec_PartyOk_j3) x8)
        (jn (d_spec_PartyOk_j3) false)))
noncomputable def d_spec_PartyOk_j1 (p0 : GRules) (p1 : GParty) (p2 : Int) (v2 : Bool) : Option Bool :=
  br v2
    (some false)
    (bd (d_spec_l1In p1.Size 1 p0.Size) fun x3 =>
    br (!x3)
      (jn (d_spec_PartyOk_j2 p0 p1 p2) true)
      (bd (d_spec_l1In p1.Tier 0 (w64 (p0.Tiers - 1))) fun x9 =>
      br (!x9)
        (jn (d_spec_PartyOk_j2 p0 p1 p2) true)
        (bd (d_spec_l1In p1.Since 0 p2) fun x10 =>
        br (!x10)
          (jn (d_spec_PartyOk_j2 p0 p1 p2) true)
          (bd (d_spec_l1In p1.Turn 1 1000000) fun x11 =>
          br (!x11)
            (jn (d_spec_PartyOk_j2 p0 p1 p2) true)
            (bd (d_spec_l1In p1.Asked 0 (w64 (p0.Tries - 1))) fun x12 =>
            jn (d_spec_PartyOk_j2 p0 p1 p2) (!x12))))))
noncomputable def d_spec_PartyOk (p0 : GRules) (p1 : GParty) (p2 : Int) : Option Bool :=
  bd (d_spec_RulesOk p0) fun x1 =>
  br (!x1)
    (jn (d_spec_PartyOk_j1 p0 p1 p2) true)
    (bd (d_spec_l1In p2 0 1000000) fun x13 =>
    br (!x13)
      (jn (d_spec_PartyOk_j1 p0 p1 p2) true)
      (bd (d_spec_l1In p1.Id 1 999) fun x14 =>
      br (!x14)
        (jn (d_spec_PartyOk_j1 p0 p1 p2) true)
        (bd (d_spec_l1In p1.Cabin 0 (w64 ((↑p0.Seats.length : Int) - 1))) fun x15 =>
        br (!x15)
          (jn (d_spec_PartyOk_j1 p0 p1 p2) true)
          (bd (d_spec_l1In p1.From (-1) (w64 ((↑p0.Seats.length : Int) - 1))) fun x16 =>
          br (!x16)
            (jn (d_spec_PartyOk_j1 p0 p1 p2) true)
            (jn (d_spec_PartyOk_j1 p0 p1 p2) (p1.From == p1.Cabin))))))
noncomputable def gf_spec_PartyOk : GF := y_spec_PartyOk.gf rfl rfl (fun a => d_spec_PartyOk a.1 a.2.1 a.2.2.1) (fun a => by kernel_rfl)
noncomputable def y_spec_l5Level : Y.YF where
  R := []
  ps := [.v (.st 1), .v .i, .v .i]
  fs := []
  rk := .ret [.i]
  rs := [.tmp 6]
  body := .seq (.region [(none, .box 3 (.tmp 0)),
 (none, .as 6 (.k (.int .i64 0)))] [1, 2, 3]) (.seq (.region [(none, .mv 7 (.tmp 1)),
 (none, .mv 8 (.tmp 2)),
 (none, .fa 9 4 (.tmp 3)),
 (none, .ld 10 none (.tmp 9)),
 (none, .bin 11 .num .quo (.tmp 8) (.tmp 10)),
 (none, .bin 12 .num .sub (.tmp 7) (.tmp 11)),
 (none, .call 13 gf_spec_l1Max [] rfl [(.k (.int .i64 0)), (.tmp 12)]),
 (none, .as 6 (.tmp 13))] [6]) (.ret))
noncomputable def d_spec_l5Level (p0 : GRules) (p1 : Int) (p2 : Int) : Option Int :=
  gd (p0.Period ≠ 0) (
  bd (d_spec_l1Max 0 (w64 (p1 - w64 (p2.tdiv p0.Period)))) fun x1 =>
  some x1)
noncomputable def gf_spec_l5Level : GF := y_spec_l5Level.gf rfl rfl (fun a => d_spec_l5Level a.1 a.2.1 a.2.2.1) (fun a => by kernel_rfl)
noncomputable def y_spec_LevelOf : Y.YF where
  R := []
  ps := [.v (.st 1), .v (.st 2), .v .i]
  fs := []
  rk := .ret [.i]
  rs := [.tmp 6]
  body := .seq (.region [(none, .box 3 (.tmp 0)),
 (none, .box 4 (.tmp 1)),
 (none, .as 6 (.k (.int .i64 0)))] [2, 3, 4]) (.seq (.seq (.region [(none, .ld 7 (some 9) (.tmp 3)),
 (none, .ld 8 (some 10) (.tmp 4)),
 (none, .mv 9 (.tmp 2)),
 (none, .call 10 gf_spec_PartyOk [] rfl [(.tmp 7), (.tmp 8), (.tmp 9)]),
 (none, .un 11 .not (.tmp 10))] [2, 3, 4, 11]) (.cond 11 [] [2, 3, 4] (.seq (.region [(none, .as 6 (.k (.int .i64 (-1))))] [6]) (.ret)) (.skip))) (.seq (.region [(none, .ld 12 (some 9) (.tmp 3)),
 (none, .fa 13 4 (.tmp 4)),
 (none, .ld 14 none (.tmp 13)),
 (none, .mv 15 (.tmp 2)),
 (none, .fa 16 5 (.tmp 4)),
 (none, .ld 17 none (.tmp 16)),
 (none, .bin 18 .num .sub (.tmp 15) (.tmp 17)),
 (none, .call 19 gf_spec_l5Level [] rfl [(.tmp 12), (.tmp 14), (.tmp 18)]),
 (none, .as 6 (.tmp 19))] [6]) (.ret)))
noncomputable def d_spec_LevelOf (p0 : GRules) (p1 : GParty) (p2 : Int) : Option Int :=
  bd (d_spec_PartyOk p0 p1 p2) fun x1 =>
  br (!x1)
    (some (-1))
    (bd (d_spec_l5Level p0 p1.Tier (w64 (p2 - p1.Since))) fun x2 =>
    some x2)
noncomputable def gf_spec_LevelOf : GF := y_spec_LevelOf.gf rfl rfl (fun a => d_spec_LevelOf a.1 a.2.1 a.2.2.1) (fun a => by kernel_rfl)
noncomputable def y_spec_EntryOf : Y.YF where
  R := []
  ps := [.v (.st 1), .v (.st 2), .v .i]
  fs := []
  rk := .ret [(.st 4), .b]
  rs := [.cell 6 (some 4), .tmp 7]
  body := .seq (.region [(none, .box 3 (.tmp 0)),
 (none, .box 4 (.tmp 1)),
 (none, .alloc 6 [.int .i64 0, .int .i64 0, .int .i64 0, .int .i64 0]),
 (none, .as 7 (.k (.bool false)))] [2, 3, 4, 6]) (.seq (.region [(none, .ld 9 (some 9) (.tmp 3)),
 (none, .ld 10 (some 10) (.tmp 4)),
 (none, .mv 11 (.tmp 2)),
 (none, .call 12 gf_spec_LevelOf [] rfl [(.tmp 9), (.tmp 10), (.tmp 11)]),
 (none, .as 8 (.tmp 12))] [4, 6, 8]) (.seq (.join [(false, 19, .one, [.val .b none])] (.region [(none, .mv 13 (.tmp 8)),
 (none, .bin 14 .num .lss (.tmp 13) (.k (.int .i64 0))),
 (none, .mv 15 (.tmp 14)),
 ((some (15, false)), .fa 16 7 (.tmp 4)),
 ((some (15, false)), .ld 17 none (.tmp 16)),
 ((some (15, false)), .bin 18 .num .neq (.tmp 17) (.k (.int .i64 1))),
 (none, .pick 19 (.tmp 15) (.k (.bool true)) (.tmp 18))] [4, 6, 8, 19]) (.cond 19 [6] [4, 6, 8] (.seq (.region [(none, .build 20 [.int .i64 0, .int .i64 0, .int .i64 0, .int .i64 0] []),
 (none, .st 4 (.tmp 6) (.tmp 20)),
 (none, .as 7 (.k (.bool false)))] [6, 7]) (.ret)) (.skip))) (.seq (.region [(none, .mv 21 (.tmp 8)),
 (none, .fa 22 6 (.tmp 4)),
 (none, .ld 23 none (.tmp 22)),
 (none, .fa 24 0 (.tmp 4)),
 (none, .ld 25 none (.tmp 24)),
 (none, .fa 26 3 (.tmp 4)),
 (none, .ld 27 none (.tmp 26)),
 (none, .build 28 [.int .i64 0, .int .i64 0, .int .i64 0, .int .i64 0] [(0, 1, (.tmp 21)), (1, 1, (.tmp 23)), (2, 1, (.tmp 25)), (3, 1, (.tmp 27))]),
 (none, .st 4 (.tmp 6) (.tmp 28)),
 (none, .as 7 (.k (.bool true)))] [6, 7]) (.ret))))
noncomputable def d_spec_EntryOf_j1 (p1 : GParty) (x1 : Int) (v2 : Bool) : Option (GEntry × Bool) :=
  br v2
    (some (GEntry.mk 0 0 0 0, false))
    (some (GEntry.mk x1 p1.Turn p1.Id p1.Size, true))
noncomputable def d_spec_EntryOf (p0 : GRules) (p1 : GParty) (p2 : Int) : Option (GEntry × Bool) :=
  bd (d_spec_LevelOf p0 p1 p2) fun x1 =>
  br (decide (x1 < 0))
    (jn (d_spec_EntryOf_j1 p1 x1) true)
    (jn (d_spec_EntryOf_j1 p1 x1) (p1.State != 1))
noncomputable def gf_spec_EntryOf : GF := y_spec_EntryOf.gf rfl rfl (fun a => d_spec_EntryOf a.1 a.2.1 a.2.2.1) (fun a => by kernel_rfl)
noncomputable def y_spec_EntryLess : Y.YF where
  R := []
  ps := [.v (.st 4), .v (.st 4)]
  fs := []
  rk := .ret [.b]
  rs := [.tmp 4]
  body := .seq (.region [(none, .box 2 (.tmp 0)),
 (none, .box 3 (.tmp 1)),
 (none, .as 4 (.k (.bool false)))] [2, 3]) (.join [(false, 4, .one, [.val .b none])] (.region [(none, .fa 5 0 (.tmp 2)),
 (none, .ld 6 none (.tmp 5)),
 (none, .fa 7 0 (.tmp 3)),
 (none, .ld 8 none (.tmp 7)),
 (none, .bin 9 .num .lss (.tmp 6) (.tmp 8)),
 (none, .mv 10 (.tmp 9)),
 ((some (10, false)), .fa 11 0 (.tmp 2)),
 ((some (10, false)), .ld 12 none (.tmp 11)),
 ((some (10, false)), .fa 13 0 (.tmp 3)),
 ((some (10, false)), .ld 14 none (.tmp 13)),
 ((some (10, false)), .bin 15 .num .eql (.tmp 12) (.tmp 14)),
 ((some (10, false)), .mv 16 (.tmp 15)),
 ((some (16, true)), .fa 17 1 (.tmp 2)),
 ((some (16, true)), .ld 18 none (.tmp 17)),
 ((some (16, true)), .fa 19 1 (.tmp 3)),
 ((some (16, true)), .ld 20 none (.tmp 19)),
 ((some (16, true)), .bin 21 .num .lss (.tmp 18) (.tmp 20)),
 ((some (10, false)), .pick 22 (.tmp 16) (.tmp 21) (.k (.bool false))),
 (none, .pick 23 (.tmp 10) (.k (.bool true)) (.tmp 22)),
 (none, .as 4 (.tmp 23))] [4]) (.ret))
noncomputable def d_spec_EntryLess_j1 (v1 : Bool) : Option Bool :=
  some v1
noncomputable def d_spec_EntryLess (p0 : GEntry) (p1 : GEntry) : Option Bool :=
  br (decide (p0.Level < p1.Level))
    (jn (d_spec_EntryLess_j1) true)
    (br (p0.Level == p1.Level)
      (jn (d_spec_EntryLess_j1) (decide (p0.Turn < p1.Turn)))
      (jn (d_spec_EntryLess_j1) false))
noncomputable def gf_spec_EntryLess : GF := y_spec_EntryLess.gf rfl rfl (fun a => d_spec_EntryLess a.1 a.2.1) (fun a => by kernel_rfl)
noncomputable def y_spec_l7Copy : Y.YF where
  R := []
  ps := [.v (.l (.st 4))]
  fs := []
  rk := .ret [(.l (.st 4))]
  rs := [.tmp 2]
  body := .seq (.region [(none, .as 2 (.k .nil)),
 (none, .nils [(.tmp 2 0, (.st 4))])] [0]) (.seq (.region [(none, .bslice 3 0 (.st 4) []),
 (none, .mv 4 (.tmp 0)),
 (none, .app 5 (.st 4) true (.tmp 3) (.tmp 4)),
 (none, .as 2 (.tmp 5))] [2]) (.ret))
noncomputable def d_spec_l7Copy (p0 : (List GEntry)) : Option (List GEntry) :=
  gd (0 + p0.length ≤ lim) (
  some ([] ++ p0))
noncomputable def gf_spec_l7Copy : GF := y_spec_l7Copy.gf rfl rfl (fun a => d_spec_l7Copy a.1) (fun a => by kernel_rfl)
noncomputable def y_spec_l7Put : Y.YF where
  R := []
  ps := [.v (.l (.st 4)), .v (.st 4)]
  fs := []
  rk := .ret [(.l (.st 4))]
  rs := [.tmp 4]
  body := .seq (.region [(none, .box 3 (.tmp 1)),
 (none, .as 4 (.k .nil)),
 (none, .nils [(.tmp 4 0, (.st 4))])] [0, 3]) (.seq (.region [(none, .as 5 (.k (.int .i64 0)))] [0, 3, 5]) (.join [(false, 5, .one, [.val .i none])] (.block 0 (.loop [(false, 5, .one, [.val .i none])] (.seq (.join [(false, 18, .one, [.val .b none])] (.dreg (.op 0 none [] (.mv 7 (.tmp 5))
 (.op 1 none [] (.mv 8 (.tmp 0))
 (.op 2 none [] (.len 9 (.tmp 8))
 (.op 3 none [] (.bin 10 .num .lss (.tmp 7) (.tmp 9))
 (.op 4 none [] (.mv 11 (.tmp 10))
 (.op 5 (some (11, true)) [] (.mv 12 (.tmp 0))
 (.op 6 (some (11, true)) [] (.mv 13 (.tmp 5))
 (.op 7 (some (11, true)) [] (.ia 14 (.st 4) (.tmp 12) (.tmp 13))
 (.op 8 (some (11, true)) [] (.ld 15 (some 4) (.tmp 14))
 (.op 9 (some (11, true)) [] (.ld 16 (some 4) (.tmp 3))
 (.op 10 (some (11, true)) [] (.call 17 gf_spec_EntryLess [] rfl [(.tmp 15), (.tmp 16)])
 (.op 11 none [] (.pick 18 (.tmp 11) (.tmp 17) (.k (.bool false)))
 .nil)))))))))))) [0, 3, 5, 18]) (.cond 18 [0, 3, 5] [0, 3, 5] (.skip) (.exit 0))) (.block 1 (.region [(none, .mv 19 (.tmp 5)),
 (none, .bin 20 .num .add (.tmp 19) (.k (.int .i64 1))),
 (none, .as 5 (.tmp 20))] [0, 3, 5]))))) (.seq (.dreg (.op 0 none [] (.mv 21 (.tmp 0))
 (.op 1 none [] (.mv 22 (.tmp 5))
 (.op 2 none [] (.sub 23 (.st 4) (.tmp 21) none (some (.tmp 22)))
 (.op 4 none [] (.ld 25 (some 4) (.tmp 3))
 (.both 0 (.op 3 none [3] (.call 24 gf_spec_l7Copy [] rfl [(.tmp 23)])
 (.op 5 none [] (.bslice 26 1 (.st 4) [(0, (.tmp 25))])
 (.op 6 none [] (.app 27 (.st 4) true (.tmp 24) (.tmp 26))
 (.op 7 none [] (.as 6 (.tmp 27))
 .nil)))) (.op 5 none [] (.bslice 26 1 (.st 4) [(0, (.tmp 25))])
 (.op 3 none [3] (.call 24 gf_spec_l7Copy [] rfl [(.tmp 23)])
 (.op 6 none [] (.app 27 (.st 4) true (.tmp 24) (.tmp 26))
 (.op 7 none [] (.as 6 (.tmp 27))
 .nil))))))))) [0, 5, 6]) (.seq (.region [(none, .mv 28 (.tmp 6)),
 (none, .mv 29 (.tmp 0)),
 (none, .mv 30 (.tmp 5)),
 (none, .sub 31 (.st 4) (.tmp 29) (some (.tmp 30)) none),
 (none, .app 32 (.st 4) true (.tmp 28) (.tmp 31)),
 (none, .as 4 (.tmp 32))] [4]) (.ret)))))
noncomputable def d_spec_l7Put_j3 (p0 : (List GEntry)) (p1 : GEntry) (v6 : Int) : Option (List GEntry) :=
  gd (0 ≤ v6 ∧ v6 ≤ (↑p0.length : Int)) (
  bd (d_spec_l7Copy (List.take v6.toNat p0)) fun x7 =>
  gd (List.length x7 + [p1].length ≤ lim) (
  bd (d_spec_l7Copy (List.take v6.toNat p0)) fun x8 =>
  gd (List.length x8 + [p1].length ≤ lim) (
  eqv (x7 ++ [p1]) (x8 ++ [p1]) (
  eqv [p1] [p1] (
  gd (0 ≤ v6 ∧ v6 ≤ (↑p0.length : Int)) (
  gd ((x7 ++ [p1]).length + (List.drop v6.toNat p0).length ≤ lim) (
  some (x7 ++ [p1] ++ List.drop v6.toNat p0))))))))
noncomputable def d_spec_l7Put_j2 (p0 : (List GEntry)) (p1 : GEntry) (L1 : Int → Option (List GEntry)) (v2 : Int) (v5 : Bool) : Option (List GEntry) :=
  br v5
    (L1 (w64 (v2 + 1)))
    (jn (d_spec_l7Put_j3 p0 p1) v2)
noncomputable def d_spec_l7Put_l1 (p0 : (List GEntry)) (p1 : GEntry) (L1 : Int → Option (List GEntry)) (v2 : Int) : Option (List GEntry) :=
  br (decide (v2 < (↑p0.length : Int)))
    (bd (at? p0 v2) fun x3 =>
    bd (d_spec_EntryLess x3 p1) fun x4 =>
    jn (d_spec_l7Put_j2 p0 p1 L1 v2) x4)
    (jn (d_spec_l7Put_j2 p0 p1 L1 v2) false)
noncomputable def d_spec_l7Put (p0 : (List GEntry)) (p1 : GEntry) : Option (List GEntry) :=
  loopN (d_spec_l7Put_l1 p0 p1) big 0
noncomputable def gf_spec_l7Put : GF := y_spec_l7Put.gf rfl rfl (fun a => d_spec_l7Put a.1 a.2.1) (fun a => by kernel_rfl)
noncomputable def y_spec_QueueOf : Y.YF where
  R := []
  ps := [.v (.st 1), .v (.l (.st 2)), .v .i, .v .i]
  fs := []
  rk := .ret [(.l (.st 4))]
  rs := [.tmp 8]
  body := .seq (.region [(none, .box 4 (.tmp 0)),
 (none, .as 8 (.k .nil)),
 (none, .nils [(.tmp 8 0, (.st 4))])] [1, 2, 3, 4]) (.seq (.region [(none, .bslice 13 0 (.st 4) []),
 (none, .as 9 (.tmp 13))] [1, 2, 3, 4, 9]) (.join [(false, 9, .one, [.val (.l (.st 4)) none])] (.seq (.region [(none, .mv 14 (.tmp 1)),
 (none, .len 15 (.tmp 14)),
 (none, .bin 16 .num .sub (.tmp 15) (.k (.int .i64 1))),
 (none, .as 10 (.tmp 16))] [1, 2, 3, 4, 9, 10]) (.block 0 (.loop [(false, 9, .one, [.val (.l (.st 4)) none]), (false, 10, .one, [.val .i none])] (.seq (.seq (.region [(none, .mv 17 (.tmp 10)),
 (none, .bin 18 .num .geq (.tmp 17) (.k (.int .i64 0)))] [1, 2, 3, 4, 9, 10, 18]) (.cond 18 [1, 2, 3, 4, 9, 10] [9] (.skip) (.exit 0))) (.join [(false, 9, .one, [.val (.l (.st 4)) none])] (.block 1 (.seq (.dreg (.op 0 none [] (.ld 22 (some 9) (.tmp 4))
 (.op 1 none [] (.mv 23 (.tmp 1))
 (.op 2 none [] (.mv 24 (.tmp 10))
 (.op 3 none [] (.ia 25 (.st 2) (.tmp 23) (.tmp 24))
 (.op 4 none [] (.ld 26 (some 10) (.tmp 25))
 (.op 5 none [] (.mv 27 (.tmp 3))
 (.both 0 (.op 6 none [] (.call 28 gf_spec_EntryOf [] rfl [(.tmp 22), (.tmp 26), (.tmp 27)])
 (.op 7 none [] (.mv 21 (.tmp 28))
 (.op 8 none [] (.ext 29 (.tmp 21) 0)
 (.op 9 none [] (.ext 30 (.tmp 21) 1)
 (.op 10 none [4, 25] (.alloc 11 [.int .i64 0, .int .i64 0, .int .i64 0, .int .i64 0])
 (.op 11 none [] (.st 4 (.tmp 11) (.tmp 29))
 (.op 12 none [] (.as 12 (.tmp 30))
 .nil))))))) (.op 10 none [4, 25] (.alloc 11 [.int .i64 0, .int .i64 0, .int .i64 0, .int .i64 0])
 (.op 6 none [] (.call 28 gf_spec_EntryOf [] rfl [(.tmp 22), (.tmp 26), (.tmp 27)])
 (.op 7 none [] (.mv 21 (.tmp 28))
 (.op 8 none [] (.ext 29 (.tmp 21) 0)
 (.op 9 none [] (.ext 30 (.tmp 21) 1)
 (.op 11 none [] (.st 4 (.tmp 11) (.tmp 29))
 (.op 12 none [] (.as 12 (.tmp 30))
 .nil)))))))))))))) [1, 2, 3, 4, 9, 10, 11, 12]) (.join [(false, 40, .one, [.val .b none])] (.region [(none, .mv 31 (.tmp 12)),
 (none, .mv 32 (.tmp 31)),
 ((some (32, true)), .mv 33 (.tmp 1)),
 ((some (32, true)), .mv 34 (.tmp 10)),
 ((some (32, true)), .ia 35 (.st 2) (.tmp 33) (.tmp 34)),
 ((some (32, true)), .fa 36 1 (.tmp 35)),
 ((some (32, true)), .ld 37 none (.tmp 36)),
 ((some (32, true)), .mv 38 (.tmp 2)),
 ((some (32, true)), .bin 39 .num .eql (.tmp 37) (.tmp 38)),
 (none, .pick 40 (.tmp 32) (.tmp 39) (.k (.bool false)))] [1, 2, 3, 4, 9, 10, 11, 40]) (.cond 40 [1, 2, 3, 4, 9, 10, 11] [1, 2, 3, 4, 9, 10] (.region [(none, .mv 41 (.tmp 9)),
 (none, .ld 42 (some 4) (.tmp 11)),
 (none, .call 43 gf_spec_l7Put [] rfl [(.tmp 41), (.tmp 42)]),
 (none, .as 9 (.tmp 43))] [1, 2, 3, 4, 9, 10]) (.skip))))) (.region [(none, .mv 19 (.tmp 10)),
 (none, .bin 20 .num .sub (.tmp 19) (.k (.int .i64 1))),
 (none, .as 10 (.tmp 20))] [1, 2, 3, 4, 9, 10])))))) (.seq (.region [(none, .mv 44 (.tmp 9)),
 (none, .as 8 (.tmp 44))] [8]) (.ret))))
noncomputable def d_spec_QueueOf_j3 (L1 : ((List GEntry) × Int) → Option (List GEntry)) (v3 : Int) (v10 : (List GEntry)) : Option (List GEntry) :=
  L1 ((v10, w64 (v3 - 1)))
noncomputable def d_spec_QueueOf_j2 (L1 : ((List GEntry) × Int) → Option (List GEntry)) (v2 : (List GEntry)) (v3 : Int) (x5 : (GEntry × Bool)) (v8 : Bool) : Option (List GEntry) :=
  br v8
    (bd (d_spec_l7Put v2 x5.fst) fun x9 =>
    jn (d_spec_QueueOf_j3 L1 v3) x9)
    (jn (d_spec_QueueOf_j3 L1 v3) v2)
noncomputable def d_spec_QueueOf_j4 (v11 : (List GEntry)) : Option (List GEntry) :=
  some v11
noncomputable def d_spec_QueueOf_l1 (p0 : GRules) (p1 : (List GParty)) (p2 : Int) (p3 : Int) (L1 : ((List GEntry) × Int) → Option (List GEntry)) (x_ : ((List GEntry) × Int)) : Option (List GEntry) :=
  match x_ with
  | (v2, v3) => br (decide (v3 ≥ 0))
    (bd (at? p1 v3) fun x4 =>
    bd (d_spec_EntryOf p0 x4 p3) fun x5 =>
    bd (d_spec_EntryOf p0 x4 p3) fun x6 =>
    eqv x5.snd x6.snd (
    eqv x5.fst.Level x6.fst.Level (
    eqv x5.fst.Turn x6.fst.Turn (
    eqv x5.fst.Id x6.fst.Id (
    eqv x5.fst.Size x6.fst.Size (
    eqv x5.snd x6.snd (
    eqv x5.fst.Level x6.fst.Level (
    eqv x5.fst.Turn x6.fst.Turn (
    eqv x5.fst.Id x6.fst.Id (
    eqv x5.fst.Size x6.fst.Size (
    eqv x5.snd x6.snd (
    eqv x5.fst.Level x6.fst.Level (
    eqv x5.fst.Turn x6.fst.Turn (
    eqv x5.fst.Id x6.fst.Id (
    eqv x5.fst.Size x6.fst.Size (
    eqv x5.snd x6.snd (
    eqv x5.fst.Level x6.fst.Level (
    eqv x5.fst.Turn x6.fst.Turn (
    eqv x5.fst.Id x6.fst.Id (
    eqv x5.fst.Size x6.fst.Size (
    br x5.snd
      (bd (at? p1 v3) fun x7 =>
      jn (d_spec_QueueOf_j2 L1 v2 v3 x5) (x7.Cabin == p2))
      (jn (d_spec_QueueOf_j2 L1 v2 v3 x5) false))))))))))))))))))))))
    (jn (d_spec_QueueOf_j4) v2)
noncomputable def d_spec_QueueOf (p0 : GRules) (p1 : (List GParty)) (p2 : Int) (p3 : Int) : Option (List GEntry) :=
  loopN (d_spec_QueueOf_l1 p0 p1 p2 p3) big (([], w64 ((↑p1.length : Int) - 1)))
noncomputable def gf_spec_QueueOf : GF := y_spec_QueueOf.gf rfl rfl (fun a => d_spec_QueueOf a.1 a.2.1 a.2.2.1 a.2.2.2.1) (fun a => by kernel_rfl)
noncomputable def y_spec_l10Made : Y.YF where
  R := []
  ps := [.v (.st 1), .v (.l (.st 2)), .v .i, .v .i, .v .i]
  fs := []
  rk := .ret [(.st 7)]
  rs := [.cell 10 (some 7)]
  body := .seq (.region [(none, .box 5 (.tmp 0)),
 (none, .alloc 10 [.int .i64 0, .int .i64 0, .int .i64 0, .int .i64 0, .int .i64 0, .nil, .nil]),
 (none, .nils [(.cell 10 5, (.st 4)), (.cell 10 6, (.l (.st 5)))])] [1, 2, 3, 4, 5, 10]) (.seq (.region [(none, .call 18 gf_spec_WheelNew [] rfl []),
 (none, .alloc 11 [.nil]),
 (none, .nils [(.cell 11 0, (.l (.st 5)))]),
 (none, .st 1 (.tmp 11) (.tmp 18))] [1, 2, 3, 4, 5, 10, 11]) (.seq (.region [(none, .mv 19 (.tmp 1)),
 (none, .mv 20 (.tmp 2)),
 (none, .call 21 gf_spec_PinsIn [] rfl [(.tmp 19), (.tmp 20)]),
 (none, .as 12 (.tmp 21))] [1, 2, 3, 4, 5, 10, 11, 12]) (.join [(true, 11, .one, [.val (.st 6) none])] (.seq (.region [(none, .as 13 (.k (.int .i64 0)))] [1, 2, 3, 4, 5, 10, 11, 12, 13]) (.block 0 (.loop [(false, 13, .one, [.val .i none]), (true, 11, .one, [.val (.st 6) none])] (.seq (.seq (.region [(none, .mv 22 (.tmp 13)),
 (none, .mv 23 (.tmp 12)),
 (none, .len 24 (.tmp 23)),
 (none, .bin 25 .num .lss (.tmp 22) (.tmp 24))] [1, 2, 3, 4, 5, 10, 11, 12, 13, 25]) (.cond 25 [1, 2, 3, 4, 5, 10, 11, 12, 13] [1, 2, 3, 4, 5, 10, 11] (.skip) (.exit 0))) (.seq (.block 1 (.dreg (.op 0 none [] (.ld 29 (some 1) (.tmp 11))
 (.op 1 none [] (.mv 30 (.tmp 12))
 (.op 2 none [] (.mv 31 (.tmp 13))
 (.op 3 none [] (.ia 32 (.st 5) (.tmp 30) (.tmp 31))
 (.op 4 none [] (.ld 33 (some 2) (.tmp 32))
 (.op 5 none [] (.call 34 gf_spec_WheelPut [] rfl [(.tmp 29), (.tmp 33)])
 (.op 6 none [] (.mv 28 (.tmp 34))
 (.op 7 none [] (.ext 35 (.tmp 28) 0)
 (.op 8 none [] (.ext 36 (.tmp 28) 1)
 (.op 9 none [] (.st 1 (.tmp 11) (.tmp 35))
 .nil)))))))))) [1, 2, 3, 4, 5, 10, 11, 12, 13])) (.region [(none, .mv 26 (.tmp 13)),
 (none, .bin 27 .num .add (.tmp 26) (.k (.int .i64 1))),
 (none, .as 13 (.tmp 27))] [1, 2, 3, 4, 5, 10, 11, 12, 13])))))) (.seq (.region [(none, .mv 37 (.tmp 1)),
 (none, .mv 38 (.tmp 2)),
 (none, .call 39 gf_spec_HeldIn [] rfl [(.tmp 37), (.tmp 38)]),
 (none, .as 14 (.tmp 39))] [1, 2, 3, 4, 5, 10, 11, 14]) (.seq (.region [(none, .mv 40 (.tmp 1)),
 (none, .mv 41 (.tmp 2)),
 (none, .call 42 gf_spec_TiedIn [] rfl [(.tmp 40), (.tmp 41)]),
 (none, .as 15 (.tmp 42))] [1, 2, 3, 4, 5, 10, 11, 14, 15]) (.seq (.region [(none, .fa 43 0 (.tmp 5)),
 (none, .ld 44 none (.tmp 43)),
 (none, .mv 45 (.tmp 2)),
 (none, .ia 46 .i (.tmp 44) (.tmp 45)),
 (none, .ld 47 none (.tmp 46)),
 (none, .as 16 (.tmp 47))] [1, 2, 3, 4, 5, 10, 11, 14, 15, 16]) (.seq (.region [(none, .mv 48 (.tmp 15)),
 (none, .mv 49 (.tmp 16)),
 (none, .mv 50 (.tmp 14)),
 (none, .bin 51 .num .sub (.tmp 49) (.tmp 50)),
 (none, .mv 52 (.tmp 4)),
 (none, .bin 53 .num .sub (.tmp 51) (.tmp 52)),
 (none, .call 54 gf_spec_l1Max [] rfl [(.tmp 48), (.tmp 53)]),
 (none, .as 17 (.tmp 54))] [1, 2, 3, 5, 10, 11, 14, 15, 16, 17]) (.seq (.dreg (.op 0 none [] (.mv 55 (.tmp 16))
 (.op 1 none [] (.mv 56 (.tmp 16))
 (.op 2 none [] (.mv 57 (.tmp 14))
 (.op 3 none [] (.bin 58 .num .sub (.tmp 56) (.tmp 57))
 (.op 4 none [] (.mv 59 (.tmp 17))
 (.op 5 none [] (.bin 60 .num .sub (.tmp 58) (.tmp 59))
 (.op 6 none [] (.mv 61 (.tmp 14))
 (.op 7 none [] (.mv 62 (.tmp 17))
 (.op 8 none [] (.mv 63 (.tmp 15))
 (.op 9 none [] (.build 64 [.int .i64 0, .int .i64 0, .int .i64 0, .int .i64 0, .int .i64 0] [(0, 1, (.tmp 55)), (1, 1, (.tmp 60)), (2, 1, (.tmp 61)), (3, 1, (.tmp 62)), (4, 1, (.tmp 63))])
 (.op 10 none [] (.ld 65 (some 9) (.tmp 5))
 (.op 11 none [] (.mv 66 (.tmp 1))
 (.op 12 none [] (.mv 67 (.tmp 2))
 (.op 13 none [] (.mv 68 (.tmp 3))
 (.op 15 none [] (.ld 70 (some 1) (.tmp 11))
 (.op 14 none [11] (.call 69 gf_spec_QueueOf [] rfl [(.tmp 65), (.tmp 66), (.tmp 67), (.tmp 68)])
 (.op 16 none [] (.build 71 [.int .i64 0, .int .i64 0, .int .i64 0, .int .i64 0, .int .i64 0, .nil, .nil] [(0, 5, (.tmp 64)), (5, 1, (.tmp 69)), (6, 1, (.tmp 70))])
 (.op 17 none [] (.st 7 (.tmp 10) (.tmp 71))
 .nil)))))))))))))))))) [10]) (.ret)))))))))
noncomputable def d_spec_l10Made_j2 (p0 : GRules) (p1 : (List GParty)) (p2 : Int) (p3 : Int) (p4 : Int) (v9 : GWheel) : Option GCabin :=
  bd (d_spec_HeldIn p1 p2) fun x10 =>
  bd (d_spec_TiedIn p1 p2) fun x11 =>
  bd (at? p0.Seats p2) fun x12 =>
  bd (d_spec_l1Max x11 (w64 (w64 (x12 - x10) - p4))) fun x13 =>
  bd (d_spec_QueueOf p0 p1 p2 p3) fun x14 =>
  some (GCabin.mk (GLedger.mk x12 (w64 (w64 (x12 - x10) - x13)) x10 x13 x11) x14 v9)
noncomputable def d_spec_l10Made_l1 (p0 : GRules) (p1 : (List GParty)) (p2 : Int) (p3 : Int) (p4 : Int) (x2 : (List GPin)) (L3 : (Int × GWheel) → Option GCabin) (x_ : (Int × GWheel)) : Option GCabin :=
  match x_ with
  | (v4, v5) => br (decide (v4 < (↑(List.length x2) : Int)))
    (bd (at? x2 v4) fun x6 =>
    bd (at? x2 v4) fun x7 =>
    bd (d_spec_WheelPut v5 x7) fun x8 =>
    L3 ((w64 (v4 + 1), x8.fst)))
    (jn (d_spec_l10Made_j2 p0 p1 p2 p3 p4) v5)
noncomputable def d_spec_l10Made (p0 : GRules) (p1 : (List GParty)) (p2 : Int) (p3 : Int) (p4 : Int) : Option GCabin :=
  bd (d_spec_WheelNew ) fun x1 =>
  bd (d_spec_PinsIn p1 p2) fun x2 =>
  loopN (d_spec_l10Made_l1 p0 p1 p2 p3 p4 x2) big (0, x1)
noncomputable def gf_spec_l10Made : GF := y_spec_l10Made.gf rfl rfl (fun a => d_spec_l10Made a.1 a.2.1 a.2.2.1 a.2.2.2.1 a.2.2.2.2.1) (fun a => by kernel_rfl)
noncomputable def y_spec_l1Has : Y.YF where
  R := []
  ps := [.v (.l .i), .v .i]
  fs := []
  rk := .ret [.b]
  rs := [.tmp 4]
  body := .seq (.region [(none, .as 4 (.k (.bool false)))] [0, 1]) (.join [] (.seq (.region [(none, .as 5 (.k (.int .i64 0)))] [0, 1, 5]) (.block 0 (.loop [(false, 5, .one, [.val .i none])] (.seq (.seq (.region [(none, .mv 6 (.tmp 5)),
 (none, .mv 7 (.tmp 0)),
 (none, .len 8 (.tmp 7)),
 (none, .bin 9 .num .lss (.tmp 6) (.tmp 8))] [0, 1, 5, 9]) (.cond 9 [0, 1, 5] [] (.skip) (.exit 0))) (.seq (.block 1 (.seq (.region [(none, .mv 12 (.tmp 0)),
 (none, .mv 13 (.tmp 5)),
 (none, .ia 14 .i (.tmp 12) (.tmp 13)),
 (none, .ld 15 none (.tmp 14)),
 (none, .mv 16 (.tmp 1)),
 (none, .bin 17 .num .eql (.tmp 15) (.tmp 16))] [0, 1, 5, 17]) (.cond 17 [] [0, 1, 5] (.seq (.region [(none, .as 4 (.k (.bool true)))] [4]) (.ret)) (.skip)))) (.region [(none, .mv 10 (.tmp 5)),
 (none, .bin 11 .num .add (.tmp 10) (.k (.int .i64 1))),
 (none, .as 5 (.tmp 11))] [0, 1, 5])))))) (.seq (.region [(none, .as 4 (.k (.bool false)))] [4]) (.ret)))
noncomputable def d_spec_l1Has_j2 (_ : PUnit) : Option Bool :=
  some false
noncomputable def d_spec_l1Has_l1 (p0 : (List Int)) (p1 : Int) (L1 : Int → Option Bool) (v2 : Int) : Option Bool :=
  br (decide (v2 < (↑p0.length : Int)))
    (bd (at? p0 v2) fun x3 =>
    br (x3 == p1)
      (some true)
      (L1 (w64 (v2 + 1))))
    (jn (d_spec_l1Has_j2) ())
noncomputable def d_spec_l1Has (p0 : (List Int)) (p1 : Int) : Option Bool :=
  loopN (d_spec_l1Has_l1 p0 p1) big 0
noncomputable def gf_spec_l1Has : GF := y_spec_l1Has.gf rfl rfl (fun a => d_spec_l1Has a.1 a.2.1) (fun a => by kernel_rfl)
noncomputable def y_spec_TodoPut : Y.YF where
  R := []
  ps := [.v (.l .i), .v .i]
  fs := []
  rk := .ret [(.l .i)]
  rs := [.tmp 4]
  body := .seq (.region [(none, .as 4 (.k .nil)),
 (none, .nils [(.tmp 4 0, .i)])] [0, 1]) (.seq (.region [(none, .bslice 6 0 .i []),
 (none, .mv 7 (.tmp 0)),
 (none, .app 8 .i true (.tmp 6) (.tmp 7)),
 (none, .as 5 (.tmp 8))] [0, 1, 5]) (.seq (.seq (.region [(none, .mv 9 (.tmp 0)),
 (none, .mv 10 (.tmp 1)),
 (none, .call 11 gf_spec_l1Has [] rfl [(.tmp 9), (.tmp 10)])] [1, 5, 11]) (.cond 11 [5] [1, 5] (.seq (.region [(none, .mv 12 (.tmp 5)),
 (none, .as 4 (.tmp 12))] [4]) (.ret)) (.skip))) (.seq (.region [(none, .mv 13 (.tmp 5)),
 (none, .mv 14 (.tmp 1)),
 (none, .bslice 15 1 .i [(0, (.tmp 14))]),
 (none, .app 16 .i true (.tmp 13) (.tmp 15)),
 (none, .as 4 (.tmp 16))] [4]) (.ret))))
noncomputable def d_spec_TodoPut (p0 : (List Int)) (p1 : Int) : Option (List Int) :=
  gd (0 + p0.length ≤ lim) (
  bd (d_spec_l1Has p0 p1) fun x1 =>
  br x1
    (some ([] ++ p0))
    (gd (([] ++ p0).length + [p1].length ≤ lim) (
    some ([] ++ p0 ++ [p1]))))
noncomputable def gf_spec_TodoPut : GF := y_spec_TodoPut.gf rfl rfl (fun a => d_spec_TodoPut a.1 a.2.1) (fun a => by kernel_rfl)
noncomputable def y_spec_l11Right : Y.YF where
  R := []
  ps := [.b (.st 17)]
  fs := []
  rk := .ret [(.st 8)]
  rs := [.cell 2 (some 15)]
  body := .seq (.region [(none, .alloc 2 [.nil, .int .i64 0, .int .i64 0, .int .i64 0, .int .i64 0, .int .i64 0, .int .i64 0, .int .i64 0, .int .i64 0, .int .i64 0, .int .i64 0, .nil, .nil, .nil, .nil]),
 (none, .nils [(.cell 2 0, .i), (.cell 2 11, (.st 2)), (.cell 2 12, (.st 7)), (.cell 2 13, .i), (.cell 2 14, .i)])] [0, 2]) (.seq (.region [(none, .mv 12 (.tmp 0)),
 (none, .call 13 gf_spec_l5Right [] rfl [(.tmp 12)]),
 (none, .alloc 3 [.nil, .int .i64 0, .int .i64 0, .int .i64 0, .int .i64 0, .int .i64 0, .int .i64 0, .int .i64 0, .int .i64 0]),
 (none, .nils [(.cell 3 0, .i)]),
 (none, .st 9 (.tmp 3) (.tmp 13))] [0, 2, 3]) (.seq (.region [(none, .ld 15 (some 9) (.tmp 3)),
 (none, .call 16 gf_spec_HouseNew [] rfl [(.tmp 15)]),
 (none, .mv 14 (.tmp 16)),
 (none, .ext 17 (.tmp 14) 0),
 (none, .ext 18 (.tmp 14) 1),
 (none, .alloc 4 [.nil, .int .i64 0, .int .i64 0, .int .i64 0, .int .i64 0, .int .i64 0, .int .i64 0, .int .i64 0, .int .i64 0, .int .i64 0, .int .i64 0, .nil, .nil, .nil, .nil]),
 (none, .nils [(.cell 4 0, .i), (.cell 4 11, (.st 2)), (.cell 4 12, (.st 7)), (.cell 4 13, .i), (.cell 4 14, .i)]),
 (none, .st 15 (.tmp 4) (.tmp 17)),
 (none, .as 5 (.tmp 18))] [0, 2, 3, 4]) (.seq (.region [(none, .mv 19 (.tmp 0)),
 (none, .call 20 gf_spec_l1Below [] rfl [(.tmp 19), (.k (.int .i64 20))]),
 (none, .fa 21 9 (.tmp 4)),
 (none, .st 1 (.tmp 21) (.tmp 20))] [0, 2, 3, 4]) (.seq (.region [(none, .mv 22 (.tmp 0)),
 (none, .call 23 gf_spec_l1Below [] rfl [(.tmp 22), (.k (.int .i64 9))]),
 (none, .as 6 (.tmp 23))] [0, 2, 3, 4, 6]) (.seq (.region [(none, .as 7 (.k (.int .i64 0)))] [0, 2, 3, 4, 6, 7]) (.join [(true, 0, .one, [.val (.st 17) (some (.old 0))]), (true, 4, .one, [.val (.st 8) none])] (.seq (.region [(none, .as 8 (.k (.int .i64 0)))] [0, 2, 3, 4, 6, 7, 8]) (.block 0 (.loop [(false, 7, .one, [.val .i none]), (false, 8, .one, [.val .i none]), (true, 0, .one, [.val (.st 17) (some (.old 0))]), (true, 4, .one, [.val (.st 8) none])] (.seq (.seq (.region [(none, .mv 24 (.tmp 8)),
 (none, .mv 25 (.tmp 6)),
 (none, .bin 26 .num .lss (.tmp 24) (.tmp 25))] [0, 2, 3, 4, 6, 7, 8, 26]) (.cond 26 [0, 2, 3, 4, 6, 7, 8] [0, 2, 3, 4] (.skip) (.exit 0))) (.join [(false, 7, .one, [.val .i none]), (true, 0, .one, [.val (.st 17) (some (.old 0))]), (true, 4, .one, [.val (.st 8) none])] (.block 1 (.seq (.region [(none, .mv 29 (.tmp 0)),
 (none, .ld 30 (some 9) (.tmp 3)),
 (none, .fa 31 9 (.tmp 4)),
 (none, .ld 32 none (.tmp 31)),
 (none, .call 33 gf_spec_l6Right [] rfl [(.tmp 29), (.tmp 30), (.tmp 32)]),
 (none, .alloc 9 [.int .i64 0, .int .i64 0, .int .i64 0, .int .i64 0, .int .i64 0, .int .i64 0, .int .i64 0, .int .i64 0, .int .i64 0, .int .i64 0]),
 (none, .st 10 (.tmp 9) (.tmp 33))] [0, 2, 3, 4, 6, 7, 8, 9]) (.seq (.region [(none, .mv 34 (.tmp 0)),
 (none, .call 35 gf_spec_l1Below [] rfl [(.tmp 34), (.k (.int .i64 12))]),
 (none, .bin 36 .num .add (.k (.int .i64 1)) (.tmp 35)),
 (none, .fa 37 0 (.tmp 9)),
 (none, .st 1 (.tmp 37) (.tmp 36))] [0, 2, 3, 4, 6, 7, 8, 9]) (.seq (.dreg (.op 0 none [] (.fa 38 10 (.tmp 4))
 (.op 1 none [] (.ld 39 none (.tmp 38))
 (.op 2 none [] (.mv 40 (.tmp 0))
 (.op 3 none [38] (.call 41 gf_spec_l1Below [] rfl [(.tmp 40), (.k (.int .i64 2))])
 (.op 4 none [] (.bin 42 .num .add (.tmp 39) (.tmp 41))
 (.op 5 none [] (.fa 43 6 (.tmp 9))
 (.op 6 none [] (.st 1 (.tmp 43) (.tmp 42))
 .nil))))))) [0, 2, 3, 4, 6, 7, 8, 9]) (.seq (.region [(none, .mv 44 (.tmp 7)),
 (none, .mv 45 (.tmp 0)),
 (none, .call 46 gf_spec_l1Below [] rfl [(.tmp 45), (.k (.int .i64 4))]),
 (none, .bin 47 .num .add (.tmp 44) (.tmp 46)),
 (none, .as 7 (.tmp 47))] [0, 2, 3, 4, 6, 7, 8, 9]) (.seq (.region [(none, .mv 48 (.tmp 7)),
 (none, .fa 49 9 (.tmp 4)),
 (none, .ld 50 none (.tmp 49)),
 (none, .call 51 gf_spec_l1Min [] rfl [(.tmp 48), (.tmp 50)]),
 (none, .fa 52 5 (.tmp 9)),
 (none, .st 1 (.tmp 52) (.tmp 51))] [0, 2, 3, 4, 6, 7, 8, 9]) (.join [(true, 9, .one, [.val (.st 2) none])] (.seq (.region [(none, .fa 53 2 (.tmp 9)),
 (none, .ld 54 none (.tmp 53)),
 (none, .fa 55 1 (.tmp 9)),
 (none, .ld 56 none (.tmp 55)),
 (none, .bin 57 .num .eql (.tmp 54) (.tmp 56))] [0, 2, 3, 4, 6, 7, 8, 9, 57]) (.cond 57 [0, 2, 3, 4, 6, 7, 8, 9] [0, 2, 3, 4, 6, 7, 8, 9] (.region [(none, .fa 58 2 (.tmp 9)),
 (none, .st 1 (.tmp 58) (.k (.int .i64 (-1))))] [0, 2, 3, 4, 6, 7, 8, 9]) (.skip))) (.seq (.join [(false, 80, .one, [.val .b none])] (.dreg (.op 0 none [] (.fa 59 11 (.tmp 4))
 (.op 1 none [] (.ld 60 none (.tmp 59))
 (.op 2 none [] (.fa 61 0 (.tmp 9))
 (.op 3 none [] (.ld 62 none (.tmp 61))
 (.op 4 none [] (.call 63 gf_spec_l11At [] rfl [(.tmp 60), (.tmp 62)])
 (.op 5 none [] (.bin 64 .num .geq (.tmp 63) (.k (.int .i64 0)))
 (.op 6 none [] (.mv 65 (.tmp 64))
 (.op 7 (some (65, false)) [] (.fa 66 11 (.tmp 4))
 (.op 8 (some (65, false)) [] (.ld 67 none (.tmp 66))
 (.op 9 (some (65, false)) [] (.fa 68 1 (.tmp 9))
 (.op 10 (some (65, false)) [] (.ld 69 none (.tmp 68))
 (.op 12 (some (65, false)) [] (.fa 71 2 (.tmp 3))
 (.op 13 (some (65, false)) [] (.ld 72 none (.tmp 71))
 (.op 11 (some (65, false)) [71] (.call 70 gf_spec_CountIn [] rfl [(.tmp 67), (.tmp 69)])
 (.op 14 (some (65, false)) [] (.bin 73 .num .geq (.tmp 70) (.tmp 72))
 (.op 15 none [] (.pick 74 (.tmp 65) (.k (.bool true)) (.tmp 73))
 (.op 16 none [] (.mv 75 (.tmp 74))
 (.op 17 (some (75, false)) [] (.ld 76 (some 15) (.tmp 4))
 (.op 18 (some (75, false)) [] (.ld 77 (some 10) (.tmp 9))
 (.op 19 (some (75, false)) [] (.call 78 gf_spec_l11Room [] rfl [(.tmp 76), (.tmp 77)])
 (.op 20 (some (75, false)) [] (.un 79 .not (.tmp 78))
 (.op 21 none [] (.pick 80 (.tmp 75) (.k (.bool true)) (.tmp 79))
 .nil)))))))))))))))))))))) [0, 2, 3, 4, 6, 7, 8, 9, 80]) (.cond 80 [0, 2, 3, 4, 6, 7, 8] [0, 2, 3, 4, 6, 7, 8, 9] (.exit 1) (.skip))) (.seq (.region [(none, .fa 81 6 (.tmp 9)),
 (none, .ld 82 none (.tmp 81)),
 (none, .bin 83 .num .add (.tmp 82) (.k (.int .i64 1))),
 (none, .fa 84 10 (.tmp 4)),
 (none, .st 1 (.tmp 84) (.tmp 83))] [0, 2, 3, 4, 6, 7, 8, 9]) (.region [(none, .fa 85 11 (.tmp 4)),
 (none, .ld 86 none (.tmp 85)),
 (none, .ld 87 (some 10) (.tmp 9)),
 (none, .call 88 gf_spec_PartyPut [] rfl [(.tmp 86), (.tmp 87)]),
 (none, .fa 89 11 (.tmp 4)),
 (none, .st 1 (.tmp 89) (.tmp 88))] [0, 2, 3, 4, 6, 7, 8])))))))))) (.region [(none, .mv 27 (.tmp 8)),
 (none, .bin 28 .num .add (.tmp 27) (.k (.int .i64 1))),
 (none, .as 8 (.tmp 28))] [0, 2, 3, 4, 6, 7, 8])))))) (.join [(true, 0, .one, [.val (.st 17) (some (.old 0))]), (true, 4, .one, [.val (.st 8) none])] (.seq (.region [(none, .as 10 (.k (.int .i64 0)))] [0, 2, 3, 4, 10]) (.block 2 (.loop [(false, 10, .one, [.val .i none]), (true, 0, .one, [.val (.st 17) (some (.old 0))]), (true, 4, .one, [.val (.st 8) none])] (.seq (.seq (.region [(none, .mv 90 (.tmp 10)),
 (none, .fa 91 12 (.tmp 4)),
 (none, .ld 92 none (.tmp 91)),
 (none, .len 93 (.tmp 92)),
 (none, .bin 94 .num .lss (.tmp 90) (.tmp 93))] [0, 2, 3, 4, 10, 94]) (.cond 94 [0, 2, 3, 4, 10] [0, 2, 3, 4] (.skip) (.exit 2))) (.join [(true, 0, .one, [.val (.st 17) (some (.old 0))]), (true, 4, .one, [.val (.st 8) none])] (.block 3 (.seq (.dreg (.op 0 none [] (.fa 97 12 (.tmp 4))
 (.op 1 none [] (.ld 98 none (.tmp 97))
 (.op 2 none [] (.mv 99 (.tmp 10))
 (.op 3 none [] (.ld 100 (some 9) (.tmp 3))
 (.op 4 none [] (.fa 101 11 (.tmp 4))
 (.op 5 none [] (.ld 102 none (.tmp 101))
 (.op 6 none [] (.mv 103 (.tmp 10))
 (.op 7 none [] (.fa 104 9 (.tmp 4))
 (.op 8 none [] (.ld 105 none (.tmp 104))
 (.op 9 none [] (.mv 106 (.tmp 0))
 (.op 10 none [3, 97, 101, 104] (.call 107 gf_spec_l1Below [] rfl [(.tmp 106), (.k (.int .i64 6))])
 (.op 11 none [97] (.call 108 gf_spec_l10Made [] rfl [(.tmp 100), (.tmp 102), (.tmp 103), (.tmp 105), (.tmp 107)])
 (.op 12 none [] (.ia 109 (.st 7) (.tmp 98) (.tmp 99))
 (.op 13 none [] (.st 7 (.tmp 109) (.tmp 108))
 .nil)))))))))))))) [0, 2, 3, 4, 10]) (.seq (.region [(none, .mv 110 (.tmp 0)),
 (none, .call 111 gf_spec_l1Once [] rfl [(.tmp 110), (.k (.int .i64 2))])] [0, 2, 3, 4, 10, 111]) (.cond 111 [0, 2, 3, 4, 10] [0, 2, 3, 4, 10] (.region [(none, .fa 112 13 (.tmp 4)),
 (none, .ld 113 none (.tmp 112)),
 (none, .mv 114 (.tmp 10)),
 (none, .call 115 gf_spec_TodoPut [] rfl [(.tmp 113), (.tmp 114)]),
 (none, .fa 116 13 (.tmp 4)),
 (none, .st 1 (.tmp 116) (.tmp 115))] [0, 2, 3, 4, 10]) (.skip))))) (.region [(none, .mv 95 (.tmp 10)),
 (none, .bin 96 .num .add (.tmp 95) (.k (.int .i64 1))),
 (none, .as 10 (.tmp 96))] [0, 2, 3, 4, 10])))))) (.join [(true, 0, .one, [.val (.st 17) (some (.old 0))]), (true, 4, .one, [.val (.st 8) none])] (.seq (.region [(none, .as 11 (.k (.int .i64 0)))] [0, 2, 3, 4, 11]) (.block 4 (.loop [(false, 11, .one, [.val .i none]), (true, 0, .one, [.val (.st 17) (some (.old 0))]), (true, 4, .one, [.val (.st 8) none])] (.seq (.seq (.region [(none, .mv 117 (.tmp 11)),
 (none, .fa 118 14 (.tmp 4)),
 (none, .ld 119 none (.tmp 118)),
 (none, .len 120 (.tmp 119)),
 (none, .bin 121 .num .lss (.tmp 117) (.tmp 120))] [0, 2, 3, 4, 11, 121]) (.cond 121 [0, 2, 3, 4, 11] [0, 2, 4] (.skip) (.exit 4))) (.join [(true, 0, .one, [.val (.st 17) (some (.old 0))]), (true, 4, .one, [.val (.st 8) none])] (.block 5 (.seq (.region [(none, .mv 124 (.tmp 0)),
 (none, .call 125 gf_spec_l1Once [] rfl [(.tmp 124), (.k (.int .i64 3))])] [0, 2, 3, 4, 11, 125]) (.cond 125 [0, 2, 3, 4, 11] [0, 2, 3, 4, 11] (.dreg (.op 0 none [] (.fa 126 14 (.tmp 4))
 (.op 1 none [] (.ld 127 none (.tmp 126))
 (.op 2 none [] (.mv 128 (.tmp 11))
 (.op 3 none [] (.mv 129 (.tmp 0))
 (.op 4 none [] (.fa 130 0 (.tmp 3))
 (.op 5 none [] (.ld 131 none (.tmp 130))
 (.op 6 none [] (.len 132 (.tmp 131))
 (.op 7 none [126] (.call 133 gf_spec_l1Below [] rfl [(.tmp 129), (.tmp 132)])
 (.op 8 none [] (.ia 134 .i (.tmp 127) (.tmp 128))
 (.op 9 none [] (.st 1 (.tmp 134) (.tmp 133))
 .nil)))))))))) [0, 2, 3, 4, 11]) (.skip)))) (.region [(none, .mv 122 (.tmp 11)),
 (none, .bin 123 .num .add (.tmp 122) (.k (.int .i64 1))),
 (none, .as 11 (.tmp 123))] [0, 2, 3, 4, 11])))))) (.seq (.region [(none, .ld 135 (some 15) (.tmp 4)),
 (none, .st 15 (.tmp 2) (.tmp 135))] [0, 2]) (.ret))))))))))
noncomputable def d_spec_l11Right_j4 (L5 : (Int × Int × Gl1Cur × GHouse) → Option (GHouse × Gl1Cur)) (v7 : Int) (x_ : (Int × Gl1Cur × GHouse)) : Option (GHouse × Gl1Cur) :=
  match x_ with
  | (v18, v19, v20) => L5 ((v18, w64 (v7 + 1), v19, v20))
noncomputable def d_spec_l11Right_j3 (L5 : (Int × Int × Gl1Cur × GHouse) → Option (GHouse × Gl1Cur)) (v6 : Int) (v7 : Int) (v9 : GHouse) (x13 : (Int × Gl1Cur)) (v15 : GParty) (v17 : Bool) : Option (GHouse × Gl1Cur) :=
  br v17
    (jn (d_spec_l11Right_j4 L5 v7) ((w64 (v6 + x13.fst), x13.snd, v9)))
    (bd (d_spec_PartyPut v9.Parties v15) fun x21 =>
    jn (d_spec_l11Right_j4 L5 v7) ((w64 (v6 + x13.fst), x13.snd, GHouse.mk v9.Rules v9.Now (w64 (v15.Turn + 1)) x21 v9.Cabins v9.Todo v9.Jobs)))
noncomputable def d_spec_l11Right_j2 (x1 : (GRules × Gl1Cur)) (L5 : (Int × Int × Gl1Cur × GHouse) → Option (GHouse × Gl1Cur)) (v6 : Int) (v7 : Int) (v9 : GHouse) (x13 : (Int × Gl1Cur)) (v15 : GParty) : Option (GHouse × Gl1Cur) :=
  bd (d_spec_l11At v9.Parties v15.Id) fun x16 =>
  br (decide (x16 ≥ 0))
    (jn (d_spec_l11Right_j3 L5 v6 v7 v9 x13 v15) true)
    (bd (d_spec_CountIn v9.Parties v15.Cabin) fun x22 =>
    br (decide (x22 ≥ x1.fst.Room))
      (jn (d_spec_l11Right_j3 L5 v6 v7 v9 x13 v15) true)
      (bd (d_spec_l11Room v9 v15) fun x23 =>
      jn (d_spec_l11Right_j3 L5 v6 v7 v9 x13 v15) (!x23)))
noncomputable def d_spec_l11Right_j7 (L26 : (Int × Gl1Cur × GHouse) → Option (GHouse × Gl1Cur)) (v27 : Int) (x_ : (Gl1Cur × GHouse)) : Option (GHouse × Gl1Cur) :=
  match x_ with
  | (v36, v37) => L26 ((w64 (v27 + 1), v36, v37))
noncomputable def d_spec_l11Right_j10 (L40 : (Int × Gl1Cur × GHouse) → Option (GHouse × Gl1Cur)) (v41 : Int) (x_ : (Gl1Cur × GHouse)) : Option (GHouse × Gl1Cur) :=
  match x_ with
  | (v48, v49) => L40 ((w64 (v41 + 1), v48, v49))
noncomputable def d_spec_l11Right_j11 (x_ : (Gl1Cur × GHouse)) : Option (GHouse × Gl1Cur) :=
  match x_ with
  | (v50, v51) => some (v51, v50)
noncomputable def d_spec_l11Right_l9 (x1 : (GRules × Gl1Cur)) (L40 : (Int × Gl1Cur × GHouse) → Option (GHouse × Gl1Cur)) (x_ : (Int × Gl1Cur × GHouse)) : Option (GHouse × Gl1Cur) :=
  match x_ with
  | (v41, v42, v43) => br (decide (v41 < (↑v43.Jobs.length : Int)))
    (bd (d_spec_l1Once v42 3) fun x44 =>
    br x44.fst
      (bd (d_spec_l1Below x44.snd (↑x1.fst.Seats.length : Int)) fun x45 =>
      bd (at? v43.Jobs v41) fun x46 =>
      bd (at? v43.Jobs v41) fun x47 =>
      jn (d_spec_l11Right_j10 L40 v41) ((x45.snd, GHouse.mk v43.Rules v43.Now v43.Turn v43.Parties v43.Cabins v43.Todo (v43.Jobs.set (Int.toNat v41) x45.fst))))
      (jn (d_spec_l11Right_j10 L40 v41) (x44.snd, v43)))
    (jn (d_spec_l11Right_j11) (v42, v43))
noncomputable def d_spec_l11Right_j8 (x1 : (GRules × Gl1Cur)) (x_ : (Gl1Cur × GHouse)) : Option (GHouse × Gl1Cur) :=
  match x_ with
  | (v38, v39) => loopN (d_spec_l11Right_l9 x1) big (0, v38, v39)
noncomputable def d_spec_l11Right_l6 (x1 : (GRules × Gl1Cur)) (L26 : (Int × Gl1Cur × GHouse) → Option (GHouse × Gl1Cur)) (x_ : (Int × Gl1Cur × GHouse)) : Option (GHouse × Gl1Cur) :=
  match x_ with
  | (v27, v28, v29) => br (decide (v27 < (↑v29.Cabins.length : Int)))
    (bd (d_spec_l1Below v28 6) fun x30 =>
    bd (d_spec_l10Made x1.fst v29.Parties v27 v29.Now x30.fst) fun x31 =>
    bd (at? v29.Cabins v27) fun x32 =>
    bd (at? v29.Cabins v27) fun x33 =>
    bd (d_spec_l1Once x30.snd 2) fun x34 =>
    br x34.fst
      (bd (d_spec_TodoPut v29.Todo v27) fun x35 =>
      jn (d_spec_l11Right_j7 L26 v27) ((x34.snd, GHouse.mk v29.Rules v29.Now v29.Turn v29.Parties (v29.Cabins.set (Int.toNat v27) x31) x35 v29.Jobs)))
      (jn (d_spec_l11Right_j7 L26 v27) ((x34.snd, GHouse.mk v29.Rules v29.Now v29.Turn v29.Parties (v29.Cabins.set (Int.toNat v27) x31) v29.Todo v29.Jobs))))
    (jn (d_spec_l11Right_j8 x1) (v28, v29))
noncomputable def d_spec_l11Right_j5 (x1 : (GRules × Gl1Cur)) (x_ : (Gl1Cur × GHouse)) : Option (GHouse × Gl1Cur) :=
  match x_ with
  | (v24, v25) => loopN (d_spec_l11Right_l6 x1) big (0, v24, v25)
noncomputable def d_spec_l11Right_l1 (x1 : (GRules × Gl1Cur)) (x4 : (Int × Gl1Cur)) (L5 : (Int × Int × Gl1Cur × GHouse) → Option (GHouse × Gl1Cur)) (x_ : (Int × Int × Gl1Cur × GHouse)) : Option (GHouse × Gl1Cur) :=
  match x_ with
  | (v6, v7, v8, v9) => br (decide (v7 < x4.fst))
    (bd (d_spec_l6Right v8 x1.fst v9.Now) fun x10 =>
    bd (d_spec_l1Below x10.snd 12) fun x11 =>
    bd (d_spec_l1Below x11.snd 2) fun x12 =>
    bd (d_spec_l1Below x12.snd 4) fun x13 =>
    bd (d_spec_l1Min (w64 (v6 + x13.fst)) v9.Now) fun x14 =>
    br (x10.fst.From == x10.fst.Cabin)
      (jn (d_spec_l11Right_j2 x1 L5 v6 v7 v9 x13) (GParty.mk (w64 (1 + x11.fst)) x10.fst.Cabin (-1) x10.fst.Size x10.fst.Tier x14 (w64 (v9.Turn + x12.fst)) x10.fst.State x10.fst.Until x10.fst.Asked))
      (jn (d_spec_l11Right_j2 x1 L5 v6 v7 v9 x13) (GParty.mk (w64 (1 + x11.fst)) x10.fst.Cabin x10.fst.From x10.fst.Size x10.fst.Tier x14 (w64 (v9.Turn + x12.fst)) x10.fst.State x10.fst.Until x10.fst.Asked)))
    (jn (d_spec_l11Right_j5 x1) (v8, v9))
noncomputable def d_spec_l11Right (p0 : Gl1Cur) : Option (GHouse × Gl1Cur) :=
  bd (d_spec_l5Right p0) fun x1 =>
  bd (d_spec_HouseNew x1.fst) fun x2 =>
  bd (d_spec_l1Below x1.snd 20) fun x3 =>
  bd (d_spec_l1Below x3.snd 9) fun x4 =>
  loopN (d_spec_l11Right_l1 x1 x4) big (0, 0, x4.snd, GHouse.mk x2.fst.Rules x3.fst x2.fst.Turn x2.fst.Parties x2.fst.Cabins x2.fst.Todo x2.fst.Jobs)
noncomputable def gf_spec_l11Right : GF := y_spec_l11Right.gf rfl rfl (fun a => d_spec_l11Right a.1) (fun a => by kernel_rfl)
end Lv
/-
  Printed: functions of the program as texts of the typed machine, as plain functions, and that the one is the other.
-/
set_option linter.unusedVariables false
set_option maxRecDepth 100000
namespace Lv
open Go (IntKind BinOp UnOp)
open Y (YF)
noncomputable def y_spec_l12Right : Y.YF where
  R := []
  ps := [.b (.st 17), .v (.st 8)]
  fs := []
  rk := .ret [(.st 0)]
  rs := [.cell 4 (some 6)]
  body := .seq (.region [(none, .box 3 (.tmp 1)),
 (none, .alloc 4 [.int .i64 0, .int .i64 0, .int .i64 0, .int .i64 0, .int .i64 0, .int .i64 0])] [0, 3, 4]) (.seq (.region [(none, .mv 8 (.tmp 0)),
 (none, .call 9 gf_spec_l1Below [] rfl [(.tmp 8), (.k (.int .i64 12))]),
 (none, .bin 10 .num .add (.k (.int .i64 1)) (.tmp 9)),
 (none, .as 5 (.tmp 10))] [0, 3, 4, 5]) (.join [(false, 5, .one, [.val .i none]), (true, 0, .one, [.val (.st 17) (some (.old 0))])] (.join [(false, 19, .one, [.val .b none]), (true, 0, .one, [.val (.st 17) (some (.old 0))])] (.region [(none, .fa 11 11 (.tmp 3)),
 (none, .ld 12 none (.tmp 11)),
 (none, .len 13 (.tmp 12)),
 (none, .bin 14 .num .gtr (.tmp 13) (.k (.int .i64 0))),
 (none, .mv 15 (.tmp 14)),
 ((some (15, true)), .mv 16 (.tmp 0)),
 ((some (15, true)), .call 17 gf_spec_l1Once [] rfl [(.tmp 16), (.k (.int .i64 3))]),
 ((some (15, true)), .un 18 .not (.tmp 17)),
 (none, .pick 19 (.tmp 15) (.tmp 18) (.k (.bool false)))] [0, 3, 4, 5, 19]) (.cond 19 [0, 3, 4] [0, 3, 4, 5] (.dreg (.op 0 none [] (.fa 20 11 (.tmp 3))
 (.op 1 none [] (.ld 21 none (.tmp 20))
 (.op 2 none [] (.mv 22 (.tmp 0))
 (.op 3 none [] (.fa 23 11 (.tmp 3))
 (.op 4 none [] (.ld 24 none (.tmp 23))
 (.op 5 none [] (.len 25 (.tmp 24))
 (.op 6 none [20] (.call 26 gf_spec_l1Below [] rfl [(.tmp 22), (.tmp 25)])
 (.op 7 none [] (.ia 27 (.st 2) (.tmp 21) (.tmp 26))
 (.op 8 none [] (.fa 28 0 (.tmp 27))
 (.op 9 none [] (.ld 29 none (.tmp 28))
 (.op 10 none [] (.as 5 (.tmp 29))
 .nil))))))))))) [0, 3, 4, 5]) (.skip))) (.seq (.region [(none, .fa 30 0 (.tmp 3)),
 (none, .fa 31 0 (.tmp 30)),
 (none, .ld 32 none (.tmp 31)),
 (none, .len 33 (.tmp 32)),
 (none, .call 34 gf_spec_l1Max [] rfl [(.k (.int .i64 1)), (.tmp 33)]),
 (none, .as 6 (.tmp 34))] [0, 3, 4, 5, 6]) (.seq (.seq (.region [(none, .mv 35 (.tmp 0)),
 (none, .call 36 gf_spec_l1Below [] rfl [(.tmp 35), (.k (.int .i64 12))])] [0, 3, 4, 5, 6, 36]) (.block 0 (.join [(false, 37, .one, [.val .b none])] (.seq (.region [(none, .bin 38 .num .eql (.tmp 36) (.k (.int .i64 0))),
 (none, .as 37 (.tmp 38))] [0, 3, 4, 5, 6, 36, 37]) (.cond 37 [0, 3, 4, 5, 6, 36, 37] [0, 3, 4, 5, 6, 36] (.skip) (.seq (.region [(none, .bin 39 .num .eql (.tmp 36) (.k (.int .i64 1))),
 (none, .as 37 (.tmp 39))] [0, 3, 4, 5, 6, 36, 37]) (.cond 37 [0, 3, 4, 5, 6, 36, 37] [0, 3, 4, 5, 6, 36] (.skip) (.seq (.region [(none, .bin 40 .num .eql (.tmp 36) (.k (.int .i64 2))),
 (none, .as 37 (.tmp 40))] [0, 3, 4, 5, 6, 36, 37]) (.cond 37 [0, 3, 4, 5, 6, 36, 37] [0, 3, 4, 5, 6, 36] (.skip) (.region [(none, .bin 41 .num .eql (.tmp 36) (.k (.int .i64 3))),
 (none, .as 37 (.tmp 41))] [0, 3, 4, 5, 6, 36, 37]))))))) (.cond 37 [0, 3, 4, 6] [0, 3, 4, 5, 6, 36] (.seq (.dreg (.op 0 none [] (.mv 42 (.tmp 0))
 (.op 3 none [] (.mv 45 (.tmp 0))
 (.op 4 none [] (.mv 46 (.tmp 6))
 (.op 6 none [] (.mv 48 (.tmp 0))
 (.op 7 none [] (.fa 49 0 (.tmp 3))
 (.op 8 none [] (.fa 50 3 (.tmp 49))
 (.op 9 none [] (.ld 51 none (.tmp 50))
 (.op 13 none [] (.mv 55 (.tmp 0))
 (.op 14 none [] (.fa 56 0 (.tmp 3))
 (.op 15 none [] (.fa 57 1 (.tmp 56))
 (.op 16 none [] (.ld 58 none (.tmp 57))
 (.both 0 (.op 1 none [50, 57] (.call 43 gf_spec_l1Below [] rfl [(.tmp 42), (.k (.int .i64 14))])
 (.op 2 none [] (.bin 44 .num .add (.k (.int .i64 1)) (.tmp 43))
 (.both 0 (.op 5 none [50, 57] (.call 47 gf_spec_l1Below [] rfl [(.tmp 45), (.tmp 46)])
 (.both 0 (.op 10 none [57] (.call 52 gf_spec_l1Max [] rfl [(.k (.int .i64 1)), (.tmp 51)])
 (.both 0 (.op 11 none [57] (.call 53 gf_spec_l1Below [] rfl [(.tmp 48), (.tmp 52)])
 (.op 12 none [] (.bin 54 .num .add (.k (.int .i64 1)) (.tmp 53))
 (.both 0 (.op 17 none [] (.call 59 gf_spec_l1Max [] rfl [(.k (.int .i64 1)), (.tmp 58)])
 (.both 0 (.op 18 none [] (.call 60 gf_spec_l1Below [] rfl [(.tmp 55), (.tmp 59)])
 (.op 19 none [] (.build 61 [.int .i64 0, .int .i64 0, .int .i64 0, .int .i64 0, .int .i64 0, .int .i64 0] [(0, 1, (.k (.int .i64 1))), (1, 1, (.tmp 44)), (2, 1, (.tmp 47)), (3, 1, (.k (.int .i64 (-1)))), (4, 1, (.tmp 54)), (5, 1, (.tmp 60))])
 (.op 20 none [50, 57] (.alloc 7 [.int .i64 0, .int .i64 0, .int .i64 0, .int .i64 0, .int .i64 0, .int .i64 0])
 (.op 21 none [] (.st 6 (.tmp 7) (.tmp 61))
 .nil)))) (.op 20 none [50, 57] (.alloc 7 [.int .i64 0, .int .i64 0, .int .i64 0, .int .i64 0, .int .i64 0, .int .i64 0])
 (.op 18 none [] (.call 60 gf_spec_l1Below [] rfl [(.tmp 55), (.tmp 59)])
 (.op 19 none [] (.build 61 [.int .i64 0, .int .i64 0, .int .i64 0, .int .i64 0, .int .i64 0, .int .i64 0] [(0, 1, (.k (.int .i64 1))), (1, 1, (.tmp 44)), (2, 1, (.tmp 47)), (3, 1, (.k (.int .i64 (-1)))), (4, 1, (.tmp 54)), (5, 1, (.tmp 60))])
 (.op 21 none [] (.st 6 (.tmp 7) (.tmp 61))
 .nil)))))) (.op 20 none [50, 57] (.alloc 7 [.int .i64 0, .int .i64 0, .int .i64 0, .int .i64 0, .int .i64 0, .int .i64 0])
 (.op 17 none [] (.call 59 gf_spec_l1Max [] rfl [(.k (.int .i64 1)), (.tmp 58)])
 (.op 18 none [] (.call 60 gf_spec_l1Below [] rfl [(.tmp 55), (.tmp 59)])
 (.op 19 none [] (.build 61 [.int .i64 0, .int .i64 0, .int .i64 0, .int .i64 0, .int .i64 0, .int .i64 0] [(0, 1, (.k (.int .i64 1))), (1, 1, (.tmp 44)), (2, 1, (.tmp 47)), (3, 1, (.k (.int .i64 (-1)))), (4, 1, (.tmp 54)), (5, 1, (.tmp 60))])
 (.op 21 none [] (.st 6 (.tmp 7) (.tmp 61))
 .nil)))))))) (.op 20 none [50, 57] (.alloc 7 [.int .i64 0, .int .i64 0, .int .i64 0, .int .i64 0, .int .i64 0, .int .i64 0])
 (.op 11 none [57] (.call 53 gf_spec_l1Below [] rfl [(.tmp 48), (.tmp 52)])
 (.op 12 none [] (.bin 54 .num .add (.k (.int .i64 1)) (.tmp 53))
 (.op 17 none [] (.call 59 gf_spec_l1Max [] rfl [(.k (.int .i64 1)), (.tmp 58)])
 (.op 18 none [] (.call 60 gf_spec_l1Below [] rfl [(.tmp 55), (.tmp 59)])
 (.op 19 none [] (.build 61 [.int .i64 0, .int .i64 0, .int .i64 0, .int .i64 0, .int .i64 0, .int .i64 0] [(0, 1, (.k (.int .i64 1))), (1, 1, (.tmp 44)), (2, 1, (.tmp 47)), (3, 1, (.k (.int .i64 (-1)))), (4, 1, (.tmp 54)), (5, 1, (.tmp 60))])
 (.op 21 none [] (.st 6 (.tmp 7) (.tmp 61))
 .nil))))))))) (.op 20 none [50, 57] (.alloc 7 [.int .i64 0, .int .i64 0, .int .i64 0, .int .i64 0, .int .i64 0, .int .i64 0])
 (.op 10 none [57] (.call 52 gf_spec_l1Max [] rfl [(.k (.int .i64 1)), (.tmp 51)])
 (.op 11 none [57] (.call 53 gf_spec_l1Below [] rfl [(.tmp 48), (.tmp 52)])
 (.op 12 none [] (.bin 54 .num .add (.k (.int .i64 1)) (.tmp 53))
 (.op 17 none [] (.call 59 gf_spec_l1Max [] rfl [(.k (.int .i64 1)), (.tmp 58)])
 (.op 18 none [] (.call 60 gf_spec_l1Below [] rfl [(.tmp 55), (.tmp 59)])
 (.op 19 none [] (.build 61 [.int .i64 0, .int .i64 0, .int .i64 0, .int .i64 0, .int .i64 0, .int .i64 0] [(0, 1, (.k (.int .i64 1))), (1, 1, (.tmp 44)), (2, 1, (.tmp 47)), (3, 1, (.k (.int .i64 (-1)))), (4, 1, (.tmp 54)), (5, 1, (.tmp 60))])
 (.op 21 none [] (.st 6 (.tmp 7) (.tmp 61))
 .nil)))))))))) (.op 20 none [50, 57] (.alloc 7 [.int .i64 0, .int .i64 0, .int .i64 0, .int .i64 0, .int .i64 0, .int .i64 0])
 (.op 5 none [50, 57] (.call 47 gf_spec_l1Below [] rfl [(.tmp 45), (.tmp 46)])
 (.op 10 none [57] (.call 52 gf_spec_l1Max [] rfl [(.k (.int .i64 1)), (.tmp 51)])
 (.op 11 none [57] (.call 53 gf_spec_l1Below [] rfl [(.tmp 48), (.tmp 52)])
 (.op 12 none [] (.bin 54 .num .add (.k (.int .i64 1)) (.tmp 53))
 (.op 17 none [] (.call 59 gf_spec_l1Max [] rfl [(.k (.int .i64 1)), (.tmp 58)])
 (.op 18 none [] (.call 60 gf_spec_l1Below [] rfl [(.tmp 55), (.tmp 59)])
 (.op 19 none [] (.build 61 [.int .i64 0, .int .i64 0, .int .i64 0, .int .i64 0, .int .i64 0, .int .i64 0] [(0, 1, (.k (.int .i64 1))), (1, 1, (.tmp 44)), (2, 1, (.tmp 47)), (3, 1, (.k (.int .i64 (-1)))), (4, 1, (.tmp 54)), (5, 1, (.tmp 60))])
 (.op 21 none [] (.st 6 (.tmp 7) (.tmp 61))
 .nil)))))))))))) (.op 20 none [50, 57] (.alloc 7 [.int .i64 0, .int .i64 0, .int .i64 0, .int .i64 0, .int .i64 0, .int .i64 0])
 (.op 1 none [50, 57] (.call 43 gf_spec_l1Below [] rfl [(.tmp 42), (.k (.int .i64 14))])
 (.op 2 none [] (.bin 44 .num .add (.k (.int .i64 1)) (.tmp 43))
 (.op 5 none [50, 57] (.call 47 gf_spec_l1Below [] rfl [(.tmp 45), (.tmp 46)])
 (.op 10 none [57] (.call 52 gf_spec_l1Max [] rfl [(.k (.int .i64 1)), (.tmp 51)])
 (.op 11 none [57] (.call 53 gf_spec_l1Below [] rfl [(.tmp 48), (.tmp 52)])
 (.op 12 none [] (.bin 54 .num .add (.k (.int .i64 1)) (.tmp 53))
 (.op 17 none [] (.call 59 gf_spec_l1Max [] rfl [(.k (.int .i64 1)), (.tmp 58)])
 (.op 18 none [] (.call 60 gf_spec_l1Below [] rfl [(.tmp 55), (.tmp 59)])
 (.op 19 none [] (.build 61 [.int .i64 0, .int .i64 0, .int .i64 0, .int .i64 0, .int .i64 0, .int .i64 0] [(0, 1, (.k (.int .i64 1))), (1, 1, (.tmp 44)), (2, 1, (.tmp 47)), (3, 1, (.k (.int .i64 (-1)))), (4, 1, (.tmp 54)), (5, 1, (.tmp 60))])
 (.op 21 none [] (.st 6 (.tmp 7) (.tmp 61))
 .nil))))))))))))))))))))))) [0, 4, 6, 7]) (.join [(true, 0, .one, [.val (.st 17) (some (.old 0))]), (true, 7, .one, [.val (.st 0) none])] (.seq (.region [(none, .mv 62 (.tmp 0)),
 (none, .call 63 gf_spec_l1Once [] rfl [(.tmp 62), (.k (.int .i64 3))])] [0, 4, 6, 7, 63]) (.cond 63 [0, 4, 6, 7] [0, 4, 7] (.region [(none, .mv 64 (.tmp 0)),
 (none, .mv 65 (.tmp 6)),
 (none, .call 66 gf_spec_l1Below [] rfl [(.tmp 64), (.tmp 65)]),
 (none, .fa 67 3 (.tmp 7)),
 (none, .st 1 (.tmp 67) (.tmp 66))] [0, 4, 7]) (.skip))) (.seq (.region [(none, .ld 68 (some 6) (.tmp 7)),
 (none, .st 6 (.tmp 4) (.tmp 68))] [0, 4]) (.ret)))) (.seq (.region [(none, .bin 70 .num .eql (.tmp 36) (.k (.int .i64 4))),
 (none, .as 69 (.tmp 70))] [0, 3, 4, 5, 6, 36, 69]) (.cond 69 [0, 4, 5] [0, 3, 4, 5, 6, 36] (.seq (.region [(none, .mv 71 (.tmp 5)),
 (none, .build 72 [.int .i64 0, .int .i64 0, .int .i64 0, .int .i64 0, .int .i64 0, .int .i64 0] [(0, 1, (.k (.int .i64 2))), (1, 1, (.tmp 71))]),
 (none, .st 6 (.tmp 4) (.tmp 72))] [0, 4]) (.ret)) (.join [(false, 73, .one, [.val .b none])] (.seq (.region [(none, .bin 74 .num .eql (.tmp 36) (.k (.int .i64 5))),
 (none, .as 73 (.tmp 74))] [0, 3, 4, 5, 6, 36, 73]) (.cond 73 [0, 3, 4, 5, 6, 36, 73] [0, 3, 4, 5, 6, 36] (.skip) (.region [(none, .bin 75 .num .eql (.tmp 36) (.k (.int .i64 6))),
 (none, .as 73 (.tmp 75))] [0, 3, 4, 5, 6, 36, 73]))) (.cond 73 [0, 4, 6] [0, 3, 4, 5, 36] (.seq (.region [(none, .mv 76 (.tmp 0)),
 (none, .mv 77 (.tmp 6)),
 (none, .call 78 gf_spec_l1Below [] rfl [(.tmp 76), (.tmp 77)]),
 (none, .mv 79 (.tmp 0)),
 (none, .call 80 gf_spec_l1Below [] rfl [(.tmp 79), (.k (.int .i64 4))]),
 (none, .bin 81 .num .add (.k (.int .i64 1)) (.tmp 80)),
 (none, .build 82 [.int .i64 0, .int .i64 0, .int .i64 0, .int .i64 0, .int .i64 0, .int .i64 0] [(0, 1, (.k (.int .i64 3))), (2, 1, (.tmp 78)), (4, 1, (.tmp 81))]),
 (none, .st 6 (.tmp 4) (.tmp 82))] [0, 4]) (.ret)) (.seq (.region [(none, .bin 84 .num .eql (.tmp 36) (.k (.int .i64 7))),
 (none, .as 83 (.tmp 84))] [0, 3, 4, 5, 36, 83]) (.cond 83 [0, 4, 5] [0, 3, 4, 5, 36] (.seq (.region [(none, .mv 85 (.tmp 5)),
 (none, .build 86 [.int .i64 0, .int .i64 0, .int .i64 0, .int .i64 0, .int .i64 0, .int .i64 0] [(0, 1, (.k (.int .i64 4))), (1, 1, (.tmp 85))]),
 (none, .st 6 (.tmp 4) (.tmp 86))] [0, 4]) (.ret)) (.seq (.region [(none, .bin 88 .num .eql (.tmp 36) (.k (.int .i64 8))),
 (none, .as 87 (.tmp 88))] [0, 3, 4, 5, 36, 87]) (.cond 87 [0, 4, 5] [0, 3, 4, 36] (.seq (.region [(none, .mv 89 (.tmp 5)),
 (none, .build 90 [.int .i64 0, .int .i64 0, .int .i64 0, .int .i64 0, .int .i64 0, .int .i64 0] [(0, 1, (.k (.int .i64 5))), (1, 1, (.tmp 89))]),
 (none, .st 6 (.tmp 4) (.tmp 90))] [0, 4]) (.ret)) (.seq (.region [(none, .bin 92 .num .eql (.tmp 36) (.k (.int .i64 9))),
 (none, .as 91 (.tmp 92))] [0, 3, 4, 91]) (.cond 91 [0, 4] [0, 3, 4] (.seq (.region [(none, .build 93 [.int .i64 0, .int .i64 0, .int .i64 0, .int .i64 0, .int .i64 0, .int .i64 0] [(0, 1, (.k (.int .i64 6)))]),
 (none, .st 6 (.tmp 4) (.tmp 93))] [0, 4]) (.ret)) (.skip))))))))))))))) (.seq (.region [(none, .mv 94 (.tmp 0)),
 (none, .fa 95 0 (.tmp 3)),
 (none, .fa 96 8 (.tmp 95)),
 (none, .ld 97 none (.tmp 96)),
 (none, .call 98 gf_spec_l1Max [] rfl [(.k (.int .i64 1)), (.tmp 97)]),
 (none, .call 99 gf_spec_l1Below [] rfl [(.tmp 94), (.tmp 98)]),
 (none, .build 100 [.int .i64 0, .int .i64 0, .int .i64 0, .int .i64 0, .int .i64 0, .int .i64 0] [(0, 1, (.k (.int .i64 7))), (1, 1, (.tmp 99))]),
 (none, .st 6 (.tmp 4) (.tmp 100))] [0, 4]) (.ret))))))
noncomputable def d_spec_l12Right_j4 (x_ : (Gl1Cur × GReq)) : Option (GReq × Gl1Cur) :=
  match x_ with
  | (v41, v42) => some (v42, v41)
noncomputable def d_spec_l12Right_j5 (p1 : GHouse) (v7 : Int) (x9 : Int) (x10 : (Int × Gl1Cur)) (v43 : Bool) : Option (GReq × Gl1Cur) :=
  br v43
    (bd (d_spec_l1Below x10.snd x9) fun x44 =>
    bd (d_spec_l1Below x44.snd 4) fun x45 =>
    some ((GReq.mk 3 0 x44.fst 0 (w64 (1 + x45.fst)) 0, x45.snd)))
    (br (x10.fst == 7)
      (some (GReq.mk 4 v7 0 0 0 0, x10.snd))
      (br (x10.fst == 8)
        (some (GReq.mk 5 v7 0 0 0 0, x10.snd))
        (br (x10.fst == 9)
          (some (GReq.mk 6 0 0 0 0 0, x10.snd))
          (bd (d_spec_l1Max 1 p1.Rules.Crew) fun x46 =>
          bd (d_spec_l1Below x10.snd x46) fun x47 =>
          some (GReq.mk 7 x47.fst 0 0 0 0, x47.snd)))))
noncomputable def d_spec_l12Right_j3 (p1 : GHouse) (v7 : Int) (x9 : Int) (x10 : (Int × Gl1Cur)) (v11 : Bool) : Option (GReq × Gl1Cur) :=
  br v11
    (bd (d_spec_l1Below x10.snd 14) fun x12 =>
    bd (d_spec_l1Below x12.snd x9) fun x13 =>
    bd (d_spec_l1Max 1 p1.Rules.Size) fun x14 =>
    bd (d_spec_l1Below x13.snd x14) fun x15 =>
    bd (d_spec_l1Max 1 p1.Rules.Tiers) fun x16 =>
    bd (d_spec_l1Below x15.snd x16) fun x17 =>
    bd (d_spec_l1Below x15.snd x16) fun x18 =>
    eqv x17.fst x18.fst (
    eqv (α := Int) 1 1 (
    eqv (w64 (1 + x12.fst)) (w64 (1 + x12.fst)) (
    eqv x13.fst x13.fst (
    eqv (α := Int) (-1) (-1) (
    eqv (w64 (1 + x15.fst)) (w64 (1 + x15.fst)) (
    eqv x17.fst x18.fst (
    eqv x17.snd.b_ x18.snd.b_ (
    eqv x17.snd.i_ x18.snd.i_ (
    eqv x17.snd.h_ x18.snd.h_ (
    eqv (α := Int) 1 1 (
    eqv (w64 (1 + x12.fst)) (w64 (1 + x12.fst)) (
    eqv x13.fst x13.fst (
    eqv (α := Int) (-1) (-1) (
    eqv (w64 (1 + x15.fst)) (w64 (1 + x15.fst)) (
    eqv x17.fst x18.fst (
    bd (d_spec_l1Max 1 p1.Rules.Tiers) fun x19 =>
    bd (d_spec_l1Below x15.snd x19) fun x20 =>
    eqv x16 x19 (
    eqv x17.fst x20.fst (
    eqv (α := Int) 1 1 (
    eqv (w64 (1 + x12.fst)) (w64 (1 + x12.fst)) (
    eqv x13.fst x13.fst (
    eqv (α := Int) (-1) (-1) (
    eqv (w64 (1 + x15.fst)) (w64 (1 + x15.fst)) (
    eqv x17.fst x20.fst (
    eqv x17.snd.b_ x20.snd.b_ (
    eqv x17.snd.i_ x20.snd.i_ (
    eqv x17.snd.h_ x20.snd.h_ (
    eqv (α := Int) 1 1 (
    eqv (w64 (1 + x12.fst)) (w64 (1 + x12.fst)) (
    eqv x13.fst x13.fst (
    eqv (α := Int) (-1) (-1) (
    eqv (w64 (1 + x15.fst)) (w64 (1 + x15.fst)) (
    eqv x17.fst x20.fst (
    bd (d_spec_l1Below x13.snd x14) fun x21 =>
    bd (d_spec_l1Max 1 p1.Rules.Tiers) fun x22 =>
    bd (d_spec_l1Below x21.snd x22) fun x23 =>
    eqv x15.fst x21.fst (
    eqv (w64 (1 + x15.fst)) (w64 (1 + x21.fst)) (
    eqv x16 x22 (
    eqv x17.fst x23.fst (
    eqv (α := Int) 1 1 (
    eqv (w64 (1 + x12.fst)) (w64 (1 + x12.fst)) (
    eqv x13.fst x13.fst (
    eqv (α := Int) (-1) (-1) (
    eqv (w64 (1 + x15.fst)) (w64 (1 + x21.fst)) (
    eqv x17.fst x23.fst (
    eqv x17.snd.b_ x23.snd.b_ (
    eqv x17.snd.i_ x23.snd.i_ (
    eqv x17.snd.h_ x23.snd.h_ (
    eqv (α := Int) 1 1 (
    eqv (w64 (1 + x12.fst)) (w64 (1 + x12.fst)) (
    eqv x13.fst x13.fst (
    eqv (α := Int) (-1) (-1) (
    eqv (w64 (1 + x15.fst)) (w64 (1 + x21.fst)) (
    eqv x17.fst x23.fst (
    bd (d_spec_l1Max 1 p1.Rules.Size) fun x24 =>
    bd (d_spec_l1Below x13.snd x24) fun x25 =>
    bd (d_spec_l1Max 1 p1.Rules.Tiers) fun x26 =>
    bd (d_spec_l1Below x25.snd x26) fun x27 =>
    eqv x14 x24 (
    eqv x15.fst x25.fst (
    eqv (w64 (1 + x15.fst)) (w64 (1 + x25.fst)) (
    eqv x16 x26 (
    eqv x17.fst x27.fst (
    eqv (α := Int) 1 1 (
    eqv (w64 (1 + x12.fst)) (w64 (1 + x12.fst)) (
    eqv x13.fst x13.fst (
    eqv (α := Int) (-1) (-1) (
    eqv (w64 (1 + x15.fst)) (w64 (1 + x25.fst)) (
    eqv x17.fst x27.fst (
    eqv x17.snd.b_ x27.snd.b_ (
    eqv x17.snd.i_ x27.snd.i_ (
    eqv x17.snd.h_ x27.snd.h_ (
    eqv (α := Int) 1 1 (
    eqv (w64 (1 + x12.fst)) (w64 (1 + x12.fst)) (
    eqv x13.fst x13.fst (
    eqv (α := Int) (-1) (-1) (
    eqv (w64 (1 + x15.fst)) (w64 (1 + x25.fst)) (
    eqv x17.fst x27.fst (
    bd (d_spec_l1Below x12.snd x9) fun x28 =>
    bd (d_spec_l1Max 1 p1.Rules.Size) fun x29 =>
    bd (d_spec_l1Below x28.snd x29) fun x30 =>
    bd (d_spec_l1Max 1 p1.Rules.Tiers) fun x31 =>
    bd (d_spec_l1Below x30.snd x31) fun x32 =>
    eqv x13.fst x28.fst (
    eqv x14 x29 (
    eqv x15.fst x30.fst (
    eqv (w64 (1 + x15.fst)) (w64 (1 + x30.fst)) (
    eqv x16 x31 (
    eqv x17.fst x32.fst (
    eqv (α := Int) 1 1 (
    eqv (w64 (1 + x12.fst)) (w64 (1 + x12.fst)) (
    eqv x13.fst x28.fst (
    eqv (α := Int) (-1) (-1) (
    eqv (w64 (1 + x15.fst)) (w64 (1 + x30.fst)) (
    eqv x17.fst x32.fst (
    eqv x17.snd.b_ x32.snd.b_ (
    eqv x17.snd.i_ x32.snd.i_ (
    eqv x17.snd.h_ x32.snd.h_ (
    eqv (α := Int) 1 1 (
    eqv (w64 (1 + x12.fst)) (w64 (1 + x12.fst)) (
    eqv x13.fst x28.fst (
    eqv (α := Int) (-1) (-1) (
    eqv (w64 (1 + x15.fst)) (w64 (1 + x30.fst)) (
    eqv x17.fst x32.fst (
    bd (d_spec_l1Below x10.snd 14) fun x33 =>
    bd (d_spec_l1Below x33.snd x9) fun x34 =>
    bd (d_spec_l1Max 1 p1.Rules.Size) fun x35 =>
    bd (d_spec_l1Below x34.snd x35) fun x36 =>
    bd (d_spec_l1Max 1 p1.Rules.Tiers) fun x37 =>
    bd (d_spec_l1Below x36.snd x37) fun x38 =>
    eqv x12.fst x33.fst (
    eqv (w64 (1 + x12.fst)) (w64 (1 + x33.fst)) (
    eqv x13.fst x34.fst (
    eqv x14 x35 (
    eqv x15.fst x36.fst (
    eqv (w64 (1 + x15.fst)) (w64 (1 + x36.fst)) (
    eqv x16 x37 (
    eqv x17.fst x38.fst (
    eqv (α := Int) 1 1 (
    eqv (w64 (1 + x12.fst)) (w64 (1 + x33.fst)) (
    eqv x13.fst x34.fst (
    eqv (α := Int) (-1) (-1) (
    eqv (w64 (1 + x15.fst)) (w64 (1 + x36.fst)) (
    eqv x17.fst x38.fst (
    eqv x17.snd.b_ x38.snd.b_ (
    eqv x17.snd.i_ x38.snd.i_ (
    eqv x17.snd.h_ x38.snd.h_ (
    eqv (α := Int) 1 1 (
    eqv (w64 (1 + x12.fst)) (w64 (1 + x33.fst)) (
    eqv x13.fst x34.fst (
    eqv (α := Int) (-1) (-1) (
    eqv (w64 (1 + x15.fst)) (w64 (1 + x36.fst)) (
    eqv x17.fst x38.fst (
    bd (d_spec_l1Once x17.snd 3) fun x39 =>
    br x39.fst
      (bd (d_spec_l1Below x39.snd x9) fun x40 =>
      jn (d_spec_l12Right_j4) ((x40.snd, GReq.mk 1 (w64 (1 + x12.fst)) x13.fst x40.fst (w64 (1 + x15.fst)) x17.fst)))
      (jn (d_spec_l12Right_j4) ((x39.snd, GReq.mk 1 (w64 (1 + x12.fst)) x13.fst (-1) (w64 (1 + x15.fst)) x17.fst))))))))))))))))))))))))))))))))))))))))))))))))))))))))))))))))))))))))))))))))))))))))))))))))))))))))))))))))))))))))
    (br (x10.fst == 4)
      (some (GReq.mk 2 v7 0 0 0 0, x10.snd))
      (br (x10.fst == 5)
        (jn (d_spec_l12Right_j5 p1 v7 x9 x10) (x10.fst == 5))
        (jn (d_spec_l12Right_j5 p1 v7 x9 x10) (x10.fst == 6))))
noncomputable def d_spec_l12Right_j2 (p1 : GHouse) (x_ : (Int × Gl1Cur)) : Option (GReq × Gl1Cur) :=
  match x_ with
  | (v7, v8) => bd (d_spec_l1Max 1 (↑p1.Rules.Seats.length : Int)) fun x9 =>
  bd (d_spec_l1Below v8 12) fun x10 =>
  br (x10.fst == 0)
    (jn (d_spec_l12Right_j3 p1 v7 x9 x10) (x10.fst == 0))
    (br (x10.fst == 1)
      (jn (d_spec_l12Right_j3 p1 v7 x9 x10) (x10.fst == 1))
      (br (x10.fst == 2)
        (jn (d_spec_l12Right_j3 p1 v7 x9 x10) (x10.fst == 2))
        (jn (d_spec_l12Right_j3 p1 v7 x9 x10) (x10.fst == 3))))
noncomputable def d_spec_l12Right_j1 (p1 : GHouse) (x1 : (Int × Gl1Cur)) (x_ : (Bool × Gl1Cur)) : Option (GReq × Gl1Cur) :=
  match x_ with
  | (v3, v4) => br v3
    (bd (d_spec_l1Below v4 (↑p1.Parties.length : Int)) fun x5 =>
    bd (at? p1.Parties x5.fst) fun x6 =>
    jn (d_spec_l12Right_j2 p1) (x6.Id, x5.snd))
    (jn (d_spec_l12Right_j2 p1) ((w64 (1 + x1.fst), v4)))
noncomputable def d_spec_l12Right (p0 : Gl1Cur) (p1 : GHouse) : Option (GReq × Gl1Cur) :=
  bd (d_spec_l1Below p0 12) fun x1 =>
  br (decide ((↑p1.Parties.length : Int) > 0))
    (bd (d_spec_l1Once x1.snd 3) fun x2 =>
    jn (d_spec_l12Right_j1 p1 x1) (!x2.fst, x2.snd))
    (jn (d_spec_l12Right_j1 p1 x1) (false, x1.snd))
noncomputable def gf_spec_l12Right : GF := y_spec_l12Right.gf rfl rfl (fun a => d_spec_l12Right a.1 a.2.1) (fun a => by kernel_rfl)
noncomputable def y_spec_l1PickInt : Y.YF where
  R := []
  ps := [.b (.st 17), .v (.l .i)]
  fs := []
  rk := .ret [.i]
  rs := [.tmp 4]
  body := .seq (.region [(none, .as 4 (.k (.int .i64 0)))] [0, 1]) (.seq (.region [(none, .mv 5 (.tmp 1)),
 (none, .mv 6 (.tmp 0)),
 (none, .mv 7 (.tmp 1)),
 (none, .len 8 (.tmp 7)),
 (none, .call 9 gf_spec_l1Below [] rfl [(.tmp 6), (.tmp 8)]),
 (none, .ia 10 .i (.tmp 5) (.tmp 9)),
 (none, .ld 11 none (.tmp 10)),
 (none, .as 4 (.tmp 11))] [0, 4]) (.ret))
noncomputable def d_spec_l1PickInt (p0 : Gl1Cur) (p1 : (List Int)) : Option (Int × Gl1Cur) :=
  bd (d_spec_l1Below p0 (↑p1.length : Int)) fun x1 =>
  bd (at? p1 x1.fst) fun x2 =>
  some (x2, x1.snd)
noncomputable def gf_spec_l1PickInt : GF := y_spec_l1PickInt.gf rfl rfl (fun a => d_spec_l1PickInt a.1 a.2.1) (fun a => by kernel_rfl)
noncomputable def y_spec_l12Bent : Y.YF where
  R := []
  ps := [.b (.st 17), .v (.st 8)]
  fs := []
  rk := .ret [(.st 0)]
  rs := [.cell 4 (some 6)]
  body := .seq (.region [(none, .box 3 (.tmp 1)),
 (none, .alloc 4 [.int .i64 0, .int .i64 0, .int .i64 0, .int .i64 0, .int .i64 0, .int .i64 0])] [0, 3, 4]) (.seq (.region [(none, .mv 7 (.tmp 0)),
 (none, .ld 8 (some 15) (.tmp 3)),
 (none, .call 9 gf_spec_l12Right [] rfl [(.tmp 7), (.tmp 8)]),
 (none, .alloc 5 [.int .i64 0, .int .i64 0, .int .i64 0, .int .i64 0, .int .i64 0, .int .i64 0]),
 (none, .st 6 (.tmp 5) (.tmp 9))] [0, 4, 5]) (.seq (.region [(none, .mv 10 (.tmp 0)),
 (none, .bslice 11 11 .i [(0, (.k (.int .i64 (-1)))), (1, (.k (.int .i64 0))), (2, (.k (.int .i64 1))), (3, (.k (.int .i64 4))), (4, (.k (.int .i64 7))), (5, (.k (.int .i64 61))), (6, (.k (.int .i64 1000))), (7, (.k (.int .i64 9999))), (8, (.k (.int .i64 10000))), (9, (.k (.int .i64 9223372036854775807))), (10, (.k (.int .i64 (-9223372036854775808))))]),
 (none, .call 12 gf_spec_l1PickInt [] rfl [(.tmp 10), (.tmp 11)]),
 (none, .as 6 (.tmp 12))] [0, 4, 5, 6]) (.join [(true, 0, .one, [.val (.st 17) (some (.old 0))]), (true, 5, .one, [.val (.st 0) none])] (.seq (.region [(none, .mv 13 (.tmp 0)),
 (none, .call 14 gf_spec_l1Below [] rfl [(.tmp 13), (.k (.int .i64 20))])] [0, 4, 5, 6, 14]) (.block 0 (.seq (.region [(none, .bin 16 .num .eql (.tmp 14) (.k (.int .i64 0))),
 (none, .as 15 (.tmp 16))] [0, 4, 5, 6, 14, 15]) (.cond 15 [0, 4, 5, 6] [0, 4, 5, 6, 14] (.region [(none, .mv 17 (.tmp 6)),
 (none, .fa 18 0 (.tmp 5)),
 (none, .st 1 (.tmp 18) (.tmp 17))] [0, 4, 5]) (.seq (.region [(none, .bin 20 .num .eql (.tmp 14) (.k (.int .i64 1))),
 (none, .as 19 (.tmp 20))] [0, 4, 5, 6, 14, 19]) (.cond 19 [0, 4, 5, 6] [0, 4, 5, 6, 14] (.region [(none, .mv 21 (.tmp 6)),
 (none, .fa 22 1 (.tmp 5)),
 (none, .st 1 (.tmp 22) (.tmp 21))] [0, 4, 5]) (.seq (.region [(none, .bin 24 .num .eql (.tmp 14) (.k (.int .i64 2))),
 (none, .as 23 (.tmp 24))] [0, 4, 5, 6, 14, 23]) (.cond 23 [0, 4, 5, 6] [0, 4, 5, 6, 14] (.region [(none, .mv 25 (.tmp 6)),
 (none, .fa 26 2 (.tmp 5)),
 (none, .st 1 (.tmp 26) (.tmp 25))] [0, 4, 5]) (.seq (.region [(none, .bin 28 .num .eql (.tmp 14) (.k (.int .i64 3))),
 (none, .as 27 (.tmp 28))] [0, 4, 5, 6, 14, 27]) (.cond 27 [0, 4, 5, 6] [0, 4, 5, 6, 14] (.region [(none, .mv 29 (.tmp 6)),
 (none, .fa 30 3 (.tmp 5)),
 (none, .st 1 (.tmp 30) (.tmp 29))] [0, 4, 5]) (.seq (.region [(none, .bin 32 .num .eql (.tmp 14) (.k (.int .i64 4))),
 (none, .as 31 (.tmp 32))] [0, 4, 5, 6, 14, 31]) (.cond 31 [0, 4, 5, 6] [0, 4, 5, 6, 14] (.region [(none, .mv 33 (.tmp 6)),
 (none, .fa 34 4 (.tmp 5)),
 (none, .st 1 (.tmp 34) (.tmp 33))] [0, 4, 5]) (.seq (.region [(none, .bin 36 .num .eql (.tmp 14) (.k (.int .i64 5))),
 (none, .as 35 (.tmp 36))] [0, 4, 5, 6, 35]) (.cond 35 [0, 4, 5, 6] [0, 4, 5] (.region [(none, .mv 37 (.tmp 6)),
 (none, .fa 38 5 (.tmp 5)),
 (none, .st 1 (.tmp 38) (.tmp 37))] [0, 4, 5]) (.skip))))))))))))))) (.seq (.region [(none, .ld 39 (some 6) (.tmp 5)),
 (none, .st 6 (.tmp 4) (.tmp 39))] [0, 4]) (.ret)))))
noncomputable def d_spec_l12Bent_j1 (x_ : (Gl1Cur × GReq)) : Option (GReq × Gl1Cur) :=
  match x_ with
  | (v4, v5) => some (v5, v4)
noncomputable def d_spec_l12Bent (p0 : Gl1Cur) (p1 : GHouse) : Option (GReq × Gl1Cur) :=
  bd (d_spec_l12Right p0 p1) fun x1 =>
  bd (d_spec_l1PickInt x1.snd ([-1, 0, 1, 4, 7, 61, 1000, 9999, 10000, 9223372036854775807, -9223372036854775808])) fun x2 =>
  bd (d_spec_l1Below x2.snd 20) fun x3 =>
  br (x3.fst == 0)
    (jn (d_spec_l12Bent_j1) (x3.snd, GReq.mk x2.fst x1.fst.Id x1.fst.Cabin x1.fst.From x1.fst.Size x1.fst.Tier))
    (br (x3.fst == 1)
      (jn (d_spec_l12Bent_j1) (x3.snd, GReq.mk x1.fst.Kind x2.fst x1.fst.Cabin x1.fst.From x1.fst.Size x1.fst.Tier))
      (br (x3.fst == 2)
        (jn (d_spec_l12Bent_j1) (x3.snd, GReq.mk x1.fst.Kind x1.fst.Id x2.fst x1.fst.From x1.fst.Size x1.fst.Tier))
        (br (x3.fst == 3)
          (jn (d_spec_l12Bent_j1) (x3.snd, GReq.mk x1.fst.Kind x1.fst.Id x1.fst.Cabin x2.fst x1.fst.Size x1.fst.Tier))
          (br (x3.fst == 4)
            (jn (d_spec_l12Bent_j1) (x3.snd, GReq.mk x1.fst.Kind x1.fst.Id x1.fst.Cabin x1.fst.From x2.fst x1.fst.Tier))
            (br (x3.fst == 5)
              (jn (d_spec_l12Bent_j1) (x3.snd, GReq.mk x1.fst.Kind x1.fst.Id x1.fst.Cabin x1.fst.From x1.fst.Size x2.fst))
              (jn (d_spec_l12Bent_j1) (x3.snd, x1.fst)))))))
noncomputable def gf_spec_l12Bent : GF := y_spec_l12Bent.gf rfl rfl (fun a => d_spec_l12Bent a.1 a.2.1) (fun a => by kernel_rfl)
noncomputable def y_laws_at0 : Y.YF where
  R := []
  ps := [.v (.l .u), .v .i]
  fs := []
  rk := .ret [.i]
  rs := [.tmp 4]
  body := .seq (.region [(none, .as 4 (.k (.int .i64 0)))] [0, 1]) (.seq (.seq (.region [(none, .mv 5 (.tmp 1)),
 (none, .mv 6 (.tmp 0)),
 (none, .len 7 (.tmp 6)),
 (none, .bin 8 .num .lss (.tmp 5) (.tmp 7))] [0, 1, 8]) (.cond 8 [0, 1] [0, 1] (.seq (.region [(none, .mv 9 (.tmp 0)),
 (none, .mv 10 (.tmp 1)),
 (none, .ia 11 .u (.tmp 9) (.tmp 10)),
 (none, .ld 12 none (.tmp 11)),
 (none, .cvI 13 .i64 (.tmp 12)),
 (none, .as 4 (.tmp 13))] [4]) (.ret)) (.skip))) (.seq (.region [(none, .mv 14 (.tmp 1)),
 (none, .bin 15 .num .mul (.tmp 14) (.k (.int .i64 7))),
 (none, .mv 16 (.tmp 0)),
 (none, .len 17 (.tmp 16)),
 (none, .bin 18 .num .add (.tmp 15) (.tmp 17)),
 (none, .bin 19 .num .rem (.tmp 18) (.k (.int .i64 256))),
 (none, .as 4 (.tmp 19))] [4]) (.ret)))
noncomputable def d_laws_at0 (p0 : (List UInt8)) (p1 : Int) : Option Int :=
  br (decide (p1 < (↑p0.length : Int)))
    (bd (at? p0 p1) fun x1 =>
    some (w64 (↑(UInt8.toNat x1) : Int)))
    (some ((w64 (w64 (p1 * 7) + (↑p0.length : Int))).tmod 256))
noncomputable def gf_laws_at0 : GF := y_laws_at0.gf rfl rfl (fun a => d_laws_at0 a.1 a.2.1) (fun a => by kernel_rfl)
noncomputable def y_spec_DrawLogOf : Y.YF where
  R := []
  ps := [.v (.l .u)]
  fs := []
  rk := .ret [(.l (.st 0)), .i]
  rs := [.tmp 2, .tmp 3]
  body := .seq (.region [(none, .as 2 (.k .nil)),
 (none, .nils [(.tmp 2 0, (.st 0))]),
 (none, .as 3 (.k (.int .i64 0)))] [0]) (.seq (.region [(none, .mv 10 (.tmp 0)),
 (none, .call 11 gf_spec_l1New [] rfl [(.tmp 10)]),
 (none, .as 4 (.tmp 11))] [4]) (.seq (.region [(none, .bslice 12 0 (.st 0) []),
 (none, .as 5 (.tmp 12))] [4, 5]) (.seq (.region [(none, .mv 13 (.tmp 4)),
 (none, .call 14 gf_spec_l11Right [] rfl [(.tmp 13)]),
 (none, .alloc 6 [.nil, .int .i64 0, .int .i64 0, .int .i64 0, .int .i64 0, .int .i64 0, .int .i64 0, .int .i64 0, .int .i64 0, .int .i64 0, .int .i64 0, .nil, .nil, .nil, .nil]),
 (none, .nils [(.cell 6 0, .i), (.cell 6 11, (.st 2)), (.cell 6 12, (.st 7)), (.cell 6 13, .i), (.cell 6 14, .i)]),
 (none, .st 15 (.tmp 6) (.tmp 14))] [4, 5, 6]) (.seq (.region [(none, .mv 15 (.tmp 4)),
 (none, .call 16 gf_spec_l1Below [] rfl [(.tmp 15), (.k (.int .i64 5))]),
 (none, .as 7 (.tmp 16))] [4, 5, 6, 7]) (.join [(false, 5, .one, [.val (.l (.st 0)) none]), (true, 11, .one, [.val (.st 17) (some (.old 0))])] (.seq (.region [(none, .as 8 (.k (.int .i64 0)))] [4, 5, 6, 7, 8]) (.block 0 (.loop [(false, 5, .one, [.val (.l (.st 0)) none]), (false, 8, .one, [.val .i none]), (true, 11, .one, [.val (.st 17) (some (.old 0))])] (.seq (.seq (.region [(none, .mv 17 (.tmp 8)),
 (none, .mv 18 (.tmp 7)),
 (none, .bin 19 .num .lss (.tmp 17) (.tmp 18))] [4, 5, 6, 7, 8, 19]) (.cond 19 [4, 5, 6, 7, 8] [4, 5] (.skip) (.exit 0))) (.seq (.block 1 (.seq (.region [(none, .mv 22 (.tmp 4)),
 (none, .ld 23 (some 15) (.tmp 6)),
 (none, .call 24 gf_spec_l12Right [] rfl [(.tmp 22), (.tmp 23)]),
 (none, .alloc 9 [.int .i64 0, .int .i64 0, .int .i64 0, .int .i64 0, .int .i64 0, .int .i64 0]),
 (none, .st 6 (.tmp 9) (.tmp 24))] [4, 5, 6, 7, 8, 9]) (.join [(true, 9, .one, [.val (.st 0) none]), (true, 11, .one, [.val (.st 17) (some (.old 0))])] (.seq (.region [(none, .mv 25 (.tmp 4)),
 (none, .call 26 gf_spec_l1Once [] rfl [(.tmp 25), (.k (.int .i64 16))])] [4, 5, 6, 7, 8, 9, 26]) (.cond 26 [4, 5, 6, 7, 8, 9] [4, 5, 6, 7, 8, 9] (.region [(none, .mv 27 (.tmp 4)),
 (none, .ld 28 (some 15) (.tmp 6)),
 (none, .call 29 gf_spec_l12Bent [] rfl [(.tmp 27), (.tmp 28)]),
 (none, .st 6 (.tmp 9) (.tmp 29))] [4, 5, 6, 7, 8, 9]) (.skip))) (.region [(none, .mv 30 (.tmp 5)),
 (none, .ld 31 (some 6) (.tmp 9)),
 (none, .bslice 32 1 (.st 0) [(0, (.tmp 31))]),
 (none, .app 33 (.st 0) true (.tmp 30) (.tmp 32)),
 (none, .as 5 (.tmp 33))] [4, 5, 6, 7, 8])))) (.region [(none, .mv 20 (.tmp 8)),
 (none, .bin 21 .num .add (.tmp 20) (.k (.int .i64 1))),
 (none, .as 8 (.tmp 21))] [4, 5, 6, 7, 8])))))) (.seq (.region [(none, .mv 34 (.tmp 5)),
 (none, .mv 35 (.tmp 4)),
 (none, .bslice 36 10 .i [(0, (.k (.int .i64 1))), (1, (.k (.int .i64 1))), (2, (.k (.int .i64 2))), (3, (.k (.int .i64 9))), (4, (.k (.int .i64 999999))), (5, (.k (.int .i64 1000000))), (6, (.k (.int .i64 0))), (7, (.k (.int .i64 (-1)))), (8, (.k (.int .i64 9223372036854775807))), (9, (.k (.int .i64 (-9223372036854775808))))]),
 (none, .call 37 gf_spec_l1PickInt [] rfl [(.tmp 35), (.tmp 36)]),
 (none, .as 2 (.tmp 34)),
 (none, .as 3 (.tmp 37))] [2, 3]) (.ret)))))))
noncomputable def d_spec_DrawLogOf_j2 (L4 : ((List GReq) × Int × Gl1Cur) → Option ((List GReq) × Int)) (v5 : (List GReq)) (v6 : Int) (x_ : (GReq × Gl1Cur)) : Option ((List GReq) × Int) :=
  match x_ with
  | (v11, v12) => gd (List.length v5 + [v11].length ≤ lim) (
  L4 ((v5 ++ [v11], w64 (v6 + 1), v12)))
noncomputable def d_spec_DrawLogOf_j3 (x_ : ((List GReq) × Gl1Cur)) : Option ((List GReq) × Int) :=
  match x_ with
  | (v13, v14) => bd (d_spec_l1PickInt v14 ([1, 1, 2, 9, 999999, 1000000, 0, -1, 9223372036854775807, -9223372036854775808])) fun x15 =>
  some (v13, x15.fst)
noncomputable def d_spec_DrawLogOf_l1 (x2 : (GHouse × Gl1Cur)) (x3 : (Int × Gl1Cur)) (L4 : ((List GReq) × Int × Gl1Cur) → Option ((List GReq) × Int)) (x_ : ((List GReq) × Int × Gl1Cur)) : Option ((List GReq) × Int) :=
  match x_ with
  | (v5, v6, v7) => br (decide (v6 < x3.fst))
    (bd (d_spec_l12Right v7 x2.fst) fun x8 =>
    bd (d_spec_l1Once x8.snd 16) fun x9 =>
    br x9.fst
      (bd (d_spec_l12Bent x9.snd x2.fst) fun x10 =>
      jn (d_spec_DrawLogOf_j2 L4 v5 v6) (x10.fst, x10.snd))
      (jn (d_spec_DrawLogOf_j2 L4 v5 v6) (x8.fst, x9.snd)))
    (jn (d_spec_DrawLogOf_j3) (v5, v7))
noncomputable def d_spec_DrawLogOf (p0 : (List UInt8)) : Option ((List GReq) × Int) :=
  bd (d_spec_l1New p0) fun x1 =>
  bd (d_spec_l11Right x1) fun x2 =>
  bd (d_spec_l1Below x2.snd 5) fun x3 =>
  loopN (d_spec_DrawLogOf_l1 x2 x3) big ([], 0, x3.snd)
noncomputable def gf_spec_DrawLogOf : GF := y_spec_DrawLogOf.gf rfl rfl (fun a => d_spec_DrawLogOf a.1) (fun a => by kernel_rfl)
noncomputable def y_impl_After : Y.YF where
  R := []
  ps := [.v (.l (.st 15)), .v .i]
  fs := []
  rk := .ret [(.l (.st 15))]
  rs := [.tmp 4]
  body := .seq (.region [(none, .as 4 (.k .nil)),
 (none, .nils [(.tmp 4 0, (.st 15))])] [0, 1]) (.seq (.region [(none, .as 5 (.k .nil)),
 (none, .nils [(.tmp 5 0, (.st 15))])] [0, 1, 5]) (.seq (.region [(none, .mv 9 (.tmp 1)),
 (none, .as 6 (.tmp 9))] [0, 5, 6]) (.join [(false, 5, .one, [.val (.l (.st 15)) none])] (.seq (.region [(none, .mv 10 (.tmp 0)),
 (none, .len 11 (.tmp 10)),
 (none, .mv 12 (.k (.int .i64 0)))] [5, 6, 10, 11, 12]) (.block 0 (.loop [(false, 5, .one, [.val (.l (.st 15)) none]), (false, 6, .one, [.val .i none]), (false, 12, .one, [.val .i none])] (.seq (.region [(none, .bin 13 .num .lss (.tmp 12) (.tmp 11))] [5, 6, 10, 11, 12, 13]) (.seq (.cond 13 [5, 6, 10, 11, 12] [5] (.skip) (.exit 0)) (.join [(false, 5, .one, [.val (.l (.st 15)) none]), (false, 6, .one, [.val .i none])] (.block 1 (.seq (.region [(none, .ia 14 (.st 15) (.tmp 10) (.tmp 12)),
 (none, .ld 15 (some 3) (.tmp 14)),
 (none, .alloc 8 [.int .i64 0, .str [], .int .i64 0]),
 (none, .st 3 (.tmp 8) (.tmp 15))] [5, 6, 8, 10, 11, 12]) (.seq (.seq (.region [(none, .fa 16 0 (.tmp 8)),
 (none, .ld 17 none (.tmp 16)),
 (none, .mv 18 (.tmp 6)),
 (none, .bin 19 .num .leq (.tmp 17) (.tmp 18))] [5, 6, 8, 10, 11, 12, 19]) (.cond 19 [5, 6, 10, 11, 12] [5, 6, 8, 10, 11, 12] (.exit 1) (.skip))) (.seq (.seq (.region [(none, .fa 20 0 (.tmp 8)),
 (none, .ld 21 none (.tmp 20)),
 (none, .mv 22 (.tmp 6)),
 (none, .bin 23 .num .add (.tmp 22) (.k (.int .i64 1))),
 (none, .bin 24 .num .neq (.tmp 21) (.tmp 23))] [5, 6, 8, 10, 11, 12, 24]) (.cond 24 [5] [5, 6, 8, 10, 11, 12] (.exit 0) (.skip))) (.seq (.region [(none, .mv 25 (.tmp 5)),
 (none, .ld 26 (some 3) (.tmp 8)),
 (none, .bslice 27 1 (.st 15) [(0, (.tmp 26))]),
 (none, .app 28 (.st 15) true (.tmp 25) (.tmp 27)),
 (none, .as 5 (.tmp 28))] [5, 6, 10, 11, 12]) (.region [(none, .mv 29 (.tmp 6)),
 (none, .bin 30 .num .add (.tmp 29) (.k (.int .i64 1))),
 (none, .as 6 (.tmp 30))] [5, 6, 10, 11, 12])))))) (.region [(none, .bin 31 .num .add (.tmp 12) (.k (.int .i64 1))),
 (none, .mv 12 (.tmp 31))] [5, 6, 10, 11, 12]))))))) (.seq (.region [(none, .mv 32 (.tmp 5)),
 (none, .as 4 (.tmp 32))] [4]) (.ret)))))
noncomputable def d_impl_After_j2 (L1 : ((List GFrame) × Int × Int) → Option (List GFrame)) (v4 : Int) (x_ : ((List GFrame) × Int)) : Option (List GFrame) :=
  match x_ with
  | (v6, v7) => L1 ((v6, v7, w64 (v4 + 1)))
noncomputable def d_impl_After_j3 (v8 : (List GFrame)) : Option (List GFrame) :=
  some v8
noncomputable def d_impl_After_l1 (p0 : (List GFrame)) (L1 : ((List GFrame) × Int × Int) → Option (List GFrame)) (x_ : ((List GFrame) × Int × Int)) : Option (List GFrame) :=
  match x_ with
  | (v2, v3, v4) => br (decide (v4 < (↑p0.length : Int)))
    (bd (at? p0 v4) fun x5 =>
    br (decide (x5.Seq ≤ v3))
      (jn (d_impl_After_j2 L1 v4) (v2, v3))
      (br (x5.Seq != w64 (v3 + 1))
        (jn (d_impl_After_j3) v2)
        (gd (List.length v2 + [x5].length ≤ lim) (
        jn (d_impl_After_j2 L1 v4) ((v2 ++ [x5], w64 (v3 + 1)))))))
    (jn (d_impl_After_j3) v2)
noncomputable def d_impl_After (p0 : (List GFrame)) (p1 : Int) : Option (List GFrame) :=
  loopN (d_impl_After_l1 p0) big ([], p1, 0)
noncomputable def gf_impl_After : GF := y_impl_After.gf rfl rfl (fun a => d_impl_After a.1 a.2.1) (fun a => by kernel_rfl)
noncomputable def y_laws_sameReqs : Y.YF where
  R := []
  ps := [.v (.l (.st 0)), .v (.l (.st 0))]
  fs := []
  rk := .ret [.b]
  rs := [.tmp 4]
  body := .seq (.region [(none, .as 4 (.k (.bool false)))] [0, 1]) (.seq (.seq (.region [(none, .mv 6 (.tmp 0)),
 (none, .len 7 (.tmp 6)),
 (none, .mv 8 (.tmp 1)),
 (none, .len 9 (.tmp 8)),
 (none, .bin 10 .num .neq (.tmp 7) (.tmp 9))] [0, 1, 10]) (.cond 10 [] [0, 1] (.seq (.region [(none, .as 4 (.k (.bool false)))] [4]) (.ret)) (.skip))) (.join [] (.seq (.region [(none, .as 5 (.k (.int .i64 0)))] [0, 1, 5]) (.block 0 (.loop [(false, 5, .one, [.val .i none])] (.seq (.seq (.region [(none, .mv 11 (.tmp 5)),
 (none, .mv 12 (.tmp 0)),
 (none, .len 13 (.tmp 12)),
 (none, .bin 14 .num .lss (.tmp 11) (.tmp 13))] [0, 1, 5, 14]) (.cond 14 [0, 1, 5] [] (.skip) (.exit 0))) (.seq (.block 1 (.seq (.dreg (.op 0 none [] (.mv 17 (.tmp 0))
 (.op 1 none [] (.mv 18 (.tmp 5))
 (.op 2 none [] (.ia 19 (.st 0) (.tmp 17) (.tmp 18))
 (.op 3 none [] (.ld 20 (some 6) (.tmp 19))
 (.op 4 none [] (.mv 21 (.tmp 1))
 (.op 5 none [] (.mv 22 (.tmp 5))
 (.op 6 none [] (.ia 23 (.st 0) (.tmp 21) (.tmp 22))
 (.op 7 none [] (.ld 24 (some 6) (.tmp 23))
 (.op 8 none [] (.bin 25 (.agg [.i, .i, .i, .i, .i, .i]) .neq (.tmp 20) (.tmp 24))
 .nil))))))))) [0, 1, 5, 25]) (.cond 25 [] [0, 1, 5] (.seq (.region [(none, .as 4 (.k (.bool false)))] [4]) (.ret)) (.skip)))) (.region [(none, .mv 15 (.tmp 5)),
 (none, .bin 16 .num .add (.tmp 15) (.k (.int .i64 1))),
 (none, .as 5 (.tmp 16))] [0, 1, 5])))))) (.seq (.region [(none, .as 4 (.k (.bool true)))] [4]) (.ret))))
noncomputable def d_laws_sameReqs_j2 (_ : PUnit) : Option Bool :=
  some true
noncomputable def d_laws_sameReqs_l1 (p0 : (List GReq)) (p1 : (List GReq)) (L1 : Int → Option Bool) (v2 : Int) : Option Bool :=
  br (decide (v2 < (↑p0.length : Int)))
    (bd (at? p0 v2) fun x3 =>
    bd (at? p1 v2) fun x4 =>
    br (!(x3.Kind == x4.Kind && (x3.Id == x4.Id && (x3.Cabin == x4.Cabin && (x3.From == x4.From && (x3.Size == x4.Size && (x3.Tier == x4.Tier && true)))))))
      (some false)
      (L1 (w64 (v2 + 1))))
    (jn (d_laws_sameReqs_j2) ())
noncomputable def d_laws_sameReqs (p0 : (List GReq)) (p1 : (List GReq)) : Option Bool :=
  br ((↑p0.length : Int) != (↑p1.length : Int))
    (some false)
    (loopN (d_laws_sameReqs_l1 p0 p1) big 0)
noncomputable def gf_laws_sameReqs : GF := y_laws_sameReqs.gf rfl rfl (fun a => d_laws_sameReqs a.1 a.2.1) (fun a => by kernel_rfl)
noncomputable def y_laws_FnLog : Y.YF where
  R := []
  ps := [.v (.l .u)]
  fs := []
  rk := .ret [.b]
  rs := [.tmp 2]
  body := .seq (.region [(none, .as 2 (.k (.bool false)))] [0]) (.seq (.seq (.region [(none, .mv 9 (.tmp 0)),
 (none, .call 10 gf_laws_big [] rfl [(.tmp 9)])] [0, 10]) (.cond 10 [] [0] (.seq (.region [(none, .as 2 (.k (.bool true)))] [2]) (.ret)) (.skip))) (.seq (.region [(none, .mv 12 (.tmp 0)),
 (none, .call 13 gf_spec_DrawLogOf [] rfl [(.tmp 12)]),
 (none, .mv 11 (.tmp 13)),
 (none, .ext 14 (.tmp 11) 0),
 (none, .ext 15 (.tmp 11) 1),
 (none, .as 3 (.tmp 14)),
 (none, .as 4 (.tmp 15))] [0, 3, 4]) (.seq (.region [(none, .mv 16 (.tmp 3)),
 (none, .mv 17 (.tmp 4)),
 (none, .call 18 gf_impl_LogOf [] rfl [(.tmp 16), (.tmp 17)]),
 (none, .as 5 (.tmp 18))] [0, 3, 4, 5]) (.seq (.seq (.region [(none, .mv 19 (.tmp 5)),
 (none, .mv 20 (.tmp 3)),
 (none, .mv 21 (.tmp 4)),
 (none, .call 22 gf_spec_LogOf [] rfl [(.tmp 20), (.tmp 21)]),
 (none, .bin 23 .num .neq (.tmp 19) (.tmp 22))] [0, 3, 4, 5, 23]) (.cond 23 [] [0, 3, 4, 5] (.seq (.region [(none, .as 2 (.k (.bool false)))] [2]) (.ret)) (.skip))) (.seq (.region [(none, .mv 24 (.tmp 5)),
 (none, .call 25 gf_impl_Frames [] rfl [(.tmp 24)]),
 (none, .call 26 gf_impl_NotesIn [] rfl [(.tmp 25)]),
 (none, .as 6 (.tmp 26))] [0, 3, 4, 5, 6]) (.seq (.seq (.region [(none, .mv 27 (.tmp 5)),
 (none, .bin 28 .num .eql (.tmp 27) (.k (.str [])))] [0, 3, 4, 5, 6, 28]) (.cond 28 [6] [0, 3, 4, 5, 6] (.seq (.region [(none, .mv 29 (.tmp 6)),
 (none, .len 30 (.tmp 29)),
 (none, .bin 31 .num .eql (.tmp 30) (.k (.int .i64 0))),
 (none, .as 2 (.tmp 31))] [2]) (.ret)) (.skip))) (.seq (.region [(none, .mv 32 (.tmp 0)),
 (none, .call 33 gf_laws_at0 [] rfl [(.tmp 32), (.k (.int .i64 4))]),
 (none, .mv 34 (.tmp 5)),
 (none, .lens 35 (.tmp 34)),
 (none, .bin 36 .num .add (.tmp 35) (.k (.int .i64 1))),
 (none, .bin 37 .num .rem (.tmp 33) (.tmp 36)),
 (none, .as 7 (.tmp 37))] [3, 4, 5, 6, 7]) (.seq (.region [(none, .mv 38 (.tmp 5)),
 (none, .mv 39 (.tmp 7)),
 (none, .subs 40 (.tmp 38) none (some (.tmp 39))),
 (none, .call 41 gf_impl_Frames [] rfl [(.tmp 40)]),
 (none, .mv 42 (.tmp 4)),
 (none, .bin 43 .num .sub (.tmp 42) (.k (.int .i64 1))),
 (none, .call 44 gf_impl_After [] rfl [(.tmp 41), (.tmp 43)]),
 (none, .call 45 gf_impl_NotesIn [] rfl [(.tmp 44)]),
 (none, .as 8 (.tmp 45))] [3, 5, 6, 7, 8]) (.join [(false, 2, .one, [.val .b none])] (.region [(none, .mv 46 (.tmp 6)),
 (none, .mv 47 (.tmp 3)),
 (none, .call 48 gf_laws_sameReqs [] rfl [(.tmp 46), (.tmp 47)]),
 (none, .mv 49 (.tmp 48)),
 ((some (49, true)), .mv 50 (.tmp 8)),
 ((some (49, true)), .len 51 (.tmp 50)),
 ((some (49, true)), .mv 52 (.tmp 3)),
 ((some (49, true)), .len 53 (.tmp 52)),
 ((some (49, true)), .bin 54 .num .leq (.tmp 51) (.tmp 53)),
 (none, .pick 55 (.tmp 49) (.tmp 54) (.k (.bool false))),
 (none, .mv 56 (.tmp 55)),
 ((some (56, true)), .mv 57 (.tmp 8)),
 ((some (56, true)), .mv 58 (.tmp 3)),
 ((some (56, true)), .mv 59 (.tmp 8)),
 ((some (56, true)), .len 60 (.tmp 59)),
 ((some (56, true)), .sub 61 (.st 0) (.tmp 58) none (some (.tmp 60))),
 ((some (56, true)), .call 62 gf_laws_sameReqs [] rfl [(.tmp 57), (.tmp 61)]),
 (none, .pick 63 (.tmp 56) (.tmp 62) (.k (.bool false))),
 (none, .mv 64 (.tmp 63)),
 ((some (64, true)), .mv 65 (.tmp 7)),
 ((some (64, true)), .mv 66 (.tmp 5)),
 ((some (64, true)), .lens 67 (.tmp 66)),
 ((some (64, true)), .bin 68 .num .lss (.tmp 65) (.tmp 67)),
 ((some (64, true)), .mv 69 (.tmp 68)),
 ((some (69, false)), .mv 70 (.tmp 8)),
 ((some (69, false)), .len 71 (.tmp 70)),
 ((some (69, false)), .mv 72 (.tmp 3)),
 ((some (69, false)), .len 73 (.tmp 72)),
 ((some (69, false)), .bin 74 .num .eql (.tmp 71) (.tmp 73)),
 ((some (64, true)), .pick 75 (.tmp 69) (.k (.bool true)) (.tmp 74)),
 (none, .pick 76 (.tmp 64) (.tmp 75) (.k (.bool false))),
 (none, .as 2 (.tmp 76))] [2]) (.ret))))))))))
noncomputable def d_laws_FnLog_j1 (v13 : Bool) : Option Bool :=
  some v13
noncomputable def d_laws_FnLog (p0 : (List UInt8)) : Option Bool :=
  bd (d_laws_big p0) fun x1 =>
  br x1
    (some true)
    (bd (d_spec_DrawLogOf p0) fun x2 =>
    bd (d_impl_LogOf x2.fst x2.snd) fun x3 =>
    bd (d_spec_LogOf x2.fst x2.snd) fun x4 =>
    br (x3 != x4)
      (some false)
      (bd (d_impl_Frames x3) fun x5 =>
      bd (d_impl_NotesIn x5) fun x6 =>
      br (x3 == [])
        (some ((↑(List.length x6) : Int) == 0))
        (bd (d_laws_at0 p0 4) fun x7 =>
        gd (w64 ((↑(List.length x3) : Int) + 1) ≠ 0) (
        gd (0 ≤ Int.tmod x7 (w64 ((↑(List.length x3) : Int) + 1)) ∧ Int.tmod x7 (w64 ((↑(List.length x3) : Int) + 1)) ≤ (↑(List.length x3) : Int)) (
        bd (d_impl_Frames (List.take (Int.tmod x7 (w64 ((↑(List.length x3) : Int) + 1))).toNat x3)) fun x8 =>
        bd (d_impl_After x8 (w64 (x2.snd - 1))) fun x9 =>
        bd (d_impl_NotesIn x9) fun x10 =>
        bd (d_laws_sameReqs x6 x2.fst) fun x11 =>
        br x11
          (br (decide ((↑(List.length x10) : Int) ≤ (↑(List.length x2.fst) : Int)))
            (gd (0 ≤ (↑(List.length x10) : Int) ∧ (↑(List.length x10) : Int) ≤ (↑(List.length x2.fst) : Int)) (
            bd (d_laws_sameReqs x10 (List.take ((↑(List.length x10) : Int).toNat - 0) (List.drop 0 x2.fst))) fun x12 =>
            br x12
              (br (decide (Int.tmod x7 (w64 ((↑(List.length x3) : Int) + 1)) < (↑(List.length x3) : Int)))
                (jn (d_laws_FnLog_j1) true)
                (jn (d_laws_FnLog_j1) ((↑(List.length x10) : Int) == (↑(List.length x2.fst) : Int))))
              (jn (d_laws_FnLog_j1) false)))
            (jn (d_laws_FnLog_j1) false))
          (jn (d_laws_FnLog_j1) false))))))
noncomputable def gf_laws_FnLog : GF := y_laws_FnLog.gf rfl rfl (fun a => d_laws_FnLog a.1) (fun a => by kernel_rfl)
end Lv
