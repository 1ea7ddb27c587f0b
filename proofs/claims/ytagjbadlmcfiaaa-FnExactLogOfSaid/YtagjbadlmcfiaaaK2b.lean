/-
  Printed: functions of the program as texts of the typed machine, as plain functions, and that the one is the other.
-/
import Derived.Test.YtagjbadlmcfiaaaK2a
import Derived.KernelRfl
set_option linter.unusedVariables false
set_option linter.unusedSimpArgs false
set_option linter.unusedVariables false
set_option maxRecDepth 100000
namespace Lv
open Go (IntKind BinOp UnOp)
open Y (YF)

noncomputable def y_spec_FrameAt : Y.YF where
  R := []
  ps := [.v .s, .v .i]
  fs := []
  rk := .ret [(.st 15), .b]
  rs := [.cell 4 (some 3), .tmp 5]
  body := .seq (.region [(none, .alloc 4 [.int .i64 0, .str [], .int .i64 0]),
 (none, .as 5 (.k (.bool false)))] [0, 1, 4]) (.seq (.seq (.region [(none, .mv 14 (.tmp 1)),
 (none, .mv 15 (.tmp 0)),
 (none, .lens 16 (.tmp 15)),
 (none, .call 17 gf_spec_l1In [] rfl [(.tmp 14), (.k (.int .i64 0)), (.tmp 16)]),
 (none, .un 18 .not (.tmp 17))] [0, 1, 4, 18]) (.cond 18 [4] [0, 1, 4] (.seq (.region [(none, .build 19 [.int .i64 0, .str [], .int .i64 0] []),
 (none, .st 3 (.tmp 4) (.tmp 19)),
 (none, .as 5 (.k (.bool false)))] [4, 5]) (.ret)) (.skip))) (.seq (.region [(none, .mv 20 (.tmp 0)),
 (none, .mv 21 (.tmp 1)),
 (none, .mv 22 (.tmp 0)),
 (none, .lens 23 (.tmp 22)),
 (none, .mv 24 (.tmp 1)),
 (none, .bin 25 .num .add (.tmp 24) (.k (.int .i64 80))),
 (none, .call 26 gf_spec_l1Min [] rfl [(.tmp 23), (.tmp 25)]),
 (none, .subs 27 (.tmp 20) (some (.tmp 21)) (some (.tmp 26))),
 (none, .cvSB 28 (.tmp 27)),
 (none, .as 6 (.tmp 28))] [1, 4, 6]) (.seq (.region [(none, .mv 30 (.tmp 6)),
 (none, .call 31 gf_spec_GetNum [] rfl [(.tmp 30), (.k (.int .i64 0))]),
 (none, .mv 29 (.tmp 31)),
 (none, .ext 32 (.tmp 29) 0),
 (none, .ext 33 (.tmp 29) 1),
 (none, .ext 34 (.tmp 29) 2),
 (none, .as 7 (.tmp 32)),
 (none, .as 8 (.tmp 33)),
 (none, .as 9 (.tmp 34))] [1, 4, 6, 7, 8, 9]) (.seq (.join [(false, 48, .one, [.val .b none])] (.region [(none, .mv 35 (.tmp 9)),
 (none, .un 36 .not (.tmp 35)),
 (none, .mv 37 (.tmp 36)),
 ((some (37, false)), .mv 38 (.tmp 7)),
 ((some (37, false)), .mv 39 (.tmp 6)),
 ((some (37, false)), .len 40 (.tmp 39)),
 ((some (37, false)), .mv 41 (.tmp 8)),
 ((some (37, false)), .bin 42 .num .sub (.tmp 40) (.tmp 41)),
 ((some (37, false)), .bin 43 .num .gtr (.tmp 38) (.tmp 42)),
 (none, .pick 44 (.tmp 37) (.k (.bool true)) (.tmp 43)),
 (none, .mv 45 (.tmp 44)),
 ((some (45, false)), .mv 46 (.tmp 7)),
 ((some (45, false)), .bin 47 .num .lss (.tmp 46) (.k (.int .i64 5))),
 (none, .pick 48 (.tmp 45) (.k (.bool true)) (.tmp 47))] [1, 4, 6, 7, 8, 48]) (.cond 48 [4] [1, 4, 6, 7, 8] (.seq (.region [(none, .build 49 [.int .i64 0, .str [], .int .i64 0] []),
 (none, .st 3 (.tmp 4) (.tmp 49)),
 (none, .as 5 (.k (.bool false)))] [4, 5]) (.ret)) (.skip))) (.seq (.region [(none, .mv 51 (.tmp 6)),
 (none, .mv 52 (.tmp 8)),
 (none, .bin 53 .num .add (.tmp 52) (.k (.int .i64 4))),
 (none, .call 54 gf_spec_GetNum [] rfl [(.tmp 51), (.tmp 53)]),
 (none, .mv 50 (.tmp 54)),
 (none, .ext 55 (.tmp 50) 0),
 (none, .ext 56 (.tmp 50) 1),
 (none, .ext 57 (.tmp 50) 2),
 (none, .as 10 (.tmp 55)),
 (none, .as 11 (.tmp 56)),
 (none, .as 12 (.tmp 57))] [1, 4, 6, 7, 8, 10, 11, 12]) (.seq (.join [(false, 66, .one, [.val .b none])] (.region [(none, .mv 58 (.tmp 12)),
 (none, .un 59 .not (.tmp 58)),
 (none, .mv 60 (.tmp 59)),
 ((some (60, false)), .mv 61 (.tmp 11)),
 ((some (60, false)), .mv 62 (.tmp 8)),
 ((some (60, false)), .mv 63 (.tmp 7)),
 ((some (60, false)), .bin 64 .num .add (.tmp 62) (.tmp 63)),
 ((some (60, false)), .bin 65 .num .gtr (.tmp 61) (.tmp 64)),
 (none, .pick 66 (.tmp 60) (.k (.bool true)) (.tmp 65))] [1, 4, 6, 7, 8, 10, 11, 66]) (.cond 66 [4] [1, 4, 6, 7, 8, 10, 11] (.seq (.region [(none, .build 67 [.int .i64 0, .str [], .int .i64 0] []),
 (none, .st 3 (.tmp 4) (.tmp 67)),
 (none, .as 5 (.k (.bool false)))] [4, 5]) (.ret)) (.skip))) (.seq (.region [(none, .mv 68 (.tmp 6)),
 (none, .mv 69 (.tmp 11)),
 (none, .mv 70 (.tmp 8)),
 (none, .mv 71 (.tmp 7)),
 (none, .bin 72 .num .add (.tmp 70) (.tmp 71)),
 (none, .sub 73 .u (.tmp 68) (some (.tmp 69)) (some (.tmp 72))),
 (none, .cvBS 74 (.tmp 73)),
 (none, .as 13 (.tmp 74))] [1, 4, 6, 7, 8, 10, 13]) (.seq (.join [(false, 88, .one, [.val .b none])] (.dreg (.op 0 none [] (.mv 75 (.tmp 10))
 (.op 1 none [] (.mv 76 (.tmp 13))
 (.op 3 none [] (.mv 78 (.tmp 6))
 (.op 4 none [] (.mv 79 (.tmp 8))
 (.op 5 none [] (.mv 80 (.tmp 7))
 (.op 6 none [] (.bin 81 .num .add (.tmp 79) (.tmp 80))
 (.op 7 none [] (.sub 82 .u (.tmp 78) none (some (.tmp 81)))
 (.op 8 none [] (.cvBS 83 (.tmp 82))
 (.op 2 none [82] (.call 77 gf_spec_FrameOf [] rfl [(.tmp 75), (.tmp 76)])
 (.op 9 none [] (.bin 84 .num .neq (.tmp 77) (.tmp 83))
 (.op 10 none [] (.mv 85 (.tmp 84))
 (.op 11 (some (85, false)) [] (.mv 86 (.tmp 13))
 (.op 12 (some (85, false)) [] (.bin 87 .num .eql (.tmp 86) (.k (.str [])))
 (.op 13 none [] (.pick 88 (.tmp 85) (.k (.bool true)) (.tmp 87))
 .nil)))))))))))))) [1, 4, 7, 8, 10, 13, 88]) (.cond 88 [4] [1, 4, 7, 8, 10, 13] (.seq (.region [(none, .build 89 [.int .i64 0, .str [], .int .i64 0] []),
 (none, .st 3 (.tmp 4) (.tmp 89)),
 (none, .as 5 (.k (.bool false)))] [4, 5]) (.ret)) (.skip))) (.seq (.region [(none, .mv 90 (.tmp 10)),
 (none, .mv 91 (.tmp 13)),
 (none, .mv 92 (.tmp 1)),
 (none, .mv 93 (.tmp 8)),
 (none, .bin 94 .num .add (.tmp 92) (.tmp 93)),
 (none, .mv 95 (.tmp 7)),
 (none, .bin 96 .num .add (.tmp 94) (.tmp 95)),
 (none, .build 97 [.int .i64 0, .str [], .int .i64 0] [(0, 1, (.tmp 90)), (1, 1, (.tmp 91)), (2, 1, (.tmp 96))]),
 (none, .st 3 (.tmp 4) (.tmp 97)),
 (none, .as 5 (.k (.bool true)))] [4, 5]) (.ret))))))))))
noncomputable def d_spec_FrameAt_j3 (p0 : (List UInt8)) (p1 : Int) (x2 : Int) (x3 : (Int × Int × Bool)) (x5 : (Int × Int × Bool)) (v8 : Bool) : Option (GFrame × Bool) :=
  br v8
    (some (GFrame.mk 0 [] 0, false))
    (some ((GFrame.mk x5.fst (List.take ((w64 (x3.snd.fst + x3.fst)).toNat - Int.toNat x5.snd.fst) (List.drop (Int.toNat x5.snd.fst) (List.take (Int.toNat x2 - p1.toNat) (List.drop p1.toNat p0)))) (w64 (w64 (p1 + x3.snd.fst) + x3.fst)), true)))
noncomputable def d_spec_FrameAt_j2 (p0 : (List UInt8)) (p1 : Int) (x2 : Int) (x3 : (Int × Int × Bool)) (x5 : (Int × Int × Bool)) (v6 : Bool) : Option (GFrame × Bool) :=
  br v6
    (some (GFrame.mk 0 [] 0, false))
    (gd (0 ≤ x5.snd.fst ∧ x5.snd.fst ≤ w64 (x3.snd.fst + x3.fst) ∧ w64 (x3.snd.fst + x3.fst) ≤ (↑(List.take (Int.toNat x2 - p1.toNat) (List.drop p1.toNat p0)).length : Int)) (
    gd (0 ≤ w64 (x3.snd.fst + x3.fst) ∧ w64 (x3.snd.fst + x3.fst) ≤ (↑(List.take (Int.toNat x2 - p1.toNat) (List.drop p1.toNat p0)).length : Int)) (
    bd (d_spec_FrameOf x5.fst (List.take ((w64 (x3.snd.fst + x3.fst)).toNat - Int.toNat x5.snd.fst) (List.drop (Int.toNat x5.snd.fst) (List.take (Int.toNat x2 - p1.toNat) (List.drop p1.toNat p0))))) fun x7 =>
    br (x7 != List.take ((w64 (x3.snd.fst + x3.fst)).toNat - 0) (List.drop 0 (List.take (Int.toNat x2 - p1.toNat) (List.drop p1.toNat p0))))
      (jn (d_spec_FrameAt_j3 p0 p1 x2 x3 x5) true)
      (jn (d_spec_FrameAt_j3 p0 p1 x2 x3 x5) (List.take ((w64 (x3.snd.fst + x3.fst)).toNat - Int.toNat x5.snd.fst) (List.drop (Int.toNat x5.snd.fst) (List.take (Int.toNat x2 - p1.toNat) (List.drop p1.toNat p0))) == [])))))
noncomputable def d_spec_FrameAt_j1 (p0 : (List UInt8)) (p1 : Int) (x2 : Int) (x3 : (Int × Int × Bool)) (v4 : Bool) : Option (GFrame × Bool) :=
  br v4
    (some (GFrame.mk 0 [] 0, false))
    (bd (d_spec_GetNum (List.take (Int.toNat x2 - p1.toNat) (List.drop p1.toNat p0)) (w64 (x3.snd.fst + 4))) fun x5 =>
    br (!x5.snd.snd)
      (jn (d_spec_FrameAt_j2 p0 p1 x2 x3 x5) true)
      (jn (d_spec_FrameAt_j2 p0 p1 x2 x3 x5) (decide (x5.snd.fst > w64 (x3.snd.fst + x3.fst)))))
noncomputable def d_spec_FrameAt (p0 : (List UInt8)) (p1 : Int) : Option (GFrame × Bool) :=
  bd (d_spec_l1In p1 0 (↑p0.length : Int)) fun x1 =>
  br (!x1)
    (some (GFrame.mk 0 [] 0, false))
    (bd (d_spec_l1Min (↑p0.length : Int) (w64 (p1 + 80))) fun x2 =>
    gd (0 ≤ p1 ∧ p1 ≤ x2 ∧ x2 ≤ (↑p0.length : Int)) (
    bd (d_spec_GetNum (List.take (Int.toNat x2 - p1.toNat) (List.drop p1.toNat p0)) 0) fun x3 =>
    br (!x3.snd.snd)
      (jn (d_spec_FrameAt_j1 p0 p1 x2 x3) true)
      (br (decide (x3.fst > w64 ((↑(List.take (Int.toNat x2 - p1.toNat) (List.drop p1.toNat p0)).length : Int) - x3.snd.fst)))
        (jn (d_spec_FrameAt_j1 p0 p1 x2 x3) true)
        (jn (d_spec_FrameAt_j1 p0 p1 x2 x3) (decide (x3.fst < 5))))))
noncomputable def gf_spec_FrameAt : GF := y_spec_FrameAt.gf rfl rfl (fun a => d_spec_FrameAt a.1 a.2.1) (fun a => by kernel_rfl)

noncomputable def y_spec_Frames : Y.YF where
  R := []
  ps := [.v .s]
  fs := []
  rk := .ret [(.l (.st 15))]
  rs := [.tmp 2]
  body := .seq (.region [(none, .as 2 (.k .nil)),
 (none, .nils [(.tmp 2 0, (.st 15))])] [0]) (.seq (.region [(none, .bslice 7 0 (.st 15) []),
 (none, .as 3 (.tmp 7))] [0, 3]) (.seq (.region [(none, .as 4 (.k (.int .i64 0)))] [0, 3, 4]) (.block 0 (.loop [(false, 3, .one, [.val (.l (.st 15)) none]), (false, 4, .one, [.val .i none])] (.block 1 (.seq (.region [(none, .mv 9 (.tmp 0)),
 (none, .mv 10 (.tmp 4)),
 (none, .call 11 gf_spec_FrameAt [] rfl [(.tmp 9), (.tmp 10)]),
 (none, .mv 8 (.tmp 11)),
 (none, .ext 12 (.tmp 8) 0),
 (none, .ext 13 (.tmp 8) 1),
 (none, .alloc 5 [.int .i64 0, .str [], .int .i64 0]),
 (none, .st 3 (.tmp 5) (.tmp 12)),
 (none, .as 6 (.tmp 13))] [0, 3, 5, 6]) (.seq (.seq (.region [(none, .mv 14 (.tmp 6)),
 (none, .un 15 .not (.tmp 14))] [0, 3, 5, 15]) (.cond 15 [3] [0, 3, 5] (.seq (.region [(none, .mv 16 (.tmp 3)),
 (none, .as 2 (.tmp 16))] [2]) (.ret)) (.skip))) (.seq (.region [(none, .mv 17 (.tmp 3)),
 (none, .ld 18 (some 3) (.tmp 5)),
 (none, .bslice 19 1 (.st 15) [(0, (.tmp 18))]),
 (none, .app 20 (.st 15) true (.tmp 17) (.tmp 19)),
 (none, .as 3 (.tmp 20))] [0, 3, 5]) (.region [(none, .fa 21 2 (.tmp 5)),
 (none, .ld 22 none (.tmp 21)),
 (none, .as 4 (.tmp 22))] [0, 3, 4])))))))))
noncomputable def d_spec_Frames_l1 (p0 : (List UInt8)) (L1 : ((List GFrame) × Int) → Option (List GFrame)) (x_ : ((List GFrame) × Int)) : Option (List GFrame) :=
  match x_ with
  | (v2, v3) => bd (d_spec_FrameAt p0 v3) fun x4 =>
  br (!x4.snd)
    (some v2)
    (gd (List.length v2 + [x4.fst].length ≤ lim) (
    L1 (v2 ++ [x4.fst], x4.fst.Next)))
noncomputable def d_spec_Frames (p0 : (List UInt8)) : Option (List GFrame) :=
  loopN (d_spec_Frames_l1 p0) big ([], 0)
noncomputable def gf_spec_Frames : GF := y_spec_Frames.gf rfl rfl (fun a => d_spec_Frames a.1) (fun a => by kernel_rfl)

noncomputable def y_spec_LogUpTo : Y.YF where
  R := []
  ps := [.v (.st 10), .v .i]
  fs := []
  rk := .ret [.i]
  rs := [.tmp 4]
  body := .seq (.region [(none, .box 2 (.tmp 0)),
 (none, .as 4 (.k (.int .i64 0)))] [1, 2]) (.seq (.region [(none, .fa 8 0 (.tmp 2)),
 (none, .fa 9 0 (.tmp 8)),
 (none, .ld 10 none (.tmp 9)),
 (none, .call 11 gf_spec_Frames [] rfl [(.tmp 10)]),
 (none, .as 5 (.tmp 11))] [1, 5]) (.seq (.region [(none, .as 6 (.k (.int .i64 0)))] [1, 5, 6]) (.join [(false, 6, .one, [.val .i none])] (.seq (.region [(none, .as 7 (.k (.int .i64 0)))] [1, 5, 6, 7]) (.block 0 (.loop [(false, 6, .one, [.val .i none]), (false, 7, .one, [.val .i none])] (.seq (.join [(false, 24, .one, [.val .b none])] (.region [(none, .mv 12 (.tmp 7)),
 (none, .mv 13 (.tmp 5)),
 (none, .len 14 (.tmp 13)),
 (none, .bin 15 .num .lss (.tmp 12) (.tmp 14)),
 (none, .mv 16 (.tmp 15)),
 ((some (16, true)), .mv 17 (.tmp 5)),
 ((some (16, true)), .mv 18 (.tmp 7)),
 ((some (16, true)), .ia 19 (.st 15) (.tmp 17) (.tmp 18)),
 ((some (16, true)), .fa 20 0 (.tmp 19)),
 ((some (16, true)), .ld 21 none (.tmp 20)),
 ((some (16, true)), .mv 22 (.tmp 1)),
 ((some (16, true)), .bin 23 .num .leq (.tmp 21) (.tmp 22)),
 (none, .pick 24 (.tmp 16) (.tmp 23) (.k (.bool false)))] [1, 5, 6, 7, 24]) (.cond 24 [1, 5, 7] [6] (.skip) (.exit 0))) (.seq (.block 1 (.region [(none, .mv 27 (.tmp 5)),
 (none, .mv 28 (.tmp 7)),
 (none, .ia 29 (.st 15) (.tmp 27) (.tmp 28)),
 (none, .fa 30 2 (.tmp 29)),
 (none, .ld 31 none (.tmp 30)),
 (none, .as 6 (.tmp 31))] [1, 5, 6, 7])) (.region [(none, .mv 25 (.tmp 7)),
 (none, .bin 26 .num .add (.tmp 25) (.k (.int .i64 1))),
 (none, .as 7 (.tmp 26))] [1, 5, 6, 7])))))) (.seq (.region [(none, .mv 32 (.tmp 6)),
 (none, .as 4 (.tmp 32))] [4]) (.ret)))))
noncomputable def d_spec_LogUpTo_j3 (v10 : Int) : Option Int :=
  some v10
noncomputable def d_spec_LogUpTo_j2 (x1 : (List GFrame)) (L2 : (Int × Int) → Option Int) (v3 : Int) (v4 : Int) (v7 : Bool) : Option Int :=
  br v7
    (bd (at? x1 v4) fun x8 =>
    bd (at? x1 v4) fun x9 =>
    L2 ((x9.Next, w64 (v4 + 1))))
    (jn (d_spec_LogUpTo_j3) v3)
noncomputable def d_spec_LogUpTo_l1 (p1 : Int) (x1 : (List GFrame)) (L2 : (Int × Int) → Option Int) (x_ : (Int × Int)) : Option Int :=
  match x_ with
  | (v3, v4) => br (decide (v4 < (↑(List.length x1) : Int)))
    (bd (at? x1 v4) fun x5 =>
    bd (at? x1 v4) fun x6 =>
    jn (d_spec_LogUpTo_j2 x1 L2 v3 v4) (decide (x6.Seq ≤ p1)))
    (jn (d_spec_LogUpTo_j2 x1 L2 v3 v4) false)
noncomputable def d_spec_LogUpTo (p0 : GStore) (p1 : Int) : Option Int :=
  bd (d_spec_Frames p0.Log.Data) fun x1 =>
  loopN (d_spec_LogUpTo_l1 p1 x1) big (0, 0)
noncomputable def gf_spec_LogUpTo : GF := y_spec_LogUpTo.gf rfl rfl (fun a => d_spec_LogUpTo a.1 a.2.1) (fun a => by kernel_rfl)

noncomputable def y_impl_isIndex : Y.YF where
  R := []
  ps := [.v .i, .v .i]
  fs := []
  rk := .ret [.b]
  rs := [.tmp 4]
  body := .seq (.region [(none, .as 4 (.k (.bool false)))] [0, 1]) (.seq (.region [(none, .mv 5 (.tmp 0)),
 (none, .mv 6 (.tmp 1)),
 (none, .bin 7 .num .sub (.tmp 6) (.k (.int .i64 1))),
 (none, .call 8 gf_impl_within [] rfl [(.tmp 5), (.k (.int .i64 0)), (.tmp 7)]),
 (none, .as 4 (.tmp 8))] [4]) (.ret))
noncomputable def d_impl_isIndex (p0 : Int) (p1 : Int) : Option Bool :=
  bd (d_impl_within p0 0 (w64 (p1 - 1))) fun x1 =>
  some x1
noncomputable def gf_impl_isIndex : GF := y_impl_isIndex.gf rfl rfl (fun a => d_impl_isIndex a.1 a.2.1) (fun a => by kernel_rfl)

noncomputable def y_impl_Crc : Y.YF where
  R := []
  ps := [.v (.l .u)]
  fs := []
  rk := .ret [.i]
  rs := [.tmp 2]
  body := .seq (.region [(none, .as 2 (.k (.int .i64 0)))] [0]) (.seq (.region [(none, .as 3 (.k (.int .i64 4294967295)))] [0, 3]) (.join [(false, 3, .one, [.val .i none])] (.seq (.region [(none, .mv 8 (.tmp 0)),
 (none, .len 9 (.tmp 8)),
 (none, .mv 10 (.k (.int .i64 0)))] [3, 8, 9, 10]) (.block 0 (.loop [(false, 3, .one, [.val .i none]), (false, 10, .one, [.val .i none])] (.seq (.region [(none, .bin 11 .num .lss (.tmp 10) (.tmp 9))] [3, 8, 9, 10, 11]) (.seq (.cond 11 [3, 8, 9, 10] [3] (.skip) (.exit 0)) (.join [(false, 3, .one, [.val .i none])] (.block 1 (.seq (.region [(none, .ia 12 .u (.tmp 8) (.tmp 10)),
 (none, .ld 13 none (.tmp 12)),
 (none, .as 5 (.tmp 13))] [3, 5, 8, 9, 10]) (.seq (.region [(none, .mv 14 (.tmp 3)),
 (none, .mv 15 (.tmp 5)),
 (none, .cvI 16 .i64 (.tmp 15)),
 (none, .bin 17 .num .xor (.tmp 14) (.tmp 16)),
 (none, .as 3 (.tmp 17))] [3, 8, 9, 10]) (.seq (.region [(none, .as 6 (.k (.int .i64 0)))] [3, 6, 8, 9, 10]) (.block 2 (.loop [(false, 3, .one, [.val .i none]), (false, 6, .one, [.val .i none])] (.seq (.seq (.region [(none, .mv 18 (.tmp 6)),
 (none, .bin 19 .num .lss (.tmp 18) (.k (.int .i64 8)))] [3, 6, 8, 9, 10, 19]) (.cond 19 [3, 6, 8, 9, 10] [3, 8, 9, 10] (.skip) (.exit 2))) (.join [(false, 3, .one, [.val .i none])] (.block 3 (.seq (.region [(none, .mv 22 (.tmp 3)),
 (none, .bin 23 .num .and (.tmp 22) (.k (.int .i64 1))),
 (none, .as 7 (.tmp 23))] [3, 6, 7, 8, 9, 10]) (.seq (.region [(none, .mv 24 (.tmp 3)),
 (none, .bin 25 .num .shr (.tmp 24) (.k (.int .u64 1))),
 (none, .as 3 (.tmp 25))] [3, 6, 7, 8, 9, 10]) (.seq (.region [(none, .mv 26 (.tmp 7)),
 (none, .bin 27 .num .eql (.tmp 26) (.k (.int .i64 1)))] [3, 6, 8, 9, 10, 27]) (.cond 27 [3, 6, 8, 9, 10] [3, 6, 8, 9, 10] (.region [(none, .mv 28 (.tmp 3)),
 (none, .bin 29 .num .xor (.tmp 28) (.k (.int .i64 3988292384))),
 (none, .as 3 (.tmp 29))] [3, 6, 8, 9, 10]) (.skip)))))) (.region [(none, .mv 20 (.tmp 6)),
 (none, .bin 21 .num .add (.tmp 20) (.k (.int .i64 1))),
 (none, .as 6 (.tmp 21))] [3, 6, 8, 9, 10]))))))))) (.region [(none, .bin 30 .num .add (.tmp 10) (.k (.int .i64 1))),
 (none, .mv 10 (.tmp 30))] [3, 8, 9, 10]))))))) (.seq (.region [(none, .mv 31 (.tmp 3)),
 (none, .bin 32 .num .xor (.tmp 31) (.k (.int .i64 4294967295))),
 (none, .as 2 (.tmp 32))] [2]) (.ret))))
noncomputable def d_impl_Crc_j3 (L5 : (Int × Int) → Option Int) (v7 : Int) (v8 : Int) : Option Int :=
  L5 ((v8, w64 (v7 + 1)))
noncomputable def d_impl_Crc_j4 (L1 : (Int × Int) → Option Int) (v3 : Int) (v9 : Int) : Option Int :=
  L1 ((v9, w64 (v3 + 1)))
noncomputable def d_impl_Crc_l2 (L1 : (Int × Int) → Option Int) (v3 : Int) (L5 : (Int × Int) → Option Int) (x_ : (Int × Int)) : Option Int :=
  match x_ with
  | (v6, v7) => br (decide (v7 < 8))
    (br (andI v6 1 == 1)
      (jn (d_impl_Crc_j3 L5 v7) (xorI (shrI v6 1) 3988292384))
      (jn (d_impl_Crc_j3 L5 v7) (shrI v6 1)))
    (jn (d_impl_Crc_j4 L1 v3) v6)
noncomputable def d_impl_Crc_j5 (v10 : Int) : Option Int :=
  some (xorI v10 4294967295)
noncomputable def d_impl_Crc_l1 (p0 : (List UInt8)) (L1 : (Int × Int) → Option Int) (x_ : (Int × Int)) : Option Int :=
  match x_ with
  | (v2, v3) => br (decide (v3 < (↑p0.length : Int)))
    (bd (at? p0 v3) fun x4 =>
    loopN (d_impl_Crc_l2 L1 v3) big ((xorI v2 (w64 (↑(UInt8.toNat x4) : Int)), 0)))
    (jn (d_impl_Crc_j5) v2)
noncomputable def d_impl_Crc (p0 : (List UInt8)) : Option Int :=
  loopN (d_impl_Crc_l1 p0) big (4294967295, 0)
noncomputable def gf_impl_Crc : GF := y_impl_Crc.gf rfl rfl (fun a => d_impl_Crc a.1) (fun a => by kernel_rfl)

noncomputable def y_impl_FrameOf : Y.YF where
  R := []
  ps := [.v .i, .v .s]
  fs := []
  rk := .ret [.s]
  rs := [.tmp 4]
  body := .seq (.region [(none, .as 4 (.k (.str [])))] [0, 1]) (.seq (.join [(false, 16, .one, [.val .b none])] (.region [(none, .mv 8 (.tmp 0)),
 (none, .call 9 gf_impl_within [] rfl [(.tmp 8), (.k (.int .i64 1)), (.k (.int .i64 1000000))]),
 (none, .un 10 .not (.tmp 9)),
 (none, .mv 11 (.tmp 10)),
 ((some (11, false)), .mv 12 (.tmp 1)),
 ((some (11, false)), .lens 13 (.tmp 12)),
 ((some (11, false)), .call 14 gf_impl_within [] rfl [(.tmp 13), (.k (.int .i64 1)), (.k (.int .i64 60))]),
 ((some (11, false)), .un 15 .not (.tmp 14)),
 (none, .pick 16 (.tmp 11) (.k (.bool true)) (.tmp 15))] [0, 1, 16]) (.cond 16 [] [0, 1] (.seq (.region [(none, .as 4 (.k (.str [])))] [4]) (.ret)) (.skip))) (.seq (.region [(none, .mv 17 (.tmp 0)),
 (none, .call 18 gf_impl_PutNum [] rfl [(.tmp 17)]),
 (none, .mv 19 (.tmp 1)),
 (none, .app 20 .u true (.tmp 18) (.tmp 19)),
 (none, .as 5 (.tmp 20))] [5]) (.seq (.region [(none, .mv 21 (.tmp 5)),
 (none, .call 22 gf_impl_Crc [] rfl [(.tmp 21)]),
 (none, .as 6 (.tmp 22))] [5, 6]) (.seq (.region [(none, .mv 23 (.tmp 6)),
 (none, .bin 24 .num .shr (.tmp 23) (.k (.int .u64 24))),
 (none, .cvI 25 .u8 (.tmp 24)),
 (none, .mv 26 (.tmp 6)),
 (none, .bin 27 .num .shr (.tmp 26) (.k (.int .u64 16))),
 (none, .cvI 28 .u8 (.tmp 27)),
 (none, .mv 29 (.tmp 6)),
 (none, .bin 30 .num .shr (.tmp 29) (.k (.int .u64 8))),
 (none, .cvI 31 .u8 (.tmp 30)),
 (none, .mv 32 (.tmp 6)),
 (none, .cvI 33 .u8 (.tmp 32)),
 (none, .bslice 34 4 .u [(0, (.tmp 25)), (1, (.tmp 28)), (2, (.tmp 31)), (3, (.tmp 33))]),
 (none, .mv 35 (.tmp 5)),
 (none, .app 36 .u true (.tmp 34) (.tmp 35)),
 (none, .as 7 (.tmp 36))] [7]) (.seq (.dreg (.op 0 none [] (.mv 37 (.tmp 7))
 (.op 1 none [] (.len 38 (.tmp 37))
 (.op 4 none [] (.mv 41 (.tmp 7))
 (.op 5 none [] (.cvBS 42 (.tmp 41))
 (.op 2 none [41] (.call 39 gf_impl_PutNum [] rfl [(.tmp 38)])
 (.op 3 none [] (.cvBS 40 (.tmp 39))
 (.op 6 none [] (.bin 43 .num .add (.tmp 40) (.tmp 42))
 (.op 7 none [] (.as 4 (.tmp 43))
 .nil)))))))) [4]) (.ret))))))
noncomputable def d_impl_FrameOf_j1 (p0 : Int) (p1 : (List UInt8)) (v2 : Bool) : Option (List UInt8) :=
  br v2
    (some [])
    (bd (d_impl_PutNum p0) fun x3 =>
    gd (List.length x3 + p1.length ≤ lim) (
    bd (d_impl_Crc (x3 ++ p1)) fun x4 =>
    gd ([toB (shrI x4 24), toB (shrI x4 16), toB (shrI x4 8), toB x4].length + (x3 ++ p1).length ≤ lim) (
    bd (d_impl_PutNum ((↑([toB (shrI x4 24), toB (shrI x4 16), toB (shrI x4 8), toB x4] ++ (x3 ++ p1)).length : Int))) fun x5 =>
    gd (List.length x5 + ([toB (shrI x4 24), toB (shrI x4 16), toB (shrI x4 8), toB x4] ++ (x3 ++ p1)).length ≤ slim) (
    some (x5 ++ ([toB (shrI x4 24), toB (shrI x4 16), toB (shrI x4 8), toB x4] ++ (x3 ++ p1)))))))
noncomputable def d_impl_FrameOf (p0 : Int) (p1 : (List UInt8)) : Option (List UInt8) :=
  bd (d_impl_within p0 1 1000000) fun x1 =>
  br (!x1)
    (jn (d_impl_FrameOf_j1 p0 p1) true)
    (bd (d_impl_within (↑p1.length : Int) 1 60) fun x6 =>
    jn (d_impl_FrameOf_j1 p0 p1) (!x6))
noncomputable def gf_impl_FrameOf : GF := y_impl_FrameOf.gf rfl rfl (fun a => d_impl_FrameOf a.1 a.2.1) (fun a => by kernel_rfl)

noncomputable def y_impl_FrameAt : Y.YF where
  R := []
  ps := [.v .s, .v .i]
  fs := []
  rk := .ret [(.st 15), .b]
  rs := [.cell 4 (some 3), .tmp 5]
  body := .seq (.region [(none, .alloc 4 [.int .i64 0, .str [], .int .i64 0]),
 (none, .as 5 (.k (.bool false)))] [0, 1, 4]) (.seq (.seq (.region [(none, .mv 15 (.tmp 1)),
 (none, .mv 16 (.tmp 0)),
 (none, .lens 17 (.tmp 16)),
 (none, .call 18 gf_impl_isIndex [] rfl [(.tmp 15), (.tmp 17)]),
 (none, .un 19 .not (.tmp 18))] [0, 1, 4, 19]) (.cond 19 [4] [0, 1, 4] (.seq (.region [(none, .build 20 [.int .i64 0, .str [], .int .i64 0] []),
 (none, .st 3 (.tmp 4) (.tmp 20)),
 (none, .as 5 (.k (.bool false)))] [4, 5]) (.ret)) (.skip))) (.seq (.region [(none, .mv 21 (.tmp 0)),
 (none, .mv 22 (.tmp 1)),
 (none, .mv 23 (.tmp 0)),
 (none, .lens 24 (.tmp 23)),
 (none, .mv 25 (.tmp 1)),
 (none, .bin 26 .num .add (.tmp 25) (.k (.int .i64 5))),
 (none, .mm 27 false (.tmp 24) (.tmp 26)),
 (none, .subs 28 (.tmp 21) (some (.tmp 22)) (some (.tmp 27))),
 (none, .cvSB 29 (.tmp 28)),
 (none, .as 6 (.tmp 29))] [0, 1, 4, 6]) (.seq (.region [(none, .mv 31 (.tmp 6)),
 (none, .call 32 gf_impl_GetNum [] rfl [(.tmp 31), (.k (.int .i64 0))]),
 (none, .mv 30 (.tmp 32)),
 (none, .ext 33 (.tmp 30) 0),
 (none, .ext 34 (.tmp 30) 1),
 (none, .ext 35 (.tmp 30) 2),
 (none, .as 7 (.tmp 33)),
 (none, .as 8 (.tmp 34)),
 (none, .as 9 (.tmp 35))] [0, 1, 4, 7, 8, 9]) (.seq (.join [(false, 51, .one, [.val .b none])] (.region [(none, .mv 36 (.tmp 9)),
 (none, .un 37 .not (.tmp 36)),
 (none, .mv 38 (.tmp 37)),
 ((some (38, false)), .mv 39 (.tmp 7)),
 ((some (38, false)), .bin 40 .num .lss (.tmp 39) (.k (.int .i64 6))),
 (none, .pick 41 (.tmp 38) (.k (.bool true)) (.tmp 40)),
 (none, .mv 42 (.tmp 41)),
 ((some (42, false)), .mv 43 (.tmp 7)),
 ((some (42, false)), .mv 44 (.tmp 0)),
 ((some (42, false)), .lens 45 (.tmp 44)),
 ((some (42, false)), .mv 46 (.tmp 1)),
 ((some (42, false)), .bin 47 .num .sub (.tmp 45) (.tmp 46)),
 ((some (42, false)), .mv 48 (.tmp 8)),
 ((some (42, false)), .bin 49 .num .sub (.tmp 47) (.tmp 48)),
 ((some (42, false)), .bin 50 .num .gtr (.tmp 43) (.tmp 49)),
 (none, .pick 51 (.tmp 42) (.k (.bool true)) (.tmp 50))] [0, 1, 4, 7, 8, 51]) (.cond 51 [4] [0, 1, 4, 7, 8] (.seq (.region [(none, .build 52 [.int .i64 0, .str [], .int .i64 0] []),
 (none, .st 3 (.tmp 4) (.tmp 52)),
 (none, .as 5 (.k (.bool false)))] [4, 5]) (.ret)) (.skip))) (.seq (.region [(none, .mv 53 (.tmp 0)),
 (none, .mv 54 (.tmp 1)),
 (none, .mv 55 (.tmp 8)),
 (none, .bin 56 .num .add (.tmp 54) (.tmp 55)),
 (none, .mv 57 (.tmp 1)),
 (none, .mv 58 (.tmp 8)),
 (none, .bin 59 .num .add (.tmp 57) (.tmp 58)),
 (none, .mv 60 (.tmp 7)),
 (none, .bin 61 .num .add (.tmp 59) (.tmp 60)),
 (none, .subs 62 (.tmp 53) (some (.tmp 56)) (some (.tmp 61))),
 (none, .cvSB 63 (.tmp 62)),
 (none, .as 10 (.tmp 63))] [0, 1, 4, 7, 8, 10]) (.seq (.region [(none, .mv 65 (.tmp 10)),
 (none, .call 66 gf_impl_GetNum [] rfl [(.tmp 65), (.k (.int .i64 4))]),
 (none, .mv 64 (.tmp 66)),
 (none, .ext 67 (.tmp 64) 0),
 (none, .ext 68 (.tmp 64) 1),
 (none, .ext 69 (.tmp 64) 2),
 (none, .as 11 (.tmp 67)),
 (none, .as 12 (.tmp 68)),
 (none, .as 9 (.tmp 69))] [0, 1, 4, 7, 8, 9, 10, 11, 12]) (.seq (.seq (.region [(none, .mv 70 (.tmp 9)),
 (none, .un 71 .not (.tmp 70))] [0, 1, 4, 7, 8, 10, 11, 12, 71]) (.cond 71 [4] [0, 1, 4, 7, 8, 10, 11, 12] (.seq (.region [(none, .build 72 [.int .i64 0, .str [], .int .i64 0] []),
 (none, .st 3 (.tmp 4) (.tmp 72)),
 (none, .as 5 (.k (.bool false)))] [4, 5]) (.ret)) (.skip))) (.seq (.region [(none, .mv 73 (.tmp 11)),
 (none, .mv 74 (.tmp 10)),
 (none, .mv 75 (.tmp 12)),
 (none, .sub 76 .u (.tmp 74) (some (.tmp 75)) none),
 (none, .cvBS 77 (.tmp 76)),
 (none, .mv 78 (.tmp 1)),
 (none, .mv 79 (.tmp 8)),
 (none, .bin 80 .num .add (.tmp 78) (.tmp 79)),
 (none, .mv 81 (.tmp 7)),
 (none, .bin 82 .num .add (.tmp 80) (.tmp 81)),
 (none, .build 83 [.int .i64 0, .str [], .int .i64 0] [(0, 1, (.tmp 73)), (1, 1, (.tmp 77)), (2, 1, (.tmp 82))]),
 (none, .alloc 13 [.int .i64 0, .str [], .int .i64 0]),
 (none, .st 3 (.tmp 13) (.tmp 83))] [0, 1, 4, 13]) (.seq (.region [(none, .fa 84 0 (.tmp 13)),
 (none, .ld 85 none (.tmp 84)),
 (none, .fa 86 1 (.tmp 13)),
 (none, .ld 87 none (.tmp 86)),
 (none, .call 88 gf_impl_FrameOf [] rfl [(.tmp 85), (.tmp 87)]),
 (none, .as 14 (.tmp 88))] [0, 1, 4, 13, 14]) (.seq (.join [(false, 99, .one, [.val .b none])] (.region [(none, .mv 89 (.tmp 14)),
 (none, .bin 90 .num .eql (.tmp 89) (.k (.str []))),
 (none, .mv 91 (.tmp 90)),
 ((some (91, false)), .mv 92 (.tmp 14)),
 ((some (91, false)), .mv 93 (.tmp 0)),
 ((some (91, false)), .mv 94 (.tmp 1)),
 ((some (91, false)), .fa 95 2 (.tmp 13)),
 ((some (91, false)), .ld 96 none (.tmp 95)),
 ((some (91, false)), .subs 97 (.tmp 93) (some (.tmp 94)) (some (.tmp 96))),
 ((some (91, false)), .bin 98 .num .neq (.tmp 92) (.tmp 97)),
 (none, .pick 99 (.tmp 91) (.k (.bool true)) (.tmp 98))] [4, 13, 99]) (.cond 99 [4] [4, 13] (.seq (.region [(none, .build 100 [.int .i64 0, .str [], .int .i64 0] []),
 (none, .st 3 (.tmp 4) (.tmp 100)),
 (none, .as 5 (.k (.bool false)))] [4, 5]) (.ret)) (.skip))) (.seq (.region [(none, .ld 101 (some 3) (.tmp 13)),
 (none, .st 3 (.tmp 4) (.tmp 101)),
 (none, .as 5 (.k (.bool true)))] [4, 5]) (.ret))))))))))))
noncomputable def d_impl_FrameAt_j2 (p0 : (List UInt8)) (p1 : Int) (x2 : (Int × Int × Bool)) (x4 : (Int × Int × Bool)) (v6 : Bool) : Option (GFrame × Bool) :=
  br v6
    (some (GFrame.mk 0 [] 0, false))
    (some ((GFrame.mk x4.fst (List.take ((List.take ((w64 (w64 (p1 + x2.snd.fst) + x2.fst)).toNat - (w64 (p1 + x2.snd.fst)).toNat) (List.drop (w64 (p1 + x2.snd.fst)).toNat p0)).length - Int.toNat x4.snd.fst) (List.drop (Int.toNat x4.snd.fst) (List.take ((w64 (w64 (p1 + x2.snd.fst) + x2.fst)).toNat - (w64 (p1 + x2.snd.fst)).toNat) (List.drop (w64 (p1 + x2.snd.fst)).toNat p0)))) (w64 (w64 (p1 + x2.snd.fst) + x2.fst)), true)))
noncomputable def d_impl_FrameAt_j1 (p0 : (List UInt8)) (p1 : Int) (x2 : (Int × Int × Bool)) (v3 : Bool) : Option (GFrame × Bool) :=
  br v3
    (some (GFrame.mk 0 [] 0, false))
    (gd (0 ≤ w64 (p1 + x2.snd.fst) ∧ w64 (p1 + x2.snd.fst) ≤ w64 (w64 (p1 + x2.snd.fst) + x2.fst) ∧ w64 (w64 (p1 + x2.snd.fst) + x2.fst) ≤ (↑p0.length : Int)) (
    bd (d_impl_GetNum (List.take ((w64 (w64 (p1 + x2.snd.fst) + x2.fst)).toNat - (w64 (p1 + x2.snd.fst)).toNat) (List.drop (w64 (p1 + x2.snd.fst)).toNat p0)) 4) fun x4 =>
    br (!x4.snd.snd)
      (some (GFrame.mk 0 [] 0, false))
      (gd (0 ≤ x4.snd.fst ∧ x4.snd.fst ≤ (↑(List.take ((w64 (w64 (p1 + x2.snd.fst) + x2.fst)).toNat - (w64 (p1 + x2.snd.fst)).toNat) (List.drop (w64 (p1 + x2.snd.fst)).toNat p0)).length : Int)) (
      bd (d_impl_FrameOf x4.fst (List.take ((List.take ((w64 (w64 (p1 + x2.snd.fst) + x2.fst)).toNat - (w64 (p1 + x2.snd.fst)).toNat) (List.drop (w64 (p1 + x2.snd.fst)).toNat p0)).length - Int.toNat x4.snd.fst) (List.drop (Int.toNat x4.snd.fst) (List.take ((w64 (w64 (p1 + x2.snd.fst) + x2.fst)).toNat - (w64 (p1 + x2.snd.fst)).toNat) (List.drop (w64 (p1 + x2.snd.fst)).toNat p0))))) fun x5 =>
      br (x5 == [])
        (jn (d_impl_FrameAt_j2 p0 p1 x2 x4) true)
        (gd (0 ≤ p1 ∧ p1 ≤ w64 (w64 (p1 + x2.snd.fst) + x2.fst) ∧ w64 (w64 (p1 + x2.snd.fst) + x2.fst) ≤ (↑p0.length : Int)) (
        jn (d_impl_FrameAt_j2 p0 p1 x2 x4) (x5 != List.take ((w64 (w64 (p1 + x2.snd.fst) + x2.fst)).toNat - p1.toNat) (List.drop p1.toNat p0))))))))
noncomputable def d_impl_FrameAt (p0 : (List UInt8)) (p1 : Int) : Option (GFrame × Bool) :=
  bd (d_impl_isIndex p1 (↑p0.length : Int)) fun x1 =>
  br (!x1)
    (some (GFrame.mk 0 [] 0, false))
    (gd (0 ≤ p1 ∧ (p1 ≤ if false = true then if w64 (p1 + 5) > (↑p0.length : Int) then w64 (p1 + 5) else (↑p0.length : Int) else if w64 (p1 + 5) < (↑p0.length : Int) then w64 (p1 + 5) else (↑p0.length : Int)) ∧ (if false = true then if w64 (p1 + 5) > (↑p0.length : Int) then w64 (p1 + 5) else (↑p0.length : Int) else if w64 (p1 + 5) < (↑p0.length : Int) then w64 (p1 + 5) else (↑p0.length : Int)) ≤ (↑p0.length : Int)) (
    bd (d_impl_GetNum (List.take ((if false = true then if w64 (p1 + 5) > (↑p0.length : Int) then w64 (p1 + 5) else (↑p0.length : Int) else if w64 (p1 + 5) < (↑p0.length : Int) then w64 (p1 + 5) else (↑p0.length : Int)).toNat - p1.toNat) (List.drop p1.toNat p0)) 0) fun x2 =>
    br (!x2.snd.snd)
      (jn (d_impl_FrameAt_j1 p0 p1 x2) true)
      (br (decide (x2.fst < 6))
        (jn (d_impl_FrameAt_j1 p0 p1 x2) true)
        (jn (d_impl_FrameAt_j1 p0 p1 x2) (decide (x2.fst > w64 (w64 ((↑p0.length : Int) - p1) - x2.snd.fst)))))))
noncomputable def gf_impl_FrameAt : GF := y_impl_FrameAt.gf rfl rfl (fun a => d_impl_FrameAt a.1 a.2.1) (fun a => by kernel_rfl)

noncomputable def y_impl_Frames : Y.YF where
  R := []
  ps := [.v .s]
  fs := []
  rk := .ret [(.l (.st 15))]
  rs := [.tmp 2]
  body := .seq (.region [(none, .as 2 (.k .nil)),
 (none, .nils [(.tmp 2 0, (.st 15))])] [0]) (.seq (.region [(none, .as 3 (.k .nil)),
 (none, .nils [(.tmp 3 0, (.st 15))])] [0, 3]) (.seq (.region [(none, .as 4 (.k (.int .i64 0)))] [0, 3, 4]) (.block 0 (.loop [(false, 3, .one, [.val (.l (.st 15)) none]), (false, 4, .one, [.val .i none])] (.block 1 (.seq (.region [(none, .mv 8 (.tmp 0)),
 (none, .mv 9 (.tmp 4)),
 (none, .call 10 gf_impl_FrameAt [] rfl [(.tmp 8), (.tmp 9)]),
 (none, .mv 7 (.tmp 10)),
 (none, .ext 11 (.tmp 7) 0),
 (none, .ext 12 (.tmp 7) 1),
 (none, .alloc 5 [.int .i64 0, .str [], .int .i64 0]),
 (none, .st 3 (.tmp 5) (.tmp 11)),
 (none, .as 6 (.tmp 12))] [0, 3, 5, 6]) (.seq (.seq (.region [(none, .mv 13 (.tmp 6)),
 (none, .un 14 .not (.tmp 13))] [0, 3, 5, 14]) (.cond 14 [3] [0, 3, 5] (.seq (.region [(none, .mv 15 (.tmp 3)),
 (none, .as 2 (.tmp 15))] [2]) (.ret)) (.skip))) (.seq (.region [(none, .mv 16 (.tmp 3)),
 (none, .ld 17 (some 3) (.tmp 5)),
 (none, .bslice 18 1 (.st 15) [(0, (.tmp 17))]),
 (none, .app 19 (.st 15) true (.tmp 16) (.tmp 18)),
 (none, .as 3 (.tmp 19))] [0, 3, 5]) (.region [(none, .fa 20 2 (.tmp 5)),
 (none, .ld 21 none (.tmp 20)),
 (none, .as 4 (.tmp 21))] [0, 3, 4])))))))))
noncomputable def d_impl_Frames_l1 (p0 : (List UInt8)) (L1 : ((List GFrame) × Int) → Option (List GFrame)) (x_ : ((List GFrame) × Int)) : Option (List GFrame) :=
  match x_ with
  | (v2, v3) => bd (d_impl_FrameAt p0 v3) fun x4 =>
  br (!x4.snd)
    (some v2)
    (gd (List.length v2 + [x4.fst].length ≤ lim) (
    L1 (v2 ++ [x4.fst], x4.fst.Next)))
noncomputable def d_impl_Frames (p0 : (List UInt8)) : Option (List GFrame) :=
  loopN (d_impl_Frames_l1 p0) big ([], 0)
noncomputable def gf_impl_Frames : GF := y_impl_Frames.gf rfl rfl (fun a => d_impl_Frames a.1) (fun a => by kernel_rfl)

noncomputable def y_impl_LogUpTo : Y.YF where
  R := []
  ps := [.v (.st 10), .v .i]
  fs := []
  rk := .ret [.i]
  rs := [.tmp 4]
  body := .seq (.region [(none, .box 2 (.tmp 0)),
 (none, .as 4 (.k (.int .i64 0)))] [1, 2]) (.seq (.region [(none, .as 5 (.k (.int .i64 0)))] [1, 2, 5]) (.join [(false, 5, .one, [.val .i none])] (.seq (.region [(none, .fa 8 0 (.tmp 2)),
 (none, .fa 9 0 (.tmp 8)),
 (none, .ld 10 none (.tmp 9)),
 (none, .call 11 gf_impl_Frames [] rfl [(.tmp 10)]),
 (none, .len 12 (.tmp 11)),
 (none, .mv 13 (.k (.int .i64 0)))] [1, 5, 11, 12, 13]) (.block 0 (.loop [(false, 5, .one, [.val .i none]), (false, 13, .one, [.val .i none])] (.seq (.region [(none, .bin 14 .num .lss (.tmp 13) (.tmp 12))] [1, 5, 11, 12, 13, 14]) (.seq (.cond 14 [1, 5, 11, 12, 13] [5] (.skip) (.exit 0)) (.seq (.block 1 (.seq (.region [(none, .ia 15 (.st 15) (.tmp 11) (.tmp 13)),
 (none, .ld 16 (some 3) (.tmp 15)),
 (none, .alloc 7 [.int .i64 0, .str [], .int .i64 0]),
 (none, .st 3 (.tmp 7) (.tmp 16))] [1, 5, 7, 11, 12, 13]) (.seq (.seq (.region [(none, .fa 17 0 (.tmp 7)),
 (none, .ld 18 none (.tmp 17)),
 (none, .mv 19 (.tmp 1)),
 (none, .bin 20 .num .gtr (.tmp 18) (.tmp 19))] [1, 5, 7, 11, 12, 13, 20]) (.cond 20 [5] [1, 7, 11, 12, 13] (.exit 0) (.skip))) (.region [(none, .fa 21 2 (.tmp 7)),
 (none, .ld 22 none (.tmp 21)),
 (none, .as 5 (.tmp 22))] [1, 5, 11, 12, 13])))) (.region [(none, .bin 23 .num .add (.tmp 13) (.k (.int .i64 1))),
 (none, .mv 13 (.tmp 23))] [1, 5, 11, 12, 13]))))))) (.seq (.region [(none, .mv 24 (.tmp 5)),
 (none, .as 4 (.tmp 24))] [4]) (.ret))))
noncomputable def d_impl_LogUpTo_j2 (v7 : Int) : Option Int :=
  some v7
noncomputable def d_impl_LogUpTo_l1 (p1 : Int) (x1 : (List GFrame)) (L2 : (Int × Int) → Option Int) (x_ : (Int × Int)) : Option Int :=
  match x_ with
  | (v3, v4) => br (decide (v4 < (↑(List.length x1) : Int)))
    (bd (at? x1 v4) fun x5 =>
    bd (at? x1 v4) fun x6 =>
    br (decide (x6.Seq > p1))
      (jn (d_impl_LogUpTo_j2) v3)
      (L2 ((x6.Next, w64 (v4 + 1)))))
    (jn (d_impl_LogUpTo_j2) v3)
noncomputable def d_impl_LogUpTo (p0 : GStore) (p1 : Int) : Option Int :=
  bd (d_impl_Frames p0.Log.Data) fun x1 =>
  loopN (d_impl_LogUpTo_l1 p1 x1) big (0, 0)
noncomputable def gf_impl_LogUpTo : GF := y_impl_LogUpTo.gf rfl rfl (fun a => d_impl_LogUpTo a.1 a.2.1) (fun a => by kernel_rfl)

noncomputable def y_laws_FnExactLogUpTo : Y.YF where
  R := []
  ps := [.v (.st 10), .v .i]
  fs := []
  rk := .ret [.b]
  rs := [.tmp 4]
  body := .seq (.region [(none, .box 2 (.tmp 0)),
 (none, .as 4 (.k (.bool false)))] [1, 2]) (.seq (.region [(none, .as 5 (.k (.int .i64 1048576)))] [1, 2, 5]) (.seq (.region [(none, .ld 8 (some 6) (.tmp 2)),
 (none, .mv 9 (.tmp 5)),
 (none, .call 10 gf_laws_szStore [] rfl [(.tmp 8), (.tmp 9)]),
 (none, .as 5 (.tmp 10))] [1, 2, 5]) (.seq (.seq (.region [(none, .mv 11 (.tmp 5)),
 (none, .bin 12 .num .lss (.tmp 11) (.k (.int .i64 0)))] [1, 2, 12]) (.cond 12 [] [1, 2] (.seq (.region [(none, .as 4 (.k (.bool true)))] [4]) (.ret)) (.skip))) (.seq (.region [(none, .ld 13 (some 6) (.tmp 2)),
 (none, .call 14 gf_laws_toStore [] rfl [(.tmp 13)]),
 (none, .mv 15 (.tmp 1)),
 (none, .call 16 gf_spec_LogUpTo [] rfl [(.tmp 14), (.tmp 15)]),
 (none, .as 6 (.tmp 16))] [1, 2, 6]) (.seq (.region [(none, .ld 17 (some 6) (.tmp 2)),
 (none, .call 18 gf_laws_toStore [] rfl [(.tmp 17)]),
 (none, .mv 19 (.tmp 1)),
 (none, .call 20 gf_impl_LogUpTo [] rfl [(.tmp 18), (.tmp 19)]),
 (none, .as 7 (.tmp 20))] [6, 7]) (.seq (.seq (.region [(none, .mv 21 (.tmp 7)),
 (none, .mv 22 (.tmp 6)),
 (none, .bin 23 .num .neq (.tmp 21) (.tmp 22))] [23]) (.cond 23 [] [] (.seq (.region [(none, .as 4 (.k (.bool false)))] [4]) (.ret)) (.skip))) (.seq (.region [(none, .as 4 (.k (.bool true)))] [4]) (.ret))))))))
noncomputable def d_laws_FnExactLogUpTo (p0 : GStore) (p1 : Int) : Option Bool :=
  bd (d_laws_szStore p0 1048576) fun x1 =>
  br (decide (x1 < 0))
    (some true)
    (bd (d_laws_toStore p0) fun x2 =>
    bd (d_spec_LogUpTo x2 p1) fun x3 =>
    bd (d_laws_toStore p0) fun x4 =>
    bd (d_impl_LogUpTo x4 p1) fun x5 =>
    br (x5 != x3)
      (some false)
      (some true))
noncomputable def gf_laws_FnExactLogUpTo : GF := y_laws_FnExactLogUpTo.gf rfl rfl (fun a => d_laws_FnExactLogUpTo a.1 a.2.1) (fun a => by kernel_rfl)

noncomputable def y_laws_szReqS : Y.YF where
  R := []
  ps := [.v (.l (.st 0)), .v .i]
  fs := []
  rk := .ret [.i]
  rs := [.tmp 4]
  body := .seq (.region [(none, .as 4 (.k (.int .i64 0)))] [0, 1]) (.seq (.region [(none, .mv 5 (.tmp 1)),
 (none, .mv 6 (.tmp 0)),
 (none, .len 7 (.tmp 6)),
 (none, .bin 8 .num .sub (.tmp 5) (.tmp 7)),
 (none, .as 1 (.tmp 8))] [1]) (.seq (.seq (.region [(none, .mv 9 (.tmp 1)),
 (none, .bin 10 .num .lss (.tmp 9) (.k (.int .i64 0)))] [1, 10]) (.cond 10 [] [1] (.seq (.region [(none, .as 4 (.k (.int .i64 (-1))))] [4]) (.ret)) (.skip))) (.seq (.region [(none, .mv 11 (.tmp 1)),
 (none, .as 4 (.tmp 11))] [4]) (.ret))))
noncomputable def d_laws_szReqS (p0 : (List GReq)) (p1 : Int) : Option Int :=
  br (decide (w64 (p1 - (↑p0.length : Int)) < 0))
    (some (-1))
    (some (w64 (p1 - (↑p0.length : Int))))
noncomputable def gf_laws_szReqS : GF := y_laws_szReqS.gf rfl rfl (fun a => d_laws_szReqS a.1 a.2.1) (fun a => by kernel_rfl)

noncomputable def y_laws_toReq : Y.YF where
  R := []
  ps := [.v (.st 0)]
  fs := []
  rk := .ret [(.st 0)]
  rs := [.cell 2 (some 6)]
  body := .seq (.region [(none, .box 1 (.tmp 0)),
 (none, .alloc 2 [.int .i64 0, .int .i64 0, .int .i64 0, .int .i64 0, .int .i64 0, .int .i64 0])] [1, 2]) (.seq (.region [(none, .alloc 3 [.int .i64 0, .int .i64 0, .int .i64 0, .int .i64 0, .int .i64 0, .int .i64 0])] [1, 2, 3]) (.seq (.region [(none, .fa 4 0 (.tmp 1)),
 (none, .ld 5 none (.tmp 4)),
 (none, .fa 6 0 (.tmp 3)),
 (none, .st 1 (.tmp 6) (.tmp 5))] [1, 2, 3]) (.seq (.region [(none, .fa 7 1 (.tmp 1)),
 (none, .ld 8 none (.tmp 7)),
 (none, .fa 9 1 (.tmp 3)),
 (none, .st 1 (.tmp 9) (.tmp 8))] [1, 2, 3]) (.seq (.region [(none, .fa 10 2 (.tmp 1)),
 (none, .ld 11 none (.tmp 10)),
 (none, .fa 12 2 (.tmp 3)),
 (none, .st 1 (.tmp 12) (.tmp 11))] [1, 2, 3]) (.seq (.region [(none, .fa 13 3 (.tmp 1)),
 (none, .ld 14 none (.tmp 13)),
 (none, .fa 15 3 (.tmp 3)),
 (none, .st 1 (.tmp 15) (.tmp 14))] [1, 2, 3]) (.seq (.region [(none, .fa 16 4 (.tmp 1)),
 (none, .ld 17 none (.tmp 16)),
 (none, .fa 18 4 (.tmp 3)),
 (none, .st 1 (.tmp 18) (.tmp 17))] [1, 2, 3]) (.seq (.region [(none, .fa 19 5 (.tmp 1)),
 (none, .ld 20 none (.tmp 19)),
 (none, .fa 21 5 (.tmp 3)),
 (none, .st 1 (.tmp 21) (.tmp 20))] [2, 3]) (.seq (.region [(none, .ld 22 (some 6) (.tmp 3)),
 (none, .st 6 (.tmp 2) (.tmp 22))] [2]) (.ret)))))))))
noncomputable def d_laws_toReq (p0 : GReq) : Option GReq :=
  some p0
noncomputable def gf_laws_toReq : GF := y_laws_toReq.gf rfl rfl (fun a => d_laws_toReq a.1) (fun a => by kernel_rfl)

noncomputable def y_laws_toReqS : Y.YF where
  R := []
  ps := [.v (.l (.st 0))]
  fs := []
  rk := .ret [(.l (.st 0))]
  rs := [.tmp 2]
  body := .seq (.region [(none, .as 2 (.k .nil)),
 (none, .nils [(.tmp 2 0, (.st 0))])] [0]) (.seq (.region [(none, .mv 5 (.tmp 0)),
 (none, .len 6 (.tmp 5)),
 (none, .mksl 7 (.st 0) (.tmp 6)),
 (none, .as 3 (.tmp 7))] [0, 3]) (.join [(false, 3, .one, [.val (.l (.st 0)) none])] (.seq (.region [(none, .as 4 (.k (.int .i64 0)))] [0, 3, 4]) (.block 0 (.loop [(false, 3, .one, [.val (.l (.st 0)) none]), (false, 4, .one, [.val .i none])] (.seq (.seq (.region [(none, .mv 8 (.tmp 4)),
 (none, .mv 9 (.tmp 0)),
 (none, .len 10 (.tmp 9)),
 (none, .bin 11 .num .lss (.tmp 8) (.tmp 10))] [0, 3, 4, 11]) (.cond 11 [0, 3, 4] [3] (.skip) (.exit 0))) (.seq (.block 1 (.region [(none, .mv 14 (.tmp 3)),
 (none, .mv 15 (.tmp 4)),
 (none, .mv 16 (.tmp 0)),
 (none, .mv 17 (.tmp 4)),
 (none, .ia 18 (.st 0) (.tmp 16) (.tmp 17)),
 (none, .ld 19 (some 6) (.tmp 18)),
 (none, .call 20 gf_laws_toReq [] rfl [(.tmp 19)]),
 (none, .ia 21 (.st 0) (.tmp 14) (.tmp 15)),
 (none, .st 6 (.tmp 21) (.tmp 20))] [0, 3, 4])) (.region [(none, .mv 12 (.tmp 4)),
 (none, .bin 13 .num .add (.tmp 12) (.k (.int .i64 1))),
 (none, .as 4 (.tmp 13))] [0, 3, 4])))))) (.seq (.region [(none, .mv 22 (.tmp 3)),
 (none, .as 2 (.tmp 22))] [2]) (.ret))))
noncomputable def d_laws_toReqS_j2 (v8 : (List GReq)) : Option (List GReq) :=
  some v8
noncomputable def d_laws_toReqS_l1 (p0 : (List GReq)) (L1 : ((List GReq) × Int) → Option (List GReq)) (x_ : ((List GReq) × Int)) : Option (List GReq) :=
  match x_ with
  | (v2, v3) => br (decide (v3 < (↑p0.length : Int)))
    (bd (at? p0 v3) fun x4 =>
    bd (d_laws_toReq x4) fun x5 =>
    bd (at? v2 v3) fun x6 =>
    bd (at? v2 v3) fun x7 =>
    L1 ((List.set v2 v3.toNat x5, w64 (v3 + 1))))
    (jn (d_laws_toReqS_j2) v2)
noncomputable def d_laws_toReqS (p0 : (List GReq)) : Option (List GReq) :=
  gd (0 ≤ (↑p0.length : Int) ∧ (↑p0.length : Int) ≤ (↑lim : Int)) (
  loopN (d_laws_toReqS_l1 p0) big ((List.replicate (↑p0.length : Int).toNat (GReq.mk 0 0 0 0 0 0), 0)))
noncomputable def gf_laws_toReqS : GF := y_laws_toReqS.gf rfl rfl (fun a => d_laws_toReqS a.1) (fun a => by kernel_rfl)

noncomputable def y_spec_NoteOf : Y.YF where
  R := []
  ps := [.v .i, .v (.st 0)]
  fs := []
  rk := .ret [.s]
  rs := [.tmp 4]
  body := .seq (.region [(none, .box 3 (.tmp 1)),
 (none, .as 4 (.k (.str [])))] [0, 3]) (.seq (.region [(none, .ld 6 (some 6) (.tmp 3)),
 (none, .call 7 gf_spec_ReqBytes [] rfl [(.tmp 6)]),
 (none, .as 5 (.tmp 7))] [0, 5]) (.seq (.seq (.region [(none, .mv 8 (.tmp 5)),
 (none, .bin 9 .num .eql (.tmp 8) (.k (.str [])))] [0, 5, 9]) (.cond 9 [] [0, 5] (.seq (.region [(none, .as 4 (.k (.str [])))] [4]) (.ret)) (.skip))) (.seq (.region [(none, .mv 10 (.tmp 0)),
 (none, .mv 11 (.tmp 5)),
 (none, .call 12 gf_spec_FrameOf [] rfl [(.tmp 10), (.tmp 11)]),
 (none, .as 4 (.tmp 12))] [4]) (.ret))))
noncomputable def d_spec_NoteOf (p0 : Int) (p1 : GReq) : Option (List UInt8) :=
  bd (d_spec_ReqBytes p1) fun x1 =>
  br (x1 == [])
    (some [])
    (bd (d_spec_FrameOf p0 x1) fun x2 =>
    some x2)
noncomputable def gf_spec_NoteOf : GF := y_spec_NoteOf.gf rfl rfl (fun a => d_spec_NoteOf a.1 a.2.1) (fun a => by kernel_rfl)

noncomputable def y_spec_LogOf : Y.YF where
  R := []
  ps := [.v (.l (.st 0)), .v .i]
  fs := []
  rk := .ret [.s]
  rs := [.tmp 4]
  body := .seq (.region [(none, .as 4 (.k (.str [])))] [0, 1]) (.seq (.region [(none, .bslice 8 0 .u []),
 (none, .as 5 (.tmp 8))] [0, 1, 5]) (.join [(false, 5, .one, [.val (.l .u) none])] (.seq (.region [(none, .as 6 (.k (.int .i64 0)))] [0, 1, 5, 6]) (.block 0 (.loop [(false, 1, .one, [.val .i none]), (false, 5, .one, [.val (.l .u) none]), (false, 6, .one, [.val .i none])] (.seq (.seq (.region [(none, .mv 9 (.tmp 6)),
 (none, .mv 10 (.tmp 0)),
 (none, .len 11 (.tmp 10)),
 (none, .bin 12 .num .lss (.tmp 9) (.tmp 11))] [0, 1, 5, 6, 12]) (.cond 12 [0, 1, 5, 6] [5] (.skip) (.exit 0))) (.seq (.block 1 (.seq (.seq (.region [(none, .mv 15 (.tmp 1)),
 (none, .bin 16 .num .gtr (.tmp 15) (.k (.int .i64 1000000)))] [0, 1, 5, 6, 16]) (.cond 16 [] [0, 1, 5, 6] (.seq (.region [(none, .as 4 (.k (.str [])))] [4]) (.ret)) (.skip))) (.seq (.region [(none, .mv 17 (.tmp 1)),
 (none, .mv 18 (.tmp 0)),
 (none, .mv 19 (.tmp 6)),
 (none, .ia 20 (.st 0) (.tmp 18) (.tmp 19)),
 (none, .ld 21 (some 6) (.tmp 20)),
 (none, .call 22 gf_spec_NoteOf [] rfl [(.tmp 17), (.tmp 21)]),
 (none, .as 7 (.tmp 22))] [0, 1, 5, 6, 7]) (.seq (.seq (.region [(none, .mv 23 (.tmp 7)),
 (none, .bin 24 .num .eql (.tmp 23) (.k (.str [])))] [0, 1, 5, 6, 7, 24]) (.cond 24 [] [0, 1, 5, 6, 7] (.seq (.region [(none, .as 4 (.k (.str [])))] [4]) (.ret)) (.skip))) (.seq (.region [(none, .mv 25 (.tmp 5)),
 (none, .mv 26 (.tmp 7)),
 (none, .app 27 .u true (.tmp 25) (.tmp 26)),
 (none, .as 5 (.tmp 27))] [0, 1, 5, 6]) (.region [(none, .mv 28 (.tmp 1)),
 (none, .bin 29 .num .add (.tmp 28) (.k (.int .i64 1))),
 (none, .as 1 (.tmp 29))] [0, 1, 5, 6])))))) (.region [(none, .mv 13 (.tmp 6)),
 (none, .bin 14 .num .add (.tmp 13) (.k (.int .i64 1))),
 (none, .as 6 (.tmp 14))] [0, 1, 5, 6])))))) (.seq (.region [(none, .mv 30 (.tmp 5)),
 (none, .cvBS 31 (.tmp 30)),
 (none, .as 4 (.tmp 31))] [4]) (.ret))))
noncomputable def d_spec_LogOf_j2 (v7 : (List UInt8)) : Option (List UInt8) :=
  some v7
noncomputable def d_spec_LogOf_l1 (p0 : (List GReq)) (L1 : (Int × (List UInt8) × Int) → Option (List UInt8)) (x_ : (Int × (List UInt8) × Int)) : Option (List UInt8) :=
  match x_ with
  | (v2, v3, v4) => br (decide (v4 < (↑p0.length : Int)))
    (br (decide (v2 > 1000000))
      (some [])
      (bd (at? p0 v4) fun x5 =>
      bd (d_spec_NoteOf v2 x5) fun x6 =>
      br (x6 == [])
        (some [])
        (gd (List.length v3 + List.length x6 ≤ lim) (
        L1 ((w64 (v2 + 1), v3 ++ x6, w64 (v4 + 1)))))))
    (jn (d_spec_LogOf_j2) v3)
noncomputable def d_spec_LogOf (p0 : (List GReq)) (p1 : Int) : Option (List UInt8) :=
  loopN (d_spec_LogOf_l1 p0) big (p1, [], 0)
noncomputable def gf_spec_LogOf : GF := y_spec_LogOf.gf rfl rfl (fun a => d_spec_LogOf a.1 a.2.1) (fun a => by kernel_rfl)

noncomputable def y_impl_NoteOf : Y.YF where
  R := []
  ps := [.v .i, .v (.st 0)]
  fs := []
  rk := .ret [.s]
  rs := [.tmp 4]
  body := .seq (.region [(none, .box 3 (.tmp 1)),
 (none, .as 4 (.k (.str [])))] [0, 3]) (.seq (.region [(none, .mv 5 (.tmp 0)),
 (none, .ld 6 (some 6) (.tmp 3)),
 (none, .call 7 gf_impl_ReqBytes [] rfl [(.tmp 6)]),
 (none, .call 8 gf_impl_FrameOf [] rfl [(.tmp 5), (.tmp 7)]),
 (none, .as 4 (.tmp 8))] [4]) (.ret))
noncomputable def d_impl_NoteOf (p0 : Int) (p1 : GReq) : Option (List UInt8) :=
  bd (d_impl_ReqBytes p1) fun x1 =>
  bd (d_impl_FrameOf p0 x1) fun x2 =>
  some x2
noncomputable def gf_impl_NoteOf : GF := y_impl_NoteOf.gf rfl rfl (fun a => d_impl_NoteOf a.1 a.2.1) (fun a => by kernel_rfl)

noncomputable def y_impl_LogOf : Y.YF where
  R := []
  ps := [.v (.l (.st 0)), .v .i]
  fs := []
  rk := .ret [.s]
  rs := [.tmp 4]
  body := .seq (.region [(none, .as 4 (.k (.str [])))] [0, 1]) (.seq (.region [(none, .as 5 (.k (.str [])))] [0, 1, 5]) (.join [(false, 5, .one, [.val .s none])] (.seq (.region [(none, .mv 9 (.tmp 0)),
 (none, .len 10 (.tmp 9)),
 (none, .mv 11 (.k (.int .i64 0)))] [1, 5, 9, 10, 11]) (.block 0 (.loop [(false, 5, .one, [.val .s none]), (false, 11, .one, [.val .i none])] (.seq (.region [(none, .bin 12 .num .lss (.tmp 11) (.tmp 10))] [1, 5, 9, 10, 11, 12]) (.seq (.cond 12 [1, 5, 9, 10, 11] [5] (.skip) (.exit 0)) (.seq (.block 1 (.seq (.region [(none, .mv 13 (.tmp 11)),
 (none, .ia 14 (.st 0) (.tmp 9) (.tmp 11)),
 (none, .ld 15 (some 6) (.tmp 14)),
 (none, .alloc 7 [.int .i64 0, .int .i64 0, .int .i64 0, .int .i64 0, .int .i64 0, .int .i64 0]),
 (none, .as 6 (.tmp 13)),
 (none, .st 6 (.tmp 7) (.tmp 15))] [1, 5, 6, 7, 9, 10, 11]) (.seq (.region [(none, .mv 16 (.tmp 1)),
 (none, .mv 17 (.tmp 6)),
 (none, .bin 18 .num .add (.tmp 16) (.tmp 17)),
 (none, .ld 19 (some 6) (.tmp 7)),
 (none, .call 20 gf_impl_NoteOf [] rfl [(.tmp 18), (.tmp 19)]),
 (none, .as 8 (.tmp 20))] [1, 5, 8, 9, 10, 11]) (.seq (.seq (.region [(none, .mv 21 (.tmp 8)),
 (none, .bin 22 .num .eql (.tmp 21) (.k (.str [])))] [1, 5, 8, 9, 10, 11, 22]) (.cond 22 [] [1, 5, 8, 9, 10, 11] (.seq (.region [(none, .as 4 (.k (.str [])))] [4]) (.ret)) (.skip))) (.region [(none, .mv 23 (.tmp 5)),
 (none, .mv 24 (.tmp 8)),
 (none, .bin 25 .num .add (.tmp 23) (.tmp 24)),
 (none, .as 5 (.tmp 25))] [1, 5, 9, 10, 11]))))) (.region [(none, .bin 26 .num .add (.tmp 11) (.k (.int .i64 1))),
 (none, .mv 11 (.tmp 26))] [1, 5, 9, 10, 11]))))))) (.seq (.region [(none, .mv 27 (.tmp 5)),
 (none, .as 4 (.tmp 27))] [4]) (.ret))))
noncomputable def d_impl_LogOf_j2 (v6 : (List UInt8)) : Option (List UInt8) :=
  some v6
noncomputable def d_impl_LogOf_l1 (p0 : (List GReq)) (p1 : Int) (L1 : ((List UInt8) × Int) → Option (List UInt8)) (x_ : ((List UInt8) × Int)) : Option (List UInt8) :=
  match x_ with
  | (v2, v3) => br (decide (v3 < (↑p0.length : Int)))
    (bd (at? p0 v3) fun x4 =>
    bd (d_impl_NoteOf (w64 (p1 + v3)) x4) fun x5 =>
    br (x5 == [])
      (some [])
      (gd (List.length v2 + List.length x5 ≤ slim) (
      L1 ((v2 ++ x5, w64 (v3 + 1))))))
    (jn (d_impl_LogOf_j2) v2)
noncomputable def d_impl_LogOf (p0 : (List GReq)) (p1 : Int) : Option (List UInt8) :=
  loopN (d_impl_LogOf_l1 p0 p1) big ([], 0)
noncomputable def gf_impl_LogOf : GF := y_impl_LogOf.gf rfl rfl (fun a => d_impl_LogOf a.1 a.2.1) (fun a => by kernel_rfl)

noncomputable def y_laws_eqReqS : Y.YF where
  R := []
  ps := [.v (.l (.st 0)), .v (.l (.st 0))]
  fs := []
  rk := .ret [.b]
  rs := [.tmp 4]
  body := .seq (.region [(none, .as 4 (.k (.bool false)))] [0, 1]) (.seq (.seq (.region [(none, .mv 6 (.tmp 0)),
 (none, .len 7 (.tmp 6)),
 (none, .mv 8 (.tmp 1)),
 (none, .len 9 (.tmp 8)),
 (none, .bin 10 .num .neq (.tmp 7) (.tmp 9))] [0, 1, 10]) (.cond 10 [] [0, 1] (.seq (.region [(none, .as 4 (.k (.bool false)))] [4]) (.ret)) (.skip))) (.join [] (.seq (.region [(none, .as 5 (.k (.int .i64 0)))] [0, 1, 5]) (.block 0 (.loop [(false, 5, .one, [.val .i none])] (.seq (.seq (.region [(none, .mv 11 (.tmp 5)),
 (none, .mv 12 (.tmp 0)),
 (none, .len 13 (.tmp 12)),
 (none, .bin 14 .num .lss (.tmp 11) (.tmp 13))] [0, 1, 5, 14]) (.cond 14 [0, 1, 5] [] (.skip) (.exit 0))) (.seq (.block 1 (.seq (.dreg (.op 0 none [] (.mv 17 (.tmp 0))
 (.op 1 none [] (.mv 18 (.tmp 5))
 (.op 2 none [] (.ia 19 (.st 0) (.tmp 17) (.tmp 18))
 (.op 3 none [] (.ld 20 (some 6) (.tmp 19))
 (.op 4 none [] (.mv 21 (.tmp 1))
 (.op 5 none [] (.mv 22 (.tmp 5))
 (.op 6 none [] (.ia 23 (.st 0) (.tmp 21) (.tmp 22))
 (.op 7 none [] (.ld 24 (some 6) (.tmp 23))
 (.op 8 none [] (.call 25 gf_laws_eqReq [] rfl [(.tmp 20), (.tmp 24)])
 (.op 9 none [] (.un 26 .not (.tmp 25))
 .nil)))))))))) [0, 1, 5, 26]) (.cond 26 [] [0, 1, 5] (.seq (.region [(none, .as 4 (.k (.bool false)))] [4]) (.ret)) (.skip)))) (.region [(none, .mv 15 (.tmp 5)),
 (none, .bin 16 .num .add (.tmp 15) (.k (.int .i64 1))),
 (none, .as 5 (.tmp 16))] [0, 1, 5])))))) (.seq (.region [(none, .as 4 (.k (.bool true)))] [4]) (.ret))))
noncomputable def d_laws_eqReqS_j2 (_ : PUnit) : Option Bool :=
  some true
noncomputable def d_laws_eqReqS_l1 (p0 : (List GReq)) (p1 : (List GReq)) (L1 : Int → Option Bool) (v2 : Int) : Option Bool :=
  br (decide (v2 < (↑p0.length : Int)))
    (bd (at? p0 v2) fun x3 =>
    bd (at? p1 v2) fun x4 =>
    bd (d_laws_eqReq x3 x4) fun x5 =>
    br (!x5)
      (some false)
      (L1 (w64 (v2 + 1))))
    (jn (d_laws_eqReqS_j2) ())
noncomputable def d_laws_eqReqS (p0 : (List GReq)) (p1 : (List GReq)) : Option Bool :=
  br ((↑p0.length : Int) != (↑p1.length : Int))
    (some false)
    (loopN (d_laws_eqReqS_l1 p0 p1) big 0)
noncomputable def gf_laws_eqReqS : GF := y_laws_eqReqS.gf rfl rfl (fun a => d_laws_eqReqS a.1 a.2.1) (fun a => by kernel_rfl)

noncomputable def y_laws_FnExactLogOf : Y.YF where
  R := []
  ps := [.v (.l (.st 0)), .v .i]
  fs := []
  rk := .ret [.b]
  rs := [.tmp 4]
  body := .seq (.region [(none, .as 4 (.k (.bool false)))] [0, 1]) (.seq (.region [(none, .as 5 (.k (.int .i64 1048576)))] [0, 1, 5]) (.seq (.region [(none, .mv 9 (.tmp 0)),
 (none, .mv 10 (.tmp 5)),
 (none, .call 11 gf_laws_szReqS [] rfl [(.tmp 9), (.tmp 10)]),
 (none, .as 5 (.tmp 11))] [0, 1, 5]) (.seq (.seq (.region [(none, .mv 12 (.tmp 5)),
 (none, .bin 13 .num .lss (.tmp 12) (.k (.int .i64 0)))] [0, 1, 13]) (.cond 13 [] [0, 1] (.seq (.region [(none, .as 4 (.k (.bool true)))] [4]) (.ret)) (.skip))) (.seq (.region [(none, .mv 14 (.tmp 0)),
 (none, .call 15 gf_laws_toReqS [] rfl [(.tmp 14)]),
 (none, .mv 16 (.tmp 1)),
 (none, .call 17 gf_spec_LogOf [] rfl [(.tmp 15), (.tmp 16)]),
 (none, .as 6 (.tmp 17))] [0, 1, 6]) (.seq (.region [(none, .mv 18 (.tmp 0)),
 (none, .call 19 gf_laws_toReqS [] rfl [(.tmp 18)]),
 (none, .as 7 (.tmp 19))] [0, 1, 6, 7]) (.seq (.region [(none, .mv 20 (.tmp 7)),
 (none, .mv 21 (.tmp 1)),
 (none, .call 22 gf_impl_LogOf [] rfl [(.tmp 20), (.tmp 21)]),
 (none, .as 8 (.tmp 22))] [0, 6, 7, 8]) (.seq (.seq (.region [(none, .mv 23 (.tmp 8)),
 (none, .mv 24 (.tmp 6)),
 (none, .bin 25 .num .neq (.tmp 23) (.tmp 24))] [0, 7, 25]) (.cond 25 [] [0, 7] (.seq (.region [(none, .as 4 (.k (.bool false)))] [4]) (.ret)) (.skip))) (.seq (.seq (.region [(none, .mv 26 (.tmp 7)),
 (none, .mv 27 (.tmp 0)),
 (none, .call 28 gf_laws_toReqS [] rfl [(.tmp 27)]),
 (none, .call 29 gf_laws_eqReqS [] rfl [(.tmp 26), (.tmp 28)]),
 (none, .un 30 .not (.tmp 29))] [30]) (.cond 30 [] [] (.seq (.region [(none, .as 4 (.k (.bool false)))] [4]) (.ret)) (.skip))) (.seq (.region [(none, .as 4 (.k (.bool true)))] [4]) (.ret))))))))))
noncomputable def d_laws_FnExactLogOf (p0 : (List GReq)) (p1 : Int) : Option Bool :=
  bd (d_laws_szReqS p0 1048576) fun x1 =>
  br (decide (x1 < 0))
    (some true)
    (bd (d_laws_toReqS p0) fun x2 =>
    bd (d_spec_LogOf x2 p1) fun x3 =>
    bd (d_laws_toReqS p0) fun x4 =>
    bd (d_impl_LogOf x4 p1) fun x5 =>
    br (x5 != x3)
      (some false)
      (bd (d_laws_toReqS p0) fun x6 =>
      bd (d_laws_eqReqS x4 x6) fun x7 =>
      br (!x7)
        (some false)
        (some true)))
noncomputable def gf_laws_FnExactLogOf : GF := y_laws_FnExactLogOf.gf rfl rfl (fun a => d_laws_FnExactLogOf a.1 a.2.1) (fun a => by kernel_rfl)

noncomputable def y_laws_szFrame : Y.YF where
  R := []
  ps := [.v (.st 15), .v .i]
  fs := []
  rk := .ret [.i]
  rs := [.tmp 4]
  body := .seq (.region [(none, .box 2 (.tmp 0)),
 (none, .as 4 (.k (.int .i64 0)))] [1, 2]) (.seq (.region [(none, .mv 5 (.tmp 1)),
 (none, .fa 6 1 (.tmp 2)),
 (none, .ld 7 none (.tmp 6)),
 (none, .lens 8 (.tmp 7)),
 (none, .bin 9 .num .sub (.tmp 5) (.tmp 8)),
 (none, .as 1 (.tmp 9))] [1]) (.seq (.seq (.region [(none, .mv 10 (.tmp 1)),
 (none, .bin 11 .num .lss (.tmp 10) (.k (.int .i64 0)))] [1, 11]) (.cond 11 [] [1] (.seq (.region [(none, .as 4 (.k (.int .i64 (-1))))] [4]) (.ret)) (.skip))) (.seq (.region [(none, .mv 12 (.tmp 1)),
 (none, .as 4 (.tmp 12))] [4]) (.ret))))
noncomputable def d_laws_szFrame (p0 : GFrame) (p1 : Int) : Option Int :=
  br (decide (w64 (p1 - (↑p0.Body.length : Int)) < 0))
    (some (-1))
    (some (w64 (p1 - (↑p0.Body.length : Int))))
noncomputable def gf_laws_szFrame : GF := y_laws_szFrame.gf rfl rfl (fun a => d_laws_szFrame a.1 a.2.1) (fun a => by kernel_rfl)

noncomputable def y_laws_szFrameS : Y.YF where
  R := []
  ps := [.v (.l (.st 15)), .v .i]
  fs := []
  rk := .ret [.i]
  rs := [.tmp 4]
  body := .seq (.region [(none, .as 4 (.k (.int .i64 0)))] [0, 1]) (.seq (.region [(none, .mv 6 (.tmp 1)),
 (none, .mv 7 (.tmp 0)),
 (none, .len 8 (.tmp 7)),
 (none, .bin 9 .num .sub (.tmp 6) (.tmp 8)),
 (none, .as 1 (.tmp 9))] [0, 1]) (.seq (.seq (.region [(none, .mv 10 (.tmp 1)),
 (none, .bin 11 .num .lss (.tmp 10) (.k (.int .i64 0)))] [0, 1, 11]) (.cond 11 [] [0, 1] (.seq (.region [(none, .as 4 (.k (.int .i64 (-1))))] [4]) (.ret)) (.skip))) (.join [(false, 1, .one, [.val .i none])] (.seq (.region [(none, .as 5 (.k (.int .i64 0)))] [0, 1, 5]) (.block 0 (.loop [(false, 1, .one, [.val .i none]), (false, 5, .one, [.val .i none])] (.seq (.seq (.region [(none, .mv 12 (.tmp 5)),
 (none, .mv 13 (.tmp 0)),
 (none, .len 14 (.tmp 13)),
 (none, .bin 15 .num .lss (.tmp 12) (.tmp 14))] [0, 1, 5, 15]) (.cond 15 [0, 1, 5] [1] (.skip) (.exit 0))) (.seq (.block 1 (.seq (.region [(none, .mv 18 (.tmp 0)),
 (none, .mv 19 (.tmp 5)),
 (none, .ia 20 (.st 15) (.tmp 18) (.tmp 19)),
 (none, .ld 21 (some 3) (.tmp 20)),
 (none, .mv 22 (.tmp 1)),
 (none, .call 23 gf_laws_szFrame [] rfl [(.tmp 21), (.tmp 22)]),
 (none, .as 1 (.tmp 23))] [0, 1, 5]) (.seq (.region [(none, .mv 24 (.tmp 1)),
 (none, .bin 25 .num .lss (.tmp 24) (.k (.int .i64 0)))] [0, 1, 5, 25]) (.cond 25 [] [0, 1, 5] (.seq (.region [(none, .as 4 (.k (.int .i64 (-1))))] [4]) (.ret)) (.skip))))) (.region [(none, .mv 16 (.tmp 5)),
 (none, .bin 17 .num .add (.tmp 16) (.k (.int .i64 1))),
 (none, .as 5 (.tmp 17))] [0, 1, 5])))))) (.seq (.region [(none, .mv 26 (.tmp 1)),
 (none, .as 4 (.tmp 26))] [4]) (.ret)))))
noncomputable def d_laws_szFrameS_j2 (v6 : Int) : Option Int :=
  some v6
noncomputable def d_laws_szFrameS_l1 (p0 : (List GFrame)) (L1 : (Int × Int) → Option Int) (x_ : (Int × Int)) : Option Int :=
  match x_ with
  | (v2, v3) => br (decide (v3 < (↑p0.length : Int)))
    (bd (at? p0 v3) fun x4 =>
    bd (d_laws_szFrame x4 v2) fun x5 =>
    br (decide (x5 < 0))
      (some (-1))
      (L1 ((x5, w64 (v3 + 1)))))
    (jn (d_laws_szFrameS_j2) v2)
noncomputable def d_laws_szFrameS (p0 : (List GFrame)) (p1 : Int) : Option Int :=
  br (decide (w64 (p1 - (↑p0.length : Int)) < 0))
    (some (-1))
    (loopN (d_laws_szFrameS_l1 p0) big ((w64 (p1 - (↑p0.length : Int)), 0)))
noncomputable def gf_laws_szFrameS : GF := y_laws_szFrameS.gf rfl rfl (fun a => d_laws_szFrameS a.1 a.2.1) (fun a => by kernel_rfl)

noncomputable def y_laws_toFrame : Y.YF where
  R := []
  ps := [.v (.st 15)]
  fs := []
  rk := .ret [(.st 15)]
  rs := [.cell 2 (some 3)]
  body := .seq (.region [(none, .box 1 (.tmp 0)),
 (none, .alloc 2 [.int .i64 0, .str [], .int .i64 0])] [1, 2]) (.seq (.region [(none, .alloc 3 [.int .i64 0, .str [], .int .i64 0])] [1, 2, 3]) (.seq (.region [(none, .fa 4 0 (.tmp 1)),
 (none, .ld 5 none (.tmp 4)),
 (none, .fa 6 0 (.tmp 3)),
 (none, .st 1 (.tmp 6) (.tmp 5))] [1, 2, 3]) (.seq (.region [(none, .fa 7 1 (.tmp 1)),
 (none, .ld 8 none (.tmp 7)),
 (none, .fa 9 1 (.tmp 3)),
 (none, .st 1 (.tmp 9) (.tmp 8))] [1, 2, 3]) (.seq (.region [(none, .fa 10 2 (.tmp 1)),
 (none, .ld 11 none (.tmp 10)),
 (none, .fa 12 2 (.tmp 3)),
 (none, .st 1 (.tmp 12) (.tmp 11))] [2, 3]) (.seq (.region [(none, .ld 13 (some 3) (.tmp 3)),
 (none, .st 3 (.tmp 2) (.tmp 13))] [2]) (.ret))))))
noncomputable def d_laws_toFrame (p0 : GFrame) : Option GFrame :=
  some p0
noncomputable def gf_laws_toFrame : GF := y_laws_toFrame.gf rfl rfl (fun a => d_laws_toFrame a.1) (fun a => by kernel_rfl)

noncomputable def y_laws_toFrameS : Y.YF where
  R := []
  ps := [.v (.l (.st 15))]
  fs := []
  rk := .ret [(.l (.st 15))]
  rs := [.tmp 2]
  body := .seq (.region [(none, .as 2 (.k .nil)),
 (none, .nils [(.tmp 2 0, (.st 15))])] [0]) (.seq (.region [(none, .mv 5 (.tmp 0)),
 (none, .len 6 (.tmp 5)),
 (none, .mksl 7 (.st 15) (.tmp 6)),
 (none, .as 3 (.tmp 7))] [0, 3]) (.join [(false, 3, .one, [.val (.l (.st 15)) none])] (.seq (.region [(none, .as 4 (.k (.int .i64 0)))] [0, 3, 4]) (.block 0 (.loop [(false, 3, .one, [.val (.l (.st 15)) none]), (false, 4, .one, [.val .i none])] (.seq (.seq (.region [(none, .mv 8 (.tmp 4)),
 (none, .mv 9 (.tmp 0)),
 (none, .len 10 (.tmp 9)),
 (none, .bin 11 .num .lss (.tmp 8) (.tmp 10))] [0, 3, 4, 11]) (.cond 11 [0, 3, 4] [3] (.skip) (.exit 0))) (.seq (.block 1 (.region [(none, .mv 14 (.tmp 3)),
 (none, .mv 15 (.tmp 4)),
 (none, .mv 16 (.tmp 0)),
 (none, .mv 17 (.tmp 4)),
 (none, .ia 18 (.st 15) (.tmp 16) (.tmp 17)),
 (none, .ld 19 (some 3) (.tmp 18)),
 (none, .call 20 gf_laws_toFrame [] rfl [(.tmp 19)]),
 (none, .ia 21 (.st 15) (.tmp 14) (.tmp 15)),
 (none, .st 3 (.tmp 21) (.tmp 20))] [0, 3, 4])) (.region [(none, .mv 12 (.tmp 4)),
 (none, .bin 13 .num .add (.tmp 12) (.k (.int .i64 1))),
 (none, .as 4 (.tmp 13))] [0, 3, 4])))))) (.seq (.region [(none, .mv 22 (.tmp 3)),
 (none, .as 2 (.tmp 22))] [2]) (.ret))))
noncomputable def d_laws_toFrameS_j2 (v8 : (List GFrame)) : Option (List GFrame) :=
  some v8
noncomputable def d_laws_toFrameS_l1 (p0 : (List GFrame)) (L1 : ((List GFrame) × Int) → Option (List GFrame)) (x_ : ((List GFrame) × Int)) : Option (List GFrame) :=
  match x_ with
  | (v2, v3) => br (decide (v3 < (↑p0.length : Int)))
    (bd (at? p0 v3) fun x4 =>
    bd (d_laws_toFrame x4) fun x5 =>
    bd (at? v2 v3) fun x6 =>
    bd (at? v2 v3) fun x7 =>
    L1 ((List.set v2 v3.toNat x5, w64 (v3 + 1))))
    (jn (d_laws_toFrameS_j2) v2)
noncomputable def d_laws_toFrameS (p0 : (List GFrame)) : Option (List GFrame) :=
  gd (0 ≤ (↑p0.length : Int) ∧ (↑p0.length : Int) ≤ (↑lim : Int)) (
  loopN (d_laws_toFrameS_l1 p0) big ((List.replicate (↑p0.length : Int).toNat (GFrame.mk 0 [] 0), 0)))
noncomputable def gf_laws_toFrameS : GF := y_laws_toFrameS.gf rfl rfl (fun a => d_laws_toFrameS a.1) (fun a => by kernel_rfl)

noncomputable def y_spec_NotesIn : Y.YF where
  R := []
  ps := [.v (.l (.st 15))]
  fs := []
  rk := .ret [(.l (.st 0))]
  rs := [.tmp 2]
  body := .seq (.region [(none, .as 2 (.k .nil)),
 (none, .nils [(.tmp 2 0, (.st 0))])] [0]) (.seq (.region [(none, .bslice 7 0 (.st 0) []),
 (none, .as 3 (.tmp 7))] [0, 3]) (.join [(false, 3, .one, [.val (.l (.st 0)) none])] (.seq (.region [(none, .as 4 (.k (.int .i64 0)))] [0, 3, 4]) (.block 0 (.loop [(false, 3, .one, [.val (.l (.st 0)) none]), (false, 4, .one, [.val .i none])] (.seq (.seq (.region [(none, .mv 8 (.tmp 4)),
 (none, .mv 9 (.tmp 0)),
 (none, .len 10 (.tmp 9)),
 (none, .bin 11 .num .lss (.tmp 8) (.tmp 10))] [0, 3, 4, 11]) (.cond 11 [0, 3, 4] [3] (.skip) (.exit 0))) (.seq (.block 1 (.seq (.region [(none, .mv 15 (.tmp 0)),
 (none, .mv 16 (.tmp 4)),
 (none, .ia 17 (.st 15) (.tmp 15) (.tmp 16)),
 (none, .fa 18 1 (.tmp 17)),
 (none, .ld 19 none (.tmp 18)),
 (none, .call 20 gf_spec_ReqRead [] rfl [(.tmp 19)]),
 (none, .mv 14 (.tmp 20)),
 (none, .ext 21 (.tmp 14) 0),
 (none, .ext 22 (.tmp 14) 1),
 (none, .alloc 5 [.int .i64 0, .int .i64 0, .int .i64 0, .int .i64 0, .int .i64 0, .int .i64 0]),
 (none, .st 6 (.tmp 5) (.tmp 21)),
 (none, .as 6 (.tmp 22))] [0, 3, 4, 5, 6]) (.seq (.seq (.region [(none, .mv 23 (.tmp 6)),
 (none, .un 24 .not (.tmp 23))] [0, 3, 4, 5, 24]) (.cond 24 [3] [0, 3, 4, 5] (.exit 0) (.skip))) (.region [(none, .mv 25 (.tmp 3)),
 (none, .ld 26 (some 6) (.tmp 5)),
 (none, .bslice 27 1 (.st 0) [(0, (.tmp 26))]),
 (none, .app 28 (.st 0) true (.tmp 25) (.tmp 27)),
 (none, .as 3 (.tmp 28))] [0, 3, 4])))) (.region [(none, .mv 12 (.tmp 4)),
 (none, .bin 13 .num .add (.tmp 12) (.k (.int .i64 1))),
 (none, .as 4 (.tmp 13))] [0, 3, 4])))))) (.seq (.region [(none, .mv 29 (.tmp 3)),
 (none, .as 2 (.tmp 29))] [2]) (.ret))))
noncomputable def d_spec_NotesIn_j2 (v6 : (List GReq)) : Option (List GReq) :=
  some v6
noncomputable def d_spec_NotesIn_l1 (p0 : (List GFrame)) (L1 : ((List GReq) × Int) → Option (List GReq)) (x_ : ((List GReq) × Int)) : Option (List GReq) :=
  match x_ with
  | (v2, v3) => br (decide (v3 < (↑p0.length : Int)))
    (bd (at? p0 v3) fun x4 =>
    bd (d_spec_ReqRead x4.Body) fun x5 =>
    br (!x5.snd)
      (jn (d_spec_NotesIn_j2) v2)
      (gd (List.length v2 + [x5.fst].length ≤ lim) (
      L1 ((v2 ++ [x5.fst], w64 (v3 + 1))))))
    (jn (d_spec_NotesIn_j2) v2)
noncomputable def d_spec_NotesIn (p0 : (List GFrame)) : Option (List GReq) :=
  loopN (d_spec_NotesIn_l1 p0) big ([], 0)
noncomputable def gf_spec_NotesIn : GF := y_spec_NotesIn.gf rfl rfl (fun a => d_spec_NotesIn a.1) (fun a => by kernel_rfl)

noncomputable def y_impl_NotesIn : Y.YF where
  R := []
  ps := [.v (.l (.st 15))]
  fs := []
  rk := .ret [(.l (.st 0))]
  rs := [.tmp 2]
  body := .seq (.region [(none, .as 2 (.k .nil)),
 (none, .nils [(.tmp 2 0, (.st 0))])] [0]) (.seq (.region [(none, .as 3 (.k .nil)),
 (none, .nils [(.tmp 3 0, (.st 0))])] [0, 3]) (.join [(false, 3, .one, [.val (.l (.st 0)) none])] (.seq (.region [(none, .mv 8 (.tmp 0)),
 (none, .len 9 (.tmp 8)),
 (none, .mv 10 (.k (.int .i64 0)))] [3, 8, 9, 10]) (.block 0 (.loop [(false, 3, .one, [.val (.l (.st 0)) none]), (false, 10, .one, [.val .i none])] (.seq (.region [(none, .bin 11 .num .lss (.tmp 10) (.tmp 9))] [3, 8, 9, 10, 11]) (.seq (.cond 11 [3, 8, 9, 10] [3] (.skip) (.exit 0)) (.seq (.block 1 (.seq (.region [(none, .ia 12 (.st 15) (.tmp 8) (.tmp 10)),
 (none, .ld 13 (some 3) (.tmp 12)),
 (none, .alloc 5 [.int .i64 0, .str [], .int .i64 0]),
 (none, .st 3 (.tmp 5) (.tmp 13))] [3, 5, 8, 9, 10]) (.seq (.region [(none, .fa 15 1 (.tmp 5)),
 (none, .ld 16 none (.tmp 15)),
 (none, .call 17 gf_impl_ReqRead [] rfl [(.tmp 16)]),
 (none, .mv 14 (.tmp 17)),
 (none, .ext 18 (.tmp 14) 0),
 (none, .ext 19 (.tmp 14) 1),
 (none, .alloc 6 [.int .i64 0, .int .i64 0, .int .i64 0, .int .i64 0, .int .i64 0, .int .i64 0]),
 (none, .st 6 (.tmp 6) (.tmp 18)),
 (none, .as 7 (.tmp 19))] [3, 6, 7, 8, 9, 10]) (.seq (.seq (.region [(none, .mv 20 (.tmp 7)),
 (none, .un 21 .not (.tmp 20))] [3, 6, 8, 9, 10, 21]) (.cond 21 [3] [3, 6, 8, 9, 10] (.exit 0) (.skip))) (.region [(none, .mv 22 (.tmp 3)),
 (none, .ld 23 (some 6) (.tmp 6)),
 (none, .bslice 24 1 (.st 0) [(0, (.tmp 23))]),
 (none, .app 25 (.st 0) true (.tmp 22) (.tmp 24)),
 (none, .as 3 (.tmp 25))] [3, 8, 9, 10]))))) (.region [(none, .bin 26 .num .add (.tmp 10) (.k (.int .i64 1))),
 (none, .mv 10 (.tmp 26))] [3, 8, 9, 10]))))))) (.seq (.region [(none, .mv 27 (.tmp 3)),
 (none, .as 2 (.tmp 27))] [2]) (.ret))))
noncomputable def d_impl_NotesIn_j2 (v6 : (List GReq)) : Option (List GReq) :=
  some v6
noncomputable def d_impl_NotesIn_l1 (p0 : (List GFrame)) (L1 : ((List GReq) × Int) → Option (List GReq)) (x_ : ((List GReq) × Int)) : Option (List GReq) :=
  match x_ with
  | (v2, v3) => br (decide (v3 < (↑p0.length : Int)))
    (bd (at? p0 v3) fun x4 =>
    bd (d_impl_ReqRead x4.Body) fun x5 =>
    br (!x5.snd)
      (jn (d_impl_NotesIn_j2) v2)
      (gd (List.length v2 + [x5.fst].length ≤ lim) (
      L1 ((v2 ++ [x5.fst], w64 (v3 + 1))))))
    (jn (d_impl_NotesIn_j2) v2)
noncomputable def d_impl_NotesIn (p0 : (List GFrame)) : Option (List GReq) :=
  loopN (d_impl_NotesIn_l1 p0) big ([], 0)
noncomputable def gf_impl_NotesIn : GF := y_impl_NotesIn.gf rfl rfl (fun a => d_impl_NotesIn a.1) (fun a => by kernel_rfl)

noncomputable def y_laws_eqFrame : Y.YF where
  R := []
  ps := [.v (.st 15), .v (.st 15)]
  fs := []
  rk := .ret [.b]
  rs := [.tmp 4]
  body := .seq (.region [(none, .box 2 (.tmp 0)),
 (none, .box 3 (.tmp 1)),
 (none, .as 4 (.k (.bool false)))] [2, 3]) (.seq (.seq (.region [(none, .fa 5 0 (.tmp 2)),
 (none, .ld 6 none (.tmp 5)),
 (none, .fa 7 0 (.tmp 3)),
 (none, .ld 8 none (.tmp 7)),
 (none, .bin 9 .num .neq (.tmp 6) (.tmp 8))] [2, 3, 9]) (.cond 9 [] [2, 3] (.seq (.region [(none, .as 4 (.k (.bool false)))] [4]) (.ret)) (.skip))) (.seq (.seq (.region [(none, .fa 10 1 (.tmp 2)),
 (none, .ld 11 none (.tmp 10)),
 (none, .fa 12 1 (.tmp 3)),
 (none, .ld 13 none (.tmp 12)),
 (none, .bin 14 .num .neq (.tmp 11) (.tmp 13))] [2, 3, 14]) (.cond 14 [] [2, 3] (.seq (.region [(none, .as 4 (.k (.bool false)))] [4]) (.ret)) (.skip))) (.seq (.seq (.region [(none, .fa 15 2 (.tmp 2)),
 (none, .ld 16 none (.tmp 15)),
 (none, .fa 17 2 (.tmp 3)),
 (none, .ld 18 none (.tmp 17)),
 (none, .bin 19 .num .neq (.tmp 16) (.tmp 18))] [19]) (.cond 19 [] [] (.seq (.region [(none, .as 4 (.k (.bool false)))] [4]) (.ret)) (.skip))) (.seq (.region [(none, .as 4 (.k (.bool true)))] [4]) (.ret)))))
noncomputable def d_laws_eqFrame (p0 : GFrame) (p1 : GFrame) : Option Bool :=
  br (p0.Seq != p1.Seq)
    (some false)
    (br (p0.Body != p1.Body)
      (some false)
      (br (p0.Next != p1.Next)
        (some false)
        (some true)))
noncomputable def gf_laws_eqFrame : GF := y_laws_eqFrame.gf rfl rfl (fun a => d_laws_eqFrame a.1 a.2.1) (fun a => by kernel_rfl)

noncomputable def y_laws_eqFrameS : Y.YF where
  R := []
  ps := [.v (.l (.st 15)), .v (.l (.st 15))]
  fs := []
  rk := .ret [.b]
  rs := [.tmp 4]
  body := .seq (.region [(none, .as 4 (.k (.bool false)))] [0, 1]) (.seq (.seq (.region [(none, .mv 6 (.tmp 0)),
 (none, .len 7 (.tmp 6)),
 (none, .mv 8 (.tmp 1)),
 (none, .len 9 (.tmp 8)),
 (none, .bin 10 .num .neq (.tmp 7) (.tmp 9))] [0, 1, 10]) (.cond 10 [] [0, 1] (.seq (.region [(none, .as 4 (.k (.bool false)))] [4]) (.ret)) (.skip))) (.join [] (.seq (.region [(none, .as 5 (.k (.int .i64 0)))] [0, 1, 5]) (.block 0 (.loop [(false, 5, .one, [.val .i none])] (.seq (.seq (.region [(none, .mv 11 (.tmp 5)),
 (none, .mv 12 (.tmp 0)),
 (none, .len 13 (.tmp 12)),
 (none, .bin 14 .num .lss (.tmp 11) (.tmp 13))] [0, 1, 5, 14]) (.cond 14 [0, 1, 5] [] (.skip) (.exit 0))) (.seq (.block 1 (.seq (.dreg (.op 0 none [] (.mv 17 (.tmp 0))
 (.op 1 none [] (.mv 18 (.tmp 5))
 (.op 2 none [] (.ia 19 (.st 15) (.tmp 17) (.tmp 18))
 (.op 3 none [] (.ld 20 (some 3) (.tmp 19))
 (.op 4 none [] (.mv 21 (.tmp 1))
 (.op 5 none [] (.mv 22 (.tmp 5))
 (.op 6 none [] (.ia 23 (.st 15) (.tmp 21) (.tmp 22))
 (.op 7 none [] (.ld 24 (some 3) (.tmp 23))
 (.op 8 none [] (.call 25 gf_laws_eqFrame [] rfl [(.tmp 20), (.tmp 24)])
 (.op 9 none [] (.un 26 .not (.tmp 25))
 .nil)))))))))) [0, 1, 5, 26]) (.cond 26 [] [0, 1, 5] (.seq (.region [(none, .as 4 (.k (.bool false)))] [4]) (.ret)) (.skip)))) (.region [(none, .mv 15 (.tmp 5)),
 (none, .bin 16 .num .add (.tmp 15) (.k (.int .i64 1))),
 (none, .as 5 (.tmp 16))] [0, 1, 5])))))) (.seq (.region [(none, .as 4 (.k (.bool true)))] [4]) (.ret))))
noncomputable def d_laws_eqFrameS_j2 (_ : PUnit) : Option Bool :=
  some true
noncomputable def d_laws_eqFrameS_l1 (p0 : (List GFrame)) (p1 : (List GFrame)) (L1 : Int → Option Bool) (v2 : Int) : Option Bool :=
  br (decide (v2 < (↑p0.length : Int)))
    (bd (at? p0 v2) fun x3 =>
    bd (at? p1 v2) fun x4 =>
    bd (d_laws_eqFrame x3 x4) fun x5 =>
    br (!x5)
      (some false)
      (L1 (w64 (v2 + 1))))
    (jn (d_laws_eqFrameS_j2) ())
noncomputable def d_laws_eqFrameS (p0 : (List GFrame)) (p1 : (List GFrame)) : Option Bool :=
  br ((↑p0.length : Int) != (↑p1.length : Int))
    (some false)
    (loopN (d_laws_eqFrameS_l1 p0 p1) big 0)
noncomputable def gf_laws_eqFrameS : GF := y_laws_eqFrameS.gf rfl rfl (fun a => d_laws_eqFrameS a.1 a.2.1) (fun a => by kernel_rfl)

noncomputable def y_laws_markText : Y.YF where
  R := []
  ps := [.v .i]
  fs := []
  rk := .ret [.s]
  rs := [.tmp 2]
  body := .seq (.region [(none, .as 2 (.k (.str [])))] [0]) (.seq (.seq (.region [(none, .mv 4 (.tmp 0)),
 (none, .bin 5 .num .leq (.tmp 4) (.k (.int .i64 0)))] [0, 5]) (.cond 5 [] [0] (.seq (.region [(none, .as 2 (.k (.str [109, 48])))] [2]) (.ret)) (.skip))) (.seq (.region [(none, .as 3 (.k (.str [])))] [0, 3]) (.join [(false, 3, .one, [.val .s none])] (.block 0 (.loop [(false, 0, .one, [.val .i none]), (false, 3, .one, [.val .s none])] (.seq (.seq (.region [(none, .mv 6 (.tmp 0)),
 (none, .bin 7 .num .gtr (.tmp 6) (.k (.int .i64 0)))] [0, 3, 7]) (.cond 7 [0, 3] [3] (.skip) (.exit 0))) (.block 1 (.seq (.region [(none, .mv 8 (.tmp 0)),
 (none, .bin 9 .num .rem (.tmp 8) (.k (.int .i64 10))),
 (none, .bin 10 .num .add (.k (.int .i64 48)) (.tmp 9)),
 (none, .cvI 11 .u8 (.tmp 10)),
 (none, .bslice 12 1 .u [(0, (.tmp 11))]),
 (none, .cvBS 13 (.tmp 12)),
 (none, .mv 14 (.tmp 3)),
 (none, .bin 15 .num .add (.tmp 13) (.tmp 14)),
 (none, .as 3 (.tmp 15))] [0, 3]) (.region [(none, .mv 16 (.tmp 0)),
 (none, .bin 17 .num .quo (.tmp 16) (.k (.int .i64 10))),
 (none, .as 0 (.tmp 17))] [0, 3])))))) (.seq (.region [(none, .mv 18 (.tmp 3)),
 (none, .bin 19 .num .add (.k (.str [109])) (.tmp 18)),
 (none, .as 2 (.tmp 19))] [2]) (.ret)))))
noncomputable def d_laws_markText_j2 (v4 : (List UInt8)) : Option (List UInt8) :=
  gd ([109].length + v4.length ≤ slim) (
  some ([109] ++ v4))
noncomputable def d_laws_markText_l1 (L1 : (Int × (List UInt8)) → Option (List UInt8)) (x_ : (Int × (List UInt8))) : Option (List UInt8) :=
  match x_ with
  | (v2, v3) => br (decide (v2 > 0))
    (gd ([toB (w64 (48 + Int.tmod v2 10))].length + v3.length ≤ slim) (
    L1 ((w64 (Int.tdiv v2 10), [toB (w64 (48 + Int.tmod v2 10))] ++ v3))))
    (jn (d_laws_markText_j2) v3)
noncomputable def d_laws_markText (p0 : Int) : Option (List UInt8) :=
  br (decide (p0 ≤ 0))
    (some ([109, 48]))
    (loopN (d_laws_markText_l1) big (p0, []))
noncomputable def gf_laws_markText : GF := y_laws_markText.gf rfl rfl (fun a => d_laws_markText a.1) (fun a => by kernel_rfl)

noncomputable def y_laws_markFrameS : Y.YF where
  R := []
  ps := [.m (.l (.st 15)), .v .i]
  fs := []
  rk := .ret [.i]
  rs := [.tmp 4]
  body := .seq (.region [(none, .as 4 (.k (.int .i64 0)))] [0, 1]) (.join [(false, 0, .one, [.val (.l (.st 15)) none]), (false, 1, .one, [.val .i none])] (.seq (.region [(none, .as 5 (.k (.int .i64 0)))] [0, 1, 5]) (.block 0 (.loop [(false, 0, .one, [.val (.l (.st 15)) none]), (false, 1, .one, [.val .i none]), (false, 5, .one, [.val .i none])] (.seq (.seq (.region [(none, .mv 6 (.tmp 5)),
 (none, .mv 7 (.tmp 0)),
 (none, .len 8 (.tmp 7)),
 (none, .bin 9 .num .lss (.tmp 6) (.tmp 8))] [0, 1, 5, 9]) (.cond 9 [0, 1, 5] [0, 1] (.skip) (.exit 0))) (.seq (.block 1 (.seq (.region [(none, .mv 12 (.tmp 0)),
 (none, .mv 13 (.tmp 5)),
 (none, .mv 14 (.tmp 1)),
 (none, .ia 15 (.st 15) (.tmp 12) (.tmp 13)),
 (none, .fa 16 0 (.tmp 15)),
 (none, .st 1 (.tmp 16) (.tmp 14))] [0, 1, 5]) (.seq (.region [(none, .mv 17 (.tmp 1)),
 (none, .bin 18 .num .add (.tmp 17) (.k (.int .i64 1))),
 (none, .as 1 (.tmp 18))] [0, 1, 5]) (.seq (.region [(none, .mv 19 (.tmp 0)),
 (none, .mv 20 (.tmp 5)),
 (none, .mv 21 (.tmp 1)),
 (none, .call 22 gf_laws_markText [] rfl [(.tmp 21)]),
 (none, .ia 23 (.st 15) (.tmp 19) (.tmp 20)),
 (none, .fa 24 1 (.tmp 23)),
 (none, .st 1 (.tmp 24) (.tmp 22))] [0, 1, 5]) (.seq (.region [(none, .mv 25 (.tmp 1)),
 (none, .bin 26 .num .add (.tmp 25) (.k (.int .i64 1))),
 (none, .as 1 (.tmp 26))] [0, 1, 5]) (.seq (.region [(none, .mv 27 (.tmp 0)),
 (none, .mv 28 (.tmp 5)),
 (none, .mv 29 (.tmp 1)),
 (none, .ia 30 (.st 15) (.tmp 27) (.tmp 28)),
 (none, .fa 31 2 (.tmp 30)),
 (none, .st 1 (.tmp 31) (.tmp 29))] [0, 1, 5]) (.region [(none, .mv 32 (.tmp 1)),
 (none, .bin 33 .num .add (.tmp 32) (.k (.int .i64 1))),
 (none, .as 1 (.tmp 33))] [0, 1, 5]))))))) (.region [(none, .mv 10 (.tmp 5)),
 (none, .bin 11 .num .add (.tmp 10) (.k (.int .i64 1))),
 (none, .as 5 (.tmp 11))] [0, 1, 5])))))) (.seq (.region [(none, .mv 34 (.tmp 1)),
 (none, .as 4 (.tmp 34))] [0, 4]) (.ret)))
noncomputable def d_laws_markFrameS_j2 (x_ : ((List GFrame) × Int)) : Option (Int × (List GFrame)) :=
  match x_ with
  | (v12, v13) => some (v13, v12)
noncomputable def d_laws_markFrameS_l1 (L1 : ((List GFrame) × Int × Int) → Option (Int × (List GFrame))) (x_ : ((List GFrame) × Int × Int)) : Option (Int × (List GFrame)) :=
  match x_ with
  | (v2, v3, v4) => br (decide (v4 < (↑(List.length v2) : Int)))
    (bd (at? v2 v4) fun x5 =>
    bd (at? v2 v4) fun x6 =>
    bd (d_laws_markText (w64 (v3 + 1))) fun x7 =>
    bd (at? (List.set v2 v4.toNat (GFrame.mk v3 x6.Body x6.Next)) v4) fun x8 =>
    bd (at? (List.set v2 v4.toNat (GFrame.mk v3 x6.Body x6.Next)) v4) fun x9 =>
    bd (at? ((List.set v2 v4.toNat (GFrame.mk v3 x6.Body x6.Next)).set v4.toNat (GFrame.mk x9.Seq x7 x9.Next)) v4) fun x10 =>
    bd (at? ((List.set v2 v4.toNat (GFrame.mk v3 x6.Body x6.Next)).set v4.toNat (GFrame.mk x9.Seq x7 x9.Next)) v4) fun x11 =>
    L1 ((((List.set v2 v4.toNat (GFrame.mk v3 x6.Body x6.Next)).set v4.toNat (GFrame.mk x9.Seq x7 x9.Next)).set v4.toNat (GFrame.mk x11.Seq x11.Body (w64 (w64 (v3 + 1) + 1))), w64 (w64 (w64 (v3 + 1) + 1) + 1), w64 (v4 + 1))))
    (jn (d_laws_markFrameS_j2) (v2, v3))
noncomputable def d_laws_markFrameS (p0 : (List GFrame)) (p1 : Int) : Option (Int × (List GFrame)) :=
  loopN (d_laws_markFrameS_l1) big (p0, p1, 0)
noncomputable def gf_laws_markFrameS : GF := y_laws_markFrameS.gf rfl rfl (fun a => d_laws_markFrameS a.1 a.2.1) (fun a => by kernel_rfl)

noncomputable def y_laws_markReqS : Y.YF where
  R := []
  ps := [.m (.l (.st 0)), .v .i]
  fs := []
  rk := .ret [.i]
  rs := [.tmp 4]
  body := .seq (.region [(none, .as 4 (.k (.int .i64 0)))] [0, 1]) (.join [(false, 0, .one, [.val (.l (.st 0)) none]), (false, 1, .one, [.val .i none])] (.seq (.region [(none, .as 5 (.k (.int .i64 0)))] [0, 1, 5]) (.block 0 (.loop [(false, 0, .one, [.val (.l (.st 0)) none]), (false, 1, .one, [.val .i none]), (false, 5, .one, [.val .i none])] (.seq (.seq (.region [(none, .mv 6 (.tmp 5)),
 (none, .mv 7 (.tmp 0)),
 (none, .len 8 (.tmp 7)),
 (none, .bin 9 .num .lss (.tmp 6) (.tmp 8))] [0, 1, 5, 9]) (.cond 9 [0, 1, 5] [0, 1] (.skip) (.exit 0))) (.seq (.block 1 (.seq (.region [(none, .mv 12 (.tmp 0)),
 (none, .mv 13 (.tmp 5)),
 (none, .mv 14 (.tmp 1)),
 (none, .ia 15 (.st 0) (.tmp 12) (.tmp 13)),
 (none, .fa 16 0 (.tmp 15)),
 (none, .st 1 (.tmp 16) (.tmp 14))] [0, 1, 5]) (.seq (.region [(none, .mv 17 (.tmp 1)),
 (none, .bin 18 .num .add (.tmp 17) (.k (.int .i64 1))),
 (none, .as 1 (.tmp 18))] [0, 1, 5]) (.seq (.region [(none, .mv 19 (.tmp 0)),
 (none, .mv 20 (.tmp 5)),
 (none, .mv 21 (.tmp 1)),
 (none, .ia 22 (.st 0) (.tmp 19) (.tmp 20)),
 (none, .fa 23 1 (.tmp 22)),
 (none, .st 1 (.tmp 23) (.tmp 21))] [0, 1, 5]) (.seq (.region [(none, .mv 24 (.tmp 1)),
 (none, .bin 25 .num .add (.tmp 24) (.k (.int .i64 1))),
 (none, .as 1 (.tmp 25))] [0, 1, 5]) (.seq (.region [(none, .mv 26 (.tmp 0)),
 (none, .mv 27 (.tmp 5)),
 (none, .mv 28 (.tmp 1)),
 (none, .ia 29 (.st 0) (.tmp 26) (.tmp 27)),
 (none, .fa 30 2 (.tmp 29)),
 (none, .st 1 (.tmp 30) (.tmp 28))] [0, 1, 5]) (.seq (.region [(none, .mv 31 (.tmp 1)),
 (none, .bin 32 .num .add (.tmp 31) (.k (.int .i64 1))),
 (none, .as 1 (.tmp 32))] [0, 1, 5]) (.seq (.region [(none, .mv 33 (.tmp 0)),
 (none, .mv 34 (.tmp 5)),
 (none, .mv 35 (.tmp 1)),
 (none, .ia 36 (.st 0) (.tmp 33) (.tmp 34)),
 (none, .fa 37 3 (.tmp 36)),
 (none, .st 1 (.tmp 37) (.tmp 35))] [0, 1, 5]) (.seq (.region [(none, .mv 38 (.tmp 1)),
 (none, .bin 39 .num .add (.tmp 38) (.k (.int .i64 1))),
 (none, .as 1 (.tmp 39))] [0, 1, 5]) (.seq (.region [(none, .mv 40 (.tmp 0)),
 (none, .mv 41 (.tmp 5)),
 (none, .mv 42 (.tmp 1)),
 (none, .ia 43 (.st 0) (.tmp 40) (.tmp 41)),
 (none, .fa 44 4 (.tmp 43)),
 (none, .st 1 (.tmp 44) (.tmp 42))] [0, 1, 5]) (.seq (.region [(none, .mv 45 (.tmp 1)),
 (none, .bin 46 .num .add (.tmp 45) (.k (.int .i64 1))),
 (none, .as 1 (.tmp 46))] [0, 1, 5]) (.seq (.region [(none, .mv 47 (.tmp 0)),
 (none, .mv 48 (.tmp 5)),
 (none, .mv 49 (.tmp 1)),
 (none, .ia 50 (.st 0) (.tmp 47) (.tmp 48)),
 (none, .fa 51 5 (.tmp 50)),
 (none, .st 1 (.tmp 51) (.tmp 49))] [0, 1, 5]) (.region [(none, .mv 52 (.tmp 1)),
 (none, .bin 53 .num .add (.tmp 52) (.k (.int .i64 1))),
 (none, .as 1 (.tmp 53))] [0, 1, 5]))))))))))))) (.region [(none, .mv 10 (.tmp 5)),
 (none, .bin 11 .num .add (.tmp 10) (.k (.int .i64 1))),
 (none, .as 5 (.tmp 11))] [0, 1, 5])))))) (.seq (.region [(none, .mv 54 (.tmp 1)),
 (none, .as 4 (.tmp 54))] [0, 4]) (.ret)))
noncomputable def d_laws_markReqS_j2 (x_ : ((List GReq) × Int)) : Option (Int × (List GReq)) :=
  match x_ with
  | (v17, v18) => some (v18, v17)
noncomputable def d_laws_markReqS_l1 (L1 : ((List GReq) × Int × Int) → Option (Int × (List GReq))) (x_ : ((List GReq) × Int × Int)) : Option (Int × (List GReq)) :=
  match x_ with
  | (v2, v3, v4) => br (decide (v4 < (↑(List.length v2) : Int)))
    (bd (at? v2 v4) fun x5 =>
    bd (at? v2 v4) fun x6 =>
    bd (at? (List.set v2 v4.toNat (GReq.mk v3 x6.Id x6.Cabin x6.From x6.Size x6.Tier)) v4) fun x7 =>
    bd (at? (List.set v2 v4.toNat (GReq.mk v3 x6.Id x6.Cabin x6.From x6.Size x6.Tier)) v4) fun x8 =>
    bd (at? ((List.set v2 v4.toNat (GReq.mk v3 x6.Id x6.Cabin x6.From x6.Size x6.Tier)).set v4.toNat (GReq.mk x8.Kind (w64 (v3 + 1)) x8.Cabin x8.From x8.Size x8.Tier)) v4) fun x9 =>
    bd (at? ((List.set v2 v4.toNat (GReq.mk v3 x6.Id x6.Cabin x6.From x6.Size x6.Tier)).set v4.toNat (GReq.mk x8.Kind (w64 (v3 + 1)) x8.Cabin x8.From x8.Size x8.Tier)) v4) fun x10 =>
    bd (at? (((List.set v2 v4.toNat (GReq.mk v3 x6.Id x6.Cabin x6.From x6.Size x6.Tier)).set v4.toNat (GReq.mk x8.Kind (w64 (v3 + 1)) x8.Cabin x8.From x8.Size x8.Tier)).set v4.toNat (GReq.mk x10.Kind x10.Id (w64 (w64 (v3 + 1) + 1)) x10.From x10.Size x10.Tier)) v4) fun x11 =>
    bd (at? (((List.set v2 v4.toNat (GReq.mk v3 x6.Id x6.Cabin x6.From x6.Size x6.Tier)).set v4.toNat (GReq.mk x8.Kind (w64 (v3 + 1)) x8.Cabin x8.From x8.Size x8.Tier)).set v4.toNat (GReq.mk x10.Kind x10.Id (w64 (w64 (v3 + 1) + 1)) x10.From x10.Size x10.Tier)) v4) fun x12 =>
    bd (at? ((((List.set v2 v4.toNat (GReq.mk v3 x6.Id x6.Cabin x6.From x6.Size x6.Tier)).set v4.toNat (GReq.mk x8.Kind (w64 (v3 + 1)) x8.Cabin x8.From x8.Size x8.Tier)).set v4.toNat (GReq.mk x10.Kind x10.Id (w64 (w64 (v3 + 1) + 1)) x10.From x10.Size x10.Tier)).set v4.toNat (GReq.mk x12.Kind x12.Id x12.Cabin (w64 (w64 (w64 (v3 + 1) + 1) + 1)) x12.Size x12.Tier)) v4) fun x13 =>
    bd (at? ((((List.set v2 v4.toNat (GReq.mk v3 x6.Id x6.Cabin x6.From x6.Size x6.Tier)).set v4.toNat (GReq.mk x8.Kind (w64 (v3 + 1)) x8.Cabin x8.From x8.Size x8.Tier)).set v4.toNat (GReq.mk x10.Kind x10.Id (w64 (w64 (v3 + 1) + 1)) x10.From x10.Size x10.Tier)).set v4.toNat (GReq.mk x12.Kind x12.Id x12.Cabin (w64 (w64 (w64 (v3 + 1) + 1) + 1)) x12.Size x12.Tier)) v4) fun x14 =>
    bd (at? (((((List.set v2 v4.toNat (GReq.mk v3 x6.Id x6.Cabin x6.From x6.Size x6.Tier)).set v4.toNat (GReq.mk x8.Kind (w64 (v3 + 1)) x8.Cabin x8.From x8.Size x8.Tier)).set v4.toNat (GReq.mk x10.Kind x10.Id (w64 (w64 (v3 + 1) + 1)) x10.From x10.Size x10.Tier)).set v4.toNat (GReq.mk x12.Kind x12.Id x12.Cabin (w64 (w64 (w64 (v3 + 1) + 1) + 1)) x12.Size x12.Tier)).set v4.toNat (GReq.mk x14.Kind x14.Id x14.Cabin x14.From (w64 (w64 (w64 (w64 (v3 + 1) + 1) + 1) + 1)) x14.Tier)) v4) fun x15 =>
    bd (at? (((((List.set v2 v4.toNat (GReq.mk v3 x6.Id x6.Cabin x6.From x6.Size x6.Tier)).set v4.toNat (GReq.mk x8.Kind (w64 (v3 + 1)) x8.Cabin x8.From x8.Size x8.Tier)).set v4.toNat (GReq.mk x10.Kind x10.Id (w64 (w64 (v3 + 1) + 1)) x10.From x10.Size x10.Tier)).set v4.toNat (GReq.mk x12.Kind x12.Id x12.Cabin (w64 (w64 (w64 (v3 + 1) + 1) + 1)) x12.Size x12.Tier)).set v4.toNat (GReq.mk x14.Kind x14.Id x14.Cabin x14.From (w64 (w64 (w64 (w64 (v3 + 1) + 1) + 1) + 1)) x14.Tier)) v4) fun x16 =>
    L1 (((((((List.set v2 v4.toNat (GReq.mk v3 x6.Id x6.Cabin x6.From x6.Size x6.Tier)).set v4.toNat (GReq.mk x8.Kind (w64 (v3 + 1)) x8.Cabin x8.From x8.Size x8.Tier)).set v4.toNat (GReq.mk x10.Kind x10.Id (w64 (w64 (v3 + 1) + 1)) x10.From x10.Size x10.Tier)).set v4.toNat (GReq.mk x12.Kind x12.Id x12.Cabin (w64 (w64 (w64 (v3 + 1) + 1) + 1)) x12.Size x12.Tier)).set v4.toNat (GReq.mk x14.Kind x14.Id x14.Cabin x14.From (w64 (w64 (w64 (w64 (v3 + 1) + 1) + 1) + 1)) x14.Tier)).set v4.toNat (GReq.mk x16.Kind x16.Id x16.Cabin x16.From x16.Size (w64 (w64 (w64 (w64 (w64 (v3 + 1) + 1) + 1) + 1) + 1))), w64 (w64 (w64 (w64 (w64 (w64 (v3 + 1) + 1) + 1) + 1) + 1) + 1), w64 (v4 + 1))))
    (jn (d_laws_markReqS_j2) (v2, v3))
noncomputable def d_laws_markReqS (p0 : (List GReq)) (p1 : Int) : Option (Int × (List GReq)) :=
  loopN (d_laws_markReqS_l1) big (p0, p1, 0)
noncomputable def gf_laws_markReqS : GF := y_laws_markReqS.gf rfl rfl (fun a => d_laws_markReqS a.1 a.2.1) (fun a => by kernel_rfl)

noncomputable def y_laws_heldReqS : Y.YF where
  R := []
  ps := [.v (.l (.st 0)), .v .i]
  fs := []
  rk := .ret [.i]
  rs := [.tmp 4]
  body := .seq (.region [(none, .as 4 (.k (.int .i64 0)))] [0, 1]) (.join [(false, 1, .one, [.val .i none])] (.seq (.region [(none, .as 5 (.k (.int .i64 0)))] [0, 1, 5]) (.block 0 (.loop [(false, 1, .one, [.val .i none]), (false, 5, .one, [.val .i none])] (.seq (.seq (.region [(none, .mv 6 (.tmp 5)),
 (none, .mv 7 (.tmp 0)),
 (none, .len 8 (.tmp 7)),
 (none, .bin 9 .num .lss (.tmp 6) (.tmp 8))] [0, 1, 5, 9]) (.cond 9 [0, 1, 5] [1] (.skip) (.exit 0))) (.seq (.block 1 (.seq (.seq (.region [(none, .mv 12 (.tmp 0)),
 (none, .mv 13 (.tmp 5)),
 (none, .ia 14 (.st 0) (.tmp 12) (.tmp 13)),
 (none, .fa 15 0 (.tmp 14)),
 (none, .ld 16 none (.tmp 15)),
 (none, .mv 17 (.tmp 1)),
 (none, .bin 18 .num .neq (.tmp 16) (.tmp 17))] [0, 1, 5, 18]) (.cond 18 [] [0, 1, 5] (.seq (.region [(none, .as 4 (.k (.int .i64 (-1))))] [4]) (.ret)) (.skip))) (.seq (.region [(none, .mv 19 (.tmp 1)),
 (none, .bin 20 .num .add (.tmp 19) (.k (.int .i64 1))),
 (none, .as 1 (.tmp 20))] [0, 1, 5]) (.seq (.seq (.region [(none, .mv 21 (.tmp 0)),
 (none, .mv 22 (.tmp 5)),
 (none, .ia 23 (.st 0) (.tmp 21) (.tmp 22)),
 (none, .fa 24 1 (.tmp 23)),
 (none, .ld 25 none (.tmp 24)),
 (none, .mv 26 (.tmp 1)),
 (none, .bin 27 .num .neq (.tmp 25) (.tmp 26))] [0, 1, 5, 27]) (.cond 27 [] [0, 1, 5] (.seq (.region [(none, .as 4 (.k (.int .i64 (-1))))] [4]) (.ret)) (.skip))) (.seq (.region [(none, .mv 28 (.tmp 1)),
 (none, .bin 29 .num .add (.tmp 28) (.k (.int .i64 1))),
 (none, .as 1 (.tmp 29))] [0, 1, 5]) (.seq (.seq (.region [(none, .mv 30 (.tmp 0)),
 (none, .mv 31 (.tmp 5)),
 (none, .ia 32 (.st 0) (.tmp 30) (.tmp 31)),
 (none, .fa 33 2 (.tmp 32)),
 (none, .ld 34 none (.tmp 33)),
 (none, .mv 35 (.tmp 1)),
 (none, .bin 36 .num .neq (.tmp 34) (.tmp 35))] [0, 1, 5, 36]) (.cond 36 [] [0, 1, 5] (.seq (.region [(none, .as 4 (.k (.int .i64 (-1))))] [4]) (.ret)) (.skip))) (.seq (.region [(none, .mv 37 (.tmp 1)),
 (none, .bin 38 .num .add (.tmp 37) (.k (.int .i64 1))),
 (none, .as 1 (.tmp 38))] [0, 1, 5]) (.seq (.seq (.region [(none, .mv 39 (.tmp 0)),
 (none, .mv 40 (.tmp 5)),
 (none, .ia 41 (.st 0) (.tmp 39) (.tmp 40)),
 (none, .fa 42 3 (.tmp 41)),
 (none, .ld 43 none (.tmp 42)),
 (none, .mv 44 (.tmp 1)),
 (none, .bin 45 .num .neq (.tmp 43) (.tmp 44))] [0, 1, 5, 45]) (.cond 45 [] [0, 1, 5] (.seq (.region [(none, .as 4 (.k (.int .i64 (-1))))] [4]) (.ret)) (.skip))) (.seq (.region [(none, .mv 46 (.tmp 1)),
 (none, .bin 47 .num .add (.tmp 46) (.k (.int .i64 1))),
 (none, .as 1 (.tmp 47))] [0, 1, 5]) (.seq (.seq (.region [(none, .mv 48 (.tmp 0)),
 (none, .mv 49 (.tmp 5)),
 (none, .ia 50 (.st 0) (.tmp 48) (.tmp 49)),
 (none, .fa 51 4 (.tmp 50)),
 (none, .ld 52 none (.tmp 51)),
 (none, .mv 53 (.tmp 1)),
 (none, .bin 54 .num .neq (.tmp 52) (.tmp 53))] [0, 1, 5, 54]) (.cond 54 [] [0, 1, 5] (.seq (.region [(none, .as 4 (.k (.int .i64 (-1))))] [4]) (.ret)) (.skip))) (.seq (.region [(none, .mv 55 (.tmp 1)),
 (none, .bin 56 .num .add (.tmp 55) (.k (.int .i64 1))),
 (none, .as 1 (.tmp 56))] [0, 1, 5]) (.seq (.seq (.region [(none, .mv 57 (.tmp 0)),
 (none, .mv 58 (.tmp 5)),
 (none, .ia 59 (.st 0) (.tmp 57) (.tmp 58)),
 (none, .fa 60 5 (.tmp 59)),
 (none, .ld 61 none (.tmp 60)),
 (none, .mv 62 (.tmp 1)),
 (none, .bin 63 .num .neq (.tmp 61) (.tmp 62))] [0, 1, 5, 63]) (.cond 63 [] [0, 1, 5] (.seq (.region [(none, .as 4 (.k (.int .i64 (-1))))] [4]) (.ret)) (.skip))) (.region [(none, .mv 64 (.tmp 1)),
 (none, .bin 65 .num .add (.tmp 64) (.k (.int .i64 1))),
 (none, .as 1 (.tmp 65))] [0, 1, 5]))))))))))))) (.region [(none, .mv 10 (.tmp 5)),
 (none, .bin 11 .num .add (.tmp 10) (.k (.int .i64 1))),
 (none, .as 5 (.tmp 11))] [0, 1, 5])))))) (.seq (.region [(none, .mv 66 (.tmp 1)),
 (none, .as 4 (.tmp 66))] [4]) (.ret)))
noncomputable def d_laws_heldReqS_j2 (v10 : Int) : Option Int :=
  some v10
noncomputable def d_laws_heldReqS_l1 (p0 : (List GReq)) (L1 : (Int × Int) → Option Int) (x_ : (Int × Int)) : Option Int :=
  match x_ with
  | (v2, v3) => br (decide (v3 < (↑p0.length : Int)))
    (bd (at? p0 v3) fun x4 =>
    br (x4.Kind != v2)
      (some (-1))
      (bd (at? p0 v3) fun x5 =>
      br (x5.Id != w64 (v2 + 1))
        (some (-1))
        (bd (at? p0 v3) fun x6 =>
        br (x6.Cabin != w64 (w64 (v2 + 1) + 1))
          (some (-1))
          (bd (at? p0 v3) fun x7 =>
          br (x7.From != w64 (w64 (w64 (v2 + 1) + 1) + 1))
            (some (-1))
            (bd (at? p0 v3) fun x8 =>
            br (x8.Size != w64 (w64 (w64 (w64 (v2 + 1) + 1) + 1) + 1))
              (some (-1))
              (bd (at? p0 v3) fun x9 =>
              br (x9.Tier != w64 (w64 (w64 (w64 (w64 (v2 + 1) + 1) + 1) + 1) + 1))
                (some (-1))
                (L1 ((w64 (w64 (w64 (w64 (w64 (w64 (v2 + 1) + 1) + 1) + 1) + 1) + 1), w64 (v3 + 1))))))))))
    (jn (d_laws_heldReqS_j2) v2)
noncomputable def d_laws_heldReqS (p0 : (List GReq)) (p1 : Int) : Option Int :=
  loopN (d_laws_heldReqS_l1 p0) big (p1, 0)
noncomputable def gf_laws_heldReqS : GF := y_laws_heldReqS.gf rfl rfl (fun a => d_laws_heldReqS a.1 a.2.1) (fun a => by kernel_rfl)

end Lv

