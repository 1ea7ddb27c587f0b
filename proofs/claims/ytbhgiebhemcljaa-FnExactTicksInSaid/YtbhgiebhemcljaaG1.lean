/-
  Printed by dc.py: functions of the program as code of the light evaluator, as plain functions, and that the one runs as the other.
-/
import Derived.Test.YtbhgiebhemcljaaLvE
set_option linter.unusedVariables false
set_option linter.unusedSimpArgs false
set_option linter.unusedVariables false
set_option linter.unusedSimpArgs false
namespace Lv
open Go (IntKind BinOp UnOp)

structure GReply where
  Code : Int
  Ids : List Int
  deriving DecidableEq, Inhabited, Repr
def okGReply (x : GReply) : Prop := okI x.Code ∧ (okL okI) x.Ids ∧ True
abbrev eGReply (x : GReply) : List T := [eI x.Code, .sl 1 (x.Ids.map eN)]
structure GReq where
  Kind : Int
  Id : Int
  Cabin : Int
  From : Int
  Size : Int
  Tier : Int
  deriving DecidableEq, Inhabited, Repr
def okGReq (x : GReq) : Prop := okI x.Kind ∧ okI x.Id ∧ okI x.Cabin ∧ okI x.From ∧ okI x.Size ∧ okI x.Tier ∧ True
abbrev eGReq (x : GReq) : List T := [eI x.Kind, eI x.Id, eI x.Cabin, eI x.From, eI x.Size, eI x.Tier]
@[reducible, simp] def eqGReq (a b : GReq) : Bool := (a.Kind == b.Kind && (a.Id == b.Id && (a.Cabin == b.Cabin && (a.From == b.From && (a.Size == b.Size && (a.Tier == b.Tier && true))))))


/-- laws.szIntS -/
def x_laws_szIntS : XFunc := .mk [.v, .v] [.tmp 4] (.seq (.region [(none, .as 4 (.k (.int .i64 0)))] [0, 1]) (.seq (.region [(none, .mv 5 (.tmp 1)),
 (none, .drop [1]),
 (none, .mv 6 (.tmp 0)),
 (none, .len 7 (.tmp 6)),
 (none, .drop [0, 6]),
 (none, .bin 8 .num .sub (.tmp 5) (.tmp 7)),
 (none, .drop [5, 7]),
 (none, .as 1 (.tmp 8))] [1]) (.seq (.seq (.region [(none, .mv 9 (.tmp 1)),
 (none, .bin 10 .num .lss (.tmp 9) (.k (.int .i64 0)))] [1, 10]) (.cond 10 [4] [1, 4] (.seq (.region [(none, .as 4 (.k (.int .i64 (-1))))] [4]) (.ret)) (.skip))) (.seq (.region [(none, .mv 11 (.tmp 1)),
 (none, .drop [1]),
 (none, .as 4 (.tmp 11))] [4]) (.ret)))))
@[simp] theorem x_laws_szIntS_m : modes x_laws_szIntS = [.v, .v] := rfl
def d_laws_szIntS (p0 : List Int) (p1 : Int) : Option Int :=
  if (decide ((w64 (p1 - (p0.length : Int))) < 0)) = true then
    some (-1)
  else some (w64 (p1 - (p0.length : Int)))
theorem run_laws_szIntS {p0 : List Int} {p1 : Int} {r : Int} (h : d_laws_szIntS p0 p1 = some r) : Runs x_laws_szIntS [.v .one [.sl 1 (p0.map eN)], .v .one [eI p1]] .one [eI r] [] := by
  refine Runs.mk (by simp <;> rfl) ?_ (by simp)
  rw [d_laws_szIntS] at h
  refine w_seq ?_
  refine w_reg ?_
  refine k_run 1 (by simp <;> rfl) ?_
  refine k_nil ?_
  refine w_seq ?_
  refine w_st (by simp <;> rfl) ?_
  refine w_reg ?_
  refine k_run 8 (by simp <;> rfl) ?_
  refine k_nil ?_
  iterate 2 refine w_seq ?_
  refine w_st (by simp <;> rfl) ?_
  refine w_reg ?_
  refine k_run 2 (by simp <;> rfl) ?_
  refine k_nil ?_
  refine w_st (by simp <;> rfl) ?_
  rcases oif h with ⟨hb1, h⟩ | ⟨hb1, h⟩
  · have hb1s := hb1; try simp at hb1s
    refine w_true (by simp [hb1, hb1s]) ?_
    refine w_seq ?_
    refine w_st (by simp <;> rfl) ?_
    refine w_reg ?_
    refine k_run 1 (by simp <;> rfl) ?_
    refine k_nil ?_
    refine w_st (by simp <;> rfl) ?_
    refine w_ret ?_
    obtain rfl := Option.some.inj h
    simp [hb1, hb1s]
  replace hb1 := eq_false_of_ne_true hb1
  have hb1s := hb1; try simp at hb1s
  refine w_false (by simp [hb1, hb1s]) ?_
  refine w_skip ?_
  refine w_seq ?_
  refine w_st (by simp <;> rfl) ?_
  refine w_reg ?_
  refine k_run 3 (by simp <;> rfl) ?_
  refine k_nil ?_
  refine w_st (by simp <;> rfl) ?_
  refine w_ret ?_
  obtain rfl := Option.some.inj h
  simp [hb1, hb1s]

/-- laws.szReply -/
def x_laws_szReply : XFunc := .mk [.v, .v] [.tmp 4] (.seq (.region [(none, .box 2 (.tmp 0)),
 (none, .drop [0]),
 (none, .as 4 (.k (.int .i64 0)))] [1, 2]) (.seq (.region [(none, .fa 5 1 (.tmp 2)),
 (none, .ld 6 none (.tmp 5)),
 (none, .drop [5]),
 (none, .mv 7 (.tmp 1)),
 (none, .drop [1]),
 (none, .call 8 x_laws_szIntS [(.tmp 6), (.tmp 7)]),
 (none, .drop [2, 6, 7]),
 (none, .as 1 (.tmp 8))] [1]) (.seq (.seq (.region [(none, .mv 9 (.tmp 1)),
 (none, .bin 10 .num .lss (.tmp 9) (.k (.int .i64 0)))] [1, 10]) (.cond 10 [4] [1, 4] (.seq (.region [(none, .as 4 (.k (.int .i64 (-1))))] [4]) (.ret)) (.skip))) (.seq (.region [(none, .mv 11 (.tmp 1)),
 (none, .drop [1]),
 (none, .as 4 (.tmp 11))] [4]) (.ret)))))
@[simp] theorem x_laws_szReply_m : modes x_laws_szReply = [.v, .v] := rfl
def d_laws_szReply (p0 : GReply) (p1 : Int) : Option Int :=
  (d_laws_szIntS p0.Ids p1).bind fun v1 =>
  if (decide (v1 < 0)) = true then
    some (-1)
  else some v1
theorem run_laws_szReply {p0 : GReply} {p1 : Int} {r : Int} (h : d_laws_szReply p0 p1 = some r) : Runs x_laws_szReply [.v .agg [eI p0.Code, .sl 1 (p0.Ids.map eN)], .v .one [eI p1]] .one [eI r] [] := by
  refine Runs.mk (by simp <;> rfl) ?_ (by simp)
  rw [d_laws_szReply] at h
  refine w_seq ?_
  refine w_reg ?_
  refine k_run 3 (by simp <;> rfl) ?_
  refine k_nil ?_
  refine w_seq ?_
  refine w_st (by simp <;> rfl) ?_
  refine w_reg ?_
  refine k_run 5 (by simp <;> rfl) ?_
  obtain ⟨v1, hv2, h⟩ := ob h
  apply k_call (by simp <;> rfl) (by simp <;> rfl)
  · first | exact run_laws_szIntS hv2 | simpa using run_laws_szIntS hv2
  · simp <;> rfl
  refine k_run 2 (by simp <;> rfl) ?_
  refine k_nil ?_
  iterate 2 refine w_seq ?_
  refine w_st (by simp <;> rfl) ?_
  refine w_reg ?_
  refine k_run 2 (by simp <;> rfl) ?_
  refine k_nil ?_
  refine w_st (by simp <;> rfl) ?_
  rcases oif h with ⟨hb3, h⟩ | ⟨hb3, h⟩
  · have hb3s := hb3; try simp at hb3s
    refine w_true (by simp [hb3, hb3s]) ?_
    refine w_seq ?_
    refine w_st (by simp <;> rfl) ?_
    refine w_reg ?_
    refine k_run 1 (by simp <;> rfl) ?_
    refine k_nil ?_
    refine w_st (by simp <;> rfl) ?_
    refine w_ret ?_
    obtain rfl := Option.some.inj h
    simp [hb3, hb3s]
  replace hb3 := eq_false_of_ne_true hb3
  have hb3s := hb3; try simp at hb3s
  refine w_false (by simp [hb3, hb3s]) ?_
  refine w_skip ?_
  refine w_seq ?_
  refine w_st (by simp <;> rfl) ?_
  refine w_reg ?_
  refine k_run 3 (by simp <;> rfl) ?_
  refine k_nil ?_
  refine w_st (by simp <;> rfl) ?_
  refine w_ret ?_
  obtain rfl := Option.some.inj h
  simp [hb3, hb3s]

/-- laws.szReplyS -/
def x_laws_szReplyS : XFunc := .mk [.v, .v] [.tmp 4] (.seq (.region [(none, .as 4 (.k (.int .i64 0)))] [0, 1]) (.seq (.region [(none, .mv 6 (.tmp 1)),
 (none, .drop [1]),
 (none, .mv 7 (.tmp 0)),
 (none, .len 8 (.tmp 7)),
 (none, .drop [7]),
 (none, .bin 9 .num .sub (.tmp 6) (.tmp 8)),
 (none, .drop [6, 8]),
 (none, .as 1 (.tmp 9))] [0, 1]) (.seq (.seq (.region [(none, .mv 10 (.tmp 1)),
 (none, .bin 11 .num .lss (.tmp 10) (.k (.int .i64 0)))] [0, 1, 11]) (.cond 11 [4] [0, 1, 4] (.seq (.region [(none, .as 4 (.k (.int .i64 (-1))))] [4]) (.ret)) (.skip))) (.seq (.seq (.region [(none, .as 5 (.k (.int .i64 0)))] [0, 1, 5]) (.block 0 (.loop (.seq (.seq (.region [(none, .mv 12 (.tmp 5)),
 (none, .mv 13 (.tmp 0)),
 (none, .len 14 (.tmp 13)),
 (none, .drop [13]),
 (none, .bin 15 .num .lss (.tmp 12) (.tmp 14))] [0, 1, 5, 15]) (.cond 15 [0, 1, 4, 5] [1, 4] (.skip) (.exit 0))) (.seq (.block 1 (.seq (.region [(none, .mv 18 (.tmp 0)),
 (none, .mv 19 (.tmp 5)),
 (none, .ia 20 2 (.tmp 18) (.tmp 19)),
 (none, .ld 21 (some 2) (.tmp 20)),
 (none, .drop [20]),
 (none, .mv 22 (.tmp 1)),
 (none, .drop [1]),
 (none, .call 23 x_laws_szReply [(.tmp 21), (.tmp 22)]),
 (none, .drop [18, 19, 21, 22]),
 (none, .as 1 (.tmp 23))] [0, 1, 5]) (.seq (.region [(none, .mv 24 (.tmp 1)),
 (none, .bin 25 .num .lss (.tmp 24) (.k (.int .i64 0)))] [0, 1, 5, 25]) (.cond 25 [4] [0, 1, 4, 5] (.seq (.region [(none, .as 4 (.k (.int .i64 (-1))))] [4]) (.ret)) (.skip))))) (.region [(none, .mv 16 (.tmp 5)),
 (none, .drop [5]),
 (none, .bin 17 .num .add (.tmp 16) (.k (.int .i64 1))),
 (none, .drop [16]),
 (none, .as 5 (.tmp 17))] [0, 1, 5])))))) (.seq (.region [(none, .mv 26 (.tmp 1)),
 (none, .drop [1]),
 (none, .as 4 (.tmp 26))] [4]) (.ret))))))
@[simp] theorem x_laws_szReplyS_m : modes x_laws_szReplyS = [.v, .v] := rfl
@[simp] def d_laws_szReplyS_j1 (j1_2 : Int) : Option Int :=
  some j1_2
def d_laws_szReplyS_l1 (p0 : List GReply) : Nat → Int × Int → Option Int
  | 0, _ => none
  | n1 + 1, (v1_3, v5_4) => if (decide (v5_4 < (p0.length : Int))) = true then
      (at? p0 v5_4).bind fun x6 =>
      (d_laws_szReply x6 v1_3).bind fun v8 =>
      if (decide (v8 < 0)) = true then
        some (-1)
      else (d_laws_szReplyS_l1 p0 n1) (v8, (w64 (v5_4 + 1)))
    else d_laws_szReplyS_j1 v1_3
def d_laws_szReplyS (p0 : List GReply) (p1 : Int) : Option Int :=
  if (decide ((w64 (p1 - (p0.length : Int))) < 0)) = true then
    some (-1)
  else d_laws_szReplyS_l1 p0 big ((w64 (p1 - (p0.length : Int))), 0)
theorem run_laws_szReplyS {p0 : List GReply} {p1 : Int} {r : Int} (h : d_laws_szReplyS p0 p1 = some r) : Runs x_laws_szReplyS [.v .one [.sl 2 (p0.map eGReply)], .v .one [eI p1]] .one [eI r] [] := by
  refine Runs.mk (by simp <;> rfl) ?_ (by simp)
  rw [d_laws_szReplyS] at h
  refine w_seq ?_
  refine w_reg ?_
  refine k_run 1 (by simp <;> rfl) ?_
  refine k_nil ?_
  refine w_seq ?_
  refine w_st (by simp <;> rfl) ?_
  refine w_reg ?_
  refine k_run 8 (by simp <;> rfl) ?_
  refine k_nil ?_
  iterate 2 refine w_seq ?_
  refine w_st (by simp <;> rfl) ?_
  refine w_reg ?_
  refine k_run 2 (by simp <;> rfl) ?_
  refine k_nil ?_
  refine w_st (by simp <;> rfl) ?_
  rcases oif h with ⟨hb1, h⟩ | ⟨hb1, h⟩
  · have hb1s := hb1; try simp at hb1s
    refine w_true (by simp [hb1, hb1s]) ?_
    refine w_seq ?_
    refine w_st (by simp <;> rfl) ?_
    refine w_reg ?_
    refine k_run 1 (by simp <;> rfl) ?_
    refine k_nil ?_
    refine w_st (by simp <;> rfl) ?_
    refine w_ret ?_
    obtain rfl := Option.some.inj h
    simp [hb1, hb1s]
  replace hb1 := eq_false_of_ne_true hb1
  have hb1s := hb1; try simp at hb1s
  refine w_false (by simp [hb1, hb1s]) ?_
  refine w_skip ?_
  refine w_cut (fun x : Int => ⟨[(1, ⟨.one, [.t (eI x)]⟩)], [], []⟩) (fun x => d_laws_szReplyS_j1 x = some r) (fun j1_2 h => ?_) ?_
  · replace h : d_laws_szReplyS_j1 j1_2 = some r := h
    rw [d_laws_szReplyS_j1] at h
    refine w_seq ?_
    refine w_reg ?_
    refine k_run 3 (by simp <;> rfl) ?_
    refine k_nil ?_
    refine w_st (by simp <;> rfl) ?_
    refine w_ret ?_
    obtain rfl := Option.some.inj h
    simp [hb1, hb1s]
  refine w_seq ?_
  refine w_st (by simp <;> rfl) ?_
  refine w_reg ?_
  refine k_run 1 (by simp <;> rfl) ?_
  refine k_nil ?_
  refine w_block ?_
  refine w_fuel (fun x : Int × Int => ⟨[(0, ⟨.one, [.vw (.old 0) 2 (p0.map eGReply)]⟩), (1, ⟨.one, [.t (eI x.1)]⟩), (5, ⟨.one, [.t (eI x.2)]⟩)], [], []⟩) (fun n1 x => d_laws_szReplyS_l1 p0 n1 x) (n := big) (x := ((w64 (p1 - (p0.length : Int))), 0)) (fun n1 x h T ih1 => ?_) (fun x h => by simp [d_laws_szReplyS_l1] at h) (by simp [hb1, hb1s]) h
  obtain ⟨v1_3, v5_4⟩ := x
  replace h : d_laws_szReplyS_l1 p0 (n1 + 1) (v1_3, v5_4) = some r := h
  rw [d_laws_szReplyS_l1] at h
  iterate 2 refine w_seq ?_
  refine w_reg ?_
  refine k_run 5 (by simp <;> rfl) ?_
  refine k_nil ?_
  refine w_st (by simp <;> rfl) ?_
  rcases oif' h with ⟨hb5, h⟩ | ⟨hb5, h⟩
  · replace hb5 := eq_false_of_ne_true hb5
    have hb5s := hb5; try simp at hb5s
    refine w_false (by simp [hb5, hb5s]) ?_
    refine w_exit ?_
    refine x_here ?_
    exact ⟨v1_3, by simp [hb1, hb1s, hb5, hb5s], h⟩
  have hb5s := hb5; try simp at hb5s
  refine w_true (by simp [hb5, hb5s]) ?_
  refine w_skip ?_
  refine w_seq ?_
  refine w_block ?_
  refine w_seq ?_
  refine w_st (by simp <;> rfl) ?_
  refine w_reg ?_
  refine k_run 2 (by simp <;> rfl) ?_
  obtain ⟨x6, hx7, h⟩ := ob h
  obtain ⟨hx7_0, hx7_1, hx7_2, hx7_3, hx7_4⟩ := at_facts hx7
  refine k_run 5 (by simp [hx7_0, hx7_1, hx7_2, hx7_3, hx7_4] <;> rfl) ?_
  obtain ⟨v8, hv9, h⟩ := ob h
  apply k_call (by simp [hx7_0, hx7_1, hx7_2, hx7_3, hx7_4] <;> rfl) (by simp [hx7_0, hx7_1, hx7_2, hx7_3, hx7_4] <;> rfl)
  · first | exact run_laws_szReply hv9 | simpa [hx7_0, hx7_1, hx7_2, hx7_3, hx7_4] using run_laws_szReply hv9
  · simp [hx7_0, hx7_1, hx7_2, hx7_3, hx7_4] <;> rfl
  refine k_run 2 (by simp <;> rfl) ?_
  refine k_nil ?_
  refine w_seq ?_
  refine w_st (by simp <;> rfl) ?_
  refine w_reg ?_
  refine k_run 2 (by simp <;> rfl) ?_
  refine k_nil ?_
  refine w_st (by simp <;> rfl) ?_
  rcases oif h with ⟨hb10, h⟩ | ⟨hb10, h⟩
  · have hb10s := hb10; try simp at hb10s
    refine w_true (by simp [hb10, hb10s]) ?_
    refine w_seq ?_
    refine w_st (by simp <;> rfl) ?_
    refine w_reg ?_
    refine k_run 1 (by simp <;> rfl) ?_
    refine k_nil ?_
    refine w_st (by simp <;> rfl) ?_
    refine w_ret ?_
    obtain rfl := Option.some.inj h
    simp [hx7_0, hx7_1, hx7_2, hx7_3, hx7_4, hb1, hb1s, hb5, hb5s, hb10, hb10s]
  replace hb10 := eq_false_of_ne_true hb10
  have hb10s := hb10; try simp at hb10s
  refine w_false (by simp [hb10, hb10s]) ?_
  refine w_skip ?_
  refine w_st (by simp <;> rfl) ?_
  refine w_reg ?_
  refine k_run 5 (by simp <;> rfl) ?_
  refine k_nil ?_
  refine t_st (T := T) ?_ (ih1 _ h)
  simp [hx7_0, hx7_1, hx7_2, hx7_3, hx7_4, hb1, hb1s, hb5, hb5s, hb10, hb10s]

/-- laws.toIntS -/
def x_laws_toIntS : XFunc := .mk [.v] [.tmp 2] (.seq (.region [(none, .as 2 (.k (.nil))),
 (none, .nils [(.tmp 2 0, 1)])] [0]) (.seq (.region [(none, .mv 5 (.tmp 0)),
 (none, .len 6 (.tmp 5)),
 (none, .drop [5]),
 (none, .mksl 7 [.int .i64 0] (.tmp 6) (.tmp 6)),
 (none, .drop [6]),
 (none, .as 3 (.tmp 7))] [0, 3]) (.seq (.seq (.region [(none, .as 4 (.k (.int .i64 0)))] [0, 3, 4]) (.block 0 (.loop (.seq (.seq (.region [(none, .mv 8 (.tmp 4)),
 (none, .mv 9 (.tmp 0)),
 (none, .len 10 (.tmp 9)),
 (none, .drop [9]),
 (none, .bin 11 .num .lss (.tmp 8) (.tmp 10))] [0, 3, 4, 11]) (.cond 11 [0, 2, 3, 4] [2, 3] (.skip) (.exit 0))) (.seq (.block 1 (.region [(none, .mv 14 (.tmp 3)),
 (none, .mv 15 (.tmp 4)),
 (none, .mv 16 (.tmp 0)),
 (none, .mv 17 (.tmp 4)),
 (none, .ia 18 1 (.tmp 16) (.tmp 17)),
 (none, .ld 19 none (.tmp 18)),
 (none, .drop [16, 17, 18]),
 (none, .ia 20 1 (.tmp 14) (.tmp 15)),
 (none, .st 1 (.tmp 20) (.tmp 19))] [0, 3, 4])) (.region [(none, .mv 12 (.tmp 4)),
 (none, .drop [4]),
 (none, .bin 13 .num .add (.tmp 12) (.k (.int .i64 1))),
 (none, .drop [12]),
 (none, .as 4 (.tmp 13))] [0, 3, 4])))))) (.seq (.region [(none, .mv 21 (.tmp 3)),
 (none, .as 2 (.tmp 21))] [2, 3]) (.ret)))))
@[simp] theorem x_laws_toIntS_m : modes x_laws_toIntS = [.v] := rfl
@[simp] def d_laws_toIntS_j1 (j3_2 : List Int) : Option (List Int) :=
  some j3_2
def d_laws_toIntS_l1 (p0 : List Int) : Nat → List Int × Int → Option (List Int)
  | 0, _ => none
  | n1 + 1, (v3_3, v4_4) => if (decide (v4_4 < (p0.length : Int))) = true then
      (at? p0 v4_4).bind fun x6 =>
      (at? v3_3 v4_4).bind fun x8 =>
      (d_laws_toIntS_l1 p0 n1) ((v3_3.set v4_4.toNat x6), (w64 (v4_4 + 1)))
    else d_laws_toIntS_j1 v3_3
def d_laws_toIntS (p0 : List Int) : Option (List Int) :=
  if 0 ≤ (p0.length : Int) ∧ (p0.length : Int) ≤ 16777216 then
    d_laws_toIntS_l1 p0 big ((List.replicate (p0.length : Int).toNat 0), 0)
  else none
theorem run_laws_toIntS {p0 : List Int} {r : List Int} (h : d_laws_toIntS p0 = some r) : Runs x_laws_toIntS [.v .one [.sl 1 (p0.map eN)]] .one [.sl 1 (r.map eN)] [] := by
  refine Runs.mk (by simp <;> rfl) ?_ (by simp)
  rw [d_laws_toIntS] at h
  refine w_seq ?_
  refine w_reg ?_
  refine k_run 2 (by simp <;> rfl) ?_
  refine k_nil ?_
  refine w_seq ?_
  refine w_st (by simp <;> rfl) ?_
  refine w_reg ?_
  refine k_run 3 (by simp <;> rfl) ?_
  obtain ⟨hg1, h⟩ := oguard h
  have hg1s := hg1; try simp at hg1s
  refine k_run 3 (by simp [hg1, hg1s] <;> rfl) ?_
  refine k_nil ?_
  refine w_cut (fun x : List Int => ⟨[(3, ⟨.one, [.ow (.sl 1 (x.map eN))]⟩)], [], []⟩) (fun x => d_laws_toIntS_j1 x = some r) (fun j3_2 h => ?_) ?_
  · replace h : d_laws_toIntS_j1 j3_2 = some r := h
    rw [d_laws_toIntS_j1] at h
    refine w_seq ?_
    refine w_reg ?_
    refine k_run 2 (by simp <;> rfl) ?_
    refine k_nil ?_
    refine w_st (by simp <;> rfl) ?_
    refine w_ret ?_
    obtain rfl := Option.some.inj h
    simp
  refine w_seq ?_
  refine w_st (by simp <;> rfl) ?_
  refine w_reg ?_
  refine k_run 1 (by simp <;> rfl) ?_
  refine k_nil ?_
  refine w_block ?_
  refine w_fuel (fun x : List Int × Int => ⟨[(0, ⟨.one, [.vw (.old 0) 1 (p0.map eN)]⟩), (3, ⟨.one, [.ow (.sl 1 (x.1.map eN))]⟩), (4, ⟨.one, [.t (eI x.2)]⟩)], [], []⟩) (fun n1 x => d_laws_toIntS_l1 p0 n1 x) (n := big) (x := ((List.replicate (p0.length : Int).toNat 0), 0)) (fun n1 x h T ih1 => ?_) (fun x h => by simp [d_laws_toIntS_l1] at h) (by simp) h
  obtain ⟨v3_3, v4_4⟩ := x
  replace h : d_laws_toIntS_l1 p0 (n1 + 1) (v3_3, v4_4) = some r := h
  rw [d_laws_toIntS_l1] at h
  iterate 2 refine w_seq ?_
  refine w_reg ?_
  refine k_run 5 (by simp <;> rfl) ?_
  refine k_nil ?_
  refine w_st (by simp <;> rfl) ?_
  rcases oif' h with ⟨hb5, h⟩ | ⟨hb5, h⟩
  · replace hb5 := eq_false_of_ne_true hb5
    have hb5s := hb5; try simp at hb5s
    refine w_false (by simp [hb5, hb5s]) ?_
    refine w_exit ?_
    refine x_here ?_
    exact ⟨v3_3, by simp [hb5, hb5s], h⟩
  have hb5s := hb5; try simp at hb5s
  refine w_true (by simp [hb5, hb5s]) ?_
  refine w_skip ?_
  refine w_seq ?_
  refine w_block ?_
  refine w_st (by simp <;> rfl) ?_
  refine w_reg ?_
  refine k_run 4 (by simp <;> rfl) ?_
  obtain ⟨x6, hx7, h⟩ := ob h
  obtain ⟨hx7_0, hx7_1, hx7_2, hx7_3, hx7_4⟩ := at_facts hx7
  refine k_run 3 (by simp [hx7_0, hx7_1, hx7_2, hx7_3, hx7_4] <;> rfl) ?_
  obtain ⟨x8, hx9, h⟩ := ob h
  obtain ⟨hx9_0, hx9_1, hx9_2, hx9_3, hx9_4⟩ := at_facts hx9
  refine k_run 2 (by simp [hx7_0, hx7_1, hx7_2, hx7_3, hx7_4, hx9_0, hx9_1, hx9_2, hx9_3, hx9_4] <;> rfl) ?_
  refine k_nil ?_
  refine w_st (by simp <;> rfl) ?_
  refine w_reg ?_
  refine k_run 5 (by simp <;> rfl) ?_
  refine k_nil ?_
  refine t_st (T := T) ?_ (ih1 _ h)
  simp [hx7_0, hx7_1, hx7_2, hx7_3, hx7_4, hx9_0, hx9_1, hx9_2, hx9_3, hx9_4, hb5, hb5s]

/-- laws.toReply -/
def x_laws_toReply : XFunc := .mk [.v] [.cell 2 (some 2)] (.seq (.region [(none, .box 1 (.tmp 0)),
 (none, .drop [0]),
 (none, .alloc 2 [.int .i64 0, .nil]),
 (none, .nils [(.cell 2 1, 1)])] [1, 2, 3]) (.seq (.region [(none, .alloc 3 [.int .i64 0, .nil]),
 (none, .nils [(.cell 3 1, 1)])] [1, 2, 3]) (.seq (.region [(none, .fa 4 0 (.tmp 1)),
 (none, .ld 5 none (.tmp 4)),
 (none, .drop [4]),
 (none, .fa 6 0 (.tmp 3)),
 (none, .st 1 (.tmp 6) (.tmp 5))] [1, 2, 3]) (.seq (.region [(none, .fa 7 1 (.tmp 1)),
 (none, .ld 8 none (.tmp 7)),
 (none, .drop [7]),
 (none, .call 9 x_laws_toIntS [(.tmp 8)]),
 (none, .drop [1, 8]),
 (none, .fa 10 1 (.tmp 3)),
 (none, .st 1 (.tmp 10) (.tmp 9))] [2, 3]) (.seq (.region [(none, .ld 11 (some 2) (.tmp 3)),
 (none, .st 2 (.tmp 2) (.tmp 11))] [2, 3]) (.ret))))))
@[simp] theorem x_laws_toReply_m : modes x_laws_toReply = [.v] := rfl
def d_laws_toReply (p0 : GReply) : Option GReply :=
  (d_laws_toIntS p0.Ids).bind fun v1 =>
  some (GReply.mk p0.Code v1)
theorem run_laws_toReply {p0 : GReply} {r : GReply} (h : d_laws_toReply p0 = some r) : Runs x_laws_toReply [.v .agg [eI p0.Code, .sl 1 (p0.Ids.map eN)]] .agg [eI r.Code, .sl 1 (r.Ids.map eN)] [] := by
  refine Runs.mk (by simp <;> rfl) ?_ (by simp)
  rw [d_laws_toReply] at h
  refine w_seq ?_
  refine w_reg ?_
  refine k_run 4 (by simp <;> rfl) ?_
  refine k_nil ?_
  refine w_seq ?_
  refine w_st (by simp <;> rfl) ?_
  refine w_reg ?_
  refine k_run 2 (by simp <;> rfl) ?_
  refine k_nil ?_
  refine w_seq ?_
  refine w_st (by simp <;> rfl) ?_
  refine w_reg ?_
  refine k_run 5 (by simp <;> rfl) ?_
  refine k_nil ?_
  refine w_seq ?_
  refine w_st (by simp <;> rfl) ?_
  refine w_reg ?_
  refine k_run 3 (by simp <;> rfl) ?_
  obtain ⟨v1, hv2, h⟩ := ob h
  apply k_call (by simp <;> rfl) (by simp <;> rfl)
  · first | exact run_laws_toIntS hv2 | simpa using run_laws_toIntS hv2
  · simp <;> rfl
  refine k_run 3 (by simp <;> rfl) ?_
  refine k_nil ?_
  refine w_seq ?_
  refine w_st (by simp <;> rfl) ?_
  refine w_reg ?_
  refine k_run 2 (by simp <;> rfl) ?_
  refine k_nil ?_
  refine w_st (by simp <;> rfl) ?_
  refine w_ret ?_
  obtain rfl := Option.some.inj h
  simp

/-- laws.toReplyS -/
def x_laws_toReplyS : XFunc := .mk [.v] [.tmp 2] (.seq (.region [(none, .as 2 (.k (.nil))),
 (none, .nils [(.tmp 2 0, 2)])] [0]) (.seq (.region [(none, .mv 5 (.tmp 0)),
 (none, .len 6 (.tmp 5)),
 (none, .drop [5]),
 (none, .mksl 7 [.int .i64 0, .sl 1 []] (.tmp 6) (.tmp 6)),
 (none, .drop [6]),
 (none, .as 3 (.tmp 7))] [0, 3]) (.seq (.seq (.region [(none, .as 4 (.k (.int .i64 0)))] [0, 3, 4]) (.block 0 (.loop (.seq (.seq (.region [(none, .mv 8 (.tmp 4)),
 (none, .mv 9 (.tmp 0)),
 (none, .len 10 (.tmp 9)),
 (none, .drop [9]),
 (none, .bin 11 .num .lss (.tmp 8) (.tmp 10))] [0, 3, 4, 11]) (.cond 11 [0, 2, 3, 4] [2, 3] (.skip) (.exit 0))) (.seq (.block 1 (.region [(none, .mv 14 (.tmp 3)),
 (none, .mv 15 (.tmp 4)),
 (none, .mv 16 (.tmp 0)),
 (none, .mv 17 (.tmp 4)),
 (none, .ia 18 2 (.tmp 16) (.tmp 17)),
 (none, .ld 19 (some 2) (.tmp 18)),
 (none, .drop [18]),
 (none, .call 20 x_laws_toReply [(.tmp 19)]),
 (none, .drop [16, 17, 19]),
 (none, .ia 21 2 (.tmp 14) (.tmp 15)),
 (none, .st 2 (.tmp 21) (.tmp 20))] [0, 3, 4])) (.region [(none, .mv 12 (.tmp 4)),
 (none, .drop [4]),
 (none, .bin 13 .num .add (.tmp 12) (.k (.int .i64 1))),
 (none, .drop [12]),
 (none, .as 4 (.tmp 13))] [0, 3, 4])))))) (.seq (.region [(none, .mv 22 (.tmp 3)),
 (none, .as 2 (.tmp 22))] [2, 3]) (.ret)))))
@[simp] theorem x_laws_toReplyS_m : modes x_laws_toReplyS = [.v] := rfl
@[simp] def d_laws_toReplyS_j1 (j3_2 : List GReply) : Option (List GReply) :=
  some j3_2
def d_laws_toReplyS_l1 (p0 : List GReply) : Nat → List GReply × Int → Option (List GReply)
  | 0, _ => none
  | n1 + 1, (v3_3, v4_4) => if (decide (v4_4 < (p0.length : Int))) = true then
      (at? p0 v4_4).bind fun x6 =>
      (d_laws_toReply x6).bind fun v8 =>
      (at? v3_3 v4_4).bind fun x10 =>
      (d_laws_toReplyS_l1 p0 n1) ((v3_3.set v4_4.toNat v8), (w64 (v4_4 + 1)))
    else d_laws_toReplyS_j1 v3_3
def d_laws_toReplyS (p0 : List GReply) : Option (List GReply) :=
  if 0 ≤ (p0.length : Int) ∧ (p0.length : Int) ≤ 16777216 then
    d_laws_toReplyS_l1 p0 big ((List.replicate (p0.length : Int).toNat (GReply.mk 0 [])), 0)
  else none
theorem run_laws_toReplyS {p0 : List GReply} {r : List GReply} (h : d_laws_toReplyS p0 = some r) : Runs x_laws_toReplyS [.v .one [.sl 2 (p0.map eGReply)]] .one [.sl 2 (r.map eGReply)] [] := by
  refine Runs.mk (by simp <;> rfl) ?_ (by simp)
  rw [d_laws_toReplyS] at h
  refine w_seq ?_
  refine w_reg ?_
  refine k_run 2 (by simp <;> rfl) ?_
  refine k_nil ?_
  refine w_seq ?_
  refine w_st (by simp <;> rfl) ?_
  refine w_reg ?_
  refine k_run 3 (by simp <;> rfl) ?_
  obtain ⟨hg1, h⟩ := oguard h
  have hg1s := hg1; try simp at hg1s
  refine k_run 3 (by simp [hg1, hg1s] <;> rfl) ?_
  refine k_nil ?_
  refine w_cut (fun x : List GReply => ⟨[(3, ⟨.one, [.ow (.sl 2 (x.map eGReply))]⟩)], [], []⟩) (fun x => d_laws_toReplyS_j1 x = some r) (fun j3_2 h => ?_) ?_
  · replace h : d_laws_toReplyS_j1 j3_2 = some r := h
    rw [d_laws_toReplyS_j1] at h
    refine w_seq ?_
    refine w_reg ?_
    refine k_run 2 (by simp <;> rfl) ?_
    refine k_nil ?_
    refine w_st (by simp <;> rfl) ?_
    refine w_ret ?_
    obtain rfl := Option.some.inj h
    simp
  refine w_seq ?_
  refine w_st (by simp <;> rfl) ?_
  refine w_reg ?_
  refine k_run 1 (by simp <;> rfl) ?_
  refine k_nil ?_
  refine w_block ?_
  refine w_fuel (fun x : List GReply × Int => ⟨[(0, ⟨.one, [.vw (.old 0) 2 (p0.map eGReply)]⟩), (3, ⟨.one, [.ow (.sl 2 (x.1.map eGReply))]⟩), (4, ⟨.one, [.t (eI x.2)]⟩)], [], []⟩) (fun n1 x => d_laws_toReplyS_l1 p0 n1 x) (n := big) (x := ((List.replicate (p0.length : Int).toNat (GReply.mk 0 [])), 0)) (fun n1 x h T ih1 => ?_) (fun x h => by simp [d_laws_toReplyS_l1] at h) (by simp) h
  obtain ⟨v3_3, v4_4⟩ := x
  replace h : d_laws_toReplyS_l1 p0 (n1 + 1) (v3_3, v4_4) = some r := h
  rw [d_laws_toReplyS_l1] at h
  iterate 2 refine w_seq ?_
  refine w_reg ?_
  refine k_run 5 (by simp <;> rfl) ?_
  refine k_nil ?_
  refine w_st (by simp <;> rfl) ?_
  rcases oif' h with ⟨hb5, h⟩ | ⟨hb5, h⟩
  · replace hb5 := eq_false_of_ne_true hb5
    have hb5s := hb5; try simp at hb5s
    refine w_false (by simp [hb5, hb5s]) ?_
    refine w_exit ?_
    refine x_here ?_
    exact ⟨v3_3, by simp [hb5, hb5s], h⟩
  have hb5s := hb5; try simp at hb5s
  refine w_true (by simp [hb5, hb5s]) ?_
  refine w_skip ?_
  refine w_seq ?_
  refine w_block ?_
  refine w_st (by simp <;> rfl) ?_
  refine w_reg ?_
  refine k_run 4 (by simp <;> rfl) ?_
  obtain ⟨x6, hx7, h⟩ := ob h
  obtain ⟨hx7_0, hx7_1, hx7_2, hx7_3, hx7_4⟩ := at_facts hx7
  refine k_run 3 (by simp [hx7_0, hx7_1, hx7_2, hx7_3, hx7_4] <;> rfl) ?_
  obtain ⟨v8, hv9, h⟩ := ob h
  apply k_call (by simp [hx7_0, hx7_1, hx7_2, hx7_3, hx7_4] <;> rfl) (by simp [hx7_0, hx7_1, hx7_2, hx7_3, hx7_4] <;> rfl)
  · first | exact run_laws_toReply hv9 | simpa [hx7_0, hx7_1, hx7_2, hx7_3, hx7_4] using run_laws_toReply hv9
  · simp [hx7_0, hx7_1, hx7_2, hx7_3, hx7_4] <;> rfl
  refine k_run 1 (by simp <;> rfl) ?_
  obtain ⟨x10, hx11, h⟩ := ob h
  obtain ⟨hx11_0, hx11_1, hx11_2, hx11_3, hx11_4⟩ := at_facts hx11
  refine k_run 2 (by simp [hx7_0, hx7_1, hx7_2, hx7_3, hx7_4, hx11_0, hx11_1, hx11_2, hx11_3, hx11_4] <;> rfl) ?_
  refine k_nil ?_
  refine w_st (by simp <;> rfl) ?_
  refine w_reg ?_
  refine k_run 5 (by simp <;> rfl) ?_
  refine k_nil ?_
  refine t_st (T := T) ?_ (ih1 _ h)
  simp [hx7_0, hx7_1, hx7_2, hx7_3, hx7_4, hx11_0, hx11_1, hx11_2, hx11_3, hx11_4, hb5, hb5s]

/-- spec.OffersTo -/
def x_spec_OffersTo : XFunc := .mk [.v, .v] [.tmp 4] (.seq (.region [(none, .as 4 (.k (.int .i64 0)))] [0, 1]) (.seq (.region [(none, .as 5 (.k (.int .i64 0)))] [0, 1, 5]) (.seq (.seq (.region [(none, .as 6 (.k (.int .i64 0)))] [0, 1, 5, 6]) (.block 0 (.loop (.seq (.seq (.region [(none, .mv 8 (.tmp 6)),
 (none, .mv 9 (.tmp 0)),
 (none, .len 10 (.tmp 9)),
 (none, .drop [9]),
 (none, .bin 11 .num .lss (.tmp 8) (.tmp 10))] [0, 1, 5, 6, 11]) (.cond 11 [0, 1, 4, 5, 6] [4, 5] (.skip) (.exit 0))) (.seq (.block 1 (.seq (.region [(none, .as 7 (.k (.int .i64 0)))] [0, 1, 5, 6, 7]) (.block 2 (.loop (.seq (.seq (.region [(none, .mv 14 (.tmp 7)),
 (none, .mv 15 (.tmp 0)),
 (none, .mv 16 (.tmp 6)),
 (none, .ia 17 2 (.tmp 15) (.tmp 16)),
 (none, .fa 18 1 (.tmp 17)),
 (none, .drop [17]),
 (none, .ld 19 none (.tmp 18)),
 (none, .drop [18]),
 (none, .len 20 (.tmp 19)),
 (none, .drop [15, 16, 19]),
 (none, .bin 21 .num .lss (.tmp 14) (.tmp 20))] [0, 1, 5, 6, 7, 21]) (.cond 21 [0, 1, 4, 5, 6, 7] [0, 1, 4, 5, 6] (.skip) (.exit 2))) (.seq (.block 3 (.seq (.region [(none, .mv 24 (.tmp 0)),
 (none, .mv 25 (.tmp 6)),
 (none, .ia 26 2 (.tmp 24) (.tmp 25)),
 (none, .fa 27 1 (.tmp 26)),
 (none, .drop [26]),
 (none, .ld 28 none (.tmp 27)),
 (none, .drop [27]),
 (none, .mv 29 (.tmp 7)),
 (none, .ia 30 1 (.tmp 28) (.tmp 29)),
 (none, .ld 31 none (.tmp 30)),
 (none, .drop [24, 25, 28, 29, 30]),
 (none, .mv 32 (.tmp 1)),
 (none, .bin 33 .num .eql (.tmp 31) (.tmp 32))] [0, 1, 5, 6, 7, 33]) (.cond 33 [0, 1, 4, 5, 6, 7] [0, 1, 4, 5, 6, 7] (.region [(none, .mv 34 (.tmp 5)),
 (none, .drop [5]),
 (none, .bin 35 .num .add (.tmp 34) (.k (.int .i64 1))),
 (none, .drop [34]),
 (none, .as 5 (.tmp 35))] [0, 1, 5, 6, 7]) (.skip)))) (.region [(none, .mv 22 (.tmp 7)),
 (none, .drop [7]),
 (none, .bin 23 .num .add (.tmp 22) (.k (.int .i64 1))),
 (none, .drop [22]),
 (none, .as 7 (.tmp 23))] [0, 1, 5, 6, 7]))))))) (.region [(none, .mv 12 (.tmp 6)),
 (none, .drop [6]),
 (none, .bin 13 .num .add (.tmp 12) (.k (.int .i64 1))),
 (none, .drop [12]),
 (none, .as 6 (.tmp 13))] [0, 1, 5, 6])))))) (.seq (.region [(none, .mv 36 (.tmp 5)),
 (none, .drop [5]),
 (none, .as 4 (.tmp 36))] [4]) (.ret)))))
@[simp] theorem x_spec_OffersTo_m : modes x_spec_OffersTo = [.v, .v] := rfl
@[simp] def d_spec_OffersTo_j1 (j5_1 : Int) : Option Int :=
  some j5_1
@[simp] def d_spec_OffersTo_j2 (L1 : Int × Int → Option Int) (v6_3 : Int) (j5_5 : Int) : Option Int :=
  L1 (j5_5, (w64 (v6_3 + 1)))
@[simp] def d_spec_OffersTo_j3 (L2 : Int × Int → Option Int) (v7_7 : Int) (j5_11 : Int) : Option Int :=
  L2 (j5_11, (w64 (v7_7 + 1)))
def d_spec_OffersTo_l2 (p0 : List GReply) (v6_3 : Int) (p1 : Int) (L1 : Int × Int → Option Int) : Nat → Int × Int → Option Int
  | 0, _ => none
  | n2 + 1, (v5_6, v7_7) => (at? p0 v6_3).bind fun x8 =>
    if (decide (v7_7 < (x8.Ids.length : Int))) = true then
      (at? x8.Ids v7_7).bind fun x12 =>
      if (x12 == p1) = true then
        (d_spec_OffersTo_j3 (d_spec_OffersTo_l2 p0 v6_3 p1 L1 n2) v7_7) (w64 (v5_6 + 1))
      else (d_spec_OffersTo_j3 (d_spec_OffersTo_l2 p0 v6_3 p1 L1 n2) v7_7) v5_6
    else (d_spec_OffersTo_j2 L1 v6_3) v5_6
def d_spec_OffersTo_l1 (p0 : List GReply) (p1 : Int) : Nat → Int × Int → Option Int
  | 0, _ => none
  | n1 + 1, (v5_2, v6_3) => if (decide (v6_3 < (p0.length : Int))) = true then
      d_spec_OffersTo_l2 p0 v6_3 p1 (d_spec_OffersTo_l1 p0 p1 n1) big (v5_2, 0)
    else d_spec_OffersTo_j1 v5_2
def d_spec_OffersTo (p0 : List GReply) (p1 : Int) : Option Int :=
  d_spec_OffersTo_l1 p0 p1 big (0, 0)
theorem run_spec_OffersTo {p0 : List GReply} {p1 : Int} {r : Int} (h : d_spec_OffersTo p0 p1 = some r) : Runs x_spec_OffersTo [.v .one [.sl 2 (p0.map eGReply)], .v .one [eI p1]] .one [eI r] [] := by
  refine Runs.mk (by simp <;> rfl) ?_ (by simp)
  rw [d_spec_OffersTo] at h
  refine w_seq ?_
  refine w_reg ?_
  refine k_run 1 (by simp <;> rfl) ?_
  refine k_nil ?_
  refine w_seq ?_
  refine w_st (by simp <;> rfl) ?_
  refine w_reg ?_
  refine k_run 1 (by simp <;> rfl) ?_
  refine k_nil ?_
  refine w_cut (fun x : Int => ⟨[(5, ⟨.one, [.t (eI x)]⟩)], [], []⟩) (fun x => d_spec_OffersTo_j1 x = some r) (fun j5_1 h => ?_) ?_
  · replace h : d_spec_OffersTo_j1 j5_1 = some r := h
    rw [d_spec_OffersTo_j1] at h
    refine w_seq ?_
    refine w_reg ?_
    refine k_run 3 (by simp <;> rfl) ?_
    refine k_nil ?_
    refine w_st (by simp <;> rfl) ?_
    refine w_ret ?_
    obtain rfl := Option.some.inj h
    simp
  refine w_seq ?_
  refine w_st (by simp <;> rfl) ?_
  refine w_reg ?_
  refine k_run 1 (by simp <;> rfl) ?_
  refine k_nil ?_
  refine w_block ?_
  refine w_fuel (fun x : Int × Int => ⟨[(0, ⟨.one, [.vw (.old 0) 2 (p0.map eGReply)]⟩), (1, ⟨.one, [.t (eI p1)]⟩), (5, ⟨.one, [.t (eI x.1)]⟩), (6, ⟨.one, [.t (eI x.2)]⟩)], [], []⟩) (fun n1 x => d_spec_OffersTo_l1 p0 p1 n1 x) (n := big) (x := (0, 0)) (fun n1 x h T ih1 => ?_) (fun x h => by simp [d_spec_OffersTo_l1] at h) (by simp) h
  obtain ⟨v5_2, v6_3⟩ := x
  replace h : d_spec_OffersTo_l1 p0 p1 (n1 + 1) (v5_2, v6_3) = some r := h
  rw [d_spec_OffersTo_l1] at h
  iterate 2 refine w_seq ?_
  refine w_reg ?_
  refine k_run 5 (by simp <;> rfl) ?_
  refine k_nil ?_
  refine w_st (by simp <;> rfl) ?_
  rcases oif' h with ⟨hb4, h⟩ | ⟨hb4, h⟩
  · replace hb4 := eq_false_of_ne_true hb4
    have hb4s := hb4; try simp at hb4s
    refine w_false (by simp [hb4, hb4s]) ?_
    refine w_exit ?_
    refine x_here ?_
    exact ⟨v5_2, by simp [hb4, hb4s], h⟩
  have hb4s := hb4; try simp at hb4s
  refine w_true (by simp [hb4, hb4s]) ?_
  refine w_skip ?_
  refine w_cut (fun x : Int => ⟨[(0, ⟨.one, [.vw (.old 0) 2 (p0.map eGReply)]⟩), (1, ⟨.one, [.t (eI p1)]⟩), (5, ⟨.one, [.t (eI x)]⟩), (6, ⟨.one, [.t (eI v6_3)]⟩)], [], []⟩) (fun x => (d_spec_OffersTo_j2 (d_spec_OffersTo_l1 p0 p1 n1) v6_3) x = some r) (fun j5_5 h => ?_) ?_
  · replace h : (d_spec_OffersTo_j2 (d_spec_OffersTo_l1 p0 p1 n1) v6_3) j5_5 = some r := h
    rw [d_spec_OffersTo_j2] at h
    refine w_reg ?_
    refine k_run 5 (by simp <;> rfl) ?_
    refine k_nil ?_
    refine t_st (T := T) ?_ (ih1 _ h)
    simp [hb4, hb4s]
  refine w_block ?_
  refine w_seq ?_
  refine w_st (by simp <;> rfl) ?_
  refine w_reg ?_
  refine k_run 1 (by simp <;> rfl) ?_
  refine k_nil ?_
  refine w_block ?_
  refine w_fuel (fun x : Int × Int => ⟨[(0, ⟨.one, [.vw (.old 0) 2 (p0.map eGReply)]⟩), (1, ⟨.one, [.t (eI p1)]⟩), (5, ⟨.one, [.t (eI x.1)]⟩), (6, ⟨.one, [.t (eI v6_3)]⟩), (7, ⟨.one, [.t (eI x.2)]⟩)], [], []⟩) (fun n2 x => d_spec_OffersTo_l2 p0 v6_3 p1 (d_spec_OffersTo_l1 p0 p1 n1) n2 x) (n := big) (x := (v5_2, 0)) (fun n2 x h T ih2 => ?_) (fun x h => by simp [d_spec_OffersTo_l2] at h) (by simp [hb4, hb4s]) h
  obtain ⟨v5_6, v7_7⟩ := x
  replace h : d_spec_OffersTo_l2 p0 v6_3 p1 (d_spec_OffersTo_l1 p0 p1 n1) (n2 + 1) (v5_6, v7_7) = some r := h
  rw [d_spec_OffersTo_l2] at h
  iterate 2 refine w_seq ?_
  refine w_reg ?_
  refine k_run 3 (by simp <;> rfl) ?_
  obtain ⟨x8, hx9, h⟩ := ob h
  obtain ⟨hx9_0, hx9_1, hx9_2, hx9_3, hx9_4⟩ := at_facts hx9
  refine k_run 8 (by simp [hx9_0, hx9_1, hx9_2, hx9_3, hx9_4] <;> rfl) ?_
  refine k_nil ?_
  refine w_st (by simp <;> rfl) ?_
  rcases oif' h with ⟨hb10, h⟩ | ⟨hb10, h⟩
  · replace hb10 := eq_false_of_ne_true hb10
    have hb10s := hb10; try simp at hb10s
    refine w_false (by simp [hb10, hb10s]) ?_
    refine w_exit ?_
    refine x_here ?_
    exact ⟨v5_6, by simp [hx9_0, hx9_1, hx9_2, hx9_3, hx9_4, hb4, hb4s, hb10, hb10s], h⟩
  have hb10s := hb10; try simp at hb10s
  refine w_true (by simp [hb10, hb10s]) ?_
  refine w_skip ?_
  refine w_cut (fun x : Int => ⟨[(0, ⟨.one, [.vw (.old 0) 2 (p0.map eGReply)]⟩), (1, ⟨.one, [.t (eI p1)]⟩), (5, ⟨.one, [.t (eI x)]⟩), (6, ⟨.one, [.t (eI v6_3)]⟩), (7, ⟨.one, [.t (eI v7_7)]⟩)], [], []⟩) (fun x => (d_spec_OffersTo_j3 (d_spec_OffersTo_l2 p0 v6_3 p1 (d_spec_OffersTo_l1 p0 p1 n1) n2) v7_7) x = some r) (fun j5_11 h => ?_) ?_
  · replace h : (d_spec_OffersTo_j3 (d_spec_OffersTo_l2 p0 v6_3 p1 (d_spec_OffersTo_l1 p0 p1 n1) n2) v7_7) j5_11 = some r := h
    rw [d_spec_OffersTo_j3] at h
    refine w_reg ?_
    refine k_run 5 (by simp <;> rfl) ?_
    refine k_nil ?_
    refine t_st (T := T) ?_ (ih2 _ h)
    simp [hx9_0, hx9_1, hx9_2, hx9_3, hx9_4, hb4, hb4s, hb10, hb10s]
  refine w_block ?_
  refine w_seq ?_
  refine w_st (by simp <;> rfl) ?_
  refine w_reg ?_
  refine k_run 8 (by simp [hx9_0, hx9_1, hx9_2, hx9_3, hx9_4] <;> rfl) ?_
  obtain ⟨x12, hx13, h⟩ := ob h
  obtain ⟨hx13_0, hx13_1, hx13_2, hx13_3, hx13_4⟩ := at_facts hx13
  refine k_run 5 (by simp [hx9_0, hx9_1, hx9_2, hx9_3, hx9_4, hx13_0, hx13_1, hx13_2, hx13_3, hx13_4] <;> rfl) ?_
  refine k_nil ?_
  refine w_st (by simp <;> rfl) ?_
  rcases oif' h with ⟨hb14, h⟩ | ⟨hb14, h⟩
  · replace hb14 := eq_false_of_ne_true hb14
    have hb14s := hb14; try simp at hb14s
    refine w_false (by simp [hb14, hb14s]) ?_
    refine w_skip ?_
    exact ⟨v5_6, by simp [hx9_0, hx9_1, hx9_2, hx9_3, hx9_4, hx13_0, hx13_1, hx13_2, hx13_3, hx13_4, hb4, hb4s, hb10, hb10s, hb14, hb14s], h⟩
  have hb14s := hb14; try simp at hb14s
  refine w_true (by simp [hb14, hb14s]) ?_
  refine w_st (by simp <;> rfl) ?_
  refine w_reg ?_
  refine k_run 5 (by simp <;> rfl) ?_
  refine k_nil ?_
  exact ⟨(w64 (v5_6 + 1)), by simp [hx9_0, hx9_1, hx9_2, hx9_3, hx9_4, hx13_0, hx13_1, hx13_2, hx13_3, hx13_4, hb4, hb4s, hb10, hb10s, hb14, hb14s], h⟩

/-- impl.OffersTo -/
def x_impl_OffersTo : XFunc := .mk [.v, .v] [.tmp 4] (.seq (.region [(none, .as 4 (.k (.int .i64 0)))] [0, 1, 10, 12]) (.seq (.region [(none, .as 5 (.k (.int .i64 0)))] [0, 1, 5, 10, 12]) (.seq (.seq (.region [(none, .mv 10 (.tmp 0)),
 (none, .len 11 (.tmp 10)),
 (none, .mv 12 (.k (.int .i64 0)))] [0, 1, 5, 10, 11, 12]) (.block 0 (.loop (.seq (.region [(none, .bin 13 .num .lss (.tmp 12) (.tmp 11))] [0, 1, 5, 10, 11, 12, 13]) (.seq (.cond 13 [0, 1, 4, 5, 10, 11, 12] [4, 5] (.skip) (.exit 0)) (.seq (.block 1 (.seq (.region [(none, .ia 14 2 (.tmp 10) (.tmp 12)),
 (none, .ld 15 (some 2) (.tmp 14)),
 (none, .drop [14]),
 (none, .alloc 7 [.int .i64 0, .nil]),
 (none, .nils [(.cell 7 1, 1)]),
 (none, .st 2 (.tmp 7) (.tmp 15))] [0, 1, 5, 7, 10, 11, 12]) (.seq (.region [(none, .fa 16 1 (.tmp 7)),
 (none, .ld 17 none (.tmp 16)),
 (none, .drop [16]),
 (none, .len 18 (.tmp 17)),
 (none, .mv 19 (.k (.int .i64 0)))] [0, 1, 5, 7, 10, 11, 12, 17, 18, 19]) (.block 2 (.loop (.seq (.region [(none, .bin 20 .num .lss (.tmp 19) (.tmp 18))] [0, 1, 5, 7, 10, 11, 12, 17, 18, 19, 20]) (.seq (.cond 20 [0, 1, 4, 5, 7, 10, 11, 12, 17, 18, 19] [0, 1, 4, 5, 10, 11, 12] (.skip) (.exit 2)) (.seq (.block 3 (.seq (.region [(none, .ia 21 1 (.tmp 17) (.tmp 19)),
 (none, .ld 22 none (.tmp 21)),
 (none, .drop [21]),
 (none, .as 9 (.tmp 22))] [0, 1, 5, 7, 9, 10, 11, 12, 17, 18, 19]) (.seq (.region [(none, .mv 23 (.tmp 9)),
 (none, .drop [9]),
 (none, .mv 24 (.tmp 1)),
 (none, .bin 25 .num .eql (.tmp 23) (.tmp 24))] [0, 1, 5, 7, 10, 11, 12, 17, 18, 19, 25]) (.cond 25 [0, 1, 4, 5, 7, 10, 11, 12, 17, 18, 19] [0, 1, 4, 5, 7, 10, 11, 12, 17, 18, 19] (.region [(none, .mv 26 (.tmp 5)),
 (none, .drop [5]),
 (none, .bin 27 .num .add (.tmp 26) (.k (.int .i64 1))),
 (none, .drop [26]),
 (none, .as 5 (.tmp 27))] [0, 1, 5, 7, 10, 11, 12, 17, 18, 19]) (.skip))))) (.region [(none, .bin 28 .num .add (.tmp 19) (.k (.int .i64 1))),
 (none, .drop [19]),
 (none, .mv 19 (.tmp 28))] [0, 1, 5, 7, 10, 11, 12, 17, 18, 19]))))))))) (.region [(none, .bin 29 .num .add (.tmp 12) (.k (.int .i64 1))),
 (none, .mv 12 (.tmp 29))] [0, 1, 5, 10, 11, 12]))))))) (.seq (.region [(none, .mv 30 (.tmp 5)),
 (none, .drop [5]),
 (none, .as 4 (.tmp 30))] [4]) (.ret)))))
@[simp] theorem x_impl_OffersTo_m : modes x_impl_OffersTo = [.v, .v] := rfl
@[simp] def d_impl_OffersTo_j1 (j5_1 : Int) : Option Int :=
  some j5_1
@[simp] def d_impl_OffersTo_j2 (L1 : Int × Int → Option Int) (v12_3 : Int) (j5_5 : Int) : Option Int :=
  L1 (j5_5, (w64 (v12_3 + 1)))
@[simp] def d_impl_OffersTo_j3 (L2 : Int × Int → Option Int) (v19_9 : Int) (j5_11 : Int) : Option Int :=
  L2 (j5_11, (w64 (v19_9 + 1)))
def d_impl_OffersTo_l2 (x6 : GReply) (p1 : Int) (L1 : Int × Int → Option Int) (v12_3 : Int) : Nat → Int × Int → Option Int
  | 0, _ => none
  | n2 + 1, (v5_8, v19_9) => if (decide (v19_9 < (x6.Ids.length : Int))) = true then
      (at? x6.Ids v19_9).bind fun x12 =>
      if (x12 == p1) = true then
        (d_impl_OffersTo_j3 (d_impl_OffersTo_l2 x6 p1 L1 v12_3 n2) v19_9) (w64 (v5_8 + 1))
      else (d_impl_OffersTo_j3 (d_impl_OffersTo_l2 x6 p1 L1 v12_3 n2) v19_9) v5_8
    else (d_impl_OffersTo_j2 L1 v12_3) v5_8
def d_impl_OffersTo_l1 (p0 : List GReply) (p1 : Int) : Nat → Int × Int → Option Int
  | 0, _ => none
  | n1 + 1, (v5_2, v12_3) => if (decide (v12_3 < (p0.length : Int))) = true then
      (at? p0 v12_3).bind fun x6 =>
      d_impl_OffersTo_l2 x6 p1 (d_impl_OffersTo_l1 p0 p1 n1) v12_3 big (v5_2, 0)
    else d_impl_OffersTo_j1 v5_2
def d_impl_OffersTo (p0 : List GReply) (p1 : Int) : Option Int :=
  d_impl_OffersTo_l1 p0 p1 big (0, 0)
theorem run_impl_OffersTo {p0 : List GReply} {p1 : Int} {r : Int} (h : d_impl_OffersTo p0 p1 = some r) : Runs x_impl_OffersTo [.v .one [.sl 2 (p0.map eGReply)], .v .one [eI p1]] .one [eI r] [] := by
  refine Runs.mk (by simp <;> rfl) ?_ (by simp)
  rw [d_impl_OffersTo] at h
  refine w_seq ?_
  refine w_reg ?_
  refine k_run 1 (by simp <;> rfl) ?_
  refine k_nil ?_
  refine w_seq ?_
  refine w_st (by simp <;> rfl) ?_
  refine w_reg ?_
  refine k_run 1 (by simp <;> rfl) ?_
  refine k_nil ?_
  refine w_cut (fun x : Int => ⟨[(5, ⟨.one, [.t (eI x)]⟩)], [], []⟩) (fun x => d_impl_OffersTo_j1 x = some r) (fun j5_1 h => ?_) ?_
  · replace h : d_impl_OffersTo_j1 j5_1 = some r := h
    rw [d_impl_OffersTo_j1] at h
    refine w_seq ?_
    refine w_reg ?_
    refine k_run 3 (by simp <;> rfl) ?_
    refine k_nil ?_
    refine w_st (by simp <;> rfl) ?_
    refine w_ret ?_
    obtain rfl := Option.some.inj h
    simp
  refine w_seq ?_
  refine w_st (by simp <;> rfl) ?_
  refine w_reg ?_
  refine k_run 3 (by simp <;> rfl) ?_
  refine k_nil ?_
  refine w_block ?_
  refine w_fuel (fun x : Int × Int => ⟨[(0, ⟨.one, [.vw (.old 0) 2 (p0.map eGReply)]⟩), (1, ⟨.one, [.t (eI p1)]⟩), (5, ⟨.one, [.t (eI x.1)]⟩), (10, ⟨.one, [.vw (.old 0) 2 (p0.map eGReply)]⟩), (11, ⟨.one, [.t (eI (p0.length : Int))]⟩), (12, ⟨.one, [.t (eI x.2)]⟩)], [], []⟩) (fun n1 x => d_impl_OffersTo_l1 p0 p1 n1 x) (n := big) (x := (0, 0)) (fun n1 x h T ih1 => ?_) (fun x h => by simp [d_impl_OffersTo_l1] at h) (by simp) h
  obtain ⟨v5_2, v12_3⟩ := x
  replace h : d_impl_OffersTo_l1 p0 p1 (n1 + 1) (v5_2, v12_3) = some r := h
  rw [d_impl_OffersTo_l1] at h
  refine w_seq ?_
  refine w_reg ?_
  refine k_run 1 (by simp <;> rfl) ?_
  refine k_nil ?_
  refine w_seq ?_
  refine w_st (by simp <;> rfl) ?_
  rcases oif' h with ⟨hb4, h⟩ | ⟨hb4, h⟩
  · replace hb4 := eq_false_of_ne_true hb4
    have hb4s := hb4; try simp at hb4s
    refine w_false (by simp [hb4, hb4s]) ?_
    refine w_exit ?_
    refine x_here ?_
    exact ⟨v5_2, by simp [hb4, hb4s], h⟩
  have hb4s := hb4; try simp at hb4s
  refine w_true (by simp [hb4, hb4s]) ?_
  refine w_skip ?_
  refine w_cut (fun x : Int => ⟨[(0, ⟨.one, [.vw (.old 0) 2 (p0.map eGReply)]⟩), (1, ⟨.one, [.t (eI p1)]⟩), (5, ⟨.one, [.t (eI x)]⟩), (10, ⟨.one, [.vw (.old 0) 2 (p0.map eGReply)]⟩), (11, ⟨.one, [.t (eI (p0.length : Int))]⟩), (12, ⟨.one, [.t (eI v12_3)]⟩)], [], []⟩) (fun x => (d_impl_OffersTo_j2 (d_impl_OffersTo_l1 p0 p1 n1) v12_3) x = some r) (fun j5_5 h => ?_) ?_
  · replace h : (d_impl_OffersTo_j2 (d_impl_OffersTo_l1 p0 p1 n1) v12_3) j5_5 = some r := h
    rw [d_impl_OffersTo_j2] at h
    refine w_reg ?_
    refine k_run 2 (by simp <;> rfl) ?_
    refine k_nil ?_
    refine t_st (T := T) ?_ (ih1 _ h)
    simp [hb4, hb4s]
  refine w_block ?_
  refine w_seq ?_
  refine w_st (by simp <;> rfl) ?_
  refine w_reg ?_
  obtain ⟨x6, hx7, h⟩ := ob h
  obtain ⟨hx7_0, hx7_1, hx7_2, hx7_3, hx7_4⟩ := at_facts hx7
  refine k_run 6 (by simp [hx7_0, hx7_1, hx7_2, hx7_3, hx7_4] <;> rfl) ?_
  refine k_nil ?_
  refine w_seq ?_
  refine w_st (by simp <;> rfl) ?_
  refine w_reg ?_
  refine k_run 5 (by simp [hx7_0, hx7_1, hx7_2, hx7_3, hx7_4] <;> rfl) ?_
  refine k_nil ?_
  refine w_block ?_
  refine w_fuel (fun x : Int × Int => ⟨[(0, ⟨.one, [.vw (.old 0) 2 (p0.map eGReply)]⟩), (1, ⟨.one, [.t (eI p1)]⟩), (5, ⟨.one, [.t (eI x.1)]⟩), (7, ⟨.one, [.bp 7 0]⟩), (10, ⟨.one, [.vw (.old 0) 2 (p0.map eGReply)]⟩), (11, ⟨.one, [.t (eI (p0.length : Int))]⟩), (12, ⟨.one, [.t (eI v12_3)]⟩), (17, ⟨.one, [.vw (.old 0) 1 (x6.Ids.map eN)]⟩), (18, ⟨.one, [.t (eI (x6.Ids.length : Int))]⟩), (19, ⟨.one, [.t (eI x.2)]⟩)], [(7, [.t (eI x6.Code), .vw (.old 0) 1 (x6.Ids.map eN)])], []⟩) (fun n2 x => d_impl_OffersTo_l2 x6 p1 (d_impl_OffersTo_l1 p0 p1 n1) v12_3 n2 x) (n := big) (x := (v5_2, 0)) (fun n2 x h T ih2 => ?_) (fun x h => by simp [d_impl_OffersTo_l2] at h) (by simp [hx7_0, hx7_1, hx7_2, hx7_3, hx7_4, hb4, hb4s]) h
  obtain ⟨v5_8, v19_9⟩ := x
  replace h : d_impl_OffersTo_l2 x6 p1 (d_impl_OffersTo_l1 p0 p1 n1) v12_3 (n2 + 1) (v5_8, v19_9) = some r := h
  rw [d_impl_OffersTo_l2] at h
  refine w_seq ?_
  refine w_reg ?_
  refine k_run 1 (by simp <;> rfl) ?_
  refine k_nil ?_
  refine w_seq ?_
  refine w_st (by simp <;> rfl) ?_
  rcases oif' h with ⟨hb10, h⟩ | ⟨hb10, h⟩
  · replace hb10 := eq_false_of_ne_true hb10
    have hb10s := hb10; try simp at hb10s
    refine w_false (by simp [hb10, hb10s]) ?_
    refine w_exit ?_
    refine x_here ?_
    exact ⟨v5_8, by simp [hx7_0, hx7_1, hx7_2, hx7_3, hx7_4, hb4, hb4s, hb10, hb10s], h⟩
  have hb10s := hb10; try simp at hb10s
  refine w_true (by simp [hb10, hb10s]) ?_
  refine w_skip ?_
  refine w_cut (fun x : Int => ⟨[(0, ⟨.one, [.vw (.old 0) 2 (p0.map eGReply)]⟩), (1, ⟨.one, [.t (eI p1)]⟩), (5, ⟨.one, [.t (eI x)]⟩), (7, ⟨.one, [.bp 7 0]⟩), (10, ⟨.one, [.vw (.old 0) 2 (p0.map eGReply)]⟩), (11, ⟨.one, [.t (eI (p0.length : Int))]⟩), (12, ⟨.one, [.t (eI v12_3)]⟩), (17, ⟨.one, [.vw (.old 0) 1 (x6.Ids.map eN)]⟩), (18, ⟨.one, [.t (eI (x6.Ids.length : Int))]⟩), (19, ⟨.one, [.t (eI v19_9)]⟩)], [(7, [.t (eI x6.Code), .vw (.old 0) 1 (x6.Ids.map eN)])], []⟩) (fun x => (d_impl_OffersTo_j3 (d_impl_OffersTo_l2 x6 p1 (d_impl_OffersTo_l1 p0 p1 n1) v12_3 n2) v19_9) x = some r) (fun j5_11 h => ?_) ?_
  · replace h : (d_impl_OffersTo_j3 (d_impl_OffersTo_l2 x6 p1 (d_impl_OffersTo_l1 p0 p1 n1) v12_3 n2) v19_9) j5_11 = some r := h
    rw [d_impl_OffersTo_j3] at h
    refine w_reg ?_
    refine k_run 3 (by simp <;> rfl) ?_
    refine k_nil ?_
    refine t_st (T := T) ?_ (ih2 _ h)
    simp [hx7_0, hx7_1, hx7_2, hx7_3, hx7_4, hb4, hb4s, hb10, hb10s]
  refine w_block ?_
  refine w_seq ?_
  refine w_st (by simp <;> rfl) ?_
  refine w_reg ?_
  obtain ⟨x12, hx13, h⟩ := ob h
  obtain ⟨hx13_0, hx13_1, hx13_2, hx13_3, hx13_4⟩ := at_facts hx13
  refine k_run 4 (by simp [hx7_0, hx7_1, hx7_2, hx7_3, hx7_4, hx13_0, hx13_1, hx13_2, hx13_3, hx13_4] <;> rfl) ?_
  refine k_nil ?_
  refine w_seq ?_
  refine w_st (by simp <;> rfl) ?_
  refine w_reg ?_
  refine k_run 4 (by simp <;> rfl) ?_
  refine k_nil ?_
  refine w_st (by simp <;> rfl) ?_
  rcases oif' h with ⟨hb14, h⟩ | ⟨hb14, h⟩
  · replace hb14 := eq_false_of_ne_true hb14
    have hb14s := hb14; try simp at hb14s
    refine w_false (by simp [hb14, hb14s]) ?_
    refine w_skip ?_
    exact ⟨v5_8, by simp [hx7_0, hx7_1, hx7_2, hx7_3, hx7_4, hx13_0, hx13_1, hx13_2, hx13_3, hx13_4, hb4, hb4s, hb10, hb10s, hb14, hb14s], h⟩
  have hb14s := hb14; try simp at hb14s
  refine w_true (by simp [hb14, hb14s]) ?_
  refine w_st (by simp <;> rfl) ?_
  refine w_reg ?_
  refine k_run 5 (by simp <;> rfl) ?_
  refine k_nil ?_
  exact ⟨(w64 (v5_8 + 1)), by simp [hx7_0, hx7_1, hx7_2, hx7_3, hx7_4, hx13_0, hx13_1, hx13_2, hx13_3, hx13_4, hb4, hb4s, hb10, hb10s, hb14, hb14s], h⟩

/-- laws.eqIntS -/
def x_laws_eqIntS : XFunc := .mk [.v, .v] [.tmp 4] (.seq (.region [(none, .as 4 (.k (.bool false)))] [0, 1]) (.seq (.seq (.region [(none, .mv 6 (.tmp 0)),
 (none, .len 7 (.tmp 6)),
 (none, .drop [6]),
 (none, .mv 8 (.tmp 1)),
 (none, .len 9 (.tmp 8)),
 (none, .drop [8]),
 (none, .bin 10 .num .neq (.tmp 7) (.tmp 9))] [0, 1, 10]) (.cond 10 [4] [0, 1, 4] (.seq (.region [(none, .as 4 (.k (.bool false)))] [4]) (.ret)) (.skip))) (.seq (.seq (.region [(none, .as 5 (.k (.int .i64 0)))] [0, 1, 5]) (.block 0 (.loop (.seq (.seq (.region [(none, .mv 11 (.tmp 5)),
 (none, .mv 12 (.tmp 0)),
 (none, .len 13 (.tmp 12)),
 (none, .drop [12]),
 (none, .bin 14 .num .lss (.tmp 11) (.tmp 13))] [0, 1, 5, 14]) (.cond 14 [0, 1, 4, 5] [4] (.skip) (.exit 0))) (.seq (.block 1 (.seq (.dreg (.op 0 none [] (.mv 17 (.tmp 0))
 (.op 1 none [] (.mv 18 (.tmp 5))
 (.op 2 none [] (.ia 19 1 (.tmp 17) (.tmp 18))
 (.op 3 none [] (.ld 20 none (.tmp 19))
 (.dr [17, 18] (.op 4 none [] (.mv 21 (.tmp 1))
 (.op 5 none [] (.mv 22 (.tmp 5))
 (.op 6 none [] (.ia 23 1 (.tmp 21) (.tmp 22))
 (.op 7 none [] (.ld 24 none (.tmp 23))
 (.dr [21, 22] (.op 8 none [] (.bin 25 .num .neq (.tmp 20) (.tmp 24))
 .nil))))))))))) [0, 1, 5, 25]) (.cond 25 [4] [0, 1, 4, 5] (.seq (.region [(none, .as 4 (.k (.bool false)))] [4]) (.ret)) (.skip)))) (.region [(none, .mv 15 (.tmp 5)),
 (none, .drop [5]),
 (none, .bin 16 .num .add (.tmp 15) (.k (.int .i64 1))),
 (none, .drop [15]),
 (none, .as 5 (.tmp 16))] [0, 1, 5])))))) (.seq (.region [(none, .as 4 (.k (.bool true)))] [4]) (.ret)))))
@[simp] theorem x_laws_eqIntS_m : modes x_laws_eqIntS = [.v, .v] := rfl
@[simp] def d_laws_eqIntS_j1 : Option Bool :=
  some true
def d_laws_eqIntS_l1 (p0 : List Int) (p1 : List Int) : Nat → Int → Option Bool
  | 0, _ => none
  | n1 + 1, v5_2 => if (decide (v5_2 < (p0.length : Int))) = true then
      (at? p0 v5_2).bind fun x4 =>
      (at? p1 v5_2).bind fun x6 =>
      if (x4 != x6) = true then
        some false
      else (d_laws_eqIntS_l1 p0 p1 n1) (w64 (v5_2 + 1))
    else d_laws_eqIntS_j1
def d_laws_eqIntS (p0 : List Int) (p1 : List Int) : Option Bool :=
  if ((p0.length : Int) != (p1.length : Int)) = true then
    some false
  else d_laws_eqIntS_l1 p0 p1 big 0
theorem run_laws_eqIntS {p0 : List Int} {p1 : List Int} {r : Bool} (h : d_laws_eqIntS p0 p1 = some r) : Runs x_laws_eqIntS [.v .one [.sl 1 (p0.map eN)], .v .one [.sl 1 (p1.map eN)]] .one [.bool r] [] := by
  refine Runs.mk (by simp <;> rfl) ?_ (by simp)
  rw [d_laws_eqIntS] at h
  refine w_seq ?_
  refine w_reg ?_
  refine k_run 1 (by simp <;> rfl) ?_
  refine k_nil ?_
  iterate 2 refine w_seq ?_
  refine w_st (by simp <;> rfl) ?_
  refine w_reg ?_
  refine k_run 7 (by simp <;> rfl) ?_
  refine k_nil ?_
  refine w_st (by simp <;> rfl) ?_
  rcases oif h with ⟨hb1, h⟩ | ⟨hb1, h⟩
  · have hb1s := hb1; try simp at hb1s
    refine w_true (by simp [hb1, hb1s]) ?_
    refine w_seq ?_
    refine w_st (by simp <;> rfl) ?_
    refine w_reg ?_
    refine k_run 1 (by simp <;> rfl) ?_
    refine k_nil ?_
    refine w_st (by simp <;> rfl) ?_
    refine w_ret ?_
    obtain rfl := Option.some.inj h
    simp [hb1, hb1s]
  replace hb1 := eq_false_of_ne_true hb1
  have hb1s := hb1; try simp at hb1s
  refine w_false (by simp [hb1, hb1s]) ?_
  refine w_skip ?_
  refine w_cut (fun x : Unit => ⟨[], [], []⟩) (fun x => d_laws_eqIntS_j1 = some r) (fun x h => ?_) ?_
  · replace h : d_laws_eqIntS_j1 = some r := h
    rw [d_laws_eqIntS_j1] at h
    refine w_seq ?_
    refine w_reg ?_
    refine k_run 1 (by simp <;> rfl) ?_
    refine k_nil ?_
    refine w_st (by simp <;> rfl) ?_
    refine w_ret ?_
    obtain rfl := Option.some.inj h
    simp [hb1, hb1s]
  refine w_seq ?_
  refine w_st (by simp <;> rfl) ?_
  refine w_reg ?_
  refine k_run 1 (by simp <;> rfl) ?_
  refine k_nil ?_
  refine w_block ?_
  refine w_fuel (fun x : Int => ⟨[(0, ⟨.one, [.vw (.old 0) 1 (p0.map eN)]⟩), (1, ⟨.one, [.vw (.old 1) 1 (p1.map eN)]⟩), (5, ⟨.one, [.t (eI x)]⟩)], [], []⟩) (fun n1 x => d_laws_eqIntS_l1 p0 p1 n1 x) (n := big) (x := 0) (fun n1 v5_2 h T ih1 => ?_) (fun x h => by simp [d_laws_eqIntS_l1] at h) (by simp [hb1, hb1s]) h
  replace h : d_laws_eqIntS_l1 p0 p1 (n1 + 1) v5_2 = some r := h
  rw [d_laws_eqIntS_l1] at h
  iterate 2 refine w_seq ?_
  refine w_reg ?_
  refine k_run 5 (by simp <;> rfl) ?_
  refine k_nil ?_
  refine w_st (by simp <;> rfl) ?_
  rcases oif' h with ⟨hb3, h⟩ | ⟨hb3, h⟩
  · replace hb3 := eq_false_of_ne_true hb3
    have hb3s := hb3; try simp at hb3s
    refine w_false (by simp [hb3, hb3s]) ?_
    refine w_exit ?_
    refine x_here ?_
    exact ⟨(), by simp [hb1, hb1s, hb3, hb3s], h⟩
  have hb3s := hb3; try simp at hb3s
  refine w_true (by simp [hb3, hb3s]) ?_
  refine w_skip ?_
  refine w_seq ?_
  refine w_block ?_
  refine w_seq ?_
  refine w_st (by simp <;> rfl) ?_
  refine w_dreg ?_
  refine r_run 2 (by simp <;> rfl) ?_
  obtain ⟨x4, hx5, h⟩ := ob h
  obtain ⟨hx5_0, hx5_1, hx5_2, hx5_3, hx5_4⟩ := at_facts hx5
  refine r_run 5 (by simp [hx5_0, hx5_1, hx5_2, hx5_3, hx5_4] <;> rfl) ?_
  obtain ⟨x6, hx7, h⟩ := ob h
  obtain ⟨hx7_0, hx7_1, hx7_2, hx7_3, hx7_4⟩ := at_facts hx7
  refine r_run 4 (by simp [hx5_0, hx5_1, hx5_2, hx5_3, hx5_4, hx7_0, hx7_1, hx7_2, hx7_3, hx7_4] <;> rfl) ?_
  refine r_nil ?_
  refine w_st (by simp <;> rfl) ?_
  rcases oif h with ⟨hb8, h⟩ | ⟨hb8, h⟩
  · have hb8s := hb8; try simp at hb8s
    refine w_true (by simp [hb8, hb8s]) ?_
    refine w_seq ?_
    refine w_st (by simp <;> rfl) ?_
    refine w_reg ?_
    refine k_run 1 (by simp <;> rfl) ?_
    refine k_nil ?_
    refine w_st (by simp <;> rfl) ?_
    refine w_ret ?_
    obtain rfl := Option.some.inj h
    simp [hx5_0, hx5_1, hx5_2, hx5_3, hx5_4, hx7_0, hx7_1, hx7_2, hx7_3, hx7_4, hb1, hb1s, hb3, hb3s, hb8, hb8s]
  replace hb8 := eq_false_of_ne_true hb8
  have hb8s := hb8; try simp at hb8s
  refine w_false (by simp [hb8, hb8s]) ?_
  refine w_skip ?_
  refine w_st (by simp <;> rfl) ?_
  refine w_reg ?_
  refine k_run 5 (by simp <;> rfl) ?_
  refine k_nil ?_
  refine t_st (T := T) ?_ (ih1 _ h)
  simp [hx5_0, hx5_1, hx5_2, hx5_3, hx5_4, hx7_0, hx7_1, hx7_2, hx7_3, hx7_4, hb1, hb1s, hb3, hb3s, hb8, hb8s]

/-- laws.eqReply -/
def x_laws_eqReply : XFunc := .mk [.v, .v] [.tmp 4] (.seq (.region [(none, .box 2 (.tmp 0)),
 (none, .drop [0]),
 (none, .box 3 (.tmp 1)),
 (none, .drop [1]),
 (none, .as 4 (.k (.bool false)))] [2, 3]) (.seq (.seq (.region [(none, .fa 5 0 (.tmp 2)),
 (none, .ld 6 none (.tmp 5)),
 (none, .drop [5]),
 (none, .fa 7 0 (.tmp 3)),
 (none, .ld 8 none (.tmp 7)),
 (none, .drop [7]),
 (none, .bin 9 .num .neq (.tmp 6) (.tmp 8))] [2, 3, 9]) (.cond 9 [4] [2, 3, 4] (.seq (.region [(none, .as 4 (.k (.bool false)))] [4]) (.ret)) (.skip))) (.seq (.seq (.region [(none, .fa 10 1 (.tmp 2)),
 (none, .ld 11 none (.tmp 10)),
 (none, .drop [10]),
 (none, .fa 12 1 (.tmp 3)),
 (none, .ld 13 none (.tmp 12)),
 (none, .drop [12]),
 (none, .call 14 x_laws_eqIntS [(.tmp 11), (.tmp 13)]),
 (none, .drop [2, 3, 11, 13]),
 (none, .un 15 .not (.tmp 14))] [15]) (.cond 15 [4] [4] (.seq (.region [(none, .as 4 (.k (.bool false)))] [4]) (.ret)) (.skip))) (.seq (.region [(none, .as 4 (.k (.bool true)))] [4]) (.ret)))))
@[simp] theorem x_laws_eqReply_m : modes x_laws_eqReply = [.v, .v] := rfl
def d_laws_eqReply (p0 : GReply) (p1 : GReply) : Option Bool :=
  if (p0.Code != p1.Code) = true then
    some false
  else (d_laws_eqIntS p0.Ids p1.Ids).bind fun v2 =>
  if (!v2) = true then
    some false
  else some true
theorem run_laws_eqReply {p0 : GReply} {p1 : GReply} {r : Bool} (h : d_laws_eqReply p0 p1 = some r) : Runs x_laws_eqReply [.v .agg [eI p0.Code, .sl 1 (p0.Ids.map eN)], .v .agg [eI p1.Code, .sl 1 (p1.Ids.map eN)]] .one [.bool r] [] := by
  refine Runs.mk (by simp <;> rfl) ?_ (by simp)
  rw [d_laws_eqReply] at h
  refine w_seq ?_
  refine w_reg ?_
  refine k_run 5 (by simp <;> rfl) ?_
  refine k_nil ?_
  iterate 2 refine w_seq ?_
  refine w_st (by simp <;> rfl) ?_
  refine w_reg ?_
  refine k_run 7 (by simp <;> rfl) ?_
  refine k_nil ?_
  refine w_st (by simp <;> rfl) ?_
  rcases oif h with ⟨hb1, h⟩ | ⟨hb1, h⟩
  · have hb1s := hb1; try simp at hb1s
    refine w_true (by simp [hb1, hb1s]) ?_
    refine w_seq ?_
    refine w_st (by simp <;> rfl) ?_
    refine w_reg ?_
    refine k_run 1 (by simp <;> rfl) ?_
    refine k_nil ?_
    refine w_st (by simp <;> rfl) ?_
    refine w_ret ?_
    obtain rfl := Option.some.inj h
    simp [hb1, hb1s]
  replace hb1 := eq_false_of_ne_true hb1
  have hb1s := hb1; try simp at hb1s
  refine w_false (by simp [hb1, hb1s]) ?_
  refine w_skip ?_
  iterate 2 refine w_seq ?_
  refine w_st (by simp <;> rfl) ?_
  refine w_reg ?_
  refine k_run 6 (by simp <;> rfl) ?_
  obtain ⟨v2, hv3, h⟩ := ob h
  apply k_call (by simp <;> rfl) (by simp <;> rfl)
  · first | exact run_laws_eqIntS hv3 | simpa using run_laws_eqIntS hv3
  · simp <;> rfl
  refine k_run 2 (by simp <;> rfl) ?_
  refine k_nil ?_
  refine w_st (by simp <;> rfl) ?_
  rcases oif h with ⟨hb4, h⟩ | ⟨hb4, h⟩
  · have hb4s := hb4; try simp at hb4s
    refine w_true (by simp [hb4, hb4s]) ?_
    refine w_seq ?_
    refine w_st (by simp <;> rfl) ?_
    refine w_reg ?_
    refine k_run 1 (by simp <;> rfl) ?_
    refine k_nil ?_
    refine w_st (by simp <;> rfl) ?_
    refine w_ret ?_
    obtain rfl := Option.some.inj h
    simp [hb1, hb1s, hb4, hb4s]
  replace hb4 := eq_false_of_ne_true hb4
  have hb4s := hb4; try simp at hb4s
  refine w_false (by simp [hb4, hb4s]) ?_
  refine w_skip ?_
  refine w_seq ?_
  refine w_st (by simp <;> rfl) ?_
  refine w_reg ?_
  refine k_run 1 (by simp <;> rfl) ?_
  refine k_nil ?_
  refine w_st (by simp <;> rfl) ?_
  refine w_ret ?_
  obtain rfl := Option.some.inj h
  simp [hb1, hb1s, hb4, hb4s]

/-- laws.eqReplyS -/
def x_laws_eqReplyS : XFunc := .mk [.v, .v] [.tmp 4] (.seq (.region [(none, .as 4 (.k (.bool false)))] [0, 1]) (.seq (.seq (.region [(none, .mv 6 (.tmp 0)),
 (none, .len 7 (.tmp 6)),
 (none, .drop [6]),
 (none, .mv 8 (.tmp 1)),
 (none, .len 9 (.tmp 8)),
 (none, .drop [8]),
 (none, .bin 10 .num .neq (.tmp 7) (.tmp 9))] [0, 1, 10]) (.cond 10 [4] [0, 1, 4] (.seq (.region [(none, .as 4 (.k (.bool false)))] [4]) (.ret)) (.skip))) (.seq (.seq (.region [(none, .as 5 (.k (.int .i64 0)))] [0, 1, 5]) (.block 0 (.loop (.seq (.seq (.region [(none, .mv 11 (.tmp 5)),
 (none, .mv 12 (.tmp 0)),
 (none, .len 13 (.tmp 12)),
 (none, .drop [12]),
 (none, .bin 14 .num .lss (.tmp 11) (.tmp 13))] [0, 1, 5, 14]) (.cond 14 [0, 1, 4, 5] [4] (.skip) (.exit 0))) (.seq (.block 1 (.seq (.dreg (.op 0 none [] (.mv 17 (.tmp 0))
 (.op 1 none [] (.mv 18 (.tmp 5))
 (.op 2 none [] (.ia 19 2 (.tmp 17) (.tmp 18))
 (.op 3 none [] (.ld 20 (some 2) (.tmp 19))
 (.op 4 none [] (.mv 21 (.tmp 1))
 (.op 5 none [] (.mv 22 (.tmp 5))
 (.op 6 none [] (.ia 23 2 (.tmp 21) (.tmp 22))
 (.op 7 none [] (.ld 24 (some 2) (.tmp 23))
 (.op 8 none [] (.call 25 x_laws_eqReply [(.tmp 20), (.tmp 24)])
 (.dr [17, 18, 20, 21, 22, 24] (.op 9 none [] (.un 26 .not (.tmp 25))
 .nil))))))))))) [0, 1, 5, 26]) (.cond 26 [4] [0, 1, 4, 5] (.seq (.region [(none, .as 4 (.k (.bool false)))] [4]) (.ret)) (.skip)))) (.region [(none, .mv 15 (.tmp 5)),
 (none, .drop [5]),
 (none, .bin 16 .num .add (.tmp 15) (.k (.int .i64 1))),
 (none, .drop [15]),
 (none, .as 5 (.tmp 16))] [0, 1, 5])))))) (.seq (.region [(none, .as 4 (.k (.bool true)))] [4]) (.ret)))))
@[simp] theorem x_laws_eqReplyS_m : modes x_laws_eqReplyS = [.v, .v] := rfl
@[simp] def d_laws_eqReplyS_j1 : Option Bool :=
  some true
def d_laws_eqReplyS_l1 (p0 : List GReply) (p1 : List GReply) : Nat → Int → Option Bool
  | 0, _ => none
  | n1 + 1, v5_2 => if (decide (v5_2 < (p0.length : Int))) = true then
      (at? p0 v5_2).bind fun x4 =>
      (at? p1 v5_2).bind fun x6 =>
      (d_laws_eqReply x4 x6).bind fun v8 =>
      if (!v8) = true then
        some false
      else (d_laws_eqReplyS_l1 p0 p1 n1) (w64 (v5_2 + 1))
    else d_laws_eqReplyS_j1
def d_laws_eqReplyS (p0 : List GReply) (p1 : List GReply) : Option Bool :=
  if ((p0.length : Int) != (p1.length : Int)) = true then
    some false
  else d_laws_eqReplyS_l1 p0 p1 big 0
theorem run_laws_eqReplyS {p0 : List GReply} {p1 : List GReply} {r : Bool} (h : d_laws_eqReplyS p0 p1 = some r) : Runs x_laws_eqReplyS [.v .one [.sl 2 (p0.map eGReply)], .v .one [.sl 2 (p1.map eGReply)]] .one [.bool r] [] := by
  refine Runs.mk (by simp <;> rfl) ?_ (by simp)
  rw [d_laws_eqReplyS] at h
  refine w_seq ?_
  refine w_reg ?_
  refine k_run 1 (by simp <;> rfl) ?_
  refine k_nil ?_
  iterate 2 refine w_seq ?_
  refine w_st (by simp <;> rfl) ?_
  refine w_reg ?_
  refine k_run 7 (by simp <;> rfl) ?_
  refine k_nil ?_
  refine w_st (by simp <;> rfl) ?_
  rcases oif h with ⟨hb1, h⟩ | ⟨hb1, h⟩
  · have hb1s := hb1; try simp at hb1s
    refine w_true (by simp [hb1, hb1s]) ?_
    refine w_seq ?_
    refine w_st (by simp <;> rfl) ?_
    refine w_reg ?_
    refine k_run 1 (by simp <;> rfl) ?_
    refine k_nil ?_
    refine w_st (by simp <;> rfl) ?_
    refine w_ret ?_
    obtain rfl := Option.some.inj h
    simp [hb1, hb1s]
  replace hb1 := eq_false_of_ne_true hb1
  have hb1s := hb1; try simp at hb1s
  refine w_false (by simp [hb1, hb1s]) ?_
  refine w_skip ?_
  refine w_cut (fun x : Unit => ⟨[], [], []⟩) (fun x => d_laws_eqReplyS_j1 = some r) (fun x h => ?_) ?_
  · replace h : d_laws_eqReplyS_j1 = some r := h
    rw [d_laws_eqReplyS_j1] at h
    refine w_seq ?_
    refine w_reg ?_
    refine k_run 1 (by simp <;> rfl) ?_
    refine k_nil ?_
    refine w_st (by simp <;> rfl) ?_
    refine w_ret ?_
    obtain rfl := Option.some.inj h
    simp [hb1, hb1s]
  refine w_seq ?_
  refine w_st (by simp <;> rfl) ?_
  refine w_reg ?_
  refine k_run 1 (by simp <;> rfl) ?_
  refine k_nil ?_
  refine w_block ?_
  refine w_fuel (fun x : Int => ⟨[(0, ⟨.one, [.vw (.old 0) 2 (p0.map eGReply)]⟩), (1, ⟨.one, [.vw (.old 1) 2 (p1.map eGReply)]⟩), (5, ⟨.one, [.t (eI x)]⟩)], [], []⟩) (fun n1 x => d_laws_eqReplyS_l1 p0 p1 n1 x) (n := big) (x := 0) (fun n1 v5_2 h T ih1 => ?_) (fun x h => by simp [d_laws_eqReplyS_l1] at h) (by simp [hb1, hb1s]) h
  replace h : d_laws_eqReplyS_l1 p0 p1 (n1 + 1) v5_2 = some r := h
  rw [d_laws_eqReplyS_l1] at h
  iterate 2 refine w_seq ?_
  refine w_reg ?_
  refine k_run 5 (by simp <;> rfl) ?_
  refine k_nil ?_
  refine w_st (by simp <;> rfl) ?_
  rcases oif' h with ⟨hb3, h⟩ | ⟨hb3, h⟩
  · replace hb3 := eq_false_of_ne_true hb3
    have hb3s := hb3; try simp at hb3s
    refine w_false (by simp [hb3, hb3s]) ?_
    refine w_exit ?_
    refine x_here ?_
    exact ⟨(), by simp [hb1, hb1s, hb3, hb3s], h⟩
  have hb3s := hb3; try simp at hb3s
  refine w_true (by simp [hb3, hb3s]) ?_
  refine w_skip ?_
  refine w_seq ?_
  refine w_block ?_
  refine w_seq ?_
  refine w_st (by simp <;> rfl) ?_
  refine w_dreg ?_
  refine r_run 2 (by simp <;> rfl) ?_
  obtain ⟨x4, hx5, h⟩ := ob h
  obtain ⟨hx5_0, hx5_1, hx5_2, hx5_3, hx5_4⟩ := at_facts hx5
  refine r_run 4 (by simp [hx5_0, hx5_1, hx5_2, hx5_3, hx5_4] <;> rfl) ?_
  obtain ⟨x6, hx7, h⟩ := ob h
  obtain ⟨hx7_0, hx7_1, hx7_2, hx7_3, hx7_4⟩ := at_facts hx7
  refine r_run 2 (by simp [hx5_0, hx5_1, hx5_2, hx5_3, hx5_4, hx7_0, hx7_1, hx7_2, hx7_3, hx7_4] <;> rfl) ?_
  obtain ⟨v8, hv9, h⟩ := ob h
  apply r_call (by simp [hx5_0, hx5_1, hx5_2, hx5_3, hx5_4, hx7_0, hx7_1, hx7_2, hx7_3, hx7_4, hb1, hb1s, hb3, hb3s]) (by simp [hx5_0, hx5_1, hx5_2, hx5_3, hx5_4, hx7_0, hx7_1, hx7_2, hx7_3, hx7_4] <;> rfl) (by simp [hx5_0, hx5_1, hx5_2, hx5_3, hx5_4, hx7_0, hx7_1, hx7_2, hx7_3, hx7_4] <;> rfl)
  · first | exact run_laws_eqReply hv9 | simpa [hx5_0, hx5_1, hx5_2, hx5_3, hx5_4, hx7_0, hx7_1, hx7_2, hx7_3, hx7_4] using run_laws_eqReply hv9
  · simp [hx5_0, hx5_1, hx5_2, hx5_3, hx5_4, hx7_0, hx7_1, hx7_2, hx7_3, hx7_4] <;> rfl
  refine r_run 2 (by simp <;> rfl) ?_
  refine r_nil ?_
  refine w_st (by simp <;> rfl) ?_
  rcases oif h with ⟨hb10, h⟩ | ⟨hb10, h⟩
  · have hb10s := hb10; try simp at hb10s
    refine w_true (by simp [hb10, hb10s]) ?_
    refine w_seq ?_
    refine w_st (by simp <;> rfl) ?_
    refine w_reg ?_
    refine k_run 1 (by simp <;> rfl) ?_
    refine k_nil ?_
    refine w_st (by simp <;> rfl) ?_
    refine w_ret ?_
    obtain rfl := Option.some.inj h
    simp [hx5_0, hx5_1, hx5_2, hx5_3, hx5_4, hx7_0, hx7_1, hx7_2, hx7_3, hx7_4, hb1, hb1s, hb3, hb3s, hb10, hb10s]
  replace hb10 := eq_false_of_ne_true hb10
  have hb10s := hb10; try simp at hb10s
  refine w_false (by simp [hb10, hb10s]) ?_
  refine w_skip ?_
  refine w_st (by simp <;> rfl) ?_
  refine w_reg ?_
  refine k_run 5 (by simp <;> rfl) ?_
  refine k_nil ?_
  refine t_st (T := T) ?_ (ih1 _ h)
  simp [hx5_0, hx5_1, hx5_2, hx5_3, hx5_4, hx7_0, hx7_1, hx7_2, hx7_3, hx7_4, hb1, hb1s, hb3, hb3s, hb10, hb10s]

/-- laws.FnExactOffersTo -/
def x_laws_FnExactOffersTo : XFunc := .mk [.v, .v] [.tmp 4] (.seq (.region [(none, .as 4 (.k (.bool false)))] [0, 1]) (.seq (.region [(none, .as 5 (.k (.int .i64 1048576)))] [0, 1, 5]) (.seq (.region [(none, .mv 9 (.tmp 0)),
 (none, .mv 10 (.tmp 5)),
 (none, .drop [5]),
 (none, .call 11 x_laws_szReplyS [(.tmp 9), (.tmp 10)]),
 (none, .drop [9, 10]),
 (none, .as 5 (.tmp 11))] [0, 1, 5]) (.seq (.seq (.region [(none, .mv 12 (.tmp 5)),
 (none, .drop [5]),
 (none, .bin 13 .num .lss (.tmp 12) (.k (.int .i64 0)))] [0, 1, 13]) (.cond 13 [4] [0, 1, 4] (.seq (.region [(none, .as 4 (.k (.bool true)))] [4]) (.ret)) (.skip))) (.seq (.region [(none, .mv 14 (.tmp 0)),
 (none, .call 15 x_laws_toReplyS [(.tmp 14)]),
 (none, .drop [14]),
 (none, .mv 16 (.tmp 1)),
 (none, .call 17 x_spec_OffersTo [(.tmp 15), (.tmp 16)]),
 (none, .drop [15, 16]),
 (none, .as 6 (.tmp 17))] [0, 1, 6]) (.seq (.region [(none, .mv 18 (.tmp 0)),
 (none, .call 19 x_laws_toReplyS [(.tmp 18)]),
 (none, .drop [18]),
 (none, .as 7 (.tmp 19))] [0, 1, 6, 7]) (.seq (.region [(none, .mv 20 (.tmp 7)),
 (none, .mv 21 (.tmp 1)),
 (none, .drop [1]),
 (none, .call 22 x_impl_OffersTo [(.tmp 20), (.tmp 21)]),
 (none, .drop [20, 21]),
 (none, .as 8 (.tmp 22))] [0, 6, 7, 8]) (.seq (.seq (.region [(none, .mv 23 (.tmp 8)),
 (none, .drop [8]),
 (none, .mv 24 (.tmp 6)),
 (none, .drop [6]),
 (none, .bin 25 .num .neq (.tmp 23) (.tmp 24))] [0, 7, 25]) (.cond 25 [4] [0, 4, 7] (.seq (.region [(none, .as 4 (.k (.bool false)))] [4]) (.ret)) (.skip))) (.seq (.seq (.region [(none, .mv 26 (.tmp 7)),
 (none, .mv 27 (.tmp 0)),
 (none, .call 28 x_laws_toReplyS [(.tmp 27)]),
 (none, .drop [0, 27]),
 (none, .call 29 x_laws_eqReplyS [(.tmp 26), (.tmp 28)]),
 (none, .drop [7, 26, 28]),
 (none, .un 30 .not (.tmp 29))] [30]) (.cond 30 [4] [4] (.seq (.region [(none, .as 4 (.k (.bool false)))] [4]) (.ret)) (.skip))) (.seq (.region [(none, .as 4 (.k (.bool true)))] [4]) (.ret)))))))))))
@[simp] theorem x_laws_FnExactOffersTo_m : modes x_laws_FnExactOffersTo = [.v, .v] := rfl
def d_laws_FnExactOffersTo (p0 : List GReply) (p1 : Int) : Option Bool :=
  (d_laws_szReplyS p0 1048576).bind fun v1 =>
  if (decide (v1 < 0)) = true then
    some true
  else (d_laws_toReplyS p0).bind fun v4 =>
  (d_spec_OffersTo v4 p1).bind fun v6 =>
  (d_laws_toReplyS p0).bind fun v8 =>
  (d_impl_OffersTo v8 p1).bind fun v10 =>
  if (v10 != v6) = true then
    some false
  else (d_laws_toReplyS p0).bind fun v13 =>
  (d_laws_eqReplyS v8 v13).bind fun v15 =>
  if (!v15) = true then
    some false
  else some true
theorem run_laws_FnExactOffersTo {p0 : List GReply} {p1 : Int} {r : Bool} (h : d_laws_FnExactOffersTo p0 p1 = some r) : Runs x_laws_FnExactOffersTo [.v .one [.sl 2 (p0.map eGReply)], .v .one [eI p1]] .one [.bool r] [] := by
  refine Runs.mk (by simp <;> rfl) ?_ (by simp)
  rw [d_laws_FnExactOffersTo] at h
  refine w_seq ?_
  refine w_reg ?_
  refine k_run 1 (by simp <;> rfl) ?_
  refine k_nil ?_
  refine w_seq ?_
  refine w_st (by simp <;> rfl) ?_
  refine w_reg ?_
  refine k_run 1 (by simp <;> rfl) ?_
  refine k_nil ?_
  refine w_seq ?_
  refine w_st (by simp <;> rfl) ?_
  refine w_reg ?_
  refine k_run 3 (by simp <;> rfl) ?_
  obtain ⟨v1, hv2, h⟩ := ob h
  apply k_call (by simp <;> rfl) (by simp <;> rfl)
  · first | exact run_laws_szReplyS hv2 | simpa using run_laws_szReplyS hv2
  · simp <;> rfl
  refine k_run 2 (by simp <;> rfl) ?_
  refine k_nil ?_
  iterate 2 refine w_seq ?_
  refine w_st (by simp <;> rfl) ?_
  refine w_reg ?_
  refine k_run 3 (by simp <;> rfl) ?_
  refine k_nil ?_
  refine w_st (by simp <;> rfl) ?_
  rcases oif h with ⟨hb3, h⟩ | ⟨hb3, h⟩
  · have hb3s := hb3; try simp at hb3s
    refine w_true (by simp [hb3, hb3s]) ?_
    refine w_seq ?_
    refine w_st (by simp <;> rfl) ?_
    refine w_reg ?_
    refine k_run 1 (by simp <;> rfl) ?_
    refine k_nil ?_
    refine w_st (by simp <;> rfl) ?_
    refine w_ret ?_
    obtain rfl := Option.some.inj h
    simp [hb3, hb3s]
  replace hb3 := eq_false_of_ne_true hb3
  have hb3s := hb3; try simp at hb3s
  refine w_false (by simp [hb3, hb3s]) ?_
  refine w_skip ?_
  refine w_seq ?_
  refine w_st (by simp <;> rfl) ?_
  refine w_reg ?_
  refine k_run 1 (by simp <;> rfl) ?_
  obtain ⟨v4, hv5, h⟩ := ob h
  apply k_call (by simp <;> rfl) (by simp <;> rfl)
  · first | exact run_laws_toReplyS hv5 | simpa using run_laws_toReplyS hv5
  · simp <;> rfl
  refine k_run 2 (by simp <;> rfl) ?_
  obtain ⟨v6, hv7, h⟩ := ob h
  apply k_call (by simp <;> rfl) (by simp <;> rfl)
  · first | exact run_spec_OffersTo hv7 | simpa using run_spec_OffersTo hv7
  · simp <;> rfl
  refine k_run 2 (by simp <;> rfl) ?_
  refine k_nil ?_
  refine w_seq ?_
  refine w_st (by simp <;> rfl) ?_
  refine w_reg ?_
  refine k_run 1 (by simp <;> rfl) ?_
  obtain ⟨v8, hv9, h⟩ := ob h
  apply k_call (by simp <;> rfl) (by simp <;> rfl)
  · first | exact run_laws_toReplyS hv9 | simpa using run_laws_toReplyS hv9
  · simp <;> rfl
  refine k_run 2 (by simp <;> rfl) ?_
  refine k_nil ?_
  refine w_seq ?_
  refine w_st (by simp <;> rfl) ?_
  refine w_reg ?_
  refine k_run 3 (by simp <;> rfl) ?_
  obtain ⟨v10, hv11, h⟩ := ob h
  apply k_call (by simp <;> rfl) (by simp <;> rfl)
  · first | exact run_impl_OffersTo hv11 | simpa using run_impl_OffersTo hv11
  · simp <;> rfl
  refine k_run 2 (by simp <;> rfl) ?_
  refine k_nil ?_
  iterate 2 refine w_seq ?_
  refine w_st (by simp <;> rfl) ?_
  refine w_reg ?_
  refine k_run 5 (by simp <;> rfl) ?_
  refine k_nil ?_
  refine w_st (by simp <;> rfl) ?_
  rcases oif h with ⟨hb12, h⟩ | ⟨hb12, h⟩
  · have hb12s := hb12; try simp at hb12s
    refine w_true (by simp [hb12, hb12s]) ?_
    refine w_seq ?_
    refine w_st (by simp <;> rfl) ?_
    refine w_reg ?_
    refine k_run 1 (by simp <;> rfl) ?_
    refine k_nil ?_
    refine w_st (by simp <;> rfl) ?_
    refine w_ret ?_
    obtain rfl := Option.some.inj h
    simp [hb3, hb3s, hb12, hb12s]
  replace hb12 := eq_false_of_ne_true hb12
  have hb12s := hb12; try simp at hb12s
  refine w_false (by simp [hb12, hb12s]) ?_
  refine w_skip ?_
  iterate 2 refine w_seq ?_
  refine w_st (by simp <;> rfl) ?_
  refine w_reg ?_
  refine k_run 2 (by simp <;> rfl) ?_
  obtain ⟨v13, hv14, h⟩ := ob h
  apply k_call (by simp <;> rfl) (by simp <;> rfl)
  · first | exact run_laws_toReplyS hv14 | simpa using run_laws_toReplyS hv14
  · simp <;> rfl
  refine k_run 1 (by simp <;> rfl) ?_
  obtain ⟨v15, hv16, h⟩ := ob h
  apply k_call (by simp <;> rfl) (by simp <;> rfl)
  · first | exact run_laws_eqReplyS hv16 | simpa using run_laws_eqReplyS hv16
  · simp <;> rfl
  refine k_run 2 (by simp <;> rfl) ?_
  refine k_nil ?_
  refine w_st (by simp <;> rfl) ?_
  rcases oif h with ⟨hb17, h⟩ | ⟨hb17, h⟩
  · have hb17s := hb17; try simp at hb17s
    refine w_true (by simp [hb17, hb17s]) ?_
    refine w_seq ?_
    refine w_st (by simp <;> rfl) ?_
    refine w_reg ?_
    refine k_run 1 (by simp <;> rfl) ?_
    refine k_nil ?_
    refine w_st (by simp <;> rfl) ?_
    refine w_ret ?_
    obtain rfl := Option.some.inj h
    simp [hb3, hb3s, hb12, hb12s, hb17, hb17s]
  replace hb17 := eq_false_of_ne_true hb17
  have hb17s := hb17; try simp at hb17s
  refine w_false (by simp [hb17, hb17s]) ?_
  refine w_skip ?_
  refine w_seq ?_
  refine w_st (by simp <;> rfl) ?_
  refine w_reg ?_
  refine k_run 1 (by simp <;> rfl) ?_
  refine k_nil ?_
  refine w_st (by simp <;> rfl) ?_
  refine w_ret ?_
  obtain rfl := Option.some.inj h
  simp [hb3, hb3s, hb12, hb12s, hb17, hb17s]

/-- laws.szReqS -/
def x_laws_szReqS : XFunc := .mk [.v, .v] [.tmp 4] (.seq (.region [(none, .as 4 (.k (.int .i64 0)))] [0, 1]) (.seq (.region [(none, .mv 5 (.tmp 1)),
 (none, .drop [1]),
 (none, .mv 6 (.tmp 0)),
 (none, .len 7 (.tmp 6)),
 (none, .drop [0, 6]),
 (none, .bin 8 .num .sub (.tmp 5) (.tmp 7)),
 (none, .drop [5, 7]),
 (none, .as 1 (.tmp 8))] [1]) (.seq (.seq (.region [(none, .mv 9 (.tmp 1)),
 (none, .bin 10 .num .lss (.tmp 9) (.k (.int .i64 0)))] [1, 10]) (.cond 10 [4] [1, 4] (.seq (.region [(none, .as 4 (.k (.int .i64 (-1))))] [4]) (.ret)) (.skip))) (.seq (.region [(none, .mv 11 (.tmp 1)),
 (none, .drop [1]),
 (none, .as 4 (.tmp 11))] [4]) (.ret)))))
@[simp] theorem x_laws_szReqS_m : modes x_laws_szReqS = [.v, .v] := rfl
def d_laws_szReqS (p0 : List GReq) (p1 : Int) : Option Int :=
  if (decide ((w64 (p1 - (p0.length : Int))) < 0)) = true then
    some (-1)
  else some (w64 (p1 - (p0.length : Int)))
theorem run_laws_szReqS {p0 : List GReq} {p1 : Int} {r : Int} (h : d_laws_szReqS p0 p1 = some r) : Runs x_laws_szReqS [.v .one [.sl 6 (p0.map eGReq)], .v .one [eI p1]] .one [eI r] [] := by
  refine Runs.mk (by simp <;> rfl) ?_ (by simp)
  rw [d_laws_szReqS] at h
  refine w_seq ?_
  refine w_reg ?_
  refine k_run 1 (by simp <;> rfl) ?_
  refine k_nil ?_
  refine w_seq ?_
  refine w_st (by simp <;> rfl) ?_
  refine w_reg ?_
  refine k_run 8 (by simp <;> rfl) ?_
  refine k_nil ?_
  iterate 2 refine w_seq ?_
  refine w_st (by simp <;> rfl) ?_
  refine w_reg ?_
  refine k_run 2 (by simp <;> rfl) ?_
  refine k_nil ?_
  refine w_st (by simp <;> rfl) ?_
  rcases oif h with ⟨hb1, h⟩ | ⟨hb1, h⟩
  · have hb1s := hb1; try simp at hb1s
    refine w_true (by simp [hb1, hb1s]) ?_
    refine w_seq ?_
    refine w_st (by simp <;> rfl) ?_
    refine w_reg ?_
    refine k_run 1 (by simp <;> rfl) ?_
    refine k_nil ?_
    refine w_st (by simp <;> rfl) ?_
    refine w_ret ?_
    obtain rfl := Option.some.inj h
    simp [hb1, hb1s]
  replace hb1 := eq_false_of_ne_true hb1
  have hb1s := hb1; try simp at hb1s
  refine w_false (by simp [hb1, hb1s]) ?_
  refine w_skip ?_
  refine w_seq ?_
  refine w_st (by simp <;> rfl) ?_
  refine w_reg ?_
  refine k_run 3 (by simp <;> rfl) ?_
  refine k_nil ?_
  refine w_st (by simp <;> rfl) ?_
  refine w_ret ?_
  obtain rfl := Option.some.inj h
  simp [hb1, hb1s]

/-- laws.toReq -/
def x_laws_toReq : XFunc := .mk [.v] [.cell 2 (some 6)] (.seq (.region [(none, .box 1 (.tmp 0)),
 (none, .drop [0]),
 (none, .alloc 2 [.int .i64 0, .int .i64 0, .int .i64 0, .int .i64 0, .int .i64 0, .int .i64 0])] [1, 2]) (.seq (.region [(none, .alloc 3 [.int .i64 0, .int .i64 0, .int .i64 0, .int .i64 0, .int .i64 0, .int .i64 0])] [1, 2, 3]) (.seq (.region [(none, .fa 4 0 (.tmp 1)),
 (none, .ld 5 none (.tmp 4)),
 (none, .drop [4]),
 (none, .fa 6 0 (.tmp 3)),
 (none, .st 1 (.tmp 6) (.tmp 5))] [1, 2, 3]) (.seq (.region [(none, .fa 7 1 (.tmp 1)),
 (none, .ld 8 none (.tmp 7)),
 (none, .drop [7]),
 (none, .fa 9 1 (.tmp 3)),
 (none, .st 1 (.tmp 9) (.tmp 8))] [1, 2, 3]) (.seq (.region [(none, .fa 10 2 (.tmp 1)),
 (none, .ld 11 none (.tmp 10)),
 (none, .drop [10]),
 (none, .fa 12 2 (.tmp 3)),
 (none, .st 1 (.tmp 12) (.tmp 11))] [1, 2, 3]) (.seq (.region [(none, .fa 13 3 (.tmp 1)),
 (none, .ld 14 none (.tmp 13)),
 (none, .drop [13]),
 (none, .fa 15 3 (.tmp 3)),
 (none, .st 1 (.tmp 15) (.tmp 14))] [1, 2, 3]) (.seq (.region [(none, .fa 16 4 (.tmp 1)),
 (none, .ld 17 none (.tmp 16)),
 (none, .drop [16]),
 (none, .fa 18 4 (.tmp 3)),
 (none, .st 1 (.tmp 18) (.tmp 17))] [1, 2, 3]) (.seq (.region [(none, .fa 19 5 (.tmp 1)),
 (none, .ld 20 none (.tmp 19)),
 (none, .drop [1, 19]),
 (none, .fa 21 5 (.tmp 3)),
 (none, .st 1 (.tmp 21) (.tmp 20))] [2, 3]) (.seq (.region [(none, .ld 22 (some 6) (.tmp 3)),
 (none, .drop [3]),
 (none, .st 6 (.tmp 2) (.tmp 22))] [2]) (.ret))))))))))
@[simp] theorem x_laws_toReq_m : modes x_laws_toReq = [.v] := rfl
def d_laws_toReq (p0 : GReq) : Option GReq :=
  some p0
theorem run_laws_toReq {p0 : GReq} {r : GReq} (h : d_laws_toReq p0 = some r) : Runs x_laws_toReq [.v .agg [eI p0.Kind, eI p0.Id, eI p0.Cabin, eI p0.From, eI p0.Size, eI p0.Tier]] .agg [eI r.Kind, eI r.Id, eI r.Cabin, eI r.From, eI r.Size, eI r.Tier] [] := by
  refine Runs.mk (by simp <;> rfl) ?_ (by simp)
  rw [d_laws_toReq] at h
  refine w_seq ?_
  refine w_reg ?_
  refine k_run 3 (by simp <;> rfl) ?_
  refine k_nil ?_
  refine w_seq ?_
  refine w_st (by simp <;> rfl) ?_
  refine w_reg ?_
  refine k_run 1 (by simp <;> rfl) ?_
  refine k_nil ?_
  refine w_seq ?_
  refine w_st (by simp <;> rfl) ?_
  refine w_reg ?_
  refine k_run 5 (by simp <;> rfl) ?_
  refine k_nil ?_
  refine w_seq ?_
  refine w_st (by simp <;> rfl) ?_
  refine w_reg ?_
  refine k_run 5 (by simp <;> rfl) ?_
  refine k_nil ?_
  refine w_seq ?_
  refine w_st (by simp <;> rfl) ?_
  refine w_reg ?_
  refine k_run 5 (by simp <;> rfl) ?_
  refine k_nil ?_
  refine w_seq ?_
  refine w_st (by simp <;> rfl) ?_
  refine w_reg ?_
  refine k_run 5 (by simp <;> rfl) ?_
  refine k_nil ?_
  refine w_seq ?_
  refine w_st (by simp <;> rfl) ?_
  refine w_reg ?_
  refine k_run 5 (by simp <;> rfl) ?_
  refine k_nil ?_
  refine w_seq ?_
  refine w_st (by simp <;> rfl) ?_
  refine w_reg ?_
  refine k_run 5 (by simp <;> rfl) ?_
  refine k_nil ?_
  refine w_seq ?_
  refine w_st (by simp <;> rfl) ?_
  refine w_reg ?_
  refine k_run 3 (by simp <;> rfl) ?_
  refine k_nil ?_
  refine w_st (by simp <;> rfl) ?_
  refine w_ret ?_
  obtain rfl := Option.some.inj h
  simp

/-- laws.toReqS -/
def x_laws_toReqS : XFunc := .mk [.v] [.tmp 2] (.seq (.region [(none, .as 2 (.k (.nil))),
 (none, .nils [(.tmp 2 0, 6)])] [0]) (.seq (.region [(none, .mv 5 (.tmp 0)),
 (none, .len 6 (.tmp 5)),
 (none, .drop [5]),
 (none, .mksl 7 [.int .i64 0, .int .i64 0, .int .i64 0, .int .i64 0, .int .i64 0, .int .i64 0] (.tmp 6) (.tmp 6)),
 (none, .drop [6]),
 (none, .as 3 (.tmp 7))] [0, 3]) (.seq (.seq (.region [(none, .as 4 (.k (.int .i64 0)))] [0, 3, 4]) (.block 0 (.loop (.seq (.seq (.region [(none, .mv 8 (.tmp 4)),
 (none, .mv 9 (.tmp 0)),
 (none, .len 10 (.tmp 9)),
 (none, .drop [9]),
 (none, .bin 11 .num .lss (.tmp 8) (.tmp 10))] [0, 3, 4, 11]) (.cond 11 [0, 2, 3, 4] [2, 3] (.skip) (.exit 0))) (.seq (.block 1 (.region [(none, .mv 14 (.tmp 3)),
 (none, .mv 15 (.tmp 4)),
 (none, .mv 16 (.tmp 0)),
 (none, .mv 17 (.tmp 4)),
 (none, .ia 18 6 (.tmp 16) (.tmp 17)),
 (none, .ld 19 (some 6) (.tmp 18)),
 (none, .drop [16, 17, 18]),
 (none, .call 20 x_laws_toReq [(.tmp 19)]),
 (none, .drop [19]),
 (none, .ia 21 6 (.tmp 14) (.tmp 15)),
 (none, .st 6 (.tmp 21) (.tmp 20))] [0, 3, 4])) (.region [(none, .mv 12 (.tmp 4)),
 (none, .drop [4]),
 (none, .bin 13 .num .add (.tmp 12) (.k (.int .i64 1))),
 (none, .drop [12]),
 (none, .as 4 (.tmp 13))] [0, 3, 4])))))) (.seq (.region [(none, .mv 22 (.tmp 3)),
 (none, .as 2 (.tmp 22))] [2, 3]) (.ret)))))
@[simp] theorem x_laws_toReqS_m : modes x_laws_toReqS = [.v] := rfl
@[simp] def d_laws_toReqS_j1 (j3_2 : List GReq) : Option (List GReq) :=
  some j3_2
def d_laws_toReqS_l1 (p0 : List GReq) : Nat → List GReq × Int → Option (List GReq)
  | 0, _ => none
  | n1 + 1, (v3_3, v4_4) => if (decide (v4_4 < (p0.length : Int))) = true then
      (at? p0 v4_4).bind fun x6 =>
      (d_laws_toReq x6).bind fun v8 =>
      (at? v3_3 v4_4).bind fun x10 =>
      (d_laws_toReqS_l1 p0 n1) ((v3_3.set v4_4.toNat v8), (w64 (v4_4 + 1)))
    else d_laws_toReqS_j1 v3_3
def d_laws_toReqS (p0 : List GReq) : Option (List GReq) :=
  if 0 ≤ (p0.length : Int) ∧ (p0.length : Int) ≤ 16777216 then
    d_laws_toReqS_l1 p0 big ((List.replicate (p0.length : Int).toNat (GReq.mk 0 0 0 0 0 0)), 0)
  else none
theorem run_laws_toReqS {p0 : List GReq} {r : List GReq} (h : d_laws_toReqS p0 = some r) : Runs x_laws_toReqS [.v .one [.sl 6 (p0.map eGReq)]] .one [.sl 6 (r.map eGReq)] [] := by
  refine Runs.mk (by simp <;> rfl) ?_ (by simp)
  rw [d_laws_toReqS] at h
  refine w_seq ?_
  refine w_reg ?_
  refine k_run 2 (by simp <;> rfl) ?_
  refine k_nil ?_
  refine w_seq ?_
  refine w_st (by simp <;> rfl) ?_
  refine w_reg ?_
  refine k_run 3 (by simp <;> rfl) ?_
  obtain ⟨hg1, h⟩ := oguard h
  have hg1s := hg1; try simp at hg1s
  refine k_run 3 (by simp [hg1, hg1s] <;> rfl) ?_
  refine k_nil ?_
  refine w_cut (fun x : List GReq => ⟨[(3, ⟨.one, [.ow (.sl 6 (x.map eGReq))]⟩)], [], []⟩) (fun x => d_laws_toReqS_j1 x = some r) (fun j3_2 h => ?_) ?_
  · replace h : d_laws_toReqS_j1 j3_2 = some r := h
    rw [d_laws_toReqS_j1] at h
    refine w_seq ?_
    refine w_reg ?_
    refine k_run 2 (by simp <;> rfl) ?_
    refine k_nil ?_
    refine w_st (by simp <;> rfl) ?_
    refine w_ret ?_
    obtain rfl := Option.some.inj h
    simp
  refine w_seq ?_
  refine w_st (by simp <;> rfl) ?_
  refine w_reg ?_
  refine k_run 1 (by simp <;> rfl) ?_
  refine k_nil ?_
  refine w_block ?_
  refine w_fuel (fun x : List GReq × Int => ⟨[(0, ⟨.one, [.vw (.old 0) 6 (p0.map eGReq)]⟩), (3, ⟨.one, [.ow (.sl 6 (x.1.map eGReq))]⟩), (4, ⟨.one, [.t (eI x.2)]⟩)], [], []⟩) (fun n1 x => d_laws_toReqS_l1 p0 n1 x) (n := big) (x := ((List.replicate (p0.length : Int).toNat (GReq.mk 0 0 0 0 0 0)), 0)) (fun n1 x h T ih1 => ?_) (fun x h => by simp [d_laws_toReqS_l1] at h) (by simp) h
  obtain ⟨v3_3, v4_4⟩ := x
  replace h : d_laws_toReqS_l1 p0 (n1 + 1) (v3_3, v4_4) = some r := h
  rw [d_laws_toReqS_l1] at h
  iterate 2 refine w_seq ?_
  refine w_reg ?_
  refine k_run 5 (by simp <;> rfl) ?_
  refine k_nil ?_
  refine w_st (by simp <;> rfl) ?_
  rcases oif' h with ⟨hb5, h⟩ | ⟨hb5, h⟩
  · replace hb5 := eq_false_of_ne_true hb5
    have hb5s := hb5; try simp at hb5s
    refine w_false (by simp [hb5, hb5s]) ?_
    refine w_exit ?_
    refine x_here ?_
    exact ⟨v3_3, by simp [hb5, hb5s], h⟩
  have hb5s := hb5; try simp at hb5s
  refine w_true (by simp [hb5, hb5s]) ?_
  refine w_skip ?_
  refine w_seq ?_
  refine w_block ?_
  refine w_st (by simp <;> rfl) ?_
  refine w_reg ?_
  refine k_run 4 (by simp <;> rfl) ?_
  obtain ⟨x6, hx7, h⟩ := ob h
  obtain ⟨hx7_0, hx7_1, hx7_2, hx7_3, hx7_4⟩ := at_facts hx7
  refine k_run 3 (by simp [hx7_0, hx7_1, hx7_2, hx7_3, hx7_4] <;> rfl) ?_
  obtain ⟨v8, hv9, h⟩ := ob h
  apply k_call (by simp [hx7_0, hx7_1, hx7_2, hx7_3, hx7_4] <;> rfl) (by simp [hx7_0, hx7_1, hx7_2, hx7_3, hx7_4] <;> rfl)
  · first | exact run_laws_toReq hv9 | simpa [hx7_0, hx7_1, hx7_2, hx7_3, hx7_4] using run_laws_toReq hv9
  · simp [hx7_0, hx7_1, hx7_2, hx7_3, hx7_4] <;> rfl
  refine k_run 1 (by simp <;> rfl) ?_
  obtain ⟨x10, hx11, h⟩ := ob h
  obtain ⟨hx11_0, hx11_1, hx11_2, hx11_3, hx11_4⟩ := at_facts hx11
  refine k_run 2 (by simp [hx7_0, hx7_1, hx7_2, hx7_3, hx7_4, hx11_0, hx11_1, hx11_2, hx11_3, hx11_4] <;> rfl) ?_
  refine k_nil ?_
  refine w_st (by simp <;> rfl) ?_
  refine w_reg ?_
  refine k_run 5 (by simp <;> rfl) ?_
  refine k_nil ?_
  refine t_st (T := T) ?_ (ih1 _ h)
  simp [hx7_0, hx7_1, hx7_2, hx7_3, hx7_4, hx11_0, hx11_1, hx11_2, hx11_3, hx11_4, hb5, hb5s]

/-- spec.l24Done -/
def x_spec_l24Done : XFunc := .mk [.v, .v] [.tmp 4] (.seq (.region [(none, .as 4 (.k (.bool false)))] [0, 1]) (.seq (.region [(none, .mv 5 (.tmp 1)),
 (none, .mv 6 (.tmp 0)),
 (none, .len 7 (.tmp 6)),
 (none, .drop [6]),
 (none, .bin 8 .num .lss (.tmp 5) (.tmp 7)),
 (none, .drop [5, 7]),
 (none, .mv 9 (.tmp 8)),
 (none, .drop [8]),
 ((some (9, true)), .mv 10 (.tmp 0)),
 ((some (9, true)), .mv 11 (.tmp 1)),
 (none, .drop [1]),
 ((some (9, true)), .ia 12 2 (.tmp 10) (.tmp 11)),
 ((some (9, true)), .fa 13 0 (.tmp 12)),
 (none, .drop [12]),
 ((some (9, true)), .ld 14 none (.tmp 13)),
 (none, .drop [0, 10, 11, 13]),
 ((some (9, true)), .bin 15 .num .eql (.tmp 14) (.k (.int .i64 0))),
 (none, .drop [14]),
 (none, .pick 16 (.tmp 9) (.tmp 15) (.k (.bool false))),
 (none, .drop [9, 15]),
 (none, .as 4 (.tmp 16))] [4]) (.ret)))
@[simp] theorem x_spec_l24Done_m : modes x_spec_l24Done = [.v, .v] := rfl
@[simp] def d_spec_l24Done_j1 (j4_1 : Bool) : Option Bool :=
  some j4_1
def d_spec_l24Done (p0 : List GReply) (p1 : Int) : Option Bool :=
  if (decide (p1 < (p0.length : Int))) = true then
    (at? p0 p1).bind fun x3 =>
    d_spec_l24Done_j1 (x3.Code == 0)
  else d_spec_l24Done_j1 false
theorem run_spec_l24Done {p0 : List GReply} {p1 : Int} {r : Bool} (h : d_spec_l24Done p0 p1 = some r) : Runs x_spec_l24Done [.v .one [.sl 2 (p0.map eGReply)], .v .one [eI p1]] .one [.bool r] [] := by
  refine Runs.mk (by simp <;> rfl) ?_ (by simp)
  rw [d_spec_l24Done] at h
  refine w_seq ?_
  refine w_reg ?_
  refine k_run 1 (by simp <;> rfl) ?_
  refine k_nil ?_
  refine w_cut (fun x : Bool => ⟨[(4, ⟨.one, [.t (.bool x)]⟩)], [], []⟩) (fun x => d_spec_l24Done_j1 x = some r) (fun j4_1 h => ?_) ?_
  · replace h : d_spec_l24Done_j1 j4_1 = some r := h
    rw [d_spec_l24Done_j1] at h
    refine w_ret ?_
    obtain rfl := Option.some.inj h
    simp
  refine w_st (by simp <;> rfl) ?_
  refine w_reg ?_
  refine k_run 8 (by simp <;> rfl) ?_
  rcases oif' h with ⟨hb2, h⟩ | ⟨hb2, h⟩
  · replace hb2 := eq_false_of_ne_true hb2
    have hb2s := hb2; try simp at hb2s
    refine k_run 13 (by simp [hb2, hb2s] <;> rfl) ?_
    refine k_nil ?_
    exact ⟨false, by simp [hb2, hb2s], h⟩
  have hb2s := hb2; try simp at hb2s
  refine k_run 3 (by simp [hb2, hb2s] <;> rfl) ?_
  obtain ⟨x3, hx4, h⟩ := ob h
  obtain ⟨hx4_0, hx4_1, hx4_2, hx4_3, hx4_4⟩ := at_facts hx4
  refine k_run 10 (by simp [hx4_0, hx4_1, hx4_2, hx4_3, hx4_4, hb2, hb2s] <;> rfl) ?_
  refine k_nil ?_
  exact ⟨(x3.Code == 0), by simp [hx4_0, hx4_1, hx4_2, hx4_3, hx4_4, hb2, hb2s], h⟩

/-- spec.TicksIn -/
def x_spec_TicksIn : XFunc := .mk [.v, .v] [.tmp 4] (.seq (.region [(none, .as 4 (.k (.int .i64 0)))] [0, 1]) (.seq (.region [(none, .as 5 (.k (.int .i64 0)))] [0, 1, 5]) (.seq (.seq (.region [(none, .as 6 (.k (.int .i64 0)))] [0, 1, 5, 6]) (.block 0 (.loop (.seq (.seq (.region [(none, .mv 7 (.tmp 6)),
 (none, .mv 8 (.tmp 0)),
 (none, .len 9 (.tmp 8)),
 (none, .drop [8]),
 (none, .bin 10 .num .lss (.tmp 7) (.tmp 9))] [0, 1, 5, 6, 10]) (.cond 10 [0, 1, 4, 5, 6] [4, 5] (.skip) (.exit 0))) (.seq (.block 1 (.seq (.region [(none, .mv 13 (.tmp 0)),
 (none, .mv 14 (.tmp 6)),
 (none, .ia 15 6 (.tmp 13) (.tmp 14)),
 (none, .fa 16 0 (.tmp 15)),
 (none, .drop [15]),
 (none, .ld 17 none (.tmp 16)),
 (none, .drop [13, 14, 16]),
 (none, .bin 18 .num .eql (.tmp 17) (.k (.int .i64 6))),
 (none, .drop [17]),
 (none, .mv 19 (.tmp 18)),
 (none, .drop [18]),
 ((some (19, true)), .mv 20 (.tmp 1)),
 ((some (19, true)), .mv 21 (.tmp 6)),
 ((some (19, true)), .call 22 x_spec_l24Done [(.tmp 20), (.tmp 21)]),
 (none, .drop [20, 21]),
 (none, .pick 23 (.tmp 19) (.tmp 22) (.k (.bool false)))] [0, 1, 5, 6, 23]) (.cond 23 [0, 1, 4, 5, 6] [0, 1, 4, 5, 6] (.region [(none, .mv 24 (.tmp 5)),
 (none, .drop [5]),
 (none, .bin 25 .num .add (.tmp 24) (.k (.int .i64 1))),
 (none, .drop [24]),
 (none, .as 5 (.tmp 25))] [0, 1, 5, 6]) (.skip)))) (.region [(none, .mv 11 (.tmp 6)),
 (none, .drop [6]),
 (none, .bin 12 .num .add (.tmp 11) (.k (.int .i64 1))),
 (none, .drop [11]),
 (none, .as 6 (.tmp 12))] [0, 1, 5, 6])))))) (.seq (.region [(none, .mv 26 (.tmp 5)),
 (none, .drop [5]),
 (none, .as 4 (.tmp 26))] [4]) (.ret)))))
@[simp] theorem x_spec_TicksIn_m : modes x_spec_TicksIn = [.v, .v] := rfl
@[simp] def d_spec_TicksIn_j1 (j5_1 : Int) : Option Int :=
  some j5_1
@[simp] def d_spec_TicksIn_j2 (L1 : Int × Int → Option Int) (v6_3 : Int) (j5_5 : Int) : Option Int :=
  L1 (j5_5, (w64 (v6_3 + 1)))
@[simp] def d_spec_TicksIn_j3 (L1 : Int × Int → Option Int) (v6_3 : Int) (v5_2 : Int) (j23_6 : Bool) : Option Int :=
  if j23_6 = true then
      (d_spec_TicksIn_j2 L1 v6_3) (w64 (v5_2 + 1))
    else (d_spec_TicksIn_j2 L1 v6_3) v5_2
def d_spec_TicksIn_l1 (p0 : List GReq) (p1 : List GReply) : Nat → Int × Int → Option Int
  | 0, _ => none
  | n1 + 1, (v5_2, v6_3) => if (decide (v6_3 < (p0.length : Int))) = true then
      (at? p0 v6_3).bind fun x8 =>
      if (x8.Kind == 6) = true then
        (d_spec_l24Done p1 v6_3).bind fun v11 =>
        (d_spec_TicksIn_j3 (d_spec_TicksIn_l1 p0 p1 n1) v6_3 v5_2) v11
      else (d_spec_TicksIn_j3 (d_spec_TicksIn_l1 p0 p1 n1) v6_3 v5_2) false
    else d_spec_TicksIn_j1 v5_2
def d_spec_TicksIn (p0 : List GReq) (p1 : List GReply) : Option Int :=
  d_spec_TicksIn_l1 p0 p1 big (0, 0)
theorem run_spec_TicksIn {p0 : List GReq} {p1 : List GReply} {r : Int} (h : d_spec_TicksIn p0 p1 = some r) : Runs x_spec_TicksIn [.v .one [.sl 6 (p0.map eGReq)], .v .one [.sl 2 (p1.map eGReply)]] .one [eI r] [] := by
  refine Runs.mk (by simp <;> rfl) ?_ (by simp)
  rw [d_spec_TicksIn] at h
  refine w_seq ?_
  refine w_reg ?_
  refine k_run 1 (by simp <;> rfl) ?_
  refine k_nil ?_
  refine w_seq ?_
  refine w_st (by simp <;> rfl) ?_
  refine w_reg ?_
  refine k_run 1 (by simp <;> rfl) ?_
  refine k_nil ?_
  refine w_cut (fun x : Int => ⟨[(5, ⟨.one, [.t (eI x)]⟩)], [], []⟩) (fun x => d_spec_TicksIn_j1 x = some r) (fun j5_1 h => ?_) ?_
  · replace h : d_spec_TicksIn_j1 j5_1 = some r := h
    rw [d_spec_TicksIn_j1] at h
    refine w_seq ?_
    refine w_reg ?_
    refine k_run 3 (by simp <;> rfl) ?_
    refine k_nil ?_
    refine w_st (by simp <;> rfl) ?_
    refine w_ret ?_
    obtain rfl := Option.some.inj h
    simp
  refine w_seq ?_
  refine w_st (by simp <;> rfl) ?_
  refine w_reg ?_
  refine k_run 1 (by simp <;> rfl) ?_
  refine k_nil ?_
  refine w_block ?_
  refine w_fuel (fun x : Int × Int => ⟨[(0, ⟨.one, [.vw (.old 0) 6 (p0.map eGReq)]⟩), (1, ⟨.one, [.vw (.old 1) 2 (p1.map eGReply)]⟩), (5, ⟨.one, [.t (eI x.1)]⟩), (6, ⟨.one, [.t (eI x.2)]⟩)], [], []⟩) (fun n1 x => d_spec_TicksIn_l1 p0 p1 n1 x) (n := big) (x := (0, 0)) (fun n1 x h T ih1 => ?_) (fun x h => by simp [d_spec_TicksIn_l1] at h) (by simp) h
  obtain ⟨v5_2, v6_3⟩ := x
  replace h : d_spec_TicksIn_l1 p0 p1 (n1 + 1) (v5_2, v6_3) = some r := h
  rw [d_spec_TicksIn_l1] at h
  iterate 2 refine w_seq ?_
  refine w_reg ?_
  refine k_run 5 (by simp <;> rfl) ?_
  refine k_nil ?_
  refine w_st (by simp <;> rfl) ?_
  rcases oif' h with ⟨hb4, h⟩ | ⟨hb4, h⟩
  · replace hb4 := eq_false_of_ne_true hb4
    have hb4s := hb4; try simp at hb4s
    refine w_false (by simp [hb4, hb4s]) ?_
    refine w_exit ?_
    refine x_here ?_
    exact ⟨v5_2, by simp [hb4, hb4s], h⟩
  have hb4s := hb4; try simp at hb4s
  refine w_true (by simp [hb4, hb4s]) ?_
  refine w_skip ?_
  refine w_cut (fun x : Int => ⟨[(0, ⟨.one, [.vw (.old 0) 6 (p0.map eGReq)]⟩), (1, ⟨.one, [.vw (.old 1) 2 (p1.map eGReply)]⟩), (5, ⟨.one, [.t (eI x)]⟩), (6, ⟨.one, [.t (eI v6_3)]⟩)], [], []⟩) (fun x => (d_spec_TicksIn_j2 (d_spec_TicksIn_l1 p0 p1 n1) v6_3) x = some r) (fun j5_5 h => ?_) ?_
  · replace h : (d_spec_TicksIn_j2 (d_spec_TicksIn_l1 p0 p1 n1) v6_3) j5_5 = some r := h
    rw [d_spec_TicksIn_j2] at h
    refine w_reg ?_
    refine k_run 5 (by simp <;> rfl) ?_
    refine k_nil ?_
    refine t_st (T := T) ?_ (ih1 _ h)
    simp [hb4, hb4s]
  refine w_block ?_
  refine w_cut (fun x : Bool => ⟨[(0, ⟨.one, [.vw (.old 0) 6 (p0.map eGReq)]⟩), (1, ⟨.one, [.vw (.old 1) 2 (p1.map eGReply)]⟩), (5, ⟨.one, [.t (eI v5_2)]⟩), (6, ⟨.one, [.t (eI v6_3)]⟩), (23, ⟨.one, [.t (.bool x)]⟩)], [], []⟩) (fun x => (d_spec_TicksIn_j3 (d_spec_TicksIn_l1 p0 p1 n1) v6_3 v5_2) x = some r) (fun j23_6 h => ?_) ?_
  · replace h : (d_spec_TicksIn_j3 (d_spec_TicksIn_l1 p0 p1 n1) v6_3 v5_2) j23_6 = some r := h
    rw [d_spec_TicksIn_j3] at h
    rcases oif' h with ⟨hb7, h⟩ | ⟨hb7, h⟩
    · replace hb7 := eq_false_of_ne_true hb7
      have hb7s := hb7; try simp at hb7s
      refine w_false (by simp [hb7, hb7s]) ?_
      refine w_skip ?_
      exact ⟨v5_2, by simp [hb4, hb4s, hb7, hb7s], h⟩
    have hb7s := hb7; try simp at hb7s
    refine w_true (by simp [hb7, hb7s]) ?_
    refine w_st (by simp <;> rfl) ?_
    refine w_reg ?_
    refine k_run 5 (by simp <;> rfl) ?_
    refine k_nil ?_
    exact ⟨(w64 (v5_2 + 1)), by simp [hb4, hb4s, hb7, hb7s], h⟩
  refine w_st (by simp <;> rfl) ?_
  refine w_reg ?_
  refine k_run 2 (by simp <;> rfl) ?_
  obtain ⟨x8, hx9, h⟩ := ob h
  obtain ⟨hx9_0, hx9_1, hx9_2, hx9_3, hx9_4⟩ := at_facts hx9
  refine k_run 9 (by simp [hx9_0, hx9_1, hx9_2, hx9_3, hx9_4] <;> rfl) ?_
  rcases oif' h with ⟨hb10, h⟩ | ⟨hb10, h⟩
  · replace hb10 := eq_false_of_ne_true hb10
    have hb10s := hb10; try simp at hb10s
    refine k_run 5 (by simp [hb10, hx9_0, hx9_1, hx9_2, hx9_3, hx9_4] <;> rfl) ?_
    refine k_nil ?_
    exact ⟨false, by simp [hx9_0, hx9_1, hx9_2, hx9_3, hx9_4, hb4, hb4s, hb10, hb10s], h⟩
  have hb10s := hb10; try simp at hb10s
  refine k_run 2 (by simp [hb10] <;> rfl) ?_
  obtain ⟨v11, hv12, h⟩ := ob h
  apply k_callg (by simp [hb10]) (by simp [hx9_0, hx9_1, hx9_2, hx9_3, hx9_4] <;> rfl) (by simp [hx9_0, hx9_1, hx9_2, hx9_3, hx9_4] <;> rfl)
  · first | exact run_spec_l24Done hv12 | simpa [hx9_0, hx9_1, hx9_2, hx9_3, hx9_4] using run_spec_l24Done hv12
  · simp [hx9_0, hx9_1, hx9_2, hx9_3, hx9_4] <;> rfl
  refine k_run 2 (by simp [hx9_0, hx9_1, hx9_2, hx9_3, hx9_4, hb10] <;> rfl) ?_
  refine k_nil ?_
  exact ⟨v11, by simp [hx9_0, hx9_1, hx9_2, hx9_3, hx9_4, hb4, hb4s, hb10, hb10s], h⟩

/-- impl.successful -/
def x_impl_successful : XFunc := .mk [.v, .v, .v, .v] [.tmp 8] (.seq (.region [(none, .as 8 (.k (.bool false)))] [0, 1, 2, 3]) (.seq (.region [(none, .mv 9 (.tmp 0)),
 (none, .mv 10 (.tmp 2)),
 (none, .ia 11 6 (.tmp 9) (.tmp 10)),
 (none, .fa 12 0 (.tmp 11)),
 (none, .drop [11]),
 (none, .ld 13 none (.tmp 12)),
 (none, .drop [0, 9, 10, 12]),
 (none, .mv 14 (.tmp 3)),
 (none, .drop [3]),
 (none, .bin 15 .num .eql (.tmp 13) (.tmp 14)),
 (none, .drop [13, 14]),
 (none, .mv 16 (.tmp 15)),
 (none, .drop [15]),
 ((some (16, true)), .mv 17 (.tmp 2)),
 ((some (16, true)), .mv 18 (.tmp 1)),
 ((some (16, true)), .len 19 (.tmp 18)),
 (none, .drop [18]),
 ((some (16, true)), .bin 20 .num .lss (.tmp 17) (.tmp 19)),
 (none, .drop [17, 19]),
 (none, .pick 21 (.tmp 16) (.tmp 20) (.k (.bool false))),
 (none, .drop [16, 20]),
 (none, .mv 22 (.tmp 21)),
 (none, .drop [21]),
 ((some (22, true)), .mv 23 (.tmp 1)),
 ((some (22, true)), .mv 24 (.tmp 2)),
 (none, .drop [2]),
 ((some (22, true)), .ia 25 2 (.tmp 23) (.tmp 24)),
 ((some (22, true)), .fa 26 0 (.tmp 25)),
 (none, .drop [25]),
 ((some (22, true)), .ld 27 none (.tmp 26)),
 (none, .drop [1, 23, 24, 26]),
 ((some (22, true)), .bin 28 .num .eql (.tmp 27) (.k (.int .i64 0))),
 (none, .drop [27]),
 (none, .pick 29 (.tmp 22) (.tmp 28) (.k (.bool false))),
 (none, .drop [22, 28]),
 (none, .as 8 (.tmp 29))] [8]) (.ret)))
@[simp] theorem x_impl_successful_m : modes x_impl_successful = [.v, .v, .v, .v] := rfl
@[simp] def d_impl_successful_j1 (j8_1 : Bool) : Option Bool :=
  some j8_1
def d_impl_successful (p0 : List GReq) (p1 : List GReply) (p2 : Int) (p3 : Int) : Option Bool :=
  (at? p0 p2).bind fun x2 =>
  if (x2.Kind == p3) = true then
    if (decide (p2 < (p1.length : Int))) = true then
      (at? p1 p2).bind fun x6 =>
      d_impl_successful_j1 (x6.Code == 0)
    else d_impl_successful_j1 false
  else d_impl_successful_j1 false
theorem run_impl_successful {p0 : List GReq} {p1 : List GReply} {p2 : Int} {p3 : Int} {r : Bool} (h : d_impl_successful p0 p1 p2 p3 = some r) : Runs x_impl_successful [.v .one [.sl 6 (p0.map eGReq)], .v .one [.sl 2 (p1.map eGReply)], .v .one [eI p2], .v .one [eI p3]] .one [.bool r] [] := by
  refine Runs.mk (by simp <;> rfl) ?_ (by simp)
  rw [d_impl_successful] at h
  refine w_seq ?_
  refine w_reg ?_
  refine k_run 1 (by simp <;> rfl) ?_
  refine k_nil ?_
  refine w_cut (fun x : Bool => ⟨[(8, ⟨.one, [.t (.bool x)]⟩)], [], []⟩) (fun x => d_impl_successful_j1 x = some r) (fun j8_1 h => ?_) ?_
  · replace h : d_impl_successful_j1 j8_1 = some r := h
    rw [d_impl_successful_j1] at h
    refine w_ret ?_
    obtain rfl := Option.some.inj h
    simp
  refine w_st (by simp <;> rfl) ?_
  refine w_reg ?_
  refine k_run 2 (by simp <;> rfl) ?_
  obtain ⟨x2, hx3, h⟩ := ob h
  obtain ⟨hx3_0, hx3_1, hx3_2, hx3_3, hx3_4⟩ := at_facts hx3
  refine k_run 11 (by simp [hx3_0, hx3_1, hx3_2, hx3_3, hx3_4] <;> rfl) ?_
  rcases oif' h with ⟨hb4, h⟩ | ⟨hb4, h⟩
  · replace hb4 := eq_false_of_ne_true hb4
    have hb4s := hb4; try simp at hb4s
    refine k_run 23 (by simp [hb4, hx3_0, hx3_1, hx3_2, hx3_3, hx3_4] <;> rfl) ?_
    refine k_nil ?_
    exact ⟨false, by simp [hx3_0, hx3_1, hx3_2, hx3_3, hx3_4, hb4, hb4s], h⟩
  have hb4s := hb4; try simp at hb4s
  refine k_run 10 (by simp [hb4, hx3_0, hx3_1, hx3_2, hx3_3, hx3_4] <;> rfl) ?_
  rcases oif' h with ⟨hb5, h⟩ | ⟨hb5, h⟩
  · replace hb5 := eq_false_of_ne_true hb5
    have hb5s := hb5; try simp at hb5s
    refine k_run 13 (by simp [hb5, hb5s, hx3_0, hx3_1, hx3_2, hx3_3, hx3_4] <;> rfl) ?_
    refine k_nil ?_
    exact ⟨false, by simp [hx3_0, hx3_1, hx3_2, hx3_3, hx3_4, hb4, hb4s, hb5, hb5s], h⟩
  have hb5s := hb5; try simp at hb5s
  refine k_run 3 (by simp [hb5, hb5s] <;> rfl) ?_
  obtain ⟨x6, hx7, h⟩ := ob h
  obtain ⟨hx7_0, hx7_1, hx7_2, hx7_3, hx7_4⟩ := at_facts hx7
  refine k_run 10 (by simp [hx3_0, hx3_1, hx3_2, hx3_3, hx3_4, hx7_0, hx7_1, hx7_2, hx7_3, hx7_4, hb5, hb5s] <;> rfl) ?_
  refine k_nil ?_
  exact ⟨(x6.Code == 0), by simp [hx3_0, hx3_1, hx3_2, hx3_3, hx3_4, hx7_0, hx7_1, hx7_2, hx7_3, hx7_4, hb4, hb4s, hb5, hb5s], h⟩

/-- impl.TicksIn -/
def x_impl_TicksIn : XFunc := .mk [.v, .v] [.tmp 4] (.seq (.region [(none, .as 4 (.k (.int .i64 0)))] [0, 1]) (.seq (.region [(none, .as 5 (.k (.int .i64 0)))] [0, 1, 5]) (.seq (.seq (.region [(none, .mv 7 (.tmp 0)),
 (none, .len 8 (.tmp 7)),
 (none, .drop [7]),
 (none, .mv 9 (.k (.int .i64 0)))] [0, 1, 5, 8, 9]) (.block 0 (.loop (.seq (.region [(none, .bin 10 .num .lss (.tmp 9) (.tmp 8))] [0, 1, 5, 8, 9, 10]) (.seq (.cond 10 [0, 1, 4, 5, 8, 9] [4, 5] (.skip) (.exit 0)) (.seq (.block 1 (.seq (.region [(none, .mv 11 (.tmp 9)),
 (none, .as 6 (.tmp 11))] [0, 1, 5, 6, 8, 9]) (.seq (.region [(none, .mv 12 (.tmp 0)),
 (none, .mv 13 (.tmp 1)),
 (none, .mv 14 (.tmp 6)),
 (none, .drop [6]),
 (none, .call 15 x_impl_successful [(.tmp 12), (.tmp 13), (.tmp 14), (.k (.int .i64 6))])] [0, 1, 5, 8, 9, 15]) (.cond 15 [0, 1, 4, 5, 8, 9] [0, 1, 4, 5, 8, 9] (.region [(none, .mv 16 (.tmp 5)),
 (none, .drop [5]),
 (none, .bin 17 .num .add (.tmp 16) (.k (.int .i64 1))),
 (none, .drop [16]),
 (none, .as 5 (.tmp 17))] [0, 1, 5, 8, 9]) (.skip))))) (.region [(none, .bin 18 .num .add (.tmp 9) (.k (.int .i64 1))),
 (none, .drop [9]),
 (none, .mv 9 (.tmp 18))] [0, 1, 5, 8, 9]))))))) (.seq (.region [(none, .mv 19 (.tmp 5)),
 (none, .drop [5]),
 (none, .as 4 (.tmp 19))] [4]) (.ret)))))
@[simp] theorem x_impl_TicksIn_m : modes x_impl_TicksIn = [.v, .v] := rfl
@[simp] def d_impl_TicksIn_j1 (j5_1 : Int) : Option Int :=
  some j5_1
@[simp] def d_impl_TicksIn_j2 (L1 : Int × Int → Option Int) (v9_3 : Int) (j5_5 : Int) : Option Int :=
  L1 (j5_5, (w64 (v9_3 + 1)))
def d_impl_TicksIn_l1 (p0 : List GReq) (p1 : List GReply) : Nat → Int × Int → Option Int
  | 0, _ => none
  | n1 + 1, (v5_2, v9_3) => if (decide (v9_3 < (p0.length : Int))) = true then
      (d_impl_successful p0 p1 v9_3 6).bind fun v6 =>
      if v6 = true then
        (d_impl_TicksIn_j2 (d_impl_TicksIn_l1 p0 p1 n1) v9_3) (w64 (v5_2 + 1))
      else (d_impl_TicksIn_j2 (d_impl_TicksIn_l1 p0 p1 n1) v9_3) v5_2
    else d_impl_TicksIn_j1 v5_2
def d_impl_TicksIn (p0 : List GReq) (p1 : List GReply) : Option Int :=
  d_impl_TicksIn_l1 p0 p1 big (0, 0)
theorem run_impl_TicksIn {p0 : List GReq} {p1 : List GReply} {r : Int} (h : d_impl_TicksIn p0 p1 = some r) : Runs x_impl_TicksIn [.v .one [.sl 6 (p0.map eGReq)], .v .one [.sl 2 (p1.map eGReply)]] .one [eI r] [] := by
  refine Runs.mk (by simp <;> rfl) ?_ (by simp)
  rw [d_impl_TicksIn] at h
  refine w_seq ?_
  refine w_reg ?_
  refine k_run 1 (by simp <;> rfl) ?_
  refine k_nil ?_
  refine w_seq ?_
  refine w_st (by simp <;> rfl) ?_
  refine w_reg ?_
  refine k_run 1 (by simp <;> rfl) ?_
  refine k_nil ?_
  refine w_cut (fun x : Int => ⟨[(5, ⟨.one, [.t (eI x)]⟩)], [], []⟩) (fun x => d_impl_TicksIn_j1 x = some r) (fun j5_1 h => ?_) ?_
  · replace h : d_impl_TicksIn_j1 j5_1 = some r := h
    rw [d_impl_TicksIn_j1] at h
    refine w_seq ?_
    refine w_reg ?_
    refine k_run 3 (by simp <;> rfl) ?_
    refine k_nil ?_
    refine w_st (by simp <;> rfl) ?_
    refine w_ret ?_
    obtain rfl := Option.some.inj h
    simp
  refine w_seq ?_
  refine w_st (by simp <;> rfl) ?_
  refine w_reg ?_
  refine k_run 4 (by simp <;> rfl) ?_
  refine k_nil ?_
  refine w_block ?_
  refine w_fuel (fun x : Int × Int => ⟨[(0, ⟨.one, [.vw (.old 0) 6 (p0.map eGReq)]⟩), (1, ⟨.one, [.vw (.old 1) 2 (p1.map eGReply)]⟩), (5, ⟨.one, [.t (eI x.1)]⟩), (8, ⟨.one, [.t (eI (p0.length : Int))]⟩), (9, ⟨.one, [.t (eI x.2)]⟩)], [], []⟩) (fun n1 x => d_impl_TicksIn_l1 p0 p1 n1 x) (n := big) (x := (0, 0)) (fun n1 x h T ih1 => ?_) (fun x h => by simp [d_impl_TicksIn_l1] at h) (by simp) h
  obtain ⟨v5_2, v9_3⟩ := x
  replace h : d_impl_TicksIn_l1 p0 p1 (n1 + 1) (v5_2, v9_3) = some r := h
  rw [d_impl_TicksIn_l1] at h
  refine w_seq ?_
  refine w_reg ?_
  refine k_run 1 (by simp <;> rfl) ?_
  refine k_nil ?_
  refine w_seq ?_
  refine w_st (by simp <;> rfl) ?_
  rcases oif' h with ⟨hb4, h⟩ | ⟨hb4, h⟩
  · replace hb4 := eq_false_of_ne_true hb4
    have hb4s := hb4; try simp at hb4s
    refine w_false (by simp [hb4, hb4s]) ?_
    refine w_exit ?_
    refine x_here ?_
    exact ⟨v5_2, by simp [hb4, hb4s], h⟩
  have hb4s := hb4; try simp at hb4s
  refine w_true (by simp [hb4, hb4s]) ?_
  refine w_skip ?_
  refine w_cut (fun x : Int => ⟨[(0, ⟨.one, [.vw (.old 0) 6 (p0.map eGReq)]⟩), (1, ⟨.one, [.vw (.old 1) 2 (p1.map eGReply)]⟩), (5, ⟨.one, [.t (eI x)]⟩), (8, ⟨.one, [.t (eI (p0.length : Int))]⟩), (9, ⟨.one, [.t (eI v9_3)]⟩)], [], []⟩) (fun x => (d_impl_TicksIn_j2 (d_impl_TicksIn_l1 p0 p1 n1) v9_3) x = some r) (fun j5_5 h => ?_) ?_
  · replace h : (d_impl_TicksIn_j2 (d_impl_TicksIn_l1 p0 p1 n1) v9_3) j5_5 = some r := h
    rw [d_impl_TicksIn_j2] at h
    refine w_reg ?_
    refine k_run 3 (by simp <;> rfl) ?_
    refine k_nil ?_
    refine t_st (T := T) ?_ (ih1 _ h)
    simp [hb4, hb4s]
  refine w_block ?_
  refine w_seq ?_
  refine w_st (by simp <;> rfl) ?_
  refine w_reg ?_
  refine k_run 2 (by simp <;> rfl) ?_
  refine k_nil ?_
  refine w_seq ?_
  refine w_st (by simp <;> rfl) ?_
  refine w_reg ?_
  refine k_run 4 (by simp <;> rfl) ?_
  obtain ⟨v6, hv7, h⟩ := ob h
  apply k_call (by simp <;> rfl) (by simp <;> rfl)
  · first | exact run_impl_successful hv7 | simpa using run_impl_successful hv7
  · simp <;> rfl
  refine k_nil ?_
  refine w_st (by simp <;> rfl) ?_
  rcases oif' h with ⟨hb8, h⟩ | ⟨hb8, h⟩
  · replace hb8 := eq_false_of_ne_true hb8
    have hb8s := hb8; try simp at hb8s
    refine w_false (by simp [hb8, hb8s]) ?_
    refine w_skip ?_
    exact ⟨v5_2, by simp [hb4, hb4s, hb8, hb8s], h⟩
  have hb8s := hb8; try simp at hb8s
  refine w_true (by simp [hb8, hb8s]) ?_
  refine w_st (by simp <;> rfl) ?_
  refine w_reg ?_
  refine k_run 5 (by simp <;> rfl) ?_
  refine k_nil ?_
  exact ⟨(w64 (v5_2 + 1)), by simp [hb4, hb4s, hb8, hb8s], h⟩

/-- laws.eqReq -/
def x_laws_eqReq : XFunc := .mk [.v, .v] [.tmp 4] (.seq (.region [(none, .box 2 (.tmp 0)),
 (none, .drop [0]),
 (none, .box 3 (.tmp 1)),
 (none, .drop [1]),
 (none, .as 4 (.k (.bool false)))] [2, 3]) (.seq (.seq (.region [(none, .fa 5 0 (.tmp 2)),
 (none, .ld 6 none (.tmp 5)),
 (none, .drop [5]),
 (none, .fa 7 0 (.tmp 3)),
 (none, .ld 8 none (.tmp 7)),
 (none, .drop [7]),
 (none, .bin 9 .num .neq (.tmp 6) (.tmp 8))] [2, 3, 9]) (.cond 9 [4] [2, 3, 4] (.seq (.region [(none, .as 4 (.k (.bool false)))] [4]) (.ret)) (.skip))) (.seq (.seq (.region [(none, .fa 10 1 (.tmp 2)),
 (none, .ld 11 none (.tmp 10)),
 (none, .drop [10]),
 (none, .fa 12 1 (.tmp 3)),
 (none, .ld 13 none (.tmp 12)),
 (none, .drop [12]),
 (none, .bin 14 .num .neq (.tmp 11) (.tmp 13))] [2, 3, 14]) (.cond 14 [4] [2, 3, 4] (.seq (.region [(none, .as 4 (.k (.bool false)))] [4]) (.ret)) (.skip))) (.seq (.seq (.region [(none, .fa 15 2 (.tmp 2)),
 (none, .ld 16 none (.tmp 15)),
 (none, .drop [15]),
 (none, .fa 17 2 (.tmp 3)),
 (none, .ld 18 none (.tmp 17)),
 (none, .drop [17]),
 (none, .bin 19 .num .neq (.tmp 16) (.tmp 18))] [2, 3, 19]) (.cond 19 [4] [2, 3, 4] (.seq (.region [(none, .as 4 (.k (.bool false)))] [4]) (.ret)) (.skip))) (.seq (.seq (.region [(none, .fa 20 3 (.tmp 2)),
 (none, .ld 21 none (.tmp 20)),
 (none, .drop [20]),
 (none, .fa 22 3 (.tmp 3)),
 (none, .ld 23 none (.tmp 22)),
 (none, .drop [22]),
 (none, .bin 24 .num .neq (.tmp 21) (.tmp 23))] [2, 3, 24]) (.cond 24 [4] [2, 3, 4] (.seq (.region [(none, .as 4 (.k (.bool false)))] [4]) (.ret)) (.skip))) (.seq (.seq (.region [(none, .fa 25 4 (.tmp 2)),
 (none, .ld 26 none (.tmp 25)),
 (none, .drop [25]),
 (none, .fa 27 4 (.tmp 3)),
 (none, .ld 28 none (.tmp 27)),
 (none, .drop [27]),
 (none, .bin 29 .num .neq (.tmp 26) (.tmp 28))] [2, 3, 29]) (.cond 29 [4] [2, 3, 4] (.seq (.region [(none, .as 4 (.k (.bool false)))] [4]) (.ret)) (.skip))) (.seq (.seq (.region [(none, .fa 30 5 (.tmp 2)),
 (none, .ld 31 none (.tmp 30)),
 (none, .drop [2, 30]),
 (none, .fa 32 5 (.tmp 3)),
 (none, .ld 33 none (.tmp 32)),
 (none, .drop [3, 32]),
 (none, .bin 34 .num .neq (.tmp 31) (.tmp 33))] [34]) (.cond 34 [4] [4] (.seq (.region [(none, .as 4 (.k (.bool false)))] [4]) (.ret)) (.skip))) (.seq (.region [(none, .as 4 (.k (.bool true)))] [4]) (.ret)))))))))
@[simp] theorem x_laws_eqReq_m : modes x_laws_eqReq = [.v, .v] := rfl
def d_laws_eqReq (p0 : GReq) (p1 : GReq) : Option Bool :=
  if (p0.Kind != p1.Kind) = true then
    some false
  else if (p0.Id != p1.Id) = true then
    some false
  else if (p0.Cabin != p1.Cabin) = true then
    some false
  else if (p0.From != p1.From) = true then
    some false
  else if (p0.Size != p1.Size) = true then
    some false
  else if (p0.Tier != p1.Tier) = true then
    some false
  else some true
theorem run_laws_eqReq {p0 : GReq} {p1 : GReq} {r : Bool} (h : d_laws_eqReq p0 p1 = some r) : Runs x_laws_eqReq [.v .agg [eI p0.Kind, eI p0.Id, eI p0.Cabin, eI p0.From, eI p0.Size, eI p0.Tier], .v .agg [eI p1.Kind, eI p1.Id, eI p1.Cabin, eI p1.From, eI p1.Size, eI p1.Tier]] .one [.bool r] [] := by
  refine Runs.mk (by simp <;> rfl) ?_ (by simp)
  rw [d_laws_eqReq] at h
  refine w_seq ?_
  refine w_reg ?_
  refine k_run 5 (by simp <;> rfl) ?_
  refine k_nil ?_
  iterate 2 refine w_seq ?_
  refine w_st (by simp <;> rfl) ?_
  refine w_reg ?_
  refine k_run 7 (by simp <;> rfl) ?_
  refine k_nil ?_
  refine w_st (by simp <;> rfl) ?_
  rcases oif h with ⟨hb1, h⟩ | ⟨hb1, h⟩
  · have hb1s := hb1; try simp at hb1s
    refine w_true (by simp [hb1, hb1s]) ?_
    refine w_seq ?_
    refine w_st (by simp <;> rfl) ?_
    refine w_reg ?_
    refine k_run 1 (by simp <;> rfl) ?_
    refine k_nil ?_
    refine w_st (by simp <;> rfl) ?_
    refine w_ret ?_
    obtain rfl := Option.some.inj h
    simp [hb1, hb1s]
  replace hb1 := eq_false_of_ne_true hb1
  have hb1s := hb1; try simp at hb1s
  refine w_false (by simp [hb1, hb1s]) ?_
  refine w_skip ?_
  iterate 2 refine w_seq ?_
  refine w_st (by simp <;> rfl) ?_
  refine w_reg ?_
  refine k_run 7 (by simp <;> rfl) ?_
  refine k_nil ?_
  refine w_st (by simp <;> rfl) ?_
  rcases oif h with ⟨hb2, h⟩ | ⟨hb2, h⟩
  · have hb2s := hb2; try simp at hb2s
    refine w_true (by simp [hb2, hb2s]) ?_
    refine w_seq ?_
    refine w_st (by simp <;> rfl) ?_
    refine w_reg ?_
    refine k_run 1 (by simp <;> rfl) ?_
    refine k_nil ?_
    refine w_st (by simp <;> rfl) ?_
    refine w_ret ?_
    obtain rfl := Option.some.inj h
    simp [hb1, hb1s, hb2, hb2s]
  replace hb2 := eq_false_of_ne_true hb2
  have hb2s := hb2; try simp at hb2s
  refine w_false (by simp [hb2, hb2s]) ?_
  refine w_skip ?_
  iterate 2 refine w_seq ?_
  refine w_st (by simp <;> rfl) ?_
  refine w_reg ?_
  refine k_run 7 (by simp <;> rfl) ?_
  refine k_nil ?_
  refine w_st (by simp <;> rfl) ?_
  rcases oif h with ⟨hb3, h⟩ | ⟨hb3, h⟩
  · have hb3s := hb3; try simp at hb3s
    refine w_true (by simp [hb3, hb3s]) ?_
    refine w_seq ?_
    refine w_st (by simp <;> rfl) ?_
    refine w_reg ?_
    refine k_run 1 (by simp <;> rfl) ?_
    refine k_nil ?_
    refine w_st (by simp <;> rfl) ?_
    refine w_ret ?_
    obtain rfl := Option.some.inj h
    simp [hb1, hb1s, hb2, hb2s, hb3, hb3s]
  replace hb3 := eq_false_of_ne_true hb3
  have hb3s := hb3; try simp at hb3s
  refine w_false (by simp [hb3, hb3s]) ?_
  refine w_skip ?_
  iterate 2 refine w_seq ?_
  refine w_st (by simp <;> rfl) ?_
  refine w_reg ?_
  refine k_run 7 (by simp <;> rfl) ?_
  refine k_nil ?_
  refine w_st (by simp <;> rfl) ?_
  rcases oif h with ⟨hb4, h⟩ | ⟨hb4, h⟩
  · have hb4s := hb4; try simp at hb4s
    refine w_true (by simp [hb4, hb4s]) ?_
    refine w_seq ?_
    refine w_st (by simp <;> rfl) ?_
    refine w_reg ?_
    refine k_run 1 (by simp <;> rfl) ?_
    refine k_nil ?_
    refine w_st (by simp <;> rfl) ?_
    refine w_ret ?_
    obtain rfl := Option.some.inj h
    simp [hb1, hb1s, hb2, hb2s, hb3, hb3s, hb4, hb4s]
  replace hb4 := eq_false_of_ne_true hb4
  have hb4s := hb4; try simp at hb4s
  refine w_false (by simp [hb4, hb4s]) ?_
  refine w_skip ?_
  iterate 2 refine w_seq ?_
  refine w_st (by simp <;> rfl) ?_
  refine w_reg ?_
  refine k_run 7 (by simp <;> rfl) ?_
  refine k_nil ?_
  refine w_st (by simp <;> rfl) ?_
  rcases oif h with ⟨hb5, h⟩ | ⟨hb5, h⟩
  · have hb5s := hb5; try simp at hb5s
    refine w_true (by simp [hb5, hb5s]) ?_
    refine w_seq ?_
    refine w_st (by simp <;> rfl) ?_
    refine w_reg ?_
    refine k_run 1 (by simp <;> rfl) ?_
    refine k_nil ?_
    refine w_st (by simp <;> rfl) ?_
    refine w_ret ?_
    obtain rfl := Option.some.inj h
    simp [hb1, hb1s, hb2, hb2s, hb3, hb3s, hb4, hb4s, hb5, hb5s]
  replace hb5 := eq_false_of_ne_true hb5
  have hb5s := hb5; try simp at hb5s
  refine w_false (by simp [hb5, hb5s]) ?_
  refine w_skip ?_
  iterate 2 refine w_seq ?_
  refine w_st (by simp <;> rfl) ?_
  refine w_reg ?_
  refine k_run 7 (by simp <;> rfl) ?_
  refine k_nil ?_
  refine w_st (by simp <;> rfl) ?_
  rcases oif h with ⟨hb6, h⟩ | ⟨hb6, h⟩
  · have hb6s := hb6; try simp at hb6s
    refine w_true (by simp [hb6, hb6s]) ?_
    refine w_seq ?_
    refine w_st (by simp <;> rfl) ?_
    refine w_reg ?_
    refine k_run 1 (by simp <;> rfl) ?_
    refine k_nil ?_
    refine w_st (by simp <;> rfl) ?_
    refine w_ret ?_
    obtain rfl := Option.some.inj h
    simp [hb1, hb1s, hb2, hb2s, hb3, hb3s, hb4, hb4s, hb5, hb5s, hb6, hb6s]
  replace hb6 := eq_false_of_ne_true hb6
  have hb6s := hb6; try simp at hb6s
  refine w_false (by simp [hb6, hb6s]) ?_
  refine w_skip ?_
  refine w_seq ?_
  refine w_st (by simp <;> rfl) ?_
  refine w_reg ?_
  refine k_run 1 (by simp <;> rfl) ?_
  refine k_nil ?_
  refine w_st (by simp <;> rfl) ?_
  refine w_ret ?_
  obtain rfl := Option.some.inj h
  simp [hb1, hb1s, hb2, hb2s, hb3, hb3s, hb4, hb4s, hb5, hb5s, hb6, hb6s]

/-- laws.eqReqS -/
def x_laws_eqReqS : XFunc := .mk [.v, .v] [.tmp 4] (.seq (.region [(none, .as 4 (.k (.bool false)))] [0, 1]) (.seq (.seq (.region [(none, .mv 6 (.tmp 0)),
 (none, .len 7 (.tmp 6)),
 (none, .drop [6]),
 (none, .mv 8 (.tmp 1)),
 (none, .len 9 (.tmp 8)),
 (none, .drop [8]),
 (none, .bin 10 .num .neq (.tmp 7) (.tmp 9))] [0, 1, 10]) (.cond 10 [4] [0, 1, 4] (.seq (.region [(none, .as 4 (.k (.bool false)))] [4]) (.ret)) (.skip))) (.seq (.seq (.region [(none, .as 5 (.k (.int .i64 0)))] [0, 1, 5]) (.block 0 (.loop (.seq (.seq (.region [(none, .mv 11 (.tmp 5)),
 (none, .mv 12 (.tmp 0)),
 (none, .len 13 (.tmp 12)),
 (none, .drop [12]),
 (none, .bin 14 .num .lss (.tmp 11) (.tmp 13))] [0, 1, 5, 14]) (.cond 14 [0, 1, 4, 5] [4] (.skip) (.exit 0))) (.seq (.block 1 (.seq (.dreg (.op 0 none [] (.mv 17 (.tmp 0))
 (.op 1 none [] (.mv 18 (.tmp 5))
 (.op 2 none [] (.ia 19 6 (.tmp 17) (.tmp 18))
 (.op 3 none [] (.ld 20 (some 6) (.tmp 19))
 (.dr [17, 18] (.op 4 none [] (.mv 21 (.tmp 1))
 (.op 5 none [] (.mv 22 (.tmp 5))
 (.op 6 none [] (.ia 23 6 (.tmp 21) (.tmp 22))
 (.op 7 none [] (.ld 24 (some 6) (.tmp 23))
 (.dr [21, 22] (.op 8 none [] (.call 25 x_laws_eqReq [(.tmp 20), (.tmp 24)])
 (.dr [20, 24] (.op 9 none [] (.un 26 .not (.tmp 25))
 .nil))))))))))))) [0, 1, 5, 26]) (.cond 26 [4] [0, 1, 4, 5] (.seq (.region [(none, .as 4 (.k (.bool false)))] [4]) (.ret)) (.skip)))) (.region [(none, .mv 15 (.tmp 5)),
 (none, .drop [5]),
 (none, .bin 16 .num .add (.tmp 15) (.k (.int .i64 1))),
 (none, .drop [15]),
 (none, .as 5 (.tmp 16))] [0, 1, 5])))))) (.seq (.region [(none, .as 4 (.k (.bool true)))] [4]) (.ret)))))
@[simp] theorem x_laws_eqReqS_m : modes x_laws_eqReqS = [.v, .v] := rfl
@[simp] def d_laws_eqReqS_j1 : Option Bool :=
  some true
def d_laws_eqReqS_l1 (p0 : List GReq) (p1 : List GReq) : Nat → Int → Option Bool
  | 0, _ => none
  | n1 + 1, v5_2 => if (decide (v5_2 < (p0.length : Int))) = true then
      (at? p0 v5_2).bind fun x4 =>
      (at? p1 v5_2).bind fun x6 =>
      (d_laws_eqReq x4 x6).bind fun v8 =>
      if (!v8) = true then
        some false
      else (d_laws_eqReqS_l1 p0 p1 n1) (w64 (v5_2 + 1))
    else d_laws_eqReqS_j1
def d_laws_eqReqS (p0 : List GReq) (p1 : List GReq) : Option Bool :=
  if ((p0.length : Int) != (p1.length : Int)) = true then
    some false
  else d_laws_eqReqS_l1 p0 p1 big 0
theorem run_laws_eqReqS {p0 : List GReq} {p1 : List GReq} {r : Bool} (h : d_laws_eqReqS p0 p1 = some r) : Runs x_laws_eqReqS [.v .one [.sl 6 (p0.map eGReq)], .v .one [.sl 6 (p1.map eGReq)]] .one [.bool r] [] := by
  refine Runs.mk (by simp <;> rfl) ?_ (by simp)
  rw [d_laws_eqReqS] at h
  refine w_seq ?_
  refine w_reg ?_
  refine k_run 1 (by simp <;> rfl) ?_
  refine k_nil ?_
  iterate 2 refine w_seq ?_
  refine w_st (by simp <;> rfl) ?_
  refine w_reg ?_
  refine k_run 7 (by simp <;> rfl) ?_
  refine k_nil ?_
  refine w_st (by simp <;> rfl) ?_
  rcases oif h with ⟨hb1, h⟩ | ⟨hb1, h⟩
  · have hb1s := hb1; try simp at hb1s
    refine w_true (by simp [hb1, hb1s]) ?_
    refine w_seq ?_
    refine w_st (by simp <;> rfl) ?_
    refine w_reg ?_
    refine k_run 1 (by simp <;> rfl) ?_
    refine k_nil ?_
    refine w_st (by simp <;> rfl) ?_
    refine w_ret ?_
    obtain rfl := Option.some.inj h
    simp [hb1, hb1s]
  replace hb1 := eq_false_of_ne_true hb1
  have hb1s := hb1; try simp at hb1s
  refine w_false (by simp [hb1, hb1s]) ?_
  refine w_skip ?_
  refine w_cut (fun x : Unit => ⟨[], [], []⟩) (fun x => d_laws_eqReqS_j1 = some r) (fun x h => ?_) ?_
  · replace h : d_laws_eqReqS_j1 = some r := h
    rw [d_laws_eqReqS_j1] at h
    refine w_seq ?_
    refine w_reg ?_
    refine k_run 1 (by simp <;> rfl) ?_
    refine k_nil ?_
    refine w_st (by simp <;> rfl) ?_
    refine w_ret ?_
    obtain rfl := Option.some.inj h
    simp [hb1, hb1s]
  refine w_seq ?_
  refine w_st (by simp <;> rfl) ?_
  refine w_reg ?_
  refine k_run 1 (by simp <;> rfl) ?_
  refine k_nil ?_
  refine w_block ?_
  refine w_fuel (fun x : Int => ⟨[(0, ⟨.one, [.vw (.old 0) 6 (p0.map eGReq)]⟩), (1, ⟨.one, [.vw (.old 1) 6 (p1.map eGReq)]⟩), (5, ⟨.one, [.t (eI x)]⟩)], [], []⟩) (fun n1 x => d_laws_eqReqS_l1 p0 p1 n1 x) (n := big) (x := 0) (fun n1 v5_2 h T ih1 => ?_) (fun x h => by simp [d_laws_eqReqS_l1] at h) (by simp [hb1, hb1s]) h
  replace h : d_laws_eqReqS_l1 p0 p1 (n1 + 1) v5_2 = some r := h
  rw [d_laws_eqReqS_l1] at h
  iterate 2 refine w_seq ?_
  refine w_reg ?_
  refine k_run 5 (by simp <;> rfl) ?_
  refine k_nil ?_
  refine w_st (by simp <;> rfl) ?_
  rcases oif' h with ⟨hb3, h⟩ | ⟨hb3, h⟩
  · replace hb3 := eq_false_of_ne_true hb3
    have hb3s := hb3; try simp at hb3s
    refine w_false (by simp [hb3, hb3s]) ?_
    refine w_exit ?_
    refine x_here ?_
    exact ⟨(), by simp [hb1, hb1s, hb3, hb3s], h⟩
  have hb3s := hb3; try simp at hb3s
  refine w_true (by simp [hb3, hb3s]) ?_
  refine w_skip ?_
  refine w_seq ?_
  refine w_block ?_
  refine w_seq ?_
  refine w_st (by simp <;> rfl) ?_
  refine w_dreg ?_
  refine r_run 2 (by simp <;> rfl) ?_
  obtain ⟨x4, hx5, h⟩ := ob h
  obtain ⟨hx5_0, hx5_1, hx5_2, hx5_3, hx5_4⟩ := at_facts hx5
  refine r_run 5 (by simp [hx5_0, hx5_1, hx5_2, hx5_3, hx5_4] <;> rfl) ?_
  obtain ⟨x6, hx7, h⟩ := ob h
  obtain ⟨hx7_0, hx7_1, hx7_2, hx7_3, hx7_4⟩ := at_facts hx7
  refine r_run 3 (by simp [hx5_0, hx5_1, hx5_2, hx5_3, hx5_4, hx7_0, hx7_1, hx7_2, hx7_3, hx7_4] <;> rfl) ?_
  obtain ⟨v8, hv9, h⟩ := ob h
  apply r_call (by simp [hx5_0, hx5_1, hx5_2, hx5_3, hx5_4, hx7_0, hx7_1, hx7_2, hx7_3, hx7_4, hb1, hb1s, hb3, hb3s]) (by simp [hx5_0, hx5_1, hx5_2, hx5_3, hx5_4, hx7_0, hx7_1, hx7_2, hx7_3, hx7_4] <;> rfl) (by simp [hx5_0, hx5_1, hx5_2, hx5_3, hx5_4, hx7_0, hx7_1, hx7_2, hx7_3, hx7_4] <;> rfl)
  · first | exact run_laws_eqReq hv9 | simpa [hx5_0, hx5_1, hx5_2, hx5_3, hx5_4, hx7_0, hx7_1, hx7_2, hx7_3, hx7_4] using run_laws_eqReq hv9
  · simp [hx5_0, hx5_1, hx5_2, hx5_3, hx5_4, hx7_0, hx7_1, hx7_2, hx7_3, hx7_4] <;> rfl
  refine r_run 2 (by simp <;> rfl) ?_
  refine r_nil ?_
  refine w_st (by simp <;> rfl) ?_
  rcases oif h with ⟨hb10, h⟩ | ⟨hb10, h⟩
  · have hb10s := hb10; try simp at hb10s
    refine w_true (by simp [hb10, hb10s]) ?_
    refine w_seq ?_
    refine w_st (by simp <;> rfl) ?_
    refine w_reg ?_
    refine k_run 1 (by simp <;> rfl) ?_
    refine k_nil ?_
    refine w_st (by simp <;> rfl) ?_
    refine w_ret ?_
    obtain rfl := Option.some.inj h
    simp [hx5_0, hx5_1, hx5_2, hx5_3, hx5_4, hx7_0, hx7_1, hx7_2, hx7_3, hx7_4, hb1, hb1s, hb3, hb3s, hb10, hb10s]
  replace hb10 := eq_false_of_ne_true hb10
  have hb10s := hb10; try simp at hb10s
  refine w_false (by simp [hb10, hb10s]) ?_
  refine w_skip ?_
  refine w_st (by simp <;> rfl) ?_
  refine w_reg ?_
  refine k_run 5 (by simp <;> rfl) ?_
  refine k_nil ?_
  refine t_st (T := T) ?_ (ih1 _ h)
  simp [hx5_0, hx5_1, hx5_2, hx5_3, hx5_4, hx7_0, hx7_1, hx7_2, hx7_3, hx7_4, hb1, hb1s, hb3, hb3s, hb10, hb10s]

/-- laws.FnExactTicksIn -/
def x_laws_FnExactTicksIn : XFunc := .mk [.v, .v] [.tmp 4] (.seq (.region [(none, .as 4 (.k (.bool false)))] [0, 1]) (.seq (.region [(none, .as 5 (.k (.int .i64 1048576)))] [0, 1, 5]) (.seq (.region [(none, .mv 10 (.tmp 0)),
 (none, .mv 11 (.tmp 5)),
 (none, .drop [5]),
 (none, .call 12 x_laws_szReqS [(.tmp 10), (.tmp 11)]),
 (none, .drop [10, 11]),
 (none, .as 5 (.tmp 12))] [0, 1, 5]) (.seq (.seq (.region [(none, .mv 13 (.tmp 5)),
 (none, .bin 14 .num .lss (.tmp 13) (.k (.int .i64 0)))] [0, 1, 5, 14]) (.cond 14 [4] [0, 1, 4, 5] (.seq (.region [(none, .as 4 (.k (.bool true)))] [4]) (.ret)) (.skip))) (.seq (.region [(none, .mv 15 (.tmp 1)),
 (none, .mv 16 (.tmp 5)),
 (none, .drop [5]),
 (none, .call 17 x_laws_szReplyS [(.tmp 15), (.tmp 16)]),
 (none, .drop [15, 16]),
 (none, .as 5 (.tmp 17))] [0, 1, 5]) (.seq (.seq (.region [(none, .mv 18 (.tmp 5)),
 (none, .drop [5]),
 (none, .bin 19 .num .lss (.tmp 18) (.k (.int .i64 0)))] [0, 1, 19]) (.cond 19 [4] [0, 1, 4] (.seq (.region [(none, .as 4 (.k (.bool true)))] [4]) (.ret)) (.skip))) (.seq (.region [(none, .mv 20 (.tmp 0)),
 (none, .call 21 x_laws_toReqS [(.tmp 20)]),
 (none, .drop [20]),
 (none, .mv 22 (.tmp 1)),
 (none, .call 23 x_laws_toReplyS [(.tmp 22)]),
 (none, .drop [22]),
 (none, .call 24 x_spec_TicksIn [(.tmp 21), (.tmp 23)]),
 (none, .drop [21, 23]),
 (none, .as 6 (.tmp 24))] [0, 1, 6]) (.seq (.region [(none, .mv 25 (.tmp 0)),
 (none, .call 26 x_laws_toReqS [(.tmp 25)]),
 (none, .drop [25]),
 (none, .as 7 (.tmp 26))] [0, 1, 6, 7]) (.seq (.region [(none, .mv 27 (.tmp 1)),
 (none, .call 28 x_laws_toReplyS [(.tmp 27)]),
 (none, .drop [27]),
 (none, .as 8 (.tmp 28))] [0, 1, 6, 7, 8]) (.seq (.region [(none, .mv 29 (.tmp 7)),
 (none, .mv 30 (.tmp 8)),
 (none, .call 31 x_impl_TicksIn [(.tmp 29), (.tmp 30)]),
 (none, .drop [29, 30]),
 (none, .as 9 (.tmp 31))] [0, 1, 6, 7, 8, 9]) (.seq (.seq (.region [(none, .mv 32 (.tmp 9)),
 (none, .drop [9]),
 (none, .mv 33 (.tmp 6)),
 (none, .drop [6]),
 (none, .bin 34 .num .neq (.tmp 32) (.tmp 33))] [0, 1, 7, 8, 34]) (.cond 34 [4] [0, 1, 4, 7, 8] (.seq (.region [(none, .as 4 (.k (.bool false)))] [4]) (.ret)) (.skip))) (.seq (.seq (.region [(none, .mv 35 (.tmp 7)),
 (none, .mv 36 (.tmp 0)),
 (none, .call 37 x_laws_toReqS [(.tmp 36)]),
 (none, .drop [0, 36]),
 (none, .call 38 x_laws_eqReqS [(.tmp 35), (.tmp 37)]),
 (none, .drop [7, 35, 37]),
 (none, .un 39 .not (.tmp 38))] [1, 8, 39]) (.cond 39 [4] [1, 4, 8] (.seq (.region [(none, .as 4 (.k (.bool false)))] [4]) (.ret)) (.skip))) (.seq (.seq (.region [(none, .mv 40 (.tmp 8)),
 (none, .mv 41 (.tmp 1)),
 (none, .call 42 x_laws_toReplyS [(.tmp 41)]),
 (none, .drop [1, 41]),
 (none, .call 43 x_laws_eqReplyS [(.tmp 40), (.tmp 42)]),
 (none, .drop [8, 40, 42]),
 (none, .un 44 .not (.tmp 43))] [44]) (.cond 44 [4] [4] (.seq (.region [(none, .as 4 (.k (.bool false)))] [4]) (.ret)) (.skip))) (.seq (.region [(none, .as 4 (.k (.bool true)))] [4]) (.ret)))))))))))))))
@[simp] theorem x_laws_FnExactTicksIn_m : modes x_laws_FnExactTicksIn = [.v, .v] := rfl
def d_laws_FnExactTicksIn (p0 : List GReq) (p1 : List GReply) : Option Bool :=
  (d_laws_szReqS p0 1048576).bind fun v1 =>
  if (decide (v1 < 0)) = true then
    some true
  else (d_laws_szReplyS p1 v1).bind fun v4 =>
  if (decide (v4 < 0)) = true then
    some true
  else (d_laws_toReqS p0).bind fun v7 =>
  (d_laws_toReplyS p1).bind fun v9 =>
  (d_spec_TicksIn v7 v9).bind fun v11 =>
  (d_laws_toReqS p0).bind fun v13 =>
  (d_laws_toReplyS p1).bind fun v15 =>
  (d_impl_TicksIn v13 v15).bind fun v17 =>
  if (v17 != v11) = true then
    some false
  else (d_laws_toReqS p0).bind fun v20 =>
  (d_laws_eqReqS v13 v20).bind fun v22 =>
  if (!v22) = true then
    some false
  else (d_laws_toReplyS p1).bind fun v25 =>
  (d_laws_eqReplyS v15 v25).bind fun v27 =>
  if (!v27) = true then
    some false
  else some true
theorem run_laws_FnExactTicksIn {p0 : List GReq} {p1 : List GReply} {r : Bool} (h : d_laws_FnExactTicksIn p0 p1 = some r) : Runs x_laws_FnExactTicksIn [.v .one [.sl 6 (p0.map eGReq)], .v .one [.sl 2 (p1.map eGReply)]] .one [.bool r] [] := by
  refine Runs.mk (by simp <;> rfl) ?_ (by simp)
  rw [d_laws_FnExactTicksIn] at h
  refine w_seq ?_
  refine w_reg ?_
  refine k_run 1 (by simp <;> rfl) ?_
  refine k_nil ?_
  refine w_seq ?_
  refine w_st (by simp <;> rfl) ?_
  refine w_reg ?_
  refine k_run 1 (by simp <;> rfl) ?_
  refine k_nil ?_
  refine w_seq ?_
  refine w_st (by simp <;> rfl) ?_
  refine w_reg ?_
  refine k_run 3 (by simp <;> rfl) ?_
  obtain ⟨v1, hv2, h⟩ := ob h
  apply k_call (by simp <;> rfl) (by simp <;> rfl)
  · first | exact run_laws_szReqS hv2 | simpa using run_laws_szReqS hv2
  · simp <;> rfl
  refine k_run 2 (by simp <;> rfl) ?_
  refine k_nil ?_
  iterate 2 refine w_seq ?_
  refine w_st (by simp <;> rfl) ?_
  refine w_reg ?_
  refine k_run 2 (by simp <;> rfl) ?_
  refine k_nil ?_
  refine w_st (by simp <;> rfl) ?_
  rcases oif h with ⟨hb3, h⟩ | ⟨hb3, h⟩
  · have hb3s := hb3; try simp at hb3s
    refine w_true (by simp [hb3, hb3s]) ?_
    refine w_seq ?_
    refine w_st (by simp <;> rfl) ?_
    refine w_reg ?_
    refine k_run 1 (by simp <;> rfl) ?_
    refine k_nil ?_
    refine w_st (by simp <;> rfl) ?_
    refine w_ret ?_
    obtain rfl := Option.some.inj h
    simp [hb3, hb3s]
  replace hb3 := eq_false_of_ne_true hb3
  have hb3s := hb3; try simp at hb3s
  refine w_false (by simp [hb3, hb3s]) ?_
  refine w_skip ?_
  refine w_seq ?_
  refine w_st (by simp <;> rfl) ?_
  refine w_reg ?_
  refine k_run 3 (by simp <;> rfl) ?_
  obtain ⟨v4, hv5, h⟩ := ob h
  apply k_call (by simp <;> rfl) (by simp <;> rfl)
  · first | exact run_laws_szReplyS hv5 | simpa using run_laws_szReplyS hv5
  · simp <;> rfl
  refine k_run 2 (by simp <;> rfl) ?_
  refine k_nil ?_
  iterate 2 refine w_seq ?_
  refine w_st (by simp <;> rfl) ?_
  refine w_reg ?_
  refine k_run 3 (by simp <;> rfl) ?_
  refine k_nil ?_
  refine w_st (by simp <;> rfl) ?_
  rcases oif h with ⟨hb6, h⟩ | ⟨hb6, h⟩
  · have hb6s := hb6; try simp at hb6s
    refine w_true (by simp [hb6, hb6s]) ?_
    refine w_seq ?_
    refine w_st (by simp <;> rfl) ?_
    refine w_reg ?_
    refine k_run 1 (by simp <;> rfl) ?_
    refine k_nil ?_
    refine w_st (by simp <;> rfl) ?_
    refine w_ret ?_
    obtain rfl := Option.some.inj h
    simp [hb3, hb3s, hb6, hb6s]
  replace hb6 := eq_false_of_ne_true hb6
  have hb6s := hb6; try simp at hb6s
  refine w_false (by simp [hb6, hb6s]) ?_
  refine w_skip ?_
  refine w_seq ?_
  refine w_st (by simp <;> rfl) ?_
  refine w_reg ?_
  refine k_run 1 (by simp <;> rfl) ?_
  obtain ⟨v7, hv8, h⟩ := ob h
  apply k_call (by simp <;> rfl) (by simp <;> rfl)
  · first | exact run_laws_toReqS hv8 | simpa using run_laws_toReqS hv8
  · simp <;> rfl
  refine k_run 2 (by simp <;> rfl) ?_
  obtain ⟨v9, hv10, h⟩ := ob h
  apply k_call (by simp <;> rfl) (by simp <;> rfl)
  · first | exact run_laws_toReplyS hv10 | simpa using run_laws_toReplyS hv10
  · simp <;> rfl
  refine k_run 1 (by simp <;> rfl) ?_
  obtain ⟨v11, hv12, h⟩ := ob h
  apply k_call (by simp <;> rfl) (by simp <;> rfl)
  · first | exact run_spec_TicksIn hv12 | simpa using run_spec_TicksIn hv12
  · simp <;> rfl
  refine k_run 2 (by simp <;> rfl) ?_
  refine k_nil ?_
  refine w_seq ?_
  refine w_st (by simp <;> rfl) ?_
  refine w_reg ?_
  refine k_run 1 (by simp <;> rfl) ?_
  obtain ⟨v13, hv14, h⟩ := ob h
  apply k_call (by simp <;> rfl) (by simp <;> rfl)
  · first | exact run_laws_toReqS hv14 | simpa using run_laws_toReqS hv14
  · simp <;> rfl
  refine k_run 2 (by simp <;> rfl) ?_
  refine k_nil ?_
  refine w_seq ?_
  refine w_st (by simp <;> rfl) ?_
  refine w_reg ?_
  refine k_run 1 (by simp <;> rfl) ?_
  obtain ⟨v15, hv16, h⟩ := ob h
  apply k_call (by simp <;> rfl) (by simp <;> rfl)
  · first | exact run_laws_toReplyS hv16 | simpa using run_laws_toReplyS hv16
  · simp <;> rfl
  refine k_run 2 (by simp <;> rfl) ?_
  refine k_nil ?_
  refine w_seq ?_
  refine w_st (by simp <;> rfl) ?_
  refine w_reg ?_
  refine k_run 2 (by simp <;> rfl) ?_
  obtain ⟨v17, hv18, h⟩ := ob h
  apply k_call (by simp <;> rfl) (by simp <;> rfl)
  · first | exact run_impl_TicksIn hv18 | simpa using run_impl_TicksIn hv18
  · simp <;> rfl
  refine k_run 2 (by simp <;> rfl) ?_
  refine k_nil ?_
  iterate 2 refine w_seq ?_
  refine w_st (by simp <;> rfl) ?_
  refine w_reg ?_
  refine k_run 5 (by simp <;> rfl) ?_
  refine k_nil ?_
  refine w_st (by simp <;> rfl) ?_
  rcases oif h with ⟨hb19, h⟩ | ⟨hb19, h⟩
  · have hb19s := hb19; try simp at hb19s
    refine w_true (by simp [hb19, hb19s]) ?_
    refine w_seq ?_
    refine w_st (by simp <;> rfl) ?_
    refine w_reg ?_
    refine k_run 1 (by simp <;> rfl) ?_
    refine k_nil ?_
    refine w_st (by simp <;> rfl) ?_
    refine w_ret ?_
    obtain rfl := Option.some.inj h
    simp [hb3, hb3s, hb6, hb6s, hb19, hb19s]
  replace hb19 := eq_false_of_ne_true hb19
  have hb19s := hb19; try simp at hb19s
  refine w_false (by simp [hb19, hb19s]) ?_
  refine w_skip ?_
  iterate 2 refine w_seq ?_
  refine w_st (by simp <;> rfl) ?_
  refine w_reg ?_
  refine k_run 2 (by simp <;> rfl) ?_
  obtain ⟨v20, hv21, h⟩ := ob h
  apply k_call (by simp <;> rfl) (by simp <;> rfl)
  · first | exact run_laws_toReqS hv21 | simpa using run_laws_toReqS hv21
  · simp <;> rfl
  refine k_run 1 (by simp <;> rfl) ?_
  obtain ⟨v22, hv23, h⟩ := ob h
  apply k_call (by simp <;> rfl) (by simp <;> rfl)
  · first | exact run_laws_eqReqS hv23 | simpa using run_laws_eqReqS hv23
  · simp <;> rfl
  refine k_run 2 (by simp <;> rfl) ?_
  refine k_nil ?_
  refine w_st (by simp <;> rfl) ?_
  rcases oif h with ⟨hb24, h⟩ | ⟨hb24, h⟩
  · have hb24s := hb24; try simp at hb24s
    refine w_true (by simp [hb24, hb24s]) ?_
    refine w_seq ?_
    refine w_st (by simp <;> rfl) ?_
    refine w_reg ?_
    refine k_run 1 (by simp <;> rfl) ?_
    refine k_nil ?_
    refine w_st (by simp <;> rfl) ?_
    refine w_ret ?_
    obtain rfl := Option.some.inj h
    simp [hb3, hb3s, hb6, hb6s, hb19, hb19s, hb24, hb24s]
  replace hb24 := eq_false_of_ne_true hb24
  have hb24s := hb24; try simp at hb24s
  refine w_false (by simp [hb24, hb24s]) ?_
  refine w_skip ?_
  iterate 2 refine w_seq ?_
  refine w_st (by simp <;> rfl) ?_
  refine w_reg ?_
  refine k_run 2 (by simp <;> rfl) ?_
  obtain ⟨v25, hv26, h⟩ := ob h
  apply k_call (by simp <;> rfl) (by simp <;> rfl)
  · first | exact run_laws_toReplyS hv26 | simpa using run_laws_toReplyS hv26
  · simp <;> rfl
  refine k_run 1 (by simp <;> rfl) ?_
  obtain ⟨v27, hv28, h⟩ := ob h
  apply k_call (by simp <;> rfl) (by simp <;> rfl)
  · first | exact run_laws_eqReplyS hv28 | simpa using run_laws_eqReplyS hv28
  · simp <;> rfl
  refine k_run 2 (by simp <;> rfl) ?_
  refine k_nil ?_
  refine w_st (by simp <;> rfl) ?_
  rcases oif h with ⟨hb29, h⟩ | ⟨hb29, h⟩
  · have hb29s := hb29; try simp at hb29s
    refine w_true (by simp [hb29, hb29s]) ?_
    refine w_seq ?_
    refine w_st (by simp <;> rfl) ?_
    refine w_reg ?_
    refine k_run 1 (by simp <;> rfl) ?_
    refine k_nil ?_
    refine w_st (by simp <;> rfl) ?_
    refine w_ret ?_
    obtain rfl := Option.some.inj h
    simp [hb3, hb3s, hb6, hb6s, hb19, hb19s, hb24, hb24s, hb29, hb29s]
  replace hb29 := eq_false_of_ne_true hb29
  have hb29s := hb29; try simp at hb29s
  refine w_false (by simp [hb29, hb29s]) ?_
  refine w_skip ?_
  refine w_seq ?_
  refine w_st (by simp <;> rfl) ?_
  refine w_reg ?_
  refine k_run 1 (by simp <;> rfl) ?_
  refine k_nil ?_
  refine w_st (by simp <;> rfl) ?_
  refine w_ret ?_
  obtain rfl := Option.some.inj h
  simp [hb3, hb3s, hb6, hb6s, hb19, hb19s, hb24, hb24s, hb29, hb29s]

/-- spec.l1In -/
def x_spec_l1In : XFunc := .mk [.v, .v, .v] [.tmp 6] (.seq (.region [(none, .as 6 (.k (.bool false)))] [0, 1, 2]) (.seq (.region [(none, .mv 7 (.tmp 0)),
 (none, .mv 8 (.tmp 1)),
 (none, .drop [1]),
 (none, .bin 9 .num .geq (.tmp 7) (.tmp 8)),
 (none, .drop [7, 8]),
 (none, .mv 10 (.tmp 9)),
 (none, .drop [9]),
 ((some (10, true)), .mv 11 (.tmp 0)),
 (none, .drop [0]),
 ((some (10, true)), .mv 12 (.tmp 2)),
 (none, .drop [2]),
 ((some (10, true)), .bin 13 .num .leq (.tmp 11) (.tmp 12)),
 (none, .drop [11, 12]),
 (none, .pick 14 (.tmp 10) (.tmp 13) (.k (.bool false))),
 (none, .drop [10, 13]),
 (none, .as 6 (.tmp 14))] [6]) (.ret)))
@[simp] theorem x_spec_l1In_m : modes x_spec_l1In = [.v, .v, .v] := rfl
@[simp] def d_spec_l1In_j1 (j6_1 : Bool) : Option Bool :=
  some j6_1
def d_spec_l1In (p0 : Int) (p1 : Int) (p2 : Int) : Option Bool :=
  if (decide (p0 ≥ p1)) = true then
    d_spec_l1In_j1 (decide (p0 ≤ p2))
  else d_spec_l1In_j1 false
theorem run_spec_l1In {p0 : Int} {p1 : Int} {p2 : Int} {r : Bool} (h : d_spec_l1In p0 p1 p2 = some r) : Runs x_spec_l1In [.v .one [eI p0], .v .one [eI p1], .v .one [eI p2]] .one [.bool r] [] := by
  refine Runs.mk (by simp <;> rfl) ?_ (by simp)
  rw [d_spec_l1In] at h
  refine w_seq ?_
  refine w_reg ?_
  refine k_run 1 (by simp <;> rfl) ?_
  refine k_nil ?_
  refine w_cut (fun x : Bool => ⟨[(6, ⟨.one, [.t (.bool x)]⟩)], [], []⟩) (fun x => d_spec_l1In_j1 x = some r) (fun j6_1 h => ?_) ?_
  · replace h : d_spec_l1In_j1 j6_1 = some r := h
    rw [d_spec_l1In_j1] at h
    refine w_ret ?_
    obtain rfl := Option.some.inj h
    simp
  refine w_st (by simp <;> rfl) ?_
  refine w_reg ?_
  refine k_run 7 (by simp <;> rfl) ?_
  rcases oif h with ⟨hb2, h⟩ | ⟨hb2, h⟩
  · have hb2s := hb2; try simp at hb2s
    refine k_run 9 (by simp [hb2, hb2s] <;> rfl) ?_
    refine k_nil ?_
    exact ⟨(decide (p0 ≤ p2)), by simp [hb2, hb2s], h⟩
  replace hb2 := eq_false_of_ne_true hb2
  have hb2s := hb2; try simp at hb2s
  refine k_run 9 (by simp [hb2, hb2s] <;> rfl) ?_
  refine k_nil ?_
  exact ⟨false, by simp [hb2, hb2s], h⟩

/-- spec.FreedBy -/
def x_spec_FreedBy : XFunc := .mk [.v, .v, .v] [.tmp 6] (.seq (.region [(none, .as 6 (.k (.int .i64 0)))] [0, 1, 2]) (.seq (.region [(none, .as 7 (.k (.int .i64 0)))] [0, 1, 2, 7]) (.seq (.seq (.region [(none, .as 8 (.k (.int .i64 0)))] [0, 1, 2, 7, 8]) (.block 0 (.loop (.seq (.seq (.region [(none, .mv 9 (.tmp 8)),
 (none, .mv 10 (.tmp 0)),
 (none, .len 11 (.tmp 10)),
 (none, .drop [10]),
 (none, .bin 12 .num .lss (.tmp 9) (.tmp 11))] [0, 1, 2, 7, 8, 12]) (.cond 12 [0, 1, 2, 6, 7, 8] [6, 7] (.skip) (.exit 0))) (.seq (.block 1 (.seq (.region [(none, .mv 15 (.tmp 0)),
 (none, .mv 16 (.tmp 8)),
 (none, .ia 17 6 (.tmp 15) (.tmp 16)),
 (none, .fa 18 0 (.tmp 17)),
 (none, .drop [17]),
 (none, .ld 19 none (.tmp 18)),
 (none, .drop [15, 16, 18]),
 (none, .bin 20 .num .eql (.tmp 19) (.k (.int .i64 3))),
 (none, .drop [19]),
 (none, .mv 21 (.tmp 20)),
 (none, .drop [20]),
 ((some (21, true)), .mv 22 (.tmp 0)),
 ((some (21, true)), .mv 23 (.tmp 8)),
 ((some (21, true)), .ia 24 6 (.tmp 22) (.tmp 23)),
 ((some (21, true)), .fa 25 2 (.tmp 24)),
 (none, .drop [24]),
 ((some (21, true)), .ld 26 none (.tmp 25)),
 (none, .drop [22, 23, 25]),
 ((some (21, true)), .mv 27 (.tmp 2)),
 ((some (21, true)), .bin 28 .num .eql (.tmp 26) (.tmp 27)),
 (none, .drop [26, 27]),
 (none, .pick 29 (.tmp 21) (.tmp 28) (.k (.bool false))),
 (none, .drop [21, 28]),
 (none, .mv 30 (.tmp 29)),
 (none, .drop [29]),
 ((some (30, true)), .mv 31 (.tmp 1)),
 ((some (30, true)), .mv 32 (.tmp 8)),
 ((some (30, true)), .call 33 x_spec_l24Done [(.tmp 31), (.tmp 32)]),
 (none, .drop [31, 32]),
 (none, .pick 34 (.tmp 30) (.tmp 33) (.k (.bool false))),
 (none, .drop [30, 33]),
 (none, .mv 35 (.tmp 34)),
 (none, .drop [34]),
 ((some (35, true)), .mv 36 (.tmp 0)),
 ((some (35, true)), .mv 37 (.tmp 8)),
 ((some (35, true)), .ia 38 6 (.tmp 36) (.tmp 37)),
 ((some (35, true)), .fa 39 4 (.tmp 38)),
 (none, .drop [38]),
 ((some (35, true)), .ld 40 none (.tmp 39)),
 (none, .drop [36, 37, 39]),
 ((some (35, true)), .call 41 x_spec_l1In [(.tmp 40), (.k (.int .i64 1)), (.k (.int .i64 60))]),
 (none, .drop [40]),
 (none, .pick 42 (.tmp 35) (.tmp 41) (.k (.bool false)))] [0, 1, 2, 7, 8, 42]) (.cond 42 [0, 1, 2, 6, 7, 8] [0, 1, 2, 6, 7, 8] (.region [(none, .mv 43 (.tmp 7)),
 (none, .drop [7]),
 (none, .mv 44 (.tmp 0)),
 (none, .mv 45 (.tmp 8)),
 (none, .ia 46 6 (.tmp 44) (.tmp 45)),
 (none, .fa 47 4 (.tmp 46)),
 (none, .drop [46]),
 (none, .ld 48 none (.tmp 47)),
 (none, .drop [44, 45, 47]),
 (none, .bin 49 .num .add (.tmp 43) (.tmp 48)),
 (none, .drop [43, 48]),
 (none, .as 7 (.tmp 49))] [0, 1, 2, 7, 8]) (.skip)))) (.region [(none, .mv 13 (.tmp 8)),
 (none, .drop [8]),
 (none, .bin 14 .num .add (.tmp 13) (.k (.int .i64 1))),
 (none, .drop [13]),
 (none, .as 8 (.tmp 14))] [0, 1, 2, 7, 8])))))) (.seq (.region [(none, .mv 50 (.tmp 7)),
 (none, .drop [7]),
 (none, .as 6 (.tmp 50))] [6]) (.ret)))))
@[simp] theorem x_spec_FreedBy_m : modes x_spec_FreedBy = [.v, .v, .v] := rfl
@[simp] def d_spec_FreedBy_j1 (j7_1 : Int) : Option Int :=
  some j7_1
@[simp] def d_spec_FreedBy_j2 (L1 : Int × Int → Option Int) (v8_3 : Int) (j7_5 : Int) : Option Int :=
  L1 (j7_5, (w64 (v8_3 + 1)))
@[simp] def d_spec_FreedBy_j3 (p0 : List GReq) (v8_3 : Int) (L1 : Int × Int → Option Int) (v7_2 : Int) (j42_6 : Bool) : Option Int :=
  if j42_6 = true then
      (at? p0 v8_3).bind fun x8 =>
      (d_spec_FreedBy_j2 L1 v8_3) (w64 (v7_2 + x8.Size))
    else (d_spec_FreedBy_j2 L1 v8_3) v7_2
def d_spec_FreedBy_l1 (p0 : List GReq) (p2 : Int) (p1 : List GReply) : Nat → Int × Int → Option Int
  | 0, _ => none
  | n1 + 1, (v7_2, v8_3) => if (decide (v8_3 < (p0.length : Int))) = true then
      (at? p0 v8_3).bind fun x10 =>
      if (x10.Kind == 3) = true then
        if (x10.Cabin == p2) = true then
          (d_spec_l24Done p1 v8_3).bind fun v14 =>
          if v14 = true then
            (d_spec_l1In x10.Size 1 60).bind fun v17 =>
            (d_spec_FreedBy_j3 p0 v8_3 (d_spec_FreedBy_l1 p0 p2 p1 n1) v7_2) v17
          else (d_spec_FreedBy_j3 p0 v8_3 (d_spec_FreedBy_l1 p0 p2 p1 n1) v7_2) false
        else (d_spec_FreedBy_j3 p0 v8_3 (d_spec_FreedBy_l1 p0 p2 p1 n1) v7_2) false
      else (d_spec_FreedBy_j3 p0 v8_3 (d_spec_FreedBy_l1 p0 p2 p1 n1) v7_2) false
    else d_spec_FreedBy_j1 v7_2
def d_spec_FreedBy (p0 : List GReq) (p1 : List GReply) (p2 : Int) : Option Int :=
  d_spec_FreedBy_l1 p0 p2 p1 big (0, 0)
theorem run_spec_FreedBy {p0 : List GReq} {p1 : List GReply} {p2 : Int} {r : Int} (h : d_spec_FreedBy p0 p1 p2 = some r) : Runs x_spec_FreedBy [.v .one [.sl 6 (p0.map eGReq)], .v .one [.sl 2 (p1.map eGReply)], .v .one [eI p2]] .one [eI r] [] := by
  refine Runs.mk (by simp <;> rfl) ?_ (by simp)
  rw [d_spec_FreedBy] at h
  refine w_seq ?_
  refine w_reg ?_
  refine k_run 1 (by simp <;> rfl) ?_
  refine k_nil ?_
  refine w_seq ?_
  refine w_st (by simp <;> rfl) ?_
  refine w_reg ?_
  refine k_run 1 (by simp <;> rfl) ?_
  refine k_nil ?_
  refine w_cut (fun x : Int => ⟨[(7, ⟨.one, [.t (eI x)]⟩)], [], []⟩) (fun x => d_spec_FreedBy_j1 x = some r) (fun j7_1 h => ?_) ?_
  · replace h : d_spec_FreedBy_j1 j7_1 = some r := h
    rw [d_spec_FreedBy_j1] at h
    refine w_seq ?_
    refine w_reg ?_
    refine k_run 3 (by simp <;> rfl) ?_
    refine k_nil ?_
    refine w_st (by simp <;> rfl) ?_
    refine w_ret ?_
    obtain rfl := Option.some.inj h
    simp
  refine w_seq ?_
  refine w_st (by simp <;> rfl) ?_
  refine w_reg ?_
  refine k_run 1 (by simp <;> rfl) ?_
  refine k_nil ?_
  refine w_block ?_
  refine w_fuel (fun x : Int × Int => ⟨[(0, ⟨.one, [.vw (.old 0) 6 (p0.map eGReq)]⟩), (1, ⟨.one, [.vw (.old 1) 2 (p1.map eGReply)]⟩), (2, ⟨.one, [.t (eI p2)]⟩), (7, ⟨.one, [.t (eI x.1)]⟩), (8, ⟨.one, [.t (eI x.2)]⟩)], [], []⟩) (fun n1 x => d_spec_FreedBy_l1 p0 p2 p1 n1 x) (n := big) (x := (0, 0)) (fun n1 x h T ih1 => ?_) (fun x h => by simp [d_spec_FreedBy_l1] at h) (by simp) h
  obtain ⟨v7_2, v8_3⟩ := x
  replace h : d_spec_FreedBy_l1 p0 p2 p1 (n1 + 1) (v7_2, v8_3) = some r := h
  rw [d_spec_FreedBy_l1] at h
  iterate 2 refine w_seq ?_
  refine w_reg ?_
  refine k_run 5 (by simp <;> rfl) ?_
  refine k_nil ?_
  refine w_st (by simp <;> rfl) ?_
  rcases oif' h with ⟨hb4, h⟩ | ⟨hb4, h⟩
  · replace hb4 := eq_false_of_ne_true hb4
    have hb4s := hb4; try simp at hb4s
    refine w_false (by simp [hb4, hb4s]) ?_
    refine w_exit ?_
    refine x_here ?_
    exact ⟨v7_2, by simp [hb4, hb4s], h⟩
  have hb4s := hb4; try simp at hb4s
  refine w_true (by simp [hb4, hb4s]) ?_
  refine w_skip ?_
  refine w_cut (fun x : Int => ⟨[(0, ⟨.one, [.vw (.old 0) 6 (p0.map eGReq)]⟩), (1, ⟨.one, [.vw (.old 1) 2 (p1.map eGReply)]⟩), (2, ⟨.one, [.t (eI p2)]⟩), (7, ⟨.one, [.t (eI x)]⟩), (8, ⟨.one, [.t (eI v8_3)]⟩)], [], []⟩) (fun x => (d_spec_FreedBy_j2 (d_spec_FreedBy_l1 p0 p2 p1 n1) v8_3) x = some r) (fun j7_5 h => ?_) ?_
  · replace h : (d_spec_FreedBy_j2 (d_spec_FreedBy_l1 p0 p2 p1 n1) v8_3) j7_5 = some r := h
    rw [d_spec_FreedBy_j2] at h
    refine w_reg ?_
    refine k_run 5 (by simp <;> rfl) ?_
    refine k_nil ?_
    refine t_st (T := T) ?_ (ih1 _ h)
    simp [hb4, hb4s]
  refine w_block ?_
  refine w_cut (fun x : Bool => ⟨[(0, ⟨.one, [.vw (.old 0) 6 (p0.map eGReq)]⟩), (1, ⟨.one, [.vw (.old 1) 2 (p1.map eGReply)]⟩), (2, ⟨.one, [.t (eI p2)]⟩), (7, ⟨.one, [.t (eI v7_2)]⟩), (8, ⟨.one, [.t (eI v8_3)]⟩), (42, ⟨.one, [.t (.bool x)]⟩)], [], []⟩) (fun x => (d_spec_FreedBy_j3 p0 v8_3 (d_spec_FreedBy_l1 p0 p2 p1 n1) v7_2) x = some r) (fun j42_6 h => ?_) ?_
  · replace h : (d_spec_FreedBy_j3 p0 v8_3 (d_spec_FreedBy_l1 p0 p2 p1 n1) v7_2) j42_6 = some r := h
    rw [d_spec_FreedBy_j3] at h
    rcases oif' h with ⟨hb7, h⟩ | ⟨hb7, h⟩
    · replace hb7 := eq_false_of_ne_true hb7
      have hb7s := hb7; try simp at hb7s
      refine w_false (by simp [hb7, hb7s]) ?_
      refine w_skip ?_
      exact ⟨v7_2, by simp [hb4, hb4s, hb7, hb7s], h⟩
    have hb7s := hb7; try simp at hb7s
    refine w_true (by simp [hb7, hb7s]) ?_
    refine w_st (by simp <;> rfl) ?_
    refine w_reg ?_
    refine k_run 4 (by simp <;> rfl) ?_
    obtain ⟨x8, hx9, h⟩ := ob h
    obtain ⟨hx9_0, hx9_1, hx9_2, hx9_3, hx9_4⟩ := at_facts hx9
    refine k_run 8 (by simp [hx9_0, hx9_1, hx9_2, hx9_3, hx9_4] <;> rfl) ?_
    refine k_nil ?_
    exact ⟨(w64 (v7_2 + x8.Size)), by simp [hx9_0, hx9_1, hx9_2, hx9_3, hx9_4, hb4, hb4s, hb7, hb7s], h⟩
  refine w_st (by simp <;> rfl) ?_
  refine w_reg ?_
  refine k_run 2 (by simp <;> rfl) ?_
  obtain ⟨x10, hx11, h⟩ := ob h
  obtain ⟨hx11_0, hx11_1, hx11_2, hx11_3, hx11_4⟩ := at_facts hx11
  refine k_run 9 (by simp [hx11_0, hx11_1, hx11_2, hx11_3, hx11_4] <;> rfl) ?_
  rcases oif' h with ⟨hb12, h⟩ | ⟨hb12, h⟩
  · replace hb12 := eq_false_of_ne_true hb12
    have hb12s := hb12; try simp at hb12s
    refine k_run 32 (by simp [hb12, hx11_0, hx11_1, hx11_2, hx11_3, hx11_4] <;> rfl) ?_
    refine k_nil ?_
    exact ⟨false, by simp [hx11_0, hx11_1, hx11_2, hx11_3, hx11_4, hb4, hb4s, hb12, hb12s], h⟩
  have hb12s := hb12; try simp at hb12s
  refine k_run 14 (by simp [hb12, hx11_0, hx11_1, hx11_2, hx11_3, hx11_4] <;> rfl) ?_
  rcases oif' h with ⟨hb13, h⟩ | ⟨hb13, h⟩
  · replace hb13 := eq_false_of_ne_true hb13
    have hb13s := hb13; try simp at hb13s
    refine k_run 18 (by simp [hb13, hx11_0, hx11_1, hx11_2, hx11_3, hx11_4] <;> rfl) ?_
    refine k_nil ?_
    exact ⟨false, by simp [hx11_0, hx11_1, hx11_2, hx11_3, hx11_4, hb4, hb4s, hb12, hb12s, hb13, hb13s], h⟩
  have hb13s := hb13; try simp at hb13s
  refine k_run 2 (by simp [hb13] <;> rfl) ?_
  obtain ⟨v14, hv15, h⟩ := ob h
  apply k_callg (by simp [hb13]) (by simp [hx11_0, hx11_1, hx11_2, hx11_3, hx11_4] <;> rfl) (by simp [hx11_0, hx11_1, hx11_2, hx11_3, hx11_4] <;> rfl)
  · first | exact run_spec_l24Done hv15 | simpa [hx11_0, hx11_1, hx11_2, hx11_3, hx11_4] using run_spec_l24Done hv15
  · simp [hx11_0, hx11_1, hx11_2, hx11_3, hx11_4] <;> rfl
  refine k_run 5 (by simp [hx11_0, hx11_1, hx11_2, hx11_3, hx11_4, hb13] <;> rfl) ?_
  rcases oif' h with ⟨hb16, h⟩ | ⟨hb16, h⟩
  · replace hb16 := eq_false_of_ne_true hb16
    have hb16s := hb16; try simp at hb16s
    refine k_run 10 (by simp [hb16, hb16s, hx11_0, hx11_1, hx11_2, hx11_3, hx11_4] <;> rfl) ?_
    refine k_nil ?_
    exact ⟨false, by simp [hx11_0, hx11_1, hx11_2, hx11_3, hx11_4, hb4, hb4s, hb12, hb12s, hb13, hb13s, hb16, hb16s], h⟩
  have hb16s := hb16; try simp at hb16s
  refine k_run 7 (by simp [hb16, hb16s, hx11_0, hx11_1, hx11_2, hx11_3, hx11_4] <;> rfl) ?_
  obtain ⟨v17, hv18, h⟩ := ob h
  apply k_callg (by simp [hb16, hb16s]) (by simp [hx11_0, hx11_1, hx11_2, hx11_3, hx11_4] <;> rfl) (by simp [hx11_0, hx11_1, hx11_2, hx11_3, hx11_4] <;> rfl)
  · first | exact run_spec_l1In hv18 | simpa [hx11_0, hx11_1, hx11_2, hx11_3, hx11_4] using run_spec_l1In hv18
  · simp [hx11_0, hx11_1, hx11_2, hx11_3, hx11_4] <;> rfl
  refine k_run 2 (by simp [hx11_0, hx11_1, hx11_2, hx11_3, hx11_4, hb16, hb16s] <;> rfl) ?_
  refine k_nil ?_
  exact ⟨v17, by simp [hx11_0, hx11_1, hx11_2, hx11_3, hx11_4, hb4, hb4s, hb12, hb12s, hb13, hb13s, hb16, hb16s], h⟩

/-- impl.within -/
def x_impl_within : XFunc := .mk [.v, .v, .v] [.tmp 6] (.seq (.region [(none, .as 6 (.k (.bool false)))] [0, 1, 2]) (.seq (.region [(none, .mv 7 (.tmp 0)),
 (none, .mv 8 (.tmp 1)),
 (none, .drop [1]),
 (none, .bin 9 .num .geq (.tmp 7) (.tmp 8)),
 (none, .drop [7, 8]),
 (none, .mv 10 (.tmp 9)),
 (none, .drop [9]),
 ((some (10, true)), .mv 11 (.tmp 0)),
 (none, .drop [0]),
 ((some (10, true)), .mv 12 (.tmp 2)),
 (none, .drop [2]),
 ((some (10, true)), .bin 13 .num .leq (.tmp 11) (.tmp 12)),
 (none, .drop [11, 12]),
 (none, .pick 14 (.tmp 10) (.tmp 13) (.k (.bool false))),
 (none, .drop [10, 13]),
 (none, .as 6 (.tmp 14))] [6]) (.ret)))
@[simp] theorem x_impl_within_m : modes x_impl_within = [.v, .v, .v] := rfl
@[simp] def d_impl_within_j1 (j6_1 : Bool) : Option Bool :=
  some j6_1
def d_impl_within (p0 : Int) (p1 : Int) (p2 : Int) : Option Bool :=
  if (decide (p0 ≥ p1)) = true then
    d_impl_within_j1 (decide (p0 ≤ p2))
  else d_impl_within_j1 false
theorem run_impl_within {p0 : Int} {p1 : Int} {p2 : Int} {r : Bool} (h : d_impl_within p0 p1 p2 = some r) : Runs x_impl_within [.v .one [eI p0], .v .one [eI p1], .v .one [eI p2]] .one [.bool r] [] := by
  refine Runs.mk (by simp <;> rfl) ?_ (by simp)
  rw [d_impl_within] at h
  refine w_seq ?_
  refine w_reg ?_
  refine k_run 1 (by simp <;> rfl) ?_
  refine k_nil ?_
  refine w_cut (fun x : Bool => ⟨[(6, ⟨.one, [.t (.bool x)]⟩)], [], []⟩) (fun x => d_impl_within_j1 x = some r) (fun j6_1 h => ?_) ?_
  · replace h : d_impl_within_j1 j6_1 = some r := h
    rw [d_impl_within_j1] at h
    refine w_ret ?_
    obtain rfl := Option.some.inj h
    simp
  refine w_st (by simp <;> rfl) ?_
  refine w_reg ?_
  refine k_run 7 (by simp <;> rfl) ?_
  rcases oif h with ⟨hb2, h⟩ | ⟨hb2, h⟩
  · have hb2s := hb2; try simp at hb2s
    refine k_run 9 (by simp [hb2, hb2s] <;> rfl) ?_
    refine k_nil ?_
    exact ⟨(decide (p0 ≤ p2)), by simp [hb2, hb2s], h⟩
  replace hb2 := eq_false_of_ne_true hb2
  have hb2s := hb2; try simp at hb2s
  refine k_run 9 (by simp [hb2, hb2s] <;> rfl) ?_
  refine k_nil ?_
  exact ⟨false, by simp [hb2, hb2s], h⟩

/-- impl.FreedBy -/
def x_impl_FreedBy : XFunc := .mk [.v, .v, .v] [.tmp 6] (.seq (.region [(none, .as 6 (.k (.int .i64 0)))] [0, 1, 2]) (.seq (.region [(none, .as 7 (.k (.int .i64 0)))] [0, 1, 2, 7]) (.seq (.seq (.region [(none, .mv 10 (.tmp 0)),
 (none, .len 11 (.tmp 10)),
 (none, .mv 12 (.k (.int .i64 0)))] [0, 1, 2, 7, 10, 11, 12]) (.block 0 (.loop (.seq (.region [(none, .bin 13 .num .lss (.tmp 12) (.tmp 11))] [0, 1, 2, 7, 10, 11, 12, 13]) (.seq (.cond 13 [0, 1, 2, 6, 7, 10, 11, 12] [6, 7] (.skip) (.exit 0)) (.seq (.block 1 (.seq (.region [(none, .mv 14 (.tmp 12)),
 (none, .ia 15 6 (.tmp 10) (.tmp 12)),
 (none, .ld 16 (some 6) (.tmp 15)),
 (none, .drop [15]),
 (none, .alloc 9 [.int .i64 0, .int .i64 0, .int .i64 0, .int .i64 0, .int .i64 0, .int .i64 0]),
 (none, .as 8 (.tmp 14)),
 (none, .drop [14]),
 (none, .st 6 (.tmp 9) (.tmp 16))] [0, 1, 2, 7, 8, 9, 10, 11, 12]) (.seq (.region [(none, .mv 17 (.tmp 0)),
 (none, .mv 18 (.tmp 1)),
 (none, .mv 19 (.tmp 8)),
 (none, .drop [8]),
 (none, .call 20 x_impl_successful [(.tmp 17), (.tmp 18), (.tmp 19), (.k (.int .i64 3))]),
 (none, .drop [17, 18, 19]),
 (none, .mv 21 (.tmp 20)),
 (none, .drop [20]),
 ((some (21, true)), .fa 22 2 (.tmp 9)),
 ((some (21, true)), .ld 23 none (.tmp 22)),
 (none, .drop [22]),
 ((some (21, true)), .mv 24 (.tmp 2)),
 ((some (21, true)), .bin 25 .num .eql (.tmp 23) (.tmp 24)),
 (none, .drop [23, 24]),
 (none, .pick 26 (.tmp 21) (.tmp 25) (.k (.bool false))),
 (none, .drop [21, 25]),
 (none, .mv 27 (.tmp 26)),
 (none, .drop [26]),
 ((some (27, true)), .fa 28 4 (.tmp 9)),
 ((some (27, true)), .ld 29 none (.tmp 28)),
 (none, .drop [28]),
 ((some (27, true)), .call 30 x_impl_within [(.tmp 29), (.k (.int .i64 1)), (.k (.int .i64 60))]),
 (none, .drop [29]),
 (none, .pick 31 (.tmp 27) (.tmp 30) (.k (.bool false)))] [0, 1, 2, 7, 9, 10, 11, 12, 31]) (.cond 31 [0, 1, 2, 6, 7, 9, 10, 11, 12] [0, 1, 2, 6, 7, 10, 11, 12] (.region [(none, .mv 32 (.tmp 7)),
 (none, .drop [7]),
 (none, .fa 33 4 (.tmp 9)),
 (none, .ld 34 none (.tmp 33)),
 (none, .drop [9, 33]),
 (none, .bin 35 .num .add (.tmp 32) (.tmp 34)),
 (none, .drop [32, 34]),
 (none, .as 7 (.tmp 35))] [0, 1, 2, 7, 10, 11, 12]) (.skip))))) (.region [(none, .bin 36 .num .add (.tmp 12) (.k (.int .i64 1))),
 (none, .drop [12]),
 (none, .mv 12 (.tmp 36))] [0, 1, 2, 7, 10, 11, 12]))))))) (.seq (.region [(none, .mv 37 (.tmp 7)),
 (none, .drop [7]),
 (none, .as 6 (.tmp 37))] [6]) (.ret)))))
@[simp] theorem x_impl_FreedBy_m : modes x_impl_FreedBy = [.v, .v, .v] := rfl
@[simp] def d_impl_FreedBy_j1 (j7_1 : Int) : Option Int :=
  some j7_1
@[simp] def d_impl_FreedBy_j2 (L1 : Int × Int → Option Int) (v12_3 : Int) (j7_5 : Int) : Option Int :=
  L1 (j7_5, (w64 (v12_3 + 1)))
@[simp] def d_impl_FreedBy_j3 (L1 : Int × Int → Option Int) (v12_3 : Int) (v7_2 : Int) (x6 : GReq) (j31_8 : Bool) : Option Int :=
  if j31_8 = true then
      (d_impl_FreedBy_j2 L1 v12_3) (w64 (v7_2 + x6.Size))
    else (d_impl_FreedBy_j2 L1 v12_3) v7_2
def d_impl_FreedBy_l1 (p0 : List GReq) (p1 : List GReply) (p2 : Int) : Nat → Int × Int → Option Int
  | 0, _ => none
  | n1 + 1, (v7_2, v12_3) => if (decide (v12_3 < (p0.length : Int))) = true then
      (at? p0 v12_3).bind fun x6 =>
      (d_impl_successful p0 p1 v12_3 3).bind fun v10 =>
      if v10 = true then
        if (x6.Cabin == p2) = true then
          (d_impl_within x6.Size 1 60).bind fun v14 =>
          (d_impl_FreedBy_j3 (d_impl_FreedBy_l1 p0 p1 p2 n1) v12_3 v7_2 x6) v14
        else (d_impl_FreedBy_j3 (d_impl_FreedBy_l1 p0 p1 p2 n1) v12_3 v7_2 x6) false
      else (d_impl_FreedBy_j3 (d_impl_FreedBy_l1 p0 p1 p2 n1) v12_3 v7_2 x6) false
    else d_impl_FreedBy_j1 v7_2
def d_impl_FreedBy (p0 : List GReq) (p1 : List GReply) (p2 : Int) : Option Int :=
  d_impl_FreedBy_l1 p0 p1 p2 big (0, 0)
theorem run_impl_FreedBy {p0 : List GReq} {p1 : List GReply} {p2 : Int} {r : Int} (h : d_impl_FreedBy p0 p1 p2 = some r) : Runs x_impl_FreedBy [.v .one [.sl 6 (p0.map eGReq)], .v .one [.sl 2 (p1.map eGReply)], .v .one [eI p2]] .one [eI r] [] := by
  refine Runs.mk (by simp <;> rfl) ?_ (by simp)
  rw [d_impl_FreedBy] at h
  refine w_seq ?_
  refine w_reg ?_
  refine k_run 1 (by simp <;> rfl) ?_
  refine k_nil ?_
  refine w_seq ?_
  refine w_st (by simp <;> rfl) ?_
  refine w_reg ?_
  refine k_run 1 (by simp <;> rfl) ?_
  refine k_nil ?_
  refine w_cut (fun x : Int => ⟨[(7, ⟨.one, [.t (eI x)]⟩)], [], []⟩) (fun x => d_impl_FreedBy_j1 x = some r) (fun j7_1 h => ?_) ?_
  · replace h : d_impl_FreedBy_j1 j7_1 = some r := h
    rw [d_impl_FreedBy_j1] at h
    refine w_seq ?_
    refine w_reg ?_
    refine k_run 3 (by simp <;> rfl) ?_
    refine k_nil ?_
    refine w_st (by simp <;> rfl) ?_
    refine w_ret ?_
    obtain rfl := Option.some.inj h
    simp
  refine w_seq ?_
  refine w_st (by simp <;> rfl) ?_
  refine w_reg ?_
  refine k_run 3 (by simp <;> rfl) ?_
  refine k_nil ?_
  refine w_block ?_
  refine w_fuel (fun x : Int × Int => ⟨[(0, ⟨.one, [.vw (.old 0) 6 (p0.map eGReq)]⟩), (1, ⟨.one, [.vw (.old 1) 2 (p1.map eGReply)]⟩), (2, ⟨.one, [.t (eI p2)]⟩), (7, ⟨.one, [.t (eI x.1)]⟩), (10, ⟨.one, [.vw (.old 0) 6 (p0.map eGReq)]⟩), (11, ⟨.one, [.t (eI (p0.length : Int))]⟩), (12, ⟨.one, [.t (eI x.2)]⟩)], [], []⟩) (fun n1 x => d_impl_FreedBy_l1 p0 p1 p2 n1 x) (n := big) (x := (0, 0)) (fun n1 x h T ih1 => ?_) (fun x h => by simp [d_impl_FreedBy_l1] at h) (by simp) h
  obtain ⟨v7_2, v12_3⟩ := x
  replace h : d_impl_FreedBy_l1 p0 p1 p2 (n1 + 1) (v7_2, v12_3) = some r := h
  rw [d_impl_FreedBy_l1] at h
  refine w_seq ?_
  refine w_reg ?_
  refine k_run 1 (by simp <;> rfl) ?_
  refine k_nil ?_
  refine w_seq ?_
  refine w_st (by simp <;> rfl) ?_
  rcases oif' h with ⟨hb4, h⟩ | ⟨hb4, h⟩
  · replace hb4 := eq_false_of_ne_true hb4
    have hb4s := hb4; try simp at hb4s
    refine w_false (by simp [hb4, hb4s]) ?_
    refine w_exit ?_
    refine x_here ?_
    exact ⟨v7_2, by simp [hb4, hb4s], h⟩
  have hb4s := hb4; try simp at hb4s
  refine w_true (by simp [hb4, hb4s]) ?_
  refine w_skip ?_
  refine w_cut (fun x : Int => ⟨[(0, ⟨.one, [.vw (.old 0) 6 (p0.map eGReq)]⟩), (1, ⟨.one, [.vw (.old 1) 2 (p1.map eGReply)]⟩), (2, ⟨.one, [.t (eI p2)]⟩), (7, ⟨.one, [.t (eI x)]⟩), (10, ⟨.one, [.vw (.old 0) 6 (p0.map eGReq)]⟩), (11, ⟨.one, [.t (eI (p0.length : Int))]⟩), (12, ⟨.one, [.t (eI v12_3)]⟩)], [], []⟩) (fun x => (d_impl_FreedBy_j2 (d_impl_FreedBy_l1 p0 p1 p2 n1) v12_3) x = some r) (fun j7_5 h => ?_) ?_
  · replace h : (d_impl_FreedBy_j2 (d_impl_FreedBy_l1 p0 p1 p2 n1) v12_3) j7_5 = some r := h
    rw [d_impl_FreedBy_j2] at h
    refine w_reg ?_
    refine k_run 3 (by simp <;> rfl) ?_
    refine k_nil ?_
    refine t_st (T := T) ?_ (ih1 _ h)
    simp [hb4, hb4s]
  refine w_block ?_
  refine w_seq ?_
  refine w_st (by simp <;> rfl) ?_
  refine w_reg ?_
  refine k_run 1 (by simp <;> rfl) ?_
  obtain ⟨x6, hx7, h⟩ := ob h
  obtain ⟨hx7_0, hx7_1, hx7_2, hx7_3, hx7_4⟩ := at_facts hx7
  refine k_run 7 (by simp [hx7_0, hx7_1, hx7_2, hx7_3, hx7_4] <;> rfl) ?_
  refine k_nil ?_
  refine w_cut (fun x : Bool => ⟨[(0, ⟨.one, [.vw (.old 0) 6 (p0.map eGReq)]⟩), (1, ⟨.one, [.vw (.old 1) 2 (p1.map eGReply)]⟩), (2, ⟨.one, [.t (eI p2)]⟩), (7, ⟨.one, [.t (eI v7_2)]⟩), (9, ⟨.one, [.bp 9 0]⟩), (10, ⟨.one, [.vw (.old 0) 6 (p0.map eGReq)]⟩), (11, ⟨.one, [.t (eI (p0.length : Int))]⟩), (12, ⟨.one, [.t (eI v12_3)]⟩), (31, ⟨.one, [.t (.bool x)]⟩)], [(9, [.t (eI x6.Kind), .t (eI x6.Id), .t (eI x6.Cabin), .t (eI x6.From), .t (eI x6.Size), .t (eI x6.Tier)])], []⟩) (fun x => (d_impl_FreedBy_j3 (d_impl_FreedBy_l1 p0 p1 p2 n1) v12_3 v7_2 x6) x = some r) (fun j31_8 h => ?_) ?_
  · replace h : (d_impl_FreedBy_j3 (d_impl_FreedBy_l1 p0 p1 p2 n1) v12_3 v7_2 x6) j31_8 = some r := h
    rw [d_impl_FreedBy_j3] at h
    rcases oif' h with ⟨hb9, h⟩ | ⟨hb9, h⟩
    · replace hb9 := eq_false_of_ne_true hb9
      have hb9s := hb9; try simp at hb9s
      refine w_false (by simp [hb9, hb9s]) ?_
      refine w_skip ?_
      exact ⟨v7_2, by simp [hx7_0, hx7_1, hx7_2, hx7_3, hx7_4, hb4, hb4s, hb9, hb9s], h⟩
    have hb9s := hb9; try simp at hb9s
    refine w_true (by simp [hb9, hb9s]) ?_
    refine w_st (by simp <;> rfl) ?_
    refine w_reg ?_
    refine k_run 8 (by simp [hx7_0, hx7_1, hx7_2, hx7_3, hx7_4] <;> rfl) ?_
    refine k_nil ?_
    exact ⟨(w64 (v7_2 + x6.Size)), by simp [hx7_0, hx7_1, hx7_2, hx7_3, hx7_4, hb4, hb4s, hb9, hb9s], h⟩
  refine w_st (by simp <;> rfl) ?_
  refine w_reg ?_
  refine k_run 4 (by simp <;> rfl) ?_
  obtain ⟨v10, hv11, h⟩ := ob h
  apply k_call (by simp [hx7_0, hx7_1, hx7_2, hx7_3, hx7_4] <;> rfl) (by simp [hx7_0, hx7_1, hx7_2, hx7_3, hx7_4] <;> rfl)
  · first | exact run_impl_successful hv11 | simpa [hx7_0, hx7_1, hx7_2, hx7_3, hx7_4] using run_impl_successful hv11
  · simp [hx7_0, hx7_1, hx7_2, hx7_3, hx7_4] <;> rfl
  refine k_run 3 (by simp <;> rfl) ?_
  rcases oif' h with ⟨hb12, h⟩ | ⟨hb12, h⟩
  · replace hb12 := eq_false_of_ne_true hb12
    have hb12s := hb12; try simp at hb12s
    refine k_run 16 (by simp [hb12, hb12s, hx7_0, hx7_1, hx7_2, hx7_3, hx7_4] <;> rfl) ?_
    refine k_nil ?_
    exact ⟨false, by simp [hx7_0, hx7_1, hx7_2, hx7_3, hx7_4, hb4, hb4s, hb12, hb12s], h⟩
  have hb12s := hb12; try simp at hb12s
  refine k_run 10 (by simp [hb12, hb12s, hx7_0, hx7_1, hx7_2, hx7_3, hx7_4] <;> rfl) ?_
  rcases oif' h with ⟨hb13, h⟩ | ⟨hb13, h⟩
  · replace hb13 := eq_false_of_ne_true hb13
    have hb13s := hb13; try simp at hb13s
    refine k_run 6 (by simp [hb13, hx7_0, hx7_1, hx7_2, hx7_3, hx7_4] <;> rfl) ?_
    refine k_nil ?_
    exact ⟨false, by simp [hx7_0, hx7_1, hx7_2, hx7_3, hx7_4, hb4, hb4s, hb12, hb12s, hb13, hb13s], h⟩
  have hb13s := hb13; try simp at hb13s
  refine k_run 3 (by simp [hb13, hx7_0, hx7_1, hx7_2, hx7_3, hx7_4] <;> rfl) ?_
  obtain ⟨v14, hv15, h⟩ := ob h
  apply k_callg (by simp [hb13]) (by simp [hx7_0, hx7_1, hx7_2, hx7_3, hx7_4] <;> rfl) (by simp [hx7_0, hx7_1, hx7_2, hx7_3, hx7_4] <;> rfl)
  · first | exact run_impl_within hv15 | simpa [hx7_0, hx7_1, hx7_2, hx7_3, hx7_4] using run_impl_within hv15
  · simp [hx7_0, hx7_1, hx7_2, hx7_3, hx7_4] <;> rfl
  refine k_run 2 (by simp [hx7_0, hx7_1, hx7_2, hx7_3, hx7_4, hb13] <;> rfl) ?_
  refine k_nil ?_
  exact ⟨v14, by simp [hx7_0, hx7_1, hx7_2, hx7_3, hx7_4, hb4, hb4s, hb12, hb12s, hb13, hb13s], h⟩

/-- laws.FnExactFreedBy -/
def x_laws_FnExactFreedBy : XFunc := .mk [.v, .v, .v] [.tmp 6] (.seq (.region [(none, .as 6 (.k (.bool false)))] [0, 1, 2]) (.seq (.region [(none, .as 7 (.k (.int .i64 1048576)))] [0, 1, 2, 7]) (.seq (.region [(none, .mv 12 (.tmp 0)),
 (none, .mv 13 (.tmp 7)),
 (none, .drop [7]),
 (none, .call 14 x_laws_szReqS [(.tmp 12), (.tmp 13)]),
 (none, .drop [12, 13]),
 (none, .as 7 (.tmp 14))] [0, 1, 2, 7]) (.seq (.seq (.region [(none, .mv 15 (.tmp 7)),
 (none, .bin 16 .num .lss (.tmp 15) (.k (.int .i64 0)))] [0, 1, 2, 7, 16]) (.cond 16 [6] [0, 1, 2, 6, 7] (.seq (.region [(none, .as 6 (.k (.bool true)))] [6]) (.ret)) (.skip))) (.seq (.region [(none, .mv 17 (.tmp 1)),
 (none, .mv 18 (.tmp 7)),
 (none, .drop [7]),
 (none, .call 19 x_laws_szReplyS [(.tmp 17), (.tmp 18)]),
 (none, .drop [17, 18]),
 (none, .as 7 (.tmp 19))] [0, 1, 2, 7]) (.seq (.seq (.region [(none, .mv 20 (.tmp 7)),
 (none, .drop [7]),
 (none, .bin 21 .num .lss (.tmp 20) (.k (.int .i64 0)))] [0, 1, 2, 21]) (.cond 21 [6] [0, 1, 2, 6] (.seq (.region [(none, .as 6 (.k (.bool true)))] [6]) (.ret)) (.skip))) (.seq (.region [(none, .mv 22 (.tmp 0)),
 (none, .call 23 x_laws_toReqS [(.tmp 22)]),
 (none, .drop [22]),
 (none, .mv 24 (.tmp 1)),
 (none, .call 25 x_laws_toReplyS [(.tmp 24)]),
 (none, .drop [24]),
 (none, .mv 26 (.tmp 2)),
 (none, .call 27 x_spec_FreedBy [(.tmp 23), (.tmp 25), (.tmp 26)]),
 (none, .drop [23, 25, 26]),
 (none, .as 8 (.tmp 27))] [0, 1, 2, 8]) (.seq (.region [(none, .mv 28 (.tmp 0)),
 (none, .call 29 x_laws_toReqS [(.tmp 28)]),
 (none, .drop [28]),
 (none, .as 9 (.tmp 29))] [0, 1, 2, 8, 9]) (.seq (.region [(none, .mv 30 (.tmp 1)),
 (none, .call 31 x_laws_toReplyS [(.tmp 30)]),
 (none, .drop [30]),
 (none, .as 10 (.tmp 31))] [0, 1, 2, 8, 9, 10]) (.seq (.region [(none, .mv 32 (.tmp 9)),
 (none, .mv 33 (.tmp 10)),
 (none, .mv 34 (.tmp 2)),
 (none, .drop [2]),
 (none, .call 35 x_impl_FreedBy [(.tmp 32), (.tmp 33), (.tmp 34)]),
 (none, .drop [32, 33, 34]),
 (none, .as 11 (.tmp 35))] [0, 1, 8, 9, 10, 11]) (.seq (.seq (.region [(none, .mv 36 (.tmp 11)),
 (none, .drop [11]),
 (none, .mv 37 (.tmp 8)),
 (none, .drop [8]),
 (none, .bin 38 .num .neq (.tmp 36) (.tmp 37))] [0, 1, 9, 10, 38]) (.cond 38 [6] [0, 1, 6, 9, 10] (.seq (.region [(none, .as 6 (.k (.bool false)))] [6]) (.ret)) (.skip))) (.seq (.seq (.region [(none, .mv 39 (.tmp 9)),
 (none, .mv 40 (.tmp 0)),
 (none, .call 41 x_laws_toReqS [(.tmp 40)]),
 (none, .drop [0, 40]),
 (none, .call 42 x_laws_eqReqS [(.tmp 39), (.tmp 41)]),
 (none, .drop [9, 39, 41]),
 (none, .un 43 .not (.tmp 42))] [1, 10, 43]) (.cond 43 [6] [1, 6, 10] (.seq (.region [(none, .as 6 (.k (.bool false)))] [6]) (.ret)) (.skip))) (.seq (.seq (.region [(none, .mv 44 (.tmp 10)),
 (none, .mv 45 (.tmp 1)),
 (none, .call 46 x_laws_toReplyS [(.tmp 45)]),
 (none, .drop [1, 45]),
 (none, .call 47 x_laws_eqReplyS [(.tmp 44), (.tmp 46)]),
 (none, .drop [10, 44, 46]),
 (none, .un 48 .not (.tmp 47))] [48]) (.cond 48 [6] [6] (.seq (.region [(none, .as 6 (.k (.bool false)))] [6]) (.ret)) (.skip))) (.seq (.region [(none, .as 6 (.k (.bool true)))] [6]) (.ret)))))))))))))))
@[simp] theorem x_laws_FnExactFreedBy_m : modes x_laws_FnExactFreedBy = [.v, .v, .v] := rfl
def d_laws_FnExactFreedBy (p0 : List GReq) (p1 : List GReply) (p2 : Int) : Option Bool :=
  (d_laws_szReqS p0 1048576).bind fun v1 =>
  if (decide (v1 < 0)) = true then
    some true
  else (d_laws_szReplyS p1 v1).bind fun v4 =>
  if (decide (v4 < 0)) = true then
    some true
  else (d_laws_toReqS p0).bind fun v7 =>
  (d_laws_toReplyS p1).bind fun v9 =>
  (d_spec_FreedBy v7 v9 p2).bind fun v11 =>
  (d_laws_toReqS p0).bind fun v13 =>
  (d_laws_toReplyS p1).bind fun v15 =>
  (d_impl_FreedBy v13 v15 p2).bind fun v17 =>
  if (v17 != v11) = true then
    some false
  else (d_laws_toReqS p0).bind fun v20 =>
  (d_laws_eqReqS v13 v20).bind fun v22 =>
  if (!v22) = true then
    some false
  else (d_laws_toReplyS p1).bind fun v25 =>
  (d_laws_eqReplyS v15 v25).bind fun v27 =>
  if (!v27) = true then
    some false
  else some true
theorem run_laws_FnExactFreedBy {p0 : List GReq} {p1 : List GReply} {p2 : Int} {r : Bool} (h : d_laws_FnExactFreedBy p0 p1 p2 = some r) : Runs x_laws_FnExactFreedBy [.v .one [.sl 6 (p0.map eGReq)], .v .one [.sl 2 (p1.map eGReply)], .v .one [eI p2]] .one [.bool r] [] := by
  refine Runs.mk (by simp <;> rfl) ?_ (by simp)
  rw [d_laws_FnExactFreedBy] at h
  refine w_seq ?_
  refine w_reg ?_
  refine k_run 1 (by simp <;> rfl) ?_
  refine k_nil ?_
  refine w_seq ?_
  refine w_st (by simp <;> rfl) ?_
  refine w_reg ?_
  refine k_run 1 (by simp <;> rfl) ?_
  refine k_nil ?_
  refine w_seq ?_
  refine w_st (by simp <;> rfl) ?_
  refine w_reg ?_
  refine k_run 3 (by simp <;> rfl) ?_
  obtain ⟨v1, hv2, h⟩ := ob h
  apply k_call (by simp <;> rfl) (by simp <;> rfl)
  · first | exact run_laws_szReqS hv2 | simpa using run_laws_szReqS hv2
  · simp <;> rfl
  refine k_run 2 (by simp <;> rfl) ?_
  refine k_nil ?_
  iterate 2 refine w_seq ?_
  refine w_st (by simp <;> rfl) ?_
  refine w_reg ?_
  refine k_run 2 (by simp <;> rfl) ?_
  refine k_nil ?_
  refine w_st (by simp <;> rfl) ?_
  rcases oif h with ⟨hb3, h⟩ | ⟨hb3, h⟩
  · have hb3s := hb3; try simp at hb3s
    refine w_true (by simp [hb3, hb3s]) ?_
    refine w_seq ?_
    refine w_st (by simp <;> rfl) ?_
    refine w_reg ?_
    refine k_run 1 (by simp <;> rfl) ?_
    refine k_nil ?_
    refine w_st (by simp <;> rfl) ?_
    refine w_ret ?_
    obtain rfl := Option.some.inj h
    simp [hb3, hb3s]
  replace hb3 := eq_false_of_ne_true hb3
  have hb3s := hb3; try simp at hb3s
  refine w_false (by simp [hb3, hb3s]) ?_
  refine w_skip ?_
  refine w_seq ?_
  refine w_st (by simp <;> rfl) ?_
  refine w_reg ?_
  refine k_run 3 (by simp <;> rfl) ?_
  obtain ⟨v4, hv5, h⟩ := ob h
  apply k_call (by simp <;> rfl) (by simp <;> rfl)
  · first | exact run_laws_szReplyS hv5 | simpa using run_laws_szReplyS hv5
  · simp <;> rfl
  refine k_run 2 (by simp <;> rfl) ?_
  refine k_nil ?_
  iterate 2 refine w_seq ?_
  refine w_st (by simp <;> rfl) ?_
  refine w_reg ?_
  refine k_run 3 (by simp <;> rfl) ?_
  refine k_nil ?_
  refine w_st (by simp <;> rfl) ?_
  rcases oif h with ⟨hb6, h⟩ | ⟨hb6, h⟩
  · have hb6s := hb6; try simp at hb6s
    refine w_true (by simp [hb6, hb6s]) ?_
    refine w_seq ?_
    refine w_st (by simp <;> rfl) ?_
    refine w_reg ?_
    refine k_run 1 (by simp <;> rfl) ?_
    refine k_nil ?_
    refine w_st (by simp <;> rfl) ?_
    refine w_ret ?_
    obtain rfl := Option.some.inj h
    simp [hb3, hb3s, hb6, hb6s]
  replace hb6 := eq_false_of_ne_true hb6
  have hb6s := hb6; try simp at hb6s
  refine w_false (by simp [hb6, hb6s]) ?_
  refine w_skip ?_
  refine w_seq ?_
  refine w_st (by simp <;> rfl) ?_
  refine w_reg ?_
  refine k_run 1 (by simp <;> rfl) ?_
  obtain ⟨v7, hv8, h⟩ := ob h
  apply k_call (by simp <;> rfl) (by simp <;> rfl)
  · first | exact run_laws_toReqS hv8 | simpa using run_laws_toReqS hv8
  · simp <;> rfl
  refine k_run 2 (by simp <;> rfl) ?_
  obtain ⟨v9, hv10, h⟩ := ob h
  apply k_call (by simp <;> rfl) (by simp <;> rfl)
  · first | exact run_laws_toReplyS hv10 | simpa using run_laws_toReplyS hv10
  · simp <;> rfl
  refine k_run 2 (by simp <;> rfl) ?_
  obtain ⟨v11, hv12, h⟩ := ob h
  apply k_call (by simp <;> rfl) (by simp <;> rfl)
  · first | exact run_spec_FreedBy hv12 | simpa using run_spec_FreedBy hv12
  · simp <;> rfl
  refine k_run 2 (by simp <;> rfl) ?_
  refine k_nil ?_
  refine w_seq ?_
  refine w_st (by simp <;> rfl) ?_
  refine w_reg ?_
  refine k_run 1 (by simp <;> rfl) ?_
  obtain ⟨v13, hv14, h⟩ := ob h
  apply k_call (by simp <;> rfl) (by simp <;> rfl)
  · first | exact run_laws_toReqS hv14 | simpa using run_laws_toReqS hv14
  · simp <;> rfl
  refine k_run 2 (by simp <;> rfl) ?_
  refine k_nil ?_
  refine w_seq ?_
  refine w_st (by simp <;> rfl) ?_
  refine w_reg ?_
  refine k_run 1 (by simp <;> rfl) ?_
  obtain ⟨v15, hv16, h⟩ := ob h
  apply k_call (by simp <;> rfl) (by simp <;> rfl)
  · first | exact run_laws_toReplyS hv16 | simpa using run_laws_toReplyS hv16
  · simp <;> rfl
  refine k_run 2 (by simp <;> rfl) ?_
  refine k_nil ?_
  refine w_seq ?_
  refine w_st (by simp <;> rfl) ?_
  refine w_reg ?_
  refine k_run 4 (by simp <;> rfl) ?_
  obtain ⟨v17, hv18, h⟩ := ob h
  apply k_call (by simp <;> rfl) (by simp <;> rfl)
  · first | exact run_impl_FreedBy hv18 | simpa using run_impl_FreedBy hv18
  · simp <;> rfl
  refine k_run 2 (by simp <;> rfl) ?_
  refine k_nil ?_
  iterate 2 refine w_seq ?_
  refine w_st (by simp <;> rfl) ?_
  refine w_reg ?_
  refine k_run 5 (by simp <;> rfl) ?_
  refine k_nil ?_
  refine w_st (by simp <;> rfl) ?_
  rcases oif h with ⟨hb19, h⟩ | ⟨hb19, h⟩
  · have hb19s := hb19; try simp at hb19s
    refine w_true (by simp [hb19, hb19s]) ?_
    refine w_seq ?_
    refine w_st (by simp <;> rfl) ?_
    refine w_reg ?_
    refine k_run 1 (by simp <;> rfl) ?_
    refine k_nil ?_
    refine w_st (by simp <;> rfl) ?_
    refine w_ret ?_
    obtain rfl := Option.some.inj h
    simp [hb3, hb3s, hb6, hb6s, hb19, hb19s]
  replace hb19 := eq_false_of_ne_true hb19
  have hb19s := hb19; try simp at hb19s
  refine w_false (by simp [hb19, hb19s]) ?_
  refine w_skip ?_
  iterate 2 refine w_seq ?_
  refine w_st (by simp <;> rfl) ?_
  refine w_reg ?_
  refine k_run 2 (by simp <;> rfl) ?_
  obtain ⟨v20, hv21, h⟩ := ob h
  apply k_call (by simp <;> rfl) (by simp <;> rfl)
  · first | exact run_laws_toReqS hv21 | simpa using run_laws_toReqS hv21
  · simp <;> rfl
  refine k_run 1 (by simp <;> rfl) ?_
  obtain ⟨v22, hv23, h⟩ := ob h
  apply k_call (by simp <;> rfl) (by simp <;> rfl)
  · first | exact run_laws_eqReqS hv23 | simpa using run_laws_eqReqS hv23
  · simp <;> rfl
  refine k_run 2 (by simp <;> rfl) ?_
  refine k_nil ?_
  refine w_st (by simp <;> rfl) ?_
  rcases oif h with ⟨hb24, h⟩ | ⟨hb24, h⟩
  · have hb24s := hb24; try simp at hb24s
    refine w_true (by simp [hb24, hb24s]) ?_
    refine w_seq ?_
    refine w_st (by simp <;> rfl) ?_
    refine w_reg ?_
    refine k_run 1 (by simp <;> rfl) ?_
    refine k_nil ?_
    refine w_st (by simp <;> rfl) ?_
    refine w_ret ?_
    obtain rfl := Option.some.inj h
    simp [hb3, hb3s, hb6, hb6s, hb19, hb19s, hb24, hb24s]
  replace hb24 := eq_false_of_ne_true hb24
  have hb24s := hb24; try simp at hb24s
  refine w_false (by simp [hb24, hb24s]) ?_
  refine w_skip ?_
  iterate 2 refine w_seq ?_
  refine w_st (by simp <;> rfl) ?_
  refine w_reg ?_
  refine k_run 2 (by simp <;> rfl) ?_
  obtain ⟨v25, hv26, h⟩ := ob h
  apply k_call (by simp <;> rfl) (by simp <;> rfl)
  · first | exact run_laws_toReplyS hv26 | simpa using run_laws_toReplyS hv26
  · simp <;> rfl
  refine k_run 1 (by simp <;> rfl) ?_
  obtain ⟨v27, hv28, h⟩ := ob h
  apply k_call (by simp <;> rfl) (by simp <;> rfl)
  · first | exact run_laws_eqReplyS hv28 | simpa using run_laws_eqReplyS hv28
  · simp <;> rfl
  refine k_run 2 (by simp <;> rfl) ?_
  refine k_nil ?_
  refine w_st (by simp <;> rfl) ?_
  rcases oif h with ⟨hb29, h⟩ | ⟨hb29, h⟩
  · have hb29s := hb29; try simp at hb29s
    refine w_true (by simp [hb29, hb29s]) ?_
    refine w_seq ?_
    refine w_st (by simp <;> rfl) ?_
    refine w_reg ?_
    refine k_run 1 (by simp <;> rfl) ?_
    refine k_nil ?_
    refine w_st (by simp <;> rfl) ?_
    refine w_ret ?_
    obtain rfl := Option.some.inj h
    simp [hb3, hb3s, hb6, hb6s, hb19, hb19s, hb24, hb24s, hb29, hb29s]
  replace hb29 := eq_false_of_ne_true hb29
  have hb29s := hb29; try simp at hb29s
  refine w_false (by simp [hb29, hb29s]) ?_
  refine w_skip ?_
  refine w_seq ?_
  refine w_st (by simp <;> rfl) ?_
  refine w_reg ?_
  refine k_run 1 (by simp <;> rfl) ?_
  refine k_nil ?_
  refine w_st (by simp <;> rfl) ?_
  refine w_ret ?_
  obtain rfl := Option.some.inj h
  simp [hb3, hb3s, hb6, hb6s, hb19, hb19s, hb24, hb24s, hb29, hb29s]

/-- spec.l1Min -/
def x_spec_l1Min : XFunc := .mk [.v, .v] [.tmp 4] (.seq (.region [(none, .as 4 (.k (.int .i64 0)))] [0, 1]) (.seq (.seq (.region [(none, .mv 5 (.tmp 0)),
 (none, .mv 6 (.tmp 1)),
 (none, .bin 7 .num .lss (.tmp 5) (.tmp 6))] [0, 1, 7]) (.cond 7 [0, 4] [1, 4] (.seq (.region [(none, .mv 8 (.tmp 0)),
 (none, .drop [0]),
 (none, .as 4 (.tmp 8))] [4]) (.ret)) (.skip))) (.seq (.region [(none, .mv 9 (.tmp 1)),
 (none, .drop [1]),
 (none, .as 4 (.tmp 9))] [4]) (.ret))))
@[simp] theorem x_spec_l1Min_m : modes x_spec_l1Min = [.v, .v] := rfl
def d_spec_l1Min (p0 : Int) (p1 : Int) : Option Int :=
  if (decide (p0 < p1)) = true then
    some p0
  else some p1
theorem run_spec_l1Min {p0 : Int} {p1 : Int} {r : Int} (h : d_spec_l1Min p0 p1 = some r) : Runs x_spec_l1Min [.v .one [eI p0], .v .one [eI p1]] .one [eI r] [] := by
  refine Runs.mk (by simp <;> rfl) ?_ (by simp)
  rw [d_spec_l1Min] at h
  refine w_seq ?_
  refine w_reg ?_
  refine k_run 1 (by simp <;> rfl) ?_
  refine k_nil ?_
  iterate 2 refine w_seq ?_
  refine w_st (by simp <;> rfl) ?_
  refine w_reg ?_
  refine k_run 3 (by simp <;> rfl) ?_
  refine k_nil ?_
  refine w_st (by simp <;> rfl) ?_
  rcases oif h with ⟨hb1, h⟩ | ⟨hb1, h⟩
  · have hb1s := hb1; try simp at hb1s
    refine w_true (by simp [hb1, hb1s]) ?_
    refine w_seq ?_
    refine w_st (by simp <;> rfl) ?_
    refine w_reg ?_
    refine k_run 3 (by simp <;> rfl) ?_
    refine k_nil ?_
    refine w_st (by simp <;> rfl) ?_
    refine w_ret ?_
    obtain rfl := Option.some.inj h
    simp [hb1, hb1s]
  replace hb1 := eq_false_of_ne_true hb1
  have hb1s := hb1; try simp at hb1s
  refine w_false (by simp [hb1, hb1s]) ?_
  refine w_skip ?_
  refine w_seq ?_
  refine w_st (by simp <;> rfl) ?_
  refine w_reg ?_
  refine k_run 3 (by simp <;> rfl) ?_
  refine k_nil ?_
  refine w_st (by simp <;> rfl) ?_
  refine w_ret ?_
  obtain rfl := Option.some.inj h
  simp [hb1, hb1s]

/-- spec.l1Max -/
def x_spec_l1Max : XFunc := .mk [.v, .v] [.tmp 4] (.seq (.region [(none, .as 4 (.k (.int .i64 0)))] [0, 1]) (.seq (.seq (.region [(none, .mv 5 (.tmp 0)),
 (none, .mv 6 (.tmp 1)),
 (none, .bin 7 .num .gtr (.tmp 5) (.tmp 6))] [0, 1, 7]) (.cond 7 [0, 4] [1, 4] (.seq (.region [(none, .mv 8 (.tmp 0)),
 (none, .drop [0]),
 (none, .as 4 (.tmp 8))] [4]) (.ret)) (.skip))) (.seq (.region [(none, .mv 9 (.tmp 1)),
 (none, .drop [1]),
 (none, .as 4 (.tmp 9))] [4]) (.ret))))
@[simp] theorem x_spec_l1Max_m : modes x_spec_l1Max = [.v, .v] := rfl
def d_spec_l1Max (p0 : Int) (p1 : Int) : Option Int :=
  if (decide (p0 > p1)) = true then
    some p0
  else some p1
theorem run_spec_l1Max {p0 : Int} {p1 : Int} {r : Int} (h : d_spec_l1Max p0 p1 = some r) : Runs x_spec_l1Max [.v .one [eI p0], .v .one [eI p1]] .one [eI r] [] := by
  refine Runs.mk (by simp <;> rfl) ?_ (by simp)
  rw [d_spec_l1Max] at h
  refine w_seq ?_
  refine w_reg ?_
  refine k_run 1 (by simp <;> rfl) ?_
  refine k_nil ?_
  iterate 2 refine w_seq ?_
  refine w_st (by simp <;> rfl) ?_
  refine w_reg ?_
  refine k_run 3 (by simp <;> rfl) ?_
  refine k_nil ?_
  refine w_st (by simp <;> rfl) ?_
  rcases oif h with ⟨hb1, h⟩ | ⟨hb1, h⟩
  · have hb1s := hb1; try simp at hb1s
    refine w_true (by simp [hb1, hb1s]) ?_
    refine w_seq ?_
    refine w_st (by simp <;> rfl) ?_
    refine w_reg ?_
    refine k_run 3 (by simp <;> rfl) ?_
    refine k_nil ?_
    refine w_st (by simp <;> rfl) ?_
    refine w_ret ?_
    obtain rfl := Option.some.inj h
    simp [hb1, hb1s]
  replace hb1 := eq_false_of_ne_true hb1
  have hb1s := hb1; try simp at hb1s
  refine w_false (by simp [hb1, hb1s]) ?_
  refine w_skip ?_
  refine w_seq ?_
  refine w_st (by simp <;> rfl) ?_
  refine w_reg ?_
  refine k_run 3 (by simp <;> rfl) ?_
  refine k_nil ?_
  refine w_st (by simp <;> rfl) ?_
  refine w_ret ?_
  obtain rfl := Option.some.inj h
  simp [hb1, hb1s]

/-- spec.JoinOf -/
def x_spec_JoinOf : XFunc := .mk [.v, .v, .v, .v] [.cell 8 (some 6), .tmp 9] (.seq (.region [(none, .alloc 8 [.int .i64 0, .int .i64 0, .int .i64 0, .int .i64 0, .int .i64 0, .int .i64 0]),
 (none, .as 9 (.k (.bool false)))] [0, 1, 2, 3, 8]) (.seq (.seq (.region [(none, .mv 11 (.tmp 3)),
 (none, .drop [3]),
 (none, .mv 12 (.tmp 0)),
 (none, .len 13 (.tmp 12)),
 (none, .drop [12]),
 (none, .call 14 x_spec_l1Min [(.tmp 11), (.tmp 13)]),
 (none, .drop [11, 13]),
 (none, .call 15 x_spec_l1Max [(.k (.int .i64 0)), (.tmp 14)]),
 (none, .drop [14]),
 (none, .bin 16 .num .sub (.tmp 15) (.k (.int .i64 1))),
 (none, .drop [15]),
 (none, .as 10 (.tmp 16))] [0, 1, 2, 8, 10]) (.block 0 (.loop (.seq (.seq (.region [(none, .mv 17 (.tmp 10)),
 (none, .bin 18 .num .geq (.tmp 17) (.k (.int .i64 0)))] [0, 1, 2, 8, 10, 18]) (.cond 18 [0, 1, 2, 8, 9, 10] [8, 9] (.skip) (.exit 0))) (.seq (.block 1 (.seq (.region [(none, .mv 21 (.tmp 0)),
 (none, .mv 22 (.tmp 10)),
 (none, .ia 23 6 (.tmp 21) (.tmp 22)),
 (none, .fa 24 0 (.tmp 23)),
 (none, .drop [23]),
 (none, .ld 25 none (.tmp 24)),
 (none, .drop [21, 22, 24]),
 (none, .bin 26 .num .eql (.tmp 25) (.k (.int .i64 1))),
 (none, .drop [25]),
 (none, .mv 27 (.tmp 26)),
 (none, .drop [26]),
 ((some (27, true)), .mv 28 (.tmp 0)),
 ((some (27, true)), .mv 29 (.tmp 10)),
 ((some (27, true)), .ia 30 6 (.tmp 28) (.tmp 29)),
 ((some (27, true)), .fa 31 1 (.tmp 30)),
 (none, .drop [30]),
 ((some (27, true)), .ld 32 none (.tmp 31)),
 (none, .drop [28, 29, 31]),
 ((some (27, true)), .mv 33 (.tmp 2)),
 ((some (27, true)), .bin 34 .num .eql (.tmp 32) (.tmp 33)),
 (none, .drop [32, 33]),
 (none, .pick 35 (.tmp 27) (.tmp 34) (.k (.bool false))),
 (none, .drop [27, 34]),
 (none, .mv 36 (.tmp 35)),
 (none, .drop [35]),
 ((some (36, true)), .mv 37 (.tmp 1)),
 ((some (36, true)), .mv 38 (.tmp 10)),
 ((some (36, true)), .call 39 x_spec_l24Done [(.tmp 37), (.tmp 38)]),
 (none, .drop [37, 38]),
 (none, .pick 40 (.tmp 36) (.tmp 39) (.k (.bool false)))] [0, 1, 2, 8, 10, 40]) (.cond 40 [0, 8, 9, 10] [0, 1, 2, 8, 9, 10] (.seq (.region [(none, .mv 41 (.tmp 0)),
 (none, .mv 42 (.tmp 10)),
 (none, .drop [10]),
 (none, .ia 43 6 (.tmp 41) (.tmp 42)),
 (none, .ld 44 (some 6) (.tmp 43)),
 (none, .drop [0, 41, 42, 43]),
 (none, .st 6 (.tmp 8) (.tmp 44)),
 (none, .drop [44]),
 (none, .as 9 (.k (.bool true)))] [8, 9]) (.ret)) (.skip)))) (.region [(none, .mv 19 (.tmp 10)),
 (none, .drop [10]),
 (none, .bin 20 .num .sub (.tmp 19) (.k (.int .i64 1))),
 (none, .drop [19]),
 (none, .as 10 (.tmp 20))] [0, 1, 2, 8, 10])))))) (.seq (.region [(none, .build 45 [.int .i64 0, .int .i64 0, .int .i64 0, .int .i64 0, .int .i64 0, .int .i64 0] []),
 (none, .st 6 (.tmp 8) (.tmp 45)),
 (none, .drop [45]),
 (none, .as 9 (.k (.bool false)))] [8, 9]) (.ret))))
@[simp] theorem x_spec_JoinOf_m : modes x_spec_JoinOf = [.v, .v, .v, .v] := rfl
@[simp] def d_spec_JoinOf_j1 : Option (GReq × Bool) :=
  some ((GReq.mk 0 0 0 0 0 0), false)
@[simp] def d_spec_JoinOf_j2 (p0 : List GReq) (v10_5 : Int) (L1 : Int → Option (GReq × Bool)) (j40_7 : Bool) : Option (GReq × Bool) :=
  if j40_7 = true then
      (at? p0 v10_5).bind fun x9 =>
      some (x9, true)
    else L1 (w64 (v10_5 - 1))
def d_spec_JoinOf_l1 (p0 : List GReq) (p2 : Int) (p1 : List GReply) : Nat → Int → Option (GReq × Bool)
  | 0, _ => none
  | n1 + 1, v10_5 => if (decide (v10_5 ≥ 0)) = true then
      (at? p0 v10_5).bind fun x11 =>
      if (x11.Kind == 1) = true then
        if (x11.Id == p2) = true then
          (d_spec_l24Done p1 v10_5).bind fun v15 =>
          (d_spec_JoinOf_j2 p0 v10_5 (d_spec_JoinOf_l1 p0 p2 p1 n1)) v15
        else (d_spec_JoinOf_j2 p0 v10_5 (d_spec_JoinOf_l1 p0 p2 p1 n1)) false
      else (d_spec_JoinOf_j2 p0 v10_5 (d_spec_JoinOf_l1 p0 p2 p1 n1)) false
    else d_spec_JoinOf_j1
def d_spec_JoinOf (p0 : List GReq) (p1 : List GReply) (p2 : Int) (p3 : Int) : Option (GReq × Bool) :=
  (d_spec_l1Min p3 (p0.length : Int)).bind fun v1 =>
  (d_spec_l1Max 0 v1).bind fun v3 =>
  d_spec_JoinOf_l1 p0 p2 p1 big (w64 (v3 - 1))
theorem run_spec_JoinOf {p0 : List GReq} {p1 : List GReply} {p2 : Int} {p3 : Int} {r : GReq × Bool} (h : d_spec_JoinOf p0 p1 p2 p3 = some r) : Runs x_spec_JoinOf [.v .one [.sl 6 (p0.map eGReq)], .v .one [.sl 2 (p1.map eGReply)], .v .one [eI p2], .v .one [eI p3]] (.tup [some 6, none]) [eI r.1.Kind, eI r.1.Id, eI r.1.Cabin, eI r.1.From, eI r.1.Size, eI r.1.Tier, .bool r.2] [] := by
  refine Runs.mk (by simp <;> rfl) ?_ (by simp)
  rw [d_spec_JoinOf] at h
  refine w_seq ?_
  refine w_reg ?_
  refine k_run 2 (by simp <;> rfl) ?_
  refine k_nil ?_
  refine w_cut (fun x : Unit => ⟨[(8, ⟨.one, [.bp 8 0]⟩)], [(8, [.t (eI 0), .t (eI 0), .t (eI 0), .t (eI 0), .t (eI 0), .t (eI 0)])], []⟩) (fun x => d_spec_JoinOf_j1 = some r) (fun x h => ?_) ?_
  · replace h : d_spec_JoinOf_j1 = some r := h
    rw [d_spec_JoinOf_j1] at h
    refine w_seq ?_
    refine w_reg ?_
    refine k_run 4 (by simp <;> rfl) ?_
    refine k_nil ?_
    refine w_st (by simp <;> rfl) ?_
    refine w_ret ?_
    obtain rfl := Option.some.inj h
    simp
  refine w_seq ?_
  refine w_st (by simp <;> rfl) ?_
  refine w_reg ?_
  refine k_run 5 (by simp <;> rfl) ?_
  obtain ⟨v1, hv2, h⟩ := ob h
  apply k_call (by simp <;> rfl) (by simp <;> rfl)
  · first | exact run_spec_l1Min hv2 | simpa using run_spec_l1Min hv2
  · simp <;> rfl
  refine k_run 1 (by simp <;> rfl) ?_
  obtain ⟨v3, hv4, h⟩ := ob h
  apply k_call (by simp <;> rfl) (by simp <;> rfl)
  · first | exact run_spec_l1Max hv4 | simpa using run_spec_l1Max hv4
  · simp <;> rfl
  refine k_run 4 (by simp <;> rfl) ?_
  refine k_nil ?_
  refine w_block ?_
  refine w_fuel (fun x : Int => ⟨[(0, ⟨.one, [.vw (.old 0) 6 (p0.map eGReq)]⟩), (1, ⟨.one, [.vw (.old 1) 2 (p1.map eGReply)]⟩), (2, ⟨.one, [.t (eI p2)]⟩), (8, ⟨.one, [.bp 8 0]⟩), (10, ⟨.one, [.t (eI x)]⟩)], [(8, [.t (eI 0), .t (eI 0), .t (eI 0), .t (eI 0), .t (eI 0), .t (eI 0)])], []⟩) (fun n1 x => d_spec_JoinOf_l1 p0 p2 p1 n1 x) (n := big) (x := (w64 (v3 - 1))) (fun n1 v10_5 h T ih1 => ?_) (fun x h => by simp [d_spec_JoinOf_l1] at h) (by simp) h
  replace h : d_spec_JoinOf_l1 p0 p2 p1 (n1 + 1) v10_5 = some r := h
  rw [d_spec_JoinOf_l1] at h
  iterate 2 refine w_seq ?_
  refine w_reg ?_
  refine k_run 2 (by simp <;> rfl) ?_
  refine k_nil ?_
  refine w_st (by simp <;> rfl) ?_
  rcases oif' h with ⟨hb6, h⟩ | ⟨hb6, h⟩
  · replace hb6 := eq_false_of_ne_true hb6
    have hb6s := hb6; try simp at hb6s
    refine w_false (by simp [hb6, hb6s]) ?_
    refine w_exit ?_
    refine x_here ?_
    exact ⟨(), by simp [hb6, hb6s], h⟩
  have hb6s := hb6; try simp at hb6s
  refine w_true (by simp [hb6, hb6s]) ?_
  refine w_skip ?_
  refine w_seq ?_
  refine w_block ?_
  refine w_cut (fun x : Bool => ⟨[(0, ⟨.one, [.vw (.old 0) 6 (p0.map eGReq)]⟩), (1, ⟨.one, [.vw (.old 1) 2 (p1.map eGReply)]⟩), (2, ⟨.one, [.t (eI p2)]⟩), (8, ⟨.one, [.bp 8 0]⟩), (10, ⟨.one, [.t (eI v10_5)]⟩), (40, ⟨.one, [.t (.bool x)]⟩)], [(8, [.t (eI 0), .t (eI 0), .t (eI 0), .t (eI 0), .t (eI 0), .t (eI 0)])], []⟩) (fun x => (d_spec_JoinOf_j2 p0 v10_5 (d_spec_JoinOf_l1 p0 p2 p1 n1)) x = some r) (fun j40_7 h => ?_) ?_
  · replace h : (d_spec_JoinOf_j2 p0 v10_5 (d_spec_JoinOf_l1 p0 p2 p1 n1)) j40_7 = some r := h
    rw [d_spec_JoinOf_j2] at h
    rcases oif' h with ⟨hb8, h⟩ | ⟨hb8, h⟩
    · replace hb8 := eq_false_of_ne_true hb8
      have hb8s := hb8; try simp at hb8s
      refine w_false (by simp [hb8, hb8s]) ?_
      refine w_skip ?_
      refine w_st (by simp <;> rfl) ?_
      refine w_reg ?_
      refine k_run 5 (by simp <;> rfl) ?_
      refine k_nil ?_
      refine t_st (T := T) ?_ (ih1 _ h)
      simp [hb6, hb6s, hb8, hb8s]
    have hb8s := hb8; try simp at hb8s
    refine w_true (by simp [hb8, hb8s]) ?_
    refine w_seq ?_
    refine w_st (by simp <;> rfl) ?_
    refine w_reg ?_
    refine k_run 3 (by simp <;> rfl) ?_
    obtain ⟨x9, hx10, h⟩ := ob h
    obtain ⟨hx10_0, hx10_1, hx10_2, hx10_3, hx10_4⟩ := at_facts hx10
    refine k_run 6 (by simp [hx10_0, hx10_1, hx10_2, hx10_3, hx10_4] <;> rfl) ?_
    refine k_nil ?_
    refine w_st (by simp <;> rfl) ?_
    refine w_ret ?_
    obtain rfl := Option.some.inj h
    simp [hx10_0, hx10_1, hx10_2, hx10_3, hx10_4, hb6, hb6s, hb8, hb8s]
  refine w_st (by simp <;> rfl) ?_
  refine w_reg ?_
  refine k_run 2 (by simp <;> rfl) ?_
  obtain ⟨x11, hx12, h⟩ := ob h
  obtain ⟨hx12_0, hx12_1, hx12_2, hx12_3, hx12_4⟩ := at_facts hx12
  refine k_run 9 (by simp [hx12_0, hx12_1, hx12_2, hx12_3, hx12_4] <;> rfl) ?_
  rcases oif' h with ⟨hb13, h⟩ | ⟨hb13, h⟩
  · replace hb13 := eq_false_of_ne_true hb13
    have hb13s := hb13; try simp at hb13s
    refine k_run 19 (by simp [hb13, hx12_0, hx12_1, hx12_2, hx12_3, hx12_4] <;> rfl) ?_
    refine k_nil ?_
    exact ⟨false, by simp [hx12_0, hx12_1, hx12_2, hx12_3, hx12_4, hb6, hb6s, hb13, hb13s], h⟩
  have hb13s := hb13; try simp at hb13s
  refine k_run 14 (by simp [hb13, hx12_0, hx12_1, hx12_2, hx12_3, hx12_4] <;> rfl) ?_
  rcases oif' h with ⟨hb14, h⟩ | ⟨hb14, h⟩
  · replace hb14 := eq_false_of_ne_true hb14
    have hb14s := hb14; try simp at hb14s
    refine k_run 5 (by simp [hb14, hx12_0, hx12_1, hx12_2, hx12_3, hx12_4] <;> rfl) ?_
    refine k_nil ?_
    exact ⟨false, by simp [hx12_0, hx12_1, hx12_2, hx12_3, hx12_4, hb6, hb6s, hb13, hb13s, hb14, hb14s], h⟩
  have hb14s := hb14; try simp at hb14s
  refine k_run 2 (by simp [hb14] <;> rfl) ?_
  obtain ⟨v15, hv16, h⟩ := ob h
  apply k_callg (by simp [hb14]) (by simp [hx12_0, hx12_1, hx12_2, hx12_3, hx12_4] <;> rfl) (by simp [hx12_0, hx12_1, hx12_2, hx12_3, hx12_4] <;> rfl)
  · first | exact run_spec_l24Done hv16 | simpa [hx12_0, hx12_1, hx12_2, hx12_3, hx12_4] using run_spec_l24Done hv16
  · simp [hx12_0, hx12_1, hx12_2, hx12_3, hx12_4] <;> rfl
  refine k_run 2 (by simp [hx12_0, hx12_1, hx12_2, hx12_3, hx12_4, hb14] <;> rfl) ?_
  refine k_nil ?_
  exact ⟨v15, by simp [hx12_0, hx12_1, hx12_2, hx12_3, hx12_4, hb6, hb6s, hb13, hb13s, hb14, hb14s], h⟩

/-- impl.JoinOf -/
def x_impl_JoinOf : XFunc := .mk [.v, .v, .v, .v] [.cell 8 (some 6), .tmp 9] (.seq (.region [(none, .alloc 8 [.int .i64 0, .int .i64 0, .int .i64 0, .int .i64 0, .int .i64 0, .int .i64 0]),
 (none, .as 9 (.k (.bool false)))] [0, 1, 2, 3, 8]) (.seq (.seq (.region [(none, .mv 11 (.tmp 3)),
 (none, .drop [3]),
 (none, .mm 12 true (.tmp 11) (.k (.int .i64 0))),
 (none, .drop [11]),
 (none, .mv 13 (.tmp 0)),
 (none, .len 14 (.tmp 13)),
 (none, .drop [13]),
 (none, .mm 15 false (.tmp 12) (.tmp 14)),
 (none, .drop [12, 14]),
 (none, .bin 16 .num .sub (.tmp 15) (.k (.int .i64 1))),
 (none, .drop [15]),
 (none, .as 10 (.tmp 16))] [0, 1, 2, 8, 10]) (.block 0 (.loop (.seq (.seq (.region [(none, .mv 17 (.tmp 10)),
 (none, .bin 18 .num .geq (.tmp 17) (.k (.int .i64 0)))] [0, 1, 2, 8, 10, 18]) (.cond 18 [0, 1, 2, 8, 9, 10] [8, 9] (.skip) (.exit 0))) (.seq (.block 1 (.seq (.region [(none, .mv 21 (.tmp 0)),
 (none, .mv 22 (.tmp 10)),
 (none, .ia 23 6 (.tmp 21) (.tmp 22)),
 (none, .fa 24 1 (.tmp 23)),
 (none, .drop [23]),
 (none, .ld 25 none (.tmp 24)),
 (none, .drop [21, 22, 24]),
 (none, .mv 26 (.tmp 2)),
 (none, .bin 27 .num .eql (.tmp 25) (.tmp 26)),
 (none, .drop [25, 26]),
 (none, .mv 28 (.tmp 27)),
 (none, .drop [27]),
 ((some (28, true)), .mv 29 (.tmp 0)),
 ((some (28, true)), .mv 30 (.tmp 1)),
 ((some (28, true)), .mv 31 (.tmp 10)),
 ((some (28, true)), .call 32 x_impl_successful [(.tmp 29), (.tmp 30), (.tmp 31), (.k (.int .i64 1))]),
 (none, .drop [29, 30, 31]),
 (none, .pick 33 (.tmp 28) (.tmp 32) (.k (.bool false)))] [0, 1, 2, 8, 10, 33]) (.cond 33 [0, 8, 9, 10] [0, 1, 2, 8, 9, 10] (.seq (.region [(none, .mv 34 (.tmp 0)),
 (none, .mv 35 (.tmp 10)),
 (none, .drop [10]),
 (none, .ia 36 6 (.tmp 34) (.tmp 35)),
 (none, .ld 37 (some 6) (.tmp 36)),
 (none, .drop [0, 34, 35, 36]),
 (none, .st 6 (.tmp 8) (.tmp 37)),
 (none, .drop [37]),
 (none, .as 9 (.k (.bool true)))] [8, 9]) (.ret)) (.skip)))) (.region [(none, .mv 19 (.tmp 10)),
 (none, .drop [10]),
 (none, .bin 20 .num .sub (.tmp 19) (.k (.int .i64 1))),
 (none, .drop [19]),
 (none, .as 10 (.tmp 20))] [0, 1, 2, 8, 10])))))) (.seq (.region [(none, .build 38 [.int .i64 0, .int .i64 0, .int .i64 0, .int .i64 0, .int .i64 0, .int .i64 0] []),
 (none, .st 6 (.tmp 8) (.tmp 38)),
 (none, .drop [38]),
 (none, .as 9 (.k (.bool false)))] [8, 9]) (.ret))))
@[simp] theorem x_impl_JoinOf_m : modes x_impl_JoinOf = [.v, .v, .v, .v] := rfl
@[simp] def d_impl_JoinOf_j1 : Option (GReq × Bool) :=
  some ((GReq.mk 0 0 0 0 0 0), false)
@[simp] def d_impl_JoinOf_j2 (p0 : List GReq) (v10_1 : Int) (L1 : Int → Option (GReq × Bool)) (j33_3 : Bool) : Option (GReq × Bool) :=
  if j33_3 = true then
      (at? p0 v10_1).bind fun x5 =>
      some (x5, true)
    else L1 (w64 (v10_1 - 1))
def d_impl_JoinOf_l1 (p0 : List GReq) (p2 : Int) (p1 : List GReply) : Nat → Int → Option (GReq × Bool)
  | 0, _ => none
  | n1 + 1, v10_1 => if (decide (v10_1 ≥ 0)) = true then
      (at? p0 v10_1).bind fun x7 =>
      if (x7.Id == p2) = true then
        (d_impl_successful p0 p1 v10_1 1).bind fun v10 =>
        (d_impl_JoinOf_j2 p0 v10_1 (d_impl_JoinOf_l1 p0 p2 p1 n1)) v10
      else (d_impl_JoinOf_j2 p0 v10_1 (d_impl_JoinOf_l1 p0 p2 p1 n1)) false
    else d_impl_JoinOf_j1
def d_impl_JoinOf (p0 : List GReq) (p1 : List GReply) (p2 : Int) (p3 : Int) : Option (GReq × Bool) :=
  d_impl_JoinOf_l1 p0 p2 p1 big (w64 ((if (p0.length : Int) < (if 0 > p3 then 0 else p3) then (p0.length : Int) else (if 0 > p3 then 0 else p3)) - 1))
theorem run_impl_JoinOf {p0 : List GReq} {p1 : List GReply} {p2 : Int} {p3 : Int} {r : GReq × Bool} (h : d_impl_JoinOf p0 p1 p2 p3 = some r) : Runs x_impl_JoinOf [.v .one [.sl 6 (p0.map eGReq)], .v .one [.sl 2 (p1.map eGReply)], .v .one [eI p2], .v .one [eI p3]] (.tup [some 6, none]) [eI r.1.Kind, eI r.1.Id, eI r.1.Cabin, eI r.1.From, eI r.1.Size, eI r.1.Tier, .bool r.2] [] := by
  refine Runs.mk (by simp <;> rfl) ?_ (by simp)
  rw [d_impl_JoinOf] at h
  refine w_seq ?_
  refine w_reg ?_
  refine k_run 2 (by simp <;> rfl) ?_
  refine k_nil ?_
  refine w_cut (fun x : Unit => ⟨[(8, ⟨.one, [.bp 8 0]⟩)], [(8, [.t (eI 0), .t (eI 0), .t (eI 0), .t (eI 0), .t (eI 0), .t (eI 0)])], []⟩) (fun x => d_impl_JoinOf_j1 = some r) (fun x h => ?_) ?_
  · replace h : d_impl_JoinOf_j1 = some r := h
    rw [d_impl_JoinOf_j1] at h
    refine w_seq ?_
    refine w_reg ?_
    refine k_run 4 (by simp <;> rfl) ?_
    refine k_nil ?_
    refine w_st (by simp <;> rfl) ?_
    refine w_ret ?_
    obtain rfl := Option.some.inj h
    simp
  refine w_seq ?_
  refine w_st (by simp <;> rfl) ?_
  refine w_reg ?_
  refine k_run 12 (by simp <;> rfl) ?_
  refine k_nil ?_
  refine w_block ?_
  refine w_fuel (fun x : Int => ⟨[(0, ⟨.one, [.vw (.old 0) 6 (p0.map eGReq)]⟩), (1, ⟨.one, [.vw (.old 1) 2 (p1.map eGReply)]⟩), (2, ⟨.one, [.t (eI p2)]⟩), (8, ⟨.one, [.bp 8 0]⟩), (10, ⟨.one, [.t (eI x)]⟩)], [(8, [.t (eI 0), .t (eI 0), .t (eI 0), .t (eI 0), .t (eI 0), .t (eI 0)])], []⟩) (fun n1 x => d_impl_JoinOf_l1 p0 p2 p1 n1 x) (n := big) (x := (w64 ((if (p0.length : Int) < (if 0 > p3 then 0 else p3) then (p0.length : Int) else (if 0 > p3 then 0 else p3)) - 1))) (fun n1 v10_1 h T ih1 => ?_) (fun x h => by simp [d_impl_JoinOf_l1] at h) (by simp) h
  replace h : d_impl_JoinOf_l1 p0 p2 p1 (n1 + 1) v10_1 = some r := h
  rw [d_impl_JoinOf_l1] at h
  iterate 2 refine w_seq ?_
  refine w_reg ?_
  refine k_run 2 (by simp <;> rfl) ?_
  refine k_nil ?_
  refine w_st (by simp <;> rfl) ?_
  rcases oif' h with ⟨hb2, h⟩ | ⟨hb2, h⟩
  · replace hb2 := eq_false_of_ne_true hb2
    have hb2s := hb2; try simp at hb2s
    refine w_false (by simp [hb2, hb2s]) ?_
    refine w_exit ?_
    refine x_here ?_
    exact ⟨(), by simp [hb2, hb2s], h⟩
  have hb2s := hb2; try simp at hb2s
  refine w_true (by simp [hb2, hb2s]) ?_
  refine w_skip ?_
  refine w_seq ?_
  refine w_block ?_
  refine w_cut (fun x : Bool => ⟨[(0, ⟨.one, [.vw (.old 0) 6 (p0.map eGReq)]⟩), (1, ⟨.one, [.vw (.old 1) 2 (p1.map eGReply)]⟩), (2, ⟨.one, [.t (eI p2)]⟩), (8, ⟨.one, [.bp 8 0]⟩), (10, ⟨.one, [.t (eI v10_1)]⟩), (33, ⟨.one, [.t (.bool x)]⟩)], [(8, [.t (eI 0), .t (eI 0), .t (eI 0), .t (eI 0), .t (eI 0), .t (eI 0)])], []⟩) (fun x => (d_impl_JoinOf_j2 p0 v10_1 (d_impl_JoinOf_l1 p0 p2 p1 n1)) x = some r) (fun j33_3 h => ?_) ?_
  · replace h : (d_impl_JoinOf_j2 p0 v10_1 (d_impl_JoinOf_l1 p0 p2 p1 n1)) j33_3 = some r := h
    rw [d_impl_JoinOf_j2] at h
    rcases oif' h with ⟨hb4, h⟩ | ⟨hb4, h⟩
    · replace hb4 := eq_false_of_ne_true hb4
      have hb4s := hb4; try simp at hb4s
      refine w_false (by simp [hb4, hb4s]) ?_
      refine w_skip ?_
      refine w_st (by simp <;> rfl) ?_
      refine w_reg ?_
      refine k_run 5 (by simp <;> rfl) ?_
      refine k_nil ?_
      refine t_st (T := T) ?_ (ih1 _ h)
      simp [hb2, hb2s, hb4, hb4s]
    have hb4s := hb4; try simp at hb4s
    refine w_true (by simp [hb4, hb4s]) ?_
    refine w_seq ?_
    refine w_st (by simp <;> rfl) ?_
    refine w_reg ?_
    refine k_run 3 (by simp <;> rfl) ?_
    obtain ⟨x5, hx6, h⟩ := ob h
    obtain ⟨hx6_0, hx6_1, hx6_2, hx6_3, hx6_4⟩ := at_facts hx6
    refine k_run 6 (by simp [hx6_0, hx6_1, hx6_2, hx6_3, hx6_4] <;> rfl) ?_
    refine k_nil ?_
    refine w_st (by simp <;> rfl) ?_
    refine w_ret ?_
    obtain rfl := Option.some.inj h
    simp [hx6_0, hx6_1, hx6_2, hx6_3, hx6_4, hb2, hb2s, hb4, hb4s]
  refine w_st (by simp <;> rfl) ?_
  refine w_reg ?_
  refine k_run 2 (by simp <;> rfl) ?_
  obtain ⟨x7, hx8, h⟩ := ob h
  obtain ⟨hx8_0, hx8_1, hx8_2, hx8_3, hx8_4⟩ := at_facts hx8
  refine k_run 10 (by simp [hx8_0, hx8_1, hx8_2, hx8_3, hx8_4] <;> rfl) ?_
  rcases oif' h with ⟨hb9, h⟩ | ⟨hb9, h⟩
  · replace hb9 := eq_false_of_ne_true hb9
    have hb9s := hb9; try simp at hb9s
    refine k_run 6 (by simp [hb9, hx8_0, hx8_1, hx8_2, hx8_3, hx8_4] <;> rfl) ?_
    refine k_nil ?_
    exact ⟨false, by simp [hx8_0, hx8_1, hx8_2, hx8_3, hx8_4, hb2, hb2s, hb9, hb9s], h⟩
  have hb9s := hb9; try simp at hb9s
  refine k_run 3 (by simp [hb9] <;> rfl) ?_
  obtain ⟨v10, hv11, h⟩ := ob h
  apply k_callg (by simp [hb9]) (by simp [hx8_0, hx8_1, hx8_2, hx8_3, hx8_4] <;> rfl) (by simp [hx8_0, hx8_1, hx8_2, hx8_3, hx8_4] <;> rfl)
  · first | exact run_impl_successful hv11 | simpa [hx8_0, hx8_1, hx8_2, hx8_3, hx8_4] using run_impl_successful hv11
  · simp [hx8_0, hx8_1, hx8_2, hx8_3, hx8_4] <;> rfl
  refine k_run 2 (by simp [hx8_0, hx8_1, hx8_2, hx8_3, hx8_4, hb9] <;> rfl) ?_
  refine k_nil ?_
  exact ⟨v10, by simp [hx8_0, hx8_1, hx8_2, hx8_3, hx8_4, hb2, hb2s, hb9, hb9s], h⟩

/-- laws.FnExactJoinOf -/
def x_laws_FnExactJoinOf : XFunc := .mk [.v, .v, .v, .v] [.tmp 8] (.seq (.region [(none, .as 8 (.k (.bool false)))] [0, 1, 2, 3]) (.seq (.region [(none, .as 9 (.k (.int .i64 1048576)))] [0, 1, 2, 3, 9]) (.seq (.region [(none, .mv 16 (.tmp 0)),
 (none, .mv 17 (.tmp 9)),
 (none, .drop [9]),
 (none, .call 18 x_laws_szReqS [(.tmp 16), (.tmp 17)]),
 (none, .drop [16, 17]),
 (none, .as 9 (.tmp 18))] [0, 1, 2, 3, 9]) (.seq (.seq (.region [(none, .mv 19 (.tmp 9)),
 (none, .bin 20 .num .lss (.tmp 19) (.k (.int .i64 0)))] [0, 1, 2, 3, 9, 20]) (.cond 20 [8] [0, 1, 2, 3, 8, 9] (.seq (.region [(none, .as 8 (.k (.bool true)))] [8]) (.ret)) (.skip))) (.seq (.region [(none, .mv 21 (.tmp 1)),
 (none, .mv 22 (.tmp 9)),
 (none, .drop [9]),
 (none, .call 23 x_laws_szReplyS [(.tmp 21), (.tmp 22)]),
 (none, .drop [21, 22]),
 (none, .as 9 (.tmp 23))] [0, 1, 2, 3, 9]) (.seq (.seq (.region [(none, .mv 24 (.tmp 9)),
 (none, .drop [9]),
 (none, .bin 25 .num .lss (.tmp 24) (.k (.int .i64 0)))] [0, 1, 2, 3, 25]) (.cond 25 [8] [0, 1, 2, 3, 8] (.seq (.region [(none, .as 8 (.k (.bool true)))] [8]) (.ret)) (.skip))) (.seq (.region [(none, .mv 27 (.tmp 0)),
 (none, .call 28 x_laws_toReqS [(.tmp 27)]),
 (none, .drop [27]),
 (none, .mv 29 (.tmp 1)),
 (none, .call 30 x_laws_toReplyS [(.tmp 29)]),
 (none, .drop [29]),
 (none, .mv 31 (.tmp 2)),
 (none, .mv 32 (.tmp 3)),
 (none, .call 33 x_spec_JoinOf [(.tmp 28), (.tmp 30), (.tmp 31), (.tmp 32)]),
 (none, .drop [28, 30, 31, 32]),
 (none, .mv 26 (.tmp 33)),
 (none, .ext 34 (.tmp 26) 0),
 (none, .ext 35 (.tmp 26) 1),
 (none, .drop [26, 33]),
 (none, .alloc 10 [.int .i64 0, .int .i64 0, .int .i64 0, .int .i64 0, .int .i64 0, .int .i64 0]),
 (none, .st 6 (.tmp 10) (.tmp 34)),
 (none, .drop [34]),
 (none, .as 11 (.tmp 35))] [0, 1, 2, 3, 10, 11]) (.seq (.region [(none, .mv 36 (.tmp 0)),
 (none, .call 37 x_laws_toReqS [(.tmp 36)]),
 (none, .drop [36]),
 (none, .as 12 (.tmp 37))] [0, 1, 2, 3, 10, 11, 12]) (.seq (.region [(none, .mv 38 (.tmp 1)),
 (none, .call 39 x_laws_toReplyS [(.tmp 38)]),
 (none, .drop [38]),
 (none, .as 13 (.tmp 39))] [0, 1, 2, 3, 10, 11, 12, 13]) (.seq (.region [(none, .mv 41 (.tmp 12)),
 (none, .mv 42 (.tmp 13)),
 (none, .mv 43 (.tmp 2)),
 (none, .drop [2]),
 (none, .mv 44 (.tmp 3)),
 (none, .drop [3]),
 (none, .call 45 x_impl_JoinOf [(.tmp 41), (.tmp 42), (.tmp 43), (.tmp 44)]),
 (none, .drop [41, 42, 43, 44]),
 (none, .mv 40 (.tmp 45)),
 (none, .ext 46 (.tmp 40) 0),
 (none, .ext 47 (.tmp 40) 1),
 (none, .drop [40, 45]),
 (none, .alloc 14 [.int .i64 0, .int .i64 0, .int .i64 0, .int .i64 0, .int .i64 0, .int .i64 0]),
 (none, .st 6 (.tmp 14) (.tmp 46)),
 (none, .drop [46]),
 (none, .as 15 (.tmp 47))] [0, 1, 10, 11, 12, 13, 14, 15]) (.seq (.seq (.region [(none, .ld 48 (some 6) (.tmp 14)),
 (none, .drop [14]),
 (none, .ld 49 (some 6) (.tmp 10)),
 (none, .drop [10]),
 (none, .call 50 x_laws_eqReq [(.tmp 48), (.tmp 49)]),
 (none, .drop [48, 49]),
 (none, .un 51 .not (.tmp 50)),
 (none, .drop [50]),
 (none, .mv 52 (.tmp 51)),
 (none, .drop [51]),
 ((some (52, false)), .mv 53 (.tmp 15)),
 (none, .drop [15]),
 ((some (52, false)), .mv 54 (.tmp 11)),
 (none, .drop [11]),
 ((some (52, false)), .bin 55 .bool .neq (.tmp 53) (.tmp 54)),
 (none, .drop [53, 54]),
 (none, .pick 56 (.tmp 52) (.k (.bool true)) (.tmp 55))] [0, 1, 12, 13, 56]) (.cond 56 [8] [0, 1, 8, 12, 13] (.seq (.region [(none, .as 8 (.k (.bool false)))] [8]) (.ret)) (.skip))) (.seq (.seq (.region [(none, .mv 57 (.tmp 12)),
 (none, .mv 58 (.tmp 0)),
 (none, .call 59 x_laws_toReqS [(.tmp 58)]),
 (none, .drop [0, 58]),
 (none, .call 60 x_laws_eqReqS [(.tmp 57), (.tmp 59)]),
 (none, .drop [12, 57, 59]),
 (none, .un 61 .not (.tmp 60))] [1, 13, 61]) (.cond 61 [8] [1, 8, 13] (.seq (.region [(none, .as 8 (.k (.bool false)))] [8]) (.ret)) (.skip))) (.seq (.seq (.region [(none, .mv 62 (.tmp 13)),
 (none, .mv 63 (.tmp 1)),
 (none, .call 64 x_laws_toReplyS [(.tmp 63)]),
 (none, .drop [1, 63]),
 (none, .call 65 x_laws_eqReplyS [(.tmp 62), (.tmp 64)]),
 (none, .drop [13, 62, 64]),
 (none, .un 66 .not (.tmp 65))] [66]) (.cond 66 [8] [8] (.seq (.region [(none, .as 8 (.k (.bool false)))] [8]) (.ret)) (.skip))) (.seq (.region [(none, .as 8 (.k (.bool true)))] [8]) (.ret)))))))))))))))
@[simp] theorem x_laws_FnExactJoinOf_m : modes x_laws_FnExactJoinOf = [.v, .v, .v, .v] := rfl
@[simp] def d_laws_FnExactJoinOf_j1 (p0 : List GReq) (v13 : List GReq) (p1 : List GReply) (v15 : List GReply) (j56_19 : Bool) : Option Bool :=
  if j56_19 = true then
      some false
    else (d_laws_toReqS p0).bind fun v21 =>
    (d_laws_eqReqS v13 v21).bind fun v23 =>
    if (!v23) = true then
      some false
    else (d_laws_toReplyS p1).bind fun v26 =>
    (d_laws_eqReplyS v15 v26).bind fun v28 =>
    if (!v28) = true then
      some false
    else some true
def d_laws_FnExactJoinOf (p0 : List GReq) (p1 : List GReply) (p2 : Int) (p3 : Int) : Option Bool :=
  (d_laws_szReqS p0 1048576).bind fun v1 =>
  if (decide (v1 < 0)) = true then
    some true
  else (d_laws_szReplyS p1 v1).bind fun v4 =>
  if (decide (v4 < 0)) = true then
    some true
  else (d_laws_toReqS p0).bind fun v7 =>
  (d_laws_toReplyS p1).bind fun v9 =>
  (d_spec_JoinOf v7 v9 p2 p3).bind fun v11 =>
  (d_laws_toReqS p0).bind fun v13 =>
  (d_laws_toReplyS p1).bind fun v15 =>
  (d_impl_JoinOf v13 v15 p2 p3).bind fun v17 =>
  (d_laws_eqReq v17.1 v11.1).bind fun v31 =>
  if (!v31) = true then
    (d_laws_FnExactJoinOf_j1 p0 v13 p1 v15) true
  else (d_laws_FnExactJoinOf_j1 p0 v13 p1 v15) (!(v17.2 == v11.2))
theorem run_laws_FnExactJoinOf {p0 : List GReq} {p1 : List GReply} {p2 : Int} {p3 : Int} {r : Bool} (h : d_laws_FnExactJoinOf p0 p1 p2 p3 = some r) : Runs x_laws_FnExactJoinOf [.v .one [.sl 6 (p0.map eGReq)], .v .one [.sl 2 (p1.map eGReply)], .v .one [eI p2], .v .one [eI p3]] .one [.bool r] [] := by
  refine Runs.mk (by simp <;> rfl) ?_ (by simp)
  rw [d_laws_FnExactJoinOf] at h
  refine w_seq ?_
  refine w_reg ?_
  refine k_run 1 (by simp <;> rfl) ?_
  refine k_nil ?_
  refine w_seq ?_
  refine w_st (by simp <;> rfl) ?_
  refine w_reg ?_
  refine k_run 1 (by simp <;> rfl) ?_
  refine k_nil ?_
  refine w_seq ?_
  refine w_st (by simp <;> rfl) ?_
  refine w_reg ?_
  refine k_run 3 (by simp <;> rfl) ?_
  obtain ⟨v1, hv2, h⟩ := ob h
  apply k_call (by simp <;> rfl) (by simp <;> rfl)
  · first | exact run_laws_szReqS hv2 | simpa using run_laws_szReqS hv2
  · simp <;> rfl
  refine k_run 2 (by simp <;> rfl) ?_
  refine k_nil ?_
  iterate 2 refine w_seq ?_
  refine w_st (by simp <;> rfl) ?_
  refine w_reg ?_
  refine k_run 2 (by simp <;> rfl) ?_
  refine k_nil ?_
  refine w_st (by simp <;> rfl) ?_
  rcases oif h with ⟨hb3, h⟩ | ⟨hb3, h⟩
  · have hb3s := hb3; try simp at hb3s
    refine w_true (by simp [hb3, hb3s]) ?_
    refine w_seq ?_
    refine w_st (by simp <;> rfl) ?_
    refine w_reg ?_
    refine k_run 1 (by simp <;> rfl) ?_
    refine k_nil ?_
    refine w_st (by simp <;> rfl) ?_
    refine w_ret ?_
    obtain rfl := Option.some.inj h
    simp [hb3, hb3s]
  replace hb3 := eq_false_of_ne_true hb3
  have hb3s := hb3; try simp at hb3s
  refine w_false (by simp [hb3, hb3s]) ?_
  refine w_skip ?_
  refine w_seq ?_
  refine w_st (by simp <;> rfl) ?_
  refine w_reg ?_
  refine k_run 3 (by simp <;> rfl) ?_
  obtain ⟨v4, hv5, h⟩ := ob h
  apply k_call (by simp <;> rfl) (by simp <;> rfl)
  · first | exact run_laws_szReplyS hv5 | simpa using run_laws_szReplyS hv5
  · simp <;> rfl
  refine k_run 2 (by simp <;> rfl) ?_
  refine k_nil ?_
  iterate 2 refine w_seq ?_
  refine w_st (by simp <;> rfl) ?_
  refine w_reg ?_
  refine k_run 3 (by simp <;> rfl) ?_
  refine k_nil ?_
  refine w_st (by simp <;> rfl) ?_
  rcases oif h with ⟨hb6, h⟩ | ⟨hb6, h⟩
  · have hb6s := hb6; try simp at hb6s
    refine w_true (by simp [hb6, hb6s]) ?_
    refine w_seq ?_
    refine w_st (by simp <;> rfl) ?_
    refine w_reg ?_
    refine k_run 1 (by simp <;> rfl) ?_
    refine k_nil ?_
    refine w_st (by simp <;> rfl) ?_
    refine w_ret ?_
    obtain rfl := Option.some.inj h
    simp [hb3, hb3s, hb6, hb6s]
  replace hb6 := eq_false_of_ne_true hb6
  have hb6s := hb6; try simp at hb6s
  refine w_false (by simp [hb6, hb6s]) ?_
  refine w_skip ?_
  refine w_seq ?_
  refine w_st (by simp <;> rfl) ?_
  refine w_reg ?_
  refine k_run 1 (by simp <;> rfl) ?_
  obtain ⟨v7, hv8, h⟩ := ob h
  apply k_call (by simp <;> rfl) (by simp <;> rfl)
  · first | exact run_laws_toReqS hv8 | simpa using run_laws_toReqS hv8
  · simp <;> rfl
  refine k_run 2 (by simp <;> rfl) ?_
  obtain ⟨v9, hv10, h⟩ := ob h
  apply k_call (by simp <;> rfl) (by simp <;> rfl)
  · first | exact run_laws_toReplyS hv10 | simpa using run_laws_toReplyS hv10
  · simp <;> rfl
  refine k_run 3 (by simp <;> rfl) ?_
  obtain ⟨v11, hv12, h⟩ := ob h
  apply k_call (by simp <;> rfl) (by simp <;> rfl)
  · first | exact run_spec_JoinOf hv12 | simpa using run_spec_JoinOf hv12
  · simp <;> rfl
  refine k_run 9 (by simp <;> rfl) ?_
  refine k_nil ?_
  refine w_seq ?_
  refine w_st (by simp <;> rfl) ?_
  refine w_reg ?_
  refine k_run 1 (by simp <;> rfl) ?_
  obtain ⟨v13, hv14, h⟩ := ob h
  apply k_call (by simp <;> rfl) (by simp <;> rfl)
  · first | exact run_laws_toReqS hv14 | simpa using run_laws_toReqS hv14
  · simp <;> rfl
  refine k_run 2 (by simp <;> rfl) ?_
  refine k_nil ?_
  refine w_seq ?_
  refine w_st (by simp <;> rfl) ?_
  refine w_reg ?_
  refine k_run 1 (by simp <;> rfl) ?_
  obtain ⟨v15, hv16, h⟩ := ob h
  apply k_call (by simp <;> rfl) (by simp <;> rfl)
  · first | exact run_laws_toReplyS hv16 | simpa using run_laws_toReplyS hv16
  · simp <;> rfl
  refine k_run 2 (by simp <;> rfl) ?_
  refine k_nil ?_
  refine w_seq ?_
  refine w_st (by simp <;> rfl) ?_
  refine w_reg ?_
  refine k_run 6 (by simp <;> rfl) ?_
  obtain ⟨v17, hv18, h⟩ := ob h
  apply k_call (by simp <;> rfl) (by simp <;> rfl)
  · first | exact run_impl_JoinOf hv18 | simpa using run_impl_JoinOf hv18
  · simp <;> rfl
  refine k_run 9 (by simp <;> rfl) ?_
  refine k_nil ?_
  refine w_seq ?_
  refine w_cut (fun x : Bool => ⟨[(0, ⟨.one, [.vw (.old 0) 6 (p0.map eGReq)]⟩), (1, ⟨.one, [.vw (.old 1) 2 (p1.map eGReply)]⟩), (12, ⟨.one, [.ow (.sl 6 (v13.map eGReq))]⟩), (13, ⟨.one, [.ow (.sl 2 (v15.map eGReply))]⟩), (56, ⟨.one, [.t (.bool x)]⟩)], [], []⟩) (fun x => (d_laws_FnExactJoinOf_j1 p0 v13 p1 v15) x = some r) (fun j56_19 h => ?_) ?_
  · replace h : (d_laws_FnExactJoinOf_j1 p0 v13 p1 v15) j56_19 = some r := h
    rw [d_laws_FnExactJoinOf_j1] at h
    rcases oif h with ⟨hb20, h⟩ | ⟨hb20, h⟩
    · have hb20s := hb20; try simp at hb20s
      refine w_true (by simp [hb20, hb20s]) ?_
      refine w_seq ?_
      refine w_st (by simp <;> rfl) ?_
      refine w_reg ?_
      refine k_run 1 (by simp <;> rfl) ?_
      refine k_nil ?_
      refine w_st (by simp <;> rfl) ?_
      refine w_ret ?_
      obtain rfl := Option.some.inj h
      simp [hb3, hb3s, hb6, hb6s, hb20, hb20s]
    replace hb20 := eq_false_of_ne_true hb20
    have hb20s := hb20; try simp at hb20s
    refine w_false (by simp [hb20, hb20s]) ?_
    refine w_skip ?_
    iterate 2 refine w_seq ?_
    refine w_st (by simp <;> rfl) ?_
    refine w_reg ?_
    refine k_run 2 (by simp <;> rfl) ?_
    obtain ⟨v21, hv22, h⟩ := ob h
    apply k_call (by simp <;> rfl) (by simp <;> rfl)
    · first | exact run_laws_toReqS hv22 | simpa using run_laws_toReqS hv22
    · simp <;> rfl
    refine k_run 1 (by simp <;> rfl) ?_
    obtain ⟨v23, hv24, h⟩ := ob h
    apply k_call (by simp <;> rfl) (by simp <;> rfl)
    · first | exact run_laws_eqReqS hv24 | simpa using run_laws_eqReqS hv24
    · simp <;> rfl
    refine k_run 2 (by simp <;> rfl) ?_
    refine k_nil ?_
    refine w_st (by simp <;> rfl) ?_
    rcases oif h with ⟨hb25, h⟩ | ⟨hb25, h⟩
    · have hb25s := hb25; try simp at hb25s
      refine w_true (by simp [hb25, hb25s]) ?_
      refine w_seq ?_
      refine w_st (by simp <;> rfl) ?_
      refine w_reg ?_
      refine k_run 1 (by simp <;> rfl) ?_
      refine k_nil ?_
      refine w_st (by simp <;> rfl) ?_
      refine w_ret ?_
      obtain rfl := Option.some.inj h
      simp [hb3, hb3s, hb6, hb6s, hb20, hb20s, hb25, hb25s]
    replace hb25 := eq_false_of_ne_true hb25
    have hb25s := hb25; try simp at hb25s
    refine w_false (by simp [hb25, hb25s]) ?_
    refine w_skip ?_
    iterate 2 refine w_seq ?_
    refine w_st (by simp <;> rfl) ?_
    refine w_reg ?_
    refine k_run 2 (by simp <;> rfl) ?_
    obtain ⟨v26, hv27, h⟩ := ob h
    apply k_call (by simp <;> rfl) (by simp <;> rfl)
    · first | exact run_laws_toReplyS hv27 | simpa using run_laws_toReplyS hv27
    · simp <;> rfl
    refine k_run 1 (by simp <;> rfl) ?_
    obtain ⟨v28, hv29, h⟩ := ob h
    apply k_call (by simp <;> rfl) (by simp <;> rfl)
    · first | exact run_laws_eqReplyS hv29 | simpa using run_laws_eqReplyS hv29
    · simp <;> rfl
    refine k_run 2 (by simp <;> rfl) ?_
    refine k_nil ?_
    refine w_st (by simp <;> rfl) ?_
    rcases oif h with ⟨hb30, h⟩ | ⟨hb30, h⟩
    · have hb30s := hb30; try simp at hb30s
      refine w_true (by simp [hb30, hb30s]) ?_
      refine w_seq ?_
      refine w_st (by simp <;> rfl) ?_
      refine w_reg ?_
      refine k_run 1 (by simp <;> rfl) ?_
      refine k_nil ?_
      refine w_st (by simp <;> rfl) ?_
      refine w_ret ?_
      obtain rfl := Option.some.inj h
      simp [hb3, hb3s, hb6, hb6s, hb20, hb20s, hb25, hb25s, hb30, hb30s]
    replace hb30 := eq_false_of_ne_true hb30
    have hb30s := hb30; try simp at hb30s
    refine w_false (by simp [hb30, hb30s]) ?_
    refine w_skip ?_
    refine w_seq ?_
    refine w_st (by simp <;> rfl) ?_
    refine w_reg ?_
    refine k_run 1 (by simp <;> rfl) ?_
    refine k_nil ?_
    refine w_st (by simp <;> rfl) ?_
    refine w_ret ?_
    obtain rfl := Option.some.inj h
    simp [hb3, hb3s, hb6, hb6s, hb20, hb20s, hb25, hb25s, hb30, hb30s]
  refine w_st (by simp <;> rfl) ?_
  refine w_reg ?_
  refine k_run 4 (by simp <;> rfl) ?_
  obtain ⟨v31, hv32, h⟩ := ob h
  apply k_call (by simp <;> rfl) (by simp <;> rfl)
  · first | exact run_laws_eqReq hv32 | simpa using run_laws_eqReq hv32
  · simp <;> rfl
  refine k_run 5 (by simp <;> rfl) ?_
  rcases oif h with ⟨hb33, h⟩ | ⟨hb33, h⟩
  · have hb33s := hb33; try simp at hb33s
    refine k_run 7 (by simp [hb33, hb33s] <;> rfl) ?_
    refine k_nil ?_
    exact ⟨true, by simp [hb3, hb3s, hb6, hb6s, hb33, hb33s], h⟩
  replace hb33 := eq_false_of_ne_true hb33
  have hb33s := hb33; try simp at hb33s
  refine k_run 7 (by simp [hb33, hb33s] <;> rfl) ?_
  refine k_nil ?_
  exact ⟨(!(v17.2 == v11.2)), by simp [hb3, hb3s, hb6, hb6s, hb33, hb33s], h⟩

/-- spec.l24Taken -/
def x_spec_l24Taken : XFunc := .mk [.v, .v, .v, .v] [.tmp 8] (.seq (.region [(none, .as 8 (.k (.int .i64 0)))] [0, 1, 2, 3]) (.seq (.region [(none, .as 9 (.k (.int .i64 0)))] [0, 1, 2, 3, 9]) (.seq (.seq (.region [(none, .as 10 (.k (.int .i64 0)))] [0, 1, 2, 3, 9, 10]) (.block 0 (.loop (.seq (.seq (.region [(none, .mv 13 (.tmp 10)),
 (none, .mv 14 (.tmp 0)),
 (none, .len 15 (.tmp 14)),
 (none, .drop [14]),
 (none, .bin 16 .num .lss (.tmp 13) (.tmp 15))] [0, 1, 2, 3, 9, 10, 16]) (.cond 16 [0, 1, 2, 3, 8, 9, 10] [8, 9] (.skip) (.exit 0))) (.seq (.block 1 (.seq (.seq (.region [(none, .mv 19 (.tmp 0)),
 (none, .mv 20 (.tmp 10)),
 (none, .ia 21 6 (.tmp 19) (.tmp 20)),
 (none, .fa 22 0 (.tmp 21)),
 (none, .drop [21]),
 (none, .ld 23 none (.tmp 22)),
 (none, .drop [19, 20, 22]),
 (none, .bin 24 .num .neq (.tmp 23) (.k (.int .i64 4))),
 (none, .drop [23]),
 (none, .mv 25 (.tmp 24)),
 (none, .drop [24]),
 ((some (25, false)), .mv 26 (.tmp 1)),
 ((some (25, false)), .mv 27 (.tmp 10)),
 ((some (25, false)), .call 28 x_spec_l24Done [(.tmp 26), (.tmp 27)]),
 (none, .drop [26, 27]),
 ((some (25, false)), .un 29 .not (.tmp 28)),
 (none, .drop [28]),
 (none, .pick 30 (.tmp 25) (.k (.bool true)) (.tmp 29))] [0, 1, 2, 3, 9, 10, 30]) (.cond 30 [0, 1, 2, 3, 8, 9, 10] [0, 1, 2, 3, 8, 9, 10] (.exit 1) (.skip))) (.seq (.region [(none, .mv 32 (.tmp 0)),
 (none, .mv 33 (.tmp 1)),
 (none, .mv 34 (.tmp 0)),
 (none, .mv 35 (.tmp 10)),
 (none, .ia 36 6 (.tmp 34) (.tmp 35)),
 (none, .fa 37 1 (.tmp 36)),
 (none, .drop [36]),
 (none, .ld 38 none (.tmp 37)),
 (none, .drop [34, 35, 37]),
 (none, .mv 39 (.tmp 10)),
 (none, .call 40 x_spec_JoinOf [(.tmp 32), (.tmp 33), (.tmp 38), (.tmp 39)]),
 (none, .drop [32, 33, 38, 39]),
 (none, .mv 31 (.tmp 40)),
 (none, .ext 41 (.tmp 31) 0),
 (none, .ext 42 (.tmp 31) 1),
 (none, .drop [31, 40]),
 (none, .alloc 11 [.int .i64 0, .int .i64 0, .int .i64 0, .int .i64 0, .int .i64 0, .int .i64 0]),
 (none, .st 6 (.tmp 11) (.tmp 41)),
 (none, .drop [41]),
 (none, .as 12 (.tmp 42))] [0, 1, 2, 3, 9, 10, 11, 12]) (.seq (.region [(none, .mv 43 (.tmp 12)),
 (none, .drop [12]),
 (none, .mv 44 (.tmp 43)),
 (none, .drop [43]),
 ((some (44, true)), .fa 45 4 (.tmp 11)),
 ((some (44, true)), .ld 46 none (.tmp 45)),
 (none, .drop [45]),
 ((some (44, true)), .call 47 x_spec_l1In [(.tmp 46), (.k (.int .i64 1)), (.k (.int .i64 6))]),
 (none, .drop [46]),
 (none, .pick 48 (.tmp 44) (.tmp 47) (.k (.bool false))),
 (none, .drop [44, 47]),
 (none, .mv 49 (.tmp 48)),
 (none, .drop [48]),
 ((some (49, true)), .mv 50 (.tmp 3)),
 ((some (49, true)), .un 51 .not (.tmp 50)),
 (none, .drop [50]),
 ((some (49, true)), .mv 52 (.tmp 51)),
 (none, .drop [51]),
 ((some (52, true)), .fa 53 2 (.tmp 11)),
 ((some (52, true)), .ld 54 none (.tmp 53)),
 (none, .drop [53]),
 ((some (52, true)), .mv 55 (.tmp 2)),
 ((some (52, true)), .bin 56 .num .eql (.tmp 54) (.tmp 55)),
 (none, .drop [54, 55]),
 ((some (49, true)), .pick 57 (.tmp 52) (.tmp 56) (.k (.bool false))),
 (none, .drop [52, 56]),
 ((some (49, true)), .mv 58 (.tmp 57)),
 (none, .drop [57]),
 ((some (58, false)), .mv 59 (.tmp 3)),
 ((some (58, false)), .mv 60 (.tmp 59)),
 (none, .drop [59]),
 ((some (60, true)), .fa 61 3 (.tmp 11)),
 ((some (60, true)), .ld 62 none (.tmp 61)),
 (none, .drop [61]),
 ((some (60, true)), .mv 63 (.tmp 2)),
 ((some (60, true)), .bin 64 .num .eql (.tmp 62) (.tmp 63)),
 (none, .drop [62, 63]),
 ((some (58, false)), .pick 65 (.tmp 60) (.tmp 64) (.k (.bool false))),
 (none, .drop [60, 64]),
 ((some (49, true)), .pick 66 (.tmp 58) (.k (.bool true)) (.tmp 65)),
 (none, .drop [58, 65]),
 (none, .pick 67 (.tmp 49) (.tmp 66) (.k (.bool false)))] [0, 1, 2, 3, 9, 10, 11, 67]) (.cond 67 [0, 1, 2, 3, 8, 9, 10, 11] [0, 1, 2, 3, 8, 9, 10] (.region [(none, .mv 68 (.tmp 9)),
 (none, .drop [9]),
 (none, .fa 69 4 (.tmp 11)),
 (none, .ld 70 none (.tmp 69)),
 (none, .drop [11, 69]),
 (none, .bin 71 .num .add (.tmp 68) (.tmp 70)),
 (none, .drop [68, 70]),
 (none, .as 9 (.tmp 71))] [0, 1, 2, 3, 9, 10]) (.skip)))))) (.region [(none, .mv 17 (.tmp 10)),
 (none, .drop [10]),
 (none, .bin 18 .num .add (.tmp 17) (.k (.int .i64 1))),
 (none, .drop [17]),
 (none, .as 10 (.tmp 18))] [0, 1, 2, 3, 9, 10])))))) (.seq (.region [(none, .mv 72 (.tmp 9)),
 (none, .drop [9]),
 (none, .as 8 (.tmp 72))] [8]) (.ret)))))
@[simp] theorem x_spec_l24Taken_m : modes x_spec_l24Taken = [.v, .v, .v, .v] := rfl
@[simp] def d_spec_l24Taken_j1 (j9_1 : Int) : Option Int :=
  some j9_1
@[simp] def d_spec_l24Taken_j2 (L1 : Int × Int → Option Int) (v10_3 : Int) (j9_5 : Int) : Option Int :=
  L1 (j9_5, (w64 (v10_3 + 1)))
@[simp] def d_spec_l24Taken_j4 (L1 : Int × Int → Option Int) (v10_3 : Int) (v9_2 : Int) (v10 : GReq × Bool) (j67_12 : Bool) : Option Int :=
  if j67_12 = true then
      (d_spec_l24Taken_j2 L1 v10_3) (w64 (v9_2 + v10.1.Size))
    else (d_spec_l24Taken_j2 L1 v10_3) v9_2
@[simp] def d_spec_l24Taken_j3 (L1 : Int × Int → Option Int) (v10_3 : Int) (v9_2 : Int) (p0 : List GReq) (p1 : List GReply) (p3 : Bool) (p2 : Int) (j30_6 : Bool) : Option Int :=
  if j30_6 = true then
      (d_spec_l24Taken_j2 L1 v10_3) v9_2
    else (at? p0 v10_3).bind fun x8 =>
    (d_spec_JoinOf p0 p1 x8.Id v10_3).bind fun v10 =>
    if v10.2 = true then
      (d_spec_l1In v10.1.Size 1 6).bind fun v15 =>
      if v15 = true then
        if (!p3) = true then
          if (v10.1.Cabin == p2) = true then
            (d_spec_l24Taken_j4 L1 v10_3 v9_2 v10) true
          else (d_spec_l24Taken_j4 L1 v10_3 v9_2 v10) false
        else (d_spec_l24Taken_j4 L1 v10_3 v9_2 v10) (v10.1.From == p2)
      else (d_spec_l24Taken_j4 L1 v10_3 v9_2 v10) false
    else (d_spec_l24Taken_j4 L1 v10_3 v9_2 v10) false
def d_spec_l24Taken_l1 (p0 : List GReq) (p1 : List GReply) (p3 : Bool) (p2 : Int) : Nat → Int × Int → Option Int
  | 0, _ => none
  | n1 + 1, (v9_2, v10_3) => if (decide (v10_3 < (p0.length : Int))) = true then
      (at? p0 v10_3).bind fun x20 =>
      if (x20.Kind != 4) = true then
        (d_spec_l24Taken_j3 (d_spec_l24Taken_l1 p0 p1 p3 p2 n1) v10_3 v9_2 p0 p1 p3 p2) true
      else (d_spec_l24Done p1 v10_3).bind fun v23 =>
      (d_spec_l24Taken_j3 (d_spec_l24Taken_l1 p0 p1 p3 p2 n1) v10_3 v9_2 p0 p1 p3 p2) (!v23)
    else d_spec_l24Taken_j1 v9_2
def d_spec_l24Taken (p0 : List GReq) (p1 : List GReply) (p2 : Int) (p3 : Bool) : Option Int :=
  d_spec_l24Taken_l1 p0 p1 p3 p2 big (0, 0)
theorem run_spec_l24Taken {p0 : List GReq} {p1 : List GReply} {p2 : Int} {p3 : Bool} {r : Int} (h : d_spec_l24Taken p0 p1 p2 p3 = some r) : Runs x_spec_l24Taken [.v .one [.sl 6 (p0.map eGReq)], .v .one [.sl 2 (p1.map eGReply)], .v .one [eI p2], .v .one [.bool p3]] .one [eI r] [] := by
  refine Runs.mk (by simp <;> rfl) ?_ (by simp)
  rw [d_spec_l24Taken] at h
  refine w_seq ?_
  refine w_reg ?_
  refine k_run 1 (by simp <;> rfl) ?_
  refine k_nil ?_
  refine w_seq ?_
  refine w_st (by simp <;> rfl) ?_
  refine w_reg ?_
  refine k_run 1 (by simp <;> rfl) ?_
  refine k_nil ?_
  refine w_cut (fun x : Int => ⟨[(9, ⟨.one, [.t (eI x)]⟩)], [], []⟩) (fun x => d_spec_l24Taken_j1 x = some r) (fun j9_1 h => ?_) ?_
  · replace h : d_spec_l24Taken_j1 j9_1 = some r := h
    rw [d_spec_l24Taken_j1] at h
    refine w_seq ?_
    refine w_reg ?_
    refine k_run 3 (by simp <;> rfl) ?_
    refine k_nil ?_
    refine w_st (by simp <;> rfl) ?_
    refine w_ret ?_
    obtain rfl := Option.some.inj h
    simp
  refine w_seq ?_
  refine w_st (by simp <;> rfl) ?_
  refine w_reg ?_
  refine k_run 1 (by simp <;> rfl) ?_
  refine k_nil ?_
  refine w_block ?_
  refine w_fuel (fun x : Int × Int => ⟨[(0, ⟨.one, [.vw (.old 0) 6 (p0.map eGReq)]⟩), (1, ⟨.one, [.vw (.old 1) 2 (p1.map eGReply)]⟩), (2, ⟨.one, [.t (eI p2)]⟩), (3, ⟨.one, [.t (.bool p3)]⟩), (9, ⟨.one, [.t (eI x.1)]⟩), (10, ⟨.one, [.t (eI x.2)]⟩)], [], []⟩) (fun n1 x => d_spec_l24Taken_l1 p0 p1 p3 p2 n1 x) (n := big) (x := (0, 0)) (fun n1 x h T ih1 => ?_) (fun x h => by simp [d_spec_l24Taken_l1] at h) (by simp) h
  obtain ⟨v9_2, v10_3⟩ := x
  replace h : d_spec_l24Taken_l1 p0 p1 p3 p2 (n1 + 1) (v9_2, v10_3) = some r := h
  rw [d_spec_l24Taken_l1] at h
  iterate 2 refine w_seq ?_
  refine w_reg ?_
  refine k_run 5 (by simp <;> rfl) ?_
  refine k_nil ?_
  refine w_st (by simp <;> rfl) ?_
  rcases oif' h with ⟨hb4, h⟩ | ⟨hb4, h⟩
  · replace hb4 := eq_false_of_ne_true hb4
    have hb4s := hb4; try simp at hb4s
    refine w_false (by simp [hb4, hb4s]) ?_
    refine w_exit ?_
    refine x_here ?_
    exact ⟨v9_2, by simp [hb4, hb4s], h⟩
  have hb4s := hb4; try simp at hb4s
  refine w_true (by simp [hb4, hb4s]) ?_
  refine w_skip ?_
  refine w_cut (fun x : Int => ⟨[(0, ⟨.one, [.vw (.old 0) 6 (p0.map eGReq)]⟩), (1, ⟨.one, [.vw (.old 1) 2 (p1.map eGReply)]⟩), (2, ⟨.one, [.t (eI p2)]⟩), (3, ⟨.one, [.t (.bool p3)]⟩), (9, ⟨.one, [.t (eI x)]⟩), (10, ⟨.one, [.t (eI v10_3)]⟩)], [], []⟩) (fun x => (d_spec_l24Taken_j2 (d_spec_l24Taken_l1 p0 p1 p3 p2 n1) v10_3) x = some r) (fun j9_5 h => ?_) ?_
  · replace h : (d_spec_l24Taken_j2 (d_spec_l24Taken_l1 p0 p1 p3 p2 n1) v10_3) j9_5 = some r := h
    rw [d_spec_l24Taken_j2] at h
    refine w_reg ?_
    refine k_run 5 (by simp <;> rfl) ?_
    refine k_nil ?_
    refine t_st (T := T) ?_ (ih1 _ h)
    simp [hb4, hb4s]
  refine w_block ?_
  refine w_seq ?_
  refine w_cut (fun x : Bool => ⟨[(0, ⟨.one, [.vw (.old 0) 6 (p0.map eGReq)]⟩), (1, ⟨.one, [.vw (.old 1) 2 (p1.map eGReply)]⟩), (2, ⟨.one, [.t (eI p2)]⟩), (3, ⟨.one, [.t (.bool p3)]⟩), (9, ⟨.one, [.t (eI v9_2)]⟩), (10, ⟨.one, [.t (eI v10_3)]⟩), (30, ⟨.one, [.t (.bool x)]⟩)], [], []⟩) (fun x => (d_spec_l24Taken_j3 (d_spec_l24Taken_l1 p0 p1 p3 p2 n1) v10_3 v9_2 p0 p1 p3 p2) x = some r) (fun j30_6 h => ?_) ?_
  · replace h : (d_spec_l24Taken_j3 (d_spec_l24Taken_l1 p0 p1 p3 p2 n1) v10_3 v9_2 p0 p1 p3 p2) j30_6 = some r := h
    rw [d_spec_l24Taken_j3] at h
    rcases oif h with ⟨hb7, h⟩ | ⟨hb7, h⟩
    · have hb7s := hb7; try simp at hb7s
      refine w_true (by simp [hb7, hb7s]) ?_
      refine w_exit ?_
      refine x_here ?_
      exact ⟨v9_2, by simp [hb4, hb4s, hb7, hb7s], h⟩
    replace hb7 := eq_false_of_ne_true hb7
    have hb7s := hb7; try simp at hb7s
    refine w_false (by simp [hb7, hb7s]) ?_
    refine w_skip ?_
    refine w_seq ?_
    refine w_st (by simp <;> rfl) ?_
    refine w_reg ?_
    refine k_run 4 (by simp <;> rfl) ?_
    obtain ⟨x8, hx9, h⟩ := ob h
    obtain ⟨hx9_0, hx9_1, hx9_2, hx9_3, hx9_4⟩ := at_facts hx9
    refine k_run 6 (by simp [hx9_0, hx9_1, hx9_2, hx9_3, hx9_4] <;> rfl) ?_
    obtain ⟨v10, hv11, h⟩ := ob h
    apply k_call (by simp [hx9_0, hx9_1, hx9_2, hx9_3, hx9_4] <;> rfl) (by simp [hx9_0, hx9_1, hx9_2, hx9_3, hx9_4] <;> rfl)
    · first | exact run_spec_JoinOf hv11 | simpa [hx9_0, hx9_1, hx9_2, hx9_3, hx9_4] using run_spec_JoinOf hv11
    · simp [hx9_0, hx9_1, hx9_2, hx9_3, hx9_4] <;> rfl
    refine k_run 9 (by simp [hx9_0, hx9_1, hx9_2, hx9_3, hx9_4] <;> rfl) ?_
    refine k_nil ?_
    refine w_cut (fun x : Bool => ⟨[(0, ⟨.one, [.vw (.old 0) 6 (p0.map eGReq)]⟩), (1, ⟨.one, [.vw (.old 1) 2 (p1.map eGReply)]⟩), (2, ⟨.one, [.t (eI p2)]⟩), (3, ⟨.one, [.t (.bool p3)]⟩), (9, ⟨.one, [.t (eI v9_2)]⟩), (10, ⟨.one, [.t (eI v10_3)]⟩), (11, ⟨.one, [.bp 11 0]⟩), (67, ⟨.one, [.t (.bool x)]⟩)], [(11, [.t (eI v10.1.Kind), .t (eI v10.1.Id), .t (eI v10.1.Cabin), .t (eI v10.1.From), .t (eI v10.1.Size), .t (eI v10.1.Tier)])], []⟩) (fun x => (d_spec_l24Taken_j4 (d_spec_l24Taken_l1 p0 p1 p3 p2 n1) v10_3 v9_2 v10) x = some r) (fun j67_12 h => ?_) ?_
    · replace h : (d_spec_l24Taken_j4 (d_spec_l24Taken_l1 p0 p1 p3 p2 n1) v10_3 v9_2 v10) j67_12 = some r := h
      rw [d_spec_l24Taken_j4] at h
      rcases oif' h with ⟨hb13, h⟩ | ⟨hb13, h⟩
      · replace hb13 := eq_false_of_ne_true hb13
        have hb13s := hb13; try simp at hb13s
        refine w_false (by simp [hb13, hb13s]) ?_
        refine w_skip ?_
        exact ⟨v9_2, by simp [hx9_0, hx9_1, hx9_2, hx9_3, hx9_4, hb4, hb4s, hb7, hb7s, hb13, hb13s], h⟩
      have hb13s := hb13; try simp at hb13s
      refine w_true (by simp [hb13, hb13s]) ?_
      refine w_st (by simp <;> rfl) ?_
      refine w_reg ?_
      refine k_run 8 (by simp [hx9_0, hx9_1, hx9_2, hx9_3, hx9_4] <;> rfl) ?_
      refine k_nil ?_
      exact ⟨(w64 (v9_2 + v10.1.Size)), by simp [hx9_0, hx9_1, hx9_2, hx9_3, hx9_4, hb4, hb4s, hb7, hb7s, hb13, hb13s], h⟩
    refine w_st (by simp <;> rfl) ?_
    refine w_reg ?_
    refine k_run 4 (by simp <;> rfl) ?_
    rcases oif' h with ⟨hb14, h⟩ | ⟨hb14, h⟩
    · replace hb14 := eq_false_of_ne_true hb14
      have hb14s := hb14; try simp at hb14s
      refine k_run 38 (by simp [hb14, hb14s, hx9_0, hx9_1, hx9_2, hx9_3, hx9_4] <;> rfl) ?_
      refine k_nil ?_
      exact ⟨false, by simp [hx9_0, hx9_1, hx9_2, hx9_3, hx9_4, hb4, hb4s, hb7, hb7s, hb14, hb14s], h⟩
    have hb14s := hb14; try simp at hb14s
    refine k_run 3 (by simp [hb14, hb14s, hx9_0, hx9_1, hx9_2, hx9_3, hx9_4] <;> rfl) ?_
    obtain ⟨v15, hv16, h⟩ := ob h
    apply k_callg (by simp [hb14, hb14s]) (by simp [hx9_0, hx9_1, hx9_2, hx9_3, hx9_4] <;> rfl) (by simp [hx9_0, hx9_1, hx9_2, hx9_3, hx9_4] <;> rfl)
    · first | exact run_spec_l1In hv16 | simpa [hx9_0, hx9_1, hx9_2, hx9_3, hx9_4] using run_spec_l1In hv16
    · simp [hx9_0, hx9_1, hx9_2, hx9_3, hx9_4] <;> rfl
    refine k_run 5 (by simp [hx9_0, hx9_1, hx9_2, hx9_3, hx9_4, hb14, hb14s] <;> rfl) ?_
    rcases oif' h with ⟨hb17, h⟩ | ⟨hb17, h⟩
    · replace hb17 := eq_false_of_ne_true hb17
      have hb17s := hb17; try simp at hb17s
      refine k_run 29 (by simp [hb17, hb17s, hx9_0, hx9_1, hx9_2, hx9_3, hx9_4] <;> rfl) ?_
      refine k_nil ?_
      exact ⟨false, by simp [hx9_0, hx9_1, hx9_2, hx9_3, hx9_4, hb4, hb4s, hb7, hb7s, hb14, hb14s, hb17, hb17s], h⟩
    have hb17s := hb17; try simp at hb17s
    refine k_run 5 (by simp [hb17, hb17s] <;> rfl) ?_
    rcases oif' h with ⟨hb18, h⟩ | ⟨hb18, h⟩
    · replace hb18 := eq_false_of_ne_true hb18
      have hb18s := hb18; try simp at hb18s
      refine k_run 24 (by simp [hb18, hb18s, hx9_0, hx9_1, hx9_2, hx9_3, hx9_4, hb17, hb17s] <;> rfl) ?_
      refine k_nil ?_
      exact ⟨(v10.1.From == p2), by simp [hx9_0, hx9_1, hx9_2, hx9_3, hx9_4, hb4, hb4s, hb7, hb7s, hb14, hb14s, hb17, hb17s, hb18, hb18s], h⟩
    have hb18s := hb18; try simp at hb18s
    refine k_run 10 (by simp [hb18, hb18s, hx9_0, hx9_1, hx9_2, hx9_3, hx9_4, hb17, hb17s] <;> rfl) ?_
    rcases oif h with ⟨hb19, h⟩ | ⟨hb19, h⟩
    · have hb19s := hb19; try simp at hb19s
      refine k_run 14 (by simp [hb19, hx9_0, hx9_1, hx9_2, hx9_3, hx9_4, hb17, hb17s] <;> rfl) ?_
      refine k_nil ?_
      exact ⟨true, by simp [hx9_0, hx9_1, hx9_2, hx9_3, hx9_4, hb4, hb4s, hb7, hb7s, hb14, hb14s, hb17, hb17s, hb18, hb18s, hb19, hb19s], h⟩
    replace hb19 := eq_false_of_ne_true hb19
    have hb19s := hb19; try simp at hb19s
    refine k_run 14 (by simp [hb19, hb18, hb18s, hx9_0, hx9_1, hx9_2, hx9_3, hx9_4, hb17, hb17s] <;> rfl) ?_
    refine k_nil ?_
    exact ⟨false, by simp [hx9_0, hx9_1, hx9_2, hx9_3, hx9_4, hb4, hb4s, hb7, hb7s, hb14, hb14s, hb17, hb17s, hb18, hb18s, hb19, hb19s], h⟩
  refine w_st (by simp <;> rfl) ?_
  refine w_reg ?_
  refine k_run 2 (by simp <;> rfl) ?_
  obtain ⟨x20, hx21, h⟩ := ob h
  obtain ⟨hx21_0, hx21_1, hx21_2, hx21_3, hx21_4⟩ := at_facts hx21
  refine k_run 9 (by simp [hx21_0, hx21_1, hx21_2, hx21_3, hx21_4] <;> rfl) ?_
  rcases oif h with ⟨hb22, h⟩ | ⟨hb22, h⟩
  · have hb22s := hb22; try simp at hb22s
    refine k_run 7 (by simp [hb22, hx21_0, hx21_1, hx21_2, hx21_3, hx21_4] <;> rfl) ?_
    refine k_nil ?_
    exact ⟨true, by simp [hx21_0, hx21_1, hx21_2, hx21_3, hx21_4, hb4, hb4s, hb22, hb22s], h⟩
  replace hb22 := eq_false_of_ne_true hb22
  have hb22s := hb22; try simp at hb22s
  refine k_run 2 (by simp [hb22] <;> rfl) ?_
  obtain ⟨v23, hv24, h⟩ := ob h
  apply k_callg (by simp [hb22]) (by simp [hx21_0, hx21_1, hx21_2, hx21_3, hx21_4] <;> rfl) (by simp [hx21_0, hx21_1, hx21_2, hx21_3, hx21_4] <;> rfl)
  · first | exact run_spec_l24Done hv24 | simpa [hx21_0, hx21_1, hx21_2, hx21_3, hx21_4] using run_spec_l24Done hv24
  · simp [hx21_0, hx21_1, hx21_2, hx21_3, hx21_4] <;> rfl
  refine k_run 4 (by simp [hb22, hx21_0, hx21_1, hx21_2, hx21_3, hx21_4] <;> rfl) ?_
  refine k_nil ?_
  exact ⟨(!v23), by simp [hx21_0, hx21_1, hx21_2, hx21_3, hx21_4, hb4, hb4s, hb22, hb22s], h⟩

/-- spec.MovedFrom -/
def x_spec_MovedFrom : XFunc := .mk [.v, .v, .v] [.tmp 6] (.seq (.region [(none, .as 6 (.k (.int .i64 0)))] [0, 1, 2]) (.seq (.region [(none, .mv 7 (.tmp 0)),
 (none, .mv 8 (.tmp 1)),
 (none, .mv 9 (.tmp 2)),
 (none, .drop [2]),
 (none, .call 10 x_spec_l24Taken [(.tmp 7), (.tmp 8), (.tmp 9), (.k (.bool true))]),
 (none, .drop [0, 1, 7, 8, 9]),
 (none, .as 6 (.tmp 10))] [6]) (.ret)))
@[simp] theorem x_spec_MovedFrom_m : modes x_spec_MovedFrom = [.v, .v, .v] := rfl
def d_spec_MovedFrom (p0 : List GReq) (p1 : List GReply) (p2 : Int) : Option Int :=
  (d_spec_l24Taken p0 p1 p2 true).bind fun v1 =>
  some v1
theorem run_spec_MovedFrom {p0 : List GReq} {p1 : List GReply} {p2 : Int} {r : Int} (h : d_spec_MovedFrom p0 p1 p2 = some r) : Runs x_spec_MovedFrom [.v .one [.sl 6 (p0.map eGReq)], .v .one [.sl 2 (p1.map eGReply)], .v .one [eI p2]] .one [eI r] [] := by
  refine Runs.mk (by simp <;> rfl) ?_ (by simp)
  rw [d_spec_MovedFrom] at h
  refine w_seq ?_
  refine w_reg ?_
  refine k_run 1 (by simp <;> rfl) ?_
  refine k_nil ?_
  refine w_seq ?_
  refine w_st (by simp <;> rfl) ?_
  refine w_reg ?_
  refine k_run 4 (by simp <;> rfl) ?_
  obtain ⟨v1, hv2, h⟩ := ob h
  apply k_call (by simp <;> rfl) (by simp <;> rfl)
  · first | exact run_spec_l24Taken hv2 | simpa using run_spec_l24Taken hv2
  · simp <;> rfl
  refine k_run 2 (by simp <;> rfl) ?_
  refine k_nil ?_
  refine w_st (by simp <;> rfl) ?_
  refine w_ret ?_
  obtain rfl := Option.some.inj h
  simp

/-- impl.MovedFrom$1 -/
def x_impl_MovedFrom_1 : XFunc := .mk [.v, .p] [.tmp 3] (.seq (.region [(none, .box 2 (.tmp 0)),
 (none, .drop [0]),
 (none, .as 3 (.k (.bool false)))] [1, 2]) (.seq (.region [(none, .fa 4 3 (.tmp 2)),
 (none, .ld 5 none (.tmp 4)),
 (none, .drop [2, 4]),
 (none, .ld 6 none (.tmp 1)),
 (none, .drop [1]),
 (none, .bin 7 .num .eql (.tmp 5) (.tmp 6)),
 (none, .drop [5, 6]),
 (none, .as 3 (.tmp 7))] [3]) (.ret)))
@[simp] theorem x_impl_MovedFrom_1_m : modes x_impl_MovedFrom_1 = [.v, .p] := rfl
def d_impl_MovedFrom_1 (p0 : GReq) (p1 : Int) : Option Bool :=
  some (p0.From == p1)
theorem run_impl_MovedFrom_1 {p0 : GReq} {p1 : Int} {r : Bool} (h : d_impl_MovedFrom_1 p0 p1 = some r) : Runs x_impl_MovedFrom_1 [.v .agg [eI p0.Kind, eI p0.Id, eI p0.Cabin, eI p0.From, eI p0.Size, eI p0.Tier], .p [eI p1]] .one [.bool r] [] := by
  refine Runs.mk (by simp <;> rfl) ?_ (by simp)
  rw [d_impl_MovedFrom_1] at h
  refine w_seq ?_
  refine w_reg ?_
  refine k_run 3 (by simp <;> rfl) ?_
  refine k_nil ?_
  refine w_seq ?_
  refine w_st (by simp <;> rfl) ?_
  refine w_reg ?_
  refine k_run 8 (by simp <;> rfl) ?_
  refine k_nil ?_
  refine w_st (by simp <;> rfl) ?_
  refine w_ret ?_
  obtain rfl := Option.some.inj h
  simp

/-- impl.accepted -/
def x_impl_accepted__impl_MovedFrom_1 : XFunc := .mk [.v, .v, .v] [.tmp 6] (.seq (.region [(none, .as 6 (.k (.int .i64 0)))] [0, 1, 2]) (.seq (.region [(none, .as 7 (.k (.int .i64 0)))] [0, 1, 2, 7]) (.seq (.seq (.region [(none, .mv 12 (.tmp 0)),
 (none, .len 13 (.tmp 12)),
 (none, .mv 14 (.k (.int .i64 0)))] [0, 1, 2, 7, 12, 13, 14]) (.block 0 (.loop (.seq (.region [(none, .bin 15 .num .lss (.tmp 14) (.tmp 13))] [0, 1, 2, 7, 12, 13, 14, 15]) (.seq (.cond 15 [0, 1, 2, 6, 7, 12, 13, 14] [6, 7] (.skip) (.exit 0)) (.seq (.block 1 (.seq (.region [(none, .mv 16 (.tmp 14)),
 (none, .ia 17 6 (.tmp 12) (.tmp 14)),
 (none, .ld 18 (some 6) (.tmp 17)),
 (none, .drop [17]),
 (none, .alloc 9 [.int .i64 0, .int .i64 0, .int .i64 0, .int .i64 0, .int .i64 0, .int .i64 0]),
 (none, .as 8 (.tmp 16)),
 (none, .drop [16]),
 (none, .st 6 (.tmp 9) (.tmp 18))] [0, 1, 2, 7, 8, 9, 12, 13, 14]) (.seq (.seq (.region [(none, .mv 19 (.tmp 0)),
 (none, .mv 20 (.tmp 1)),
 (none, .mv 21 (.tmp 8)),
 (none, .call 22 x_impl_successful [(.tmp 19), (.tmp 20), (.tmp 21), (.k (.int .i64 4))]),
 (none, .drop [19, 20, 21]),
 (none, .un 23 .not (.tmp 22))] [0, 1, 2, 7, 8, 9, 12, 13, 14, 23]) (.cond 23 [0, 1, 2, 6, 7, 12, 13, 14] [0, 1, 2, 6, 7, 8, 9, 12, 13, 14] (.exit 1) (.skip))) (.seq (.region [(none, .mv 25 (.tmp 0)),
 (none, .mv 26 (.tmp 1)),
 (none, .fa 27 1 (.tmp 9)),
 (none, .ld 28 none (.tmp 27)),
 (none, .drop [9, 27]),
 (none, .mv 29 (.tmp 8)),
 (none, .drop [8]),
 (none, .call 30 x_impl_JoinOf [(.tmp 25), (.tmp 26), (.tmp 28), (.tmp 29)]),
 (none, .drop [25, 26, 28, 29]),
 (none, .mv 24 (.tmp 30)),
 (none, .ext 31 (.tmp 24) 0),
 (none, .ext 32 (.tmp 24) 1),
 (none, .drop [24, 30]),
 (none, .alloc 10 [.int .i64 0, .int .i64 0, .int .i64 0, .int .i64 0, .int .i64 0, .int .i64 0]),
 (none, .st 6 (.tmp 10) (.tmp 31)),
 (none, .drop [31]),
 (none, .as 11 (.tmp 32))] [0, 1, 2, 7, 10, 11, 12, 13, 14]) (.seq (.region [(none, .mv 33 (.tmp 11)),
 (none, .drop [11]),
 (none, .mv 34 (.tmp 33)),
 (none, .drop [33]),
 ((some (34, true)), .fa 35 4 (.tmp 10)),
 ((some (34, true)), .ld 36 none (.tmp 35)),
 (none, .drop [35]),
 ((some (34, true)), .call 37 x_impl_within [(.tmp 36), (.k (.int .i64 1)), (.k (.int .i64 6))]),
 (none, .drop [36]),
 (none, .pick 38 (.tmp 34) (.tmp 37) (.k (.bool false))),
 (none, .drop [34, 37]),
 (none, .mv 39 (.tmp 38)),
 (none, .drop [38]),
 ((some (39, true)), .mv 40 (.tmp 2)),
 ((some (39, true)), .ld 41 (some 6) (.tmp 10)),
 ((some (39, true)), .callv 42 (.tmp 40) [.v, .p] [(.tmp 41)]),
 (none, .drop [40, 41]),
 (none, .pick 43 (.tmp 39) (.tmp 42) (.k (.bool false)))] [0, 1, 2, 7, 10, 12, 13, 14, 43]) (.cond 43 [0, 1, 2, 6, 7, 10, 12, 13, 14] [0, 1, 2, 6, 7, 12, 13, 14] (.region [(none, .mv 44 (.tmp 7)),
 (none, .drop [7]),
 (none, .fa 45 4 (.tmp 10)),
 (none, .ld 46 none (.tmp 45)),
 (none, .drop [10, 45]),
 (none, .bin 47 .num .add (.tmp 44) (.tmp 46)),
 (none, .drop [44, 46]),
 (none, .as 7 (.tmp 47))] [0, 1, 2, 7, 12, 13, 14]) (.skip))))))) (.region [(none, .bin 48 .num .add (.tmp 14) (.k (.int .i64 1))),
 (none, .drop [14]),
 (none, .mv 14 (.tmp 48))] [0, 1, 2, 7, 12, 13, 14]))))))) (.seq (.region [(none, .mv 49 (.tmp 7)),
 (none, .drop [7]),
 (none, .as 6 (.tmp 49))] [6]) (.ret)))))
@[simp] theorem x_impl_accepted__impl_MovedFrom_1_m : modes x_impl_accepted__impl_MovedFrom_1 = [.v, .v, .v] := rfl
@[simp] def d_impl_accepted__impl_MovedFrom_1_j1 (j7_1 : Int) : Option Int :=
  some j7_1
@[simp] def d_impl_accepted__impl_MovedFrom_1_j2 (L1 : Int × Int → Option Int) (v14_3 : Int) (j7_5 : Int) : Option Int :=
  L1 (j7_5, (w64 (v14_3 + 1)))
@[simp] def d_impl_accepted__impl_MovedFrom_1_j3 (L1 : Int × Int → Option Int) (v14_3 : Int) (v7_2 : Int) (v11 : GReq × Bool) (j43_13 : Bool) : Option Int :=
  if j43_13 = true then
      (d_impl_accepted__impl_MovedFrom_1_j2 L1 v14_3) (w64 (v7_2 + v11.1.Size))
    else (d_impl_accepted__impl_MovedFrom_1_j2 L1 v14_3) v7_2
def d_impl_accepted__impl_MovedFrom_1_l1 (p0 : List GReq) (p1 : List GReply) (c2_0 : Int) : Nat → Int × Int → Option Int
  | 0, _ => none
  | n1 + 1, (v7_2, v14_3) => if (decide (v14_3 < (p0.length : Int))) = true then
      (at? p0 v14_3).bind fun x6 =>
      (d_impl_successful p0 p1 v14_3 4).bind fun v8 =>
      if (!v8) = true then
        (d_impl_accepted__impl_MovedFrom_1_j2 (d_impl_accepted__impl_MovedFrom_1_l1 p0 p1 c2_0 n1) v14_3) v7_2
      else (d_impl_JoinOf p0 p1 x6.Id v14_3).bind fun v11 =>
      if v11.2 = true then
        (d_impl_within v11.1.Size 1 6).bind fun v16 =>
        if v16 = true then
          (d_impl_MovedFrom_1 v11.1 c2_0).bind fun v19 =>
          (d_impl_accepted__impl_MovedFrom_1_j3 (d_impl_accepted__impl_MovedFrom_1_l1 p0 p1 c2_0 n1) v14_3 v7_2 v11) v19
        else (d_impl_accepted__impl_MovedFrom_1_j3 (d_impl_accepted__impl_MovedFrom_1_l1 p0 p1 c2_0 n1) v14_3 v7_2 v11) false
      else (d_impl_accepted__impl_MovedFrom_1_j3 (d_impl_accepted__impl_MovedFrom_1_l1 p0 p1 c2_0 n1) v14_3 v7_2 v11) false
    else d_impl_accepted__impl_MovedFrom_1_j1 v7_2
def d_impl_accepted__impl_MovedFrom_1 (p0 : List GReq) (p1 : List GReply) (c2_0 : Int) : Option Int :=
  d_impl_accepted__impl_MovedFrom_1_l1 p0 p1 c2_0 big (0, 0)
theorem run_impl_accepted__impl_MovedFrom_1 {p0 : List GReq} {p1 : List GReply} {c2_0 : Int} {r : Int} (h : d_impl_accepted__impl_MovedFrom_1 p0 p1 c2_0 = some r) : Runs x_impl_accepted__impl_MovedFrom_1 [.v .one [.sl 6 (p0.map eGReq)], .v .one [.sl 2 (p1.map eGReply)], .f x_impl_MovedFrom_1 [.p [eI c2_0]]] .one [eI r] [] := by
  refine Runs.mk (by simp <;> rfl) ?_ (by simp)
  rw [d_impl_accepted__impl_MovedFrom_1] at h
  refine w_seq ?_
  refine w_reg ?_
  refine k_run 1 (by simp <;> rfl) ?_
  refine k_nil ?_
  refine w_seq ?_
  refine w_st (by simp <;> rfl) ?_
  refine w_reg ?_
  refine k_run 1 (by simp <;> rfl) ?_
  refine k_nil ?_
  refine w_cut (fun x : Int => ⟨[(7, ⟨.one, [.t (eI x)]⟩)], [], []⟩) (fun x => d_impl_accepted__impl_MovedFrom_1_j1 x = some r) (fun j7_1 h => ?_) ?_
  · replace h : d_impl_accepted__impl_MovedFrom_1_j1 j7_1 = some r := h
    rw [d_impl_accepted__impl_MovedFrom_1_j1] at h
    refine w_seq ?_
    refine w_reg ?_
    refine k_run 3 (by simp <;> rfl) ?_
    refine k_nil ?_
    refine w_st (by simp <;> rfl) ?_
    refine w_ret ?_
    obtain rfl := Option.some.inj h
    simp
  refine w_seq ?_
  refine w_st (by simp <;> rfl) ?_
  refine w_reg ?_
  refine k_run 3 (by simp <;> rfl) ?_
  refine k_nil ?_
  refine w_block ?_
  refine w_fuel (fun x : Int × Int => ⟨[(0, ⟨.one, [.vw (.old 0) 6 (p0.map eGReq)]⟩), (1, ⟨.one, [.vw (.old 1) 2 (p1.map eGReply)]⟩), (2, ⟨.one, [.fn x_impl_MovedFrom_1 [.vp (.old 2) [eI c2_0]]]⟩), (7, ⟨.one, [.t (eI x.1)]⟩), (12, ⟨.one, [.vw (.old 0) 6 (p0.map eGReq)]⟩), (13, ⟨.one, [.t (eI (p0.length : Int))]⟩), (14, ⟨.one, [.t (eI x.2)]⟩)], [], []⟩) (fun n1 x => d_impl_accepted__impl_MovedFrom_1_l1 p0 p1 c2_0 n1 x) (n := big) (x := (0, 0)) (fun n1 x h T ih1 => ?_) (fun x h => by simp [d_impl_accepted__impl_MovedFrom_1_l1] at h) (by simp) h
  obtain ⟨v7_2, v14_3⟩ := x
  replace h : d_impl_accepted__impl_MovedFrom_1_l1 p0 p1 c2_0 (n1 + 1) (v7_2, v14_3) = some r := h
  rw [d_impl_accepted__impl_MovedFrom_1_l1] at h
  refine w_seq ?_
  refine w_reg ?_
  refine k_run 1 (by simp <;> rfl) ?_
  refine k_nil ?_
  refine w_seq ?_
  refine w_st (by simp <;> rfl) ?_
  rcases oif' h with ⟨hb4, h⟩ | ⟨hb4, h⟩
  · replace hb4 := eq_false_of_ne_true hb4
    have hb4s := hb4; try simp at hb4s
    refine w_false (by simp [hb4, hb4s]) ?_
    refine w_exit ?_
    refine x_here ?_
    exact ⟨v7_2, by simp [hb4, hb4s], h⟩
  have hb4s := hb4; try simp at hb4s
  refine w_true (by simp [hb4, hb4s]) ?_
  refine w_skip ?_
  refine w_cut (fun x : Int => ⟨[(0, ⟨.one, [.vw (.old 0) 6 (p0.map eGReq)]⟩), (1, ⟨.one, [.vw (.old 1) 2 (p1.map eGReply)]⟩), (2, ⟨.one, [.fn x_impl_MovedFrom_1 [.vp (.old 2) [eI c2_0]]]⟩), (7, ⟨.one, [.t (eI x)]⟩), (12, ⟨.one, [.vw (.old 0) 6 (p0.map eGReq)]⟩), (13, ⟨.one, [.t (eI (p0.length : Int))]⟩), (14, ⟨.one, [.t (eI v14_3)]⟩)], [], []⟩) (fun x => (d_impl_accepted__impl_MovedFrom_1_j2 (d_impl_accepted__impl_MovedFrom_1_l1 p0 p1 c2_0 n1) v14_3) x = some r) (fun j7_5 h => ?_) ?_
  · replace h : (d_impl_accepted__impl_MovedFrom_1_j2 (d_impl_accepted__impl_MovedFrom_1_l1 p0 p1 c2_0 n1) v14_3) j7_5 = some r := h
    rw [d_impl_accepted__impl_MovedFrom_1_j2] at h
    refine w_reg ?_
    refine k_run 3 (by simp <;> rfl) ?_
    refine k_nil ?_
    refine t_st (T := T) ?_ (ih1 _ h)
    simp [hb4, hb4s]
  refine w_block ?_
  refine w_seq ?_
  refine w_st (by simp <;> rfl) ?_
  refine w_reg ?_
  refine k_run 1 (by simp <;> rfl) ?_
  obtain ⟨x6, hx7, h⟩ := ob h
  obtain ⟨hx7_0, hx7_1, hx7_2, hx7_3, hx7_4⟩ := at_facts hx7
  refine k_run 7 (by simp [hx7_0, hx7_1, hx7_2, hx7_3, hx7_4] <;> rfl) ?_
  refine k_nil ?_
  iterate 2 refine w_seq ?_
  refine w_st (by simp <;> rfl) ?_
  refine w_reg ?_
  refine k_run 3 (by simp <;> rfl) ?_
  obtain ⟨v8, hv9, h⟩ := ob h
  apply k_call (by simp [hx7_0, hx7_1, hx7_2, hx7_3, hx7_4] <;> rfl) (by simp [hx7_0, hx7_1, hx7_2, hx7_3, hx7_4] <;> rfl)
  · first | exact run_impl_successful hv9 | simpa [hx7_0, hx7_1, hx7_2, hx7_3, hx7_4] using run_impl_successful hv9
  · simp [hx7_0, hx7_1, hx7_2, hx7_3, hx7_4] <;> rfl
  refine k_run 2 (by simp <;> rfl) ?_
  refine k_nil ?_
  refine w_st (by simp <;> rfl) ?_
  rcases oif h with ⟨hb10, h⟩ | ⟨hb10, h⟩
  · have hb10s := hb10; try simp at hb10s
    refine w_true (by simp [hb10, hb10s]) ?_
    refine w_exit ?_
    refine x_here ?_
    exact ⟨v7_2, by simp [hx7_0, hx7_1, hx7_2, hx7_3, hx7_4, hb4, hb4s, hb10, hb10s], h⟩
  replace hb10 := eq_false_of_ne_true hb10
  have hb10s := hb10; try simp at hb10s
  refine w_false (by simp [hb10, hb10s]) ?_
  refine w_skip ?_
  refine w_seq ?_
  refine w_st (by simp <;> rfl) ?_
  refine w_reg ?_
  refine k_run 7 (by simp [hx7_0, hx7_1, hx7_2, hx7_3, hx7_4] <;> rfl) ?_
  obtain ⟨v11, hv12, h⟩ := ob h
  apply k_call (by simp [hx7_0, hx7_1, hx7_2, hx7_3, hx7_4] <;> rfl) (by simp [hx7_0, hx7_1, hx7_2, hx7_3, hx7_4] <;> rfl)
  · first | exact run_impl_JoinOf hv12 | simpa [hx7_0, hx7_1, hx7_2, hx7_3, hx7_4] using run_impl_JoinOf hv12
  · simp [hx7_0, hx7_1, hx7_2, hx7_3, hx7_4] <;> rfl
  refine k_run 9 (by simp [hx7_0, hx7_1, hx7_2, hx7_3, hx7_4] <;> rfl) ?_
  refine k_nil ?_
  refine w_cut (fun x : Bool => ⟨[(0, ⟨.one, [.vw (.old 0) 6 (p0.map eGReq)]⟩), (1, ⟨.one, [.vw (.old 1) 2 (p1.map eGReply)]⟩), (2, ⟨.one, [.fn x_impl_MovedFrom_1 [.vp (.old 2) [eI c2_0]]]⟩), (7, ⟨.one, [.t (eI v7_2)]⟩), (10, ⟨.one, [.bp 10 0]⟩), (12, ⟨.one, [.vw (.old 0) 6 (p0.map eGReq)]⟩), (13, ⟨.one, [.t (eI (p0.length : Int))]⟩), (14, ⟨.one, [.t (eI v14_3)]⟩), (43, ⟨.one, [.t (.bool x)]⟩)], [(10, [.t (eI v11.1.Kind), .t (eI v11.1.Id), .t (eI v11.1.Cabin), .t (eI v11.1.From), .t (eI v11.1.Size), .t (eI v11.1.Tier)])], []⟩) (fun x => (d_impl_accepted__impl_MovedFrom_1_j3 (d_impl_accepted__impl_MovedFrom_1_l1 p0 p1 c2_0 n1) v14_3 v7_2 v11) x = some r) (fun j43_13 h => ?_) ?_
  · replace h : (d_impl_accepted__impl_MovedFrom_1_j3 (d_impl_accepted__impl_MovedFrom_1_l1 p0 p1 c2_0 n1) v14_3 v7_2 v11) j43_13 = some r := h
    rw [d_impl_accepted__impl_MovedFrom_1_j3] at h
    rcases oif' h with ⟨hb14, h⟩ | ⟨hb14, h⟩
    · replace hb14 := eq_false_of_ne_true hb14
      have hb14s := hb14; try simp at hb14s
      refine w_false (by simp [hb14, hb14s]) ?_
      refine w_skip ?_
      exact ⟨v7_2, by simp [hx7_0, hx7_1, hx7_2, hx7_3, hx7_4, hb4, hb4s, hb10, hb10s, hb14, hb14s], h⟩
    have hb14s := hb14; try simp at hb14s
    refine w_true (by simp [hb14, hb14s]) ?_
    refine w_st (by simp <;> rfl) ?_
    refine w_reg ?_
    refine k_run 8 (by simp [hx7_0, hx7_1, hx7_2, hx7_3, hx7_4] <;> rfl) ?_
    refine k_nil ?_
    exact ⟨(w64 (v7_2 + v11.1.Size)), by simp [hx7_0, hx7_1, hx7_2, hx7_3, hx7_4, hb4, hb4s, hb10, hb10s, hb14, hb14s], h⟩
  refine w_st (by simp <;> rfl) ?_
  refine w_reg ?_
  refine k_run 4 (by simp <;> rfl) ?_
  rcases oif' h with ⟨hb15, h⟩ | ⟨hb15, h⟩
  · replace hb15 := eq_false_of_ne_true hb15
    have hb15s := hb15; try simp at hb15s
    refine k_run 14 (by simp [hb15, hb15s, hx7_0, hx7_1, hx7_2, hx7_3, hx7_4] <;> rfl) ?_
    refine k_nil ?_
    exact ⟨false, by simp [hx7_0, hx7_1, hx7_2, hx7_3, hx7_4, hb4, hb4s, hb10, hb10s, hb15, hb15s], h⟩
  have hb15s := hb15; try simp at hb15s
  refine k_run 3 (by simp [hb15, hb15s, hx7_0, hx7_1, hx7_2, hx7_3, hx7_4] <;> rfl) ?_
  obtain ⟨v16, hv17, h⟩ := ob h
  apply k_callg (by simp [hb15, hb15s]) (by simp [hx7_0, hx7_1, hx7_2, hx7_3, hx7_4] <;> rfl) (by simp [hx7_0, hx7_1, hx7_2, hx7_3, hx7_4] <;> rfl)
  · first | exact run_impl_within hv17 | simpa [hx7_0, hx7_1, hx7_2, hx7_3, hx7_4] using run_impl_within hv17
  · simp [hx7_0, hx7_1, hx7_2, hx7_3, hx7_4] <;> rfl
  refine k_run 5 (by simp [hx7_0, hx7_1, hx7_2, hx7_3, hx7_4, hb15, hb15s] <;> rfl) ?_
  rcases oif' h with ⟨hb18, h⟩ | ⟨hb18, h⟩
  · replace hb18 := eq_false_of_ne_true hb18
    have hb18s := hb18; try simp at hb18s
    refine k_run 5 (by simp [hb18, hb18s, hx7_0, hx7_1, hx7_2, hx7_3, hx7_4] <;> rfl) ?_
    refine k_nil ?_
    exact ⟨false, by simp [hx7_0, hx7_1, hx7_2, hx7_3, hx7_4, hb4, hb4s, hb10, hb10s, hb15, hb15s, hb18, hb18s], h⟩
  have hb18s := hb18; try simp at hb18s
  refine k_run 2 (by simp [hb18, hb18s, hx7_0, hx7_1, hx7_2, hx7_3, hx7_4] <;> rfl) ?_
  obtain ⟨v19, hv20, h⟩ := ob h
  apply k_callg (by simp [hb18, hb18s]) (by simp [hx7_0, hx7_1, hx7_2, hx7_3, hx7_4] <;> rfl) (by simp [hx7_0, hx7_1, hx7_2, hx7_3, hx7_4] <;> rfl)
  · first | exact run_impl_MovedFrom_1 hv20 | simpa [hx7_0, hx7_1, hx7_2, hx7_3, hx7_4] using run_impl_MovedFrom_1 hv20
  · simp [hx7_0, hx7_1, hx7_2, hx7_3, hx7_4] <;> rfl
  refine k_run 2 (by simp [hx7_0, hx7_1, hx7_2, hx7_3, hx7_4, hb18, hb18s] <;> rfl) ?_
  refine k_nil ?_
  exact ⟨v19, by simp [hx7_0, hx7_1, hx7_2, hx7_3, hx7_4, hb4, hb4s, hb10, hb10s, hb15, hb15s, hb18, hb18s], h⟩

/-- impl.MovedFrom -/
def x_impl_MovedFrom : XFunc := .mk [.v, .v, .v] [.tmp 6] (.seq (.region [(none, .box 5 (.tmp 2)),
 (none, .drop [2]),
 (none, .as 6 (.k (.int .i64 0)))] [0, 1, 5]) (.seq (.region [(none, .mv 7 (.tmp 0)),
 (none, .mv 8 (.tmp 1)),
 (none, .mkfn 9 x_impl_MovedFrom_1 [(.tmp 5)]),
 (none, .call 10 x_impl_accepted__impl_MovedFrom_1 [(.tmp 7), (.tmp 8), (.tmp 9)]),
 (none, .drop [0, 1, 5, 7, 8, 9]),
 (none, .as 6 (.tmp 10))] [6]) (.ret)))
@[simp] theorem x_impl_MovedFrom_m : modes x_impl_MovedFrom = [.v, .v, .v] := rfl
def d_impl_MovedFrom (p0 : List GReq) (p1 : List GReply) (p2 : Int) : Option Int :=
  (d_impl_accepted__impl_MovedFrom_1 p0 p1 p2).bind fun v1 =>
  some v1
theorem run_impl_MovedFrom {p0 : List GReq} {p1 : List GReply} {p2 : Int} {r : Int} (h : d_impl_MovedFrom p0 p1 p2 = some r) : Runs x_impl_MovedFrom [.v .one [.sl 6 (p0.map eGReq)], .v .one [.sl 2 (p1.map eGReply)], .v .one [eI p2]] .one [eI r] [] := by
  refine Runs.mk (by simp <;> rfl) ?_ (by simp)
  rw [d_impl_MovedFrom] at h
  refine w_seq ?_
  refine w_reg ?_
  refine k_run 3 (by simp <;> rfl) ?_
  refine k_nil ?_
  refine w_seq ?_
  refine w_st (by simp <;> rfl) ?_
  refine w_reg ?_
  refine k_run 3 (by simp <;> rfl) ?_
  obtain ⟨v1, hv2, h⟩ := ob h
  apply k_call (by simp <;> rfl) (by simp <;> rfl)
  · first | exact run_impl_accepted__impl_MovedFrom_1 hv2 | simpa using run_impl_accepted__impl_MovedFrom_1 hv2
  · simp <;> rfl
  refine k_run 2 (by simp <;> rfl) ?_
  refine k_nil ?_
  refine w_st (by simp <;> rfl) ?_
  refine w_ret ?_
  obtain rfl := Option.some.inj h
  simp

/-- laws.FnExactMovedFrom -/
def x_laws_FnExactMovedFrom : XFunc := .mk [.v, .v, .v] [.tmp 6] (.seq (.region [(none, .as 6 (.k (.bool false)))] [0, 1, 2]) (.seq (.region [(none, .as 7 (.k (.int .i64 1048576)))] [0, 1, 2, 7]) (.seq (.region [(none, .mv 12 (.tmp 0)),
 (none, .mv 13 (.tmp 7)),
 (none, .drop [7]),
 (none, .call 14 x_laws_szReqS [(.tmp 12), (.tmp 13)]),
 (none, .drop [12, 13]),
 (none, .as 7 (.tmp 14))] [0, 1, 2, 7]) (.seq (.seq (.region [(none, .mv 15 (.tmp 7)),
 (none, .bin 16 .num .lss (.tmp 15) (.k (.int .i64 0)))] [0, 1, 2, 7, 16]) (.cond 16 [6] [0, 1, 2, 6, 7] (.seq (.region [(none, .as 6 (.k (.bool true)))] [6]) (.ret)) (.skip))) (.seq (.region [(none, .mv 17 (.tmp 1)),
 (none, .mv 18 (.tmp 7)),
 (none, .drop [7]),
 (none, .call 19 x_laws_szReplyS [(.tmp 17), (.tmp 18)]),
 (none, .drop [17, 18]),
 (none, .as 7 (.tmp 19))] [0, 1, 2, 7]) (.seq (.seq (.region [(none, .mv 20 (.tmp 7)),
 (none, .drop [7]),
 (none, .bin 21 .num .lss (.tmp 20) (.k (.int .i64 0)))] [0, 1, 2, 21]) (.cond 21 [6] [0, 1, 2, 6] (.seq (.region [(none, .as 6 (.k (.bool true)))] [6]) (.ret)) (.skip))) (.seq (.region [(none, .mv 22 (.tmp 0)),
 (none, .call 23 x_laws_toReqS [(.tmp 22)]),
 (none, .drop [22]),
 (none, .mv 24 (.tmp 1)),
 (none, .call 25 x_laws_toReplyS [(.tmp 24)]),
 (none, .drop [24]),
 (none, .mv 26 (.tmp 2)),
 (none, .call 27 x_spec_MovedFrom [(.tmp 23), (.tmp 25), (.tmp 26)]),
 (none, .drop [23, 25, 26]),
 (none, .as 8 (.tmp 27))] [0, 1, 2, 8]) (.seq (.region [(none, .mv 28 (.tmp 0)),
 (none, .call 29 x_laws_toReqS [(.tmp 28)]),
 (none, .drop [28]),
 (none, .as 9 (.tmp 29))] [0, 1, 2, 8, 9]) (.seq (.region [(none, .mv 30 (.tmp 1)),
 (none, .call 31 x_laws_toReplyS [(.tmp 30)]),
 (none, .drop [30]),
 (none, .as 10 (.tmp 31))] [0, 1, 2, 8, 9, 10]) (.seq (.region [(none, .mv 32 (.tmp 9)),
 (none, .mv 33 (.tmp 10)),
 (none, .mv 34 (.tmp 2)),
 (none, .drop [2]),
 (none, .call 35 x_impl_MovedFrom [(.tmp 32), (.tmp 33), (.tmp 34)]),
 (none, .drop [32, 33, 34]),
 (none, .as 11 (.tmp 35))] [0, 1, 8, 9, 10, 11]) (.seq (.seq (.region [(none, .mv 36 (.tmp 11)),
 (none, .drop [11]),
 (none, .mv 37 (.tmp 8)),
 (none, .drop [8]),
 (none, .bin 38 .num .neq (.tmp 36) (.tmp 37))] [0, 1, 9, 10, 38]) (.cond 38 [6] [0, 1, 6, 9, 10] (.seq (.region [(none, .as 6 (.k (.bool false)))] [6]) (.ret)) (.skip))) (.seq (.seq (.region [(none, .mv 39 (.tmp 9)),
 (none, .mv 40 (.tmp 0)),
 (none, .call 41 x_laws_toReqS [(.tmp 40)]),
 (none, .drop [0, 40]),
 (none, .call 42 x_laws_eqReqS [(.tmp 39), (.tmp 41)]),
 (none, .drop [9, 39, 41]),
 (none, .un 43 .not (.tmp 42))] [1, 10, 43]) (.cond 43 [6] [1, 6, 10] (.seq (.region [(none, .as 6 (.k (.bool false)))] [6]) (.ret)) (.skip))) (.seq (.seq (.region [(none, .mv 44 (.tmp 10)),
 (none, .mv 45 (.tmp 1)),
 (none, .call 46 x_laws_toReplyS [(.tmp 45)]),
 (none, .drop [1, 45]),
 (none, .call 47 x_laws_eqReplyS [(.tmp 44), (.tmp 46)]),
 (none, .drop [10, 44, 46]),
 (none, .un 48 .not (.tmp 47))] [48]) (.cond 48 [6] [6] (.seq (.region [(none, .as 6 (.k (.bool false)))] [6]) (.ret)) (.skip))) (.seq (.region [(none, .as 6 (.k (.bool true)))] [6]) (.ret)))))))))))))))
@[simp] theorem x_laws_FnExactMovedFrom_m : modes x_laws_FnExactMovedFrom = [.v, .v, .v] := rfl
def d_laws_FnExactMovedFrom (p0 : List GReq) (p1 : List GReply) (p2 : Int) : Option Bool :=
  (d_laws_szReqS p0 1048576).bind fun v1 =>
  if (decide (v1 < 0)) = true then
    some true
  else (d_laws_szReplyS p1 v1).bind fun v4 =>
  if (decide (v4 < 0)) = true then
    some true
  else (d_laws_toReqS p0).bind fun v7 =>
  (d_laws_toReplyS p1).bind fun v9 =>
  (d_spec_MovedFrom v7 v9 p2).bind fun v11 =>
  (d_laws_toReqS p0).bind fun v13 =>
  (d_laws_toReplyS p1).bind fun v15 =>
  (d_impl_MovedFrom v13 v15 p2).bind fun v17 =>
  if (v17 != v11) = true then
    some false
  else (d_laws_toReqS p0).bind fun v20 =>
  (d_laws_eqReqS v13 v20).bind fun v22 =>
  if (!v22) = true then
    some false
  else (d_laws_toReplyS p1).bind fun v25 =>
  (d_laws_eqReplyS v15 v25).bind fun v27 =>
  if (!v27) = true then
    some false
  else some true
theorem run_laws_FnExactMovedFrom {p0 : List GReq} {p1 : List GReply} {p2 : Int} {r : Bool} (h : d_laws_FnExactMovedFrom p0 p1 p2 = some r) : Runs x_laws_FnExactMovedFrom [.v .one [.sl 6 (p0.map eGReq)], .v .one [.sl 2 (p1.map eGReply)], .v .one [eI p2]] .one [.bool r] [] := by
  refine Runs.mk (by simp <;> rfl) ?_ (by simp)
  rw [d_laws_FnExactMovedFrom] at h
  refine w_seq ?_
  refine w_reg ?_
  refine k_run 1 (by simp <;> rfl) ?_
  refine k_nil ?_
  refine w_seq ?_
  refine w_st (by simp <;> rfl) ?_
  refine w_reg ?_
  refine k_run 1 (by simp <;> rfl) ?_
  refine k_nil ?_
  refine w_seq ?_
  refine w_st (by simp <;> rfl) ?_
  refine w_reg ?_
  refine k_run 3 (by simp <;> rfl) ?_
  obtain ⟨v1, hv2, h⟩ := ob h
  apply k_call (by simp <;> rfl) (by simp <;> rfl)
  · first | exact run_laws_szReqS hv2 | simpa using run_laws_szReqS hv2
  · simp <;> rfl
  refine k_run 2 (by simp <;> rfl) ?_
  refine k_nil ?_
  iterate 2 refine w_seq ?_
  refine w_st (by simp <;> rfl) ?_
  refine w_reg ?_
  refine k_run 2 (by simp <;> rfl) ?_
  refine k_nil ?_
  refine w_st (by simp <;> rfl) ?_
  rcases oif h with ⟨hb3, h⟩ | ⟨hb3, h⟩
  · have hb3s := hb3; try simp at hb3s
    refine w_true (by simp [hb3, hb3s]) ?_
    refine w_seq ?_
    refine w_st (by simp <;> rfl) ?_
    refine w_reg ?_
    refine k_run 1 (by simp <;> rfl) ?_
    refine k_nil ?_
    refine w_st (by simp <;> rfl) ?_
    refine w_ret ?_
    obtain rfl := Option.some.inj h
    simp [hb3, hb3s]
  replace hb3 := eq_false_of_ne_true hb3
  have hb3s := hb3; try simp at hb3s
  refine w_false (by simp [hb3, hb3s]) ?_
  refine w_skip ?_
  refine w_seq ?_
  refine w_st (by simp <;> rfl) ?_
  refine w_reg ?_
  refine k_run 3 (by simp <;> rfl) ?_
  obtain ⟨v4, hv5, h⟩ := ob h
  apply k_call (by simp <;> rfl) (by simp <;> rfl)
  · first | exact run_laws_szReplyS hv5 | simpa using run_laws_szReplyS hv5
  · simp <;> rfl
  refine k_run 2 (by simp <;> rfl) ?_
  refine k_nil ?_
  iterate 2 refine w_seq ?_
  refine w_st (by simp <;> rfl) ?_
  refine w_reg ?_
  refine k_run 3 (by simp <;> rfl) ?_
  refine k_nil ?_
  refine w_st (by simp <;> rfl) ?_
  rcases oif h with ⟨hb6, h⟩ | ⟨hb6, h⟩
  · have hb6s := hb6; try simp at hb6s
    refine w_true (by simp [hb6, hb6s]) ?_
    refine w_seq ?_
    refine w_st (by simp <;> rfl) ?_
    refine w_reg ?_
    refine k_run 1 (by simp <;> rfl) ?_
    refine k_nil ?_
    refine w_st (by simp <;> rfl) ?_
    refine w_ret ?_
    obtain rfl := Option.some.inj h
    simp [hb3, hb3s, hb6, hb6s]
  replace hb6 := eq_false_of_ne_true hb6
  have hb6s := hb6; try simp at hb6s
  refine w_false (by simp [hb6, hb6s]) ?_
  refine w_skip ?_
  refine w_seq ?_
  refine w_st (by simp <;> rfl) ?_
  refine w_reg ?_
  refine k_run 1 (by simp <;> rfl) ?_
  obtain ⟨v7, hv8, h⟩ := ob h
  apply k_call (by simp <;> rfl) (by simp <;> rfl)
  · first | exact run_laws_toReqS hv8 | simpa using run_laws_toReqS hv8
  · simp <;> rfl
  refine k_run 2 (by simp <;> rfl) ?_
  obtain ⟨v9, hv10, h⟩ := ob h
  apply k_call (by simp <;> rfl) (by simp <;> rfl)
  · first | exact run_laws_toReplyS hv10 | simpa using run_laws_toReplyS hv10
  · simp <;> rfl
  refine k_run 2 (by simp <;> rfl) ?_
  obtain ⟨v11, hv12, h⟩ := ob h
  apply k_call (by simp <;> rfl) (by simp <;> rfl)
  · first | exact run_spec_MovedFrom hv12 | simpa using run_spec_MovedFrom hv12
  · simp <;> rfl
  refine k_run 2 (by simp <;> rfl) ?_
  refine k_nil ?_
  refine w_seq ?_
  refine w_st (by simp <;> rfl) ?_
  refine w_reg ?_
  refine k_run 1 (by simp <;> rfl) ?_
  obtain ⟨v13, hv14, h⟩ := ob h
  apply k_call (by simp <;> rfl) (by simp <;> rfl)
  · first | exact run_laws_toReqS hv14 | simpa using run_laws_toReqS hv14
  · simp <;> rfl
  refine k_run 2 (by simp <;> rfl) ?_
  refine k_nil ?_
  refine w_seq ?_
  refine w_st (by simp <;> rfl) ?_
  refine w_reg ?_
  refine k_run 1 (by simp <;> rfl) ?_
  obtain ⟨v15, hv16, h⟩ := ob h
  apply k_call (by simp <;> rfl) (by simp <;> rfl)
  · first | exact run_laws_toReplyS hv16 | simpa using run_laws_toReplyS hv16
  · simp <;> rfl
  refine k_run 2 (by simp <;> rfl) ?_
  refine k_nil ?_
  refine w_seq ?_
  refine w_st (by simp <;> rfl) ?_
  refine w_reg ?_
  refine k_run 4 (by simp <;> rfl) ?_
  obtain ⟨v17, hv18, h⟩ := ob h
  apply k_call (by simp <;> rfl) (by simp <;> rfl)
  · first | exact run_impl_MovedFrom hv18 | simpa using run_impl_MovedFrom hv18
  · simp <;> rfl
  refine k_run 2 (by simp <;> rfl) ?_
  refine k_nil ?_
  iterate 2 refine w_seq ?_
  refine w_st (by simp <;> rfl) ?_
  refine w_reg ?_
  refine k_run 5 (by simp <;> rfl) ?_
  refine k_nil ?_
  refine w_st (by simp <;> rfl) ?_
  rcases oif h with ⟨hb19, h⟩ | ⟨hb19, h⟩
  · have hb19s := hb19; try simp at hb19s
    refine w_true (by simp [hb19, hb19s]) ?_
    refine w_seq ?_
    refine w_st (by simp <;> rfl) ?_
    refine w_reg ?_
    refine k_run 1 (by simp <;> rfl) ?_
    refine k_nil ?_
    refine w_st (by simp <;> rfl) ?_
    refine w_ret ?_
    obtain rfl := Option.some.inj h
    simp [hb3, hb3s, hb6, hb6s, hb19, hb19s]
  replace hb19 := eq_false_of_ne_true hb19
  have hb19s := hb19; try simp at hb19s
  refine w_false (by simp [hb19, hb19s]) ?_
  refine w_skip ?_
  iterate 2 refine w_seq ?_
  refine w_st (by simp <;> rfl) ?_
  refine w_reg ?_
  refine k_run 2 (by simp <;> rfl) ?_
  obtain ⟨v20, hv21, h⟩ := ob h
  apply k_call (by simp <;> rfl) (by simp <;> rfl)
  · first | exact run_laws_toReqS hv21 | simpa using run_laws_toReqS hv21
  · simp <;> rfl
  refine k_run 1 (by simp <;> rfl) ?_
  obtain ⟨v22, hv23, h⟩ := ob h
  apply k_call (by simp <;> rfl) (by simp <;> rfl)
  · first | exact run_laws_eqReqS hv23 | simpa using run_laws_eqReqS hv23
  · simp <;> rfl
  refine k_run 2 (by simp <;> rfl) ?_
  refine k_nil ?_
  refine w_st (by simp <;> rfl) ?_
  rcases oif h with ⟨hb24, h⟩ | ⟨hb24, h⟩
  · have hb24s := hb24; try simp at hb24s
    refine w_true (by simp [hb24, hb24s]) ?_
    refine w_seq ?_
    refine w_st (by simp <;> rfl) ?_
    refine w_reg ?_
    refine k_run 1 (by simp <;> rfl) ?_
    refine k_nil ?_
    refine w_st (by simp <;> rfl) ?_
    refine w_ret ?_
    obtain rfl := Option.some.inj h
    simp [hb3, hb3s, hb6, hb6s, hb19, hb19s, hb24, hb24s]
  replace hb24 := eq_false_of_ne_true hb24
  have hb24s := hb24; try simp at hb24s
  refine w_false (by simp [hb24, hb24s]) ?_
  refine w_skip ?_
  iterate 2 refine w_seq ?_
  refine w_st (by simp <;> rfl) ?_
  refine w_reg ?_
  refine k_run 2 (by simp <;> rfl) ?_
  obtain ⟨v25, hv26, h⟩ := ob h
  apply k_call (by simp <;> rfl) (by simp <;> rfl)
  · first | exact run_laws_toReplyS hv26 | simpa using run_laws_toReplyS hv26
  · simp <;> rfl
  refine k_run 1 (by simp <;> rfl) ?_
  obtain ⟨v27, hv28, h⟩ := ob h
  apply k_call (by simp <;> rfl) (by simp <;> rfl)
  · first | exact run_laws_eqReplyS hv28 | simpa using run_laws_eqReplyS hv28
  · simp <;> rfl
  refine k_run 2 (by simp <;> rfl) ?_
  refine k_nil ?_
  refine w_st (by simp <;> rfl) ?_
  rcases oif h with ⟨hb29, h⟩ | ⟨hb29, h⟩
  · have hb29s := hb29; try simp at hb29s
    refine w_true (by simp [hb29, hb29s]) ?_
    refine w_seq ?_
    refine w_st (by simp <;> rfl) ?_
    refine w_reg ?_
    refine k_run 1 (by simp <;> rfl) ?_
    refine k_nil ?_
    refine w_st (by simp <;> rfl) ?_
    refine w_ret ?_
    obtain rfl := Option.some.inj h
    simp [hb3, hb3s, hb6, hb6s, hb19, hb19s, hb24, hb24s, hb29, hb29s]
  replace hb29 := eq_false_of_ne_true hb29
  have hb29s := hb29; try simp at hb29s
  refine w_false (by simp [hb29, hb29s]) ?_
  refine w_skip ?_
  refine w_seq ?_
  refine w_st (by simp <;> rfl) ?_
  refine w_reg ?_
  refine k_run 1 (by simp <;> rfl) ?_
  refine k_nil ?_
  refine w_st (by simp <;> rfl) ?_
  refine w_ret ?_
  obtain rfl := Option.some.inj h
  simp [hb3, hb3s, hb6, hb6s, hb19, hb19s, hb24, hb24s, hb29, hb29s]

/-- spec.SoldBy -/
def x_spec_SoldBy : XFunc := .mk [.v, .v, .v] [.tmp 6] (.seq (.region [(none, .as 6 (.k (.int .i64 0)))] [0, 1, 2]) (.seq (.region [(none, .mv 7 (.tmp 0)),
 (none, .mv 8 (.tmp 1)),
 (none, .mv 9 (.tmp 2)),
 (none, .drop [2]),
 (none, .call 10 x_spec_l24Taken [(.tmp 7), (.tmp 8), (.tmp 9), (.k (.bool false))]),
 (none, .drop [0, 1, 7, 8, 9]),
 (none, .as 6 (.tmp 10))] [6]) (.ret)))
@[simp] theorem x_spec_SoldBy_m : modes x_spec_SoldBy = [.v, .v, .v] := rfl
def d_spec_SoldBy (p0 : List GReq) (p1 : List GReply) (p2 : Int) : Option Int :=
  (d_spec_l24Taken p0 p1 p2 false).bind fun v1 =>
  some v1
theorem run_spec_SoldBy {p0 : List GReq} {p1 : List GReply} {p2 : Int} {r : Int} (h : d_spec_SoldBy p0 p1 p2 = some r) : Runs x_spec_SoldBy [.v .one [.sl 6 (p0.map eGReq)], .v .one [.sl 2 (p1.map eGReply)], .v .one [eI p2]] .one [eI r] [] := by
  refine Runs.mk (by simp <;> rfl) ?_ (by simp)
  rw [d_spec_SoldBy] at h
  refine w_seq ?_
  refine w_reg ?_
  refine k_run 1 (by simp <;> rfl) ?_
  refine k_nil ?_
  refine w_seq ?_
  refine w_st (by simp <;> rfl) ?_
  refine w_reg ?_
  refine k_run 4 (by simp <;> rfl) ?_
  obtain ⟨v1, hv2, h⟩ := ob h
  apply k_call (by simp <;> rfl) (by simp <;> rfl)
  · first | exact run_spec_l24Taken hv2 | simpa using run_spec_l24Taken hv2
  · simp <;> rfl
  refine k_run 2 (by simp <;> rfl) ?_
  refine k_nil ?_
  refine w_st (by simp <;> rfl) ?_
  refine w_ret ?_
  obtain rfl := Option.some.inj h
  simp

/-- impl.SoldBy$1 -/
def x_impl_SoldBy_1 : XFunc := .mk [.v, .p] [.tmp 3] (.seq (.region [(none, .box 2 (.tmp 0)),
 (none, .drop [0]),
 (none, .as 3 (.k (.bool false)))] [1, 2]) (.seq (.region [(none, .fa 4 2 (.tmp 2)),
 (none, .ld 5 none (.tmp 4)),
 (none, .drop [2, 4]),
 (none, .ld 6 none (.tmp 1)),
 (none, .drop [1]),
 (none, .bin 7 .num .eql (.tmp 5) (.tmp 6)),
 (none, .drop [5, 6]),
 (none, .as 3 (.tmp 7))] [3]) (.ret)))
@[simp] theorem x_impl_SoldBy_1_m : modes x_impl_SoldBy_1 = [.v, .p] := rfl
def d_impl_SoldBy_1 (p0 : GReq) (p1 : Int) : Option Bool :=
  some (p0.Cabin == p1)
theorem run_impl_SoldBy_1 {p0 : GReq} {p1 : Int} {r : Bool} (h : d_impl_SoldBy_1 p0 p1 = some r) : Runs x_impl_SoldBy_1 [.v .agg [eI p0.Kind, eI p0.Id, eI p0.Cabin, eI p0.From, eI p0.Size, eI p0.Tier], .p [eI p1]] .one [.bool r] [] := by
  refine Runs.mk (by simp <;> rfl) ?_ (by simp)
  rw [d_impl_SoldBy_1] at h
  refine w_seq ?_
  refine w_reg ?_
  refine k_run 3 (by simp <;> rfl) ?_
  refine k_nil ?_
  refine w_seq ?_
  refine w_st (by simp <;> rfl) ?_
  refine w_reg ?_
  refine k_run 8 (by simp <;> rfl) ?_
  refine k_nil ?_
  refine w_st (by simp <;> rfl) ?_
  refine w_ret ?_
  obtain rfl := Option.some.inj h
  simp

/-- impl.accepted -/
def x_impl_accepted__impl_SoldBy_1 : XFunc := .mk [.v, .v, .v] [.tmp 6] (.seq (.region [(none, .as 6 (.k (.int .i64 0)))] [0, 1, 2]) (.seq (.region [(none, .as 7 (.k (.int .i64 0)))] [0, 1, 2, 7]) (.seq (.seq (.region [(none, .mv 12 (.tmp 0)),
 (none, .len 13 (.tmp 12)),
 (none, .mv 14 (.k (.int .i64 0)))] [0, 1, 2, 7, 12, 13, 14]) (.block 0 (.loop (.seq (.region [(none, .bin 15 .num .lss (.tmp 14) (.tmp 13))] [0, 1, 2, 7, 12, 13, 14, 15]) (.seq (.cond 15 [0, 1, 2, 6, 7, 12, 13, 14] [6, 7] (.skip) (.exit 0)) (.seq (.block 1 (.seq (.region [(none, .mv 16 (.tmp 14)),
 (none, .ia 17 6 (.tmp 12) (.tmp 14)),
 (none, .ld 18 (some 6) (.tmp 17)),
 (none, .drop [17]),
 (none, .alloc 9 [.int .i64 0, .int .i64 0, .int .i64 0, .int .i64 0, .int .i64 0, .int .i64 0]),
 (none, .as 8 (.tmp 16)),
 (none, .drop [16]),
 (none, .st 6 (.tmp 9) (.tmp 18))] [0, 1, 2, 7, 8, 9, 12, 13, 14]) (.seq (.seq (.region [(none, .mv 19 (.tmp 0)),
 (none, .mv 20 (.tmp 1)),
 (none, .mv 21 (.tmp 8)),
 (none, .call 22 x_impl_successful [(.tmp 19), (.tmp 20), (.tmp 21), (.k (.int .i64 4))]),
 (none, .drop [19, 20, 21]),
 (none, .un 23 .not (.tmp 22))] [0, 1, 2, 7, 8, 9, 12, 13, 14, 23]) (.cond 23 [0, 1, 2, 6, 7, 12, 13, 14] [0, 1, 2, 6, 7, 8, 9, 12, 13, 14] (.exit 1) (.skip))) (.seq (.region [(none, .mv 25 (.tmp 0)),
 (none, .mv 26 (.tmp 1)),
 (none, .fa 27 1 (.tmp 9)),
 (none, .ld 28 none (.tmp 27)),
 (none, .drop [9, 27]),
 (none, .mv 29 (.tmp 8)),
 (none, .drop [8]),
 (none, .call 30 x_impl_JoinOf [(.tmp 25), (.tmp 26), (.tmp 28), (.tmp 29)]),
 (none, .drop [25, 26, 28, 29]),
 (none, .mv 24 (.tmp 30)),
 (none, .ext 31 (.tmp 24) 0),
 (none, .ext 32 (.tmp 24) 1),
 (none, .drop [24, 30]),
 (none, .alloc 10 [.int .i64 0, .int .i64 0, .int .i64 0, .int .i64 0, .int .i64 0, .int .i64 0]),
 (none, .st 6 (.tmp 10) (.tmp 31)),
 (none, .drop [31]),
 (none, .as 11 (.tmp 32))] [0, 1, 2, 7, 10, 11, 12, 13, 14]) (.seq (.region [(none, .mv 33 (.tmp 11)),
 (none, .drop [11]),
 (none, .mv 34 (.tmp 33)),
 (none, .drop [33]),
 ((some (34, true)), .fa 35 4 (.tmp 10)),
 ((some (34, true)), .ld 36 none (.tmp 35)),
 (none, .drop [35]),
 ((some (34, true)), .call 37 x_impl_within [(.tmp 36), (.k (.int .i64 1)), (.k (.int .i64 6))]),
 (none, .drop [36]),
 (none, .pick 38 (.tmp 34) (.tmp 37) (.k (.bool false))),
 (none, .drop [34, 37]),
 (none, .mv 39 (.tmp 38)),
 (none, .drop [38]),
 ((some (39, true)), .mv 40 (.tmp 2)),
 ((some (39, true)), .ld 41 (some 6) (.tmp 10)),
 ((some (39, true)), .callv 42 (.tmp 40) [.v, .p] [(.tmp 41)]),
 (none, .drop [40, 41]),
 (none, .pick 43 (.tmp 39) (.tmp 42) (.k (.bool false)))] [0, 1, 2, 7, 10, 12, 13, 14, 43]) (.cond 43 [0, 1, 2, 6, 7, 10, 12, 13, 14] [0, 1, 2, 6, 7, 12, 13, 14] (.region [(none, .mv 44 (.tmp 7)),
 (none, .drop [7]),
 (none, .fa 45 4 (.tmp 10)),
 (none, .ld 46 none (.tmp 45)),
 (none, .drop [10, 45]),
 (none, .bin 47 .num .add (.tmp 44) (.tmp 46)),
 (none, .drop [44, 46]),
 (none, .as 7 (.tmp 47))] [0, 1, 2, 7, 12, 13, 14]) (.skip))))))) (.region [(none, .bin 48 .num .add (.tmp 14) (.k (.int .i64 1))),
 (none, .drop [14]),
 (none, .mv 14 (.tmp 48))] [0, 1, 2, 7, 12, 13, 14]))))))) (.seq (.region [(none, .mv 49 (.tmp 7)),
 (none, .drop [7]),
 (none, .as 6 (.tmp 49))] [6]) (.ret)))))
@[simp] theorem x_impl_accepted__impl_SoldBy_1_m : modes x_impl_accepted__impl_SoldBy_1 = [.v, .v, .v] := rfl
@[simp] def d_impl_accepted__impl_SoldBy_1_j1 (j7_1 : Int) : Option Int :=
  some j7_1
@[simp] def d_impl_accepted__impl_SoldBy_1_j2 (L1 : Int × Int → Option Int) (v14_3 : Int) (j7_5 : Int) : Option Int :=
  L1 (j7_5, (w64 (v14_3 + 1)))
@[simp] def d_impl_accepted__impl_SoldBy_1_j3 (L1 : Int × Int → Option Int) (v14_3 : Int) (v7_2 : Int) (v11 : GReq × Bool) (j43_13 : Bool) : Option Int :=
  if j43_13 = true then
      (d_impl_accepted__impl_SoldBy_1_j2 L1 v14_3) (w64 (v7_2 + v11.1.Size))
    else (d_impl_accepted__impl_SoldBy_1_j2 L1 v14_3) v7_2
def d_impl_accepted__impl_SoldBy_1_l1 (p0 : List GReq) (p1 : List GReply) (c2_0 : Int) : Nat → Int × Int → Option Int
  | 0, _ => none
  | n1 + 1, (v7_2, v14_3) => if (decide (v14_3 < (p0.length : Int))) = true then
      (at? p0 v14_3).bind fun x6 =>
      (d_impl_successful p0 p1 v14_3 4).bind fun v8 =>
      if (!v8) = true then
        (d_impl_accepted__impl_SoldBy_1_j2 (d_impl_accepted__impl_SoldBy_1_l1 p0 p1 c2_0 n1) v14_3) v7_2
      else (d_impl_JoinOf p0 p1 x6.Id v14_3).bind fun v11 =>
      if v11.2 = true then
        (d_impl_within v11.1.Size 1 6).bind fun v16 =>
        if v16 = true then
          (d_impl_SoldBy_1 v11.1 c2_0).bind fun v19 =>
          (d_impl_accepted__impl_SoldBy_1_j3 (d_impl_accepted__impl_SoldBy_1_l1 p0 p1 c2_0 n1) v14_3 v7_2 v11) v19
        else (d_impl_accepted__impl_SoldBy_1_j3 (d_impl_accepted__impl_SoldBy_1_l1 p0 p1 c2_0 n1) v14_3 v7_2 v11) false
      else (d_impl_accepted__impl_SoldBy_1_j3 (d_impl_accepted__impl_SoldBy_1_l1 p0 p1 c2_0 n1) v14_3 v7_2 v11) false
    else d_impl_accepted__impl_SoldBy_1_j1 v7_2
def d_impl_accepted__impl_SoldBy_1 (p0 : List GReq) (p1 : List GReply) (c2_0 : Int) : Option Int :=
  d_impl_accepted__impl_SoldBy_1_l1 p0 p1 c2_0 big (0, 0)
theorem run_impl_accepted__impl_SoldBy_1 {p0 : List GReq} {p1 : List GReply} {c2_0 : Int} {r : Int} (h : d_impl_accepted__impl_SoldBy_1 p0 p1 c2_0 = some r) : Runs x_impl_accepted__impl_SoldBy_1 [.v .one [.sl 6 (p0.map eGReq)], .v .one [.sl 2 (p1.map eGReply)], .f x_impl_SoldBy_1 [.p [eI c2_0]]] .one [eI r] [] := by
  refine Runs.mk (by simp <;> rfl) ?_ (by simp)
  rw [d_impl_accepted__impl_SoldBy_1] at h
  refine w_seq ?_
  refine w_reg ?_
  refine k_run 1 (by simp <;> rfl) ?_
  refine k_nil ?_
  refine w_seq ?_
  refine w_st (by simp <;> rfl) ?_
  refine w_reg ?_
  refine k_run 1 (by simp <;> rfl) ?_
  refine k_nil ?_
  refine w_cut (fun x : Int => ⟨[(7, ⟨.one, [.t (eI x)]⟩)], [], []⟩) (fun x => d_impl_accepted__impl_SoldBy_1_j1 x = some r) (fun j7_1 h => ?_) ?_
  · replace h : d_impl_accepted__impl_SoldBy_1_j1 j7_1 = some r := h
    rw [d_impl_accepted__impl_SoldBy_1_j1] at h
    refine w_seq ?_
    refine w_reg ?_
    refine k_run 3 (by simp <;> rfl) ?_
    refine k_nil ?_
    refine w_st (by simp <;> rfl) ?_
    refine w_ret ?_
    obtain rfl := Option.some.inj h
    simp
  refine w_seq ?_
  refine w_st (by simp <;> rfl) ?_
  refine w_reg ?_
  refine k_run 3 (by simp <;> rfl) ?_
  refine k_nil ?_
  refine w_block ?_
  refine w_fuel (fun x : Int × Int => ⟨[(0, ⟨.one, [.vw (.old 0) 6 (p0.map eGReq)]⟩), (1, ⟨.one, [.vw (.old 1) 2 (p1.map eGReply)]⟩), (2, ⟨.one, [.fn x_impl_SoldBy_1 [.vp (.old 2) [eI c2_0]]]⟩), (7, ⟨.one, [.t (eI x.1)]⟩), (12, ⟨.one, [.vw (.old 0) 6 (p0.map eGReq)]⟩), (13, ⟨.one, [.t (eI (p0.length : Int))]⟩), (14, ⟨.one, [.t (eI x.2)]⟩)], [], []⟩) (fun n1 x => d_impl_accepted__impl_SoldBy_1_l1 p0 p1 c2_0 n1 x) (n := big) (x := (0, 0)) (fun n1 x h T ih1 => ?_) (fun x h => by simp [d_impl_accepted__impl_SoldBy_1_l1] at h) (by simp) h
  obtain ⟨v7_2, v14_3⟩ := x
  replace h : d_impl_accepted__impl_SoldBy_1_l1 p0 p1 c2_0 (n1 + 1) (v7_2, v14_3) = some r := h
  rw [d_impl_accepted__impl_SoldBy_1_l1] at h
  refine w_seq ?_
  refine w_reg ?_
  refine k_run 1 (by simp <;> rfl) ?_
  refine k_nil ?_
  refine w_seq ?_
  refine w_st (by simp <;> rfl) ?_
  rcases oif' h with ⟨hb4, h⟩ | ⟨hb4, h⟩
  · replace hb4 := eq_false_of_ne_true hb4
    have hb4s := hb4; try simp at hb4s
    refine w_false (by simp [hb4, hb4s]) ?_
    refine w_exit ?_
    refine x_here ?_
    exact ⟨v7_2, by simp [hb4, hb4s], h⟩
  have hb4s := hb4; try simp at hb4s
  refine w_true (by simp [hb4, hb4s]) ?_
  refine w_skip ?_
  refine w_cut (fun x : Int => ⟨[(0, ⟨.one, [.vw (.old 0) 6 (p0.map eGReq)]⟩), (1, ⟨.one, [.vw (.old 1) 2 (p1.map eGReply)]⟩), (2, ⟨.one, [.fn x_impl_SoldBy_1 [.vp (.old 2) [eI c2_0]]]⟩), (7, ⟨.one, [.t (eI x)]⟩), (12, ⟨.one, [.vw (.old 0) 6 (p0.map eGReq)]⟩), (13, ⟨.one, [.t (eI (p0.length : Int))]⟩), (14, ⟨.one, [.t (eI v14_3)]⟩)], [], []⟩) (fun x => (d_impl_accepted__impl_SoldBy_1_j2 (d_impl_accepted__impl_SoldBy_1_l1 p0 p1 c2_0 n1) v14_3) x = some r) (fun j7_5 h => ?_) ?_
  · replace h : (d_impl_accepted__impl_SoldBy_1_j2 (d_impl_accepted__impl_SoldBy_1_l1 p0 p1 c2_0 n1) v14_3) j7_5 = some r := h
    rw [d_impl_accepted__impl_SoldBy_1_j2] at h
    refine w_reg ?_
    refine k_run 3 (by simp <;> rfl) ?_
    refine k_nil ?_
    refine t_st (T := T) ?_ (ih1 _ h)
    simp [hb4, hb4s]
  refine w_block ?_
  refine w_seq ?_
  refine w_st (by simp <;> rfl) ?_
  refine w_reg ?_
  refine k_run 1 (by simp <;> rfl) ?_
  obtain ⟨x6, hx7, h⟩ := ob h
  obtain ⟨hx7_0, hx7_1, hx7_2, hx7_3, hx7_4⟩ := at_facts hx7
  refine k_run 7 (by simp [hx7_0, hx7_1, hx7_2, hx7_3, hx7_4] <;> rfl) ?_
  refine k_nil ?_
  iterate 2 refine w_seq ?_
  refine w_st (by simp <;> rfl) ?_
  refine w_reg ?_
  refine k_run 3 (by simp <;> rfl) ?_
  obtain ⟨v8, hv9, h⟩ := ob h
  apply k_call (by simp [hx7_0, hx7_1, hx7_2, hx7_3, hx7_4] <;> rfl) (by simp [hx7_0, hx7_1, hx7_2, hx7_3, hx7_4] <;> rfl)
  · first | exact run_impl_successful hv9 | simpa [hx7_0, hx7_1, hx7_2, hx7_3, hx7_4] using run_impl_successful hv9
  · simp [hx7_0, hx7_1, hx7_2, hx7_3, hx7_4] <;> rfl
  refine k_run 2 (by simp <;> rfl) ?_
  refine k_nil ?_
  refine w_st (by simp <;> rfl) ?_
  rcases oif h with ⟨hb10, h⟩ | ⟨hb10, h⟩
  · have hb10s := hb10; try simp at hb10s
    refine w_true (by simp [hb10, hb10s]) ?_
    refine w_exit ?_
    refine x_here ?_
    exact ⟨v7_2, by simp [hx7_0, hx7_1, hx7_2, hx7_3, hx7_4, hb4, hb4s, hb10, hb10s], h⟩
  replace hb10 := eq_false_of_ne_true hb10
  have hb10s := hb10; try simp at hb10s
  refine w_false (by simp [hb10, hb10s]) ?_
  refine w_skip ?_
  refine w_seq ?_
  refine w_st (by simp <;> rfl) ?_
  refine w_reg ?_
  refine k_run 7 (by simp [hx7_0, hx7_1, hx7_2, hx7_3, hx7_4] <;> rfl) ?_
  obtain ⟨v11, hv12, h⟩ := ob h
  apply k_call (by simp [hx7_0, hx7_1, hx7_2, hx7_3, hx7_4] <;> rfl) (by simp [hx7_0, hx7_1, hx7_2, hx7_3, hx7_4] <;> rfl)
  · first | exact run_impl_JoinOf hv12 | simpa [hx7_0, hx7_1, hx7_2, hx7_3, hx7_4] using run_impl_JoinOf hv12
  · simp [hx7_0, hx7_1, hx7_2, hx7_3, hx7_4] <;> rfl
  refine k_run 9 (by simp [hx7_0, hx7_1, hx7_2, hx7_3, hx7_4] <;> rfl) ?_
  refine k_nil ?_
  refine w_cut (fun x : Bool => ⟨[(0, ⟨.one, [.vw (.old 0) 6 (p0.map eGReq)]⟩), (1, ⟨.one, [.vw (.old 1) 2 (p1.map eGReply)]⟩), (2, ⟨.one, [.fn x_impl_SoldBy_1 [.vp (.old 2) [eI c2_0]]]⟩), (7, ⟨.one, [.t (eI v7_2)]⟩), (10, ⟨.one, [.bp 10 0]⟩), (12, ⟨.one, [.vw (.old 0) 6 (p0.map eGReq)]⟩), (13, ⟨.one, [.t (eI (p0.length : Int))]⟩), (14, ⟨.one, [.t (eI v14_3)]⟩), (43, ⟨.one, [.t (.bool x)]⟩)], [(10, [.t (eI v11.1.Kind), .t (eI v11.1.Id), .t (eI v11.1.Cabin), .t (eI v11.1.From), .t (eI v11.1.Size), .t (eI v11.1.Tier)])], []⟩) (fun x => (d_impl_accepted__impl_SoldBy_1_j3 (d_impl_accepted__impl_SoldBy_1_l1 p0 p1 c2_0 n1) v14_3 v7_2 v11) x = some r) (fun j43_13 h => ?_) ?_
  · replace h : (d_impl_accepted__impl_SoldBy_1_j3 (d_impl_accepted__impl_SoldBy_1_l1 p0 p1 c2_0 n1) v14_3 v7_2 v11) j43_13 = some r := h
    rw [d_impl_accepted__impl_SoldBy_1_j3] at h
    rcases oif' h with ⟨hb14, h⟩ | ⟨hb14, h⟩
    · replace hb14 := eq_false_of_ne_true hb14
      have hb14s := hb14; try simp at hb14s
      refine w_false (by simp [hb14, hb14s]) ?_
      refine w_skip ?_
      exact ⟨v7_2, by simp [hx7_0, hx7_1, hx7_2, hx7_3, hx7_4, hb4, hb4s, hb10, hb10s, hb14, hb14s], h⟩
    have hb14s := hb14; try simp at hb14s
    refine w_true (by simp [hb14, hb14s]) ?_
    refine w_st (by simp <;> rfl) ?_
    refine w_reg ?_
    refine k_run 8 (by simp [hx7_0, hx7_1, hx7_2, hx7_3, hx7_4] <;> rfl) ?_
    refine k_nil ?_
    exact ⟨(w64 (v7_2 + v11.1.Size)), by simp [hx7_0, hx7_1, hx7_2, hx7_3, hx7_4, hb4, hb4s, hb10, hb10s, hb14, hb14s], h⟩
  refine w_st (by simp <;> rfl) ?_
  refine w_reg ?_
  refine k_run 4 (by simp <;> rfl) ?_
  rcases oif' h with ⟨hb15, h⟩ | ⟨hb15, h⟩
  · replace hb15 := eq_false_of_ne_true hb15
    have hb15s := hb15; try simp at hb15s
    refine k_run 14 (by simp [hb15, hb15s, hx7_0, hx7_1, hx7_2, hx7_3, hx7_4] <;> rfl) ?_
    refine k_nil ?_
    exact ⟨false, by simp [hx7_0, hx7_1, hx7_2, hx7_3, hx7_4, hb4, hb4s, hb10, hb10s, hb15, hb15s], h⟩
  have hb15s := hb15; try simp at hb15s
  refine k_run 3 (by simp [hb15, hb15s, hx7_0, hx7_1, hx7_2, hx7_3, hx7_4] <;> rfl) ?_
  obtain ⟨v16, hv17, h⟩ := ob h
  apply k_callg (by simp [hb15, hb15s]) (by simp [hx7_0, hx7_1, hx7_2, hx7_3, hx7_4] <;> rfl) (by simp [hx7_0, hx7_1, hx7_2, hx7_3, hx7_4] <;> rfl)
  · first | exact run_impl_within hv17 | simpa [hx7_0, hx7_1, hx7_2, hx7_3, hx7_4] using run_impl_within hv17
  · simp [hx7_0, hx7_1, hx7_2, hx7_3, hx7_4] <;> rfl
  refine k_run 5 (by simp [hx7_0, hx7_1, hx7_2, hx7_3, hx7_4, hb15, hb15s] <;> rfl) ?_
  rcases oif' h with ⟨hb18, h⟩ | ⟨hb18, h⟩
  · replace hb18 := eq_false_of_ne_true hb18
    have hb18s := hb18; try simp at hb18s
    refine k_run 5 (by simp [hb18, hb18s, hx7_0, hx7_1, hx7_2, hx7_3, hx7_4] <;> rfl) ?_
    refine k_nil ?_
    exact ⟨false, by simp [hx7_0, hx7_1, hx7_2, hx7_3, hx7_4, hb4, hb4s, hb10, hb10s, hb15, hb15s, hb18, hb18s], h⟩
  have hb18s := hb18; try simp at hb18s
  refine k_run 2 (by simp [hb18, hb18s, hx7_0, hx7_1, hx7_2, hx7_3, hx7_4] <;> rfl) ?_
  obtain ⟨v19, hv20, h⟩ := ob h
  apply k_callg (by simp [hb18, hb18s]) (by simp [hx7_0, hx7_1, hx7_2, hx7_3, hx7_4] <;> rfl) (by simp [hx7_0, hx7_1, hx7_2, hx7_3, hx7_4] <;> rfl)
  · first | exact run_impl_SoldBy_1 hv20 | simpa [hx7_0, hx7_1, hx7_2, hx7_3, hx7_4] using run_impl_SoldBy_1 hv20
  · simp [hx7_0, hx7_1, hx7_2, hx7_3, hx7_4] <;> rfl
  refine k_run 2 (by simp [hx7_0, hx7_1, hx7_2, hx7_3, hx7_4, hb18, hb18s] <;> rfl) ?_
  refine k_nil ?_
  exact ⟨v19, by simp [hx7_0, hx7_1, hx7_2, hx7_3, hx7_4, hb4, hb4s, hb10, hb10s, hb15, hb15s, hb18, hb18s], h⟩

/-- impl.SoldBy -/
def x_impl_SoldBy : XFunc := .mk [.v, .v, .v] [.tmp 6] (.seq (.region [(none, .box 5 (.tmp 2)),
 (none, .drop [2]),
 (none, .as 6 (.k (.int .i64 0)))] [0, 1, 5]) (.seq (.region [(none, .mv 7 (.tmp 0)),
 (none, .mv 8 (.tmp 1)),
 (none, .mkfn 9 x_impl_SoldBy_1 [(.tmp 5)]),
 (none, .call 10 x_impl_accepted__impl_SoldBy_1 [(.tmp 7), (.tmp 8), (.tmp 9)]),
 (none, .drop [0, 1, 5, 7, 8, 9]),
 (none, .as 6 (.tmp 10))] [6]) (.ret)))
@[simp] theorem x_impl_SoldBy_m : modes x_impl_SoldBy = [.v, .v, .v] := rfl
def d_impl_SoldBy (p0 : List GReq) (p1 : List GReply) (p2 : Int) : Option Int :=
  (d_impl_accepted__impl_SoldBy_1 p0 p1 p2).bind fun v1 =>
  some v1
theorem run_impl_SoldBy {p0 : List GReq} {p1 : List GReply} {p2 : Int} {r : Int} (h : d_impl_SoldBy p0 p1 p2 = some r) : Runs x_impl_SoldBy [.v .one [.sl 6 (p0.map eGReq)], .v .one [.sl 2 (p1.map eGReply)], .v .one [eI p2]] .one [eI r] [] := by
  refine Runs.mk (by simp <;> rfl) ?_ (by simp)
  rw [d_impl_SoldBy] at h
  refine w_seq ?_
  refine w_reg ?_
  refine k_run 3 (by simp <;> rfl) ?_
  refine k_nil ?_
  refine w_seq ?_
  refine w_st (by simp <;> rfl) ?_
  refine w_reg ?_
  refine k_run 3 (by simp <;> rfl) ?_
  obtain ⟨v1, hv2, h⟩ := ob h
  apply k_call (by simp <;> rfl) (by simp <;> rfl)
  · first | exact run_impl_accepted__impl_SoldBy_1 hv2 | simpa using run_impl_accepted__impl_SoldBy_1 hv2
  · simp <;> rfl
  refine k_run 2 (by simp <;> rfl) ?_
  refine k_nil ?_
  refine w_st (by simp <;> rfl) ?_
  refine w_ret ?_
  obtain rfl := Option.some.inj h
  simp

/-- laws.FnExactSoldBy -/
def x_laws_FnExactSoldBy : XFunc := .mk [.v, .v, .v] [.tmp 6] (.seq (.region [(none, .as 6 (.k (.bool false)))] [0, 1, 2]) (.seq (.region [(none, .as 7 (.k (.int .i64 1048576)))] [0, 1, 2, 7]) (.seq (.region [(none, .mv 12 (.tmp 0)),
 (none, .mv 13 (.tmp 7)),
 (none, .drop [7]),
 (none, .call 14 x_laws_szReqS [(.tmp 12), (.tmp 13)]),
 (none, .drop [12, 13]),
 (none, .as 7 (.tmp 14))] [0, 1, 2, 7]) (.seq (.seq (.region [(none, .mv 15 (.tmp 7)),
 (none, .bin 16 .num .lss (.tmp 15) (.k (.int .i64 0)))] [0, 1, 2, 7, 16]) (.cond 16 [6] [0, 1, 2, 6, 7] (.seq (.region [(none, .as 6 (.k (.bool true)))] [6]) (.ret)) (.skip))) (.seq (.region [(none, .mv 17 (.tmp 1)),
 (none, .mv 18 (.tmp 7)),
 (none, .drop [7]),
 (none, .call 19 x_laws_szReplyS [(.tmp 17), (.tmp 18)]),
 (none, .drop [17, 18]),
 (none, .as 7 (.tmp 19))] [0, 1, 2, 7]) (.seq (.seq (.region [(none, .mv 20 (.tmp 7)),
 (none, .drop [7]),
 (none, .bin 21 .num .lss (.tmp 20) (.k (.int .i64 0)))] [0, 1, 2, 21]) (.cond 21 [6] [0, 1, 2, 6] (.seq (.region [(none, .as 6 (.k (.bool true)))] [6]) (.ret)) (.skip))) (.seq (.region [(none, .mv 22 (.tmp 0)),
 (none, .call 23 x_laws_toReqS [(.tmp 22)]),
 (none, .drop [22]),
 (none, .mv 24 (.tmp 1)),
 (none, .call 25 x_laws_toReplyS [(.tmp 24)]),
 (none, .drop [24]),
 (none, .mv 26 (.tmp 2)),
 (none, .call 27 x_spec_SoldBy [(.tmp 23), (.tmp 25), (.tmp 26)]),
 (none, .drop [23, 25, 26]),
 (none, .as 8 (.tmp 27))] [0, 1, 2, 8]) (.seq (.region [(none, .mv 28 (.tmp 0)),
 (none, .call 29 x_laws_toReqS [(.tmp 28)]),
 (none, .drop [28]),
 (none, .as 9 (.tmp 29))] [0, 1, 2, 8, 9]) (.seq (.region [(none, .mv 30 (.tmp 1)),
 (none, .call 31 x_laws_toReplyS [(.tmp 30)]),
 (none, .drop [30]),
 (none, .as 10 (.tmp 31))] [0, 1, 2, 8, 9, 10]) (.seq (.region [(none, .mv 32 (.tmp 9)),
 (none, .mv 33 (.tmp 10)),
 (none, .mv 34 (.tmp 2)),
 (none, .drop [2]),
 (none, .call 35 x_impl_SoldBy [(.tmp 32), (.tmp 33), (.tmp 34)]),
 (none, .drop [32, 33, 34]),
 (none, .as 11 (.tmp 35))] [0, 1, 8, 9, 10, 11]) (.seq (.seq (.region [(none, .mv 36 (.tmp 11)),
 (none, .drop [11]),
 (none, .mv 37 (.tmp 8)),
 (none, .drop [8]),
 (none, .bin 38 .num .neq (.tmp 36) (.tmp 37))] [0, 1, 9, 10, 38]) (.cond 38 [6] [0, 1, 6, 9, 10] (.seq (.region [(none, .as 6 (.k (.bool false)))] [6]) (.ret)) (.skip))) (.seq (.seq (.region [(none, .mv 39 (.tmp 9)),
 (none, .mv 40 (.tmp 0)),
 (none, .call 41 x_laws_toReqS [(.tmp 40)]),
 (none, .drop [0, 40]),
 (none, .call 42 x_laws_eqReqS [(.tmp 39), (.tmp 41)]),
 (none, .drop [9, 39, 41]),
 (none, .un 43 .not (.tmp 42))] [1, 10, 43]) (.cond 43 [6] [1, 6, 10] (.seq (.region [(none, .as 6 (.k (.bool false)))] [6]) (.ret)) (.skip))) (.seq (.seq (.region [(none, .mv 44 (.tmp 10)),
 (none, .mv 45 (.tmp 1)),
 (none, .call 46 x_laws_toReplyS [(.tmp 45)]),
 (none, .drop [1, 45]),
 (none, .call 47 x_laws_eqReplyS [(.tmp 44), (.tmp 46)]),
 (none, .drop [10, 44, 46]),
 (none, .un 48 .not (.tmp 47))] [48]) (.cond 48 [6] [6] (.seq (.region [(none, .as 6 (.k (.bool false)))] [6]) (.ret)) (.skip))) (.seq (.region [(none, .as 6 (.k (.bool true)))] [6]) (.ret)))))))))))))))
@[simp] theorem x_laws_FnExactSoldBy_m : modes x_laws_FnExactSoldBy = [.v, .v, .v] := rfl
def d_laws_FnExactSoldBy (p0 : List GReq) (p1 : List GReply) (p2 : Int) : Option Bool :=
  (d_laws_szReqS p0 1048576).bind fun v1 =>
  if (decide (v1 < 0)) = true then
    some true
  else (d_laws_szReplyS p1 v1).bind fun v4 =>
  if (decide (v4 < 0)) = true then
    some true
  else (d_laws_toReqS p0).bind fun v7 =>
  (d_laws_toReplyS p1).bind fun v9 =>
  (d_spec_SoldBy v7 v9 p2).bind fun v11 =>
  (d_laws_toReqS p0).bind fun v13 =>
  (d_laws_toReplyS p1).bind fun v15 =>
  (d_impl_SoldBy v13 v15 p2).bind fun v17 =>
  if (v17 != v11) = true then
    some false
  else (d_laws_toReqS p0).bind fun v20 =>
  (d_laws_eqReqS v13 v20).bind fun v22 =>
  if (!v22) = true then
    some false
  else (d_laws_toReplyS p1).bind fun v25 =>
  (d_laws_eqReplyS v15 v25).bind fun v27 =>
  if (!v27) = true then
    some false
  else some true
theorem run_laws_FnExactSoldBy {p0 : List GReq} {p1 : List GReply} {p2 : Int} {r : Bool} (h : d_laws_FnExactSoldBy p0 p1 p2 = some r) : Runs x_laws_FnExactSoldBy [.v .one [.sl 6 (p0.map eGReq)], .v .one [.sl 2 (p1.map eGReply)], .v .one [eI p2]] .one [.bool r] [] := by
  refine Runs.mk (by simp <;> rfl) ?_ (by simp)
  rw [d_laws_FnExactSoldBy] at h
  refine w_seq ?_
  refine w_reg ?_
  refine k_run 1 (by simp <;> rfl) ?_
  refine k_nil ?_
  refine w_seq ?_
  refine w_st (by simp <;> rfl) ?_
  refine w_reg ?_
  refine k_run 1 (by simp <;> rfl) ?_
  refine k_nil ?_
  refine w_seq ?_
  refine w_st (by simp <;> rfl) ?_
  refine w_reg ?_
  refine k_run 3 (by simp <;> rfl) ?_
  obtain ⟨v1, hv2, h⟩ := ob h
  apply k_call (by simp <;> rfl) (by simp <;> rfl)
  · first | exact run_laws_szReqS hv2 | simpa using run_laws_szReqS hv2
  · simp <;> rfl
  refine k_run 2 (by simp <;> rfl) ?_
  refine k_nil ?_
  iterate 2 refine w_seq ?_
  refine w_st (by simp <;> rfl) ?_
  refine w_reg ?_
  refine k_run 2 (by simp <;> rfl) ?_
  refine k_nil ?_
  refine w_st (by simp <;> rfl) ?_
  rcases oif h with ⟨hb3, h⟩ | ⟨hb3, h⟩
  · have hb3s := hb3; try simp at hb3s
    refine w_true (by simp [hb3, hb3s]) ?_
    refine w_seq ?_
    refine w_st (by simp <;> rfl) ?_
    refine w_reg ?_
    refine k_run 1 (by simp <;> rfl) ?_
    refine k_nil ?_
    refine w_st (by simp <;> rfl) ?_
    refine w_ret ?_
    obtain rfl := Option.some.inj h
    simp [hb3, hb3s]
  replace hb3 := eq_false_of_ne_true hb3
  have hb3s := hb3; try simp at hb3s
  refine w_false (by simp [hb3, hb3s]) ?_
  refine w_skip ?_
  refine w_seq ?_
  refine w_st (by simp <;> rfl) ?_
  refine w_reg ?_
  refine k_run 3 (by simp <;> rfl) ?_
  obtain ⟨v4, hv5, h⟩ := ob h
  apply k_call (by simp <;> rfl) (by simp <;> rfl)
  · first | exact run_laws_szReplyS hv5 | simpa using run_laws_szReplyS hv5
  · simp <;> rfl
  refine k_run 2 (by simp <;> rfl) ?_
  refine k_nil ?_
  iterate 2 refine w_seq ?_
  refine w_st (by simp <;> rfl) ?_
  refine w_reg ?_
  refine k_run 3 (by simp <;> rfl) ?_
  refine k_nil ?_
  refine w_st (by simp <;> rfl) ?_
  rcases oif h with ⟨hb6, h⟩ | ⟨hb6, h⟩
  · have hb6s := hb6; try simp at hb6s
    refine w_true (by simp [hb6, hb6s]) ?_
    refine w_seq ?_
    refine w_st (by simp <;> rfl) ?_
    refine w_reg ?_
    refine k_run 1 (by simp <;> rfl) ?_
    refine k_nil ?_
    refine w_st (by simp <;> rfl) ?_
    refine w_ret ?_
    obtain rfl := Option.some.inj h
    simp [hb3, hb3s, hb6, hb6s]
  replace hb6 := eq_false_of_ne_true hb6
  have hb6s := hb6; try simp at hb6s
  refine w_false (by simp [hb6, hb6s]) ?_
  refine w_skip ?_
  refine w_seq ?_
  refine w_st (by simp <;> rfl) ?_
  refine w_reg ?_
  refine k_run 1 (by simp <;> rfl) ?_
  obtain ⟨v7, hv8, h⟩ := ob h
  apply k_call (by simp <;> rfl) (by simp <;> rfl)
  · first | exact run_laws_toReqS hv8 | simpa using run_laws_toReqS hv8
  · simp <;> rfl
  refine k_run 2 (by simp <;> rfl) ?_
  obtain ⟨v9, hv10, h⟩ := ob h
  apply k_call (by simp <;> rfl) (by simp <;> rfl)
  · first | exact run_laws_toReplyS hv10 | simpa using run_laws_toReplyS hv10
  · simp <;> rfl
  refine k_run 2 (by simp <;> rfl) ?_
  obtain ⟨v11, hv12, h⟩ := ob h
  apply k_call (by simp <;> rfl) (by simp <;> rfl)
  · first | exact run_spec_SoldBy hv12 | simpa using run_spec_SoldBy hv12
  · simp <;> rfl
  refine k_run 2 (by simp <;> rfl) ?_
  refine k_nil ?_
  refine w_seq ?_
  refine w_st (by simp <;> rfl) ?_
  refine w_reg ?_
  refine k_run 1 (by simp <;> rfl) ?_
  obtain ⟨v13, hv14, h⟩ := ob h
  apply k_call (by simp <;> rfl) (by simp <;> rfl)
  · first | exact run_laws_toReqS hv14 | simpa using run_laws_toReqS hv14
  · simp <;> rfl
  refine k_run 2 (by simp <;> rfl) ?_
  refine k_nil ?_
  refine w_seq ?_
  refine w_st (by simp <;> rfl) ?_
  refine w_reg ?_
  refine k_run 1 (by simp <;> rfl) ?_
  obtain ⟨v15, hv16, h⟩ := ob h
  apply k_call (by simp <;> rfl) (by simp <;> rfl)
  · first | exact run_laws_toReplyS hv16 | simpa using run_laws_toReplyS hv16
  · simp <;> rfl
  refine k_run 2 (by simp <;> rfl) ?_
  refine k_nil ?_
  refine w_seq ?_
  refine w_st (by simp <;> rfl) ?_
  refine w_reg ?_
  refine k_run 4 (by simp <;> rfl) ?_
  obtain ⟨v17, hv18, h⟩ := ob h
  apply k_call (by simp <;> rfl) (by simp <;> rfl)
  · first | exact run_impl_SoldBy hv18 | simpa using run_impl_SoldBy hv18
  · simp <;> rfl
  refine k_run 2 (by simp <;> rfl) ?_
  refine k_nil ?_
  iterate 2 refine w_seq ?_
  refine w_st (by simp <;> rfl) ?_
  refine w_reg ?_
  refine k_run 5 (by simp <;> rfl) ?_
  refine k_nil ?_
  refine w_st (by simp <;> rfl) ?_
  rcases oif h with ⟨hb19, h⟩ | ⟨hb19, h⟩
  · have hb19s := hb19; try simp at hb19s
    refine w_true (by simp [hb19, hb19s]) ?_
    refine w_seq ?_
    refine w_st (by simp <;> rfl) ?_
    refine w_reg ?_
    refine k_run 1 (by simp <;> rfl) ?_
    refine k_nil ?_
    refine w_st (by simp <;> rfl) ?_
    refine w_ret ?_
    obtain rfl := Option.some.inj h
    simp [hb3, hb3s, hb6, hb6s, hb19, hb19s]
  replace hb19 := eq_false_of_ne_true hb19
  have hb19s := hb19; try simp at hb19s
  refine w_false (by simp [hb19, hb19s]) ?_
  refine w_skip ?_
  iterate 2 refine w_seq ?_
  refine w_st (by simp <;> rfl) ?_
  refine w_reg ?_
  refine k_run 2 (by simp <;> rfl) ?_
  obtain ⟨v20, hv21, h⟩ := ob h
  apply k_call (by simp <;> rfl) (by simp <;> rfl)
  · first | exact run_laws_toReqS hv21 | simpa using run_laws_toReqS hv21
  · simp <;> rfl
  refine k_run 1 (by simp <;> rfl) ?_
  obtain ⟨v22, hv23, h⟩ := ob h
  apply k_call (by simp <;> rfl) (by simp <;> rfl)
  · first | exact run_laws_eqReqS hv23 | simpa using run_laws_eqReqS hv23
  · simp <;> rfl
  refine k_run 2 (by simp <;> rfl) ?_
  refine k_nil ?_
  refine w_st (by simp <;> rfl) ?_
  rcases oif h with ⟨hb24, h⟩ | ⟨hb24, h⟩
  · have hb24s := hb24; try simp at hb24s
    refine w_true (by simp [hb24, hb24s]) ?_
    refine w_seq ?_
    refine w_st (by simp <;> rfl) ?_
    refine w_reg ?_
    refine k_run 1 (by simp <;> rfl) ?_
    refine k_nil ?_
    refine w_st (by simp <;> rfl) ?_
    refine w_ret ?_
    obtain rfl := Option.some.inj h
    simp [hb3, hb3s, hb6, hb6s, hb19, hb19s, hb24, hb24s]
  replace hb24 := eq_false_of_ne_true hb24
  have hb24s := hb24; try simp at hb24s
  refine w_false (by simp [hb24, hb24s]) ?_
  refine w_skip ?_
  iterate 2 refine w_seq ?_
  refine w_st (by simp <;> rfl) ?_
  refine w_reg ?_
  refine k_run 2 (by simp <;> rfl) ?_
  obtain ⟨v25, hv26, h⟩ := ob h
  apply k_call (by simp <;> rfl) (by simp <;> rfl)
  · first | exact run_laws_toReplyS hv26 | simpa using run_laws_toReplyS hv26
  · simp <;> rfl
  refine k_run 1 (by simp <;> rfl) ?_
  obtain ⟨v27, hv28, h⟩ := ob h
  apply k_call (by simp <;> rfl) (by simp <;> rfl)
  · first | exact run_laws_eqReplyS hv28 | simpa using run_laws_eqReplyS hv28
  · simp <;> rfl
  refine k_run 2 (by simp <;> rfl) ?_
  refine k_nil ?_
  refine w_st (by simp <;> rfl) ?_
  rcases oif h with ⟨hb29, h⟩ | ⟨hb29, h⟩
  · have hb29s := hb29; try simp at hb29s
    refine w_true (by simp [hb29, hb29s]) ?_
    refine w_seq ?_
    refine w_st (by simp <;> rfl) ?_
    refine w_reg ?_
    refine k_run 1 (by simp <;> rfl) ?_
    refine k_nil ?_
    refine w_st (by simp <;> rfl) ?_
    refine w_ret ?_
    obtain rfl := Option.some.inj h
    simp [hb3, hb3s, hb6, hb6s, hb19, hb19s, hb24, hb24s, hb29, hb29s]
  replace hb29 := eq_false_of_ne_true hb29
  have hb29s := hb29; try simp at hb29s
  refine w_false (by simp [hb29, hb29s]) ?_
  refine w_skip ?_
  refine w_seq ?_
  refine w_st (by simp <;> rfl) ?_
  refine w_reg ?_
  refine k_run 1 (by simp <;> rfl) ?_
  refine k_nil ?_
  refine w_st (by simp <;> rfl) ?_
  refine w_ret ?_
  obtain rfl := Option.some.inj h
  simp [hb3, hb3s, hb6, hb6s, hb19, hb19s, hb24, hb24s, hb29, hb29s]
end Lv
