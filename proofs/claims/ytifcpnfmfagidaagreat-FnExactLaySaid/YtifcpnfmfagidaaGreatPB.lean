/-
  Plain laws: wheels are right for both alike, and their pins in order.
-/
import Derived.Test.YtifcpnfmfagidaaGreatPA
set_option linter.unusedVariables false
set_option linter.unusedSimpArgs false
namespace Lv.P
open Go (IntKind BinOp UnOp)
def pinB (p : GPin) : Bool := inB p.At 1 1000008 && inB p.Id 1 999
structure WheelP (w : GWheel) : Prop where
 nine : w.Spoke.length = 9
 few : w.Spoke.flatten.length <= 10
 pins : ∀ p ∈ w.Spoke.flatten, pinB p = true
 ids : w.Spoke.flatten.Pairwise fun a b => a.Id ≠ b.Id
 at_ : ∀ i (h : i < w.Spoke.length) k (hk : k < w.Spoke[i].length), w.Spoke[i][k].At.tmod 9 = (i : Int)
 srt : ∀ i (h : i < w.Spoke.length) k (hk : k + 1 < w.Spoke[i].length), ltP w.Spoke[i][k] w.Spoke[i][k + 1] = true
noncomputable def wheelB (w : GWheel) : Bool := @decide (WheelP w) (Classical.propDecidable _)
theorem wheelB_iff {w : GWheel} : wheelB w = true ↔ WheelP w := by unfold wheelB; exact @decide_eq_true_iff _ (Classical.propDecidable _)
def wheelFit (w : GWheel) : Prop := w.Spoke.length <= 1048576 /\ w.Spoke.flatten.length <= 1048576
theorem flat_get {α : Type} {l : List (List α)} {i : Nat} (h : i < l.length) : (l.take i).flatten.length + l[i].length <= l.flatten.length := by
 have : l.flatten = (l.take i).flatten ++ (l[i] ++ (l.drop (i + 1)).flatten) := by
  rw [<- List.flatten_cons, <- List.flatten_append, <- drop_at h, List.take_append_drop]
 rw [this]; simp
theorem spoke_len {l : List (List GPin)} {i : Nat} (h : i < l.length) : l[i].length <= l.flatten.length := by have := flat_get h; omega
theorem spec_l9All {w : GWheel} (hw : wheelFit w) : d_xbh w = some w.Spoke.flatten := by
 have hlim : lim = 268435456 := rfl; have h1 := hw.1; have h2 := hw.2; unfold d_xbh; refine (forLoop (n := w.Spoke.length) (fun i (v : List GPin) => (v, (i : Int))) (fun i v => v = (w.Spoke.take i).flatten) (fun i v => some w.Spoke.flatten) (by omega) ?_ (by simp)); intro L i v hv hi ih; unfold d_xbh_l1 d_xbh_j2; dsimp only; rcases Nat.lt_or_ge i w.Spoke.length with h | h
 ·have := flat_get h; rw [decn_lt h, br_t, at?_lt h, bd_some, gd_t (by rw [hv]; omega), w64_succ h (by omega)]; refine ih _ ?_ h; rw [hv, List.take_add_one, List.getElem?_eq_getElem h, List.flatten_append]; simp
 ·obtain rfl : i = w.Spoke.length := by omega
  rw [decn_ge, br_f, jn_eq, hv, List.take_length]
def spkAt (s : List GPin) (i : Nat) (k : Nat) : Bool := getP s k fun p => (p.At.tmod 9 == (i : Int)) && (if 0 < k then getP s (k - 1) (fun d => ltP d p) else true)
def pinAt (l : List GPin) (i : Nat) : Bool := getP l i fun p => pinB p && rAll (fun k => getP l k fun q => !(q.Id == p.Id)) 0 i
theorem spec_WheelOk {w : GWheel} (hw : wheelFit w) : d_xbj w = some (wheelB w) := by
 have h1 := hw.1; have h2 := hw.2; have hj6 : d_xbj_j6 w () = some (rAll (fun i => getP w.Spoke i fun s => rAll (spkAt s i) 0 s.length) 0 w.Spoke.length) := by
  unfold d_xbj_j6; rw [allIdx (n := w.Spoke.length) (E := some true) (fun i => getP w.Spoke i fun s => rAll (spkAt s i) 0 s.length) (by omega) ?_ ?_, br_and, Bool.and_true]
  ·intro L i h; have hs := spoke_len h; rw [getP_lt h]; unfold d_xbj_l7; rw [decn_lt h, br_t]; refine allIdx (n := w.Spoke[i].length) (E := L ((i + 1 : Nat) : Int)) (spkAt w.Spoke[i] i) (by omega) ?_ ?_
   ·intro L' k hk; have hw' := w64_succ hk (show w.Spoke[i].length < 2 ^ 63 by omega); unfold spkAt; rw [getP_lt hk]; unfold d_xbj_l8 d_xbj_j9; rw [at?_lt h, bd_some, decn_lt hk, br_t, dec_pos]; simp only [bd_some, at?_lt hk, jn_eq, hw', br_t, br_f]; by_cases h0 : 0 < k
    ·rw [decide_eq_true h0, br_t, if_pos h0, w64_pred k h0 (by omega), at?_lt (show k - 1 < w.Spoke[i].length by omega), bd_some, spec_l9Less, bd_some, getP_lt (show k - 1 < w.Spoke[i].length by omega), bne]; cases w.Spoke[i][k].At.tmod 9 == (i : Int) <;> cases ltP w.Spoke[i][k - 1] w.Spoke[i][k] <;> rfl
    ·rw [decide_eq_false h0, br_f, if_neg h0, bne]; cases w.Spoke[i][k].At.tmod 9 == (i : Int) <;> rfl
   ·intro L'; unfold d_xbj_l8 d_xbj_j10; rw [at?_lt h, bd_some, decn_ge, br_f, jn_eq, w64_succ h (by omega)]
  ·intro L; unfold d_xbj_l7 d_xbj_j11; rw [decn_ge, br_f, jn_eq]
 have hj1 : ∀ b, d_xbj_j1 w w.Spoke.flatten b = some (!b && (rAll (pinAt w.Spoke.flatten) 0 w.Spoke.flatten.length && rAll (fun i => getP w.Spoke i fun s => rAll (spkAt s i) 0 s.length) 0 w.Spoke.length)) := by
  intro b; unfold d_xbj_j1; rw [allIdx (n := w.Spoke.flatten.length) (E := d_xbj_j6 w ()) (pinAt w.Spoke.flatten) (by omega) ?_ ?_, hj6, br_and, br_andn]
  ·intro L i h; unfold pinAt; rw [getP_lt h]; have hj3 : ∀ b, d_xbj_j3 w.Spoke.flatten L i b = br (!b && rAll (fun k => getP w.Spoke.flatten k fun q => !(q.Id == w.Spoke.flatten[i].Id)) 0 i) (L ((i + 1 : Nat) : Int)) (some false) := by
    intro b; unfold d_xbj_j3; rw [allIdx (n := i) (E := L ((i + 1 : Nat) : Int)) (fun k => getP w.Spoke.flatten k fun q => !(q.Id == w.Spoke.flatten[i].Id)) (by omega) ?_ ?_]
    ·cases b <;> rfl
    ·intro L' k hk; rw [getP_lt (show k < w.Spoke.flatten.length by omega)]; unfold d_xbj_l4; rw [decn_lt hk, br_t]; simp only [at?_lt h, at?_lt (show k < w.Spoke.flatten.length by omega), bd_some, w64_succ hk (show i < 2 ^ 63 by omega)]; cases w.Spoke.flatten[k].Id == w.Spoke.flatten[i].Id <;> rfl
    ·intro L'; unfold d_xbj_l4 d_xbj_j5; rw [decn_ge, br_f, jn_eq, w64_succ h (by omega)]
   unfold d_xbj_l2 pinB; rw [decn_lt h, br_t]; simp only [at?_lt h, bd_some, in_eq, br_not, jn_eq, hj3]; generalize rAll (fun k => getP w.Spoke.flatten k fun q => !(q.Id == w.Spoke.flatten[i].Id)) 0 i = X; cases inB w.Spoke.flatten[i].At 1 1000008 <;> cases inB w.Spoke.flatten[i].Id 1 999 <;> rfl
  ·intro L; unfold d_xbj_l2; rw [decn_ge, br_f, jn_eq]
 unfold d_xbj; rw [spec_l9All hw, bd_some, jn_eq, jn_eq, hj1, hj1, Bool.not_true, Bool.false_and, bne, br_not, br_and]; congr 1; rw [Bool.eq_iff_iff, wheelB_iff]; simp only [Bool.and_eq_true, beq_iff_eq, Bool.not_eq_true', decide_eq_false_iff_not, rAll0]; constructor
 ·rintro ⟨a1, a2, a3, a4⟩; refine ⟨by omega, by omega, ?_, ?_, ?_, ?_⟩
  ·intro p hp; obtain ⟨k, hk, rfl⟩ := List.getElem_of_mem hp; have := a3 k hk; unfold pinAt at this; rw [getP_lt hk, Bool.and_eq_true] at this; exact this.1
  ·rw [List.pairwise_iff_getElem]; intro i j hi hj hij; have := a3 j hj; unfold pinAt at this; rw [getP_lt hj, Bool.and_eq_true, rAll0] at this; have := this.2 i hij; rw [getP_lt hi] at this; simpa using this
  ·intro i h k hk; have := a4 i h; rw [getP_lt h, rAll0] at this; have := this k hk; unfold spkAt at this; rw [getP_lt hk, Bool.and_eq_true, beq_iff_eq] at this; exact this.1
  ·intro i h k hk; have := a4 i h; rw [getP_lt h, rAll0] at this; have := this (k + 1) hk; unfold spkAt at this; rw [getP_lt hk, Bool.and_eq_true, if_pos (by omega), Nat.add_sub_cancel, getP_lt (by omega)] at this; exact this.2
 ·rintro ⟨a1, a2, a3, a4, a5, a6⟩; refine ⟨by omega, by omega, ?_, ?_⟩
  ·intro k hk; unfold pinAt; rw [getP_lt hk, Bool.and_eq_true, rAll0]; refine ⟨a3 _ (List.getElem_mem _), fun j hj => ?_⟩; rw [getP_lt (by omega)]; rw [List.pairwise_iff_getElem] at a4; have := a4 j k (by omega) hk hj; simpa using this
  ·intro i h; rw [getP_lt h, rAll0]; intro k hk; unfold spkAt; rw [getP_lt hk, Bool.and_eq_true, beq_iff_eq]; refine ⟨a5 i h k hk, ?_⟩; split
   ·rename_i h0; obtain ⟨k, rfl⟩ : ∃ j, k = j + 1 := ⟨k - 1, by omega⟩; rw [Nat.add_sub_cancel, getP_lt (by omega)]; exact a6 i h k hk
   ·rfl
def addId (m : List (Int × Int)) (p : GPin) : List (Int × Int) := mapSet m p.Id (w64 (mapGet m p.Id + 1))
theorem set_in : ∀ {m : List (Int × Int)} {n v : Int}, n ∈ m.map (·.1) -> (mapSet m n v).map (·.1) = m.map (·.1)
 | [], n, v, h => by simp at h
 | (k, w) :: m, n, v, h => by
  unfold mapSet; by_cases e : n = k
  ·rw [if_pos e]; rfl
  ·rw [if_neg e]; rw [List.map_cons, List.mem_cons] at h; rw [List.map_cons, set_in (h.resolve_left e)]; rfl
theorem set_out : ∀ {m : List (Int × Int)} {n v : Int}, n ∉ m.map (·.1) -> (mapSet m n v).map (·.1) = m.map (·.1) ++ [n]
 | [], n, v, h => rfl
 | (k, w) :: m, n, v, h => by
  unfold mapSet; rw [List.map_cons, List.mem_cons, not_or] at h; rw [if_neg h.1, List.map_cons, set_out h.2]; rfl
theorem addIds : ∀ (l : List GPin) (m : List (Int × Int)), (l.foldl addId m).length <= m.length + l.length /\ ((l.foldl addId m).length = m.length + l.length ↔ (∀ p ∈ l, p.Id ∉ m.map (·.1)) /\ l.Pairwise fun a b => a.Id ≠ b.Id)
 | [], m => by simp
 | p :: l, m => by
  rw [List.foldl_cons]; have ih := addIds l (addId m p); by_cases h : p.Id ∈ m.map (·.1)
  ·have e : (addId m p).map (·.1) = m.map (·.1) := set_in h; have el : (addId m p).length = m.length := by simpa using congrArg List.length e
   rw [el] at ih; refine ⟨by rw [List.length_cons]; omega, ?_⟩; constructor
   ·intro g; rw [List.length_cons] at g; omega
   ·intro g; exact absurd h (g.1 p List.mem_cons_self)
  ·have e : (addId m p).map (·.1) = m.map (·.1) ++ [p.Id] := set_out h; have el : (addId m p).length = m.length + 1 := by simpa using congrArg List.length e
   rw [el, e] at ih; rw [List.length_cons, show m.length + (l.length + 1) = m.length + 1 + l.length by omega, ih.2, List.pairwise_cons]; refine ⟨ih.1, ?_⟩; constructor
   ·rintro ⟨g1, g2⟩; refine ⟨?_, ?_, g2⟩
    ·intro q hq; rcases List.mem_cons.1 hq with rfl | hq
     ·exact h
     ·intro hm; exact g1 q hq (List.mem_append_left _ hm)
    ·intro q hq hm; exact g1 q hq (List.mem_append_right _ (by rw [hm]; exact List.mem_singleton.2 rfl))
   ·rintro ⟨g1, g2, g3⟩; refine ⟨?_, g3⟩; intro q hq hm; rcases List.mem_append.1 hm with hm | hm
    ·exact g1 q (List.mem_cons_of_mem _ hq) hm
    ·exact g2 q hq (List.mem_singleton.1 hm).symm
theorem impl_pinOk (p : GPin) : d_xcl p = some (pinB p) := by
 unfold d_xcl d_xcl_j1 pinB; simp only [wi_eq, bd_some, jn_eq, br_and]
def spkAt' (s : List GPin) (i : Nat) (k : Nat) : Bool := getP s k fun p => pinB p && ((p.At.tmod 9 == (i : Int)) && (if 0 < k then getP s (k - 1) (fun d => !(ltP p d)) else true))
theorem rAll_step (p : Nat -> Bool) {i n : Nat} (h : i < n) : rAll p i (n - i) = (p i && rAll p (i + 1) (n - (i + 1))) := by rw [show n - i = (n - (i + 1)) + 1 by omega]; rfl
theorem wheelInner {s : List GPin} (hs : s.length <= 1048576) {L : List (Int × Int) × Int × Int -> Option Bool} {i : Nat} (hi : i < 9) {m : List (Int × Int)} {n : Nat} (hn : n <= 2 ^ 50) :
 loopN (d_xcn_l2 L i s) big (m, (n : Int), 0) = br (rAll (spkAt' s i) 0 s.length) (L (s.foldl addId m, ((n + s.length : Nat) : Int), ((i + 1 : Nat) : Int))) (some false) := by
 refine (forLoop (n := s.length) (fun k (v : List (Int × Int) × Nat) => (v.1, (v.2 : Int), (k : Int))) (fun k v => v.2 = n + k) (fun k v => br (rAll (spkAt' s i) k (s.length - k)) (L ((s.drop k).foldl addId v.1, ((n + s.length : Nat) : Int), ((i + 1 : Nat) : Int))) (some false)) (by omega) ?_ (v := (m, n)) rfl); rintro L' k ⟨m, n'⟩ hv hk ih; dsimp only at hv ih ⊢; unfold d_xcn_l2 d_xcn_j3; dsimp only; rcases Nat.lt_or_ge k s.length with h | h
 ·have hih := ih (addId m s[k], n' + 1) (by dsimp only; omega) h; dsimp only at hih; have ew : w64 ((n' : Int) + 1) = ((n' + 1 : Nat) : Int) := by rw [w64_id (by omega) (by omega)]; rfl
  rw [decn_lt h, br_t, at?_lt h, bd_some, impl_pinOk, bd_some, br_not, rAll_step _ h, drop_at h, List.foldl_cons, dec_pos]; simp only [jn_eq, br_t, br_f, w64_succ h (show s.length < 2 ^ 63 by omega), ew]; have ed : mapSet m s[k].Id (w64 (mapGet m s[k].Id + 1)) = addId m s[k] := rfl; rw [ed, hih]; unfold spkAt'; rw [getP_lt h]; generalize rAll _ (k + 1) (s.length - (k + 1)) = X; generalize L _ = Z; by_cases h0 : 0 < k
  ·obtain ⟨c, e1, e2, e3⟩ := impl_cmpP s[k - 1] s[k]; rw [decide_eq_true h0, br_t, if_pos h0, w64_pred k h0 (by omega), at?_lt (show k - 1 < s.length by omega), bd_some, e1, bd_some, e3, getP_lt (show k - 1 < s.length by omega), bne]; cases pinB s[k] <;> cases s[k].At.tmod 9 == (i : Int) <;> cases ltP s[k] s[k - 1] <;> rfl
  ·rw [decide_eq_false h0, br_f, if_neg h0, bne]; cases pinB s[k] <;> cases s[k].At.tmod 9 == (i : Int) <;> rfl
 ·obtain rfl : k = s.length := by omega
  unfold d_xcn_j4; dsimp only; rw [decn_ge, br_f, jn_eq, w64_succ (i := i) (n := 9) hi (by omega), Nat.sub_self, List.drop_length, hv]; rfl
theorem impl_WheelOk {w : GWheel} (hw : wheelFit w) : d_xcn w = some (wheelB w) := by
 have h1 := hw.1; have h2 := hw.2; unfold d_xcn; rw [bne, br_not]; by_cases h9 : w.Spoke.length = 9
 ·have e9 : ((w.Spoke.length : Int) == 9) = true := by rw [beq_iff_eq]; omega
  rw [e9, br_t]; have := (forLoop (F := d_xcn_l1 w) (n := w.Spoke.length) (fun k (v : List (Int × Int) × Nat) => (v.1, (v.2 : Int), (k : Int))) (fun k v => v.2 = (w.Spoke.take k).flatten.length) (fun k v => br (rAll (fun i => getP w.Spoke i fun s => rAll (spkAt' s i) 0 s.length) k (w.Spoke.length - k)) (d_xcn_j5 ((w.Spoke.drop k).flatten.foldl addId v.1, ((v.2 + (w.Spoke.drop k).flatten.length : Nat) : Int))) (some false)) (by omega) ?_ (v := ([], 0)) (by simp))
  ·refine Eq.trans this ?_; unfold d_xcn_j5 d_xcn_j6; simp only [List.drop_zero, Nat.zero_add, jn_eq, br_and, Nat.sub_zero]; congr 1; have hc := addIds w.Spoke.flatten []; rw [List.length_nil, Nat.zero_add] at hc; rw [Bool.eq_iff_iff, wheelB_iff]; simp only [Bool.and_eq_true, beq_iff_eq, decide_eq_true_iff, rAll0]; have hm : ((w.Spoke.flatten.foldl addId []).length : Int) = (w.Spoke.flatten.length : Int) ↔ w.Spoke.flatten.Pairwise fun a b => a.Id ≠ b.Id := by
    rw [Int.ofNat_inj, hc.2]; simp
   rw [hm]; constructor
   ·rintro ⟨a1, a2, a3⟩; have hk : ∀ i (h : i < w.Spoke.length) k (hk : k < w.Spoke[i].length), pinB w.Spoke[i][k] = true /\ w.Spoke[i][k].At.tmod 9 = (i : Int) /\ (if 0 < k then getP w.Spoke[i] (k - 1) (fun d => !(ltP w.Spoke[i][k] d)) else true) = true := by
     intro i h k hk; have := a1 i h; rw [getP_lt h, rAll0] at this; have := this k hk; unfold spkAt' at this; rw [getP_lt hk, Bool.and_eq_true, Bool.and_eq_true, beq_iff_eq] at this; exact this
    refine ⟨h9, by omega, ?_, a3, fun i h k hk' => (hk i h k hk').2.1, ?_⟩
    ·intro p hp; obtain ⟨s, hs, hp⟩ := List.mem_flatten.1 hp; obtain ⟨i, hi, rfl⟩ := List.getElem_of_mem hs; obtain ⟨k, hk', rfl⟩ := List.getElem_of_mem hp; exact (hk i hi k hk').1
    ·intro i h k hk'; have := (hk i h (k + 1) hk').2.2; rw [if_pos (by omega), Nat.add_sub_cancel, getP_lt (by omega), Bool.not_eq_true', ltP_niff] at this; have hd := (List.pairwise_flatten.1 a3).1 _ (List.getElem_mem h); rw [List.pairwise_iff_getElem] at hd; have := hd k (k + 1) (by omega) hk' (by omega); rw [ltP_iff]; omega
   ·rintro ⟨a1, a2, a3, a4, a5, a6⟩; refine ⟨?_, by omega, a4⟩; intro i h; rw [getP_lt h, rAll0]; intro k hk; unfold spkAt'; rw [getP_lt hk, Bool.and_eq_true, Bool.and_eq_true, beq_iff_eq]; refine ⟨a3 _ (List.mem_flatten.2 ⟨_, List.getElem_mem h, List.getElem_mem hk⟩), a5 i h k hk, ?_⟩; split
    ·obtain ⟨k, rfl⟩ : ∃ j, k = j + 1 := ⟨k - 1, by omega⟩; rw [Nat.add_sub_cancel, getP_lt (by omega), Bool.not_eq_true']; exact ltP_swo.asym _ _ (a6 i h k hk)
    ·rfl
  ·rintro L k ⟨m, n⟩ hv hk ih; dsimp only at hv ih ⊢; unfold d_xcn_l1; dsimp only; rcases Nat.lt_or_ge k w.Spoke.length with h | h
   ·have hf := flat_get h; rw [decn_lt h, br_t, at?_lt h, bd_some, wheelInner (by omega) (by omega) (by omega), rAll_step _ h, getP_lt h]; have ef : (w.Spoke.take (k + 1)).flatten = (w.Spoke.take k).flatten ++ w.Spoke[k] := by rw [List.take_add_one, List.getElem?_eq_getElem h, List.flatten_append]; simp
    have := ih (w.Spoke[k].foldl addId m, n + w.Spoke[k].length) (by dsimp only; rw [ef, List.length_append, hv]) h; dsimp only at this; rw [this, drop_at h, List.flatten_cons, List.foldl_append, List.length_append, Nat.add_assoc]; generalize rAll _ (k + 1) _ = X; generalize d_xcn_j5 _ = Z; cases rAll (spkAt' w.Spoke[k] k) 0 w.Spoke[k].length <;> rfl
   ·obtain rfl : k = w.Spoke.length := by omega
    rw [decn_ge, br_f, jn_eq, Nat.sub_self, List.drop_length]; rfl
 ·have e9 : ((w.Spoke.length : Int) == 9) = false := by rw [beq_eq_false_iff_ne]; omega
  rw [e9, br_f]; congr 1; have : ¬ (wheelB w = true) := by rw [wheelB_iff]; exact fun h => h9 h.nine
  rw [Bool.not_eq_true] at this; exact this.symm
noncomputable def pinsOf (w : GWheel) : List GPin := if wheelB w = true then isort ltP w.Spoke.flatten else []
theorem spec_PinsOf {w : GWheel} (hw : wheelFit w) : d_xbu w = some (pinsOf w) := by
 have hlim : lim = 268435456 := rfl; have h2 := hw.2; unfold d_xbu pinsOf; rw [spec_WheelOk hw, bd_some, br_not, spec_l9All hw, bd_some, br_if]; split
 ·rw [foldOf (l := w.Spoke.flatten) (fun v p => put ltP p v) (fun i v => v.length <= i) some (by omega) ?_ ?_ ?_ (by simp), <- isort_put ltP_swo ltP_tot]
  ·intro L i h v hv; unfold d_xbu_l1; dsimp only; rw [decn_lt h, br_t, at?_lt h, bd_some, bd_some, spec_l9Put (by omega), bd_some]
  ·intro i h v hv; rw [put_len]; omega
  ·intro L v hv; unfold d_xbu_l1 d_xbu_j2; dsimp only; rw [decn_ge, br_f, jn_eq]
 ·rfl
theorem impl_PinsOf {w : GWheel} (hw : wheelFit w) : d_xc2 w = some (pinsOf w) := by
 have hlim : lim = 268435456 := rfl; have h1 := hw.1; have h2 := hw.2; unfold d_xc2 pinsOf; rw [impl_WheelOk hw, bd_some, br_not, br_if]; split
 ·rename_i hk; have hk := wheelB_iff.1 hk; refine (forLoop (n := w.Spoke.length) (fun i (v : List GPin) => (v, (i : Int))) (fun i v => v = (w.Spoke.take i).flatten) (fun i v => some (isort ltP w.Spoke.flatten)) (by omega) ?_ (by simp)); intro L i v hv hi ih; unfold d_xc2_l1 d_xc2_j2; dsimp only; rcases Nat.lt_or_ge i w.Spoke.length with h | h
  ·have := flat_get h; rw [decn_lt h, br_t, at?_lt h, bd_some, gd_t (by rw [hv]; omega), w64_succ h (by omega)]; refine ih _ ?_ h; rw [hv, List.take_add_one, List.getElem?_eq_getElem h, List.flatten_append]; simp
  ·obtain rfl : i = w.Spoke.length := by omega
   have := hk.few; rw [decn_ge, br_f, jn_eq, hv, List.take_length, sortFP (by omega), bd_some]
 ·rfl
end Lv.P
namespace Lv.P
open Go (IntKind BinOp UnOp)
def cabinFit (c : GCabin) : Prop := c.Row.length <= 1048576 /\ wheelFit c.Wheel
structure HouseFit (h : GHouse) : Prop where
 seats : h.Rules.Seats.length <= 1048576
 parties : h.Parties.length <= 1048576
 ncab : h.Cabins.length <= 1048576
 cabins : ∀ c ∈ h.Cabins, cabinFit c
 todo : h.Todo.length <= 1048576
 jobs : h.Jobs.length <= 1048576
noncomputable def cabinB (c : GCabin) : Bool := ledgerB c.Seats && (queueB c.Row && wheelB c.Wheel)
theorem spec_CabinOk {c : GCabin} (hc : cabinFit c) : d_xbk c = some (cabinB c) := by
 have := hc.1; unfold d_xbk d_xbk_j1 cabinB; simp only [spec_LedgerOk, spec_QueueOk c.Row (by omega), spec_WheelOk hc.2, bd_some, jn_eq, br_and]
theorem impl_CabinOk {c : GCabin} (hc : cabinFit c) : d_xco c = some (cabinB c) := by
 have := hc.1; unfold d_xco d_xco_j1 cabinB; simp only [impl_LedgerOk, impl_QueueOk c.Row (by omega), impl_WheelOk hc.2, bd_some, jn_eq, br_and]
theorem pinsOf_len {w : GWheel} (hw : wheelFit w) : (pinsOf w).length <= 1048576 := by
 unfold pinsOf; split
 ·rw [isort_len]; exact hw.2
 ·simp
noncomputable def agreesB (r : GRules) (c : GCabin) (l : List GParty) (k now : Int) : Bool :=
 cabinB c && (sameL eqE c.Row (queueI r l k now) && (sameL eqP (pinsOf c.Wheel) (pinsI l k) && ((c.Seats.Held == heldI l k) && (c.Seats.Tied == tiedI l k))))
theorem spec_Agrees {r : GRules} (hr : r.Seats.length < 2 ^ 62) {c : GCabin} (hc : cabinFit c) {l : List GParty} (hl : l.length <= 1048576) (k now : Int) : d_xbz r c l k now = some (agreesB r c l k now) := by
 have h1 := hc.1; have h2 := pinsOf_len hc.2; unfold d_xbz d_xbz_j1 agreesB; simp only [spec_CabinOk hc, spec_QueueOf hr hl, spec_SameRow (show c.Row.length < 2 ^ 62 by omega), spec_PinsOf hc.2, spec_PinsIn hl, spec_SamePins (show (pinsOf c.Wheel).length < 2 ^ 62 by omega), spec_HeldIn (show l.length < 2 ^ 58 by omega), spec_TiedIn (show l.length < 2 ^ 58 by omega), bd_some, jn_eq, br_and]
theorem impl_Agrees {r : GRules} (hr : r.Seats.length < 2 ^ 62) {c : GCabin} (hc : cabinFit c) {l : List GParty} (hl : l.length <= 1048576) {k : Int} (hk : countI l k <= 19) (now : Int) : d_xc9 r c l k now = some (agreesB r c l k now) := by
 have h1 := hc.1; have h2 := pinsOf_len hc.2; unfold d_xc9 d_xc9_j1 agreesB; simp only [impl_CabinOk hc, impl_QueueOf hr hl hk, impl_EqualE (show c.Row.length < 2 ^ 62 by omega), impl_PinsOf hc.2, impl_PinsIn hl hk, impl_EqualP (show (pinsOf c.Wheel).length < 2 ^ 62 by omega), impl_HeldIn (show l.length < 2 ^ 58 by omega), impl_TiedIn (show l.length < 2 ^ 58 by omega), bd_some, jn_eq, br_and]
def clashB (q p : GParty) : Bool := (q.Turn == p.Turn) || ((decide (q.Turn < p.Turn) && decide (p.Since < q.Since)) || (decide (p.Turn < q.Turn) && decide (q.Since < p.Since)))
def parAt (h : GHouse) (i : Nat) : Bool :=
 getP h.Parties i fun p => partyB h.Rules p h.Now && (!(decide (p.Turn >= h.Turn)) && ((if 0 < i then getP h.Parties (i - 1) (fun q => !(decide (q.Id >= p.Id))) else true) && rAll (fun k => getP h.Parties k fun q => !(clashB q p)) 0 i))
def partiesB (h : GHouse) : Bool := rAll (parAt h) 0 h.Parties.length
theorem spec_l11Parties {h : GHouse} (hh : HouseFit h) : d_xba h = some (partiesB h) := by
 have h1 := hh.seats; have h2 := hh.parties; unfold d_xba partiesB; rw [allIdx (n := h.Parties.length) (E := some true) (parAt h) (by omega) ?_ ?_, br_and, Bool.and_true]
 ·intro L i hi; unfold parAt; rw [getP_lt hi]; have hj2 : ∀ b, d_xba_j2 h L i h.Parties[i] b = br (!b && rAll (fun k => getP h.Parties k fun q => !(clashB q h.Parties[i])) 0 i) (L ((i + 1 : Nat) : Int)) (some false) := by
   intro b; unfold d_xba_j2; rw [allIdx (n := i) (E := L ((i + 1 : Nat) : Int)) (fun k => getP h.Parties k fun q => !(clashB q h.Parties[i])) (by omega) ?_ ?_]
   ·cases b <;> rfl
   ·intro L' k hk; have hkl : k < h.Parties.length := by omega
    have hj4 : ∀ b, d_xba_j4 L' k b = br (!b) (L' ((k + 1 : Nat) : Int)) (some false) := by intro b; unfold d_xba_j4; rw [w64_succ hk (by omega)]; cases b <;> rfl
    rw [getP_lt hkl]; unfold d_xba_l3 clashB; rw [decn_lt hk, br_t, at?_lt hkl, bd_some]; simp only [jn_eq, hj4, gt_iff_lt]; cases h.Parties[k].Turn == h.Parties[i].Turn <;> cases decide (h.Parties[k].Turn < h.Parties[i].Turn) <;> cases decide (h.Parties[i].Since < h.Parties[k].Since) <;> cases decide (h.Parties[i].Turn < h.Parties[k].Turn) <;> cases decide (h.Parties[k].Since < h.Parties[i].Since) <;> rfl
   ·intro L'; unfold d_xba_l3 d_xba_j5; rw [decn_ge, br_f, jn_eq, w64_succ hi (by omega)]
  unfold d_xba_l1; rw [decn_lt hi, br_t, at?_lt hi, bd_some, spec_PartyOk (by omega), bd_some, br_not, dec_pos]; simp only [jn_eq, hj2]; generalize rAll (fun k => getP h.Parties k fun q => !(clashB q h.Parties[i])) 0 i = X; by_cases h0 : 0 < i
  ·rw [decide_eq_true h0, br_t, if_pos h0, w64_pred i h0 (by omega), at?_lt (show i - 1 < h.Parties.length by omega), bd_some, getP_lt (show i - 1 < h.Parties.length by omega)]; cases partyB h.Rules h.Parties[i] h.Now <;> cases decide (h.Parties[i].Turn >= h.Turn) <;> cases decide (h.Parties[i - 1].Id >= h.Parties[i].Id) <;> rfl
  ·rw [decide_eq_false h0, br_f, if_neg h0]; cases partyB h.Rules h.Parties[i] h.Now <;> cases decide (h.Parties[i].Turn >= h.Turn) <;> rfl
 ·intro L; unfold d_xba_l1 d_xba_j6; rw [decn_ge, br_f, jn_eq]
theorem spec_l1Has {l : List Int} (hl : l.length < 2 ^ 62) (x : Int) : d_xbb l x = some (l.any (fun y => y == x)) := by
 unfold d_xbb; refine (forLoop (n := l.length) (fun i (_ : Unit) => (i : Int)) (fun _ _ => True) (fun i _ => some ((l.drop i).any (fun y => y == x))) (by omega) ?_ (v := ()) trivial); intro L i _ _ hi ih; unfold d_xbb_l1 d_xbb_j2; rcases Nat.lt_or_ge i l.length with h | h
 ·rw [decn_lt h, br_t, at?_lt h, bd_some, w64_succ h (by omega), drop_at h, List.any_cons]; cases l[i] == x with
  | true => rfl
  | false => rw [br_f, ih () trivial h]; rfl
 ·obtain rfl : i = l.length := by omega
  rw [decn_ge, br_f, jn_eq, List.drop_length]; rfl
theorem impl_Contains {l : List Int} (hl : l.length < 2 ^ 62) (x : Int) : d_xdb l x = some (l.any (fun y => y == x)) := by
 unfold d_xdb d_xda; rw [atLoop (l := l) (p := fun y => x == y) (by omega) ?_ ?_, bd_some]
 ·congr 1; rw [Bool.eq_iff_iff, decide_eq_true_iff, List.any_eq_true]; have := atF_none (p := fun y => x == y) (l := l) (s := 0); constructor
  ·intro h; have h2 : ¬ ∀ y ∈ l, (x == y) = false := by rw [<- this]; omega
   simp only [beq_eq_false_iff_ne] at h2; refine Classical.byContradiction fun g => h2 fun y hy e => g ⟨y, hy, by simp [e]⟩
  ·rintro ⟨y, hy, e⟩; have h2 : ¬ atF (fun y => x == y) l 0 < 0 := by
    rw [this]; intro g; have := g y hy; rw [beq_iff_eq] at e; rw [e] at this; simp at this
   omega
 ·intro L i h; unfold d_xda_l1; rw [decn_lt h, br_t, at?_lt h, bd_some]
 ·intro L; unfold d_xda_l1 d_xda_j2; rw [decn_ge, br_f, jn_eq]
def todoAt (t : List Int) (n : Int) (i : Nat) : Bool := getP t i fun k => inB k 0 (w64 (n - 1)) && !((t.take i).any fun y => y == k)
def todoB (t : List Int) (n : Int) : Bool := rAll (todoAt t n) 0 t.length
def jobsB (t : List Int) (n : Int) : Bool := t.all fun x => inB x (-1) (w64 (n - 1))
theorem spec_l11Jobs {h : GHouse} (hh : HouseFit h) : d_xbc h = some (todoB h.Todo h.Cabins.length && (jobsB h.Jobs h.Cabins.length && ((h.Jobs.length : Int) == h.Rules.Crew))) := by
 have h1 := hh.todo; have h2 := hh.jobs; have e3 : d_xbc_j3 h () = some (jobsB h.Jobs h.Cabins.length && ((h.Jobs.length : Int) == h.Rules.Crew)) := by
  unfold d_xbc_j3 jobsB; rw [allOf (l := h.Jobs) (fun x => inB x (-1) (w64 ((h.Cabins.length : Int) - 1))) (E := some ((h.Jobs.length : Int) == h.Rules.Crew)) (by omega) ?_ ?_, br_and]
  ·intro L i hi; unfold d_xbc_l4; rw [decn_lt hi, br_t, at?_lt hi, bd_some, in_eq, bd_some, br_not]
  ·intro L; unfold d_xbc_l4 d_xbc_j5; rw [decn_ge, br_f, jn_eq]
 unfold d_xbc todoB; rw [allIdx (n := h.Todo.length) (E := d_xbc_j3 h ()) (todoAt h.Todo h.Cabins.length) (by omega) ?_ ?_, e3, br_and]
 ·intro L i hi; unfold todoAt; rw [getP_lt hi]; unfold d_xbc_l1 d_xbc_j2; rw [decn_lt hi, br_t, at?_lt hi, bd_some, in_eq, bd_some, br_not, gd_t (by omega), bd_some, Int.toNat_natCast, spec_l1Has (by rw [List.length_take]; omega), bd_some, jn_eq, jn_eq, w64_succ hi (by omega), br_t]; cases inB h.Todo[i] 0 (w64 ((h.Cabins.length : Int) - 1)) <;> cases (h.Todo.take i).any (fun y => y == h.Todo[i]) <;> rfl
 ·intro L; unfold d_xbc_l1; rw [decn_ge, br_f, jn_eq]
noncomputable def cabAt (h : GHouse) (i : Nat) : Bool :=
 getP h.Cabins i fun c => getP h.Rules.Seats i (fun s => c.Seats.Total == s) && (agreesB h.Rules c h.Parties i h.Now && !(decide (countI h.Parties i > h.Rules.Room)))
noncomputable def cabinsB (h : GHouse) : Bool := rAll (cabAt h) 0 h.Cabins.length
noncomputable def houseB (h : GHouse) : Bool :=
 rulesB h.Rules && (inB h.Now 0 1000000 && (inB h.Turn 1 1000001 && (!(decide ((h.Parties.length : Int) > 40)) && (((h.Cabins.length : Int) == (h.Rules.Seats.length : Int)) && (partiesB h && ((todoB h.Todo h.Cabins.length && (jobsB h.Jobs h.Cabins.length && ((h.Jobs.length : Int) == h.Rules.Crew))) && cabinsB h))))))
theorem spec_HouseOk {h : GHouse} (hh : HouseFit h) : d_xb1 h = some (houseB h) := by
 have h1 := hh.seats; have h2 := hh.parties; have h3 := hh.ncab; have ht : d_xb1_j1 h true = some false := rfl; unfold d_xb1 houseB; by_cases hcl : h.Cabins.length = h.Rules.Seats.length
 ·have hj2 : ∀ b, d_xb1_j2 h b = some (!b && cabinsB h) := by
   intro b; unfold d_xb1_j2 cabinsB; rw [allIdx (n := h.Cabins.length) (E := some true) (cabAt h) (by omega) ?_ ?_, br_and, Bool.and_true, br_andn]
   ·intro L i hi; have hj4 : ∀ b, d_xb1_j4 L i b = br (!b) (L ((i + 1 : Nat) : Int)) (some false) := by intro b; unfold d_xb1_j4; rw [w64_succ hi (by omega)]; cases b <;> rfl
    unfold cabAt; rw [getP_lt hi, getP_lt (show i < h.Rules.Seats.length by omega)]; unfold d_xb1_l3; rw [decn_lt hi, br_t, at?_lt hi, bd_some, at?_lt (show i < h.Rules.Seats.length by omega), bd_some, bd_some, spec_Agrees (by omega) (hh.cabins _ (List.getElem_mem hi)) h2, bd_some, br_not, spec_CountIn (by omega), bd_some]; simp only [jn_eq, hj4, bne]; cases h.Cabins[i].Seats.Total == h.Rules.Seats[i] <;> cases agreesB h.Rules h.Cabins[i] h.Parties i h.Now <;> cases decide (countI h.Parties i > h.Rules.Room) <;> rfl
   ·intro L; unfold d_xb1_l3 d_xb1_j5; rw [decn_ge, br_f, jn_eq]
  have hj1 : ∀ b, d_xb1_j1 h b = some (!b && (partiesB h && ((todoB h.Todo h.Cabins.length && (jobsB h.Jobs h.Cabins.length && ((h.Jobs.length : Int) == h.Rules.Crew))) && cabinsB h))) := by
   intro b; unfold d_xb1_j1; simp only [spec_l11Parties hh, spec_l11Jobs hh, bd_some, br_not, jn_eq, hj2, Bool.not_true, Bool.false_and, Bool.not_not, br_and, br_andn]
  simp only [spec_RulesOk (show h.Rules.Seats.length < 2 ^ 62 by omega), in_eq, bd_some, br_not, jn_eq, hj1, Bool.not_true, Bool.false_and, br_and, br_andn, bne, Bool.not_not]
 ·have e : ((h.Cabins.length : Int) == (h.Rules.Seats.length : Int)) = false := by rw [beq_eq_false_iff_ne]; omega
  simp only [spec_RulesOk (show h.Rules.Seats.length < 2 ^ 62 by omega), in_eq, bd_some, br_not, jn_eq, bne, e, Bool.not_false, ht, br_same, Bool.false_and, Bool.and_false]
theorem impl_HouseOk {h : GHouse} (hh : HouseFit h) : d_xdc h = some (houseB h) := by
 have h1 := hh.seats; have h2 := hh.parties; have h3 := hh.ncab; have h4 := hh.todo; have h5 := hh.jobs; have ht : d_xdc_j1 h true = some false := rfl; unfold d_xdc houseB; by_cases hr : rulesB h.Rules = false
 ·rw [impl_RulesOk (by omega), bd_some, hr, br_not, br_f, jn_eq, ht]; rfl
 rw [Bool.not_eq_false] at hr; have hrm := (rulesB_ok hr).2.2.1; by_cases hcl : h.Cabins.length ≠ h.Rules.Seats.length
 ·have e : ((h.Cabins.length : Int) == (h.Rules.Seats.length : Int)) = false := by rw [beq_eq_false_iff_ne]; omega
  simp only [impl_RulesOk (show h.Rules.Seats.length < 2 ^ 62 by omega), wi_eq, bd_some, br_not, jn_eq, bne, e, Bool.not_false, ht, br_t, br_same, Bool.false_and, Bool.and_false]
 have hcl := Classical.not_not.1 hcl; have e13 : d_xdc_j13 h () = some (jobsB h.Jobs h.Cabins.length) := by
  unfold d_xdc_j13 jobsB; rw [allOf (l := h.Jobs) (fun x => inB x (-1) (w64 ((h.Cabins.length : Int) - 1))) (E := some true) (by omega) ?_ ?_, br_and, Bool.and_true]
  ·intro L i hi; unfold d_xdc_l14; rw [decn_lt hi, br_t, at?_lt hi, bd_some, wi_eq, bd_some, br_not, hcl]
  ·intro L; unfold d_xdc_l14 d_xdc_j15; rw [decn_ge, br_f, jn_eq]
 have e10 : d_xdc_j10 h () = some (todoB h.Todo h.Cabins.length && jobsB h.Jobs h.Cabins.length) := by
  unfold d_xdc_j10 todoB; rw [allIdx (n := h.Todo.length) (E := d_xdc_j13 h ()) (todoAt h.Todo h.Cabins.length) (by omega) ?_ ?_, e13, br_and]
  ·intro L i hi; unfold todoAt; rw [getP_lt hi]; unfold d_xdc_l11 d_xdc_j12; rw [decn_lt hi, br_t, at?_lt hi, bd_some, ix_eq, bd_some, br_not, gd_t (by omega), Int.toNat_natCast, impl_Contains (by rw [List.length_take]; omega), bd_some, jn_eq, jn_eq, w64_succ hi (by omega), br_t, hcl]; cases inB h.Todo[i] 0 (w64 ((h.Rules.Seats.length : Int) - 1)) <;> cases (h.Todo.take i).any (fun y => y == h.Todo[i]) <;> rfl
  ·intro L; unfold d_xdc_l11; rw [decn_ge, br_f, jn_eq]
 have e7 : d_xdc_j7 h () = some (cabinsB h && (todoB h.Todo h.Cabins.length && jobsB h.Jobs h.Cabins.length)) := by
  unfold d_xdc_j7 cabinsB; rw [allIdx (n := h.Cabins.length) (E := d_xdc_j10 h ()) (cabAt h) (by omega) ?_ ?_, e10, br_and]
  ·intro L i hi; have hj9 : ∀ b, d_xdc_j9 L i b = br (!b) (L ((i + 1 : Nat) : Int)) (some false) := by intro b; unfold d_xdc_j9; rw [w64_succ hi (by omega)]; cases b <;> rfl
   unfold cabAt; rw [getP_lt hi, getP_lt (show i < h.Rules.Seats.length by omega)]; unfold d_xdc_l8; rw [decn_lt hi, br_t, at?_lt hi, bd_some, at?_lt (show i < h.Rules.Seats.length by omega), bd_some, impl_CountIn (by omega), bd_some]; by_cases hc : countI h.Parties i > h.Rules.Room
   ·rw [decide_eq_true hc]; simp only [jn_eq, hj9, bne, br_t]; cases h.Cabins[i].Seats.Total == h.Rules.Seats[i] <;> cases agreesB h.Rules h.Cabins[i] h.Parties i h.Now <;> rfl
   ·rw [decide_eq_false hc, impl_Agrees (by omega) (hh.cabins _ (List.getElem_mem hi)) h2 (by omega), bd_some]; simp only [jn_eq, hj9, bne, br_f]; cases h.Cabins[i].Seats.Total == h.Rules.Seats[i] <;> cases agreesB h.Rules h.Cabins[i] h.Parties i h.Now <;> rfl
  ·intro L; unfold d_xdc_l8; rw [decn_ge, br_f, jn_eq]
 have hj1 : ∀ b, d_xdc_j1 h b = some (!b && (!(decide ((h.Parties.length : Int) > 40)) && (partiesB h && (cabinsB h && (todoB h.Todo h.Cabins.length && jobsB h.Jobs h.Cabins.length))))) := by
  intro b; unfold d_xdc_j1 partiesB; rw [allIdx (n := h.Parties.length) (E := d_xdc_j7 h ()) (parAt h) (by omega) ?_ ?_, e7, br_and, br_andn, br_andn]
  ·intro L i hi; unfold parAt; rw [getP_lt hi]; have hj3 : ∀ b, d_xdc_j3 h L i h.Parties[i] b = br (!b && rAll (fun k => getP h.Parties k fun q => !(clashB q h.Parties[i])) 0 i) (L ((i + 1 : Nat) : Int)) (some false) := by
    intro b; unfold d_xdc_j3; rw [gd_t (by omega), allIdx (n := i) (E := L ((i + 1 : Nat) : Int)) (fun k => getP h.Parties k fun q => !(clashB q h.Parties[i])) (by omega) ?_ ?_]
    ·cases b <;> rfl
    ·intro L' k hk; have hkl : k < h.Parties.length := by omega
     have hj5 : ∀ b, d_xdc_j5 L' k b = br (!b) (L' ((k + 1 : Nat) : Int)) (some false) := by intro b; unfold d_xdc_j5; rw [w64_succ hk (by omega)]; cases b <;> rfl
     have hlen : (h.Parties.take i).length = i := by rw [List.length_take]; omega
     have hat : at? (h.Parties.take i) (k : Int) = some h.Parties[k] := by rw [at?_lt (by omega)]; simp
     rw [getP_lt hkl]; unfold d_xdc_l4 clashB; rw [Int.toNat_natCast, hlen, decn_lt hk, br_t, hat, bd_some]; have eb : (h.Parties[i].Turn == h.Parties[k].Turn) = (h.Parties[k].Turn == h.Parties[i].Turn) := BEq.comm; simp only [jn_eq, hj5, gt_iff_lt, eb]; cases h.Parties[k].Turn == h.Parties[i].Turn <;> cases decide (h.Parties[k].Turn < h.Parties[i].Turn) <;> cases decide (h.Parties[i].Since < h.Parties[k].Since) <;> cases decide (h.Parties[i].Turn < h.Parties[k].Turn) <;> cases decide (h.Parties[k].Since < h.Parties[i].Since) <;> rfl
    ·intro L'; have hlen : (h.Parties.take i).length = i := by rw [List.length_take]; omega
     unfold d_xdc_l4 d_xdc_j6; rw [Int.toNat_natCast, hlen, decn_ge, br_f, jn_eq, w64_succ hi (by omega)]
   unfold d_xdc_l2; rw [decn_lt hi, br_t, at?_lt hi, bd_some, impl_PartyOk (by omega), bd_some, br_not, dec_pos]; simp only [jn_eq, hj3]; generalize rAll (fun k => getP h.Parties k fun q => !(clashB q h.Parties[i])) 0 i = X; by_cases h0 : 0 < i
   ·rw [decide_eq_true h0, br_t, if_pos h0, w64_pred i h0 (by omega), at?_lt (show i - 1 < h.Parties.length by omega), bd_some, getP_lt (show i - 1 < h.Parties.length by omega)]; cases partyB h.Rules h.Parties[i] h.Now <;> cases decide (h.Parties[i].Turn >= h.Turn) <;> cases decide (h.Parties[i - 1].Id >= h.Parties[i].Id) <;> rfl
   ·rw [decide_eq_false h0, br_f, if_neg h0]; cases partyB h.Rules h.Parties[i] h.Now <;> cases decide (h.Parties[i].Turn >= h.Turn) <;> rfl
  ·intro L; unfold d_xdc_l2; rw [decn_ge, br_f, jn_eq]
 have e : ((h.Cabins.length : Int) == (h.Rules.Seats.length : Int)) = true := by rw [beq_iff_eq]; omega
 simp only [impl_RulesOk (show h.Rules.Seats.length < 2 ^ 62 by omega), wi_eq, bd_some, br_not, jn_eq, hj1, Bool.not_true, Bool.false_and, br_and, br_andn, bne, Bool.not_not, e, br_t, Bool.not_false, Bool.true_and]; congr 1; ac_rfl
theorem ifs_and (a b : Bool) : (if a = true then some b else some false) = some (a && b) := by cases a <;> rfl
def fldB (n : Int) : Bool := inB n 0 9999
theorem spec_fld (n : Int) : d_xb4 n = some (fldB n) := by unfold d_xb4 fldB; rw [in_eq, bd_some]
theorem impl_fld (n : Int) : d_xdf n = some (fldB n) := by unfold d_xdf fldB; rw [wi_eq, bd_some]
def askB (q : GReq) : Bool :=
 if q.Kind = 1 then fldB q.Id && (fldB q.Cabin && (inB q.From (-1) 9999 && (fldB q.Size && fldB q.Tier)))
 else if q.Kind = 2 ∨ q.Kind = 4 ∨ q.Kind = 5 ∨ q.Kind = 7 then fldB q.Id && (q.Cabin == 0 && (q.From == 0 && (q.Size == 0 && q.Tier == 0)))
 else if q.Kind = 3 then fldB q.Cabin && (fldB q.Size && (q.Id == 0 && (q.From == 0 && q.Tier == 0)))
 else if q.Kind = 6 then q.Id == 0 && (q.Cabin == 0 && (q.From == 0 && (q.Size == 0 && q.Tier == 0)))
 else false
theorem spec_ask (q : GReq) : d_xb5 q = some (askB q) := by
 obtain ⟨k, a, b, c, d, e⟩ := q; unfold d_xb5 d_xb5_j1 d_xb5_j2 d_xb5_j1 askB; simp only [jn_eq, spec_fld, bd_some, in_eq, br_and, br_if, beq_iff_eq]; by_cases h1 : k = 1
 ·simp [h1, ifs_and]
 by_cases h2 : k = 2
 ·simp [h2, ifs_and]
 by_cases h3 : k = 4
 ·simp [h3, ifs_and]
 by_cases h4 : k = 5
 ·simp [h4, ifs_and]
 by_cases h5 : k = 7
 ·simp [h5, ifs_and]
 by_cases h6 : k = 3
 ·simp [h6, ifs_and]
 by_cases h7 : k = 6
 ·simp [h7, ifs_and]
 simp [h1, h2, h3, h4, h5, h6, h7]
theorem impl_ask (q : GReq) : d_xdg q = some (askB q) := by
 obtain ⟨k, a, b, c, d, e⟩ := q; unfold d_xdg d_xdg_j1 d_xdg_j2 d_xdg_j1 askB; simp only [jn_eq, impl_fld, bd_some, wi_eq, br_and, br_if, beq_iff_eq]; by_cases h1 : k = 1
 ·simp [h1, ifs_and]
 by_cases h2 : k = 2
 ·simp [h2, ifs_and]
 by_cases h3 : k = 4
 ·simp [h3, ifs_and]
 by_cases h4 : k = 5
 ·simp [h4, ifs_and]
 by_cases h5 : k = 7
 ·simp [h5, ifs_and]
 by_cases h6 : k = 3
 ·simp [h6, ifs_and]
 by_cases h7 : k = 6
 ·simp [h7, ifs_and]
 simp [h1, h2, h3, h4, h5, h6, h7]
structure EngineFit (e : GEngine) : Prop where
 house : HouseFit e.House
 log : e.Store.Log.Data.length <= 1048576
 even : e.Store.Even.Data.length <= 1048576
 odd : e.Store.Odd.Data.length <= 1048576
 laid : e.Laid.length <= 1048576
noncomputable def engineB (e : GEngine) : Bool := houseB e.House && (storeB e.Store && (!(decide ((e.Laid.length : Int) > 8)) && (inB e.Seq e.Laid.length 1000000 && e.Laid.all askB)))
theorem spec_EngineOk {e : GEngine} (he : EngineFit e) : d_xb6 e = some (engineB e) := by
 have h1 := he.laid; have hj : ∀ b, d_xb6_j1 e b = some (!b && e.Laid.all askB) := by
  intro b; unfold d_xb6_j1; rw [allOf (l := e.Laid) askB (E := some true) (by omega) ?_ ?_, br_and, Bool.and_true, br_andn]
  ·intro L i h; unfold d_xb6_l2; rw [decn_lt h, br_t, at?_lt h, bd_some, spec_ask, bd_some, br_not]
  ·intro L; unfold d_xb6_l2 d_xb6_j3; rw [decn_ge, br_f, jn_eq]
 unfold d_xb6 engineB; simp only [spec_HouseOk he.house, spec_StoreOk, in_eq, bd_some, br_not, jn_eq, hj, Bool.not_true, Bool.false_and, br_and, br_andn, Bool.not_not]
theorem impl_EngineOk {e : GEngine} (he : EngineFit e) : d_xdh e = some (engineB e) := by
 have h1 := he.laid; have hj : ∀ b, d_xdh_j1 e b = some (!b && e.Laid.all askB) := by
  intro b; unfold d_xdh_j1; rw [allOf (l := e.Laid) askB (E := some true) (by omega) ?_ ?_, br_and, Bool.and_true, br_andn]
  ·intro L i h; unfold d_xdh_l2; rw [decn_lt h, br_t, at?_lt h, bd_some, impl_ask, bd_some, br_not]
  ·intro L; unfold d_xdh_l2 d_xdh_j3; rw [decn_ge, br_f, jn_eq]
 unfold d_xdh engineB; simp only [impl_HouseOk he.house, impl_StoreOk, wi_eq, bd_some, br_not, jn_eq, hj, Bool.not_true, Bool.false_and, br_and, br_andn, Bool.not_not]
end Lv.P
namespace Lv.P
open Go (IntKind BinOp UnOp)
theorem eqRow {n : Nat} {F : (Int -> Option Bool) -> Int -> Option Bool} (hl : n < 2 ^ 63) (step : ∀ L (i : Nat), i < n -> F L (i : Int) = L (w64 ((i : Int) + 1))) (stop : ∀ L, F L (n : Int) = some true) :
 br ((n : Int) != (n : Int)) (some false) (loopN F big 0) = some true := by
 rw [br_if, if_neg (by simp)]; exact allLoop hl (fun L i h => by rw [step L i h, w64_succ h hl]) stop
theorem ne_self (a : Int) : (a != a) = false := by simp
def Sz (x : Option Int) (d : Int) (P : Prop) : Prop := ∃ r, x = some r /\ (r < 0 ∨ 0 <= r /\ r <= d /\ P)
theorem sz_len {n : Nat} (hn : n < 9223372036854775808) {d : Int} (h0 : 0 <= d) (h1 : d <= 1048576) :
 br (decide (w64 (d - (n : Int)) < 0)) (some (-1)) (some (w64 (d - (n : Int)))) = some (if d - n < 0 then -1 else d - n) := by
 rw [w64_id (by omega) (by omega), br_dec]; split <;> rfl
theorem sz_row {n : Nat} (hn : n < 9223372036854775808) {d : Int} (h0 : 0 <= d) (h1 : d <= 1048576) :
 ∃ r, br (decide (w64 (d - (n : Int)) < 0)) (some (-1)) (some (w64 (d - (n : Int)))) = some r /\ (r < 0 ∨ 0 <= r /\ r + n = d) := by
 rw [sz_len hn h0 h1]; refine ⟨_, rfl, ?_⟩; split <;> omega
theorem eqr_Party (x : GParty) : d_xdk x x = some true := by
 unfold d_xdk; simp only [ne_self, br_f]
theorem eqr_Ledger (x : GLedger) : d_xdm x x = some true := by
 unfold d_xdm; simp only [ne_self, br_f]
theorem eqr_Entry (x : GEntry) : d_xdn x x = some true := by
 unfold d_xdn; simp only [ne_self, br_f]
theorem eqr_Pin (x : GPin) : d_xdp x x = some true := by
 unfold d_xdp; simp only [ne_self, br_f]
theorem eqr_Req (x : GReq) : d_xdy x x = some true := by
 unfold d_xdy; simp only [ne_self, br_f]
theorem eqr_Area (x : GArea) : d_xdw x x = some true := by
 unfold d_xdw; rw [br_if, if_neg (by simp), br_if, if_neg (by simp)]
theorem eqr_IntS {l : List Int} (hl : l.length < 9223372036854775808) : d_xdi l l = some true := by
 unfold d_xdi; refine eqRow (by omega) ?_ ?_
 ·intro L i h; unfold d_xdi_l1; rw [decn_lt h, br_t, at?_lt h, bd_some, bd_some, ne_self, br_f]
 ·intro L; unfold d_xdi_l1 d_xdi_j2; rw [decn_ge, br_f, jn_eq]
theorem eqr_PartyS {l : List GParty} (hl : l.length < 9223372036854775808) : d_xdl l l = some true := by
 unfold d_xdl; refine eqRow (by omega) ?_ ?_
 ·intro L i h; unfold d_xdl_l1; rw [decn_lt h, br_t, at?_lt h, bd_some, bd_some, eqr_Party, bd_some, br_not, br_t]
 ·intro L; unfold d_xdl_l1 d_xdl_j2; rw [decn_ge, br_f, jn_eq]
theorem eqr_EntryS {l : List GEntry} (hl : l.length < 9223372036854775808) : d_xdo l l = some true := by
 unfold d_xdo; refine eqRow (by omega) ?_ ?_
 ·intro L i h; unfold d_xdo_l1; rw [decn_lt h, br_t, at?_lt h, bd_some, bd_some, eqr_Entry, bd_some, br_not, br_t]
 ·intro L; unfold d_xdo_l1 d_xdo_j2; rw [decn_ge, br_f, jn_eq]
theorem eqr_PinS {l : List GPin} (hl : l.length < 9223372036854775808) : d_xdq l l = some true := by
 unfold d_xdq; refine eqRow (by omega) ?_ ?_
 ·intro L i h; unfold d_xdq_l1; rw [decn_lt h, br_t, at?_lt h, bd_some, bd_some, eqr_Pin, bd_some, br_not, br_t]
 ·intro L; unfold d_xdq_l1 d_xdq_j2; rw [decn_ge, br_f, jn_eq]
theorem eqr_ReqS {l : List GReq} (hl : l.length < 9223372036854775808) : d_xdz l l = some true := by
 unfold d_xdz; refine eqRow (by omega) ?_ ?_
 ·intro L i h; unfold d_xdz_l1; rw [decn_lt h, br_t, at?_lt h, bd_some, bd_some, eqr_Req, bd_some, br_not, br_t]
 ·intro L; unfold d_xdz_l1 d_xdz_j2; rw [decn_ge, br_f, jn_eq]
theorem eqr_PinSS {l : List (List GPin)} (hl : l.length < 9223372036854775808) (hp : ∀ x ∈ l, x.length < 9223372036854775808) : d_xdr l l = some true := by
 unfold d_xdr; refine eqRow (by omega) ?_ ?_
 ·intro L i h; unfold d_xdr_l1; rw [decn_lt h, br_t, at?_lt h, bd_some, bd_some, eqr_PinS (hp _ (List.getElem_mem h)), bd_some, br_not, br_t]
 ·intro L; unfold d_xdr_l1 d_xdr_j2; rw [decn_ge, br_f, jn_eq]
theorem eqr_Store (s : GStore) : d_xdx s s = some true := by
 unfold d_xdx; simp only [eqr_Area, bd_some, br_not, br_t]
theorem tor_IntS {l : List Int} (hl : l.length <= 1048576) : d_xo l = some l := by
 unfold d_xo; rw [gd_t (by unfold lim; omega), Int.toNat_natCast]; refine copyLoop (by omega) ?_ ?_
 ·intro L v i hv hi; unfold d_xo_l1; dsimp only; rw [decn_lt hi, br_t, at?_lt hi, bd_some, at?_lt (by omega), bd_some, bd_some, w64_succ hi (by omega), Int.toNat_natCast]
 ·intro L v; unfold d_xo_l1 d_xo_j2; dsimp only; rw [decn_ge, br_f, jn_eq]
theorem tor_PartyS {l : List GParty} (hl : l.length <= 1048576) : d_xr l = some l := by
 unfold d_xr; rw [gd_t (by unfold lim; omega), Int.toNat_natCast]; refine copyLoop (by omega) ?_ ?_
 ·intro L v i hv hi; unfold d_xr_l1; dsimp only; rw [decn_lt hi, br_t, at?_lt hi, bd_some, show d_xq l[i] = some l[i] from rfl, bd_some, at?_lt (by omega), bd_some, bd_some, w64_succ hi (by omega), Int.toNat_natCast]
 ·intro L v; unfold d_xr_l1 d_xr_j2; dsimp only; rw [decn_ge, br_f, jn_eq]
theorem tor_EntryS {l : List GEntry} (hl : l.length <= 1048576) : d_xu l = some l := by
 unfold d_xu; rw [gd_t (by unfold lim; omega), Int.toNat_natCast]; refine copyLoop (by omega) ?_ ?_
 ·intro L v i hv hi; unfold d_xu_l1; dsimp only; rw [decn_lt hi, br_t, at?_lt hi, bd_some, show d_xt l[i] = some l[i] from rfl, bd_some, at?_lt (by omega), bd_some, bd_some, w64_succ hi (by omega), Int.toNat_natCast]
 ·intro L v; unfold d_xu_l1 d_xu_j2; dsimp only; rw [decn_ge, br_f, jn_eq]
theorem tor_PinS {l : List GPin} (hl : l.length <= 1048576) : d_xw l = some l := by
 unfold d_xw; rw [gd_t (by unfold lim; omega), Int.toNat_natCast]; refine copyLoop (by omega) ?_ ?_
 ·intro L v i hv hi; unfold d_xw_l1; dsimp only; rw [decn_lt hi, br_t, at?_lt hi, bd_some, show d_xv l[i] = some l[i] from rfl, bd_some, at?_lt (by omega), bd_some, bd_some, w64_succ hi (by omega), Int.toNat_natCast]
 ·intro L v; unfold d_xw_l1 d_xw_j2; dsimp only; rw [decn_ge, br_f, jn_eq]
theorem tor_ReqS {l : List GReq} (hl : l.length <= 1048576) : d_x5 l = some l := by
 unfold d_x5; rw [gd_t (by unfold lim; omega), Int.toNat_natCast]; refine copyLoop (by omega) ?_ ?_
 ·intro L v i hv hi; unfold d_x5_l1; dsimp only; rw [decn_lt hi, br_t, at?_lt hi, bd_some, show d_x4 l[i] = some l[i] from rfl, bd_some, at?_lt (by omega), bd_some, bd_some, w64_succ hi (by omega), Int.toNat_natCast]
 ·intro L v; unfold d_x5_l1 d_x5_j2; dsimp only; rw [decn_ge, br_f, jn_eq]
theorem tor_PinSS {l : List (List GPin)} (hl : l.length <= 1048576) (hp : ∀ x ∈ l, x.length <= 1048576) : d_xx l = some l := by
 unfold d_xx; rw [gd_t (by unfold lim; omega), Int.toNat_natCast]; refine copyLoop (by omega) ?_ ?_
 ·intro L v i hv hi; unfold d_xx_l1; dsimp only; rw [decn_lt hi, br_t, at?_lt hi, bd_some, tor_PinS (hp _ (List.getElem_mem hi)), bd_some, at?_lt (by omega), bd_some, bd_some, w64_succ hi (by omega), Int.toNat_natCast]
 ·intro L v; unfold d_xx_l1 d_xx_j2; dsimp only; rw [decn_ge, br_f, jn_eq]
theorem mem_flat {l : List (List GPin)} {x : List GPin} (h : x ∈ l) : x.length <= l.flatten.length := by
 obtain ⟨i, hi, rfl⟩ := List.getElem_of_mem h; exact spoke_len hi
theorem tor_Wheel {w : GWheel} (hw : wheelFit w) : d_xy w = some w := by
 unfold d_xy; rw [tor_PinSS hw.1 fun x hx => Nat.le_trans (mem_flat hx) hw.2, bd_some]
theorem tor_Cabin {c : GCabin} (hc : cabinFit c) : d_xz c = some c := by
 unfold d_xz; rw [show d_xs c.Seats = some c.Seats from rfl, bd_some, tor_EntryS hc.1, bd_some, tor_Wheel hc.2, bd_some]
theorem tor_CabinS {l : List GCabin} (hl : l.length <= 1048576) (hp : ∀ x ∈ l, cabinFit x) : d_x0 l = some l := by
 unfold d_x0; rw [gd_t (by unfold lim; omega), Int.toNat_natCast]; refine copyLoop (by omega) ?_ ?_
 ·intro L v i hv hi; unfold d_x0_l1; dsimp only; rw [decn_lt hi, br_t, at?_lt hi, bd_some, tor_Cabin (hp _ (List.getElem_mem hi)), bd_some, at?_lt (by omega), bd_some, bd_some, w64_succ hi (by omega), Int.toNat_natCast]
 ·intro L v; unfold d_x0_l1 d_x0_j2; dsimp only; rw [decn_ge, br_f, jn_eq]
theorem tor_Rules {r : GRules} (hr : r.Seats.length <= 1048576) : d_xp r = some r := by
 unfold d_xp; rw [tor_IntS hr, bd_some]
theorem tor_House {h : GHouse} (hh : HouseFit h) : d_x1 h = some h := by
 unfold d_x1; rw [tor_Rules hh.seats, bd_some, tor_PartyS hh.parties, bd_some, tor_CabinS hh.ncab hh.cabins, bd_some, tor_IntS hh.todo, bd_some, tor_IntS hh.jobs, bd_some]
theorem tor_Store (s : GStore) : d_x3 s = some s := by
 unfold d_x3 d_x2; simp only [bd_some]
theorem tor_Engine {e : GEngine} (he : EngineFit e) : d_x6 e = some e := by
 unfold d_x6; rw [tor_House he.house, bd_some, tor_Store, bd_some, tor_ReqS he.laid, bd_some]
theorem szr_IntS {l : List Int} (hl : l.length < 9223372036854775808) {d : Int} (h0 : 0 <= d) (h1 : d <= 1048576) : ∃ r, d_xa l d = some r /\ (r < 0 ∨ 0 <= r /\ r + l.length = d) := sz_row hl h0 h1
theorem szr_PartyS {l : List GParty} (hl : l.length < 9223372036854775808) {d : Int} (h0 : 0 <= d) (h1 : d <= 1048576) : ∃ r, d_xc l d = some r /\ (r < 0 ∨ 0 <= r /\ r + l.length = d) := sz_row hl h0 h1
theorem szr_EntryS {l : List GEntry} (hl : l.length < 9223372036854775808) {d : Int} (h0 : 0 <= d) (h1 : d <= 1048576) : ∃ r, d_xd l d = some r /\ (r < 0 ∨ 0 <= r /\ r + l.length = d) := sz_row hl h0 h1
theorem szr_PinS {l : List GPin} (hl : l.length < 9223372036854775808) {d : Int} (h0 : 0 <= d) (h1 : d <= 1048576) : ∃ r, d_xe l d = some r /\ (r < 0 ∨ 0 <= r /\ r + l.length = d) := sz_row hl h0 h1
theorem szr_ReqS {l : List GReq} (hl : l.length < 9223372036854775808) {d : Int} (h0 : 0 <= d) (h1 : d <= 1048576) : ∃ r, d_xm l d = some r /\ (r < 0 ∨ 0 <= r /\ r + l.length = d) := sz_row hl h0 h1
theorem szr_Area {a : GArea} (hl : a.Data.length < 9223372036854775808) {d : Int} (h0 : 0 <= d) (h1 : d <= 1048576) : ∃ r, d_xk a d = some r /\ (r < 0 ∨ 0 <= r /\ r + a.Data.length = d) := sz_row hl h0 h1
theorem szr_PinSS {l : List (List GPin)} (hl : okL (okL okGPin) l) {d : Int} (h0 : 0 <= d) (h1 : d <= 1048576) : ∃ r, d_xf l d = some r /\ (r < 0 ∨ 0 <= r /\ r + l.length + l.flatten.length = d) := by
 have hn := hl.1; unfold d_xf; rw [w64_id (n := d - (l.length : Int)) (by omega) (by omega), br_dec]; split
 ·exact ⟨_, rfl, .inl (by omega)⟩
 rename_i hd; refine forEx (n := l.length) (fun i (v : Int) => (v, (i : Int))) (fun i v => 0 <= v /\ v + l.length + (l.take i).flatten.length = d) _ (by omega) ?_ (v := d - l.length) ⟨by omega, by simp⟩; rintro L i v ⟨hv0, hv⟩ hi ih; unfold d_xf_l1 d_xf_j2; dsimp only; rcases Nat.lt_or_ge i l.length with h | h
 ·obtain ⟨r, e, hr⟩ := szr_PinS (hl.2 _ (List.getElem_mem h)).1 hv0 (by omega); rw [decn_lt h, br_t, at?_lt h, bd_some, e, bd_some, br_dec]; split
  ·exact ⟨_, rfl, .inl (by omega)⟩
  ·rw [w64_succ h (by omega)]; refine ih _ ⟨by omega, ?_⟩ h; have ef : (l.take (i + 1)).flatten = (l.take i).flatten ++ l[i] := by rw [List.take_add_one, List.getElem?_eq_getElem h, List.flatten_append]; simp
   rw [ef, List.length_append]; omega
 ·obtain rfl : i = l.length := by omega
  rw [decn_ge, br_f, jn_eq]; rw [List.take_length] at hv; exact ⟨_, rfl, .inr ⟨hv0, hv⟩⟩
theorem szr_Cabin {c : GCabin} (hc : okGCabin c) {d : Int} (h0 : 0 <= d) (h1 : d <= 1048576) : Sz (d_xh c d) d (cabinFit c) := by
 unfold d_xh d_xg; obtain ⟨r, e, hr⟩ := szr_EntryS hc.2.1.1 h0 h1; rw [e, bd_some, br_dec]; split
 ·exact ⟨_, rfl, .inl (by omega)⟩
 obtain ⟨s, e, hs⟩ := szr_PinSS hc.2.2.1.1 (d := r) (by omega) (by omega); rw [e, bd_some, br_dec]; split
 ·rw [bd_some]; exact ⟨_, rfl, .inl (by omega)⟩
 ·rw [bd_some, br_dec, if_neg (by omega)]; refine ⟨_, rfl, .inr ⟨by omega, by omega, by omega, by omega, by omega⟩⟩
theorem szr_CabinS {l : List GCabin} (hl : okL okGCabin l) {d : Int} (h0 : 0 <= d) (h1 : d <= 1048576) : Sz (d_xi l d) d (l.length <= 1048576 /\ ∀ c ∈ l, cabinFit c) := by
 have hn := hl.1; unfold d_xi Sz; rw [w64_id (n := d - (l.length : Int)) (by omega) (by omega), br_dec]; split
 ·exact ⟨_, rfl, .inl (by omega)⟩
 rename_i hd; refine forEx (n := l.length) (fun i (v : Int) => (v, (i : Int))) (fun i v => 0 <= v /\ v <= d - l.length /\ ∀ c ∈ l.take i, cabinFit c) _ (by omega) ?_ (v := d - l.length) ⟨by omega, by omega, by simp⟩; rintro L i v ⟨hv0, hv, hf⟩ hi ih; unfold d_xi_l1 d_xi_j2; dsimp only; rcases Nat.lt_or_ge i l.length with h | h
 ·obtain ⟨r, e, hr⟩ := szr_Cabin (hl.2 _ (List.getElem_mem h)) hv0 (by omega); rw [decn_lt h, br_t, at?_lt h, bd_some, e, bd_some, br_dec]; split
  ·exact ⟨_, rfl, .inl (by omega)⟩
  ·rw [w64_succ h (by omega)]; refine ih _ ⟨by omega, by omega, ?_⟩ h; intro c hc; rw [List.take_add_one, List.getElem?_eq_getElem h, List.mem_append] at hc; rcases hc with hc | hc
   ·exact hf c hc
   ·simp at hc; rw [hc]; exact (hr.resolve_left (by omega)).2.2
 ·obtain rfl : i = l.length := by omega
  rw [decn_ge, br_f, jn_eq]; rw [List.take_length] at hf; exact ⟨_, rfl, .inr ⟨hv0, by omega, by omega, hf⟩⟩
theorem szr_House {h : GHouse} (hh : okGHouse h) {d : Int} (h0 : 0 <= d) (h1 : d <= 1048576) : Sz (d_xj h d) d (HouseFit h) := by
 obtain ⟨g1, g2, g3, g4, g5, g6, g7, _⟩ := hh; unfold d_xj d_xb; obtain ⟨a, e, ha⟩ := szr_IntS g1.1.1 h0 h1; rw [e, bd_some, br_dec]; split
 ·rw [bd_some]; exact ⟨_, rfl, .inl (by omega)⟩
 rw [bd_some, br_dec, if_neg (by omega)]; obtain ⟨b, e, hb⟩ := szr_PartyS g4.1 (d := a) (by omega) (by omega); rw [e, bd_some, br_dec]; split
 ·exact ⟨_, rfl, .inl (by omega)⟩
 obtain ⟨c, e, hc⟩ := szr_CabinS g5 (d := b) (by omega) (by omega); rw [e, bd_some, br_dec]; split
 ·exact ⟨_, rfl, .inl (by omega)⟩
 obtain ⟨k1, k2, k3, k4⟩ := hc.resolve_left (by omega); obtain ⟨t, e, ht⟩ := szr_IntS g6.1 (d := c) (by omega) (by omega); rw [e, bd_some, br_dec]; split
 ·exact ⟨_, rfl, .inl (by omega)⟩
 obtain ⟨j, e, hj⟩ := szr_IntS g7.1 (d := t) (by omega) (by omega); rw [e, bd_some, br_dec]; split
 ·exact ⟨_, rfl, .inl (by omega)⟩
 exact ⟨_, rfl, .inr ⟨by omega, by omega, by omega, by omega, k3, k4, by omega, by omega⟩⟩
theorem szr_Engine {e : GEngine} (he : okGEngine e) : Sz (d_xn e 1048576) 1048576 (EngineFit e) := by
 obtain ⟨g1, g2, g3, g4, _⟩ := he; unfold d_xn d_xl; obtain ⟨a, q, ha⟩ := szr_House g1 (d := 1048576) (by omega) (by omega); rw [q, bd_some, br_dec]; split
 ·exact ⟨_, rfl, .inl (by omega)⟩
 obtain ⟨k1, k2, k3⟩ := ha.resolve_left (by omega); obtain ⟨b, q, hb⟩ := szr_Area (a := e.Store.Log) g2.1.1 (d := a) (by omega) (by omega); rw [q, bd_some, br_dec]; split
 ·rw [bd_some]; exact ⟨_, rfl, .inl (by omega)⟩
 obtain ⟨c, q, hc⟩ := szr_Area (a := e.Store.Even) g2.2.1.1 (d := b) (by omega) (by omega); rw [q, bd_some, br_dec]; split
 ·rw [bd_some]; exact ⟨_, rfl, .inl (by omega)⟩
 obtain ⟨o, q, ho⟩ := szr_Area (a := e.Store.Odd) g2.2.2.1.1 (d := c) (by omega) (by omega); rw [q, bd_some, br_dec]; split
 ·rw [bd_some]; exact ⟨_, rfl, .inl (by omega)⟩
 rw [bd_some, br_dec, if_neg (by omega)]; obtain ⟨r, q, hr⟩ := szr_ReqS g4.1 (d := o) (by omega) (by omega); rw [q, bd_some, br_dec]; split
 ·exact ⟨_, rfl, .inl (by omega)⟩
 exact ⟨_, rfl, .inr ⟨by omega, by omega, k3, by omega, by omega, by omega, by omega⟩⟩
end Lv.P
