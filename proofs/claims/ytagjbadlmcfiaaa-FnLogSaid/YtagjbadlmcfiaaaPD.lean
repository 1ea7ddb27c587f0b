/-
  Plain laws: what is drawn is always there (first part: cursors, rules, new houses).
-/
import Derived.Test.YtagjbadlmcfiaaaPA
import Derived.Test.YtagjbadlmcfiaaaKB
set_option linter.unusedVariables false
set_option linter.unusedSimpArgs false
set_option linter.unusedVariables false
set_option linter.unusedSimpArgs false
namespace Lv.P
open Go (IntKind BinOp UnOp)
theorem and255 (a : Int) : 0 ≤ andI a 255 ∧ andI a 255 ≤ 255 := by
  unfold andI
  have e : (BitVec.ofInt IntKind.i64.bits 255).toNat = 255 := rfl
  rw [BitVec.toNat_and, e]
  have : (BitVec.ofInt IntKind.i64.bits a).toNat &&& 255 ≤ 255 := Nat.and_le_right
  rw [wrap_id (by omega) (by omega)]
  omega
@[simp] theorem l1Max_eq (a b : Int) : d_spec_l1Max a b = some (if a > b then a else b) := by
  unfold d_spec_l1Max; rw [br_dec]; split <;> rfl
@[simp] theorem laws_big (s : List UInt8) : d_laws_big s = some (decide ((s.length : Int) > 1048576)) := rfl
def CurOk (c : Gl1Cur) : Prop := 0 ≤ c.i_ ∧ c.i_ ≤ c.b_.length ∧ c.b_.length ≤ 1048576
theorem tNew {s : List UInt8} (hs : s.length ≤ 1048576) : ∃ c, d_spec_l1New s = some c ∧ CurOk c := by
  unfold d_spec_l1New
  refine forEx (n := s.length) (fun i (v : Int) => (v, (i : Int))) (fun _ _ => True) CurOk (by omega) ?_ trivial
  intro L i v _ hi ih
  unfold d_spec_l1New_l1 d_spec_l1New_j2 d_spec_l1New_j3
  dsimp only
  simp only [jn_eq, dec_lt]
  rcases Nat.lt_or_ge i s.length with h | h
  · rw [decide_eq_true h, br_t, br_dec, at?_lt h, bd_some, w64_succ h (by omega)]
    split
    · exact ih _ trivial h
    · exact ⟨_, rfl, by simp, by simp, hs⟩
  · rw [decide_eq_false (by omega), br_f, br_f]
    exact ⟨_, rfl, by simp, by simp, hs⟩
theorem tByte {c : Gl1Cur} (hc : CurOk c) : ∃ r, d_spec_l1Byte c = some r ∧ 0 ≤ r.1 ∧ r.1 ≤ 255 ∧ CurOk r.2 := by
  obtain ⟨h0, h1, h2⟩ := hc
  unfold d_spec_l1Byte d_spec_l1Byte_j1
  rw [br_dec]
  obtain ⟨i, hi⟩ := Int.eq_ofNat_of_zero_le h0
  split
  · rename_i h
    rw [hi, at?_lt (by omega), bd_some, jn_eq]
    have := and255 (w64 (andI (xorI (shrI (w64 (w64 (c.h_ * 6364136223846793005) + 1442695040888963407)) 33) (shrI (w64 (w64 (c.h_ * 6364136223846793005) + 1442695040888963407)) 45)) 255 + w64 (↑(UInt8.toNat c.b_[i]) : Int)))
    refine ⟨_, rfl, this.1, this.2, ?_⟩
    rw [w64_id (n := (i : Int) + 1) (by omega) (by omega)]
    exact ⟨by dsimp only; omega, by dsimp only; omega, h2⟩
  · rw [jn_eq]
    have := and255 (xorI (shrI (w64 (w64 (c.h_ * 6364136223846793005) + 1442695040888963407)) 33) (shrI (w64 (w64 (c.h_ * 6364136223846793005) + 1442695040888963407)) 45))
    exact ⟨_, rfl, this.1, this.2, h0, h1, h2⟩
theorem tmod_range {a n : Int} (ha : 0 ≤ a) (hn : 0 < n) : 0 ≤ Int.tmod a n ∧ Int.tmod a n < n := by
  rw [Int.tmod_eq_emod_of_nonneg ha]
  exact ⟨Int.emod_nonneg _ (by omega), Int.emod_lt_of_pos _ hn⟩
theorem tBelow {c : Gl1Cur} (hc : CurOk c) (n : Int) : ∃ r, d_spec_l1Below c n = some r ∧ 0 ≤ r.1 ∧ (n ≤ 0 → r.1 = 0) ∧ (0 < n → r.1 < n) ∧ CurOk r.2 := by
  unfold d_spec_l1Below
  rw [br_dec]
  by_cases h0 : n ≤ 0
  · rw [if_pos h0]; exact ⟨_, rfl, by simp, by simp, by omega, hc⟩
  rw [if_neg h0, br_dec]
  split
  · obtain ⟨r, e, h1, h2, h3⟩ := tByte hc
    rw [e, bd_some, gd_t (by omega)]
    have := tmod_range h1 (show 0 < n by omega)
    exact ⟨_, rfl, this.1, by omega, fun _ => this.2, h3⟩
  · obtain ⟨r1, e1, a1, b1, c1⟩ := tByte hc
    obtain ⟨r2, e2, a2, b2, c2⟩ := tByte c1
    obtain ⟨r3, e3, a3, b3, c3⟩ := tByte c2
    obtain ⟨r4, e4, a4, b4, c4⟩ := tByte c3
    rw [e1, bd_some, e2, bd_some, e3, bd_some, e4, bd_some, gd_t (by omega)]
    rw [w64_id (n := r1.1 * 16777216) (by omega) (by omega), w64_id (n := r2.1 * 65536) (by omega) (by omega), w64_id (n := r3.1 * 256) (by omega) (by omega)]
    rw [w64_id (n := r1.1 * 16777216 + r2.1 * 65536) (by omega) (by omega), w64_id (n := r1.1 * 16777216 + r2.1 * 65536 + r3.1 * 256) (by omega) (by omega), w64_id (n := r1.1 * 16777216 + r2.1 * 65536 + r3.1 * 256 + r4.1) (by omega) (by omega)]
    have := tmod_range (a := r1.1 * 16777216 + r2.1 * 65536 + r3.1 * 256 + r4.1) (by omega) (show 0 < n by omega)
    exact ⟨_, rfl, this.1, by omega, fun _ => this.2, c4⟩
theorem tOnce {c : Gl1Cur} (hc : CurOk c) (n : Int) : ∃ r, d_spec_l1Once c n = some r ∧ CurOk r.2 := by
  obtain ⟨r, e, _, _, _, h⟩ := tBelow hc n
  unfold d_spec_l1Once
  rw [e, bd_some]
  exact ⟨_, rfl, h⟩
theorem tPickInt {c : Gl1Cur} (hc : CurOk c) {l : List Int} (hl : l ≠ []) : ∃ r, d_spec_l1PickInt c l = some r ∧ CurOk r.2 ∧ r.1 ∈ l := by
  unfold d_spec_l1PickInt
  have hp : 0 < l.length := by cases l with | nil => exact absurd rfl hl | cons => simp
  obtain ⟨r, e, h1, h2, h3, h4⟩ := tBelow hc (l.length : Int)
  obtain ⟨k, hk⟩ := Int.eq_ofNat_of_zero_le h1
  have := h3 (by omega)
  rw [e, bd_some, hk, at?_lt (by omega), bd_some]
  exact ⟨_, rfl, h4, List.getElem_mem _⟩
theorem tRules {c : Gl1Cur} (hc : CurOk c) : ∃ r, d_spec_l5Right c = some r ∧ r.1.Seats.length ≤ 3 ∧ CurOk r.2 := by
  unfold d_spec_l5Right
  obtain ⟨r1, e1, a1, b1, d1, c1⟩ := tBelow hc 5
  obtain ⟨r2, e2, a2, b2, d2, c2⟩ := tBelow c1 9
  obtain ⟨r3, e3, a3, b3, d3, c3⟩ := tBelow c2 6
  obtain ⟨r4, e4, a4, b4, d4, c4⟩ := tBelow c3 5
  obtain ⟨r5, e5, a5, b5, d5, c5⟩ := tBelow c4 4
  obtain ⟨r6, e6, a6, b6, d6, c6⟩ := tBelow c5 4
  obtain ⟨r7, e7, a7, b7, d7, c7⟩ := tBelow c6 4
  obtain ⟨r8, e8, a8, b8, d8, c8⟩ := tBelow c7 3
  obtain ⟨r9, e9, a9, b9, d9, c9⟩ := tBelow c8 3
  simp only [e1, e2, e3, e4, e5, e6, e7, e8, e9, bd_some]
  have h9 := d9 (by omega)
  obtain ⟨n, hn⟩ := Int.eq_ofNat_of_zero_le (show 0 ≤ 1 + r9.1 by omega)
  refine forEx (n := n) (fun i (v : Gl1Cur × GRules) => ((i : Int), v.1, v.2)) (fun i v => CurOk v.1 ∧ v.2.Seats.length ≤ i) _ (by omega) ?_ (v := (r9.2, _)) ⟨c9, by simp⟩
  rintro L i ⟨c, r⟩ ⟨hc, hr⟩ hi ih
  unfold d_spec_l5Right_l1 d_spec_l5Right_j2
  dsimp only at hc hr ih ⊢
  rw [w64_id (by omega) (by omega), hn, dec_lt]
  rcases Nat.lt_or_ge i n with h | h
  · obtain ⟨r1, e1, a1, b1, d1, c1⟩ := tBelow hc 12
    rw [decide_eq_true h, br_t, e1, bd_some, gd_t (by simp only [List.length_cons, List.length_nil]; unfold lim; omega), w64_succ h (by omega)]
    exact ih (_, _) ⟨c1, by simp; omega⟩ h
  · rw [decide_eq_false (by omega), br_f, jn_eq]
    exact ⟨_, rfl, by dsimp only; omega, hc⟩
def inB (a b c : Int) : Bool := decide (b ≤ a ∧ a ≤ c)
def rulesB (r : GRules) : Bool := inB r.Seats.length 1 4 && inB r.Tiers 1 5 && inB r.Room 1 10 && inB r.Size 1 6 && inB r.Period 1 12 && r.Seats.all (fun x => inB x 1 60) && inB r.Window 1 8 && inB r.Rest 0 8 && inB r.Tries 1 4 && inB r.Crew 1 3
theorem inB_eq (a b c : Int) : decide (b ≤ a ∧ a ≤ c) = inB a b c := rfl
theorem spec_RulesOk {r : GRules} (hr : r.Seats.length < 2 ^ 62) : d_spec_RulesOk r = some (rulesB r) := by
  unfold d_spec_RulesOk
  simp only [l1In_eq, inB_eq, bd_some, br_not, jn_eq]
  have hj : ∀ b, d_spec_RulesOk_j1 r b = some (!b && (r.Seats.all (fun x => inB x 1 60) && inB r.Window 1 8 && inB r.Rest 0 8 && inB r.Tries 1 4 && inB r.Crew 1 3)) := by
    intro b
    unfold d_spec_RulesOk_j1
    cases b with
    | true => rfl
    | false =>
      rw [br_f]
      refine (forLoop (n := r.Seats.length) (fun i (_ : Unit) => (i : Int)) (fun _ _ => True) (fun i _ => some ((r.Seats.drop i).all (fun x => inB x 1 60) && (inB r.Window 1 8 && inB r.Rest 0 8 && inB r.Tries 1 4 && inB r.Crew 1 3))) (by omega) ?_ (v := ()) trivial).trans (by simp [Bool.and_assoc])
      intro L i _ _ hi ih
      unfold d_spec_RulesOk_l2 d_spec_RulesOk_j3 d_spec_RulesOk_j4
      rw [dec_lt]
      rcases Nat.lt_or_ge i r.Seats.length with h | h
      · rw [decide_eq_true h, br_t, at?_lt h, bd_some, l1In_eq, inB_eq, bd_some, br_not, w64_succ h (by omega), drop_at h, List.all_cons]
        cases hx : inB r.Seats[i] 1 60 with
        | true => rw [br_t, ih () trivial h]; rfl
        | false => rfl
      · rw [decide_eq_false (by omega), br_f, List.drop_eq_nil_of_le h]
        simp only [l1In_eq, inB_eq, bd_some, jn_eq, List.all_nil, Bool.true_and]
        cases inB r.Window 1 8 <;> cases inB r.Rest 0 8 <;> cases inB r.Tries 1 4 <;> rfl
  simp only [hj]
  unfold rulesB
  cases inB r.Seats.length 1 4 <;> cases inB r.Tiers 1 5 <;> cases inB r.Room 1 10 <;> cases inB r.Size 1 6 <;> cases inB r.Period 1 12 <;> simp [br_if, Bool.and_assoc]
theorem inB_ok {a b c : Int} (h : inB a b c = true) : b ≤ a ∧ a ≤ c := by unfold inB at h; simpa using h
theorem rulesB_ok {r : GRules} (h : rulesB r = true) : (1 ≤ r.Seats.length ∧ r.Seats.length ≤ 4) ∧ (1 ≤ r.Period ∧ r.Period ≤ 12) ∧ (1 ≤ r.Crew ∧ r.Crew ≤ 3) := by
  unfold rulesB at h
  simp only [Bool.and_eq_true] at h
  obtain ⟨⟨⟨⟨⟨⟨⟨⟨⟨h1, h2⟩, h3⟩, h4⟩, h5⟩, h6⟩, h7⟩, h8⟩, h9⟩, h10⟩ := h
  have := inB_ok h1; have := inB_ok h5; have := inB_ok h10
  exact ⟨by omega, by omega, by omega⟩
theorem spec_l5Copy {r : GRules} (hr : r.Seats.length ≤ 1048576) : d_spec_l5Copy r = some r := by
  unfold d_spec_l5Copy
  rw [gd_t (by unfold lim; omega), List.nil_append]
theorem tLedgerOk (l : GLedger) : ∃ b, d_spec_LedgerOk l = some b := by
  unfold d_spec_LedgerOk d_spec_LedgerOk_j1
  simp only [l1In_eq, bd_some, jn_eq, br_if]
  repeat' split
  all_goals exact ⟨_, rfl⟩
theorem tLedgerNew (n : Int) : ∃ r, d_spec_LedgerNew n = some r := by
  unfold d_spec_LedgerNew
  obtain ⟨b, e⟩ := tLedgerOk ⟨n, 0, 0, n, 0⟩
  rw [e, bd_some, br_if]
  split <;> exact ⟨_, rfl⟩
theorem spec_WheelNew : d_spec_WheelNew = some ⟨List.replicate 9 []⟩ := by
  unfold d_spec_WheelNew
  refine (forLoop (n := 9) (fun i (v : GWheel) => ((i : Int), v)) (fun i v => v.Spoke = List.replicate i []) (fun _ _ => some (⟨List.replicate 9 []⟩ : GWheel)) (by omega) ?_ (v := ⟨[]⟩) rfl)
  rintro L i ⟨s⟩ hv hi ih
  unfold d_spec_WheelNew_l1 d_spec_WheelNew_j2
  dsimp only at hv ih ⊢
  subst hv
  rw [br_dec]
  rcases Nat.lt_or_ge i 9 with h | h
  · rw [if_pos (by omega), gd_t (by simp only [List.length_replicate]; unfold lim; omega), w64_succ h (by omega)]
    exact ih ⟨_⟩ (by rw [List.replicate_succ']) h
  · obtain rfl : i = 9 := by omega
    rw [if_neg (by omega), jn_eq]
theorem tCabinNew (n : Int) : ∃ r, d_spec_CabinNew n = some r := by
  unfold d_spec_CabinNew
  obtain ⟨b, e⟩ := tLedgerNew n
  rw [e, bd_some, br_if]
  split
  · exact ⟨_, rfl⟩
  · rw [spec_WheelNew, bd_some]; exact ⟨_, rfl⟩
def HsOk (r : GRules) (n : Nat) (h : GHouse) : Prop := h.Cabins.length ≤ h.Rules.Seats.length ∧ h.Cabins.length ≤ r.Seats.length ∧ h.Rules.Seats.length ≤ 1048576 ∧ h.Parties.length ≤ n ∧ h.Todo.length ≤ n ∧ h.Jobs.length ≤ 3
theorem tHouseNew {r : GRules} (hr : r.Seats.length ≤ 3) : ∃ x, d_spec_HouseNew r = some x ∧ HsOk r 0 x.1 := by
  unfold d_spec_HouseNew
  rw [spec_RulesOk (by omega), bd_some, br_not]
  cases hb : rulesB r with
  | false => rw [br_f]; exact ⟨_, rfl, by simp [HsOk]⟩
  | true =>
    have hk := rulesB_ok hb
    rw [br_t, spec_l5Copy (by omega), bd_some]
    refine forEx (n := r.Seats.length) (fun i (v : GHouse) => ((i : Int), v)) (fun i v => v.Cabins.length = i ∧ v.Rules = r ∧ v.Parties = [] ∧ v.Todo = [] ∧ v.Jobs = []) _ (by omega) ?_ (v := ⟨r, 0, 1, [], [], [], []⟩) ⟨rfl, rfl, rfl, rfl, rfl⟩
    rintro L i v ⟨h1, h2, h3, h4, h5⟩ hi ih
    unfold d_spec_HouseNew_l1
    dsimp only at ih ⊢
    rw [dec_lt]
    rcases Nat.lt_or_ge i r.Seats.length with h | h
    · obtain ⟨c, e⟩ := tCabinNew r.Seats[i]
      rw [decide_eq_true h, br_t, at?_lt h, bd_some, e, bd_some, gd_t (by simp only [List.length_cons, List.length_nil]; unfold lim; omega), w64_succ h (by omega)]
      exact ih _ ⟨by simp [h1], h2, h3, h4, h5⟩ h
    · rw [decide_eq_false (by omega), br_f, jn_eq]
      unfold d_spec_HouseNew_j2
      obtain ⟨n, hn⟩ := Int.eq_ofNat_of_zero_le (show 0 ≤ r.Crew by omega)
      refine forEx (n := n) (fun i (v : GHouse) => ((i : Int), v)) (fun i w => w.Cabins = v.Cabins ∧ w.Rules = r ∧ w.Parties = [] ∧ w.Todo = [] ∧ w.Jobs.length = i) _ (by omega) ?_ (v := v) ⟨rfl, h2, h3, h4, by simp [h5]⟩
      rintro L j w ⟨g1, g2, g3, g4, g5⟩ hj ih
      unfold d_spec_HouseNew_l3 d_spec_HouseNew_j4
      dsimp only at ih ⊢
      rw [hn, dec_lt]
      rcases Nat.lt_or_ge j n with h' | h'
      · rw [decide_eq_true h', br_t, gd_t (by simp only [List.length_cons, List.length_nil]; unfold lim; omega), w64_succ h' (by omega)]
        exact ih _ ⟨g1, g2, g3, g4, by simp [g5]⟩ h'
      · rw [decide_eq_false (by omega), br_f, jn_eq]
        refine ⟨_, rfl, ?_⟩
        unfold HsOk
        dsimp only
        rw [g1, g2, g3, g4]
        simp only [List.length_nil]
        omega
end Lv.P
/-
  Plain laws: what is drawn is always there (second part: parties, wheels, queues, cabins).
-/
set_option linter.unusedVariables false
set_option linter.unusedSimpArgs false
namespace Lv.P
open Go (IntKind BinOp UnOp)
theorem tl11At (l : List GParty) (hl : l.length < 2 ^ 62) (n : Int) : ∃ i, d_spec_l11At l n = some i ∧ (i < 0 ∨ ∃ k : Nat, i = k ∧ k < l.length) := by
  unfold d_spec_l11At
  refine forEx (n := l.length) (fun i (_ : Unit) => (i : Int)) (fun _ _ => True) _ (by omega) ?_ (v := ()) trivial
  intro L i _ _ hi ih
  unfold d_spec_l11At_l1 d_spec_l11At_j2
  rw [dec_lt]
  rcases Nat.lt_or_ge i l.length with h | h
  · rw [decide_eq_true h, br_t, at?_lt h, bd_some, br_if, w64_succ h (by omega)]
    split
    · exact ⟨_, rfl, .inr ⟨i, rfl, h⟩⟩
    · exact ih () trivial h
  · rw [decide_eq_false (by omega), br_f, jn_eq]; exact ⟨_, rfl, .inl (by omega)⟩
theorem tCountIn (l : List GParty) (hl : l.length < 2 ^ 62) (n : Int) : ∃ i, d_spec_CountIn l n = some i := by
  unfold d_spec_CountIn
  obtain ⟨r, h, _⟩ := forEx (F := d_spec_CountIn_l1 l n) (n := l.length) (fun i (v : Int) => (v, (i : Int))) (fun _ _ => True) (fun _ => True) (by omega) (by
    intro L i v _ hi ih
    unfold d_spec_CountIn_l1 d_spec_CountIn_j2 d_spec_CountIn_j3
    dsimp only
    rw [dec_lt]
    rcases Nat.lt_or_ge i l.length with h | h
    · rw [decide_eq_true h, br_t, at?_lt h, bd_some, br_if, jn_eq, jn_eq, w64_succ h (by omega)]
      split <;> exact ih _ trivial h
    · rw [decide_eq_false (by omega), br_f, jn_eq]; exact ⟨_, rfl, trivial⟩) (v := 0) trivial
  exact ⟨r, h⟩
theorem tHeldIn (l : List GParty) (hl : l.length < 2 ^ 62) (n : Int) : ∃ i, d_spec_HeldIn l n = some i := by
  unfold d_spec_HeldIn
  obtain ⟨r, h, _⟩ := forEx (F := d_spec_HeldIn_l1 l n) (n := l.length) (fun i (v : Int) => (v, (i : Int))) (fun _ _ => True) (fun _ => True) (by omega) (by
    intro L i v _ hi ih
    unfold d_spec_HeldIn_l1 d_spec_HeldIn_j2 d_spec_HeldIn_j3 d_spec_HeldIn_j4
    dsimp only
    rw [dec_lt]
    rcases Nat.lt_or_ge i l.length with h | h
    · rw [decide_eq_true h, br_t]
      simp only [at?_lt h, bd_some, br_if, jn_eq, w64_succ h (show l.length < 2 ^ 63 by omega), l1In_eq]
      repeat' split
      all_goals exact ih _ trivial h
    · rw [decide_eq_false (by omega), br_f, jn_eq]; exact ⟨_, rfl, trivial⟩) (v := 0) trivial
  exact ⟨r, h⟩
theorem tTiedIn (l : List GParty) (hl : l.length < 2 ^ 62) (n : Int) : ∃ i, d_spec_TiedIn l n = some i := by
  unfold d_spec_TiedIn
  obtain ⟨r, h, _⟩ := forEx (F := d_spec_TiedIn_l1 l n) (n := l.length) (fun i (v : Int) => (v, (i : Int))) (fun _ _ => True) (fun _ => True) (by omega) (by
    intro L i v _ hi ih
    unfold d_spec_TiedIn_l1 d_spec_TiedIn_j2 d_spec_TiedIn_j3 d_spec_TiedIn_j4
    dsimp only
    rw [dec_lt]
    rcases Nat.lt_or_ge i l.length with h | h
    · rw [decide_eq_true h, br_t]
      simp only [at?_lt h, bd_some, br_if, jn_eq, w64_succ h (show l.length < 2 ^ 63 by omega), l1In_eq]
      repeat' split
      all_goals exact ih _ trivial h
    · rw [decide_eq_false (by omega), br_f, jn_eq]; exact ⟨_, rfl, trivial⟩) (v := 0) trivial
  exact ⟨r, h⟩
theorem tl6Right {c : Gl1Cur} (hc : CurOk c) (r : GRules) (now : Int) : ∃ x, d_spec_l6Right c r now = some x ∧ CurOk x.2 := by
  obtain ⟨r1, e1, a1, b1, d1, c1⟩ := tBelow hc 12
  obtain ⟨r2, e2, a2, b2, d2, c2⟩ := tBelow c1 (r.Seats.length : Int)
  obtain ⟨r3, e3, a3, b3, d3, c3⟩ := tBelow c2 r.Size
  obtain ⟨r4, e4, a4, b4, d4, c4⟩ := tBelow c3 r.Tiers
  obtain ⟨r5, e5, a5, b5, d5, c5⟩ := tBelow c4 40
  obtain ⟨r6, e6, a6, b6, d6, c6⟩ := tBelow c5 r.Tries
  have j3 : ∀ x : Gl1Cur × GParty, CurOk x.1 → ∃ y, d_spec_l6Right_j3 x = some y ∧ CurOk y.2 := by
    rintro ⟨c, p⟩ h; exact ⟨_, rfl, h⟩
  have j2 : ∀ x : Gl1Cur × GParty, CurOk x.1 → ∃ y, d_spec_l6Right_j2 r x = some y ∧ CurOk y.2 := by
    rintro ⟨c, p⟩ h
    unfold d_spec_l6Right_j2
    obtain ⟨o, eo, ho⟩ := tOnce h 4
    dsimp only
    rw [eo, bd_some, br_if, jn_eq]
    split
    · obtain ⟨q, eq, _, _, _, hq⟩ := tBelow ho (r.Seats.length : Int)
      rw [eq, bd_some, jn_eq]; exact j3 _ hq
    · exact j3 _ ho
  have j1 : ∀ x : Gl1Cur × GParty, CurOk x.1 → ∃ y, d_spec_l6Right_j1 r now x = some y ∧ CurOk y.2 := by
    rintro ⟨c, p⟩ h
    unfold d_spec_l6Right_j1
    obtain ⟨o, eo, ho⟩ := tOnce h 3
    dsimp only
    rw [eo, bd_some, br_if, jn_eq]
    split
    · obtain ⟨q, eq, _, _, _, hq⟩ := tBelow ho (w64 (now + r.Window))
      rw [eq, bd_some, jn_eq]; exact j2 _ hq
    · exact j2 _ ho
  unfold d_spec_l6Right
  simp only [e1, e2, e3, e4, e5, e6, bd_some, eqv_self, l1In_eq, br_if, jn_eq]
  split
  · obtain ⟨q, eq, _, _, _, hq⟩ := tBelow c6 (w64 (now + 1))
    obtain ⟨o, eo, ho⟩ := tOnce hq 3
    rw [eq, bd_some, eo, bd_some]
    split
    · obtain ⟨q', eq', _, _, _, hq'⟩ := tBelow ho (w64 (w64 (now + r.Rest) + 1))
      rw [eq', bd_some]; exact j1 _ hq'
    · exact j1 _ ho
  · exact j2 _ c6
theorem tl11Room {h : GHouse} {p : GParty} (h1 : h.Parties.length ≤ 1000) (h2 : h.Cabins.length ≤ h.Rules.Seats.length) (h3 : h.Rules.Seats.length ≤ 1048576) : ∃ b, d_spec_l11Room h p = some b := by
  unfold d_spec_l11Room
  simp only [eqv_self]
  have hl : ([] ++ h.Parties).length = h.Parties.length := by simp
  rw [gd_t (by unfold lim; omega), gd_t (by rw [hl]; simp only [List.length_cons, List.length_nil]; unfold lim; omega), gd_t (by unfold lim; omega), gd_t (by rw [hl]; simp only [List.length_cons, List.length_nil]; unfold lim; omega), gd_t (by unfold lim; omega), gd_t (by rw [hl]; simp only [List.length_cons, List.length_nil]; unfold lim; omega)]
  obtain ⟨r, h, _⟩ := forEx (F := d_spec_l11Room_l1 h p) (n := h.Cabins.length) (fun i (_ : Unit) => (i : Int)) (fun _ _ => True) (fun _ => True) (by omega) (by
    intro L i v _ hi ih
    unfold d_spec_l11Room_l1 d_spec_l11Room_j2
    rw [dec_lt]
    rcases Nat.lt_or_ge i h.Cabins.length with g | g
    · obtain ⟨a, ea⟩ := tHeldIn ([] ++ h.Parties ++ [p]) (by simp; omega) (i : Int)
      obtain ⟨b, eb⟩ := tTiedIn ([] ++ h.Parties ++ [p]) (by simp; omega) (i : Int)
      rw [decide_eq_true g, br_t, at?_lt (show i < h.Rules.Seats.length by omega), bd_some, ea, bd_some, eb, bd_some, br_if, w64_succ g (by omega)]
      split
      · exact ⟨_, rfl, trivial⟩
      · exact ih () trivial g
    · rw [decide_eq_false (by omega), br_f, jn_eq]; exact ⟨_, rfl, trivial⟩) (v := ()) trivial
  exact ⟨r, h⟩
theorem tPartyPut {l : List GParty} (hl : l.length ≤ 1000) (p : GParty) : ∃ r, d_spec_PartyPut l p = some r ∧ r.length ≤ l.length + 1 := by
  unfold d_spec_PartyPut
  obtain ⟨i, ei, hi⟩ := tl11At l (by omega) p.Id
  rw [ei, bd_some, gd_t (by unfold lim; omega), br_dec]
  split
  · rcases hi with hi | ⟨k, rfl, hk⟩
    · omega
    · rw [List.nil_append, at?_lt hk, bd_some, bd_some]
      exact ⟨_, rfl, by simp⟩
  · refine forEx (n := l.length) (fun i (_ : Unit) => (i : Int)) (fun _ _ => True) _ (by omega) ?_ (v := ()) trivial
    intro L i _ _ hi ih
    have hj : ∃ r, d_spec_PartyPut_j3 l p (i : Int) = some r ∧ r.length ≤ l.length + 1 := by
      unfold d_spec_PartyPut_j3
      simp only [eqv_self, List.nil_append, Int.toNat_natCast]
      have ht : (l.take i).length ≤ l.length := by rw [List.length_take]; omega
      rw [gd_t (by omega), gd_t (by unfold lim; omega), gd_t (by simp only [List.length_cons, List.length_nil]; unfold lim; omega), gd_t (by unfold lim; omega), gd_t (by simp only [List.length_cons, List.length_nil]; unfold lim; omega), gd_t (by unfold lim; omega), gd_t (by simp only [List.length_cons, List.length_nil]; unfold lim; omega), gd_t (by omega)]
      rw [gd_t (by simp only [List.length_append, List.length_cons, List.length_nil, List.length_drop]; unfold lim; omega)]
      exact ⟨_, rfl, by simp only [List.length_append, List.length_cons, List.length_nil, List.length_drop, List.length_take]; omega⟩
    unfold d_spec_PartyPut_l1 d_spec_PartyPut_j2
    rw [dec_lt]
    rcases Nat.lt_or_ge i l.length with h | h
    · rw [decide_eq_true h, br_t, at?_lt h, bd_some, jn_eq, br_dec, w64_succ h (by omega), jn_eq]
      split
      · exact ih () trivial h
      · exact hj
    · rw [decide_eq_false (by omega), br_f, jn_eq, br_f, jn_eq]; exact hj
theorem tl9Less (a b : GPin) : ∃ r, d_spec_l9Less a b = some r := by
  unfold d_spec_l9Less d_spec_l9Less_j1
  simp only [br_if, jn_eq]
  repeat' split
  all_goals exact ⟨_, rfl⟩
theorem tl9Put {l : List GPin} (hl : l.length ≤ 1048576) (p : GPin) : ∃ r, d_spec_l9Put l p = some r ∧ r.length = l.length + 1 := by
  unfold d_spec_l9Put
  refine forEx (n := l.length) (fun i (_ : Unit) => (i : Int)) (fun _ _ => True) _ (by omega) ?_ (v := ()) trivial
  intro L i _ _ hi ih
  have hj : ∃ r, d_spec_l9Put_j3 l p (i : Int) = some r ∧ r.length = l.length + 1 := by
    unfold d_spec_l9Put_j3
    simp only [List.nil_append, Int.toNat_natCast]
    have ht : (l.take i).length ≤ l.length := by rw [List.length_take]; omega
    rw [gd_t (by omega), gd_t (by unfold lim; omega), gd_t (by simp only [List.length_cons, List.length_nil]; unfold lim; omega), gd_t (by omega)]
    rw [gd_t (by simp only [List.length_append, List.length_cons, List.length_nil, List.length_drop]; unfold lim; omega)]
    exact ⟨_, rfl, by simp only [List.length_append, List.length_cons, List.length_nil, List.length_drop, List.length_take]; omega⟩
  unfold d_spec_l9Put_l1 d_spec_l9Put_j2
  rw [dec_lt]
  rcases Nat.lt_or_ge i l.length with h | h
  · obtain ⟨b, eb⟩ := tl9Less l[i] p
    rw [decide_eq_true h, br_t, at?_lt h, bd_some, eb, bd_some, jn_eq, br_if, w64_succ h (by omega), jn_eq]
    split
    · exact ih () trivial h
    · exact hj
  · rw [decide_eq_false (by omega), br_f, jn_eq, br_f, jn_eq]; exact hj
theorem tPinsIn {l : List GParty} (hl : l.length ≤ 1000) (k : Int) : ∃ r, d_spec_PinsIn l k = some r ∧ r.length ≤ l.length := by
  unfold d_spec_PinsIn
  refine forEx (n := l.length) (fun i (v : List GPin) => (v, (i : Int))) (fun i v => v.length ≤ i) _ (by omega) ?_ (v := []) (by simp)
  intro L i v hv hi ih
  unfold d_spec_PinsIn_l1 d_spec_PinsIn_j2 d_spec_PinsIn_j3 d_spec_PinsIn_j4
  dsimp only
  rw [dec_lt]
  rcases Nat.lt_or_ge i l.length with h | h
  · obtain ⟨r, er, hr⟩ := tl9Put (l := v) (by omega) ⟨l[i].Until, l[i].Id⟩
    rw [decide_eq_true h, br_t]
    simp only [at?_lt h, bd_some, br_if, jn_eq, w64_succ h (show l.length < 2 ^ 63 by omega), er]
    repeat' split
    all_goals exact ih _ (by omega) h
  · rw [decide_eq_false (by omega), br_f, jn_eq]; exact ⟨_, rfl, by omega⟩
def WhOk (n : Nat) (w : GWheel) : Prop := w.Spoke.length ≤ 1000 ∧ w.Spoke.flatten.length ≤ n
theorem len_at {α : Type} {l : List (List α)} {i : Nat} (h : i < l.length) : l[i].length + (l.take i).flatten.length ≤ l.flatten.length := by
  have : l = l.take i ++ l[i] :: l.drop (i + 1) := by rw [← List.drop_eq_getElem_cons h, List.take_append_drop]
  conv => rhs; rw [this]
  simp only [List.flatten_append, List.flatten_cons, List.length_append]; omega
theorem spec_l9Copy {n : Nat} {w : GWheel} (hw : WhOk n w) (hn : n ≤ 1048576) : d_spec_l9Copy w = some w := by
  unfold d_spec_l9Copy
  refine (forLoop (n := w.Spoke.length) (fun i (v : GWheel) => ((i : Int), v)) (fun i v => v.Spoke = w.Spoke.take i) (fun _ _ => some w) (by have := hw.1; omega) ?_ (v := ⟨[]⟩) rfl)
  rintro L i ⟨s⟩ hv hi ih
  unfold d_spec_l9Copy_l1 d_spec_l9Copy_j2
  dsimp only at hv ih ⊢
  subst hv
  have hw1 := hw.1
  have hw2 := hw.2
  rw [dec_lt]
  rcases Nat.lt_or_ge i w.Spoke.length with h | h
  · have := len_at h
    rw [decide_eq_true h, br_t, at?_lt h, bd_some, gd_t (by unfold lim; omega), List.nil_append, gd_t (by simp only [List.length_take, List.length_cons, List.length_nil]; unfold lim; omega), w64_succ h (by omega)]
    refine ih ⟨_⟩ ?_ h
    rw [List.take_add_one, List.getElem?_eq_getElem h]; rfl
  · rw [decide_eq_false (by omega), br_f, jn_eq, List.take_of_length_le h]
theorem spec_l9All {n : Nat} {w : GWheel} (hw : WhOk n w) (hn : n ≤ 1048576) : d_spec_l9All w = some w.Spoke.flatten := by
  unfold d_spec_l9All
  refine (forLoop (n := w.Spoke.length) (fun i (v : List GPin) => (v, (i : Int))) (fun i v => v = (w.Spoke.take i).flatten) (fun _ _ => some w.Spoke.flatten) (by have := hw.1; omega) ?_ (v := []) rfl)
  rintro L i v hv hi ih
  unfold d_spec_l9All_l1 d_spec_l9All_j2
  dsimp only at ih ⊢
  subst hv
  have hw1 := hw.1
  have hw2 := hw.2
  rw [dec_lt]
  rcases Nat.lt_or_ge i w.Spoke.length with h | h
  · have := len_at h
    rw [decide_eq_true h, br_t, at?_lt h, bd_some, gd_t (by unfold lim; omega), w64_succ h (by omega)]
    refine ih _ ?_ h
    rw [List.take_add_one, List.getElem?_eq_getElem h, Option.toList_some, List.flatten_append, List.flatten_cons, List.flatten_nil, List.append_nil]
  · rw [decide_eq_false (by omega), br_f, jn_eq, List.take_of_length_le h]
theorem tWheelOk {n : Nat} {w : GWheel} (hw : WhOk n w) (hn : n ≤ 1048576) : ∃ b, d_spec_WheelOk w = some b ∧ (b = true → w.Spoke.length = 9) := by
  have hw1 := hw.1
  have hw2 := hw.2
  unfold d_spec_WheelOk
  rw [spec_l9All hw hn, bd_some]
  generalize hx : w.Spoke.flatten = x at *
  have main : w.Spoke.length = 9 → ∃ b, loopN (d_spec_WheelOk_l2 w x) big 0 = some b ∧ (b = true → w.Spoke.length = 9) := by
    intro h9
    refine forEx (n := x.length) (fun i (_ : Unit) => (i : Int)) (fun _ _ => True) _ (by omega) ?_ (v := ()) trivial
    intro L i _ _ hi ih
    have j6 : ∃ b, d_spec_WheelOk_j6 w () = some b ∧ (b = true → w.Spoke.length = 9) := by
      unfold d_spec_WheelOk_j6
      refine forEx (n := w.Spoke.length) (fun i (_ : Unit) => (i : Int)) (fun _ _ => True) _ (by omega) ?_ (v := ()) trivial
      intro L i _ _ hi ih
      unfold d_spec_WheelOk_l7 d_spec_WheelOk_j11
      rw [dec_lt]
      rcases Nat.lt_or_ge i w.Spoke.length with h | h
      · rw [decide_eq_true h, br_t]
        have hle := len_at h
        rw [hx] at hle
        refine forEx (n := w.Spoke[i].length) (fun j (_ : Unit) => (j : Int)) (fun _ _ => True) _ (by omega) ?_ (v := ()) trivial
        intro L2 j _ _ hj ih2
        unfold d_spec_WheelOk_l8 d_spec_WheelOk_j9 d_spec_WheelOk_j10
        simp only [at?_lt h, bd_some, jn_eq, dec_lt]
        rcases Nat.lt_or_ge j w.Spoke[i].length with g | g
        · rw [decide_eq_true g, br_t, at?_lt g, bd_some, br_if, br_if, br_dec, w64_succ g (by omega)]
          have step : ∀ b, ∃ r, br b (some false) (L2 ((j + 1 : Nat) : Int)) = some r ∧ (r = true → w.Spoke.length = 9) := by
            intro b; rw [br_if]; split
            · exact ⟨_, rfl, by simp⟩
            · exact ih2 () trivial g
          split
          · exact ⟨_, rfl, by simp⟩
          · split
            · rename_i hj0
              obtain ⟨j', rfl⟩ : ∃ j', j = j' + 1 := ⟨j - 1, by omega⟩
              have ej : w64 (((j' + 1 : Nat) : Int) - 1) = ((j' : Nat) : Int) := by rw [w64_id (by omega) (by omega)]; omega
              rw [ej, at?_lt (show j' < w.Spoke[i].length by omega), bd_some, bd_some]
              obtain ⟨b, eb⟩ := tl9Less w.Spoke[i][j'] w.Spoke[i][j' + 1]
              rw [eb, bd_some]; exact step _
            · exact step false
        · rw [decide_eq_false (by omega), br_f, w64_succ h (by omega)]
          exact ih () trivial h
      · rw [decide_eq_false (by omega), br_f, jn_eq]; exact ⟨_, rfl, fun _ => h9⟩
    unfold d_spec_WheelOk_l2
    rw [dec_lt]
    rcases Nat.lt_or_ge i x.length with h | h
    · have j3 : ∀ b, ∃ r, d_spec_WheelOk_j3 x L (i : Int) b = some r ∧ (r = true → w.Spoke.length = 9) := by
        intro b
        unfold d_spec_WheelOk_j3
        rw [br_if]
        split
        · exact ⟨_, rfl, by simp⟩
        · refine forEx (n := i) (fun j (_ : Unit) => (j : Int)) (fun _ _ => True) _ (by omega) ?_ (v := ()) trivial
          intro L2 j _ _ hj ih2
          unfold d_spec_WheelOk_l4 d_spec_WheelOk_j5
          rw [dec_lt]
          rcases Nat.lt_or_ge j i with g | g
          · rw [decide_eq_true g, br_t, at?_lt (show j < x.length by omega), bd_some, bd_some, at?_lt h, bd_some, bd_some, br_if, w64_succ g (by omega)]
            split
            · exact ⟨_, rfl, by simp⟩
            · exact ih2 () trivial g
          · rw [decide_eq_false (by omega), br_f, jn_eq, w64_succ h (by omega)]
            exact ih () trivial h
      rw [decide_eq_true h, br_t]
      simp only [at?_lt h, bd_some, l1In_eq, jn_eq, br_if]
      split <;> exact j3 _
    · rw [decide_eq_false (by omega), br_f, jn_eq]; exact j6
  rw [br_if]
  split
  · rw [jn_eq]; unfold d_spec_WheelOk_j1; exact ⟨_, rfl, by simp⟩
  · rename_i h9
    rw [jn_eq]; unfold d_spec_WheelOk_j1
    rw [br_if]
    split
    · exact ⟨_, rfl, by simp⟩
    · exact main (by simp at h9; omega)
theorem flat_set {α : Type} {l : List (List α)} {i : Nat} {x : List α} (h : i < l.length) : (l.set i x).flatten.length + l[i].length = l.flatten.length + x.length := by
  have e : l = l.take i ++ l[i] :: l.drop (i + 1) := by rw [← List.drop_eq_getElem_cons h, List.take_append_drop]
  have e2 : l.set i x = l.take i ++ x :: l.drop (i + 1) := List.set_eq_take_append_cons_drop.trans (by rw [if_pos h])
  rw [e2]
  conv => rhs; rw [e]
  simp only [List.flatten_append, List.flatten_cons, List.length_append]; omega
theorem tWheelPut {n : Nat} {w : GWheel} (hw : WhOk n w) (hn : n ≤ 1000) (p : GPin) : ∃ r, d_spec_WheelPut w p = some r ∧ WhOk (n + 1) r.1 := by
  have hw1 := hw.1
  have hw2 := hw.2
  unfold d_spec_WheelPut d_spec_WheelPut_j1
  obtain ⟨b, eb, hb⟩ := tWheelOk hw (by omega)
  rw [spec_l9Copy hw (by omega), bd_some, eb, bd_some, br_if]
  split
  · rw [jn_eq, br_t]; exact ⟨_, rfl, hw1, by dsimp only; omega⟩
  · rename_i h
    have h9 := hb (by simpa using h)
    rw [jn_eq, br_dec]
    split
    · exact ⟨_, rfl, hw1, by dsimp only; omega⟩
    · obtain ⟨k, hk⟩ := Int.eq_ofNat_of_zero_le (tmod_range (show 0 ≤ p.At by omega) (show (0 : Int) < 9 by omega)).1
      have hk9 := (tmod_range (show 0 ≤ p.At by omega) (show (0 : Int) < 9 by omega)).2
      rw [hk] at hk9 ⊢
      have hlt : k < w.Spoke.length := by omega
      have hle := len_at hlt
      obtain ⟨q, eq, hq⟩ := tl9Put (l := w.Spoke[k]) (by omega) p
      rw [at?_lt hlt, bd_some, bd_some, eq, bd_some, bd_some, bd_some, Int.toNat_natCast]
      have hf := flat_set (x := q) hlt
      have hw' : WhOk (n + 1) ⟨w.Spoke.set k q⟩ := ⟨by rw [List.length_set]; exact hw1, by dsimp only; omega⟩
      obtain ⟨b2, eb2, _⟩ := tWheelOk hw' (by omega)
      rw [eb2, bd_some, br_if]
      split
      · rw [bd_some]; exact ⟨_, rfl, hw1, by dsimp only; omega⟩
      · exact ⟨_, rfl, hw'⟩
end Lv.P
/-
  Plain laws: what is drawn is always there (third part: queues, cabins, houses, requests).
-/
set_option linter.unusedVariables false
set_option linter.unusedSimpArgs false
namespace Lv.P
open Go (IntKind BinOp UnOp)
theorem tPartyOk {r : GRules} (hr : r.Seats.length < 2 ^ 62) (p : GParty) (now : Int) : ∃ b, d_spec_PartyOk r p now = some b ∧ (b = true → rulesB r = true) := by
  unfold d_spec_PartyOk
  simp only [spec_RulesOk hr, l1In_eq, bd_some, br_if, jn_eq]
  have j3 : ∀ b, d_spec_PartyOk_j3 b = some b := fun _ => rfl
  have j2 : ∀ b, ∃ x, d_spec_PartyOk_j2 r p now b = some x := by
    intro b
    unfold d_spec_PartyOk_j2
    simp only [l1In_eq, bd_some, br_if, jn_eq, j3]
    repeat' split
    all_goals exact ⟨_, rfl⟩
  have j1 : ∀ b, ∃ x, d_spec_PartyOk_j1 r p now b = some x := by
    intro b
    unfold d_spec_PartyOk_j1
    simp only [l1In_eq, bd_some, br_if, jn_eq]
    repeat' split
    all_goals first | exact ⟨_, rfl⟩ | exact j2 _
  have j1t : d_spec_PartyOk_j1 r p now true = some false := rfl
  cases hb : rulesB r with
  | false => exact ⟨false, by simp [j1t], by simp⟩
  | true =>
    simp only [Bool.not_true, Bool.false_eq_true, if_false]
    have : ∀ (x : Option Bool), (∃ b, x = some b) → ∃ b, x = some b ∧ (b = true → True) := fun x ⟨b, h⟩ => ⟨b, h, fun _ => trivial⟩
    simp only [implies_true, and_true]
    repeat' split
    all_goals exact j1 _
theorem tLevelOf {r : GRules} (hr : r.Seats.length < 2 ^ 62) (p : GParty) (now : Int) : ∃ b, d_spec_LevelOf r p now = some b := by
  unfold d_spec_LevelOf
  obtain ⟨b, eb, hb⟩ := tPartyOk hr p now
  rw [eb, bd_some, br_if]
  split
  · exact ⟨_, rfl⟩
  · rename_i h
    have := (rulesB_ok (hb (by simpa using h))).2.1
    unfold d_spec_l5Level
    rw [gd_t (by omega), l1Max_eq, bd_some, bd_some]
    exact ⟨_, rfl⟩
theorem tEntryOf {r : GRules} (hr : r.Seats.length < 2 ^ 62) (p : GParty) (now : Int) : ∃ b, d_spec_EntryOf r p now = some b := by
  unfold d_spec_EntryOf d_spec_EntryOf_j1
  obtain ⟨b, eb⟩ := tLevelOf hr p now
  simp only [eb, bd_some, br_if, jn_eq]
  repeat' split
  all_goals exact ⟨_, rfl⟩
theorem tEntryLess (a b : GEntry) : ∃ r, d_spec_EntryLess a b = some r := by
  unfold d_spec_EntryLess d_spec_EntryLess_j1
  simp only [br_if, jn_eq]
  repeat' split
  all_goals exact ⟨_, rfl⟩
theorem spec_l7Copy {l : List GEntry} (hl : l.length ≤ 1048576) : d_spec_l7Copy l = some l := by
  unfold d_spec_l7Copy
  rw [gd_t (by unfold lim; omega), List.nil_append]
theorem tl7Put {l : List GEntry} (hl : l.length ≤ 1000) (p : GEntry) : ∃ r, d_spec_l7Put l p = some r ∧ r.length = l.length + 1 := by
  unfold d_spec_l7Put
  refine forEx (n := l.length) (fun i (_ : Unit) => (i : Int)) (fun _ _ => True) _ (by omega) ?_ (v := ()) trivial
  intro L i _ _ hi ih
  have hj : ∃ r, d_spec_l7Put_j3 l p (i : Int) = some r ∧ r.length = l.length + 1 := by
    unfold d_spec_l7Put_j3
    have ht : (l.take i).length ≤ l.length := by rw [List.length_take]; omega
    rw [gd_t (by omega), Int.toNat_natCast, spec_l7Copy (by omega), bd_some, gd_t (by simp only [List.length_cons, List.length_nil]; unfold lim; omega), bd_some, gd_t (by simp only [List.length_cons, List.length_nil]; unfold lim; omega), eqv_self, eqv_self, gd_t (by omega)]
    rw [gd_t (by simp only [List.length_append, List.length_cons, List.length_nil, List.length_drop]; unfold lim; omega)]
    exact ⟨_, rfl, by simp only [List.length_append, List.length_cons, List.length_nil, List.length_drop, List.length_take]; omega⟩
  unfold d_spec_l7Put_l1 d_spec_l7Put_j2
  rw [dec_lt]
  rcases Nat.lt_or_ge i l.length with h | h
  · obtain ⟨b, eb⟩ := tEntryLess l[i] p
    rw [decide_eq_true h, br_t, at?_lt h, bd_some, eb, bd_some, jn_eq, br_if, w64_succ h (by omega), jn_eq]
    split
    · exact ih () trivial h
    · exact hj
  · rw [decide_eq_false (by omega), br_f, jn_eq, br_f, jn_eq]; exact hj
theorem tQueueOf {r : GRules} (hr : r.Seats.length < 2 ^ 62) {l : List GParty} (hl : l.length ≤ 1000) (k now : Int) : ∃ q, d_spec_QueueOf r l k now = some q := by
  unfold d_spec_QueueOf
  rw [w64_id (by omega) (by omega)]
  obtain ⟨q, hq, _⟩ := forEx (F := d_spec_QueueOf_l1 r l k now) (n := l.length) (fun i (v : List GEntry) => (v, (l.length : Int) - 1 - i)) (fun i v => v.length ≤ i) (fun _ => True) (by omega) (by
    intro L i v hv hi ih
    unfold d_spec_QueueOf_l1 d_spec_QueueOf_j2 d_spec_QueueOf_j3 d_spec_QueueOf_j4
    dsimp only
    rw [br_dec]
    rcases Nat.lt_or_ge i l.length with h | h
    · have e : (l.length : Int) - 1 - i = ((l.length - 1 - i : Nat) : Int) := by omega
      have hlt : l.length - 1 - i < l.length := by omega
      obtain ⟨x, ex⟩ := tEntryOf hr l[l.length - 1 - i] now
      obtain ⟨y, ey, hy⟩ := tl7Put (l := v) (by omega) x.1
      have e2 : w64 (((l.length - 1 - i : Nat) : Int) - 1) = (l.length : Int) - 1 - ((i + 1 : Nat) : Int) := by rw [w64_id (by omega) (by omega)]; omega
      rw [if_pos (by omega), e]
      simp only [at?_lt hlt, ex, bd_some, eqv_self, br_if, jn_eq, ey, e2]
      repeat' split
      all_goals exact ih _ (by omega) h
    · rw [if_neg (by omega), jn_eq]; exact ⟨_, rfl, trivial⟩) (v := []) (by simp)
  refine ⟨q, ?_⟩
  simpa using hq
theorem tMade {r : GRules} (hr : r.Seats.length < 2 ^ 62) {l : List GParty} (hl : l.length ≤ 400) {k : Nat} (hk : k < r.Seats.length) (now x : Int) : ∃ c, d_spec_l10Made r l k now x = some c := by
  unfold d_spec_l10Made
  obtain ⟨ps, ep, hp⟩ := tPinsIn (l := l) (by omega) (k : Int)
  rw [spec_WheelNew, bd_some, ep, bd_some]
  obtain ⟨c, hc, _⟩ := forEx (F := d_spec_l10Made_l1 r l (k : Int) now x ps) (n := ps.length) (fun i (v : GWheel) => ((i : Int), v)) (fun i v => WhOk i v) (fun _ => True) (by omega) (by
    intro L i v hv hi ih
    unfold d_spec_l10Made_l1 d_spec_l10Made_j2
    dsimp only
    rw [dec_lt]
    rcases Nat.lt_or_ge i ps.length with h | h
    · obtain ⟨y, ey, hy⟩ := tWheelPut hv (by omega) ps[i]
      rw [decide_eq_true h, br_t, at?_lt h, bd_some, bd_some, ey, bd_some, w64_succ h (by omega)]
      exact ih _ hy h
    · obtain ⟨a, ea⟩ := tHeldIn l (by omega) (k : Int)
      obtain ⟨b, eb⟩ := tTiedIn l (by omega) (k : Int)
      obtain ⟨q, eq⟩ := tQueueOf hr (l := l) (by omega) (k : Int) now
      rw [decide_eq_false (by omega), br_f, jn_eq, ea, bd_some, eb, bd_some, at?_lt hk, bd_some, l1Max_eq, bd_some, eq, bd_some]
      exact ⟨_, rfl, trivial⟩) (v := ⟨List.replicate 9 []⟩) ⟨by simp, by simp⟩
  exact ⟨c, hc⟩
theorem tl1Has {l : List Int} (hl : l.length < 2 ^ 62) (n : Int) : ∃ b, d_spec_l1Has l n = some b := by
  unfold d_spec_l1Has
  obtain ⟨b, hb, _⟩ := forEx (F := d_spec_l1Has_l1 l n) (n := l.length) (fun i (_ : Unit) => (i : Int)) (fun _ _ => True) (fun _ => True) (by omega) (by
    intro L i _ _ hi ih
    unfold d_spec_l1Has_l1 d_spec_l1Has_j2
    rw [dec_lt]
    rcases Nat.lt_or_ge i l.length with h | h
    · rw [decide_eq_true h, br_t, at?_lt h, bd_some, br_if, w64_succ h (by omega)]
      split
      · exact ⟨_, rfl, trivial⟩
      · exact ih () trivial h
    · rw [decide_eq_false (by omega), br_f, jn_eq]; exact ⟨_, rfl, trivial⟩) (v := ()) trivial
  exact ⟨b, hb⟩
theorem tTodoPut {l : List Int} (hl : l.length ≤ 1048576) (n : Int) : ∃ r, d_spec_TodoPut l n = some r ∧ r.length ≤ l.length + 1 := by
  unfold d_spec_TodoPut
  obtain ⟨b, eb⟩ := tl1Has (l := l) (by omega) n
  rw [gd_t (by unfold lim; omega), eb, bd_some, br_if]
  simp only [List.nil_append]
  split
  · exact ⟨_, rfl, by omega⟩
  · rw [gd_t (by simp only [List.length_cons, List.length_nil]; unfold lim; omega)]
    exact ⟨_, rfl, by simp⟩
@[simp] theorem l1Min_eq' (a b : Int) : d_spec_l1Min a b = some (if a < b then a else b) := l1Min_eq a b
def HouOk (h : GHouse) : Prop := h.Parties.length ≤ 400 ∧ h.Cabins.length ≤ 1000 ∧ h.Rules.Seats.length ≤ 1048576
theorem tHouse {c : Gl1Cur} (hc : CurOk c) : ∃ x, d_spec_l11Right c = some x ∧ HouOk x.1 ∧ CurOk x.2 := by
  unfold d_spec_l11Right
  obtain ⟨r, er, hr, cr⟩ := tRules hc
  obtain ⟨h, eh, hh⟩ := tHouseNew hr
  obtain ⟨a, ea, a1, a2, a3, ca⟩ := tBelow cr 20
  obtain ⟨b, eb, b1, b2, b3, cb⟩ := tBelow ca 9
  have hb := b3 (by omega)
  rw [er, bd_some, eh, bd_some, ea, bd_some, eb, bd_some]
  obtain ⟨n, hn⟩ := Int.eq_ofNat_of_zero_le b1
  have post : ∀ x : Gl1Cur × GHouse, CurOk x.1 → HsOk r.1 100 x.2 → ∃ y, d_spec_l11Right_j5 r x = some y ∧ HouOk y.1 ∧ CurOk y.2 := by
    rintro ⟨c, h⟩ hc hh
    unfold d_spec_l11Right_j5
    dsimp only at hc hh ⊢
    have hcn := hh.2.1
    refine forEx (n := h.Cabins.length) (fun i (v : Gl1Cur × GHouse) => ((i : Int), v.1, v.2)) (fun i v => CurOk v.1 ∧ v.2.Cabins.length = h.Cabins.length ∧ v.2.Parties.length ≤ 100 ∧ v.2.Todo.length ≤ 100 + i ∧ v.2.Rules.Seats.length ≤ 1048576 ∧ v.2.Jobs.length ≤ 3) _ (by omega) ?_ (v := (c, h)) ⟨hc, rfl, hh.2.2.2.1, by dsimp only; have := hh.2.2.2.2.1; omega, hh.2.2.1, hh.2.2.2.2.2⟩
    rintro L i ⟨c, h'⟩ ⟨g1, g2, g3, g4, g5, g6⟩ hi ih
    dsimp only at g1 g2 g3 g4 g5 g6 ih ⊢
    unfold d_spec_l11Right_l6 d_spec_l11Right_j7 d_spec_l11Right_j8
    dsimp only
    rw [g2, dec_lt]
    rcases Nat.lt_or_ge i h.Cabins.length with g | g
    · obtain ⟨x, ex, _, _, _, cx⟩ := tBelow g1 6
      obtain ⟨m, em⟩ := tMade (r := r.1) (by omega) (l := h'.Parties) (by omega) (k := i) (by omega) h'.Now x.1
      obtain ⟨o, eo, co⟩ := tOnce cx 2
      obtain ⟨t, et, ht⟩ := tTodoPut (l := h'.Todo) (by omega) (i : Int)
      rw [decide_eq_true g, br_t, ex, bd_some, em, bd_some, at?_lt (by omega), bd_some, bd_some, eo, bd_some, br_if, et, bd_some, jn_eq, jn_eq, w64_succ g (by omega)]
      split
      · exact ih (_, _) ⟨co, by simp [g2], g3, by dsimp only; omega, g5, g6⟩ g
      · exact ih (_, _) ⟨co, by simp [g2], g3, by dsimp only; omega, g5, g6⟩ g
    · rw [decide_eq_false (by omega), br_f, jn_eq]
      refine forEx (n := h'.Jobs.length) (fun j (v : Gl1Cur × GHouse) => ((j : Int), v.1, v.2)) (fun j v => CurOk v.1 ∧ v.2.Jobs.length = h'.Jobs.length ∧ HouOk v.2) _ (by omega) ?_ (v := (c, h')) ⟨g1, rfl, by dsimp only; omega, by dsimp only; omega, g5⟩
      rintro L j ⟨c, h2⟩ ⟨k1, k2, k3⟩ hj ih
      dsimp only at k1 k2 k3 ih ⊢
      unfold d_spec_l11Right_l9 d_spec_l11Right_j10 d_spec_l11Right_j11
      dsimp only
      rw [k2, dec_lt]
      rcases Nat.lt_or_ge j h'.Jobs.length with k | k
      · obtain ⟨o, eo, co⟩ := tOnce k1 3
        obtain ⟨x, ex, _, _, _, cx⟩ := tBelow co (r.1.Seats.length : Int)
        rw [decide_eq_true k, br_t, eo, bd_some, br_if, ex, bd_some, at?_lt (by omega), bd_some, bd_some, jn_eq, jn_eq, w64_succ k (by omega)]
        split
        · exact ih (_, _) ⟨cx, by simp [k2], k3⟩ k
        · exact ih (_, _) ⟨co, k2, k3⟩ k
      · rw [decide_eq_false (by omega), br_f, jn_eq]
        exact ⟨_, rfl, k3, k1⟩
  refine forEx (n := n) (fun i (v : Int × Gl1Cur × GHouse) => (v.1, (i : Int), v.2.1, v.2.2)) (fun i v => CurOk v.2.1 ∧ HsOk r.1 i v.2.2) _ (by omega) ?_ (v := (0, b.2, _)) ⟨cb, hh⟩
  rintro L i ⟨t, c, h⟩ ⟨g1, g2⟩ hi ih
  dsimp only at g1 g2 ih ⊢
  obtain ⟨k1, k2, k3, k4, k5, k6⟩ := g2
  unfold d_spec_l11Right_l1
  dsimp only
  rw [hn, dec_lt]
  rcases Nat.lt_or_ge i n with g | g
  · obtain ⟨p, ep, cp⟩ := tl6Right g1 r.1 h.Now
    obtain ⟨x1, e1, _, _, _, c1⟩ := tBelow cp 12
    obtain ⟨x2, e2, _, _, _, c2⟩ := tBelow c1 2
    obtain ⟨x3, e3, _, _, _, c3⟩ := tBelow c2 4
    rw [decide_eq_true g, br_t, ep, bd_some, e1, bd_some, e2, bd_some, e3, bd_some, l1Min_eq, bd_some, br_if, jn_eq, jn_eq]
    have j3 : ∀ (q : GParty) (b : Bool), ∃ y, d_spec_l11Right_j3 L t (i : Int) h x3 q b = some y ∧ HouOk y.1 ∧ CurOk y.2 := by
      intro q b
      unfold d_spec_l11Right_j3 d_spec_l11Right_j4
      obtain ⟨l, el, hl⟩ := tPartyPut (l := h.Parties) (by omega) q
      rw [br_if, jn_eq, el, bd_some, jn_eq, w64_succ g (by omega)]
      split
      · exact ih (_, _, _) ⟨c3, k1, k2, k3, by dsimp only; omega, by dsimp only; omega, k6⟩ g
      · exact ih (_, _, _) ⟨c3, k1, k2, k3, by dsimp only; omega, by dsimp only; omega, k6⟩ g
    have j2 : ∀ q : GParty, ∃ y, d_spec_l11Right_j2 r L t (i : Int) h x3 q = some y ∧ HouOk y.1 ∧ CurOk y.2 := by
      intro q
      unfold d_spec_l11Right_j2
      obtain ⟨a, ea, _⟩ := tl11At h.Parties (by omega) q.Id
      obtain ⟨b, eb⟩ := tCountIn h.Parties (by omega) q.Cabin
      obtain ⟨d, ed⟩ := tl11Room (h := h) (p := q) (by omega) k1 k3
      simp only [ea, eb, ed, bd_some, br_if, jn_eq]
      repeat' split
      all_goals exact j3 _ _
    split <;> exact j2 _
  · rw [decide_eq_false (by omega), br_f, jn_eq]
    exact post _ g1 ⟨k1, k2, k3, by dsimp only; omega, by dsimp only; omega, k6⟩
theorem tReq {c : Gl1Cur} (hc : CurOk c) {h : GHouse} (hh : HouOk h) : ∃ x, d_spec_l12Right c h = some x ∧ CurOk x.2 := by
  unfold d_spec_l12Right
  obtain ⟨x1, e1, _, _, _, c1⟩ := tBelow hc 12
  have j4 : ∀ x : Gl1Cur × GReq, d_spec_l12Right_j4 x = some (x.2, x.1) := fun _ => rfl
  have j5 : ∀ (v x : Int) (y : Int × Gl1Cur) (b : Bool), CurOk y.2 → ∃ z, d_spec_l12Right_j5 h v x y b = some z ∧ CurOk z.2 := by
    intro v x y b hy
    unfold d_spec_l12Right_j5
    obtain ⟨z1, f1, _, _, _, g1⟩ := tBelow hy x
    obtain ⟨z2, f2, _, _, _, g2⟩ := tBelow g1 4
    obtain ⟨z3, f3, _, _, _, g3⟩ := tBelow hy (if 1 > h.Rules.Crew then 1 else h.Rules.Crew)
    simp only [f1, f2, f3, l1Max_eq, bd_some, br_if]
    repeat' split
    all_goals first | exact ⟨_, rfl, g2⟩ | exact ⟨_, rfl, hy⟩ | exact ⟨_, rfl, g3⟩
  have j3 : ∀ (v x : Int) (y : Int × Gl1Cur) (b : Bool), CurOk y.2 → ∃ z, d_spec_l12Right_j3 h v x y b = some z ∧ CurOk z.2 := by
    intro v x y b hy
    unfold d_spec_l12Right_j3
    obtain ⟨z1, f1, _, _, _, g1⟩ := tBelow hy 14
    obtain ⟨z2, f2, _, _, _, g2⟩ := tBelow g1 x
    obtain ⟨z3, f3, _, _, _, g3⟩ := tBelow g2 (if 1 > h.Rules.Size then 1 else h.Rules.Size)
    obtain ⟨z4, f4, _, _, _, g4⟩ := tBelow g3 (if 1 > h.Rules.Tiers then 1 else h.Rules.Tiers)
    obtain ⟨z5, f5, g5⟩ := tOnce g4 3
    obtain ⟨z6, f6, _, _, _, g6⟩ := tBelow g5 x
    simp only [f1, f2, f3, f4, f5, f6, l1Max_eq, bd_some, br_if, jn_eq, eqv_self, j4]
    repeat' split
    all_goals first | exact ⟨_, rfl, g6⟩ | exact ⟨_, rfl, g5⟩ | exact ⟨_, rfl, hy⟩ | exact j5 _ _ _ _ hy
  have j2 : ∀ x : Int × Gl1Cur, CurOk x.2 → ∃ z, d_spec_l12Right_j2 h x = some z ∧ CurOk z.2 := by
    rintro ⟨v, c⟩ hy
    unfold d_spec_l12Right_j2
    dsimp only at hy ⊢
    obtain ⟨z1, f1, _, _, _, g1⟩ := tBelow hy 12
    simp only [f1, l1Max_eq, bd_some, br_if, jn_eq]
    repeat' split
    all_goals exact j3 _ _ _ _ g1
  have hp := hh.1
  rw [e1, bd_some, br_dec]
  split
  · rename_i h0
    obtain ⟨o, eo, co⟩ := tOnce c1 3
    rw [eo, bd_some, jn_eq]
    unfold d_spec_l12Right_j1
    dsimp only
    rw [br_if]
    split
    · obtain ⟨z1, f1, a1, _, b1, g1⟩ := tBelow co (h.Parties.length : Int)
      obtain ⟨k, hk⟩ := Int.eq_ofNat_of_zero_le a1
      have := b1 (by omega)
      rw [f1, bd_some, hk, at?_lt (by omega), bd_some, jn_eq]
      exact j2 _ g1
    · rw [jn_eq]; exact j2 _ co
  · rw [jn_eq]
    unfold d_spec_l12Right_j1
    dsimp only
    rw [br_f, jn_eq]
    exact j2 _ c1
theorem tBent {c : Gl1Cur} (hc : CurOk c) {h : GHouse} (hh : HouOk h) : ∃ x, d_spec_l12Bent c h = some x ∧ CurOk x.2 := by
  unfold d_spec_l12Bent
  obtain ⟨q, eq, cq⟩ := tReq hc hh
  obtain ⟨a, ea, ca, _⟩ := tPickInt cq (l := [-1, 0, 1, 4, 7, 61, 1000, 9999, 10000, 9223372036854775807, -9223372036854775808]) (by simp)
  obtain ⟨b, eb, _, _, _, cb⟩ := tBelow ca 20
  have j1 : ∀ x : Gl1Cur × GReq, d_spec_l12Bent_j1 x = some (x.2, x.1) := fun _ => rfl
  simp only [eq, ea, eb, bd_some, br_if, jn_eq, j1]
  repeat' split
  all_goals exact ⟨_, rfl, cb⟩
theorem tDrawLogOf {s : List UInt8} (hs : s.length ≤ 1048576) : ∃ x, d_spec_DrawLogOf s = some x ∧ x.1.length ≤ 4 ∧ okI x.2 := by
  unfold d_spec_DrawLogOf
  obtain ⟨c, ec, hc⟩ := tNew hs
  obtain ⟨h, eh, hh, ch⟩ := tHouse hc
  obtain ⟨a, ea, a1, _, a3, ca⟩ := tBelow ch 5
  have ha := a3 (by omega)
  obtain ⟨n, hn⟩ := Int.eq_ofNat_of_zero_le a1
  rw [ec, bd_some, eh, bd_some, ea, bd_some]
  refine forEx (n := n) (fun i (v : List GReq × Gl1Cur) => (v.1, (i : Int), v.2)) (fun i v => v.1.length = i ∧ CurOk v.2) _ (by omega) ?_ (v := ([], a.2)) ⟨rfl, ca⟩
  rintro L i ⟨l, c⟩ ⟨g1, g2⟩ hi ih
  unfold d_spec_DrawLogOf_l1 d_spec_DrawLogOf_j2 d_spec_DrawLogOf_j3
  dsimp only at g1 g2 ih ⊢
  rw [hn, dec_lt]
  rcases Nat.lt_or_ge i n with g | g
  · obtain ⟨q, eq, cq⟩ := tReq g2 hh
    obtain ⟨o, eo, co⟩ := tOnce cq 16
    obtain ⟨b, eb, cb⟩ := tBent co hh
    rw [decide_eq_true g, br_t, eq, bd_some, eo, bd_some, br_if, eb, bd_some, jn_eq, jn_eq]
    simp only [List.length_cons, List.length_nil]
    rw [gd_t (by unfold lim; omega), gd_t (by unfold lim; omega), w64_succ g (by omega)]
    split
    · exact ih (_, _) ⟨by simp [g1], cb⟩ g
    · exact ih (_, _) ⟨by simp [g1], co⟩ g
  · obtain ⟨p, ep, cp, hp⟩ := tPickInt g2 (l := [1, 1, 2, 9, 999999, 1000000, 0, -1, 9223372036854775807, -9223372036854775808]) (by simp)
    rw [decide_eq_false (by omega), br_f, jn_eq, ep, bd_some]
    refine ⟨_, rfl, by dsimp only; omega, ?_⟩
    dsimp only
    simp only [List.mem_cons, List.not_mem_nil, or_false] at hp
    unfold okI; omega
end Lv.P
