/-
  Plain laws: the requests in a journal's frames are read the same by both.
-/
import Derived.Test.YtagjbadlmcfiaaaPF
import Derived.Test.YtagjbadlmcfiaaaK2c
set_option linter.unusedVariables false
set_option linter.unusedSimpArgs false
set_option linter.unusedVariables false
set_option linter.unusedSimpArgs false
namespace Lv.P
open Go (IntKind BinOp UnOp)

/-- a loop that ends with a result of which Q holds -/
theorem loopEx {σ γ : Type} {F : (σ → Option γ) → σ → Option γ} (I : σ → Prop) (μ : σ → Nat) (Q : γ → Prop)
    (step : ∀ (L : σ → Option γ) x, I x → (∀ y, I y → μ y < μ x → ∃ r, L y = some r ∧ Q r) → ∃ r, F L x = some r ∧ Q r) : ∀ n x, I x → μ x < n → ∃ r, loopN F n x = some r ∧ Q r
  | 0, x, _, h => by omega
  | n + 1, x, hI, hn => by
    rw [loopN_s]
    exact step _ x hI fun y hy hm => loopEx I μ Q step n y hy (by omega)
theorem forEx {τ σ γ : Type} {F : (τ → Option γ) → τ → Option γ} (st : Nat → σ → τ) (I : Nat → σ → Prop) (Q : γ → Prop) {n : Nat} (hn : n < 2 ^ 63)
    (step : ∀ L i v, I i v → i ≤ n → (∀ v', I (i + 1) v' → i < n → ∃ r, L (st (i + 1) v') = some r ∧ Q r) → ∃ r, F L (st i v) = some r ∧ Q r) {v : σ} (h0 : I 0 v) : ∃ r, loopN F big (st 0 v) = some r ∧ Q r := by
  have key : ∀ (m i k : Nat) (v : σ), i + m = n → m < k → I i v → ∃ r, loopN F k (st i v) = some r ∧ Q r := by
    intro m
    induction m with
    | zero =>
      intro i k v hi hk h
      obtain ⟨k, rfl⟩ : ∃ j, k = j + 1 := ⟨k - 1, by omega⟩
      rw [loopN_s]
      exact step _ i v h (by omega) fun v' _ h3 => by omega
    | succ m ih =>
      intro i k v hi hk h
      obtain ⟨k, rfl⟩ : ∃ j, k = j + 1 := ⟨k - 1, by omega⟩
      rw [loopN_s]
      exact step _ i v h (by omega) fun v' h2 h3 => ih (i + 1) k v' (by omega) (by omega) h2
  exact key n 0 big v (by omega) (big_pos _ (by omega)) h0

/-! sizes and copies of frames -/
def szF (d : Int) : List GFrame → Int
  | [] => d
  | f :: l => if d - f.Body.length < 0 then -1 else szF (d - f.Body.length) l
theorem szF_ok : ∀ (l : List GFrame) (d : Int), d ≤ 1048576 → 0 ≤ szF d l → ∀ f ∈ l, f.Body.length ≤ 1048576
  | [], d, hd, h, f, hf => by cases hf
  | g :: l, d, hd, h, f, hf => by
    unfold szF at h
    by_cases h1 : d - g.Body.length < 0
    · rw [if_pos h1] at h; omega
    · rw [if_neg h1] at h
      have := szF_ok l _ (by omega) h
      rcases List.mem_cons.1 hf with rfl | h2
      · omega
      · exact this f h2
theorem szFrameS {l : List GFrame} (hl : okL okGFrame l) : d_laws_szFrameS l 1048576 = some (if 1048576 - (l.length : Int) < 0 then (-1 : Int) else szF (1048576 - (l.length : Int)) l) := by
  unfold d_laws_szFrameS
  have h1 := hl.1
  rw [w64_id (by omega) (by omega), br_dec]
  split
  · rfl
  rename_i h0
  refine forLoop (n := l.length) (fun i (v : Int) => (v, (i : Int))) (fun _ v => 0 ≤ v ∧ v ≤ 1048576) (fun i v => some (szF v (l.drop i))) (by omega) ?_ ⟨by omega, by omega⟩
  rintro L i v ⟨ha, hb⟩ hi ih
  unfold d_laws_szFrameS_l1 d_laws_szFrameS_j2 d_laws_szFrame
  dsimp only at ih ⊢
  rw [dec_lt]
  rcases Nat.lt_or_ge i l.length with h | h
  · have hk := (hl.2 l[i] (List.getElem_mem h)).2.1
    unfold okS at hk
    rw [decide_eq_true h, br_t, at?_lt h, bd_some, w64_id (by omega) (by omega), br_dec, drop_at h, w64_succ h (by omega)]
    unfold szF
    by_cases h2 : v - (l[i].Body.length : Int) < 0
    · rw [if_pos h2, if_pos h2]; simp
    · rw [if_neg h2, if_neg h2, bd_some, br_dec, if_neg h2, ih _ ⟨by omega, by omega⟩ h]
  · rw [decide_eq_false (by omega), br_f, jn_eq, List.drop_eq_nil_of_le h]; rfl
theorem toFrameS {l : List GFrame} (hl : l.length ≤ 1048576) : d_laws_toFrameS l = some l := by
  unfold d_laws_toFrameS
  rw [gd_t (by unfold lim; omega), Int.toNat_natCast]
  refine copyLoop (by omega) ?_ ?_
  · intro L v i hv hi
    unfold d_laws_toFrameS_l1 d_laws_toFrame
    dsimp only
    rw [dec_lt, decide_eq_true hi, br_t, at?_lt hi, bd_some, bd_some, at?_lt (by omega), bd_some, bd_some, w64_succ hi (by omega), Int.toNat_natCast]
  · intro L v
    unfold d_laws_toFrameS_l1 d_laws_toFrameS_j2
    dsimp only
    rw [dec_lt, decide_eq_false (by omega), br_f, jn_eq]
theorem eqFrameS {l : List GFrame} (hl : l.length < 9223372036854775808) : d_laws_eqFrameS l l = some true := by
  unfold d_laws_eqFrameS
  rw [br_if, if_neg (by simp)]
  refine allLoop (n := l.length) (by omega) ?_ ?_
  · intro L i hi
    unfold d_laws_eqFrameS_l1 d_laws_eqFrame
    rw [dec_lt, decide_eq_true hi, br_t, at?_lt hi, bd_some, bd_some]
    have hne : ∀ (b : Int), (b != b) = false := by simp
    have hne2 : ∀ (b : List UInt8), (b != b) = false := by simp
    rw [hne, hne2, hne, br_f, br_f, br_f, bd_some, br_not, br_t, w64_succ hi (by omega)]
  · intro L
    unfold d_laws_eqFrameS_l1 d_laws_eqFrameS_j2
    rw [dec_lt, decide_eq_false (by omega), br_f, jn_eq]

/-! the requests in frames -/
noncomputable def notes : List GFrame → List GReq
  | [] => []
  | f :: l => if (reqRd f.Body).2 = true then (reqRd f.Body).1 :: notes l else []
theorem notes_len : ∀ l, (notes l).length ≤ l.length
  | [] => by simp [notes]
  | f :: l => by
    unfold notes
    have := notes_len l
    split <;> simp <;> omega
theorem notesLoop {l : List GFrame} (hl : l.length ≤ 1048576) {G : List UInt8 → Option (GReq × Bool)} (hG : ∀ f ∈ l, G f.Body = some (reqRd f.Body)) {F : (List GReq × Int → Option (List GReq)) → List GReq × Int → Option (List GReq)}
    (hF : ∀ L acc i, F L (acc, i) = br (decide (i < (l.length : Int))) (bd (at? l i) fun x => bd (G x.Body) fun y => br (!y.2) (some acc) (gd (acc.length + [y.1].length ≤ lim) (L (acc ++ [y.1], w64 (i + 1))))) (some acc)) :
    loopN F big ([], 0) = some (notes l) := by
  refine (forLoop (n := l.length) (fun i (v : List GReq) => (v, (i : Int))) (fun i v => v.length ≤ i) (fun i v => some (v ++ notes (l.drop i))) (by omega) ?_ (v := []) (by simp)).trans (by simp)
  intro L i acc ha hi ih
  rw [hF, dec_lt]
  rcases Nat.lt_or_ge i l.length with h | h
  · rw [decide_eq_true h, br_t, at?_lt h, bd_some, hG _ (List.getElem_mem h), bd_some, br_not, drop_at h, w64_succ h (by omega), br_if]
    unfold notes
    by_cases hx : (reqRd l[i].Body).2 = true
    · rw [if_pos hx, if_pos hx, gd_t (by simp only [List.length_cons, List.length_nil]; unfold lim; omega), ih _ (by simp; omega) h]
      simp
    · rw [if_neg hx, if_neg hx]; simp
  · rw [decide_eq_false (by omega), br_f, List.drop_eq_nil_of_le h]; simp [notes]
theorem spec_NotesIn {l : List GFrame} (hl : l.length ≤ 1048576) (hb : ∀ f ∈ l, f.Body.length ≤ 1048576) : d_spec_NotesIn l = some (notes l) := by
  unfold d_spec_NotesIn
  exact notesLoop hl (G := d_spec_ReqRead) (fun f hf => spec_ReqRead (hb f hf)) fun L acc i => by unfold d_spec_NotesIn_l1 d_spec_NotesIn_j2; simp only [jn_eq]
theorem impl_NotesIn {l : List GFrame} (hl : l.length ≤ 1048576) (hb : ∀ f ∈ l, f.Body.length ≤ 1048576) : d_impl_NotesIn l = some (notes l) := by
  unfold d_impl_NotesIn
  exact notesLoop hl (G := d_impl_ReqRead) (fun f hf => impl_ReqRead (hb f hf)) fun L acc i => by unfold d_impl_NotesIn_l1 d_impl_NotesIn_j2; simp only [jn_eq]

/-! marks -/
theorem markText {n : Int} (hn : n ≤ 1099511627776) : ∃ s, d_laws_markText n = some s := by
  unfold d_laws_markText
  rw [br_dec]
  split
  · exact ⟨_, rfl⟩
  rename_i h
  obtain ⟨r, hr, _⟩ := loopEx (F := d_laws_markText_l1) (fun x => x.1 ≤ 1099511627776 ∧ x.2.length + x.1.toNat ≤ 1099511627776) (fun x => x.1.toNat) (fun _ => True) (by
    rintro L ⟨v, acc⟩ ⟨h1, h2⟩ ih
    dsimp only at h1 h2 ih
    unfold d_laws_markText_l1 d_laws_markText_j2
    dsimp only
    rw [br_dec]
    by_cases hv : v > 0
    · obtain ⟨m, rfl⟩ := Int.eq_ofNat_of_zero_le (show 0 ≤ v by omega)
      rw [if_pos hv, gd_t (by simp only [List.length_cons, List.length_nil]; unfold slim; omega)]
      have e : Int.tdiv (m : Int) 10 = ((m / 10 : Nat) : Int) := by rw [Int.tdiv_eq_ediv_of_nonneg (by omega)]; omega
      rw [e, w64_id (n := ((m / 10 : Nat) : Int)) (by omega) (by omega)]
      exact ih _ ⟨by dsimp only; omega, by dsimp only [List.length_append]; simp only [List.length_append, List.length_cons, List.length_nil]; omega⟩ (by dsimp only; omega)
    · rw [if_neg hv, jn_eq, gd_t (by simp only [List.length_cons, List.length_nil]; unfold slim; omega)]
      exact ⟨_, rfl, trivial⟩) big (n, []) ⟨hn, by dsimp only [List.length_nil]; omega⟩ (big_pos _ (by dsimp only; omega))
  exact ⟨r, hr⟩
theorem at?_set {α : Type} {l : List α} {i : Nat} {a : α} (h : i < l.length) : at? (l.set i a) (i : Int) = some a := by rw [at?_nat]; simp [h]
theorem markFrameS {l : List GFrame} (hl : l.length ≤ 1048576) : ∃ r : Int × List GFrame, d_laws_markFrameS l 1 = some r ∧ 0 ≤ r.1 := by
  unfold d_laws_markFrameS
  refine forEx (n := l.length) (fun i (v : List GFrame × Int) => (v.1, v.2, (i : Int))) (fun i v => v.1.length = l.length ∧ v.2 = 1 + 3 * i) (fun r : Int × List GFrame => 0 ≤ r.1) (by omega) ?_ (v := (l, 1)) ⟨rfl, by simp⟩
  rintro L i ⟨v, c⟩ ⟨h1, h2⟩ hi ih
  dsimp only at h1 h2 ih ⊢
  subst h2
  unfold d_laws_markFrameS_l1 d_laws_markFrameS_j2
  dsimp only
  rw [dec_lt]
  rcases Nat.lt_or_ge i l.length with h | h
  · obtain ⟨s, hs⟩ := markText (n := 1 + 3 * (i : Int) + 1) (by omega)
    rw [h1, decide_eq_true h, br_t, at?_lt (by omega), bd_some, bd_some, w64_id (n := 1 + 3 * (i : Int) + 1) (by omega) (by omega), hs, bd_some, Int.toNat_natCast, at?_set (by omega), bd_some, bd_some, List.set_set, at?_set (by omega), bd_some, bd_some, List.set_set, w64_succ h (by omega),
      w64_id (n := 1 + 3 * (i : Int) + 1 + 1) (by omega) (by omega), w64_id (by omega) (by omega)]
    exact ih (_, _) ⟨by rw [List.length_set]; exact h1, by dsimp only; omega⟩ h
  · rw [h1, decide_eq_false (by omega), br_f, jn_eq]
    exact ⟨_, rfl, by dsimp only; omega⟩
/-- the request that the marks from c on make -/
def mkReq (c : Int) : GReq := ⟨c, c + 1, c + 2, c + 3, c + 4, c + 5⟩
theorem markReqS {l : List GReq} (hl : l.length ≤ 1048576) : ∃ r : Int × List GReq, d_laws_markReqS l 1 = some r ∧ (r.1 = 1 + 6 * l.length ∧ r.2.length = l.length ∧ ∀ j : Nat, j < l.length → r.2[j]? = some (mkReq (1 + 6 * j))) := by
  unfold d_laws_markReqS
  refine forEx (n := l.length) (fun i (v : List GReq × Int) => (v.1, v.2, (i : Int))) (fun i v => v.1.length = l.length ∧ v.2 = 1 + 6 * i ∧ ∀ j : Nat, j < i → v.1[j]? = some (mkReq (1 + 6 * j))) _ (by omega) ?_ (v := (l, 1)) ⟨rfl, by simp, fun j hj => by omega⟩
  rintro L i ⟨v, c⟩ ⟨h1, h2, h3⟩ hi ih
  dsimp only at h1 h2 h3 ih ⊢
  subst h2
  unfold d_laws_markReqS_l1 d_laws_markReqS_j2
  dsimp only
  rw [dec_lt]
  rcases Nat.lt_or_ge i l.length with h | h
  · rw [h1, decide_eq_true h, br_t, at?_lt (by omega), bd_some, bd_some, Int.toNat_natCast]
    simp only [at?_set (show i < v.length by omega), bd_some, List.set_set]
    rw [w64_succ h (by omega), w64_id (n := 1 + 6 * (i : Int) + 1) (by omega) (by omega), w64_id (n := 1 + 6 * (i : Int) + 1 + 1) (by omega) (by omega), w64_id (n := 1 + 6 * (i : Int) + 1 + 1 + 1) (by omega) (by omega), w64_id (n := 1 + 6 * (i : Int) + 1 + 1 + 1 + 1) (by omega) (by omega), w64_id (n := 1 + 6 * (i : Int) + 1 + 1 + 1 + 1 + 1) (by omega) (by omega), w64_id (n := 1 + 6 * (i : Int) + 1 + 1 + 1 + 1 + 1 + 1) (by omega) (by omega)]
    refine ih (_, _) ⟨by rw [List.length_set]; exact h1, by dsimp only; omega, ?_⟩ h
    intro j hj
    dsimp only
    by_cases hji : j = i
    · have hiv : i < v.length := by omega
      rw [hji, List.getElem?_set_self hiv]
      simp only [mkReq, Option.some.injEq, GReq.mk.injEq, true_and]; omega
    · rw [List.getElem?_set_ne (fun h => hji h.symm)]; have hj' : j < i + 1 := hj; exact h3 j (by omega)
  · obtain rfl : i = l.length := by omega
    rw [h1, decide_eq_false (by omega), br_f, jn_eq]
    exact ⟨_, rfl, rfl, h1, h3⟩
theorem heldReqS {l : List GReq} (hl : l.length ≤ 1048576) (hm : ∀ j : Nat, j < l.length → l[j]? = some (mkReq (1 + 6 * j))) : d_laws_heldReqS l 1 = some (1 + 6 * (l.length : Int)) := by
  unfold d_laws_heldReqS
  refine forLoop (n := l.length) (fun i (v : Int) => (v, (i : Int))) (fun i v => v = 1 + 6 * i) (fun _ _ => some (1 + 6 * (l.length : Int))) (by omega) ?_ (by simp)
  rintro L i v rfl hi ih
  unfold d_laws_heldReqS_l1 d_laws_heldReqS_j2
  dsimp only at ih ⊢
  rw [dec_lt]
  rcases Nat.lt_or_ge i l.length with h | h
  · rw [decide_eq_true h, br_t, at?_nat, hm i h]
    simp only [bd_some, mkReq]
    have hne : ∀ (b : Int), (b != b) = false := by simp
    rw [w64_id (n := 1 + 6 * (i : Int) + 1) (by omega) (by omega), w64_id (n := 1 + 6 * (i : Int) + 1 + 1) (by omega) (by omega), w64_id (n := 1 + 6 * (i : Int) + 1 + 1 + 1) (by omega) (by omega), w64_id (n := 1 + 6 * (i : Int) + 1 + 1 + 1 + 1) (by omega) (by omega), w64_id (n := 1 + 6 * (i : Int) + 1 + 1 + 1 + 1 + 1) (by omega) (by omega), w64_id (n := 1 + 6 * (i : Int) + 1 + 1 + 1 + 1 + 1 + 1) (by omega) (by omega), w64_succ h (by omega)]
    rw [show 1 + 6 * (i : Int) + 1 + 1 = 1 + 6 * (i : Int) + 2 by omega, show 1 + 6 * (i : Int) + 2 + 1 = 1 + 6 * (i : Int) + 3 by omega, show 1 + 6 * (i : Int) + 3 + 1 = 1 + 6 * (i : Int) + 4 by omega, show 1 + 6 * (i : Int) + 4 + 1 = 1 + 6 * (i : Int) + 5 by omega]
    simp only [hne, br_f]
    exact ih _ (by omega) h
  · obtain rfl : i = l.length := by omega
    rw [decide_eq_false (by omega), br_f, jn_eq]
theorem Law_FnExactNotesIn {l : List GFrame} (hl : okL okGFrame l) : d_laws_FnExactNotesIn l = some true := by
  unfold d_laws_FnExactNotesIn
  rw [szFrameS hl, bd_some]
  by_cases h : 1048576 - (l.length : Int) < 0
  · simp [h]
  rw [if_neg h, br_dec]
  by_cases h2 : szF (1048576 - (l.length : Int)) l < 0
  · rw [if_pos h2]
  have hs : l.length ≤ 1048576 := by omega
  have hb := szF_ok l _ (by omega) (by omega : 0 ≤ szF (1048576 - (l.length : Int)) l)
  have hn := notes_len l
  rw [if_neg h2, toFrameS hs, bd_some, spec_NotesIn hs hb, bd_some, bd_some, impl_NotesIn hs hb, bd_some, eqReqS (by omega), bd_some, br_not, br_t, bd_some, eqFrameS (by omega), bd_some, br_not, br_t]
  obtain ⟨r, hr, hr0⟩ := markFrameS hs
  rw [hr, bd_some, br_dec, if_neg (by omega), bd_some, jn_eq]
  unfold d_laws_FnExactNotesIn_j1
  obtain ⟨r2, hr2, e1, e2, e3⟩ := markReqS (l := notes l) (by omega)
  rw [br_not, br_t, hr2, bd_some, heldReqS (l := r2.2) (by omega) (by rw [e2]; exact e3), bd_some, br_dec, if_neg (by omega), e1, e2]
  have hne : ∀ (b : Int), (b != b) = false := by simp
  rw [hne, br_f, toFrameS hs, bd_some, impl_NotesIn hs hb, bd_some, eqReqS (by omega), bd_some, br_not, br_t]
  simp only [bd_some, br_dec, br_f]
  rw [if_neg (by omega), hne, br_f]
end Lv.P

