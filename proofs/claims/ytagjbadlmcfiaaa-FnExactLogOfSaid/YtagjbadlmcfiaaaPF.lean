/-
  Plain laws: checksums and frames are written and read the same by both.
-/
import Derived.Test.YtagjbadlmcfiaaaP8
import Derived.Test.YtagjbadlmcfiaaaK2b
set_option linter.unusedVariables false
set_option linter.unusedSimpArgs false
set_option linter.unusedVariables false
set_option linter.unusedSimpArgs false
namespace Lv.P
open Go (IntKind BinOp UnOp)

/-! checksums -/
def crcBit (v : Nat) : Nat := if v % 2 = 1 then (v / 2) ^^^ 3988292384 else v / 2
def crcBits : Nat → Nat → Nat
  | 0, v => v
  | k + 1, v => crcBits k (crcBit v)
def crcFrom : Nat → List UInt8 → Nat
  | v, [] => v
  | v, x :: l => crcFrom (crcBits 8 (v ^^^ x.toNat)) l
def crcOf (s : List UInt8) : Nat := crcFrom 4294967295 s ^^^ 4294967295
theorem crcBit_lt {v : Nat} (h : v < 2 ^ 32) : crcBit v < 2 ^ 32 := by
  unfold crcBit
  split
  · exact Nat.xor_lt_two_pow (by omega) (by omega)
  · omega
theorem crcBits_lt : ∀ k {v : Nat}, v < 2 ^ 32 → crcBits k v < 2 ^ 32
  | 0, _, h => h
  | k + 1, _, h => crcBits_lt k (crcBit_lt h)
theorem crcFrom_lt : ∀ (l : List UInt8) {v : Nat}, v < 2 ^ 32 → crcFrom v l < 2 ^ 32
  | [], _, h => h
  | x :: l, v, h => crcFrom_lt l (crcBits_lt 8 (Nat.xor_lt_two_pow h (by have := x.toNat_lt; omega)))
theorem crcOf_lt (s : List UInt8) : crcOf s < 2 ^ 32 := Nat.xor_lt_two_pow (crcFrom_lt s (by omega)) (by omega)
theorem xorI_nat {a b : Nat} (ha : a < 2 ^ 63) (hb : b < 2 ^ 63) : xorI (a : Int) (b : Int) = ((a ^^^ b : Nat) : Int) := by
  unfold xorI
  rw [BitVec.toNat_xor, ofInt_nat ha, ofInt_nat hb]
  have : a ^^^ b < 2 ^ 63 := Nat.xor_lt_two_pow ha hb
  rw [wrap_id (by omega) (by omega)]
theorem andI_nat {a b : Nat} (ha : a < 2 ^ 63) (hb : b < 2 ^ 63) : andI (a : Int) (b : Int) = ((a &&& b : Nat) : Int) := by
  unfold andI
  rw [BitVec.toNat_and, ofInt_nat ha, ofInt_nat hb]
  have : a &&& b < 2 ^ 63 := Nat.lt_of_le_of_lt Nat.and_le_left ha
  rw [wrap_id (by omega) (by omega)]
theorem shr1 (a : Nat) : shrI (a : Int) 1 = ((a / 2 : Nat) : Int) := by
  unfold shrI
  have e : min (1 : Int).toNat IntKind.i64.bits = 1 := by simp [IntKind.bits]
  rw [e, Int.fdiv_eq_ediv_of_nonneg _ (by omega)]
  omega
theorem crcLoop2 {γ : Type} {F : (Int × Int → Option γ) → Int × Int → Option γ} {G : Int → Option γ}
    (hF : ∀ L (v k : Nat), v < 2 ^ 32 → k ≤ 8 → F L ((v : Int), (k : Int)) = if k < 8 then L (((crcBit v : Nat) : Int), ((k + 1 : Nat) : Int)) else G (v : Int)) :
    ∀ (m k v n : Nat), k + m = 8 → m < n → v < 2 ^ 32 → loopN F n ((v : Int), (k : Int)) = G ((crcBits m v : Nat) : Int)
  | 0, k, v, 0, _, h, _ => by omega
  | 0, k, v, n + 1, hk, _, hv => by rw [loopN_s, hF _ _ _ hv (by omega), if_neg (by omega)]; rfl
  | m + 1, k, v, 0, _, h, _ => by omega
  | m + 1, k, v, n + 1, hk, h, hv => by
    rw [loopN_s, hF _ _ _ hv (by omega), if_pos (by omega), crcLoop2 hF m (k + 1) _ n (by omega) (by omega) (crcBit_lt hv)]; rfl
theorem crcLoop1 {s : List UInt8} {γ : Type} {F : (Int × Int → Option γ) → Int × Int → Option γ} {G : Int → Option γ} (hs : s.length < 2 ^ 62)
    (hF : ∀ L (v i : Nat), v < 2 ^ 32 → i ≤ s.length → F L ((v : Int), (i : Int)) = match s[i]? with | none => G (v : Int) | some x => L (((crcBits 8 (v ^^^ x.toNat) : Nat) : Int), ((i + 1 : Nat) : Int))) :
    ∀ (m i v n : Nat), i + m = s.length → m < n → v < 2 ^ 32 → loopN F n ((v : Int), (i : Int)) = G ((crcFrom v (s.drop i) : Nat) : Int)
  | 0, i, v, 0, _, h, _ => by omega
  | 0, i, v, n + 1, hi, _, hv => by
    rw [loopN_s, hF _ _ _ hv (by omega), List.getElem?_eq_none (by omega), List.drop_eq_nil_of_le (by omega)]; rfl
  | m + 1, i, v, 0, _, h, _ => by omega
  | m + 1, i, v, n + 1, hi, h, hv => by
    have hlt : i < s.length := by omega
    rw [loopN_s, hF _ _ _ hv (by omega), List.getElem?_eq_getElem hlt]
    dsimp only
    rw [crcLoop1 hs hF m (i + 1) _ n (by omega) (by omega) (crcBits_lt 8 (Nat.xor_lt_two_pow hv (by have := s[i].toNat_lt; omega))), List.drop_eq_getElem_cons hlt]
    rfl
theorem spec_Crc {s : List UInt8} (hs : s.length < 2 ^ 62) : d_spec_Crc s = some ((crcOf s : Nat) : Int) := by
  unfold d_spec_Crc
  have := crcLoop1 (F := d_spec_Crc_l1 s) (G := fun v => some (xorI v 4294967295)) hs ?_ s.length 0 4294967295 big (by omega) (big_pos _ (by omega)) (by omega)
  · refine Eq.trans this ?_
    have e := xorI_nat (a := crcFrom 4294967295 s) (b := 4294967295) (by have := crcFrom_lt s (v := 4294967295) (by omega); omega) (by omega)
    show some (xorI _ ((4294967295 : Nat) : Int)) = _
    rw [List.drop_zero, e]; rfl
  · intro L v i hv hi
    unfold d_spec_Crc_l1 d_spec_Crc_j5
    simp only [br_dec, jn_eq, at?_nat]
    by_cases h : i < s.length
    · rw [if_pos (by omega), List.getElem?_eq_getElem h, bd_some]
      dsimp only
      have hx := s[i].toNat_lt
      rw [w64_id (by omega) (by omega), xorI_nat (by omega) (by omega)]
      have := crcLoop2 (F := d_spec_Crc_l2 L (i : Int)) (G := fun v => L (v, ((i + 1 : Nat) : Int))) ?_ 8 0 (v ^^^ s[i].toNat) big (by omega) (big_pos _ (by omega)) (Nat.xor_lt_two_pow hv (by omega))
      · exact this
      · intro L5 v k hv hk
        unfold d_spec_Crc_l2 d_spec_Crc_j3 d_spec_Crc_j4
        simp only [br_dec, jn_eq]
        by_cases h8 : k < 8
        · rw [if_pos (by omega), if_pos h8]
          have e1 : Int.tmod (v : Int) 2 = ((v % 2 : Nat) : Int) := by rw [Int.tmod_eq_emod_of_nonneg (by omega)]; omega
          have e2 : Int.tdiv (v : Int) 2 = ((v / 2 : Nat) : Int) := by rw [Int.tdiv_eq_ediv_of_nonneg (by omega)]; omega
          rw [e1, e2, w64_id (by omega) (by omega), w64_id (n := (k : Int) + 1) (by omega) (by omega), br_if, show (3988292384 : Int) = ((3988292384 : Nat) : Int) from rfl, xorI_nat (by omega) (by omega)]
          unfold crcBit
          by_cases ho : v % 2 = 1
          · rw [if_pos (by rw [ho]; rfl), if_pos ho]; rfl
          · rw [if_neg (by rw [beq_iff_eq]; omega), if_neg ho]; rfl
        · rw [if_neg (by omega), if_neg h8, w64_id (by omega) (by omega)]; rfl
    · rw [if_neg (by omega), List.getElem?_eq_none (by omega)]
theorem impl_Crc {s : List UInt8} (hs : s.length < 2 ^ 62) : d_impl_Crc s = some ((crcOf s : Nat) : Int) := by
  unfold d_impl_Crc
  have := crcLoop1 (F := d_impl_Crc_l1 s) (G := fun v => some (xorI v 4294967295)) hs ?_ s.length 0 4294967295 big (by omega) (big_pos _ (by omega)) (by omega)
  · refine Eq.trans this ?_
    have e := xorI_nat (a := crcFrom 4294967295 s) (b := 4294967295) (by have := crcFrom_lt s (v := 4294967295) (by omega); omega) (by omega)
    show some (xorI _ ((4294967295 : Nat) : Int)) = _
    rw [List.drop_zero, e]; rfl
  · intro L v i hv hi
    unfold d_impl_Crc_l1 d_impl_Crc_j5
    simp only [br_dec, jn_eq, at?_nat]
    by_cases h : i < s.length
    · rw [if_pos (by omega), List.getElem?_eq_getElem h, bd_some]
      dsimp only
      have hx := s[i].toNat_lt
      rw [w64_id (by omega) (by omega), xorI_nat (by omega) (by omega)]
      have := crcLoop2 (F := d_impl_Crc_l2 L (i : Int)) (G := fun v => L (v, ((i + 1 : Nat) : Int))) ?_ 8 0 (v ^^^ s[i].toNat) big (by omega) (big_pos _ (by omega)) (Nat.xor_lt_two_pow hv (by omega))
      · exact this
      · intro L5 v k hv hk
        unfold d_impl_Crc_l2 d_impl_Crc_j3 d_impl_Crc_j4
        simp only [br_dec, jn_eq]
        by_cases h8 : k < 8
        · rw [if_pos (by omega), if_pos h8]
          have e1 : andI (v : Int) 1 = ((v % 2 : Nat) : Int) := by
            rw [show (1 : Int) = ((1 : Nat) : Int) from rfl, andI_nat (by omega) (by omega), Nat.and_one_is_mod]
          rw [e1, shr1, w64_id (n := (k : Int) + 1) (by omega) (by omega), br_if, show (3988292384 : Int) = ((3988292384 : Nat) : Int) from rfl, xorI_nat (by omega) (by omega)]
          unfold crcBit
          by_cases ho : v % 2 = 1
          · rw [if_pos (by rw [ho]; rfl), if_pos ho]; rfl
          · rw [if_neg (by rw [beq_iff_eq]; omega), if_neg ho]; rfl
        · rw [if_neg (by omega), if_neg h8, w64_id (by omega) (by omega)]; rfl
    · rw [if_neg (by omega), List.getElem?_eq_none (by omega)]

/-! frames -/
def four (c : Int) : List UInt8 := [toB (shrI c 24), toB (shrI c 16), toB (shrI c 8), toB c]
theorem four_len (c : Int) : (four c).length = 4 := rfl
def frOk (q : Int) (b : List UInt8) : Prop := (1 ≤ q ∧ q ≤ 1000000) ∧ (1 ≤ b.length ∧ b.length ≤ 60)
instance (q : Int) (b : List UInt8) : Decidable (frOk q b) := by unfold frOk; infer_instance
/-- what a frame holds behind its length -/
def frT (q : Int) (b : List UInt8) : List UInt8 := four ((crcOf (pN q ++ b) : Nat) : Int) ++ (pN q ++ b)
def frB (q : Int) (b : List UInt8) : List UInt8 := if frOk q b then pN ((frT q b).length : Int) ++ frT q b else []
theorem frT_len {q : Int} {b : List UInt8} (h : frOk q b) : 6 ≤ (frT q b).length ∧ (frT q b).length ≤ 69 := by
  have h1 := pN_len q
  have h2 : 0 < (pN q).length := by unfold pN; rw [if_pos (by have := h.1; omega)]; exact putN_len_pos _
  have := h.2
  simp only [frT, List.length_append, four_len]; omega
theorem frB_len {q : Int} {b : List UInt8} (h : frOk q b) : 7 ≤ (frB q b).length ∧ (frB q b).length ≤ 74 := by
  have := frT_len h
  have h1 := pN_len ((frT q b).length : Int)
  have h2 : 0 < (pN ((frT q b).length : Int)).length := by unfold pN; rw [if_pos (by omega)]; exact putN_len_pos _
  unfold frB; rw [if_pos h, List.length_append]; omega
theorem frB_ne {q : Int} {b : List UInt8} (h : frB q b ≠ []) : frOk q b := by
  unfold frB at h
  by_cases h1 : frOk q b
  · exact h1
  · rw [if_neg h1] at h; exact absurd rfl h
theorem spec_FrameOf (q : Int) (b : List UInt8) : d_spec_FrameOf q b = some (frB q b) := by
  unfold d_spec_FrameOf d_spec_FrameOf_j1
  simp only [l1In_eq, bd_some, jn_eq, br_not, br_t]
  by_cases h1 : 1 ≤ q ∧ q ≤ 1000000
  · rw [decide_eq_true h1, br_t]
    by_cases h2 : (1 : Int) ≤ b.length ∧ (b.length : Int) ≤ 60
    · have hok : frOk q b := ⟨h1, by omega⟩
      have hq := pN_len q
      rw [decide_eq_true h2, br_t, spec_PutNum, bd_some, gd_t (by unfold slim; omega), spec_Crc (by rw [List.length_append]; omega), bd_some]
      unfold d_spec_l2Four
      rw [bd_some, gd_t (by simp only [List.length_append, List.length_cons, List.length_nil]; unfold slim; omega), spec_PutNum, bd_some]
      have e : [toB (shrI ((crcOf (pN q ++ b) : Nat) : Int) 24), toB (shrI ((crcOf (pN q ++ b) : Nat) : Int) 16), toB (shrI ((crcOf (pN q ++ b) : Nat) : Int) 8), toB ((crcOf (pN q ++ b) : Nat) : Int)] ++ (pN q ++ b) = frT q b := rfl
      rw [e]
      have := pN_len ((frT q b).length : Int)
      have := frT_len hok
      rw [gd_t (by unfold slim; omega)]
      unfold frB; rw [if_pos hok]
    · rw [decide_eq_false h2, br_f]
      unfold frB; rw [if_neg (fun h => h2 ⟨by have := h.2; omega, by have := h.2; omega⟩)]
  · rw [decide_eq_false h1, br_f]
    unfold frB; rw [if_neg (fun h => h1 h.1)]
theorem impl_FrameOf (q : Int) (b : List UInt8) : d_impl_FrameOf q b = some (frB q b) := by
  unfold d_impl_FrameOf d_impl_FrameOf_j1
  simp only [within_eq, bd_some, jn_eq, br_not, br_t]
  by_cases h1 : 1 ≤ q ∧ q ≤ 1000000
  · rw [decide_eq_true h1, br_t]
    by_cases h2 : (1 : Int) ≤ b.length ∧ (b.length : Int) ≤ 60
    · have hok : frOk q b := ⟨h1, by omega⟩
      have hq := pN_len q
      rw [decide_eq_true h2, br_t, impl_PutNum, bd_some, gd_t (by unfold lim; omega), impl_Crc (by rw [List.length_append]; omega), bd_some]
      rw [gd_t (by simp only [List.length_append, List.length_cons, List.length_nil]; unfold lim; omega), impl_PutNum, bd_some]
      have e : [toB (shrI ((crcOf (pN q ++ b) : Nat) : Int) 24), toB (shrI ((crcOf (pN q ++ b) : Nat) : Int) 16), toB (shrI ((crcOf (pN q ++ b) : Nat) : Int) 8), toB ((crcOf (pN q ++ b) : Nat) : Int)] ++ (pN q ++ b) = frT q b := rfl
      rw [e]
      have := pN_len ((frT q b).length : Int)
      have := frT_len hok
      rw [gd_t (by unfold slim; omega)]
      unfold frB; rw [if_pos hok]
    · rw [decide_eq_false h2, br_f]
      unfold frB; rw [if_neg (fun h => h2 ⟨by have := h.2; omega, by have := h.2; omega⟩)]
  · rw [decide_eq_false h1, br_f]
    unfold frB; rw [if_neg (fun h => h1 h.1)]
end Lv.P
/-
  Plain laws: a frame at a place is found the same by both.
-/
set_option linter.unusedVariables false
set_option linter.unusedSimpArgs false
namespace Lv.P
open Go (IntKind BinOp UnOp)

theorem gN_put {w pre l : List UInt8} {n : Nat} {i : Int} (hw : w = pre ++ (putN n ++ l)) (hi : i = pre.length) (hn : n ≤ 2147483647) : gN w i = ((n : Int), ((pre.length + (putN n).length : Nat) : Int), true) := by
  subst hw; subst hi
  have := putN_len_pos n
  unfold gN
  rw [if_pos (by simp only [List.length_append]; omega), Int.toNat_natCast, List.drop_left, rdN_put 5 0 0 n l (putN_len5 hn) (.inl rfl) (by simpa using hn)]
  simp [gRes]
theorem gN_get {w : List UInt8} {i n j : Int} (h : gN w i = (n, j, true)) : ∃ (m : Nat) (l : List UInt8), 0 ≤ i ∧ i < w.length ∧ w.drop i.toNat = putN m ++ l ∧ n = (m : Int) ∧ j = i + (putN m).length ∧ m ≤ 2147483647 := by
  unfold gN at h
  split at h
  · rename_i hi
    cases hr : rdN 5 0 0 (w.drop i.toNat) with
    | none => rw [hr] at h; simp [gRes] at h
    | some x =>
      obtain ⟨N, k⟩ := x
      rw [hr] at h
      simp only [gRes, Prod.mk.injEq] at h
      obtain ⟨m, l, h1, h2, h3, _, h5⟩ := rdN_get _ _ _ _ _ _ hr
      simp at h2
      refine ⟨m, l, hi.1, hi.2, h1, by omega, by omega, by omega⟩
  · simp at h
theorem frB_eq {q : Int} {b : List UInt8} (h : frOk q b) : frB q b = putN (frT q b).length ++ (four ((crcOf (pN q ++ b) : Nat) : Int) ++ (putN q.toNat ++ b)) ∧ frT q b = four ((crcOf (pN q ++ b) : Nat) : Int) ++ (putN q.toNat ++ b) := by
  have hT := frT_len h
  have e : pN q = putN q.toNat := by unfold pN; rw [if_pos (by have := h.1; omega)]
  have e2 : frT q b = four ((crcOf (pN q ++ b) : Nat) : Int) ++ (putN q.toNat ++ b) := by unfold frT; rw [e]
  refine ⟨?_, e2⟩
  unfold frB
  rw [if_pos h, ← e2]
  have e3 : pN ((frT q b).length : Int) = putN (frT q b).length := by unfold pN; rw [if_pos (by omega), Int.toNat_natCast]
  rw [e3]
theorem frB_inj {q q' : Int} {b b' d : List UInt8} (h : frOk q b) (h' : frOk q' b') (hp : frB q b <+: d) (hp' : frB q' b' <+: d) : q = q' ∧ b = b' := by
  obtain ⟨r, rfl⟩ := hp
  obtain ⟨r', hr⟩ := hp'
  obtain ⟨e1, e2⟩ := frB_eq h
  obtain ⟨e1', e2'⟩ := frB_eq h'
  have hT := frT_len h
  have hT' := frT_len h'
  rw [e1, e1', ← e2, ← e2', List.append_assoc, List.append_assoc] at hr
  have g1 := gN_put (w := putN (frT q b).length ++ (frT q b ++ r)) (pre := []) (i := 0) rfl rfl (by omega : (frT q b).length ≤ 2147483647)
  have g2 := gN_put (w := putN (frT q b).length ++ (frT q b ++ r)) (pre := []) (i := 0) (l := frT q' b' ++ r') (by rw [← hr]; rfl) rfl (by omega : (frT q' b').length ≤ 2147483647)
  rw [g1] at g2
  have hl : (frT q b).length = (frT q' b').length := by have := congrArg Prod.fst g2; simp at this; omega
  rw [← hl] at hr
  have hr2 := List.append_cancel_left hr
  have hr3 := (List.append_inj hr2 (by omega)).1
  rw [e2, e2'] at hr3
  have hr4 := (List.append_inj hr3 (by rw [four_len, four_len])).2
  have g3 := gN_put (w := putN q.toNat ++ b) (pre := []) (i := 0) rfl rfl (by have := h.1; omega : q.toNat ≤ 2147483647)
  have g4 := gN_put (w := putN q.toNat ++ b) (pre := []) (i := 0) (l := b') (by rw [← hr4]; rfl) rfl (by have := h'.1; omega : q'.toNat ≤ 2147483647)
  rw [g3] at g4
  have hq : q.toNat = q'.toNat := by have := congrArg Prod.fst g4; simp at this; omega
  rw [← hq] at hr4
  have := h.1; have := h'.1
  exact ⟨by omega, (List.append_cancel_left hr4).symm⟩

/-- the frame at the beginning of d, which begins at place i -/
noncomputable def frRd (d : List UInt8) (i : Int) : GFrame × Bool :=
  open Classical in if h : ∃ x : Int × List UInt8, frOk x.1 x.2 ∧ frB x.1 x.2 <+: d then (⟨h.choose.1, h.choose.2, i + (frB h.choose.1 h.choose.2).length⟩, true) else (⟨0, [], 0⟩, false)
theorem frRd_of {q : Int} {b d : List UInt8} {i : Int} (h : frOk q b) (hp : frB q b <+: d) : frRd d i = (⟨q, b, i + (frB q b).length⟩, true) := by
  unfold frRd
  have hx : ∃ x : Int × List UInt8, frOk x.1 x.2 ∧ frB x.1 x.2 <+: d := ⟨(q, b), h, hp⟩
  rw [dif_pos hx]
  obtain ⟨h1, h2⟩ := hx.choose_spec
  obtain ⟨e1, e2⟩ := frB_inj h h1 hp h2
  rw [← e1, ← e2]
theorem frRd_none {d : List UInt8} {i : Int} (h : ∀ q b, frOk q b → ¬ frB q b <+: d) : frRd d i = (⟨0, [], 0⟩, false) := by
  unfold frRd
  rw [dif_neg]
  rintro ⟨⟨q, b⟩, h1, h2⟩
  exact h q b h1 h2
theorem frRd_cases (d : List UInt8) (i : Int) : (∃ q b, frOk q b ∧ frB q b <+: d ∧ frRd d i = (⟨q, b, i + (frB q b).length⟩, true)) ∨ ((∀ q b, frOk q b → ¬ frB q b <+: d) ∧ frRd d i = (⟨0, [], 0⟩, false)) := by
  by_cases h : ∃ q b, frOk q b ∧ frB q b <+: d
  · obtain ⟨q, b, h1, h2⟩ := h
    exact .inl ⟨q, b, h1, h2, frRd_of h1 h2⟩
  · have h2 : ∀ q b, frOk q b → ¬ frB q b <+: d := fun q b h1 h2 => h ⟨q, b, h1, h2⟩
    exact .inr ⟨h2, frRd_none h2⟩
noncomputable def frAt (s : List UInt8) (i : Int) : GFrame × Bool := if 0 ≤ i ∧ i ≤ s.length then frRd (s.drop i.toNat) i else (⟨0, [], 0⟩, false)

@[simp] theorem l1Min_eq (a b : Int) : d_spec_l1Min a b = some (if a < b then a else b) := by
  unfold d_spec_l1Min; rw [br_dec]; split <;> rfl
theorem take_pre {p d : List UInt8} {n : Nat} (h : p <+: d) (hn : p.length ≤ n) : p <+: d.take n := by
  obtain ⟨r, rfl⟩ := h
  rw [List.take_append]
  exact ⟨(r.take (n - p.length)), by rw [List.take_of_length_le hn]⟩
theorem beq_nil (b : List UInt8) : (b == []) = decide (b = []) := by cases b <;> rfl

theorem spec_FrameAt {s : List UInt8} (hs : s.length < 2 ^ 62) (i : Int) : d_spec_FrameAt s i = some (frAt s i) := by
  unfold d_spec_FrameAt frAt
  rw [l1In_eq, bd_some, br_not, br_dec]
  by_cases hi : 0 ≤ i ∧ i ≤ (s.length : Int)
  rotate_left
  · rw [if_neg hi, if_neg hi]
  rw [if_pos hi, if_pos hi, l1Min_eq, bd_some, w64_id (by omega) (by omega)]
  generalize hx : (if (s.length : Int) < i + 80 then (s.length : Int) else i + 80) = x
  have hx2 : i ≤ x ∧ x ≤ (s.length : Int) := by split at hx <;> omega
  rw [gd_t ⟨hi.1, hx2⟩]
  unfold d_spec_FrameAt_j1 d_spec_FrameAt_j2 d_spec_FrameAt_j3
  have hW : (s.drop i.toNat).take (x.toNat - i.toNat) = (s.drop i.toNat).take 80 := by
    split at hx
    · rw [List.take_of_length_le (by rw [List.length_drop]; omega), List.take_of_length_le (by rw [List.length_drop]; omega)]
    · congr 1; omega
  rw [hW]
  generalize hd : s.drop i.toNat = d at *
  have hdl : d.length = s.length - i.toNat := by rw [← hd, List.length_drop]
  generalize hw : d.take 80 = w
  have hwl : w.length ≤ 80 ∧ w.length ≤ d.length := by rw [← hw, List.length_take]; omega
  rw [spec_GetNum (by omega) _ (by omega), bd_some]
  have hwd : w <+: d := by rw [← hw]; exact List.take_prefix _ _
  rcases frRd_cases d i with ⟨q, b, hok, hp, he⟩ | ⟨hno, he⟩
  · -- there is a frame
    have hl := frB_len hok
    obtain ⟨r, hr⟩ := take_pre (n := 80) hp (by omega)
    rw [hw] at hr
    obtain ⟨e1, e2⟩ := frB_eq hok
    have hT := frT_len hok
    have hq := hok.1
    have g1 : gN w 0 = (((frT q b).length : Int), (((putN (frT q b).length).length : Nat) : Int), true) := by
      rw [gN_put (w := w) (i := 0) (pre := []) (n := (frT q b).length) (l := frT q b ++ r) (by rw [← hr, e1, ← e2]; simp) (by simp) (by omega)]; simp
    have hm := putN_len5 (n := (frT q b).length) (by omega)
    have hfl : (frB q b).length = (putN (frT q b).length).length + (frT q b).length := by rw [e1, ← e2, List.length_append]
    have hwl2 : w.length = (frB q b).length + r.length := by rw [← hr, List.length_append]
    generalize hM : (putN (frT q b).length).length = M at *
    generalize hN : (frT q b).length = N at *
    have hN2 : N = 4 + (putN q.toNat).length + b.length := by rw [← hN, e2]; simp [four_len]; omega
    rw [g1]
    dsimp only
    rw [br_not, br_t, w64_id (n := (w.length : Int) - M) (by omega) (by omega), br_dec, if_neg (by omega), decide_eq_false (by omega), jn_eq, br_f, w64_id (n := (M : Int) + 4) (by omega) (by omega)]
    have g2 : gN w ((M : Int) + 4) = (q, ((M + 4 + (putN q.toNat).length : Nat) : Int), true) := by
      rw [gN_put (pre := putN N ++ four ((crcOf (pN q ++ b) : Nat) : Int)) (n := q.toNat) (l := b ++ r) (by rw [← hr, e1]; simp) (by simp [four_len, hM]) (by omega)]
      simp [four_len, hM]; omega
    rw [spec_GetNum (by omega) _ (by omega), bd_some, g2]
    dsimp only
    rw [br_not, br_t, w64_id (n := (M : Int) + N) (by omega) (by omega), decide_eq_false (by omega), jn_eq, br_f, gd_t (by omega), gd_t (by omega)]
    have hb : ((w.drop ((M + 4 + (putN q.toNat).length : Nat) : Int).toNat).take (((M : Int) + N).toNat - ((M + 4 + (putN q.toNat).length : Nat) : Int).toNat)) = b := by
      have e3 : w = (putN N ++ four ((crcOf (pN q ++ b) : Nat) : Int) ++ putN q.toNat) ++ (b ++ r) := by rw [← hr, e1]; simp
      rw [Int.toNat_natCast, e3, List.drop_left' (by simp [four_len, hM]; omega), List.take_left' (by omega)]
    have hf : ((w.drop 0).take (((M : Int) + N).toNat - 0)) = frB q b := by
      rw [List.drop_zero, ← hr, List.take_left' (by omega)]
    rw [hb, hf, spec_FrameOf, bd_some]
    have hne : (frB q b != frB q b) = false := by simp
    have hbe : (b == []) = false := by rw [beq_nil]; have := hok.2; cases b <;> simp at this ⊢
    rw [hne, br_f, jn_eq, hbe, br_f, he]
    have hfw : (((putN N).length : Nat) : Int) = M := by omega
    simp only [Option.some.injEq, Prod.mk.injEq, and_true, GFrame.mk.injEq, true_and]
    rw [w64_id (n := i + M) (by omega) (by omega), w64_id (by omega) (by omega)]
    omega
  · -- there is none
    rw [he]
    rcases hg : gN w 0 with ⟨n, m, ok⟩
    cases ok with
    | false => dsimp only; simp only [br_not, br_f, br_t, jn_eq]
    | true =>
      obtain ⟨n', l, h1, h2, h3, h4, h5, h6⟩ := gN_get hg
      have hn5 := putN_len5 h6
      have hwlen : w.length = (putN n').length + l.length := by have := congrArg List.length h3; simpa using this
      dsimp only
      rw [br_not, br_t, w64_id (n := (w.length : Int) - m) (by omega) (by omega), br_dec]
      by_cases h7 : n > (w.length : Int) - m
      · rw [if_pos h7]; simp only [br_t, jn_eq]
      rw [if_neg h7, jn_eq, br_dec]
      by_cases h8 : n < 5
      · rw [if_pos h8]
      rw [if_neg h8, w64_id (n := m + 4) (by omega) (by omega), spec_GetNum (by omega) _ (by omega), bd_some]
      rcases hg2 : gN w (m + 4) with ⟨q, k, ok⟩
      cases ok with
      | false => dsimp only; simp only [br_not, br_f, br_t, jn_eq]
      | true =>
        obtain ⟨q', l', g1, g2, g3, g4, g5, g6⟩ := gN_get hg2
        dsimp only
        rw [br_not, br_t, w64_id (n := m + n) (by omega) (by omega), jn_eq, br_dec]
        by_cases h9 : k > m + n
        · rw [if_pos h9]
        rw [if_neg h9, gd_t (by omega), gd_t (by omega), spec_FrameOf, bd_some, bne_ite, List.drop_zero, Nat.sub_zero]
        generalize hbb : List.take ((m + n).toNat - k.toNat) (List.drop k.toNat w) = bb
        by_cases h10 : frB q bb = List.take (m + n).toNat w
        · rw [if_pos h10]
          exfalso
          have hne : frB q bb ≠ [] := by
            rw [h10]; intro h
            have := congrArg List.length h
            rw [List.length_take] at this
            simp only [List.length_nil] at this
            omega
          exact hno q bb (frB_ne hne) (by rw [h10]; exact (List.take_prefix _ _).trans hwd)
        · rw [if_neg h10]; simp only [br_t, jn_eq]
theorem impl_FrameAt {s : List UInt8} (hs : s.length < 2 ^ 62) (i : Int) (hi' : i < 2 ^ 62) : d_impl_FrameAt s i = some (frAt s i) := by
  unfold d_impl_FrameAt frAt d_impl_isIndex
  rw [within_eq, bd_some, bd_some, w64_id (n := (s.length : Int) - 1) (by omega) (by omega), br_not, br_dec]
  by_cases hi : 0 ≤ i ∧ i ≤ (s.length : Int)
  rotate_left
  · rw [if_neg (by omega), if_neg hi]
  rw [if_pos hi]
  by_cases hi2 : i = (s.length : Int)
  · rw [if_neg (by omega)]
    congr 1
    rw [frRd_none]
    intro q b h1 h2
    have hl := frB_len h1
    have := h2.length_le
    rw [List.length_drop] at this
    omega
  rw [if_pos (by omega)]
  simp only [Bool.false_eq_true, if_false]
  rw [w64_id (n := i + 5) (by omega) (by omega)]
  generalize hx : (if i + 5 < (s.length : Int) then i + 5 else (s.length : Int)) = x
  have hx2 : i ≤ x ∧ x ≤ (s.length : Int) := by split at hx <;> omega
  rw [gd_t ⟨hi.1, hx2⟩]
  unfold d_impl_FrameAt_j1 d_impl_FrameAt_j2
  have hW : (s.drop i.toNat).take (x.toNat - i.toNat) = (s.drop i.toNat).take 5 := by
    split at hx
    · congr 1; omega
    · rw [List.take_of_length_le (by rw [List.length_drop]; omega), List.take_of_length_le (by rw [List.length_drop]; omega)]
  rw [hW]
  generalize hd : s.drop i.toNat = d at *
  have hdl : d.length = s.length - i.toNat := by rw [← hd, List.length_drop]
  generalize hw : d.take 5 = w
  have hwl : w.length ≤ 5 ∧ w.length ≤ d.length := by rw [← hw, List.length_take]; omega
  rw [impl_GetNum (by omega), bd_some]
  have hdr : ∀ m : Int, 0 ≤ m → i + m ≤ s.length → s.drop (i + m).toNat = d.drop m.toNat := by
    intro m h0 h1
    rw [← hd, List.drop_drop]; congr 1; omega
  rcases frRd_cases d i with ⟨q, b, hok, hp, he⟩ | ⟨hno, he⟩
  · -- there is a frame
    have hl := frB_len hok
    obtain ⟨r, hr⟩ := hp
    obtain ⟨e1, e2⟩ := frB_eq hok
    have hT := frT_len hok
    have hq := hok.1
    have hm := putN_len5 (n := (frT q b).length) (by omega)
    have g1 : gN w 0 = (((frT q b).length : Int), (((putN (frT q b).length).length : Nat) : Int), true) := by
      rw [gN_put (w := w) (i := 0) (pre := []) (n := (frT q b).length) (l := (frT q b ++ r).take (5 - (putN (frT q b).length).length)) (by
        rw [← hw, ← hr, e1, ← e2, List.append_assoc, List.take_append, List.take_of_length_le hm]; rfl) (by simp) (by omega)]; simp
    have hfl : (frB q b).length = (putN (frT q b).length).length + (frT q b).length := by rw [e1, ← e2, List.length_append]
    have hdl2 : d.length = (frB q b).length + r.length := by rw [← hr, List.length_append]
    generalize hM : (putN (frT q b).length).length = M at *
    generalize hN : (frT q b).length = N at *
    have hN2 : N = 4 + (putN q.toNat).length + b.length := by rw [← hN, e2]; simp [four_len]; omega
    rw [g1]
    dsimp only
    rw [br_not, br_t, br_dec, if_neg (by omega), w64_id (n := (s.length : Int) - i) (by omega) (by omega), w64_id (n := (s.length : Int) - i - M) (by omega) (by omega), decide_eq_false (by omega), jn_eq, br_f]
    rw [w64_id (n := i + M) (by omega) (by omega), w64_id (n := i + M + N) (by omega) (by omega), gd_t (by omega), hdr _ (by omega) (by omega), Int.toNat_natCast]
    have hT2 : (d.drop M).take ((i + M + N).toNat - (i + M).toNat) = frT q b := by
      rw [← hr, e1, ← e2, List.append_assoc, List.drop_left' hM, List.take_left' (by omega)]
    rw [hT2]
    have g2 : gN (frT q b) 4 = (q, ((4 + (putN q.toNat).length : Nat) : Int), true) := by
      rw [gN_put (pre := four ((crcOf (pN q ++ b) : Nat) : Int)) (n := q.toNat) (l := b) e2 (by simp [four_len]) (by omega)]
      simp [four_len]; omega
    rw [impl_GetNum (by omega), bd_some, g2]
    dsimp only
    rw [br_not, br_t, gd_t (by omega)]
    have hb : ((frT q b).drop ((4 + (putN q.toNat).length : Nat) : Int).toNat).take ((frT q b).length - ((4 + (putN q.toNat).length : Nat) : Int).toNat) = b := by
      rw [Int.toNat_natCast, hN, e2, ← List.append_assoc, List.drop_left' (by simp [four_len]), List.take_of_length_le (by omega)]
    have hf : ((d).take ((i + M + N).toNat - i.toNat)) = frB q b := by
      rw [← hr, List.take_left' (by omega)]
    rw [hb, impl_FrameOf, bd_some]
    have hne : (frB q b == []) = false := by rw [beq_nil]; cases hh : frB q b with | nil => rw [hh] at hl; simp at hl | cons => rfl
    rw [hne, br_f, gd_t (by omega), hf, jn_eq]
    have hne2 : (frB q b != frB q b) = false := by simp
    rw [hne2, br_f, he]
    simp only [Option.some.injEq, Prod.mk.injEq, and_true, GFrame.mk.injEq, true_and]
    omega
  · -- there is none
    rw [he]
    rcases hg : gN w 0 with ⟨n, m, ok⟩
    cases ok with
    | false => dsimp only; simp only [br_not, br_f, br_t, jn_eq]
    | true =>
      obtain ⟨n', l, h1, h2, h3, h4, h5, h6⟩ := gN_get hg
      have hn5 := putN_len5 h6
      have hwlen : w.length = (putN n').length + l.length := by have := congrArg List.length h3; simpa using this
      dsimp only
      rw [br_not, br_t, br_dec]
      by_cases h7 : n < 6
      · rw [if_pos h7]; simp only [br_t, jn_eq]
      rw [if_neg h7, w64_id (n := (s.length : Int) - i) (by omega) (by omega), w64_id (n := (s.length : Int) - i - m) (by omega) (by omega), jn_eq, br_dec]
      by_cases h8 : n > (s.length : Int) - i - m
      · rw [if_pos h8]
      rw [if_neg h8, w64_id (n := i + m) (by omega) (by omega), w64_id (n := i + m + n) (by omega) (by omega), gd_t (by omega), hdr _ (by omega) (by omega)]
      generalize ht : (d.drop m.toNat).take ((i + m + n).toNat - (i + m).toNat) = t
      have htl : t.length ≤ s.length := by rw [← ht, List.length_take, List.length_drop]; omega
      rw [impl_GetNum (by omega), bd_some]
      rcases hg2 : gN t 4 with ⟨q, k, ok⟩
      cases ok with
      | false => dsimp only; simp only [br_not, br_f, br_t, jn_eq]
      | true =>
        obtain ⟨q', l', g1, g2, g3, g4, g5, g6⟩ := gN_get hg2
        have hkl : k ≤ t.length := by
          have := congrArg List.length g3
          rw [List.length_drop, List.length_append] at this; omega
        dsimp only
        rw [br_not, br_t, gd_t (by omega), impl_FrameOf, bd_some]
        generalize hbb : List.take (t.length - k.toNat) (List.drop k.toNat t) = bb
        rw [beq_nil, br_dec]
        by_cases h9 : frB q bb = []
        · rw [if_pos h9]; simp only [br_t, jn_eq]
        rw [if_neg h9, gd_t (by omega), jn_eq, bne_ite]
        by_cases h10 : frB q bb = List.take ((i + m + n).toNat - i.toNat) d
        · exfalso
          exact hno q bb (frB_ne h9) (by rw [h10]; exact List.take_prefix _ _)
        · rw [if_neg h10]
end Lv.P

/-
  Plain laws: loops over rows; frames of a text, the journal's length up to a number.
-/
set_option linter.unusedVariables false
set_option linter.unusedSimpArgs false
namespace Lv.P
open Go (IntKind BinOp UnOp)

/-- a loop that counts to n -/
theorem forLoop {τ σ γ : Type} {F : (τ → Option γ) → τ → Option γ} (st : Nat → σ → τ) (I : Nat → σ → Prop) (R : Nat → σ → Option γ) {n : Nat} (hn : n < 2 ^ 63)
    (step : ∀ L i v, I i v → i ≤ n → (∀ v', I (i + 1) v' → i < n → L (st (i + 1) v') = R (i + 1) v') → F L (st i v) = R i v) {v : σ} (h0 : I 0 v) : loopN F big (st 0 v) = R 0 v := by
  have key : ∀ (m i k : Nat) (v : σ), i + m = n → m < k → I i v → loopN F k (st i v) = R i v := by
    intro m
    induction m with
    | zero =>
      intro i k v hi hk h
      obtain ⟨k, rfl⟩ : ∃ j, k = j + 1 := ⟨k - 1, by omega⟩
      rw [loopN_s]
      exact step _ i v h (by omega) fun v' _ h3 => by omega
    | succ m ih =>
      intro i k v hi hk h
      obtain ⟨k, rfl⟩ : ∃ j, k = j + 1 := ⟨k - 1, by omega⟩
      rw [loopN_s]
      exact step _ i v h (by omega) fun v' h2 h3 => ih (i + 1) k v' (by omega) (by omega) h2
  exact key n 0 big v (by omega) (big_pos _ (by omega)) h0
/-- an element is there -/
theorem at?_lt {α : Type} {l : List α} {i : Nat} (h : i < l.length) : at? l (i : Int) = some l[i] := by rw [at?_nat, List.getElem?_eq_getElem h]
theorem dec_lt {l : Nat} {i : Nat} : decide ((i : Int) < (l : Int)) = decide (i < l) := by rw [decide_eq_decide]; omega
theorem w64_succ {i n : Nat} (h : i < n) (hn : n < 2 ^ 63) : w64 ((i : Int) + 1) = ((i + 1 : Nat) : Int) := by rw [w64_id (by omega) (by omega)]; rfl
/-- a row is copied, one element after the other -/
theorem copyLoop {α : Type} {l : List α} {z : α} {F : (List α × Int → Option (List α)) → List α × Int → Option (List α)} (hl : l.length < 2 ^ 63)
    (step : ∀ L v (i : Nat), v.length = l.length → (hi : i < l.length) → F L (v, (i : Int)) = L (v.set i l[i], ((i + 1 : Nat) : Int))) (stop : ∀ L v, F L (v, (l.length : Int)) = some v) :
    loopN F big (List.replicate l.length z, 0) = some l := by
  have := forLoop (F := F) (n := l.length) (fun i v => (v, (i : Int))) (fun i v => v.length = l.length ∧ v.take i = l.take i) (fun _ _ => some l) hl ?_ (v := List.replicate l.length z) ⟨by simp, by simp⟩
  · exact this
  · rintro L i v ⟨h1, h2⟩ hi ih
    rcases Nat.lt_or_ge i l.length with h | h
    · rw [step L v i h1 h]
      refine ih _ ⟨by simpa using h1, ?_⟩ h
      rw [List.take_add_one, List.take_add_one, List.take_set_of_le (by omega), h2]
      simp [h, h1]
    · obtain rfl : i = l.length := by omega
      rw [stop]
      rw [List.take_of_length_le (by omega), List.take_of_length_le (by omega)] at h2
      rw [h2]
/-- all elements pass -/
theorem allLoop {n : Nat} {F : (Int → Option Bool) → Int → Option Bool} (hl : n < 2 ^ 63)
    (step : ∀ L (i : Nat), i < n → F L (i : Int) = L ((i + 1 : Nat) : Int)) (stop : ∀ L, F L (n : Int) = some true) : loopN F big 0 = some true := by
  have := forLoop (F := F) (n := n) (fun i (_ : Unit) => (i : Int)) (fun _ _ => True) (fun _ _ => some true) hl ?_ (v := ()) trivial
  · exact this
  · intro L i v _ hi ih
    rcases Nat.lt_or_ge i n with h | h
    · rw [step L i h]; exact ih () trivial h
    · obtain rfl : i = n := by omega
      exact stop L

/-! the frames of a text -/
theorem frAt_next {s : List UInt8} {i : Int} (h : (frAt s i).2 = true) : 0 ≤ i ∧ i + 7 ≤ (frAt s i).1.Next ∧ (frAt s i).1.Next ≤ s.length := by
  unfold frAt at h ⊢
  split at h
  · rename_i hi
    rw [if_pos hi]
    rcases frRd_cases (s.drop i.toNat) i with ⟨q, b, hok, hp, he⟩ | ⟨hno, he⟩
    · rw [he]
      have := frB_len hok
      have h2 := hp.length_le
      rw [List.length_drop] at h2
      dsimp only
      omega
    · rw [he] at h; simp at h
  · simp at h
noncomputable def frs : Nat → List UInt8 → Int → List GFrame
  | 0, _, _ => []
  | f + 1, s, i => if (frAt s i).2 = true then (frAt s i).1 :: frs f s (frAt s i).1.Next else []
noncomputable def frames (s : List UInt8) : List GFrame := frs (s.length + 1) s 0
theorem frsLoop {s : List UInt8} (hs : s.length ≤ 1048576) {G : Int → Option (GFrame × Bool)} (hG : ∀ i : Int, 0 ≤ i → i ≤ s.length → G i = some (frAt s i)) {F : (List GFrame × Int → Option (List GFrame)) → List GFrame × Int → Option (List GFrame)}
    (hF : ∀ L acc i, F L (acc, i) = bd (G i) fun x => br (!x.2) (some acc) (gd (acc.length + [x.1].length ≤ lim) (L (acc ++ [x.1], x.1.Next)))) :
    ∀ (f n : Nat) (acc : List GFrame) (i : Int), 0 ≤ i → i ≤ s.length → s.length < f + i → f ≤ n → (acc.length : Int) ≤ i → loopN F n (acc, i) = some (acc ++ frs f s i)
  | 0, n, acc, i, h0, h1, h2, h3, h4 => by omega
  | f + 1, 0, acc, i, h0, h1, h2, h3, h4 => by omega
  | f + 1, n + 1, acc, i, h0, h1, h2, h3, h4 => by
    rw [loopN_s, hF, hG i h0 h1, bd_some, br_not]
    unfold frs
    cases hx : (frAt s i).2 with
    | false => simp
    | true =>
      have hn := frAt_next hx
      rw [br_t, gd_t (by simp only [List.length_cons, List.length_nil]; unfold lim; omega), if_pos rfl]
      rw [frsLoop hs hG hF f n _ _ (by omega) hn.2.2 (by omega) (by omega) (by rw [List.length_append, List.length_cons, List.length_nil]; omega)]
      simp
theorem spec_Frames {s : List UInt8} (hs : s.length ≤ 1048576) : d_spec_Frames s = some (frames s) := by
  unfold d_spec_Frames frames
  have := frsLoop hs (G := d_spec_FrameAt s) (F := d_spec_Frames_l1 s) (fun i _ _ => spec_FrameAt (by omega) i) (fun L acc i => by unfold d_spec_Frames_l1; rfl) (s.length + 1) big [] 0 (by omega) (by omega) (by omega) (by have := big_ge; omega) (by simp)
  rw [this]; simp
theorem impl_Frames {s : List UInt8} (hs : s.length ≤ 1048576) : d_impl_Frames s = some (frames s) := by
  unfold d_impl_Frames frames
  have := frsLoop hs (G := d_impl_FrameAt s) (F := d_impl_Frames_l1 s) (fun i _ _ => impl_FrameAt (by omega) i (by omega)) (fun L acc i => by unfold d_impl_Frames_l1; rfl) (s.length + 1) big [] 0 (by omega) (by omega) (by omega) (by have := big_ge; omega) (by simp)
  rw [this]; simp
theorem frs_len : ∀ (f : Nat) (s : List UInt8) (i : Int), 0 ≤ i → i ≤ s.length → ((frs f s i).length : Int) ≤ s.length - i
  | 0, s, i, h0, h => by simp [frs]; omega
  | f + 1, s, i, h0, h => by
    unfold frs
    split
    · rename_i hx
      have hn := frAt_next hx
      have := frs_len f s (frAt s i).1.Next (by omega) hn.2.2
      rw [List.length_cons]; omega
    · simp; omega
theorem frames_len (s : List UInt8) : (frames s).length ≤ s.length := by
  have := frs_len (s.length + 1) s 0 (by omega) (by omega)
  unfold frames; omega

/-- the end of the last frame up to the number p -/
def upTo (p : Int) : Int → List GFrame → Int
  | r, [] => r
  | r, f :: l => if f.Seq ≤ p then upTo p f.Next l else r
theorem drop_at {α : Type} {l : List α} {i : Nat} (h : i < l.length) : l.drop i = l[i] :: l.drop (i + 1) := List.drop_eq_getElem_cons h
theorem spec_LogUpTo {x : GStore} (hs : x.Log.Data.length ≤ 1048576) (p : Int) : d_spec_LogUpTo x p = some (upTo p 0 (frames x.Log.Data)) := by
  unfold d_spec_LogUpTo
  rw [spec_Frames hs, bd_some]
  have hl := frames_len x.Log.Data
  generalize frames x.Log.Data = l at *
  refine forLoop (n := l.length) (fun i (v : Int) => (v, (i : Int))) (fun _ _ => True) (fun i v => some (upTo p v (l.drop i))) (by omega) ?_ trivial
  intro L i v _ hi ih
  unfold d_spec_LogUpTo_l1 d_spec_LogUpTo_j2 d_spec_LogUpTo_j3
  dsimp only
  simp only [dec_lt, jn_eq]
  rcases Nat.lt_or_ge i l.length with h | h
  · rw [decide_eq_true h, br_t, at?_lt h, bd_some, bd_some, bd_some, bd_some, br_dec, w64_succ h (by omega), drop_at h]
    unfold upTo
    by_cases hp : l[i].Seq ≤ p
    · rw [if_pos hp, if_pos hp, ih _ trivial h]
    · rw [if_neg hp, if_neg hp]
  · rw [decide_eq_false (by omega), br_f, br_f, List.drop_eq_nil_of_le h]; rfl
theorem impl_LogUpTo {x : GStore} (hs : x.Log.Data.length ≤ 1048576) (p : Int) : d_impl_LogUpTo x p = some (upTo p 0 (frames x.Log.Data)) := by
  unfold d_impl_LogUpTo
  rw [impl_Frames hs, bd_some]
  have hl := frames_len x.Log.Data
  generalize frames x.Log.Data = l at *
  refine forLoop (n := l.length) (fun i (v : Int) => (v, (i : Int))) (fun _ _ => True) (fun i v => some (upTo p v (l.drop i))) (by omega) ?_ trivial
  intro L i v _ hi ih
  unfold d_impl_LogUpTo_l1 d_impl_LogUpTo_j2
  dsimp only
  simp only [dec_lt, jn_eq]
  rcases Nat.lt_or_ge i l.length with h | h
  · rw [decide_eq_true h, br_t, at?_lt h, bd_some, bd_some, br_dec, w64_succ h (by omega), drop_at h]
    unfold upTo
    by_cases hp : l[i].Seq ≤ p
    · rw [if_neg (by omega), if_pos hp, ih _ trivial h]
    · rw [if_pos (by omega), if_neg hp]
  · rw [decide_eq_false (by omega), br_f, List.drop_eq_nil_of_le h]; rfl

theorem szArea {x : GArea} (hx : okGArea x) {d : Int} (h0 : 0 ≤ d) (h1 : d ≤ 1048576) : d_laws_szArea x d = some (if d - x.Data.length < 0 then -1 else d - x.Data.length) := by
  unfold d_laws_szArea
  have := hx.1
  unfold okS at this
  rw [w64_id (by omega) (by omega), br_dec]
  split <;> rfl
theorem Law_FnExactLogUpTo {x : GStore} {p : Int} (hx : okGStore x) (_ : okI p) : d_laws_FnExactLogUpTo x p = some true := by
  unfold d_laws_FnExactLogUpTo d_laws_szStore
  rw [szArea hx.1 (by omega) (by omega)]
  have hto : d_laws_toStore x = some x := by
    unfold d_laws_toStore d_laws_toArea
    simp only [bd_some]
  by_cases h : 1048576 - (x.Log.Data.length : Int) < 0
  · rw [if_pos h]; simp
  rw [if_neg h, bd_some, br_dec, if_neg h, szArea hx.2.1 (by omega) (by omega)]
  have fin : (bd (d_laws_toStore x) fun x2 => bd (d_spec_LogUpTo x2 p) fun x3 => bd (d_laws_toStore x) fun x4 => bd (d_impl_LogUpTo x4 p) fun x5 => br (x5 != x3) (some false) (some true)) = some true := by
    rw [hto, bd_some, spec_LogUpTo (by omega), bd_some, bd_some, impl_LogUpTo (by omega), bd_some]
    simp [br_if]
  rw [fin]
  
  generalize he : (1048576 - (x.Log.Data.length : Int) - x.Even.Data.length) = a
  by_cases ha : a < 0
  · simp [ha]
  · rw [if_neg ha, bd_some, br_dec, if_neg ha, szArea hx.2.2.1 (by omega) (by omega)]
    generalize he : (a - (x.Odd.Data.length : Int)) = b
    by_cases hb : b < 0
    · simp [hb]
    · simp [hb]
end Lv.P

/-
  Plain laws: a journal is written the same by both.
-/
set_option linter.unusedVariables false
set_option linter.unusedSimpArgs false
namespace Lv.P
open Go (IntKind BinOp UnOp)

theorem szReqS {l : List GReq} (hl : l.length < 9223372036854775808) : d_laws_szReqS l 1048576 = some (if 1048576 - (l.length : Int) < 0 then (-1 : Int) else 1048576 - (l.length : Int)) := by
  unfold d_laws_szReqS
  rw [w64_id (by omega) (by omega), br_dec]
  split <;> rfl
theorem toReqS {l : List GReq} (hl : l.length ≤ 1048576) : d_laws_toReqS l = some l := by
  unfold d_laws_toReqS
  rw [gd_t (by unfold lim; omega), Int.toNat_natCast]
  refine copyLoop (by omega) ?_ ?_
  · intro L v i hv hi
    unfold d_laws_toReqS_l1 d_laws_toReq
    dsimp only
    rw [dec_lt, decide_eq_true hi, br_t, at?_lt hi, bd_some, bd_some, at?_lt (by omega), bd_some, bd_some, w64_succ hi (by omega), Int.toNat_natCast]
  · intro L v
    unfold d_laws_toReqS_l1 d_laws_toReqS_j2
    dsimp only
    rw [dec_lt, decide_eq_false (by omega), br_f, jn_eq]
theorem eqReqS {l : List GReq} (hl : l.length < 9223372036854775808) : d_laws_eqReqS l l = some true := by
  unfold d_laws_eqReqS
  rw [br_if, if_neg (by simp)]
  refine allLoop (n := l.length) (by omega) ?_ ?_
  · intro L i hi
    unfold d_laws_eqReqS_l1
    rw [dec_lt, decide_eq_true hi, br_t, at?_lt hi, bd_some, bd_some, eqReq_refl, bd_some, br_not, br_t, w64_succ hi (by omega)]
  · intro L
    unfold d_laws_eqReqS_l1 d_laws_eqReqS_j2
    rw [dec_lt, decide_eq_false (by omega), br_f, jn_eq]

/-! the journal's text -/
theorem frB_nil (q : Int) : frB q [] = [] := by unfold frB; rw [if_neg (fun h => by have := h.2.1; simp at this)]
theorem spec_NoteOf (n : Int) (q : GReq) : d_spec_NoteOf n q = some (frB n (reqB q)) := by
  unfold d_spec_NoteOf
  rw [spec_ReqBytes, bd_some, beq_nil, br_dec]
  split
  · rename_i h; rw [h, frB_nil]
  · rw [spec_FrameOf, bd_some]
theorem impl_NoteOf (n : Int) (q : GReq) : d_impl_NoteOf n q = some (frB n (reqB q)) := by
  unfold d_impl_NoteOf
  rw [impl_ReqBytes, bd_some, impl_FrameOf, bd_some]
theorem frB_le (q : Int) (b : List UInt8) : (frB q b).length ≤ 74 := by
  by_cases h : frOk q b
  · exact (frB_len h).2
  · unfold frB; rw [if_neg h]; simp
/-- the text of requests from a number on -/
def logP (p : Int) : List GReq → Option (List UInt8)
  | [] => some []
  | q :: l => if frB p (reqB q) = [] then none else match logP (p + 1) l with | some r => some (frB p (reqB q) ++ r) | none => none
def logR (p : Int) (l : List GReq) (acc : List UInt8) : List UInt8 := match logP p l with | some r => acc ++ r | none => []
theorem logR_none {p : Int} {q : GReq} {l : List GReq} {acc : List UInt8} (h : frB p (reqB q) = []) : logR p (q :: l) acc = [] := by
  unfold logR logP; rw [if_pos h]
theorem logR_some {p : Int} {q : GReq} {l : List GReq} {acc : List UInt8} (h : frB p (reqB q) ≠ []) : logR p (q :: l) acc = logR (p + 1) l (acc ++ frB p (reqB q)) := by
  unfold logR
  rw [logP, if_neg h]
  cases logP (p + 1) l <;> simp
theorem frB_range {p : Int} {b : List UInt8} (h : frB p b ≠ []) : 1 ≤ p ∧ p ≤ 1000000 := (frB_ne h).1
theorem spec_LogOf {l : List GReq} (hl : l.length ≤ 1048576) {p : Int} (hp : okI p) : d_spec_LogOf l p = some (logR p l []) := by
  unfold d_spec_LogOf
  unfold okI at hp
  refine (forLoop (n := l.length) (fun i (v : Int × List UInt8) => (v.1, v.2, (i : Int))) (fun i v => v.1 = p + i ∧ v.2.length ≤ 74 * i ∧ (i = 0 ∨ 1 ≤ p ∧ p ≤ 1000000)) (fun i v => some (logR (p + i) (l.drop i) v.2)) (by omega) ?_ (v := (p, [])) ⟨by simp, by simp, .inl rfl⟩).trans (by simp)
  rintro L i ⟨c, acc⟩ ⟨hc, ha, hr⟩ hi ih
  dsimp only at hc ha ih ⊢
  subst hc
  unfold d_spec_LogOf_l1 d_spec_LogOf_j2
  dsimp only
  rw [dec_lt]
  rcases Nat.lt_or_ge i l.length with h | h
  · rw [decide_eq_true h, br_t, br_dec, at?_lt h, bd_some, spec_NoteOf, bd_some, beq_nil, br_dec, drop_at h]
    by_cases hn : frB (p + i) (reqB l[i]) = []
    · rw [if_pos hn, logR_none hn]; split <;> rfl
    · have hg := frB_range hn
      have hl2 := frB_le (p + i) (reqB l[i])
      rw [if_neg hn, if_neg (by omega), gd_t (by unfold lim; omega), logR_some hn, w64_succ h (by omega), w64_id (by omega) (by omega)]
      have := ih (p + i + 1, acc ++ frB (p + i) (reqB l[i])) ⟨by dsimp only; omega, by rw [List.length_append]; omega, .inr (by omega)⟩ h
      rw [this]
      have e : p + ((i + 1 : Nat) : Int) = p + i + 1 := by omega
      rw [e]
  · rw [decide_eq_false (by omega), br_f, jn_eq, List.drop_eq_nil_of_le h]
    simp [logR, logP]
theorem impl_LogOf {l : List GReq} (hl : l.length ≤ 1048576) {p : Int} (hp : okI p) : d_impl_LogOf l p = some (logR p l []) := by
  unfold d_impl_LogOf
  unfold okI at hp
  refine (forLoop (n := l.length) (fun i (v : List UInt8) => (v, (i : Int))) (fun i v => v.length ≤ 74 * i ∧ (i = 0 ∨ 1 ≤ p ∧ p ≤ 1000000)) (fun i v => some (logR (p + i) (l.drop i) v)) (by omega) ?_ (v := []) ⟨by simp, .inl rfl⟩).trans (by simp)
  rintro L i acc ⟨ha, hr⟩ hi ih
  unfold d_impl_LogOf_l1 d_impl_LogOf_j2
  dsimp only at ih ⊢
  rw [dec_lt]
  rcases Nat.lt_or_ge i l.length with h | h
  · rw [decide_eq_true h, br_t, at?_lt h, bd_some, impl_NoteOf, bd_some, beq_nil, br_dec, drop_at h, w64_id (by omega) (by omega)]
    by_cases hn : frB (p + i) (reqB l[i]) = []
    · rw [if_pos hn, logR_none hn]
    · have hg := frB_range hn
      have hl2 := frB_le (p + i) (reqB l[i])
      rw [if_neg hn, gd_t (by unfold slim; omega), logR_some hn, w64_succ h (by omega)]
      rw [ih _ ⟨by rw [List.length_append]; omega, .inr (by omega)⟩ h]
      have e : p + ((i + 1 : Nat) : Int) = p + i + 1 := by omega
      rw [e]
  · rw [decide_eq_false (by omega), br_f, jn_eq, List.drop_eq_nil_of_le h]
    simp [logR, logP]
theorem Law_FnExactLogOf {l : List GReq} {p : Int} (hl : okL okGReq l) (hp : okI p) : d_laws_FnExactLogOf l p = some true := by
  unfold d_laws_FnExactLogOf
  rw [szReqS hl.1, bd_some]
  by_cases h : 1048576 - (l.length : Int) < 0
  · simp [h]
  rw [if_neg h, br_dec, if_neg h]
  have hs : l.length ≤ 1048576 := by omega
  rw [toReqS hs, bd_some, spec_LogOf hs hp, bd_some, bd_some, impl_LogOf hs hp, bd_some, bd_some, eqReqS hl.1]
  simp [br_if]
end Lv.P
