/-
  Plain laws: events, loops, numbers in bytes.
-/
import Derived.Test.YtagjbadlmcfiaaaKA
set_option linter.unusedVariables false
set_option linter.unusedSimpArgs false
set_option linter.unusedVariables false
set_option linter.unusedSimpArgs false
namespace Lv.P
open Go (IntKind BinOp UnOp)
theorem wrap_id {n : Int} (h1 : -9223372036854775808 ≤ n) (h2 : n < 9223372036854775808) : IntKind.i64.wrap n = n := by
  simp only [IntKind.wrap, IntKind.bits, IntKind.signed]
  simp
  omega
theorem w64_id {n : Int} (h1 : -9223372036854775808 ≤ n) (h2 : n < 9223372036854775808) : w64 n = n := wrap_id h1 h2
theorem wrap8_id {n : Int} (h1 : 0 ≤ n) (h2 : n < 256) : IntKind.u8.wrap n = n := by
  simp only [IntKind.wrap, IntKind.bits, IntKind.signed]
  simp
  omega
theorem toB_nat {n : Nat} (h : n < 256) : toB (n : Int) = UInt8.ofNat n := by
  unfold toB; rw [wrap8_id (by omega) (by omega)]; rfl
@[simp] theorem at?_nat {α : Type} (l : List α) (i : Nat) : at? l (i : Int) = l[i]? := by simp [at?]
@[simp] theorem at?_zero {α : Type} (l : List α) : at? l 0 = l[0]? := by simp [at?]
theorem big_pos (k : Nat) (h : k < 2 ^ 64) : k < big := by have := big_ge; omega
section
variable {σ γ : Type}
theorem loopN_by {F : (σ → Option γ) → σ → Option γ} (R : σ → Option γ) (I : σ → Prop) (μ : σ → Nat)
    (step : ∀ (L : σ → Option γ) x, I x → (∀ y, I y → μ y < μ x → L y = R y) → F L x = R x) : ∀ n x, I x → μ x < n → loopN F n x = R x
  | 0, x, _, h => by omega
  | n + 1, x, hI, hn => by
    rw [loopN_s]
    exact step _ x hI fun y hy hm => loopN_by R I μ step n y hy (by omega)
theorem loopN_big {F : (σ → Option γ) → σ → Option γ} (R : σ → Option γ) (I : σ → Prop) (μ : σ → Nat)
    (step : ∀ (L : σ → Option γ) x, I x → (∀ y, I y → μ y < μ x → L y = R y) → F L x = R x) {x : σ} (hI : I x) (hm : μ x < 2 ^ 64) : loopN F big x = R x :=
  loopN_by R I μ step big x hI (big_pos _ hm)
end
section
variable {α γ : Type}
@[simp] theorem br_t (x y : Option γ) : br true x y = x := rfl
@[simp] theorem br_f (x y : Option γ) : br false x y = y := rfl
@[simp] theorem br_dec (p : Prop) [Decidable p] (x y : Option γ) : br (decide p) x y = if p then x else y := by unfold br; by_cases h : p <;> simp [h]
@[simp] theorem br_not (b : Bool) (x y : Option γ) : br (!b) x y = br b y x := by cases b <;> rfl
@[simp] theorem bd_some (a : α) (f : α → Option γ) : bd (some a) f = f a := by rw [bd_def]; rfl
@[simp] theorem bd_none (f : α → Option γ) : bd none f = none := by rw [bd_def]; rfl
@[simp] theorem jn_eq (F : α → Option γ) (x : α) : jn F x = F x := jn_def F x
theorem gd_t {p : Prop} [Decidable p] (h : p) (x : Option γ) : gd p x = x := by rw [gd_def, if_pos h]
theorem br_if (b : Bool) (x y : Option γ) : br b x y = if b = true then x else y := rfl
end
@[simp] theorem l1In_eq (a b c : Int) : d_spec_l1In a b c = some (decide (b ≤ a ∧ a ≤ c)) := by
  unfold d_spec_l1In d_spec_l1In_j1
  simp only [br_dec, jn_eq]
  by_cases h : a ≥ b <;> simp [h, show b ≤ a ↔ a ≥ b from Iff.rfl]
@[simp] theorem within_eq (a b c : Int) : d_impl_within a b c = some (decide (b ≤ a ∧ a ≤ c)) := by
  unfold d_impl_within d_impl_within_j1
  simp only [br_dec, jn_eq]
  by_cases h : a ≥ b <;> simp [h, show b ≤ a ↔ a ≥ b from Iff.rfl]
def putN (n : Nat) : List UInt8 := if n < 128 then [UInt8.ofNat n] else UInt8.ofNat (n % 128 + 128) :: putN (n / 128)
decreasing_by omega
def pN (n : Int) : List UInt8 := if 0 ≤ n ∧ n ≤ 2147483647 then putN n.toNat else []
theorem putN_lt {n : Nat} (h : n < 128) : putN n = [UInt8.ofNat n] := by rw [putN, if_pos h]
theorem putN_ge {n : Nat} (h : 128 ≤ n) : putN n = UInt8.ofNat (n % 128 + 128) :: putN (n / 128) := by rw [putN, if_neg (by omega)]
theorem putN_len_pos (n : Nat) : 0 < (putN n).length := by rw [putN]; split <;> simp
theorem putN_len_le : ∀ (k n : Nat), n < 128 ^ (k + 1) → (putN n).length ≤ k + 1
  | 0, n, h => by rw [putN_lt (by simpa using h)]; simp
  | k + 1, n, h => by
    rcases Nat.lt_or_ge n 128 with h1 | h1
    · rw [putN_lt h1]; simp
    · rw [putN_ge h1]
      have := putN_len_le k (n / 128) (by rw [Nat.div_lt_iff_lt_mul (by omega)]; rw [Nat.pow_succ] at h; exact h)
      simp only [List.length_cons]; omega
theorem putN_len5 {n : Nat} (h : n ≤ 2147483647) : (putN n).length ≤ 5 := putN_len_le 4 n (by omega)
theorem pN_len (n : Int) : (pN n).length ≤ 5 := by unfold pN; split
                                                   · exact putN_len5 (by omega)
                                                   · simp
theorem putLoop {F : (Int × List UInt8 → Option (List UInt8)) → Int × List UInt8 → Option (List UInt8)}
    (hF : ∀ L n acc, F L (n, acc) = if n < 128 then gd (acc.length + 1 ≤ lim) (some (acc ++ [toB n])) else gd (acc.length + 1 ≤ lim) (L (w64 (Int.tdiv n 128), acc ++ [toB (w64 (Int.tmod n 128 + 128))])))
    {n : Nat} (hn : n ≤ 2147483647) : loopN F big ((n : Int), []) = some (putN n) := by
  have := loopN_big (F := F) (x := ((n : Int), [])) (fun x => some (x.2 ++ putN x.1.toNat)) (fun x => 0 ≤ x.1 ∧ x.1 ≤ 2147483647 ∧ x.2.length + (putN x.1.toNat).length ≤ 5) (fun x => x.1.toNat) ?_ ?_ ?_
  · simpa using this
  · rintro L ⟨m, acc⟩ ⟨h0, h1, h2⟩ hL
    dsimp only at h0 h1 h2 hL ⊢
    obtain ⟨m, rfl⟩ := Int.eq_ofNat_of_zero_le h0
    rw [hF]
    simp only [Int.toNat_natCast] at h2 hL ⊢
    have hlim : acc.length + 1 ≤ lim := by have := putN_len_pos m; unfold lim; omega
    by_cases h : m < 128
    · rw [if_pos (by omega), gd_t hlim, putN_lt h, toB_nat (by omega)]
    · have e1 : Int.tdiv (m : Int) 128 = ((m / 128 : Nat) : Int) := by
        rw [Int.tdiv_eq_ediv_of_nonneg (by omega)]; rfl
      have e2 : Int.tmod (m : Int) 128 + 128 = ((m % 128 + 128 : Nat) : Int) := by
        rw [Int.tmod_eq_emod_of_nonneg (by omega)]; omega
      have hp := putN_ge (n := m) (by omega)
      rw [if_neg (by omega), gd_t hlim, e1, e2, w64_id (by omega) (by omega), w64_id (by omega) (by omega), toB_nat (by omega)]
      rw [hL _ ⟨by dsimp only; omega, by dsimp only; omega, ?_⟩ (by dsimp only; omega)]
      · simp only [Int.toNat_natCast, hp]; simp
      · rw [hp] at h2; simp only [List.length_append, List.length_cons, List.length_nil, Int.toNat_natCast] at h2 ⊢; omega
  · refine ⟨by dsimp only; omega, by dsimp only; omega, ?_⟩
    have := putN_len5 hn
    simpa using this
  · dsimp only; omega
@[simp] theorem spec_PutNum (n : Int) : d_spec_PutNum n = some (pN n) := by
  unfold d_spec_PutNum pN
  simp only [l1In_eq, bd_some, br_not, br_dec]
  split
  · rename_i h
    obtain ⟨m, rfl⟩ := Int.eq_ofNat_of_zero_le h.1
    refine putLoop (fun L n acc => ?_) (by omega)
    unfold d_spec_PutNum_l1 d_spec_PutNum_j2
    simp only [br_dec, jn_eq, List.length_cons, List.length_nil, Nat.zero_add]
    by_cases h : n > 127
    · rw [if_pos h, if_neg (by omega)]
    · rw [if_neg h, if_pos (by omega)]
  · rfl
@[simp] theorem impl_PutNum (n : Int) : d_impl_PutNum n = some (pN n) := by
  unfold d_impl_PutNum pN
  simp only [within_eq, bd_some, br_not, br_dec]
  split
  · rename_i h
    obtain ⟨m, rfl⟩ := Int.eq_ofNat_of_zero_le h.1
    refine putLoop (fun L n acc => ?_) (by omega)
    unfold d_impl_PutNum_l1 d_impl_PutNum_j2
    simp only [br_dec, jn_eq, List.length_cons, List.length_nil, Nat.zero_add]
    by_cases h : n ≥ 128
    · rw [if_pos h, if_neg (by omega)]
    · rw [if_neg h, if_pos (by omega)]
  · rfl
def rdN : Nat → Nat → Nat → List UInt8 → Option (Nat × Nat)
  | 0, _, _, _ => none
  | _ + 1, _, _, [] => none
  | f + 1, k, a, d :: l =>
    if d.toNat < 128 then (if (0 < k ∧ d.toNat = 0) ∨ 2147483647 < a + (d.toNat % 128) * 2 ^ (7 * k) then none else some (a + (d.toNat % 128) * 2 ^ (7 * k), k + 1))
    else rdN f (k + 1) (a + (d.toNat % 128) * 2 ^ (7 * k)) l
def gRes (at_ : Nat) : Option (Nat × Nat) → Int × Int × Bool
  | some (n, m) => ((n : Int), ((at_ + m : Nat) : Int), true)
  | none => (0, 0, false)
def gN (b : List UInt8) (i : Int) : Int × Int × Bool := if 0 ≤ i ∧ i < b.length then gRes i.toNat (rdN 5 0 0 (b.drop i.toNat)) else (0, 0, false)
theorem shlI_nat {c s : Nat} (hc : c < 128) (hs : s ≤ 28) : shlI (c : Int) (s : Int) = ((c * 2 ^ s : Nat) : Int) := by
  have h1 : c * 2 ^ s < 2 ^ 35 := by
    have : 2 ^ s ≤ 2 ^ 28 := Nat.pow_le_pow_right (by omega) hs
    calc c * 2 ^ s ≤ 127 * 2 ^ 28 := Nat.mul_le_mul (by omega) this
      _ < 2 ^ 35 := by decide
  unfold shlI
  have e : min (s : Int).toNat IntKind.i64.bits = s := by simp only [Int.toNat_natCast, IntKind.bits]; omega
  rw [e]
  have e2 : (c : Int) * 2 ^ s = ((c * 2 ^ s : Nat) : Int) := by push_cast; rfl
  rw [e2, wrap_id (by omega) (by omega)]
theorem ofInt_nat {n : Nat} (h : n < 2 ^ 63) : (BitVec.ofInt IntKind.i64.bits (n : Int)).toNat = n := by
  simp only [IntKind.bits, BitVec.toNat_ofInt]
  omega
theorem putN_len : ∀ (k n : Nat), n < 128 ^ (k + 1) → ((putN n).length = k + 1 ↔ k = 0 ∨ 128 ^ k ≤ n)
  | 0, n, h => by rw [putN_lt (by simpa using h)]; simp
  | k + 1, n, h => by
    rcases Nat.lt_or_ge n 128 with h1 | h1
    · rw [putN_lt h1]
      have : 128 ^ 1 ≤ 128 ^ (k + 1) := Nat.pow_le_pow_right (by omega) (by omega)
      simp only [List.length_cons, List.length_nil]
      omega
    · rw [putN_ge h1]
      have hd : n / 128 < 128 ^ (k + 1) := by rw [Nat.div_lt_iff_lt_mul (by omega)]; rw [Nat.pow_succ] at h; exact h
      have := putN_len k (n / 128) hd
      have e : 128 ^ k ≤ n / 128 ↔ 128 ^ (k + 1) ≤ n := by rw [Nat.le_div_iff_mul_le (by omega), Nat.pow_succ]
      simp only [List.length_cons, Nat.add_right_cancel_iff]
      rw [this, e]
      cases k with
      | zero => simp; omega
      | succ k => simp
theorem pow7 (k : Nat) : (2 : Nat) ^ (7 * k) = 128 ^ k := by rw [Nat.pow_mul]
theorem digit {a k c : Nat} (hk : k < 5) (ha : a < 128 ^ k) (hc : c < 128) : a + c * 2 ^ (7 * k) < 128 ^ (k + 1) ∧ a + c * 2 ^ (7 * k) < 2 ^ 35 := by
  rw [pow7]
  have h1 : a + c * 128 ^ k < 128 ^ (k + 1) := by
    have : c * 128 ^ k ≤ 127 * 128 ^ k := Nat.mul_le_mul_right _ (by omega)
    rw [Nat.pow_succ]; omega
  refine ⟨h1, Nat.lt_of_lt_of_le h1 ?_⟩
  calc 128 ^ (k + 1) ≤ 128 ^ 5 := Nat.pow_le_pow_right (by omega) (by omega)
    _ = 2 ^ 35 := by decide
theorem impl_GetNum_loop {b : List UInt8} (hb : b.length < 2 ^ 62) {i : Nat} (hi : i < 2 ^ 62) : ∀ (f k a n : Nat), f + k = 5 → f < n → a < 128 ^ k →
    loopN (d_impl_GetNum_l1 b i) n ((a : Int), (k : Int)) = some (gRes i (rdN f k a (b.drop (i + k))))
  | 0, k, a, n, hf, hn, ha => by
    obtain ⟨n, rfl⟩ : ∃ m, n = m + 1 := ⟨n - 1, by omega⟩
    rw [loopN_s]
    unfold d_impl_GetNum_l1 d_impl_GetNum_j2 d_impl_GetNum_j3
    simp only [br_dec, jn_eq]
    rw [if_neg (by omega)]
    rfl
  | f + 1, k, a, n, hf, hn, ha => by
    obtain ⟨n, rfl⟩ : ∃ m, n = m + 1 := ⟨n - 1, by omega⟩
    rw [loopN_s]
    generalize hL : loopN (d_impl_GetNum_l1 b i) n = L
    unfold d_impl_GetNum_l1
    simp only [br_dec, jn_eq]
    rw [if_pos (by omega)]
    unfold d_impl_GetNum_j2 d_impl_GetNum_j3
    simp only [br_dec, jn_eq, br_if, bne_iff_ne, impl_PutNum, bd_some, decide_eq_true_eq]
    rw [w64_id (n := (i : Int) + k) (by omega) (by omega), show (i : Int) + k = ((i + k : Nat) : Int) from by push_cast; rfl]
    cases hl : b.drop (i + k) with
    | nil =>
      have : b.length ≤ i + k := List.drop_eq_nil_iff.1 hl
      rw [if_neg (by omega)]
      rfl
    | cons d l =>
      have hlt : i + k < b.length := by
        rcases Nat.lt_or_ge (i + k) b.length with h | h
        · exact h
        · rw [List.drop_eq_nil_of_le h] at hl; cases hl
      have hd : b[i + k]? = some d := by
        have := List.getElem?_drop (xs := b) (i := i + k) (j := 0)
        rw [hl] at this; simpa using this.symm
      have hl' : b.drop (i + (k + 1)) = l := by
        rw [← Nat.add_assoc, ← List.drop_drop, hl]; rfl
      rw [if_pos (by omega), at?_nat, hd, bd_some]
      have hd8 : d.toNat < 256 := d.toNat_lt
      have e7 : w64 (7 * (k : Int)) = ((7 * k : Nat) : Int) := by rw [w64_id (by omega) (by omega)]; push_cast; rfl
      have ed : w64 ((d.toNat : Nat) : Int) = (d.toNat : Int) := w64_id (by omega) (by omega)
      have em : Int.tmod (d.toNat : Int) 128 = ((d.toNat % 128 : Nat) : Int) := by rw [Int.tmod_eq_emod_of_nonneg (by omega)]; rfl
      obtain ⟨hs1, hs2⟩ := digit (a := a) (k := k) (c := d.toNat % 128) (by omega) ha (by omega)
      have hor : w64 ((a : Int) + (shlI ((d.toNat % 128 : Nat) : Int) ((7 * k : Nat) : Int))) = ((a + (d.toNat % 128) * 2 ^ (7 * k) : Nat) : Int) := by
        rw [shlI_nat (by omega) (by omega), w64_id (by omega) (by omega)]; push_cast; rfl
      rw [e7, gd_t (by omega), ed, em, hor]
      simp only [rdN, impl_PutNum, bd_some]
      have e1 : w64 ((k : Int) + 1) = ((k + 1 : Nat) : Int) := w64_id (by omega) (by omega)
      rw [e1]
      by_cases h1 : d.toNat < 128
      · rw [if_pos (by omega), if_pos h1]
        have hpow : 128 ^ k ≤ a + (d.toNat % 128) * 2 ^ (7 * k) ↔ d.toNat ≠ 0 := by
          rw [pow7]
          constructor
          · rintro h h0; rw [h0] at h; simp at h; omega
          · intro h
            have : 1 * 128 ^ k ≤ d.toNat % 128 * 128 ^ k := Nat.mul_le_mul_right _ (by omega)
            omega
        have hlen : ((pN ((a + (d.toNat % 128) * 2 ^ (7 * k) : Nat) : Int)).length : Int) ≠ ((k + 1 : Nat) : Int) ↔ (0 < k ∧ d.toNat = 0) ∨ 2147483647 < a + (d.toNat % 128) * 2 ^ (7 * k) := by
          unfold pN
          split
          · rename_i hle
            rw [Int.toNat_natCast]
            have := putN_len k _ hs1
            rw [hpow] at this
            rw [Ne, Int.ofNat_inj, this]
            omega
          · simp only [List.length_nil]; omega
        by_cases hx : (0 < k ∧ d.toNat = 0) ∨ 2147483647 < a + (d.toNat % 128) * 2 ^ (7 * k)
        · rw [if_pos (hlen.2 hx), if_pos hx]; rfl
        · rw [if_neg (fun h => hx (hlen.1 h)), if_neg hx]
          simp only [gRes, Option.some.injEq, Prod.mk.injEq, and_true, true_and]
          rw [w64_id (n := ((i + k : Nat) : Int) + 1) (by omega) (by omega)]; omega
      · rw [if_neg (by omega), if_neg h1, ← hL, impl_GetNum_loop hb hi f (k + 1) _ n (by omega) (by omega) hs1, hl']
theorem impl_GetNum {b : List UInt8} (hb : b.length < 2 ^ 62) (i : Int) : d_impl_GetNum b i = some (gN b i) := by
  unfold d_impl_GetNum gN
  simp only [within_eq, bd_some, br_not, br_dec]
  rw [w64_id (by omega) (by omega)]
  by_cases h0 : 0 ≤ i ∧ i < b.length
  · obtain ⟨j, rfl⟩ := Int.eq_ofNat_of_zero_le h0.1
    rw [if_pos (by omega), if_pos h0]
    have := impl_GetNum_loop hb (i := j) (by omega) 5 0 0 big (by omega) (big_pos _ (by omega)) (by omega)
    refine Eq.trans this ?_
    simp only [Int.toNat_natCast, Nat.add_zero]
  · rw [if_neg (by omega), if_neg h0]
end Lv.P
/-
  Plain laws: rows of numbers in bytes, requests.
-/
set_option linter.unusedVariables false
set_option linter.unusedSimpArgs false
namespace Lv.P
open Go (IntKind BinOp UnOp)
theorem u8_lt {n : Nat} (h : n < 256) : (UInt8.ofNat n).toNat = n := by simp; omega
theorem rdN_put : ∀ (f k a n : Nat) (l : List UInt8), (putN n).length ≤ f → (k = 0 ∨ n ≠ 0) → a + n * 2 ^ (7 * k) ≤ 2147483647 → rdN f k a (putN n ++ l) = some (a + n * 2 ^ (7 * k), k + (putN n).length)
  | 0, k, a, n, l, h, _, _ => by have := putN_len_pos n; omega
  | f + 1, k, a, n, l, h, hk, hm => by
    rcases Nat.lt_or_ge n 128 with h1 | h1
    · rw [putN_lt h1]
      simp only [List.cons_append, List.nil_append, rdN, List.length_cons, List.length_nil]
      rw [u8_lt (by omega), if_pos h1, Nat.mod_eq_of_lt h1, if_neg (by omega)]
    · rw [putN_ge h1] at h ⊢
      simp only [List.cons_append, rdN, List.length_cons] at h ⊢
      rw [u8_lt (by omega), if_neg (by omega)]
      have e : (n % 128 + 128) % 128 = n % 128 := by omega
      have e2 : a + n % 128 * 2 ^ (7 * k) + n / 128 * 2 ^ (7 * (k + 1)) = a + n * 2 ^ (7 * k) := by
        have : 2 ^ (7 * (k + 1)) = 128 * 2 ^ (7 * k) := by rw [Nat.mul_add, Nat.pow_add]; omega
        rw [this]
        have : n = n % 128 + 128 * (n / 128) := (Nat.mod_add_div n 128).symm
        conv => rhs; rw [this, Nat.add_mul]
        rw [show n / 128 * (128 * 2 ^ (7 * k)) = 128 * (n / 128) * 2 ^ (7 * k) from by rw [← Nat.mul_assoc, Nat.mul_comm (n / 128) 128]]
        omega
      rw [e, rdN_put f (k + 1) _ (n / 128) l (by omega) (by omega) (by rw [e2]; exact hm), e2]
      congr 2; omega
theorem rdN_get : ∀ (f k a : Nat) (l : List UInt8) (N m : Nat), rdN f k a l = some (N, m) → ∃ n l', l = putN n ++ l' ∧ N = a + n * 2 ^ (7 * k) ∧ m = k + (putN n).length ∧ (k = 0 ∨ n ≠ 0) ∧ N ≤ 2147483647
  | 0, k, a, l, N, m, h => by cases h
  | f + 1, k, a, [], N, m, h => by cases h
  | f + 1, k, a, d :: l, N, m, h => by
    have hd8 : d.toNat < 256 := d.toNat_lt
    simp only [rdN] at h
    split at h
    · rename_i h1
      split at h
      · cases h
      · rename_i h2
        cases h
        refine ⟨d.toNat, l, ?_, ?_, ?_, by omega, by omega⟩
        · rw [putN_lt h1]; simp
        · rw [Nat.mod_eq_of_lt h1]
        · rw [putN_lt h1]; rfl
    · rename_i h1
      obtain ⟨n, l', h3, h4, h5, h6, h7⟩ := rdN_get f (k + 1) _ l N m h
      have hn : n ≠ 0 := by omega
      have hge : 128 ≤ d.toNat % 128 + 128 * n := by omega
      refine ⟨d.toNat % 128 + 128 * n, l', ?_, ?_, ?_, .inr (by omega), h7⟩
      · rw [putN_ge hge, show (d.toNat % 128 + 128 * n) % 128 + 128 = d.toNat by omega, show (d.toNat % 128 + 128 * n) / 128 = n by omega, h3]; simp
      · rw [h4, Nat.add_mul, show 7 * (k + 1) = 7 * k + 7 from by omega, Nat.pow_add]
        rw [show n * (2 ^ (7 * k) * 2 ^ 7) = 128 * n * 2 ^ (7 * k) from by rw [Nat.mul_comm (2 ^ (7 * k)), ← Nat.mul_assoc, Nat.mul_comm n]]
        omega
      · rw [putN_ge hge, show (d.toNat % 128 + 128 * n) / 128 = n by omega, h5]; simp only [List.length_cons]; omega
def rdL : Nat → List UInt8 → Option (List Int)
  | 0, _ => none
  | f + 1, [] => some []
  | f + 1, l => match rdN 5 0 0 l with
    | some (n, m) => (rdL f (l.drop m)).map ((n : Int) :: ·)
    | none => none
def okN (n : Int) : Prop := 0 ≤ n ∧ n ≤ 2147483647
def pL (l : List Int) : List UInt8 := l.flatMap pN
theorem pN_ok {n : Int} (h : okN n) : pN n = putN n.toNat := by unfold pN; rw [if_pos (show 0 ≤ n ∧ n ≤ 2147483647 from h)]
theorem pN_pos {n : Int} (h : okN n) : 0 < (pN n).length := by rw [pN_ok h]; exact putN_len_pos _
theorem rdN_pN {n : Int} (h : okN n) (l : List UInt8) : rdN 5 0 0 (pN n ++ l) = some (n.toNat, (pN n).length) := by
  rw [pN_ok h, rdN_put 5 0 0 n.toNat l (putN_len5 (by have := h.2; omega)) (.inl rfl) (by have := h.2; simp; omega)]
  simp
theorem rdL_pL : ∀ (l : List Int) (f : Nat), (∀ n ∈ l, okN n) → (pL l).length < f → rdL f (pL l) = some l
  | [], f, _, h => by
    obtain ⟨f, rfl⟩ : ∃ g, f = g + 1 := ⟨f - 1, by omega⟩
    rfl
  | n :: l, f, hn, h => by
    obtain ⟨f, rfl⟩ : ∃ g, f = g + 1 := ⟨f - 1, by omega⟩
    have h0 := hn n (by simp)
    have hp := pN_pos h0
    have e : pL (n :: l) = pN n ++ pL l := by simp [pL]
    rw [e] at h ⊢
    have hne : pN n ++ pL l ≠ [] := by intro h; rw [List.append_eq_nil_iff] at h; rw [h.1] at hp; simp at hp
    rw [rdL.eq_3 _ _ (by simpa using hne), rdN_pN h0]
    simp only [List.drop_left]
    rw [rdL_pL l f (fun m hm => hn m (by simp [hm])) (by rw [List.length_append] at h; omega)]
    simp only [Option.map_some, Int.toNat_of_nonneg h0.1]
theorem rdL_get : ∀ (f : Nat) (s : List UInt8) (l : List Int), rdL f s = some l → s = pL l ∧ ∀ n ∈ l, okN n
  | 0, s, l, h => by cases h
  | f + 1, [], l, h => by cases h; exact ⟨rfl, by simp⟩
  | f + 1, d :: s, l, h => by
    rw [rdL.eq_3 _ _ (by simp)] at h
    split at h
    · rename_i n m hr
      obtain ⟨n', l', h1, h2, h3, _, h5⟩ := rdN_get _ _ _ _ _ _ hr
      simp only [Nat.mul_zero, Nat.pow_zero, Nat.mul_one, Nat.zero_add] at h2 h3
      subst h2 h3
      rw [Option.map_eq_some_iff] at h
      obtain ⟨l1, h6, rfl⟩ := h
      rw [h1, List.drop_left] at h6
      obtain ⟨h7, h8⟩ := rdL_get f l' l1 h6
      refine ⟨?_, ?_⟩
      · rw [h1, h7]
        simp only [pL, List.flatMap_cons]
        rw [pN_ok ⟨by omega, by omega⟩]; simp
      · intro x hx
        rcases List.mem_cons.1 hx with rfl | hx
        · exact ⟨by omega, by omega⟩
        · exact h8 x hx
    · cases h
def rRes : Option (List Int) → List Int × Bool
  | some l => (l, true)
  | none => ([], false)
theorem readLoop {b : List UInt8} (hb : b.length ≤ 1048576) {G : List UInt8 → Int → Option (Int × Int × Bool)} (hG : ∀ i : Int, i < 2 ^ 62 → G b i = some (gN b i))
    {F : (List Int × Int → Option (List Int × Bool)) → List Int × Int → Option (List Int × Bool)}
    (hF : ∀ L acc i, F L (acc, i) = if i < (b.length : Int) then bd (G b i) fun x => br (!x.2.2) (some ([], false)) (gd (acc.length + 1 ≤ lim) (L (acc ++ [x.1], x.2.1))) else some (acc, true)) :
    ∀ (f i n : Nat) (acc : List Int), b.length < f + i → f ≤ n → acc.length ≤ i → i ≤ b.length → loopN F n (acc, (i : Int)) = some (match rdL f (b.drop i) with | some l => (acc ++ l, true) | none => ([], false))
  | 0, i, n, acc, h1, h2, h3, h4 => by omega
  | f + 1, i, n, acc, h1, h2, h3, h4 => by
    obtain ⟨n, rfl⟩ : ∃ m, n = m + 1 := ⟨n - 1, by omega⟩
    rw [loopN_s, hF]
    by_cases hi : i < b.length
    · rw [if_pos (by omega), hG _ (by omega), bd_some]
      unfold gN
      rw [if_pos (by omega), Int.toNat_natCast]
      have hne : b.drop i ≠ [] := by intro h; rw [List.drop_eq_nil_iff] at h; omega
      rw [rdL.eq_3 _ _ (by simpa using hne)]
      cases hr : rdN 5 0 0 (b.drop i) with
      | none => rfl
      | some p =>
        obtain ⟨v, m⟩ := p
        obtain ⟨n', l', k1, k2, k3, _, _⟩ := rdN_get _ _ _ _ _ _ hr
        have hm : 0 < m := by have := putN_len_pos n'; omega
        have hmi : i + m ≤ b.length := by
          have := congrArg List.length k1
          rw [List.length_drop, List.length_append] at this; omega
        simp only [gRes, br_not, br_t]
        rw [gd_t (by unfold lim; omega), readLoop hb hG hF f (i + m) n (acc ++ [(v : Int)]) (by omega) (by omega) (by rw [List.length_append]; simp; omega) hmi, ← List.drop_drop]
        cases hr2 : rdL f ((b.drop i).drop m) with
        | none => rfl
        | some l => simp
    · rw [if_neg (by omega), List.drop_eq_nil_of_le (by omega)]
      simp [rdL]
theorem impl_getNums {b : List UInt8} (hb : b.length ≤ 1048576) : d_impl_getNums b = some (rRes (rdL (b.length + 1) b)) := by
  unfold d_impl_getNums
  have := readLoop hb (G := d_impl_GetNum) (F := d_impl_getNums_l1 b) (fun i hi => impl_GetNum (by omega) i) (fun L acc i => by unfold d_impl_getNums_l1 d_impl_getNums_j2; simp only [br_dec, jn_eq]; rfl) (b.length + 1) 0 big [] (by omega) (by have := big_ge; omega) (by simp) (by omega)
  refine Eq.trans this ?_
  simp only [List.drop_zero, List.nil_append]
  cases rdL (b.length + 1) b <;> rfl
theorem putsLoop {l : List Int} (hl : l.length ≤ 100000) {G : Int → Option (List UInt8)} (hG : ∀ n, G n = some (pN n))
    {F : (List UInt8 × Int → Option (List UInt8)) → List UInt8 × Int → Option (List UInt8)}
    (hF : ∀ L acc i, F L (acc, i) = if i < (l.length : Int) then bd (at? l i) fun x => bd (G x) fun y => gd (acc.length + y.length ≤ lim) (L (acc ++ y, w64 (i + 1))) else some acc) :
    ∀ (f i n : Nat) (acc : List UInt8), l.length < f + i → f ≤ n → acc.length ≤ 5 * i → i ≤ l.length → loopN F n (acc, (i : Int)) = some (acc ++ pL (l.drop i))
  | 0, i, n, acc, h1, h2, h3, h4 => by omega
  | f + 1, i, n, acc, h1, h2, h3, h4 => by
    obtain ⟨n, rfl⟩ : ∃ m, n = m + 1 := ⟨n - 1, by omega⟩
    rw [loopN_s, hF]
    by_cases hi : i < l.length
    · rw [if_pos (by omega), at?_nat, List.getElem?_eq_getElem hi, bd_some, hG, bd_some]
      have := pN_len l[i]
      rw [gd_t (by unfold lim; omega), w64_id (by omega) (by omega)]
      have := putsLoop hl hG hF f (i + 1) n (acc ++ pN l[i]) (by omega) (by omega) (by rw [List.length_append]; omega) hi
      refine Eq.trans this ?_
      rw [List.drop_eq_getElem_cons hi]
      simp only [pL, List.flatMap_cons, List.append_assoc]
    · rw [if_neg (by omega), List.drop_eq_nil_of_le (by omega)]
      simp [pL]
theorem spec_l18Nums {l : List Int} (hl : l.length ≤ 100000) : d_spec_l18Nums l = some (pL l) := by
  unfold d_spec_l18Nums
  have := putsLoop hl (G := d_spec_PutNum) (F := d_spec_l18Nums_l1 l) spec_PutNum (fun L acc i => by unfold d_spec_l18Nums_l1 d_spec_l18Nums_j2; simp only [br_dec, jn_eq]) (l.length + 1) 0 big [] (by omega) (by have := big_ge; omega) (by simp) (by omega)
  simpa using this
theorem impl_putNums {l : List Int} (hl : l.length ≤ 100000) : d_impl_putNums l = some (pL l) := by
  unfold d_impl_putNums
  have := putsLoop hl (G := d_impl_PutNum) (F := d_impl_putNums_l1 l) impl_PutNum (fun L acc i => by unfold d_impl_putNums_l1 d_impl_putNums_j2; simp only [br_dec, jn_eq]) (l.length + 1) 0 big [] (by omega) (by have := big_ge; omega) (by simp) (by omega)
  simpa using this
def fld (n : Int) : Bool := decide (0 ≤ n ∧ n ≤ 9999)
def reqOk (q : GReq) : Bool :=
  if q.Kind = 1 then fld q.Id && fld q.Cabin && decide (-1 ≤ q.From ∧ q.From ≤ 9999) && fld q.Size && fld q.Tier
  else if q.Kind = 2 ∨ q.Kind = 4 ∨ q.Kind = 5 ∨ q.Kind = 7 then fld q.Id && (q.Cabin == 0 && (q.From == 0 && (q.Size == 0 && q.Tier == 0)))
  else if q.Kind = 3 then fld q.Cabin && fld q.Size && (q.Id == 0 && (q.From == 0 && q.Tier == 0))
  else if q.Kind = 6 then q.Id == 0 && (q.Cabin == 0 && (q.From == 0 && (q.Size == 0 && q.Tier == 0)))
  else false
def reqNums (q : GReq) : List Int :=
  if q.Kind = 1 then [q.Kind, q.Id, q.Cabin, q.From + 1, q.Size, q.Tier]
  else if q.Kind = 3 then [q.Kind, q.Cabin, q.Size]
  else if q.Kind = 6 then [q.Kind]
  else [q.Kind, q.Id]
def reqB (q : GReq) : List UInt8 := if reqOk q then pL (reqNums q) else []
@[simp] theorem spec_field (n : Int) : d_spec_l12Field n = some (fld n) := by unfold d_spec_l12Field fld; simp
@[simp] theorem impl_field (n : Int) : d_impl_ReqOk_1 n = some (fld n) := by unfold d_impl_ReqOk_1 fld; simp
theorem spec_ReqOk (q : GReq) : d_spec_ReqOk q = some (reqOk q) := by
  obtain ⟨k, a, b, c, d, e⟩ := q
  unfold d_spec_ReqOk d_spec_ReqOk_j1 d_spec_ReqOk_j2 d_spec_ReqOk_j1 reqOk
  simp only [br_if, jn_eq, spec_field, bd_some, l1In_eq, beq_iff_eq]
  by_cases h1 : k = 1
  · simp only [h1, if_true]
    cases fld a <;> cases fld b <;> cases fld d <;> cases fld e <;> by_cases hc : (-1 ≤ c ∧ c ≤ 9999) <;> simp [hc]
  by_cases h2 : k = 2
  · simp only [h2, if_true]; cases fld a <;> simp
  by_cases h3 : k = 4
  · simp only [h3, if_true]; cases fld a <;> simp
  by_cases h4 : k = 5
  · simp only [h4, if_true]; cases fld a <;> simp
  by_cases h5 : k = 7
  · simp only [h5, if_true]; cases fld a <;> simp
  by_cases h6 : k = 3
  · simp only [h6, if_true]; cases fld b <;> cases fld d <;> simp
  by_cases h7 : k = 6
  · simp only [h7, if_true]; simp
  simp [h1, h2, h3, h4, h5, h6, h7]
theorem impl_ReqOk (q : GReq) : d_impl_ReqOk q = some (reqOk q) := by
  obtain ⟨k, a, b, c, d, e⟩ := q
  unfold d_impl_ReqOk d_impl_ReqOk_j1 d_impl_ReqOk_j2 d_impl_ReqOk_j1 reqOk
  simp only [br_if, jn_eq, impl_field, bd_some, within_eq, beq_iff_eq]
  by_cases h1 : k = 1
  · simp only [h1, if_true]
    cases fld a <;> cases fld b <;> cases fld d <;> cases fld e <;> by_cases hc : (-1 ≤ c ∧ c ≤ 9999) <;> simp [hc]
  by_cases h2 : k = 2
  · simp only [h2, if_true]; cases fld a <;> simp
  by_cases h3 : k = 4
  · simp only [h3, if_true]; cases fld a <;> simp
  by_cases h4 : k = 5
  · simp only [h4, if_true]; cases fld a <;> simp
  by_cases h5 : k = 7
  · simp only [h5, if_true]; cases fld a <;> simp
  by_cases h6 : k = 3
  · simp only [h6, if_true]; cases fld b <;> cases fld d <;> simp
  by_cases h7 : k = 6
  · simp only [h7, if_true]; simp
  simp [h1, h2, h3, h4, h5, h6, h7]
theorem reqOk_cases {q : GReq} (h : reqOk q = true) : (q.Kind = 1 ∧ (0 ≤ q.Id ∧ q.Id ≤ 9999) ∧ (0 ≤ q.Cabin ∧ q.Cabin ≤ 9999) ∧ (-1 ≤ q.From ∧ q.From ≤ 9999) ∧ (0 ≤ q.Size ∧ q.Size ≤ 9999) ∧ (0 ≤ q.Tier ∧ q.Tier ≤ 9999)) ∨
    ((q.Kind = 2 ∨ q.Kind = 4 ∨ q.Kind = 5 ∨ q.Kind = 7) ∧ (0 ≤ q.Id ∧ q.Id ≤ 9999) ∧ q.Cabin = 0 ∧ q.From = 0 ∧ q.Size = 0 ∧ q.Tier = 0) ∨
    (q.Kind = 3 ∧ (0 ≤ q.Cabin ∧ q.Cabin ≤ 9999) ∧ (0 ≤ q.Size ∧ q.Size ≤ 9999) ∧ q.Id = 0 ∧ q.From = 0 ∧ q.Tier = 0) ∨
    (q.Kind = 6 ∧ q.Id = 0 ∧ q.Cabin = 0 ∧ q.From = 0 ∧ q.Size = 0 ∧ q.Tier = 0) := by
  unfold reqOk fld at h
  split at h
  · rename_i h1
    simp only [Bool.and_eq_true, decide_eq_true_eq] at h
    exact .inl ⟨h1, h.1.1.1.1, h.1.1.1.2, h.1.1.2, h.1.2, h.2⟩
  split at h
  · rename_i h1
    simp only [Bool.and_eq_true, decide_eq_true_eq, beq_iff_eq] at h
    exact .inr (.inl ⟨h1, h.1, h.2.1, h.2.2.1, h.2.2.2.1, h.2.2.2.2⟩)
  split at h
  · rename_i h1
    simp only [Bool.and_eq_true, decide_eq_true_eq, beq_iff_eq] at h
    exact .inr (.inr (.inl ⟨h1, h.1.1, h.1.2, h.2.1, h.2.2.1, h.2.2.2⟩))
  split at h
  · rename_i h1
    simp only [Bool.and_eq_true, beq_iff_eq] at h
    exact .inr (.inr (.inr ⟨h1, h.1, h.2.1, h.2.2.1, h.2.2.2.1, h.2.2.2.2⟩))
  · cases h
theorem reqNums_ok {q : GReq} (h : reqOk q = true) : ∀ n ∈ reqNums q, okN n := by
  obtain ⟨k, a, b, c, d, e⟩ := q
  rcases reqOk_cases h with h | h | h | h <;> dsimp only at h <;> unfold reqNums <;> dsimp only <;> intro n hn
  · rw [if_pos h.1] at hn
    simp only [List.mem_cons, List.not_mem_nil, or_false] at hn
    unfold okN; omega
  · rw [if_neg (by omega), if_neg (by omega), if_neg (by omega)] at hn
    simp only [List.mem_cons, List.not_mem_nil, or_false] at hn
    unfold okN; omega
  · rw [if_neg (by omega), if_pos h.1] at hn
    simp only [List.mem_cons, List.not_mem_nil, or_false] at hn
    unfold okN; omega
  · rw [if_neg (by omega), if_neg (by omega), if_pos h.1] at hn
    simp only [List.mem_cons, List.not_mem_nil, or_false] at hn
    unfold okN; omega
theorem reqNums_len (q : GReq) : 0 < (reqNums q).length ∧ (reqNums q).length ≤ 6 := by
  unfold reqNums; split
  · simp
  split
  · simp
  split <;> simp
theorem spec_ReqBytes {q : GReq} : d_spec_ReqBytes q = some (reqB q) := by
  unfold d_spec_ReqBytes reqB
  rw [spec_ReqOk, bd_some, br_not, br_if]
  by_cases h : reqOk q = true
  · rw [if_pos h, if_pos h]
    unfold reqNums
    rcases reqOk_cases h with h | h | h | h <;> simp only [br_if, beq_iff_eq]
    · rw [if_pos h.1, if_pos h.1, w64_id (by omega) (by omega), spec_l18Nums (by simp), bd_some]
    · rw [if_neg (by omega), if_neg (by omega), if_neg (by omega), if_neg (by omega), if_neg (by omega), if_neg (by omega), spec_l18Nums (by simp), bd_some]
    · rw [if_neg (by omega), if_pos h.1, if_neg (by omega), if_pos h.1, spec_l18Nums (by simp), bd_some]
    · rw [if_neg (by omega), if_neg (by omega), if_pos h.1, if_neg (by omega), if_neg (by omega), if_pos h.1, spec_l18Nums (by simp), bd_some]
  · rw [if_neg h, if_neg h]
theorem impl_ReqBytes {q : GReq} : d_impl_ReqBytes q = some (reqB q) := by
  unfold d_impl_ReqBytes d_impl_ReqBytes_j1 reqB
  rw [impl_ReqOk, bd_some, br_not, br_if]
  by_cases h : reqOk q = true
  · rw [if_pos h, if_pos h]
    unfold reqNums
    rcases reqOk_cases h with h | h | h | h <;> simp only [br_if, beq_iff_eq, jn_eq]
    · rw [if_pos h.1, if_pos h.1, gd_t (by simp [lim]), w64_id (by omega) (by omega), impl_putNums (by simp), bd_some]; rfl
    · rw [if_neg (by omega), if_neg (by omega), if_neg (by omega), if_neg (by omega), if_neg (by omega), if_neg (by omega), gd_t (by simp [lim]), impl_putNums (by simp), bd_some]; rfl
    · rw [if_neg (by omega), if_pos h.1, if_neg (by omega), if_pos h.1, gd_t (by simp [lim]), impl_putNums (by simp), bd_some]; rfl
    · rw [if_neg (by omega), if_neg (by omega), if_pos h.1, if_neg (by omega), if_neg (by omega), if_pos h.1, impl_putNums (by simp), bd_some]
  · rw [if_neg h, if_neg h]
theorem pL_cons_pos {n : Int} {l : List Int} (h : okN n) : pL (n :: l) ≠ [] := by
  intro h'
  have := pN_pos h
  simp only [pL, List.flatMap_cons, List.append_eq_nil_iff] at h'
  rw [h'.1] at this; simp at this
theorem reqB_ne {q : GReq} (h : reqOk q = true) : reqB q ≠ [] := by
  unfold reqB
  rw [if_pos h]
  have h1 := reqNums_ok h
  have h2 := (reqNums_len q).1
  cases hq : reqNums q with
  | nil => rw [hq] at h2; simp at h2
  | cons n l => exact pL_cons_pos (h1 n (by rw [hq]; simp))
theorem pL_len : ∀ l : List Int, (pL l).length ≤ 5 * l.length
  | [] => by simp [pL]
  | n :: l => by
    have h1 := pN_len n
    have h2 := pL_len l
    simp only [pL, List.flatMap_cons, List.length_append, List.length_cons] at h2 ⊢
    omega
theorem reqB_len (q : GReq) : (reqB q).length ≤ 30 := by
  unfold reqB
  split
  · have := pL_len (reqNums q); have := (reqNums_len q).2; omega
  · simp
theorem reqB_read {q : GReq} (h : reqOk q = true) (f : Nat) (hf : (reqB q).length < f) : rdL f (reqB q) = some (reqNums q) := by
  unfold reqB at hf ⊢
  rw [if_pos h] at hf ⊢
  exact rdL_pL _ f (reqNums_ok h) hf
noncomputable def reqRd (s : List UInt8) : GReq × Bool := open Classical in if h : ∃ q, reqOk q = true ∧ reqB q = s then (h.choose, true) else (⟨0, 0, 0, 0, 0, 0⟩, false)
theorem reqNums_inj {q q' : GReq} (h : reqOk q = true) (h' : reqOk q' = true) (he : reqNums q = reqNums q') : q = q' := by
  obtain ⟨k, a, b, c, d, e⟩ := q
  obtain ⟨k', a', b', c', d', e'⟩ := q'
  have hk : k = k' := by
    have h1 : ∀ q : GReq, (reqNums q).head? = some q.Kind := by intro q; unfold reqNums; split; · rfl
                                                                split; · rfl
                                                                split <;> rfl
    have h2 := h1 ⟨k, a, b, c, d, e⟩
    rw [he, h1] at h2
    simpa using h2.symm
  subst hk
  unfold reqNums at he
  rcases reqOk_cases h with h | h | h | h <;> rcases reqOk_cases h' with h' | h' | h' | h' <;> dsimp only at h h' he <;> first | omega | skip
  · rw [if_pos h.1, if_pos h.1] at he; simp at he; simp; omega
  · rw [if_neg (by omega), if_neg (by omega), if_neg (by omega), if_neg (by omega), if_neg (by omega), if_neg (by omega)] at he; simp at he; simp; omega
  · rw [if_neg (by omega), if_pos h.1, if_neg (by omega), if_pos h.1] at he; simp at he; simp; omega
  · simp; omega
theorem reqB_inj {q q' : GReq} (h : reqOk q = true) (h' : reqOk q' = true) (he : reqB q = reqB q') : q = q' := by
  have h1 := reqB_read h ((reqB q).length + 1) (by omega)
  have h2 := reqB_read h' ((reqB q).length + 1) (by rw [he]; omega)
  rw [← he, h1] at h2
  exact reqNums_inj h h' (by simpa using h2)
theorem reqRd_of {q : GReq} (h : reqOk q = true) : reqRd (reqB q) = (q, true) := by
  unfold reqRd
  have hx : ∃ q', reqOk q' = true ∧ reqB q' = reqB q := ⟨q, h, rfl⟩
  rw [dif_pos hx]
  have := hx.choose_spec
  rw [reqB_inj this.1 h this.2]
theorem reqRd_none {s : List UInt8} (h : ∀ q, reqOk q = true → reqB q ≠ s) : reqRd s = (⟨0, 0, 0, 0, 0, 0⟩, false) := by
  unfold reqRd
  rw [dif_neg]
  rintro ⟨q, h1, h2⟩
  exact h q h1 h2
end Lv.P
/-
  Plain laws: a request is read the same by both.
-/
set_option linter.unusedVariables false
set_option linter.unusedSimpArgs false
namespace Lv.P
open Go (IntKind BinOp UnOp)
theorem bne_ite {γ : Type} (a b : List UInt8) (x y : Option γ) : br (a != b) x y = if a = b then y else x := by
  unfold br
  by_cases h : a = b
  · simp [h]
  · rw [if_neg h, if_pos (by simpa using h)]
theorem impl_ReqRead_j2 (s : List UInt8) (q : GReq) : d_impl_ReqRead_j2 s q = if reqB q = [] ∨ reqB q ≠ s then some (⟨0, 0, 0, 0, 0, 0⟩, false) else some (q, true) := by
  unfold d_impl_ReqRead_j2 d_impl_ReqRead_j3
  rw [impl_ReqBytes, bd_some]
  simp only [jn_eq, bne_ite, br_t]
  by_cases h : reqB q = []
  · rw [if_pos (Or.inl h), h]; rfl
  · rw [br_if, if_neg (by simpa using h)]
    by_cases h2 : reqB q = s
    · rw [if_pos h2, if_neg (by simp [h2]; rw [← h2]; exact h)]
    · rw [if_neg h2, if_pos (.inr h2)]
theorem reqRd_try {s : List UInt8} {q : GReq} (hs : s ≠ []) (h : ∀ q', reqOk q' = true → reqB q' = s → q' = q) : (if reqB q = s then some (q, true) else some (⟨0, 0, 0, 0, 0, 0⟩, false)) = some (reqRd s) := by
  by_cases h1 : reqB q = s
  · rw [if_pos h1]
    have hok : reqOk q = true := by
      by_cases h2 : reqOk q = true
      · exact h2
      · unfold reqB at h1; rw [if_neg h2] at h1; exact absurd h1.symm hs
    rw [← h1, reqRd_of hok]
  · rw [if_neg h1, reqRd_none]
    intro q' h2 h3
    have := h q' h2 h3
    subst this
    exact h1 h3
theorem rRes_none {s : List UInt8} {f : Nat} (h : rdL f s = none) (hf : s.length < f) : ∀ q, reqOk q = true → reqB q ≠ s := by
  rintro q h1 rfl
  rw [reqB_read h1 f hf] at h; cases h
theorem impl_try {s : List UInt8} {q : GReq} (hs : s ≠ []) (h : ∀ q', reqOk q' = true → reqB q' = s → q' = q) : (if reqB q = [] ∨ reqB q ≠ s then some (⟨0, 0, 0, 0, 0, 0⟩, false) else some (q, true)) = some (reqRd s) := by
  rw [← reqRd_try hs h]
  by_cases h1 : reqB q = s
  · rw [if_pos h1, if_neg]
    rw [h1]; simp [hs]
  · rw [if_neg h1, if_pos (.inr h1)]
theorem impl_ReqRead {s : List UInt8} (hs : s.length ≤ 1048576) : d_impl_ReqRead s = some (reqRd s) := by
  unfold d_impl_ReqRead
  rw [impl_getNums hs, bd_some]
  cases hr : rdL (s.length + 1) s with
  | none =>
    simp only [rRes, br_not, br_f, jn_eq]
    unfold d_impl_ReqRead_j1
    rw [br_t, reqRd_none (rRes_none hr (by omega))]
  | some l =>
    obtain ⟨hsl, hok⟩ := rdL_get _ _ _ hr
    simp only [rRes, br_not, br_t, jn_eq]
    unfold d_impl_ReqRead_j1
    cases l with
    | nil =>
      simp only [List.length_nil]
      show br true _ _ = _
      rw [br_t, reqRd_none]
      rintro q h1 h2
      exact reqB_ne h1 (h2.trans hsl)
    | cons n l =>
      have hne : s ≠ [] := by rw [hsl]; exact pL_cons_pos (hok n (by simp))
      have hb : ((((n :: l).length : Nat) : Int) == 0) = false := by rw [List.length_cons, beq_eq_false_iff_ne]; omega
      have hq : ∀ q, reqOk q = true → reqB q = s → reqNums q = n :: l := by
        rintro q h1 rfl
        have := reqB_read h1 ((reqB q).length + 1) (by omega)
        rw [hr] at this; simpa using this.symm
      have hll : (n :: l).length ≤ s.length := by
        rw [hsl]
        have : ∀ l : List Int, (∀ m ∈ l, okN m) → l.length ≤ (pL l).length := by
          intro l
          induction l with
          | nil => simp
          | cons m l ih =>
            intro h
            have h1 := pN_pos (h m (by simp))
            have h2 := ih fun x hx => h x (by simp [hx])
            simp only [pL, List.flatMap_cons, List.length_append, List.length_cons] at h2 ⊢
            omega
        exact this _ hok
      rw [List.length_cons] at hll
      have e1 : Int.toNat 1 = 1 := rfl
      have e5 : Int.toNat 5 = 5 := rfl
      have ed : List.take ((n :: l).length - 1) (List.drop 1 (n :: l)) = l := by simp
      simp only [hb, br_f]
      simp only [at?_zero, List.getElem?_cons_zero, bd_some, impl_ReqRead_j2, jn_eq, br_if, beq_iff_eq, e1, e5, ed]
      rw [gd_t (by simp; omega), gd_t (by simp; omega), gd_t (by unfold lim; omega)]
      have okq : ∀ m ∈ n :: l, 0 ≤ m ∧ m ≤ 2147483647 := fun m hm => hok m hm
      have hx : ∀ (i : Nat), i < 5 → ∃ x, (l ++ List.replicate 5 (0 : Int))[i]? = some x ∧ (0 ≤ x ∧ x ≤ 2147483647) ∧ (∀ y, l[i]? = some y → x = y) := by
        intro i hi
        have hlt : i < (l ++ List.replicate 5 (0 : Int)).length := by rw [List.length_append, List.length_replicate]; omega
        refine ⟨_, List.getElem?_eq_getElem hlt, ?_, ?_⟩
        · have : (l ++ List.replicate 5 (0 : Int))[i] ∈ l ++ List.replicate 5 (0 : Int) := List.getElem_mem hlt
          rw [List.mem_append, List.mem_replicate] at this
          rcases this with h | h
          · exact okq _ (List.mem_cons_of_mem _ h)
          · omega
        · intro y hy
          have hi2 := (List.getElem?_eq_some_iff.1 hy)
          obtain ⟨h1, h2⟩ := hi2
          rw [List.getElem_append_left h1, h2]
      obtain ⟨x0, hx0, b0, i0⟩ := hx 0 (by omega)
      obtain ⟨x1, hx1, b1, i1⟩ := hx 1 (by omega)
      obtain ⟨x2, hx2, b2, i2⟩ := hx 2 (by omega)
      obtain ⟨x3, hx3, b3, i3⟩ := hx 3 (by omega)
      obtain ⟨x4, hx4, b4, i4⟩ := hx 4 (by omega)
      have a0 : (l ++ List.replicate 5 (0 : Int))[0]? = some x0 := hx0
      have a1 : at? (l ++ List.replicate 5 (0 : Int)) 1 = some x1 := by rw [show (1 : Int) = ((1 : Nat) : Int) from rfl, at?_nat]; exact hx1
      have a2 : at? (l ++ List.replicate 5 (0 : Int)) 2 = some x2 := by rw [show (2 : Int) = ((2 : Nat) : Int) from rfl, at?_nat]; exact hx2
      have a3 : at? (l ++ List.replicate 5 (0 : Int)) 3 = some x3 := by rw [show (3 : Int) = ((3 : Nat) : Int) from rfl, at?_nat]; exact hx3
      have a4 : at? (l ++ List.replicate 5 (0 : Int)) 4 = some x4 := by rw [show (4 : Int) = ((4 : Nat) : Int) from rfl, at?_nat]; exact hx4
      simp only [a0, a1, a2, a3, a4, bd_some]
      rw [w64_id (n := x2 - 1) (by omega) (by omega)]
      have shape : ∀ q, reqOk q = true → reqB q = s → q = (if n = 1 then ⟨n, x0, x1, x2 - 1, x3, x4⟩ else if n = 3 then ⟨n, 0, x0, 0, x1, 0⟩ else if n = 6 then ⟨n, 0, 0, 0, 0, 0⟩ else ⟨n, x0, 0, 0, 0, 0⟩) := by
        intro q h1 h2
        obtain ⟨k, a, b, c, d, e⟩ := q
        have h3 := hq _ h1 h2
        unfold reqNums at h3
        rcases reqOk_cases h1 with h | h | h | h <;> dsimp only at h h3
        · rw [if_pos h.1] at h3
          obtain ⟨rfl, rfl⟩ := List.cons.inj h3
          rw [if_pos h.1]
          have j0 := i0 _ rfl; have j1 := i1 _ rfl; have j2 := i2 _ rfl; have j3 := i3 _ rfl; have j4 := i4 _ rfl
          simp; omega
        · rw [if_neg (by omega), if_neg (by omega), if_neg (by omega)] at h3
          obtain ⟨rfl, rfl⟩ := List.cons.inj h3
          rw [if_neg (by omega), if_neg (by omega), if_neg (by omega)]
          have j0 := i0 _ rfl
          simp; omega
        · rw [if_neg (by omega), if_pos h.1] at h3
          obtain ⟨rfl, rfl⟩ := List.cons.inj h3
          rw [if_neg (by omega), if_pos h.1]
          have j0 := i0 _ rfl; have j1 := i1 _ rfl
          simp; omega
        · rw [if_neg (by omega), if_neg (by omega), if_pos h.1] at h3
          obtain ⟨rfl, rfl⟩ := List.cons.inj h3
          rw [if_neg (by omega), if_neg (by omega), if_pos h.1]
          simp; omega
      by_cases n1 : n = 1
      · rw [if_pos n1]; simp only [if_pos n1] at shape; exact impl_try hne shape
      by_cases n3 : n = 3
      · rw [if_neg n1, if_pos n3]; simp only [if_neg n1, if_pos n3] at shape; exact impl_try hne shape
      by_cases n6 : n = 6
      · rw [if_neg n1, if_neg n3, if_pos n6]; simp only [if_neg n1, if_neg n3, if_pos n6] at shape; exact impl_try hne shape
      · rw [if_neg n1, if_neg n3, if_neg n6]; simp only [if_neg n1, if_neg n3, if_neg n6] at shape; exact impl_try hne shape
@[simp] theorem eqReq_refl (q : GReq) : d_laws_eqReq q q = some true := by
  unfold d_laws_eqReq
  simp [br_if]
end Lv.P
/-
  Plain laws: checksums and frames are written and read the same by both.
-/
set_option linter.unusedVariables false
set_option linter.unusedSimpArgs false
namespace Lv.P
open Go (IntKind BinOp UnOp)
def crcBit (v : Nat) : Nat := if v % 2 = 1 then (v / 2) ^^^ 3988292384 else v / 2
def crcBits : Nat → Nat → Nat
  | 0, v => v
  | k + 1, v => crcBits k (crcBit v)
def crcFrom : Nat → List UInt8 → Nat
  | v, [] => v
  | v, x :: l => crcFrom (crcBits 8 (v ^^^ x.toNat)) l
def crcOf (s : List UInt8) : Nat := crcFrom 4294967295 s ^^^ 4294967295
theorem crcBit_lt {v : Nat} (h : v < 2 ^ 32) : crcBit v < 2 ^ 32 := by
  unfold crcBit
  split
  · exact Nat.xor_lt_two_pow (by omega) (by omega)
  · omega
theorem crcBits_lt : ∀ k {v : Nat}, v < 2 ^ 32 → crcBits k v < 2 ^ 32
  | 0, _, h => h
  | k + 1, _, h => crcBits_lt k (crcBit_lt h)
theorem crcFrom_lt : ∀ (l : List UInt8) {v : Nat}, v < 2 ^ 32 → crcFrom v l < 2 ^ 32
  | [], _, h => h
  | x :: l, v, h => crcFrom_lt l (crcBits_lt 8 (Nat.xor_lt_two_pow h (by have := x.toNat_lt; omega)))
theorem xorI_nat {a b : Nat} (ha : a < 2 ^ 63) (hb : b < 2 ^ 63) : xorI (a : Int) (b : Int) = ((a ^^^ b : Nat) : Int) := by
  unfold xorI
  rw [BitVec.toNat_xor, ofInt_nat ha, ofInt_nat hb]
  have : a ^^^ b < 2 ^ 63 := Nat.xor_lt_two_pow ha hb
  rw [wrap_id (by omega) (by omega)]
theorem andI_nat {a b : Nat} (ha : a < 2 ^ 63) (hb : b < 2 ^ 63) : andI (a : Int) (b : Int) = ((a &&& b : Nat) : Int) := by
  unfold andI
  rw [BitVec.toNat_and, ofInt_nat ha, ofInt_nat hb]
  have : a &&& b < 2 ^ 63 := Nat.lt_of_le_of_lt Nat.and_le_left ha
  rw [wrap_id (by omega) (by omega)]
theorem shr1 (a : Nat) : shrI (a : Int) 1 = ((a / 2 : Nat) : Int) := by
  unfold shrI
  have e : min (1 : Int).toNat IntKind.i64.bits = 1 := by simp [IntKind.bits]
  rw [e, Int.fdiv_eq_ediv_of_nonneg _ (by omega)]
  omega
theorem crcLoop2 {γ : Type} {F : (Int × Int → Option γ) → Int × Int → Option γ} {G : Int → Option γ}
    (hF : ∀ L (v k : Nat), v < 2 ^ 32 → k ≤ 8 → F L ((v : Int), (k : Int)) = if k < 8 then L (((crcBit v : Nat) : Int), ((k + 1 : Nat) : Int)) else G (v : Int)) :
    ∀ (m k v n : Nat), k + m = 8 → m < n → v < 2 ^ 32 → loopN F n ((v : Int), (k : Int)) = G ((crcBits m v : Nat) : Int)
  | 0, k, v, 0, _, h, _ => by omega
  | 0, k, v, n + 1, hk, _, hv => by rw [loopN_s, hF _ _ _ hv (by omega), if_neg (by omega)]; rfl
  | m + 1, k, v, 0, _, h, _ => by omega
  | m + 1, k, v, n + 1, hk, h, hv => by
    rw [loopN_s, hF _ _ _ hv (by omega), if_pos (by omega), crcLoop2 hF m (k + 1) _ n (by omega) (by omega) (crcBit_lt hv)]; rfl
theorem crcLoop1 {s : List UInt8} {γ : Type} {F : (Int × Int → Option γ) → Int × Int → Option γ} {G : Int → Option γ} (hs : s.length < 2 ^ 62)
    (hF : ∀ L (v i : Nat), v < 2 ^ 32 → i ≤ s.length → F L ((v : Int), (i : Int)) = match s[i]? with | none => G (v : Int) | some x => L (((crcBits 8 (v ^^^ x.toNat) : Nat) : Int), ((i + 1 : Nat) : Int))) :
    ∀ (m i v n : Nat), i + m = s.length → m < n → v < 2 ^ 32 → loopN F n ((v : Int), (i : Int)) = G ((crcFrom v (s.drop i) : Nat) : Int)
  | 0, i, v, 0, _, h, _ => by omega
  | 0, i, v, n + 1, hi, _, hv => by
    rw [loopN_s, hF _ _ _ hv (by omega), List.getElem?_eq_none (by omega), List.drop_eq_nil_of_le (by omega)]; rfl
  | m + 1, i, v, 0, _, h, _ => by omega
  | m + 1, i, v, n + 1, hi, h, hv => by
    have hlt : i < s.length := by omega
    rw [loopN_s, hF _ _ _ hv (by omega), List.getElem?_eq_getElem hlt]
    dsimp only
    rw [crcLoop1 hs hF m (i + 1) _ n (by omega) (by omega) (crcBits_lt 8 (Nat.xor_lt_two_pow hv (by have := s[i].toNat_lt; omega))), List.drop_eq_getElem_cons hlt]
    rfl
theorem spec_Crc {s : List UInt8} (hs : s.length < 2 ^ 62) : d_spec_Crc s = some ((crcOf s : Nat) : Int) := by
  unfold d_spec_Crc
  have := crcLoop1 (F := d_spec_Crc_l1 s) (G := fun v => some (xorI v 4294967295)) hs ?_ s.length 0 4294967295 big (by omega) (big_pos _ (by omega)) (by omega)
  · refine Eq.trans this ?_
    have e := xorI_nat (a := crcFrom 4294967295 s) (b := 4294967295) (by have := crcFrom_lt s (v := 4294967295) (by omega); omega) (by omega)
    show some (xorI _ ((4294967295 : Nat) : Int)) = _
    rw [List.drop_zero, e]; rfl
  · intro L v i hv hi
    unfold d_spec_Crc_l1 d_spec_Crc_j5
    simp only [br_dec, jn_eq, at?_nat]
    by_cases h : i < s.length
    · rw [if_pos (by omega), List.getElem?_eq_getElem h, bd_some]
      dsimp only
      have hx := s[i].toNat_lt
      rw [w64_id (by omega) (by omega), xorI_nat (by omega) (by omega)]
      have := crcLoop2 (F := d_spec_Crc_l2 L (i : Int)) (G := fun v => L (v, ((i + 1 : Nat) : Int))) ?_ 8 0 (v ^^^ s[i].toNat) big (by omega) (big_pos _ (by omega)) (Nat.xor_lt_two_pow hv (by omega))
      · exact this
      · intro L5 v k hv hk
        unfold d_spec_Crc_l2 d_spec_Crc_j3 d_spec_Crc_j4
        simp only [br_dec, jn_eq]
        by_cases h8 : k < 8
        · rw [if_pos (by omega), if_pos h8]
          have e1 : Int.tmod (v : Int) 2 = ((v % 2 : Nat) : Int) := by rw [Int.tmod_eq_emod_of_nonneg (by omega)]; omega
          have e2 : Int.tdiv (v : Int) 2 = ((v / 2 : Nat) : Int) := by rw [Int.tdiv_eq_ediv_of_nonneg (by omega)]; omega
          rw [e1, e2, w64_id (by omega) (by omega), w64_id (n := (k : Int) + 1) (by omega) (by omega), br_if, show (3988292384 : Int) = ((3988292384 : Nat) : Int) from rfl, xorI_nat (by omega) (by omega)]
          unfold crcBit
          by_cases ho : v % 2 = 1
          · rw [if_pos (by rw [ho]; rfl), if_pos ho]; rfl
          · rw [if_neg (by rw [beq_iff_eq]; omega), if_neg ho]; rfl
        · rw [if_neg (by omega), if_neg h8, w64_id (by omega) (by omega)]; rfl
    · rw [if_neg (by omega), List.getElem?_eq_none (by omega)]
theorem impl_Crc {s : List UInt8} (hs : s.length < 2 ^ 62) : d_impl_Crc s = some ((crcOf s : Nat) : Int) := by
  unfold d_impl_Crc
  have := crcLoop1 (F := d_impl_Crc_l1 s) (G := fun v => some (xorI v 4294967295)) hs ?_ s.length 0 4294967295 big (by omega) (big_pos _ (by omega)) (by omega)
  · refine Eq.trans this ?_
    have e := xorI_nat (a := crcFrom 4294967295 s) (b := 4294967295) (by have := crcFrom_lt s (v := 4294967295) (by omega); omega) (by omega)
    show some (xorI _ ((4294967295 : Nat) : Int)) = _
    rw [List.drop_zero, e]; rfl
  · intro L v i hv hi
    unfold d_impl_Crc_l1 d_impl_Crc_j5
    simp only [br_dec, jn_eq, at?_nat]
    by_cases h : i < s.length
    · rw [if_pos (by omega), List.getElem?_eq_getElem h, bd_some]
      dsimp only
      have hx := s[i].toNat_lt
      rw [w64_id (by omega) (by omega), xorI_nat (by omega) (by omega)]
      have := crcLoop2 (F := d_impl_Crc_l2 L (i : Int)) (G := fun v => L (v, ((i + 1 : Nat) : Int))) ?_ 8 0 (v ^^^ s[i].toNat) big (by omega) (big_pos _ (by omega)) (Nat.xor_lt_two_pow hv (by omega))
      · exact this
      · intro L5 v k hv hk
        unfold d_impl_Crc_l2 d_impl_Crc_j3 d_impl_Crc_j4
        simp only [br_dec, jn_eq]
        by_cases h8 : k < 8
        · rw [if_pos (by omega), if_pos h8]
          have e1 : andI (v : Int) 1 = ((v % 2 : Nat) : Int) := by
            rw [show (1 : Int) = ((1 : Nat) : Int) from rfl, andI_nat (by omega) (by omega), Nat.and_one_is_mod]
          rw [e1, shr1, w64_id (n := (k : Int) + 1) (by omega) (by omega), br_if, show (3988292384 : Int) = ((3988292384 : Nat) : Int) from rfl, xorI_nat (by omega) (by omega)]
          unfold crcBit
          by_cases ho : v % 2 = 1
          · rw [if_pos (by rw [ho]; rfl), if_pos ho]; rfl
          · rw [if_neg (by rw [beq_iff_eq]; omega), if_neg ho]; rfl
        · rw [if_neg (by omega), if_neg h8, w64_id (by omega) (by omega)]; rfl
    · rw [if_neg (by omega), List.getElem?_eq_none (by omega)]
def four (c : Int) : List UInt8 := [toB (shrI c 24), toB (shrI c 16), toB (shrI c 8), toB c]
theorem four_len (c : Int) : (four c).length = 4 := rfl
def frOk (q : Int) (b : List UInt8) : Prop := (1 ≤ q ∧ q ≤ 1000000) ∧ (1 ≤ b.length ∧ b.length ≤ 60)
instance (q : Int) (b : List UInt8) : Decidable (frOk q b) := by unfold frOk; infer_instance
def frT (q : Int) (b : List UInt8) : List UInt8 := four ((crcOf (pN q ++ b) : Nat) : Int) ++ (pN q ++ b)
def frB (q : Int) (b : List UInt8) : List UInt8 := if frOk q b then pN ((frT q b).length : Int) ++ frT q b else []
theorem frT_len {q : Int} {b : List UInt8} (h : frOk q b) : 6 ≤ (frT q b).length ∧ (frT q b).length ≤ 69 := by
  have h1 := pN_len q
  have h2 : 0 < (pN q).length := by unfold pN; rw [if_pos (by have := h.1; omega)]; exact putN_len_pos _
  have := h.2
  simp only [frT, List.length_append, four_len]; omega
theorem frB_len {q : Int} {b : List UInt8} (h : frOk q b) : 7 ≤ (frB q b).length ∧ (frB q b).length ≤ 74 := by
  have := frT_len h
  have h1 := pN_len ((frT q b).length : Int)
  have h2 : 0 < (pN ((frT q b).length : Int)).length := by unfold pN; rw [if_pos (by omega)]; exact putN_len_pos _
  unfold frB; rw [if_pos h, List.length_append]; omega
theorem frB_ne {q : Int} {b : List UInt8} (h : frB q b ≠ []) : frOk q b := by
  unfold frB at h
  by_cases h1 : frOk q b
  · exact h1
  · rw [if_neg h1] at h; exact absurd rfl h
theorem spec_FrameOf (q : Int) (b : List UInt8) : d_spec_FrameOf q b = some (frB q b) := by
  unfold d_spec_FrameOf d_spec_FrameOf_j1
  simp only [l1In_eq, bd_some, jn_eq, br_not, br_t]
  by_cases h1 : 1 ≤ q ∧ q ≤ 1000000
  · rw [decide_eq_true h1, br_t]
    by_cases h2 : (1 : Int) ≤ b.length ∧ (b.length : Int) ≤ 60
    · have hok : frOk q b := ⟨h1, by omega⟩
      have hq := pN_len q
      rw [decide_eq_true h2, br_t, spec_PutNum, bd_some, gd_t (by unfold slim; omega), spec_Crc (by rw [List.length_append]; omega), bd_some]
      unfold d_spec_l2Four
      rw [bd_some, gd_t (by simp only [List.length_append, List.length_cons, List.length_nil]; unfold slim; omega), spec_PutNum, bd_some]
      have e : [toB (shrI ((crcOf (pN q ++ b) : Nat) : Int) 24), toB (shrI ((crcOf (pN q ++ b) : Nat) : Int) 16), toB (shrI ((crcOf (pN q ++ b) : Nat) : Int) 8), toB ((crcOf (pN q ++ b) : Nat) : Int)] ++ (pN q ++ b) = frT q b := rfl
      rw [e]
      have := pN_len ((frT q b).length : Int)
      have := frT_len hok
      rw [gd_t (by unfold slim; omega)]
      unfold frB; rw [if_pos hok]
    · rw [decide_eq_false h2, br_f]
      unfold frB; rw [if_neg (fun h => h2 ⟨by have := h.2; omega, by have := h.2; omega⟩)]
  · rw [decide_eq_false h1, br_f]
    unfold frB; rw [if_neg (fun h => h1 h.1)]
theorem impl_FrameOf (q : Int) (b : List UInt8) : d_impl_FrameOf q b = some (frB q b) := by
  unfold d_impl_FrameOf d_impl_FrameOf_j1
  simp only [within_eq, bd_some, jn_eq, br_not, br_t]
  by_cases h1 : 1 ≤ q ∧ q ≤ 1000000
  · rw [decide_eq_true h1, br_t]
    by_cases h2 : (1 : Int) ≤ b.length ∧ (b.length : Int) ≤ 60
    · have hok : frOk q b := ⟨h1, by omega⟩
      have hq := pN_len q
      rw [decide_eq_true h2, br_t, impl_PutNum, bd_some, gd_t (by unfold lim; omega), impl_Crc (by rw [List.length_append]; omega), bd_some]
      rw [gd_t (by simp only [List.length_append, List.length_cons, List.length_nil]; unfold lim; omega), impl_PutNum, bd_some]
      have e : [toB (shrI ((crcOf (pN q ++ b) : Nat) : Int) 24), toB (shrI ((crcOf (pN q ++ b) : Nat) : Int) 16), toB (shrI ((crcOf (pN q ++ b) : Nat) : Int) 8), toB ((crcOf (pN q ++ b) : Nat) : Int)] ++ (pN q ++ b) = frT q b := rfl
      rw [e]
      have := pN_len ((frT q b).length : Int)
      have := frT_len hok
      rw [gd_t (by unfold slim; omega)]
      unfold frB; rw [if_pos hok]
    · rw [decide_eq_false h2, br_f]
      unfold frB; rw [if_neg (fun h => h2 ⟨by have := h.2; omega, by have := h.2; omega⟩)]
  · rw [decide_eq_false h1, br_f]
    unfold frB; rw [if_neg (fun h => h1 h.1)]
end Lv.P
/-
  Plain laws: a frame at a place is found the same by both.
-/
set_option linter.unusedVariables false
set_option linter.unusedSimpArgs false
namespace Lv.P
open Go (IntKind BinOp UnOp)
theorem gN_put {w pre l : List UInt8} {n : Nat} {i : Int} (hw : w = pre ++ (putN n ++ l)) (hi : i = pre.length) (hn : n ≤ 2147483647) : gN w i = ((n : Int), ((pre.length + (putN n).length : Nat) : Int), true) := by
  subst hw; subst hi
  have := putN_len_pos n
  unfold gN
  rw [if_pos (by simp only [List.length_append]; omega), Int.toNat_natCast, List.drop_left, rdN_put 5 0 0 n l (putN_len5 hn) (.inl rfl) (by simpa using hn)]
  simp [gRes]
theorem gN_get {w : List UInt8} {i n j : Int} (h : gN w i = (n, j, true)) : ∃ (m : Nat) (l : List UInt8), 0 ≤ i ∧ i < w.length ∧ w.drop i.toNat = putN m ++ l ∧ n = (m : Int) ∧ j = i + (putN m).length ∧ m ≤ 2147483647 := by
  unfold gN at h
  split at h
  · rename_i hi
    cases hr : rdN 5 0 0 (w.drop i.toNat) with
    | none => rw [hr] at h; simp [gRes] at h
    | some x =>
      obtain ⟨N, k⟩ := x
      rw [hr] at h
      simp only [gRes, Prod.mk.injEq] at h
      obtain ⟨m, l, h1, h2, h3, _, h5⟩ := rdN_get _ _ _ _ _ _ hr
      simp at h2
      refine ⟨m, l, hi.1, hi.2, h1, by omega, by omega, by omega⟩
  · simp at h
theorem frB_eq {q : Int} {b : List UInt8} (h : frOk q b) : frB q b = putN (frT q b).length ++ (four ((crcOf (pN q ++ b) : Nat) : Int) ++ (putN q.toNat ++ b)) ∧ frT q b = four ((crcOf (pN q ++ b) : Nat) : Int) ++ (putN q.toNat ++ b) := by
  have hT := frT_len h
  have e : pN q = putN q.toNat := by unfold pN; rw [if_pos (by have := h.1; omega)]
  have e2 : frT q b = four ((crcOf (pN q ++ b) : Nat) : Int) ++ (putN q.toNat ++ b) := by unfold frT; rw [e]
  refine ⟨?_, e2⟩
  unfold frB
  rw [if_pos h, ← e2]
  have e3 : pN ((frT q b).length : Int) = putN (frT q b).length := by unfold pN; rw [if_pos (by omega), Int.toNat_natCast]
  rw [e3]
theorem frB_inj {q q' : Int} {b b' d : List UInt8} (h : frOk q b) (h' : frOk q' b') (hp : frB q b <+: d) (hp' : frB q' b' <+: d) : q = q' ∧ b = b' := by
  obtain ⟨r, rfl⟩ := hp
  obtain ⟨r', hr⟩ := hp'
  obtain ⟨e1, e2⟩ := frB_eq h
  obtain ⟨e1', e2'⟩ := frB_eq h'
  have hT := frT_len h
  have hT' := frT_len h'
  rw [e1, e1', ← e2, ← e2', List.append_assoc, List.append_assoc] at hr
  have g1 := gN_put (w := putN (frT q b).length ++ (frT q b ++ r)) (pre := []) (i := 0) rfl rfl (by omega : (frT q b).length ≤ 2147483647)
  have g2 := gN_put (w := putN (frT q b).length ++ (frT q b ++ r)) (pre := []) (i := 0) (l := frT q' b' ++ r') (by rw [← hr]; rfl) rfl (by omega : (frT q' b').length ≤ 2147483647)
  rw [g1] at g2
  have hl : (frT q b).length = (frT q' b').length := by have := congrArg Prod.fst g2; simp at this; omega
  rw [← hl] at hr
  have hr2 := List.append_cancel_left hr
  have hr3 := (List.append_inj hr2 (by omega)).1
  rw [e2, e2'] at hr3
  have hr4 := (List.append_inj hr3 (by rw [four_len, four_len])).2
  have g3 := gN_put (w := putN q.toNat ++ b) (pre := []) (i := 0) rfl rfl (by have := h.1; omega : q.toNat ≤ 2147483647)
  have g4 := gN_put (w := putN q.toNat ++ b) (pre := []) (i := 0) (l := b') (by rw [← hr4]; rfl) rfl (by have := h'.1; omega : q'.toNat ≤ 2147483647)
  rw [g3] at g4
  have hq : q.toNat = q'.toNat := by have := congrArg Prod.fst g4; simp at this; omega
  rw [← hq] at hr4
  have := h.1; have := h'.1
  exact ⟨by omega, (List.append_cancel_left hr4).symm⟩
noncomputable def frRd (d : List UInt8) (i : Int) : GFrame × Bool :=
  open Classical in if h : ∃ x : Int × List UInt8, frOk x.1 x.2 ∧ frB x.1 x.2 <+: d then (⟨h.choose.1, h.choose.2, i + (frB h.choose.1 h.choose.2).length⟩, true) else (⟨0, [], 0⟩, false)
theorem frRd_of {q : Int} {b d : List UInt8} {i : Int} (h : frOk q b) (hp : frB q b <+: d) : frRd d i = (⟨q, b, i + (frB q b).length⟩, true) := by
  unfold frRd
  have hx : ∃ x : Int × List UInt8, frOk x.1 x.2 ∧ frB x.1 x.2 <+: d := ⟨(q, b), h, hp⟩
  rw [dif_pos hx]
  obtain ⟨h1, h2⟩ := hx.choose_spec
  obtain ⟨e1, e2⟩ := frB_inj h h1 hp h2
  rw [← e1, ← e2]
theorem frRd_none {d : List UInt8} {i : Int} (h : ∀ q b, frOk q b → ¬ frB q b <+: d) : frRd d i = (⟨0, [], 0⟩, false) := by
  unfold frRd
  rw [dif_neg]
  rintro ⟨⟨q, b⟩, h1, h2⟩
  exact h q b h1 h2
theorem frRd_cases (d : List UInt8) (i : Int) : (∃ q b, frOk q b ∧ frB q b <+: d ∧ frRd d i = (⟨q, b, i + (frB q b).length⟩, true)) ∨ ((∀ q b, frOk q b → ¬ frB q b <+: d) ∧ frRd d i = (⟨0, [], 0⟩, false)) := by
  by_cases h : ∃ q b, frOk q b ∧ frB q b <+: d
  · obtain ⟨q, b, h1, h2⟩ := h
    exact .inl ⟨q, b, h1, h2, frRd_of h1 h2⟩
  · have h2 : ∀ q b, frOk q b → ¬ frB q b <+: d := fun q b h1 h2 => h ⟨q, b, h1, h2⟩
    exact .inr ⟨h2, frRd_none h2⟩
noncomputable def frAt (s : List UInt8) (i : Int) : GFrame × Bool := if 0 ≤ i ∧ i ≤ s.length then frRd (s.drop i.toNat) i else (⟨0, [], 0⟩, false)
@[simp] theorem l1Min_eq (a b : Int) : d_spec_l1Min a b = some (if a < b then a else b) := by
  unfold d_spec_l1Min; rw [br_dec]; split <;> rfl
theorem take_pre {p d : List UInt8} {n : Nat} (h : p <+: d) (hn : p.length ≤ n) : p <+: d.take n := by
  obtain ⟨r, rfl⟩ := h
  rw [List.take_append]
  exact ⟨(r.take (n - p.length)), by rw [List.take_of_length_le hn]⟩
theorem beq_nil (b : List UInt8) : (b == []) = decide (b = []) := by cases b <;> rfl
theorem impl_FrameAt {s : List UInt8} (hs : s.length < 2 ^ 62) (i : Int) (hi' : i < 2 ^ 62) : d_impl_FrameAt s i = some (frAt s i) := by
  unfold d_impl_FrameAt frAt d_impl_isIndex
  rw [within_eq, bd_some, bd_some, w64_id (n := (s.length : Int) - 1) (by omega) (by omega), br_not, br_dec]
  by_cases hi : 0 ≤ i ∧ i ≤ (s.length : Int)
  rotate_left
  · rw [if_neg (by omega), if_neg hi]
  rw [if_pos hi]
  by_cases hi2 : i = (s.length : Int)
  · rw [if_neg (by omega)]
    congr 1
    rw [frRd_none]
    intro q b h1 h2
    have hl := frB_len h1
    have := h2.length_le
    rw [List.length_drop] at this
    omega
  rw [if_pos (by omega)]
  simp only [Bool.false_eq_true, if_false]
  rw [w64_id (n := i + 5) (by omega) (by omega)]
  generalize hx : (if i + 5 < (s.length : Int) then i + 5 else (s.length : Int)) = x
  have hx2 : i ≤ x ∧ x ≤ (s.length : Int) := by split at hx <;> omega
  rw [gd_t ⟨hi.1, hx2⟩]
  unfold d_impl_FrameAt_j1 d_impl_FrameAt_j2
  have hW : (s.drop i.toNat).take (x.toNat - i.toNat) = (s.drop i.toNat).take 5 := by
    split at hx
    · congr 1; omega
    · rw [List.take_of_length_le (by rw [List.length_drop]; omega), List.take_of_length_le (by rw [List.length_drop]; omega)]
  rw [hW]
  generalize hd : s.drop i.toNat = d at *
  have hdl : d.length = s.length - i.toNat := by rw [← hd, List.length_drop]
  generalize hw : d.take 5 = w
  have hwl : w.length ≤ 5 ∧ w.length ≤ d.length := by rw [← hw, List.length_take]; omega
  rw [impl_GetNum (by omega), bd_some]
  have hdr : ∀ m : Int, 0 ≤ m → i + m ≤ s.length → s.drop (i + m).toNat = d.drop m.toNat := by
    intro m h0 h1
    rw [← hd, List.drop_drop]; congr 1; omega
  rcases frRd_cases d i with ⟨q, b, hok, hp, he⟩ | ⟨hno, he⟩
  · -- there is a frame
    have hl := frB_len hok
    obtain ⟨r, hr⟩ := hp
    obtain ⟨e1, e2⟩ := frB_eq hok
    have hT := frT_len hok
    have hq := hok.1
    have hm := putN_len5 (n := (frT q b).length) (by omega)
    have g1 : gN w 0 = (((frT q b).length : Int), (((putN (frT q b).length).length : Nat) : Int), true) := by
      rw [gN_put (w := w) (i := 0) (pre := []) (n := (frT q b).length) (l := (frT q b ++ r).take (5 - (putN (frT q b).length).length)) (by
        rw [← hw, ← hr, e1, ← e2, List.append_assoc, List.take_append, List.take_of_length_le hm]; rfl) (by simp) (by omega)]; simp
    have hfl : (frB q b).length = (putN (frT q b).length).length + (frT q b).length := by rw [e1, ← e2, List.length_append]
    have hdl2 : d.length = (frB q b).length + r.length := by rw [← hr, List.length_append]
    generalize hM : (putN (frT q b).length).length = M at *
    generalize hN : (frT q b).length = N at *
    have hN2 : N = 4 + (putN q.toNat).length + b.length := by rw [← hN, e2]; simp [four_len]; omega
    rw [g1]
    dsimp only
    rw [br_not, br_t, br_dec, if_neg (by omega), w64_id (n := (s.length : Int) - i) (by omega) (by omega), w64_id (n := (s.length : Int) - i - M) (by omega) (by omega), decide_eq_false (by omega), jn_eq, br_f]
    rw [w64_id (n := i + M) (by omega) (by omega), w64_id (n := i + M + N) (by omega) (by omega), gd_t (by omega), hdr _ (by omega) (by omega), Int.toNat_natCast]
    have hT2 : (d.drop M).take ((i + M + N).toNat - (i + M).toNat) = frT q b := by
      rw [← hr, e1, ← e2, List.append_assoc, List.drop_left' hM, List.take_left' (by omega)]
    rw [hT2]
    have g2 : gN (frT q b) 4 = (q, ((4 + (putN q.toNat).length : Nat) : Int), true) := by
      rw [gN_put (pre := four ((crcOf (pN q ++ b) : Nat) : Int)) (n := q.toNat) (l := b) e2 (by simp [four_len]) (by omega)]
      simp [four_len]; omega
    rw [impl_GetNum (by omega), bd_some, g2]
    dsimp only
    rw [br_not, br_t, gd_t (by omega)]
    have hb : ((frT q b).drop ((4 + (putN q.toNat).length : Nat) : Int).toNat).take ((frT q b).length - ((4 + (putN q.toNat).length : Nat) : Int).toNat) = b := by
      rw [Int.toNat_natCast, hN, e2, ← List.append_assoc, List.drop_left' (by simp [four_len]), List.take_of_length_le (by omega)]
    have hf : ((d).take ((i + M + N).toNat - i.toNat)) = frB q b := by
      rw [← hr, List.take_left' (by omega)]
    rw [hb, impl_FrameOf, bd_some]
    have hne : (frB q b == []) = false := by rw [beq_nil]; cases hh : frB q b with | nil => rw [hh] at hl; simp at hl | cons => rfl
    rw [hne, br_f, gd_t (by omega), hf, jn_eq]
    have hne2 : (frB q b != frB q b) = false := by simp
    rw [hne2, br_f, he]
    simp only [Option.some.injEq, Prod.mk.injEq, and_true, GFrame.mk.injEq, true_and]
    omega
  · -- there is none
    rw [he]
    rcases hg : gN w 0 with ⟨n, m, ok⟩
    cases ok with
    | false => dsimp only; simp only [br_not, br_f, br_t, jn_eq]
    | true =>
      obtain ⟨n', l, h1, h2, h3, h4, h5, h6⟩ := gN_get hg
      have hn5 := putN_len5 h6
      have hwlen : w.length = (putN n').length + l.length := by have := congrArg List.length h3; simpa using this
      dsimp only
      rw [br_not, br_t, br_dec]
      by_cases h7 : n < 6
      · rw [if_pos h7]; simp only [br_t, jn_eq]
      rw [if_neg h7, w64_id (n := (s.length : Int) - i) (by omega) (by omega), w64_id (n := (s.length : Int) - i - m) (by omega) (by omega), jn_eq, br_dec]
      by_cases h8 : n > (s.length : Int) - i - m
      · rw [if_pos h8]
      rw [if_neg h8, w64_id (n := i + m) (by omega) (by omega), w64_id (n := i + m + n) (by omega) (by omega), gd_t (by omega), hdr _ (by omega) (by omega)]
      generalize ht : (d.drop m.toNat).take ((i + m + n).toNat - (i + m).toNat) = t
      have htl : t.length ≤ s.length := by rw [← ht, List.length_take, List.length_drop]; omega
      rw [impl_GetNum (by omega), bd_some]
      rcases hg2 : gN t 4 with ⟨q, k, ok⟩
      cases ok with
      | false => dsimp only; simp only [br_not, br_f, br_t, jn_eq]
      | true =>
        obtain ⟨q', l', g1, g2, g3, g4, g5, g6⟩ := gN_get hg2
        have hkl : k ≤ t.length := by
          have := congrArg List.length g3
          rw [List.length_drop, List.length_append] at this; omega
        dsimp only
        rw [br_not, br_t, gd_t (by omega), impl_FrameOf, bd_some]
        generalize hbb : List.take (t.length - k.toNat) (List.drop k.toNat t) = bb
        rw [beq_nil, br_dec]
        by_cases h9 : frB q bb = []
        · rw [if_pos h9]; simp only [br_t, jn_eq]
        rw [if_neg h9, gd_t (by omega), jn_eq, bne_ite]
        by_cases h10 : frB q bb = List.take ((i + m + n).toNat - i.toNat) d
        · exfalso
          exact hno q bb (frB_ne h9) (by rw [h10]; exact List.take_prefix _ _)
        · rw [if_neg h10]
end Lv.P
/-
  Plain laws: loops over rows; frames of a text, the journal's length up to a number.
-/
set_option linter.unusedVariables false
set_option linter.unusedSimpArgs false
namespace Lv.P
open Go (IntKind BinOp UnOp)
theorem forLoop {τ σ γ : Type} {F : (τ → Option γ) → τ → Option γ} (st : Nat → σ → τ) (I : Nat → σ → Prop) (R : Nat → σ → Option γ) {n : Nat} (hn : n < 2 ^ 63)
    (step : ∀ L i v, I i v → i ≤ n → (∀ v', I (i + 1) v' → i < n → L (st (i + 1) v') = R (i + 1) v') → F L (st i v) = R i v) {v : σ} (h0 : I 0 v) : loopN F big (st 0 v) = R 0 v := by
  have key : ∀ (m i k : Nat) (v : σ), i + m = n → m < k → I i v → loopN F k (st i v) = R i v := by
    intro m
    induction m with
    | zero =>
      intro i k v hi hk h
      obtain ⟨k, rfl⟩ : ∃ j, k = j + 1 := ⟨k - 1, by omega⟩
      rw [loopN_s]
      exact step _ i v h (by omega) fun v' _ h3 => by omega
    | succ m ih =>
      intro i k v hi hk h
      obtain ⟨k, rfl⟩ : ∃ j, k = j + 1 := ⟨k - 1, by omega⟩
      rw [loopN_s]
      exact step _ i v h (by omega) fun v' h2 h3 => ih (i + 1) k v' (by omega) (by omega) h2
  exact key n 0 big v (by omega) (big_pos _ (by omega)) h0
theorem at?_lt {α : Type} {l : List α} {i : Nat} (h : i < l.length) : at? l (i : Int) = some l[i] := by rw [at?_nat, List.getElem?_eq_getElem h]
theorem dec_lt {l : Nat} {i : Nat} : decide ((i : Int) < (l : Int)) = decide (i < l) := by rw [decide_eq_decide]; omega
theorem w64_succ {i n : Nat} (h : i < n) (hn : n < 2 ^ 63) : w64 ((i : Int) + 1) = ((i + 1 : Nat) : Int) := by rw [w64_id (by omega) (by omega)]; rfl
theorem allLoop {n : Nat} {F : (Int → Option Bool) → Int → Option Bool} (hl : n < 2 ^ 63)
    (step : ∀ L (i : Nat), i < n → F L (i : Int) = L ((i + 1 : Nat) : Int)) (stop : ∀ L, F L (n : Int) = some true) : loopN F big 0 = some true := by
  have := forLoop (F := F) (n := n) (fun i (_ : Unit) => (i : Int)) (fun _ _ => True) (fun _ _ => some true) hl ?_ (v := ()) trivial
  · exact this
  · intro L i v _ hi ih
    rcases Nat.lt_or_ge i n with h | h
    · rw [step L i h]; exact ih () trivial h
    · obtain rfl : i = n := by omega
      exact stop L
theorem frAt_next {s : List UInt8} {i : Int} (h : (frAt s i).2 = true) : 0 ≤ i ∧ i + 7 ≤ (frAt s i).1.Next ∧ (frAt s i).1.Next ≤ s.length := by
  unfold frAt at h ⊢
  split at h
  · rename_i hi
    rw [if_pos hi]
    rcases frRd_cases (s.drop i.toNat) i with ⟨q, b, hok, hp, he⟩ | ⟨hno, he⟩
    · rw [he]
      have := frB_len hok
      have h2 := hp.length_le
      rw [List.length_drop] at h2
      dsimp only
      omega
    · rw [he] at h; simp at h
  · simp at h
noncomputable def frs : Nat → List UInt8 → Int → List GFrame
  | 0, _, _ => []
  | f + 1, s, i => if (frAt s i).2 = true then (frAt s i).1 :: frs f s (frAt s i).1.Next else []
noncomputable def frames (s : List UInt8) : List GFrame := frs (s.length + 1) s 0
theorem frsLoop {s : List UInt8} (hs : s.length ≤ 1048576) {G : Int → Option (GFrame × Bool)} (hG : ∀ i : Int, 0 ≤ i → i ≤ s.length → G i = some (frAt s i)) {F : (List GFrame × Int → Option (List GFrame)) → List GFrame × Int → Option (List GFrame)}
    (hF : ∀ L acc i, F L (acc, i) = bd (G i) fun x => br (!x.2) (some acc) (gd (acc.length + [x.1].length ≤ lim) (L (acc ++ [x.1], x.1.Next)))) :
    ∀ (f n : Nat) (acc : List GFrame) (i : Int), 0 ≤ i → i ≤ s.length → s.length < f + i → f ≤ n → (acc.length : Int) ≤ i → loopN F n (acc, i) = some (acc ++ frs f s i)
  | 0, n, acc, i, h0, h1, h2, h3, h4 => by omega
  | f + 1, 0, acc, i, h0, h1, h2, h3, h4 => by omega
  | f + 1, n + 1, acc, i, h0, h1, h2, h3, h4 => by
    rw [loopN_s, hF, hG i h0 h1, bd_some, br_not]
    unfold frs
    cases hx : (frAt s i).2 with
    | false => simp
    | true =>
      have hn := frAt_next hx
      rw [br_t, gd_t (by simp only [List.length_cons, List.length_nil]; unfold lim; omega), if_pos rfl]
      rw [frsLoop hs hG hF f n _ _ (by omega) hn.2.2 (by omega) (by omega) (by rw [List.length_append, List.length_cons, List.length_nil]; omega)]
      simp
theorem impl_Frames {s : List UInt8} (hs : s.length ≤ 1048576) : d_impl_Frames s = some (frames s) := by
  unfold d_impl_Frames frames
  have := frsLoop hs (G := d_impl_FrameAt s) (F := d_impl_Frames_l1 s) (fun i _ _ => impl_FrameAt (by omega) i (by omega)) (fun L acc i => by unfold d_impl_Frames_l1; rfl) (s.length + 1) big [] 0 (by omega) (by omega) (by omega) (by have := big_ge; omega) (by simp)
  rw [this]; simp
theorem frs_len : ∀ (f : Nat) (s : List UInt8) (i : Int), 0 ≤ i → i ≤ s.length → ((frs f s i).length : Int) ≤ s.length - i
  | 0, s, i, h0, h => by simp [frs]; omega
  | f + 1, s, i, h0, h => by
    unfold frs
    split
    · rename_i hx
      have hn := frAt_next hx
      have := frs_len f s (frAt s i).1.Next (by omega) hn.2.2
      rw [List.length_cons]; omega
    · simp; omega
theorem frames_len (s : List UInt8) : (frames s).length ≤ s.length := by
  have := frs_len (s.length + 1) s 0 (by omega) (by omega)
  unfold frames; omega
theorem drop_at {α : Type} {l : List α} {i : Nat} (h : i < l.length) : l.drop i = l[i] :: l.drop (i + 1) := List.drop_eq_getElem_cons h
end Lv.P
/-
  Plain laws: a journal is written the same by both.
-/
set_option linter.unusedVariables false
set_option linter.unusedSimpArgs false
namespace Lv.P
open Go (IntKind BinOp UnOp)
theorem frB_nil (q : Int) : frB q [] = [] := by unfold frB; rw [if_neg (fun h => by have := h.2.1; simp at this)]
theorem spec_NoteOf (n : Int) (q : GReq) : d_spec_NoteOf n q = some (frB n (reqB q)) := by
  unfold d_spec_NoteOf
  rw [spec_ReqBytes, bd_some, beq_nil, br_dec]
  split
  · rename_i h; rw [h, frB_nil]
  · rw [spec_FrameOf, bd_some]
theorem impl_NoteOf (n : Int) (q : GReq) : d_impl_NoteOf n q = some (frB n (reqB q)) := by
  unfold d_impl_NoteOf
  rw [impl_ReqBytes, bd_some, impl_FrameOf, bd_some]
theorem frB_le (q : Int) (b : List UInt8) : (frB q b).length ≤ 74 := by
  by_cases h : frOk q b
  · exact (frB_len h).2
  · unfold frB; rw [if_neg h]; simp
def logP (p : Int) : List GReq → Option (List UInt8)
  | [] => some []
  | q :: l => if frB p (reqB q) = [] then none else match logP (p + 1) l with | some r => some (frB p (reqB q) ++ r) | none => none
def logR (p : Int) (l : List GReq) (acc : List UInt8) : List UInt8 := match logP p l with | some r => acc ++ r | none => []
theorem logR_none {p : Int} {q : GReq} {l : List GReq} {acc : List UInt8} (h : frB p (reqB q) = []) : logR p (q :: l) acc = [] := by
  unfold logR logP; rw [if_pos h]
theorem logR_some {p : Int} {q : GReq} {l : List GReq} {acc : List UInt8} (h : frB p (reqB q) ≠ []) : logR p (q :: l) acc = logR (p + 1) l (acc ++ frB p (reqB q)) := by
  unfold logR
  rw [logP, if_neg h]
  cases logP (p + 1) l <;> simp
theorem frB_range {p : Int} {b : List UInt8} (h : frB p b ≠ []) : 1 ≤ p ∧ p ≤ 1000000 := (frB_ne h).1
theorem spec_LogOf {l : List GReq} (hl : l.length ≤ 1048576) {p : Int} (hp : okI p) : d_spec_LogOf l p = some (logR p l []) := by
  unfold d_spec_LogOf
  unfold okI at hp
  refine (forLoop (n := l.length) (fun i (v : Int × List UInt8) => (v.1, v.2, (i : Int))) (fun i v => v.1 = p + i ∧ v.2.length ≤ 74 * i ∧ (i = 0 ∨ 1 ≤ p ∧ p ≤ 1000000)) (fun i v => some (logR (p + i) (l.drop i) v.2)) (by omega) ?_ (v := (p, [])) ⟨by simp, by simp, .inl rfl⟩).trans (by simp)
  rintro L i ⟨c, acc⟩ ⟨hc, ha, hr⟩ hi ih
  dsimp only at hc ha ih ⊢
  subst hc
  unfold d_spec_LogOf_l1 d_spec_LogOf_j2
  dsimp only
  rw [dec_lt]
  rcases Nat.lt_or_ge i l.length with h | h
  · rw [decide_eq_true h, br_t, br_dec, at?_lt h, bd_some, spec_NoteOf, bd_some, beq_nil, br_dec, drop_at h]
    by_cases hn : frB (p + i) (reqB l[i]) = []
    · rw [if_pos hn, logR_none hn]; split <;> rfl
    · have hg := frB_range hn
      have hl2 := frB_le (p + i) (reqB l[i])
      rw [if_neg hn, if_neg (by omega), gd_t (by unfold lim; omega), logR_some hn, w64_succ h (by omega), w64_id (by omega) (by omega)]
      have := ih (p + i + 1, acc ++ frB (p + i) (reqB l[i])) ⟨by dsimp only; omega, by rw [List.length_append]; omega, .inr (by omega)⟩ h
      rw [this]
      have e : p + ((i + 1 : Nat) : Int) = p + i + 1 := by omega
      rw [e]
  · rw [decide_eq_false (by omega), br_f, jn_eq, List.drop_eq_nil_of_le h]
    simp [logR, logP]
theorem impl_LogOf {l : List GReq} (hl : l.length ≤ 1048576) {p : Int} (hp : okI p) : d_impl_LogOf l p = some (logR p l []) := by
  unfold d_impl_LogOf
  unfold okI at hp
  refine (forLoop (n := l.length) (fun i (v : List UInt8) => (v, (i : Int))) (fun i v => v.length ≤ 74 * i ∧ (i = 0 ∨ 1 ≤ p ∧ p ≤ 1000000)) (fun i v => some (logR (p + i) (l.drop i) v)) (by omega) ?_ (v := []) ⟨by simp, .inl rfl⟩).trans (by simp)
  rintro L i acc ⟨ha, hr⟩ hi ih
  unfold d_impl_LogOf_l1 d_impl_LogOf_j2
  dsimp only at ih ⊢
  rw [dec_lt]
  rcases Nat.lt_or_ge i l.length with h | h
  · rw [decide_eq_true h, br_t, at?_lt h, bd_some, impl_NoteOf, bd_some, beq_nil, br_dec, drop_at h, w64_id (by omega) (by omega)]
    by_cases hn : frB (p + i) (reqB l[i]) = []
    · rw [if_pos hn, logR_none hn]
    · have hg := frB_range hn
      have hl2 := frB_le (p + i) (reqB l[i])
      rw [if_neg hn, gd_t (by unfold slim; omega), logR_some hn, w64_succ h (by omega)]
      rw [ih _ ⟨by rw [List.length_append]; omega, .inr (by omega)⟩ h]
      have e : p + ((i + 1 : Nat) : Int) = p + i + 1 := by omega
      rw [e]
  · rw [decide_eq_false (by omega), br_f, jn_eq, List.drop_eq_nil_of_le h]
    simp [logR, logP]
end Lv.P
/-
  Plain laws: the requests in a journal's frames are read the same by both.
-/
set_option linter.unusedVariables false
set_option linter.unusedSimpArgs false
namespace Lv.P
open Go (IntKind BinOp UnOp)
theorem forEx {τ σ γ : Type} {F : (τ → Option γ) → τ → Option γ} (st : Nat → σ → τ) (I : Nat → σ → Prop) (Q : γ → Prop) {n : Nat} (hn : n < 2 ^ 63)
    (step : ∀ L i v, I i v → i ≤ n → (∀ v', I (i + 1) v' → i < n → ∃ r, L (st (i + 1) v') = some r ∧ Q r) → ∃ r, F L (st i v) = some r ∧ Q r) {v : σ} (h0 : I 0 v) : ∃ r, loopN F big (st 0 v) = some r ∧ Q r := by
  have key : ∀ (m i k : Nat) (v : σ), i + m = n → m < k → I i v → ∃ r, loopN F k (st i v) = some r ∧ Q r := by
    intro m
    induction m with
    | zero =>
      intro i k v hi hk h
      obtain ⟨k, rfl⟩ : ∃ j, k = j + 1 := ⟨k - 1, by omega⟩
      rw [loopN_s]
      exact step _ i v h (by omega) fun v' _ h3 => by omega
    | succ m ih =>
      intro i k v hi hk h
      obtain ⟨k, rfl⟩ : ∃ j, k = j + 1 := ⟨k - 1, by omega⟩
      rw [loopN_s]
      exact step _ i v h (by omega) fun v' h2 h3 => ih (i + 1) k v' (by omega) (by omega) h2
  exact key n 0 big v (by omega) (big_pos _ (by omega)) h0
noncomputable def notes : List GFrame → List GReq
  | [] => []
  | f :: l => if (reqRd f.Body).2 = true then (reqRd f.Body).1 :: notes l else []
theorem notesLoop {l : List GFrame} (hl : l.length ≤ 1048576) {G : List UInt8 → Option (GReq × Bool)} (hG : ∀ f ∈ l, G f.Body = some (reqRd f.Body)) {F : (List GReq × Int → Option (List GReq)) → List GReq × Int → Option (List GReq)}
    (hF : ∀ L acc i, F L (acc, i) = br (decide (i < (l.length : Int))) (bd (at? l i) fun x => bd (G x.Body) fun y => br (!y.2) (some acc) (gd (acc.length + [y.1].length ≤ lim) (L (acc ++ [y.1], w64 (i + 1))))) (some acc)) :
    loopN F big ([], 0) = some (notes l) := by
  refine (forLoop (n := l.length) (fun i (v : List GReq) => (v, (i : Int))) (fun i v => v.length ≤ i) (fun i v => some (v ++ notes (l.drop i))) (by omega) ?_ (v := []) (by simp)).trans (by simp)
  intro L i acc ha hi ih
  rw [hF, dec_lt]
  rcases Nat.lt_or_ge i l.length with h | h
  · rw [decide_eq_true h, br_t, at?_lt h, bd_some, hG _ (List.getElem_mem h), bd_some, br_not, drop_at h, w64_succ h (by omega), br_if]
    unfold notes
    by_cases hx : (reqRd l[i].Body).2 = true
    · rw [if_pos hx, if_pos hx, gd_t (by simp only [List.length_cons, List.length_nil]; unfold lim; omega), ih _ (by simp; omega) h]
      simp
    · rw [if_neg hx, if_neg hx]; simp
  · rw [decide_eq_false (by omega), br_f, List.drop_eq_nil_of_le h]; simp [notes]
theorem impl_NotesIn {l : List GFrame} (hl : l.length ≤ 1048576) (hb : ∀ f ∈ l, f.Body.length ≤ 1048576) : d_impl_NotesIn l = some (notes l) := by
  unfold d_impl_NotesIn
  exact notesLoop hl (G := d_impl_ReqRead) (fun f hf => impl_ReqRead (hb f hf)) fun L acc i => by unfold d_impl_NotesIn_l1 d_impl_NotesIn_j2; simp only [jn_eq]
end Lv.P
