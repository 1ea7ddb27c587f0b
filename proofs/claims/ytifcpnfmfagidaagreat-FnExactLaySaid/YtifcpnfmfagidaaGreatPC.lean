/-
  Plain laws: events, loops, numbers in bytes.
-/
import Derived.Test.YtifcpnfmfagidaaGreatKC
import Derived.Test.YtifcpnfmfagidaaGreatPA
set_option linter.unusedVariables false
set_option linter.unusedSimpArgs false
namespace Lv.P
open Go (IntKind BinOp UnOp)
@[simp] theorem l1In_eq (a b c : Int) : d_x7 a b c = some (decide (b <= a /\ a <= c)) := by
 unfold d_x7 d_x7_j1; simp only [br_dec, jn_eq]; by_cases h : a >= b <;> simp [h, show b <= a ↔ a >= b from Iff.rfl]
@[simp] theorem within_eq (a b c : Int) : d_xb7 a b c = some (decide (b <= a /\ a <= c)) := by
 unfold d_xb7 d_xb7_j1; simp only [br_dec, jn_eq]; by_cases h : a >= b <;> simp [h, show b <= a ↔ a >= b from Iff.rfl]
def putN (n : Nat) : List UInt8 := if n < 128 then [UInt8.ofNat n] else UInt8.ofNat (n % 128 + 128) :: putN (n / 128)
decreasing_by omega
def pN (n : Int) : List UInt8 := if 0 <= n /\ n <= 2147483647 then putN n.toNat else []
theorem putN_lt {n : Nat} (h : n < 128) : putN n = [UInt8.ofNat n] := by rw [putN, if_pos h]
theorem putN_ge {n : Nat} (h : 128 <= n) : putN n = UInt8.ofNat (n % 128 + 128) :: putN (n / 128) := by rw [putN, if_neg (by omega)]
theorem putN_len_pos (n : Nat) : 0 < (putN n).length := by rw [putN]; split <;> simp
theorem putN_len_le : ∀ (k n : Nat), n < 128 ^ (k + 1) -> (putN n).length <= k + 1
 | 0, n, h => by rw [putN_lt (by simpa using h)]; simp
 | k + 1, n, h => by
  rcases Nat.lt_or_ge n 128 with h1 | h1
  ·rw [putN_lt h1]; simp
  ·rw [putN_ge h1]; have := putN_len_le k (n / 128) (by rw [Nat.div_lt_iff_lt_mul (by omega)]; rw [Nat.pow_succ] at h; exact h); simp only [List.length_cons]; omega
theorem putN_len5 {n : Nat} (h : n <= 2147483647) : (putN n).length <= 5 := putN_len_le 4 n (by omega)
theorem pN_len (n : Int) : (pN n).length <= 5 := by unfold pN; split
                                                    ·exact putN_len5 (by omega)
                                                    ·simp
theorem putLoop {F : (Int × List UInt8 -> Option (List UInt8)) -> Int × List UInt8 -> Option (List UInt8)}
 (hF : ∀ L n acc, F L (n, acc) = if n < 128 then gd (acc.length + 1 <= lim) (some (acc ++ [toB n])) else gd (acc.length + 1 <= lim) (L (w64 (Int.tdiv n 128), acc ++ [toB (w64 (Int.tmod n 128 + 128))])))
 {n : Nat} (hn : n <= 2147483647) : loopN F big ((n : Int), []) = some (putN n) := by
 have := loopN_big (F := F) (x := ((n : Int), [])) (fun x => some (x.2 ++ putN x.1.toNat)) (fun x => 0 <= x.1 /\ x.1 <= 2147483647 /\ x.2.length + (putN x.1.toNat).length <= 5) (fun x => x.1.toNat) ?_ ?_ ?_
 ·simpa using this
 ·rintro L ⟨m, acc⟩ ⟨h0, h1, h2⟩ hL; dsimp only at h0 h1 h2 hL ⊢; obtain ⟨m, rfl⟩ := Int.eq_ofNat_of_zero_le h0; rw [hF]; simp only [Int.toNat_natCast] at h2 hL ⊢; have hlim : acc.length + 1 <= lim := by have := putN_len_pos m; unfold lim; omega
  by_cases h : m < 128
  ·rw [if_pos (by omega), gd_t hlim, putN_lt h, toB_nat (by omega)]
  ·have e1 : Int.tdiv (m : Int) 128 = ((m / 128 : Nat) : Int) := by
    rw [Int.tdiv_eq_ediv_of_nonneg (by omega)]; rfl
   have e2 : Int.tmod (m : Int) 128 + 128 = ((m % 128 + 128 : Nat) : Int) := by
    rw [Int.tmod_eq_emod_of_nonneg (by omega)]; omega
   have hp := putN_ge (n := m) (by omega); rw [if_neg (by omega), gd_t hlim, e1, e2, w64_id (by omega) (by omega), w64_id (by omega) (by omega), toB_nat (by omega)]; rw [hL _ ⟨by dsimp only; omega, by dsimp only; omega, ?_⟩ (by dsimp only; omega)]
   ·simp only [Int.toNat_natCast, hp]; simp
   ·rw [hp] at h2; simp only [List.length_append, List.length_cons, List.length_nil, Int.toNat_natCast] at h2 ⊢; omega
 ·refine ⟨by dsimp only; omega, by dsimp only; omega, ?_⟩; have := putN_len5 hn; simpa using this
 ·dsimp only; omega
@[simp] theorem spec_PutNum (n : Int) : d_xd1 n = some (pN n) := by
 unfold d_xd1 pN; simp only [l1In_eq, bd_some, br_not, br_dec]; split
 ·rename_i h; obtain ⟨m, rfl⟩ := Int.eq_ofNat_of_zero_le h.1; refine putLoop (fun L n acc => ?_) (by omega); unfold d_xd1_l1 d_xd1_j2; simp only [br_dec, jn_eq, List.length_cons, List.length_nil, Nat.zero_add]; by_cases h : n > 127
  ·rw [if_pos h, if_neg (by omega)]
  ·rw [if_neg h, if_pos (by omega)]
 ·rfl
@[simp] theorem impl_PutNum (n : Int) : d_xd5 n = some (pN n) := by
 unfold d_xd5 pN; simp only [within_eq, bd_some, br_not, br_dec]; split
 ·rename_i h; obtain ⟨m, rfl⟩ := Int.eq_ofNat_of_zero_le h.1; refine putLoop (fun L n acc => ?_) (by omega); unfold d_xd5_l1 d_xd5_j2; simp only [br_dec, jn_eq, List.length_cons, List.length_nil, Nat.zero_add]; by_cases h : n >= 128
  ·rw [if_pos h, if_neg (by omega)]
  ·rw [if_neg h, if_pos (by omega)]
 ·rfl
def rdN : Nat -> Nat -> Nat -> List UInt8 -> Option (Nat × Nat)
 | 0, _, _, _ => none
 | _ + 1, _, _, [] => none
 | f + 1, k, a, d :: l =>
  if d.toNat < 128 then (if (0 < k /\ d.toNat = 0) ∨ 2147483647 < a + (d.toNat % 128) * 2 ^ (7 * k) then none else some (a + (d.toNat % 128) * 2 ^ (7 * k), k + 1))
  else rdN f (k + 1) (a + (d.toNat % 128) * 2 ^ (7 * k)) l
theorem ofInt_nat {n : Nat} (h : n < 2 ^ 63) : (BitVec.ofInt IntKind.i64.bits (n : Int)).toNat = n := by
 simp only [IntKind.bits, BitVec.toNat_ofInt]; omega
end Lv.P
namespace Lv.P
open Go (IntKind BinOp UnOp)
def rdL : Nat -> List UInt8 -> Option (List Int)
 | 0, _ => none
 | f + 1, [] => some []
 | f + 1, l => match rdN 5 0 0 l with
  | some (n, m) => (rdL f (l.drop m)).map ((n : Int) :: ·)
  | none => none
def pL (l : List Int) : List UInt8 := l.flatMap pN
theorem putsLoop {l : List Int} (hl : l.length <= 10000000) {G : Int -> Option (List UInt8)} (hG : ∀ n, G n = some (pN n))
 {F : (List UInt8 × Int -> Option (List UInt8)) -> List UInt8 × Int -> Option (List UInt8)}
 (hF : ∀ L acc i, F L (acc, i) = if i < (l.length : Int) then bd (at? l i) fun x => bd (G x) fun y => gd (acc.length + y.length <= lim) (L (acc ++ y, w64 (i + 1))) else some acc) :
 ∀ (f i n : Nat) (acc : List UInt8), l.length < f + i -> f <= n -> acc.length <= 5 * i -> i <= l.length -> loopN F n (acc, (i : Int)) = some (acc ++ pL (l.drop i))
 | 0, i, n, acc, h1, h2, h3, h4 => by omega
 | f + 1, i, n, acc, h1, h2, h3, h4 => by
  obtain ⟨n, rfl⟩ : ∃ m, n = m + 1 := ⟨n - 1, by omega⟩; rw [loopN_s, hF]; by_cases hi : i < l.length
  ·rw [if_pos (by omega), at?_nat, List.getElem?_eq_getElem hi, bd_some, hG, bd_some]; have := pN_len l[i]; rw [gd_t (by unfold lim; omega), w64_id (by omega) (by omega)]; have := putsLoop hl hG hF f (i + 1) n (acc ++ pN l[i]) (by omega) (by omega) (by rw [List.length_append]; omega) hi; refine Eq.trans this ?_; rw [List.drop_eq_getElem_cons hi]; simp only [pL, List.flatMap_cons, List.append_assoc]
  ·rw [if_neg (by omega), List.drop_eq_nil_of_le (by omega)]; simp [pL]
theorem spec_l18Nums {l : List Int} (hl : l.length <= 10000000) : d_xd2 l = some (pL l) := by
 unfold d_xd2; have := putsLoop hl (G := d_xd1) (F := d_xd2_l1 l) spec_PutNum (fun L acc i => by unfold d_xd2_l1 d_xd2_j2; simp only [br_dec, jn_eq]) (l.length + 1) 0 big [] (by omega) (by have := big_ge; omega) (by simp) (by omega); simpa using this
theorem impl_putNums {l : List Int} (hl : l.length <= 10000000) : d_xd6 l = some (pL l) := by
 unfold d_xd6; have := putsLoop hl (G := d_xd5) (F := d_xd6_l1 l) impl_PutNum (fun L acc i => by unfold d_xd6_l1 d_xd6_j2; simp only [br_dec, jn_eq]) (l.length + 1) 0 big [] (by omega) (by have := big_ge; omega) (by simp) (by omega); simpa using this
def fld (n : Int) : Bool := decide (0 <= n /\ n <= 9999)
def reqOk (q : GReq) : Bool :=
 if q.Kind = 1 then fld q.Id && fld q.Cabin && decide (-1 <= q.From /\ q.From <= 9999) && fld q.Size && fld q.Tier
 else if q.Kind = 2 ∨ q.Kind = 4 ∨ q.Kind = 5 ∨ q.Kind = 7 then fld q.Id && (q.Cabin == 0 && (q.From == 0 && (q.Size == 0 && q.Tier == 0)))
 else if q.Kind = 3 then fld q.Cabin && fld q.Size && (q.Id == 0 && (q.From == 0 && q.Tier == 0))
 else if q.Kind = 6 then q.Id == 0 && (q.Cabin == 0 && (q.From == 0 && (q.Size == 0 && q.Tier == 0)))
 else false
def reqNums (q : GReq) : List Int :=
 if q.Kind = 1 then [q.Kind, q.Id, q.Cabin, q.From + 1, q.Size, q.Tier]
 else if q.Kind = 3 then [q.Kind, q.Cabin, q.Size]
 else if q.Kind = 6 then [q.Kind]
 else [q.Kind, q.Id]
def reqB (q : GReq) : List UInt8 := if reqOk q then pL (reqNums q) else []
@[simp] theorem spec_field (n : Int) : d_xb4 n = some (fld n) := by unfold d_xb4 fld; simp
@[simp] theorem impl_field (n : Int) : d_xdf n = some (fld n) := by unfold d_xdf fld; simp
theorem spec_ReqOk (q : GReq) : d_xb5 q = some (reqOk q) := by
 obtain ⟨k, a, b, c, d, e⟩ := q; unfold d_xb5 d_xb5_j1 d_xb5_j2 d_xb5_j1 reqOk; simp only [br_if, jn_eq, spec_field, bd_some, l1In_eq, beq_iff_eq]; by_cases h1 : k = 1
 ·simp only [h1, if_true]; cases fld a <;> cases fld b <;> cases fld d <;> cases fld e <;> by_cases hc : (-1 <= c /\ c <= 9999) <;> simp [hc]
 by_cases h2 : k = 2
 ·simp only [h2, if_true]; cases fld a <;> simp
 by_cases h3 : k = 4
 ·simp only [h3, if_true]; cases fld a <;> simp
 by_cases h4 : k = 5
 ·simp only [h4, if_true]; cases fld a <;> simp
 by_cases h5 : k = 7
 ·simp only [h5, if_true]; cases fld a <;> simp
 by_cases h6 : k = 3
 ·simp only [h6, if_true]; cases fld b <;> cases fld d <;> simp
 by_cases h7 : k = 6
 ·simp only [h7, if_true]; simp
 simp [h1, h2, h3, h4, h5, h6, h7]
theorem impl_ReqOk (q : GReq) : d_xdg q = some (reqOk q) := by
 obtain ⟨k, a, b, c, d, e⟩ := q; unfold d_xdg d_xdg_j1 d_xdg_j2 d_xdg_j1 reqOk; simp only [br_if, jn_eq, impl_field, bd_some, within_eq, beq_iff_eq]; by_cases h1 : k = 1
 ·simp only [h1, if_true]; cases fld a <;> cases fld b <;> cases fld d <;> cases fld e <;> by_cases hc : (-1 <= c /\ c <= 9999) <;> simp [hc]
 by_cases h2 : k = 2
 ·simp only [h2, if_true]; cases fld a <;> simp
 by_cases h3 : k = 4
 ·simp only [h3, if_true]; cases fld a <;> simp
 by_cases h4 : k = 5
 ·simp only [h4, if_true]; cases fld a <;> simp
 by_cases h5 : k = 7
 ·simp only [h5, if_true]; cases fld a <;> simp
 by_cases h6 : k = 3
 ·simp only [h6, if_true]; cases fld b <;> cases fld d <;> simp
 by_cases h7 : k = 6
 ·simp only [h7, if_true]; simp
 simp [h1, h2, h3, h4, h5, h6, h7]
theorem reqOk_cases {q : GReq} (h : reqOk q = true) : (q.Kind = 1 /\ (0 <= q.Id /\ q.Id <= 9999) /\ (0 <= q.Cabin /\ q.Cabin <= 9999) /\ (-1 <= q.From /\ q.From <= 9999) /\ (0 <= q.Size /\ q.Size <= 9999) /\ (0 <= q.Tier /\ q.Tier <= 9999)) ∨
 ((q.Kind = 2 ∨ q.Kind = 4 ∨ q.Kind = 5 ∨ q.Kind = 7) /\ (0 <= q.Id /\ q.Id <= 9999) /\ q.Cabin = 0 /\ q.From = 0 /\ q.Size = 0 /\ q.Tier = 0) ∨
 (q.Kind = 3 /\ (0 <= q.Cabin /\ q.Cabin <= 9999) /\ (0 <= q.Size /\ q.Size <= 9999) /\ q.Id = 0 /\ q.From = 0 /\ q.Tier = 0) ∨
 (q.Kind = 6 /\ q.Id = 0 /\ q.Cabin = 0 /\ q.From = 0 /\ q.Size = 0 /\ q.Tier = 0) := by
 unfold reqOk fld at h; split at h
 ·rename_i h1; simp only [Bool.and_eq_true, decide_eq_true_eq] at h; exact .inl ⟨h1, h.1.1.1.1, h.1.1.1.2, h.1.1.2, h.1.2, h.2⟩
 split at h
 ·rename_i h1; simp only [Bool.and_eq_true, decide_eq_true_eq, beq_iff_eq] at h; exact .inr (.inl ⟨h1, h.1, h.2.1, h.2.2.1, h.2.2.2.1, h.2.2.2.2⟩)
 split at h
 ·rename_i h1; simp only [Bool.and_eq_true, decide_eq_true_eq, beq_iff_eq] at h; exact .inr (.inr (.inl ⟨h1, h.1.1, h.1.2, h.2.1, h.2.2.1, h.2.2.2⟩))
 split at h
 ·rename_i h1; simp only [Bool.and_eq_true, beq_iff_eq] at h; exact .inr (.inr (.inr ⟨h1, h.1, h.2.1, h.2.2.1, h.2.2.2.1, h.2.2.2.2⟩))
 ·cases h
theorem spec_ReqBytes {q : GReq} : d_xez q = some (reqB q) := by
 unfold d_xez reqB; rw [spec_ReqOk, bd_some, br_not, br_if]; by_cases h : reqOk q = true
 ·rw [if_pos h, if_pos h]; unfold reqNums; rcases reqOk_cases h with h | h | h | h <;> simp only [br_if, beq_iff_eq]
  ·rw [if_pos h.1, if_pos h.1, w64_id (by omega) (by omega), spec_l18Nums (by simp), bd_some]
  ·rw [if_neg (by omega), if_neg (by omega), if_neg (by omega), if_neg (by omega), if_neg (by omega), if_neg (by omega), spec_l18Nums (by simp), bd_some]
  ·rw [if_neg (by omega), if_pos h.1, if_neg (by omega), if_pos h.1, spec_l18Nums (by simp), bd_some]
  ·rw [if_neg (by omega), if_neg (by omega), if_pos h.1, if_neg (by omega), if_neg (by omega), if_pos h.1, spec_l18Nums (by simp), bd_some]
 ·rw [if_neg h, if_neg h]
theorem impl_ReqBytes {q : GReq} : d_xe9 q = some (reqB q) := by
 unfold d_xe9 d_xe9_j1 reqB; rw [impl_ReqOk, bd_some, br_not, br_if]; by_cases h : reqOk q = true
 ·rw [if_pos h, if_pos h]; unfold reqNums; rcases reqOk_cases h with h | h | h | h <;> simp only [br_if, beq_iff_eq, jn_eq]
  ·rw [if_pos h.1, if_pos h.1, gd_t (by simp [lim]), w64_id (by omega) (by omega), impl_putNums (by simp), bd_some]; rfl
  ·rw [if_neg (by omega), if_neg (by omega), if_neg (by omega), if_neg (by omega), if_neg (by omega), if_neg (by omega), gd_t (by simp [lim]), impl_putNums (by simp), bd_some]; rfl
  ·rw [if_neg (by omega), if_pos h.1, if_neg (by omega), if_pos h.1, gd_t (by simp [lim]), impl_putNums (by simp), bd_some]; rfl
  ·rw [if_neg (by omega), if_neg (by omega), if_pos h.1, if_neg (by omega), if_neg (by omega), if_pos h.1, impl_putNums (by simp), bd_some]
 ·rw [if_neg h, if_neg h]
end Lv.P
namespace Lv.P
open Go (IntKind BinOp UnOp)
@[simp] theorem eqReq_refl (q : GReq) : d_xdy q q = some true := by
 unfold d_xdy; simp [br_if]
end Lv.P
namespace Lv.P
open Go (IntKind BinOp UnOp)
def crcBit (v : Nat) : Nat := if v % 2 = 1 then (v / 2) ^^^ 3988292384 else v / 2
def crcBits : Nat -> Nat -> Nat
 | 0, v => v
 | k + 1, v => crcBits k (crcBit v)
def crcFrom : Nat -> List UInt8 -> Nat
 | v, [] => v
 | v, x :: l => crcFrom (crcBits 8 (v ^^^ x.toNat)) l
def crcOf (s : List UInt8) : Nat := crcFrom 4294967295 s ^^^ 4294967295
theorem crcBit_lt {v : Nat} (h : v < 2 ^ 32) : crcBit v < 2 ^ 32 := by
 unfold crcBit; split
 ·exact Nat.xor_lt_two_pow (by omega) (by omega)
 ·omega
theorem crcBits_lt : ∀ k {v : Nat}, v < 2 ^ 32 -> crcBits k v < 2 ^ 32
 | 0, _, h => h
 | k + 1, _, h => crcBits_lt k (crcBit_lt h)
theorem crcFrom_lt : ∀ (l : List UInt8) {v : Nat}, v < 2 ^ 32 -> crcFrom v l < 2 ^ 32
 | [], _, h => h
 | x :: l, v, h => crcFrom_lt l (crcBits_lt 8 (Nat.xor_lt_two_pow h (by have := x.toNat_lt; omega)))
theorem xorI_nat {a b : Nat} (ha : a < 2 ^ 63) (hb : b < 2 ^ 63) : xorI (a : Int) (b : Int) = ((a ^^^ b : Nat) : Int) := by
 unfold xorI; rw [BitVec.toNat_xor, ofInt_nat ha, ofInt_nat hb]; have : a ^^^ b < 2 ^ 63 := Nat.xor_lt_two_pow ha hb; rw [wrap_id (by omega) (by omega)]
theorem andI_nat {a b : Nat} (ha : a < 2 ^ 63) (hb : b < 2 ^ 63) : andI (a : Int) (b : Int) = ((a &&& b : Nat) : Int) := by
 unfold andI; rw [BitVec.toNat_and, ofInt_nat ha, ofInt_nat hb]; have : a &&& b < 2 ^ 63 := Nat.lt_of_le_of_lt Nat.and_le_left ha; rw [wrap_id (by omega) (by omega)]
theorem shr1 (a : Nat) : shrI (a : Int) 1 = ((a / 2 : Nat) : Int) := by
 unfold shrI; have e : min (1 : Int).toNat IntKind.i64.bits = 1 := by simp [IntKind.bits]
 rw [e, Int.fdiv_eq_ediv_of_nonneg _ (by omega)]; omega
theorem crcLoop2 {γ : Type} {F : (Int × Int -> Option γ) -> Int × Int -> Option γ} {G : Int -> Option γ}
 (hF : ∀ L (v k : Nat), v < 2 ^ 32 -> k <= 8 -> F L ((v : Int), (k : Int)) = if k < 8 then L (((crcBit v : Nat) : Int), ((k + 1 : Nat) : Int)) else G (v : Int)) :
 ∀ (m k v n : Nat), k + m = 8 -> m < n -> v < 2 ^ 32 -> loopN F n ((v : Int), (k : Int)) = G ((crcBits m v : Nat) : Int)
 | 0, k, v, 0, _, h, _ => by omega
 | 0, k, v, n + 1, hk, _, hv => by rw [loopN_s, hF _ _ _ hv (by omega), if_neg (by omega)]; rfl
 | m + 1, k, v, 0, _, h, _ => by omega
 | m + 1, k, v, n + 1, hk, h, hv => by
  rw [loopN_s, hF _ _ _ hv (by omega), if_pos (by omega), crcLoop2 hF m (k + 1) _ n (by omega) (by omega) (crcBit_lt hv)]; rfl
theorem crcLoop1 {s : List UInt8} {γ : Type} {F : (Int × Int -> Option γ) -> Int × Int -> Option γ} {G : Int -> Option γ} (hs : s.length < 2 ^ 62)
 (hF : ∀ L (v i : Nat), v < 2 ^ 32 -> i <= s.length -> F L ((v : Int), (i : Int)) = match s[i]? with | none => G (v : Int) | some x => L (((crcBits 8 (v ^^^ x.toNat) : Nat) : Int), ((i + 1 : Nat) : Int))) :
 ∀ (m i v n : Nat), i + m = s.length -> m < n -> v < 2 ^ 32 -> loopN F n ((v : Int), (i : Int)) = G ((crcFrom v (s.drop i) : Nat) : Int)
 | 0, i, v, 0, _, h, _ => by omega
 | 0, i, v, n + 1, hi, _, hv => by
  rw [loopN_s, hF _ _ _ hv (by omega), List.getElem?_eq_none (by omega), List.drop_eq_nil_of_le (by omega)]; rfl
 | m + 1, i, v, 0, _, h, _ => by omega
 | m + 1, i, v, n + 1, hi, h, hv => by
  have hlt : i < s.length := by omega
  rw [loopN_s, hF _ _ _ hv (by omega), List.getElem?_eq_getElem hlt]; dsimp only; rw [crcLoop1 hs hF m (i + 1) _ n (by omega) (by omega) (crcBits_lt 8 (Nat.xor_lt_two_pow hv (by have := s[i].toNat_lt; omega))), List.drop_eq_getElem_cons hlt]; rfl
theorem spec_Crc {s : List UInt8} (hs : s.length < 2 ^ 62) : d_xd3 s = some ((crcOf s : Nat) : Int) := by
 unfold d_xd3; have := crcLoop1 (F := d_xd3_l1 s) (G := fun v => some (xorI v 4294967295)) hs ?_ s.length 0 4294967295 big (by omega) (big_pos _ (by omega)) (by omega)
 ·refine Eq.trans this ?_; have e := xorI_nat (a := crcFrom 4294967295 s) (b := 4294967295) (by have := crcFrom_lt s (v := 4294967295) (by omega); omega) (by omega); show some (xorI _ ((4294967295 : Nat) : Int)) = _; rw [List.drop_zero, e]; rfl
 ·intro L v i hv hi; unfold d_xd3_l1 d_xd3_j5; simp only [br_dec, jn_eq, at?_nat]; by_cases h : i < s.length
  ·rw [if_pos (by omega), List.getElem?_eq_getElem h, bd_some]; dsimp only; have hx := s[i].toNat_lt; rw [w64_id (by omega) (by omega), xorI_nat (by omega) (by omega)]; have := crcLoop2 (F := d_xd3_l2 L (i : Int)) (G := fun v => L (v, ((i + 1 : Nat) : Int))) ?_ 8 0 (v ^^^ s[i].toNat) big (by omega) (big_pos _ (by omega)) (Nat.xor_lt_two_pow hv (by omega))
   ·exact this
   ·intro L5 v k hv hk; unfold d_xd3_l2 d_xd3_j3 d_xd3_j4; simp only [br_dec, jn_eq]; by_cases h8 : k < 8
    ·rw [if_pos (by omega), if_pos h8]; have e1 : Int.tmod (v : Int) 2 = ((v % 2 : Nat) : Int) := by rw [Int.tmod_eq_emod_of_nonneg (by omega)]; omega
     have e2 : Int.tdiv (v : Int) 2 = ((v / 2 : Nat) : Int) := by rw [Int.tdiv_eq_ediv_of_nonneg (by omega)]; omega
     rw [e1, e2, w64_id (by omega) (by omega), w64_id (n := (k : Int) + 1) (by omega) (by omega), br_if, show (3988292384 : Int) = ((3988292384 : Nat) : Int) from rfl, xorI_nat (by omega) (by omega)]; unfold crcBit; by_cases ho : v % 2 = 1
     ·rw [if_pos (by rw [ho]; rfl), if_pos ho]; rfl
     ·rw [if_neg (by rw [beq_iff_eq]; omega), if_neg ho]; rfl
    ·rw [if_neg (by omega), if_neg h8, w64_id (by omega) (by omega)]; rfl
  ·rw [if_neg (by omega), List.getElem?_eq_none (by omega)]
theorem impl_Crc {s : List UInt8} (hs : s.length < 2 ^ 62) : d_xd7 s = some ((crcOf s : Nat) : Int) := by
 unfold d_xd7; have := crcLoop1 (F := d_xd7_l1 s) (G := fun v => some (xorI v 4294967295)) hs ?_ s.length 0 4294967295 big (by omega) (big_pos _ (by omega)) (by omega)
 ·refine Eq.trans this ?_; have e := xorI_nat (a := crcFrom 4294967295 s) (b := 4294967295) (by have := crcFrom_lt s (v := 4294967295) (by omega); omega) (by omega); show some (xorI _ ((4294967295 : Nat) : Int)) = _; rw [List.drop_zero, e]; rfl
 ·intro L v i hv hi; unfold d_xd7_l1 d_xd7_j5; simp only [br_dec, jn_eq, at?_nat]; by_cases h : i < s.length
  ·rw [if_pos (by omega), List.getElem?_eq_getElem h, bd_some]; dsimp only; have hx := s[i].toNat_lt; rw [w64_id (by omega) (by omega), xorI_nat (by omega) (by omega)]; have := crcLoop2 (F := d_xd7_l2 L (i : Int)) (G := fun v => L (v, ((i + 1 : Nat) : Int))) ?_ 8 0 (v ^^^ s[i].toNat) big (by omega) (big_pos _ (by omega)) (Nat.xor_lt_two_pow hv (by omega))
   ·exact this
   ·intro L5 v k hv hk; unfold d_xd7_l2 d_xd7_j3 d_xd7_j4; simp only [br_dec, jn_eq]; by_cases h8 : k < 8
    ·rw [if_pos (by omega), if_pos h8]; have e1 : andI (v : Int) 1 = ((v % 2 : Nat) : Int) := by
      rw [show (1 : Int) = ((1 : Nat) : Int) from rfl, andI_nat (by omega) (by omega), Nat.and_one_is_mod]
     rw [e1, shr1, w64_id (n := (k : Int) + 1) (by omega) (by omega), br_if, show (3988292384 : Int) = ((3988292384 : Nat) : Int) from rfl, xorI_nat (by omega) (by omega)]; unfold crcBit; by_cases ho : v % 2 = 1
     ·rw [if_pos (by rw [ho]; rfl), if_pos ho]; rfl
     ·rw [if_neg (by rw [beq_iff_eq]; omega), if_neg ho]; rfl
    ·rw [if_neg (by omega), if_neg h8, w64_id (by omega) (by omega)]; rfl
  ·rw [if_neg (by omega), List.getElem?_eq_none (by omega)]
def four (c : Int) : List UInt8 := [toB (shrI c 24), toB (shrI c 16), toB (shrI c 8), toB c]
theorem four_len (c : Int) : (four c).length = 4 := rfl
def frOk (q : Int) (b : List UInt8) : Prop := (1 <= q /\ q <= 1000000) /\ (1 <= b.length /\ b.length <= 60)
instance (q : Int) (b : List UInt8) : Decidable (frOk q b) := by unfold frOk; infer_instance
def frT (q : Int) (b : List UInt8) : List UInt8 := four ((crcOf (pN q ++ b) : Nat) : Int) ++ (pN q ++ b)
def frB (q : Int) (b : List UInt8) : List UInt8 := if frOk q b then pN ((frT q b).length : Int) ++ frT q b else []
theorem frT_len {q : Int} {b : List UInt8} (h : frOk q b) : 6 <= (frT q b).length /\ (frT q b).length <= 69 := by
 have h1 := pN_len q; have h2 : 0 < (pN q).length := by unfold pN; rw [if_pos (by have := h.1; omega)]; exact putN_len_pos _
 have := h.2; simp only [frT, List.length_append, four_len]; omega
theorem frB_len {q : Int} {b : List UInt8} (h : frOk q b) : 7 <= (frB q b).length /\ (frB q b).length <= 74 := by
 have := frT_len h; have h1 := pN_len ((frT q b).length : Int); have h2 : 0 < (pN ((frT q b).length : Int)).length := by unfold pN; rw [if_pos (by omega)]; exact putN_len_pos _
 unfold frB; rw [if_pos h, List.length_append]; omega
theorem spec_FrameOf (q : Int) (b : List UInt8) : d_xe0 q b = some (frB q b) := by
 unfold d_xe0 d_xe0_j1; simp only [l1In_eq, bd_some, jn_eq, br_not, br_t]; by_cases h1 : 1 <= q /\ q <= 1000000
 ·rw [decide_eq_true h1, br_t]; by_cases h2 : (1 : Int) <= b.length /\ (b.length : Int) <= 60
  ·have hok : frOk q b := ⟨h1, by omega⟩; have hq := pN_len q; rw [decide_eq_true h2, br_t, spec_PutNum, bd_some, gd_t (by unfold slim; omega), spec_Crc (by rw [List.length_append]; omega), bd_some]; unfold d_xd4; rw [bd_some, gd_t (by simp only [List.length_append, List.length_cons, List.length_nil]; unfold slim; omega), spec_PutNum, bd_some]; have e : [toB (shrI ((crcOf (pN q ++ b) : Nat) : Int) 24), toB (shrI ((crcOf (pN q ++ b) : Nat) : Int) 16), toB (shrI ((crcOf (pN q ++ b) : Nat) : Int) 8), toB ((crcOf (pN q ++ b) : Nat) : Int)] ++ (pN q ++ b) = frT q b := rfl; rw [e]; have := pN_len ((frT q b).length : Int); have := frT_len hok; rw [gd_t (by unfold slim; omega)]; unfold frB; rw [if_pos hok]
  ·rw [decide_eq_false h2, br_f]; unfold frB; rw [if_neg (fun h => h2 ⟨by have := h.2; omega, by have := h.2; omega⟩)]
 ·rw [decide_eq_false h1, br_f]; unfold frB; rw [if_neg (fun h => h1 h.1)]
theorem impl_FrameOf (q : Int) (b : List UInt8) : d_xfa q b = some (frB q b) := by
 unfold d_xfa d_xfa_j1; simp only [within_eq, bd_some, jn_eq, br_not, br_t]; by_cases h1 : 1 <= q /\ q <= 1000000
 ·rw [decide_eq_true h1, br_t]; by_cases h2 : (1 : Int) <= b.length /\ (b.length : Int) <= 60
  ·have hok : frOk q b := ⟨h1, by omega⟩; have hq := pN_len q; rw [decide_eq_true h2, br_t, impl_PutNum, bd_some, gd_t (by unfold lim; omega), impl_Crc (by rw [List.length_append]; omega), bd_some]; rw [gd_t (by simp only [List.length_append, List.length_cons, List.length_nil]; unfold lim; omega), impl_PutNum, bd_some]; have e : [toB (shrI ((crcOf (pN q ++ b) : Nat) : Int) 24), toB (shrI ((crcOf (pN q ++ b) : Nat) : Int) 16), toB (shrI ((crcOf (pN q ++ b) : Nat) : Int) 8), toB ((crcOf (pN q ++ b) : Nat) : Int)] ++ (pN q ++ b) = frT q b := rfl; rw [e]; have := pN_len ((frT q b).length : Int); have := frT_len hok; rw [gd_t (by unfold slim; omega)]; unfold frB; rw [if_pos hok]
  ·rw [decide_eq_false h2, br_f]; unfold frB; rw [if_neg (fun h => h2 ⟨by have := h.2; omega, by have := h.2; omega⟩)]
 ·rw [decide_eq_false h1, br_f]; unfold frB; rw [if_neg (fun h => h1 h.1)]
end Lv.P
