/-
  Plain laws: events and loops.
-/
import Derived.Test.YtifcpnfmfagidaaGreatTB
import Derived.Test.YtifcpnfmfagidaaGreatKC
set_option linter.unusedVariables false
set_option linter.unusedSimpArgs false
namespace Lv.P
open Go (IntKind BinOp UnOp)
theorem wrap_id {n : Int} (h1 : -9223372036854775808 <= n) (h2 : n < 9223372036854775808) : IntKind.i64.wrap n = n := by
 simp only [IntKind.wrap, IntKind.bits, IntKind.signed]; simp; omega
theorem w64_id {n : Int} (h1 : -9223372036854775808 <= n) (h2 : n < 9223372036854775808) : w64 n = n := wrap_id h1 h2
theorem wrap8_id {n : Int} (h1 : 0 <= n) (h2 : n < 256) : IntKind.u8.wrap n = n := by
 simp only [IntKind.wrap, IntKind.bits, IntKind.signed]; simp; omega
theorem toB_nat {n : Nat} (h : n < 256) : toB (n : Int) = UInt8.ofNat n := by
 unfold toB; rw [wrap8_id (by omega) (by omega)]; rfl
@[simp] theorem at?_nat {α : Type} (l : List α) (i : Nat) : at? l (i : Int) = l[i]? := by simp [at?]
@[simp] theorem at?_zero {α : Type} (l : List α) : at? l 0 = l[0]? := by simp [at?]
theorem big_pos (k : Nat) (h : k < 2 ^ 64) : k < big := by have := big_ge; omega
theorem big_succ (k : Nat) (h : k < 2 ^ 64) : ∃ n, big = n + 1 + k := ⟨big - 1 - k, by have := big_ge; omega⟩
section
variable {σ γ : Type}
theorem loopN_by {F : (σ -> Option γ) -> σ -> Option γ} (R : σ -> Option γ) (I : σ -> Prop) (μ : σ -> Nat)
 (step : ∀ (L : σ -> Option γ) x, I x -> (∀ y, I y -> μ y < μ x -> L y = R y) -> F L x = R x) : ∀ n x, I x -> μ x < n -> loopN F n x = R x
 | 0, x, _, h => by omega
 | n + 1, x, hI, hn => by
  rw [loopN_s]; exact step _ x hI fun y hy hm => loopN_by R I μ step n y hy (by omega)
theorem loopN_big {F : (σ -> Option γ) -> σ -> Option γ} (R : σ -> Option γ) (I : σ -> Prop) (μ : σ -> Nat)
 (step : ∀ (L : σ -> Option γ) x, I x -> (∀ y, I y -> μ y < μ x -> L y = R y) -> F L x = R x) {x : σ} (hI : I x) (hm : μ x < 2 ^ 64) : loopN F big x = R x :=
 loopN_by R I μ step big x hI (big_pos _ hm)
end
section
variable {α γ : Type}
@[simp] theorem br_t (x y : Option γ) : br true x y = x := rfl
@[simp] theorem br_f (x y : Option γ) : br false x y = y := rfl
@[simp] theorem br_dec (p : Prop) [Decidable p] (x y : Option γ) : br (decide p) x y = if p then x else y := by unfold br; by_cases h : p <;> simp [h]
@[simp] theorem br_not (b : Bool) (x y : Option γ) : br (!b) x y = br b y x := by cases b <;> rfl
@[simp] theorem bd_some (a : α) (f : α -> Option γ) : bd (some a) f = f a := by rw [bd_def]; rfl
@[simp] theorem bd_none (f : α -> Option γ) : bd none f = none := by rw [bd_def]; rfl
@[simp] theorem jn_eq (F : α -> Option γ) (x : α) : jn F x = F x := jn_def F x
theorem gd_t {p : Prop} [Decidable p] (h : p) (x : Option γ) : gd p x = x := by rw [gd_def, if_pos h]
theorem br_if (b : Bool) (x y : Option γ) : br b x y = if b = true then x else y := rfl
end
theorem forLoop {τ σ γ : Type} {F : (τ -> Option γ) -> τ -> Option γ} (st : Nat -> σ -> τ) (I : Nat -> σ -> Prop) (R : Nat -> σ -> Option γ) {n : Nat} (hn : n < 2 ^ 63)
 (step : ∀ L i v, I i v -> i <= n -> (∀ v', I (i + 1) v' -> i < n -> L (st (i + 1) v') = R (i + 1) v') -> F L (st i v) = R i v) {v : σ} (h0 : I 0 v) : loopN F big (st 0 v) = R 0 v := by
 have key : ∀ (m i k : Nat) (v : σ), i + m = n -> m < k -> I i v -> loopN F k (st i v) = R i v := by
  intro m
  induction m with
  | zero =>
   intro i k v hi hk h; obtain ⟨k, rfl⟩ : ∃ j, k = j + 1 := ⟨k - 1, by omega⟩; rw [loopN_s]; exact step _ i v h (by omega) fun v' _ h3 => by omega
  | succ m ih =>
   intro i k v hi hk h; obtain ⟨k, rfl⟩ : ∃ j, k = j + 1 := ⟨k - 1, by omega⟩; rw [loopN_s]; exact step _ i v h (by omega) fun v' h2 h3 => ih (i + 1) k v' (by omega) (by omega) h2
 exact key n 0 big v (by omega) (big_pos _ (by omega)) h0
theorem at?_lt {α : Type} {l : List α} {i : Nat} (h : i < l.length) : at? l (i : Int) = some l[i] := by rw [at?_nat, List.getElem?_eq_getElem h]
theorem w64_succ {i n : Nat} (h : i < n) (hn : n < 2 ^ 63) : w64 ((i : Int) + 1) = ((i + 1 : Nat) : Int) := by rw [w64_id (by omega) (by omega)]; rfl
theorem copyLoop {α : Type} {l : List α} {z : α} {F : (List α × Int -> Option (List α)) -> List α × Int -> Option (List α)} (hl : l.length < 2 ^ 63)
 (step : ∀ L v (i : Nat), v.length = l.length -> (hi : i < l.length) -> F L (v, (i : Int)) = L (v.set i l[i], ((i + 1 : Nat) : Int))) (stop : ∀ L v, F L (v, (l.length : Int)) = some v) :
 loopN F big (List.replicate l.length z, 0) = some l := by
 have := forLoop (F := F) (n := l.length) (fun i v => (v, (i : Int))) (fun i v => v.length = l.length /\ v.take i = l.take i) (fun _ _ => some l) hl ?_ (v := List.replicate l.length z) ⟨by simp, by simp⟩
 ·exact this
 ·rintro L i v ⟨h1, h2⟩ hi ih; rcases Nat.lt_or_ge i l.length with h | h
  ·rw [step L v i h1 h]; refine ih _ ⟨by simpa using h1, ?_⟩ h; rw [List.take_add_one, List.take_add_one, List.take_set_of_le (by omega), h2]; simp [h, h1]
  ·obtain rfl : i = l.length := by omega
   rw [stop]; rw [List.take_of_length_le (by omega), List.take_of_length_le (by omega)] at h2; rw [h2]
theorem allLoop {n : Nat} {F : (Int -> Option Bool) -> Int -> Option Bool} (hl : n < 2 ^ 63)
 (step : ∀ L (i : Nat), i < n -> F L (i : Int) = L ((i + 1 : Nat) : Int)) (stop : ∀ L, F L (n : Int) = some true) : loopN F big 0 = some true := by
 have := forLoop (F := F) (n := n) (fun i (_ : Unit) => (i : Int)) (fun _ _ => True) (fun _ _ => some true) hl ?_ (v := ()) trivial
 ·exact this
 ·intro L i v _ hi ih; rcases Nat.lt_or_ge i n with h | h
  ·rw [step L i h]; exact ih () trivial h
  ·obtain rfl : i = n := by omega
   exact stop L
theorem drop_at {α : Type} {l : List α} {i : Nat} (h : i < l.length) : l.drop i = l[i] :: l.drop (i + 1) := List.drop_eq_getElem_cons h
theorem forEx {τ σ γ : Type} {F : (τ -> Option γ) -> τ -> Option γ} (st : Nat -> σ -> τ) (I : Nat -> σ -> Prop) (Q : γ -> Prop) {n : Nat} (hn : n < 2 ^ 63)
 (step : ∀ L i v, I i v -> i <= n -> (∀ v', I (i + 1) v' -> i < n -> ∃ r, L (st (i + 1) v') = some r /\ Q r) -> ∃ r, F L (st i v) = some r /\ Q r) {v : σ} (h0 : I 0 v) : ∃ r, loopN F big (st 0 v) = some r /\ Q r := by
 have key : ∀ (m i k : Nat) (v : σ), i + m = n -> m < k -> I i v -> ∃ r, loopN F k (st i v) = some r /\ Q r := by
  intro m
  induction m with
  | zero =>
   intro i k v hi hk h; obtain ⟨k, rfl⟩ : ∃ j, k = j + 1 := ⟨k - 1, by omega⟩; rw [loopN_s]; exact step _ i v h (by omega) fun v' _ h3 => by omega
  | succ m ih =>
   intro i k v hi hk h; obtain ⟨k, rfl⟩ : ∃ j, k = j + 1 := ⟨k - 1, by omega⟩; rw [loopN_s]; exact step _ i v h (by omega) fun v' h2 h3 => ih (i + 1) k v' (by omega) (by omega) h2
 exact key n 0 big v (by omega) (big_pos _ (by omega)) h0
end Lv.P
namespace Lv.P
open Go (IntKind BinOp UnOp)
def inB (a b c : Int) : Bool := decide (b <= a /\ a <= c)
theorem inB_iff {a b c : Int} : inB a b c = true ↔ b <= a /\ a <= c := by unfold inB; exact decide_eq_true_iff
theorem in_eq (a b c : Int) : d_x7 a b c = some (inB a b c) := by
 unfold d_x7 d_x7_j1 inB; simp only [br_dec, jn_eq]; by_cases h : a >= b <;> simp [h, show b <= a ↔ a >= b from Iff.rfl]
theorem wi_eq (a b c : Int) : d_xb7 a b c = some (inB a b c) := by
 unfold d_xb7 d_xb7_j1 inB; simp only [br_dec, jn_eq]; by_cases h : a >= b <;> simp [h, show b <= a ↔ a >= b from Iff.rfl]
theorem ix_eq (a b : Int) : d_xb9 a b = some (inB a 0 (w64 (b - 1))) := by unfold d_xb9; rw [wi_eq, bd_some]
theorem br_and (a b : Bool) : br a (some b) (some false) = some (a && b) := by cases a <;> rfl
theorem br_or (a b : Bool) : br a (some true) (some b) = some (a || b) := by cases a <;> rfl
theorem br_andn (a b : Bool) : br a (some false) (some b) = some (!a && b) := by cases a <;> rfl
theorem br_same {γ : Type} (a : Bool) (x : Option γ) : br a x x = x := by cases a <;> rfl
def rAll (p : Nat -> Bool) : Nat -> Nat -> Bool
 | _, 0 => true
 | i, m + 1 => p i && rAll p (i + 1) m
theorem rAll_iff {p : Nat -> Bool} : ∀ {m i : Nat}, rAll p i m = true ↔ ∀ k, i <= k -> k < i + m -> p k = true
 | 0, i => by simp [rAll]; omega
 | m + 1, i => by
  unfold rAll; rw [Bool.and_eq_true, rAll_iff]; constructor
  ·rintro ⟨h1, h2⟩ k h3 h4; rcases Nat.eq_or_lt_of_le h3 with rfl | h5
   ·exact h1
   ·exact h2 k h5 (by omega)
  ·intro h; exact ⟨h i (by omega) (by omega), fun k h1 h2 => h k (by omega) (by omega)⟩
theorem rAll0 {p : Nat -> Bool} {n : Nat} : rAll p 0 n = true ↔ ∀ k, k < n -> p k = true := by
 rw [rAll_iff]; exact ⟨fun h k hk => h k (by omega) (by omega), fun h k _ hk => h k (by omega)⟩
theorem allIdx {n : Nat} {F : (Int -> Option Bool) -> Int -> Option Bool} {E : Option Bool} (p : Nat -> Bool) (hn : n < 2 ^ 63)
 (step : ∀ L (i : Nat), i < n -> F L (i : Int) = br (p i) (L ((i + 1 : Nat) : Int)) (some false)) (stop : ∀ L, F L (n : Int) = E) : loopN F big 0 = br (rAll p 0 n) E (some false) := by
 have := forLoop (F := F) (n := n) (fun i (_ : Unit) => (i : Int)) (fun _ _ => True) (fun i _ => br (rAll p i (n - i)) E (some false)) hn ?_ (v := ()) trivial
 ·exact this
 ·intro L i v _ hi ih; rcases Nat.lt_or_ge i n with h | h
  ·rw [step L i h, ih () trivial h, show n - i = (n - (i + 1)) + 1 by omega, show rAll p i (n - (i + 1) + 1) = (p i && rAll p (i + 1) (n - (i + 1))) from rfl]; cases p i <;> rfl
  ·obtain rfl : i = n := by omega
   rw [stop, Nat.sub_self]; rfl
theorem all_list {α : Type} (l : List α) (p : α -> Bool) (q : Nat -> Bool) (h : ∀ k (hk : k < l.length), q k = p l[k]) : rAll q 0 l.length = l.all p := by
 rw [Bool.eq_iff_iff, rAll0, List.all_eq_true]; constructor
 ·intro g x hx; obtain ⟨k, hk, rfl⟩ := List.getElem_of_mem hx; rw [<- h k hk]; exact g k hk
 ·intro g k hk; rw [h k hk]; exact g _ (List.getElem_mem _)
theorem decn_lt {i n : Nat} (h : i < n) : decide ((i : Int) < (n : Int)) = true := by rw [decide_eq_true_iff]; omega
theorem decn_ge (n : Nat) : decide ((n : Int) < (n : Int)) = false := by rw [decide_eq_false_iff_not]; omega
theorem allOf {α : Type} {l : List α} {F : (Int -> Option Bool) -> Int -> Option Bool} {E : Option Bool} (p : α -> Bool) (hn : l.length < 2 ^ 63)
 (step : ∀ L (i : Nat) (h : i < l.length), F L (i : Int) = br (p l[i]) (L (w64 ((i : Int) + 1))) (some false)) (stop : ∀ L, F L (l.length : Int) = E) : loopN F big 0 = br (l.all p) E (some false) := by
 have := allIdx (F := F) (n := l.length) (E := E) (fun i => match l[i]? with | some x => p x | none => true) hn ?_ stop
 ·rw [this, all_list l p _ ?_]; intro k hk; simp [hk]
 ·intro L i h; rw [step L i h, w64_succ h hn]; simp [h]
def rulesB (r : GRules) : Bool := inB r.Seats.length 1 4 && (inB r.Tiers 1 5 && (inB r.Room 1 10 && (inB r.Size 1 6 && (inB r.Period 1 12 && (r.Seats.all (fun x => inB x 1 60) && (inB r.Window 1 8 && (inB r.Rest 0 8 && (inB r.Tries 1 4 && inB r.Crew 1 3))))))))
theorem spec_RulesOk {r : GRules} (hr : r.Seats.length < 2 ^ 62) : d_x8 r = some (rulesB r) := by
 have hj : ∀ b, d_x8_j1 r b = some (!b && (r.Seats.all (fun x => inB x 1 60) && (inB r.Window 1 8 && (inB r.Rest 0 8 && (inB r.Tries 1 4 && inB r.Crew 1 3))))) := by
  intro b; unfold d_x8_j1; rw [allOf (l := r.Seats) (fun x => inB x 1 60) (E := some (inB r.Window 1 8 && (inB r.Rest 0 8 && (inB r.Tries 1 4 && inB r.Crew 1 3)))) (by omega) ?_ ?_, br_and, br_andn]
  ·intro L i h; unfold d_x8_l2; rw [decn_lt h, br_t, at?_lt h, bd_some, in_eq, bd_some, br_not]
  ·intro L; unfold d_x8_l2 d_x8_j3 d_x8_j4; rw [decn_ge, br_f]; simp only [jn_eq, in_eq, bd_some, br_and]
 unfold d_x8; simp only [in_eq, bd_some, br_not, jn_eq, hj, Bool.not_true, Bool.false_and, br_and, Bool.not_not]; rfl
theorem impl_RulesOk {r : GRules} (hr : r.Seats.length < 2 ^ 62) : d_xb8 r = some (rulesB r) := by
 unfold d_xb8; rw [wi_eq, bd_some, br_not]; rw [allOf (l := r.Seats) (fun x => inB x 1 60) (E := some (inB r.Tiers 1 5 && (inB r.Room 1 10 && (inB r.Size 1 6 && (inB r.Period 1 12 && (inB r.Window 1 8 && (inB r.Tries 1 4 && (inB r.Crew 1 3 && inB r.Rest 0 8)))))))) (by omega) ?_ ?_, br_and, br_and]
 ·unfold rulesB; congr 1; ac_rfl
 ·intro L i h; unfold d_xb8_l1; rw [decn_lt h, br_t, at?_lt h, bd_some, wi_eq, bd_some, br_not]
 ·intro L; unfold d_xb8_l1 d_xb8_j2 d_xb8_j3; rw [decn_ge, br_f]; simp only [jn_eq, wi_eq, bd_some, br_and]
theorem rulesB_ok {r : GRules} (h : rulesB r = true) : (1 <= r.Seats.length /\ r.Seats.length <= 4) /\ (1 <= r.Tiers /\ r.Tiers <= 5) /\ (1 <= r.Room /\ r.Room <= 10) /\ (1 <= r.Size /\ r.Size <= 6) /\ (1 <= r.Period /\ r.Period <= 12) /\ (∀ x ∈ r.Seats, 1 <= x /\ x <= 60) /\ (1 <= r.Window /\ r.Window <= 8) /\ (0 <= r.Rest /\ r.Rest <= 8) /\ (1 <= r.Tries /\ r.Tries <= 4) /\ (1 <= r.Crew /\ r.Crew <= 3) := by
 unfold rulesB at h; simp only [Bool.and_eq_true, inB_iff, List.all_eq_true] at h; obtain ⟨h1, h2, h3, h4, h5, h6, h7, h8, h9, h10⟩ := h; exact ⟨by omega, h2, h3, h4, h5, h6, h7, h8, h9, h10⟩
def partyB (r : GRules) (p : GParty) (now : Int) : Bool :=
 rulesB r && (inB now 0 1000000 && (inB p.Id 1 999 && (inB p.Cabin 0 (w64 ((r.Seats.length : Int) - 1)) && (inB p.From (-1) (w64 ((r.Seats.length : Int) - 1)) && (!(p.From == p.Cabin) && (inB p.Size 1 r.Size && (inB p.Tier 0 (w64 (r.Tiers - 1)) && (inB p.Since 0 now && (inB p.Turn 1 1000000 && (inB p.Asked 0 (w64 (r.Tries - 1)) && (((p.State == 1) && inB p.Until 0 (w64 (now + r.Rest))) || ((p.State == 2) && inB p.Until 1 (w64 (now + r.Window))))))))))))))
theorem spec_PartyOk {r : GRules} (hr : r.Seats.length < 2 ^ 62) (p : GParty) (now : Int) : d_x9 r p now = some (partyB r p now) := by
 have h2 : ∀ b, d_x9_j2 r p now b = some (!b && (((p.State == 1) && inB p.Until 0 (w64 (now + r.Rest))) || ((p.State == 2) && inB p.Until 1 (w64 (now + r.Window))))) := by
  intro b; unfold d_x9_j2 d_x9_j3; simp only [in_eq, bd_some, jn_eq, br_and, br_or]; cases p.State == 1 <;> cases b <;> rfl
 have h1 : ∀ b, d_x9_j1 r p now b = some (!b && (inB p.Size 1 r.Size && (inB p.Tier 0 (w64 (r.Tiers - 1)) && (inB p.Since 0 now && (inB p.Turn 1 1000000 && (inB p.Asked 0 (w64 (r.Tries - 1)) && (((p.State == 1) && inB p.Until 0 (w64 (now + r.Rest))) || ((p.State == 2) && inB p.Until 1 (w64 (now + r.Window)))))))))) := by
  intro b; unfold d_x9_j1; simp only [in_eq, bd_some, jn_eq, br_not, h2, Bool.not_true, Bool.false_and, br_and, br_andn, Bool.not_not]
 unfold d_x9; simp only [spec_RulesOk hr, in_eq, bd_some, jn_eq, br_not, h1, Bool.not_true, Bool.false_and, br_and]; rfl
theorem impl_PartyOk {r : GRules} (hr : r.Seats.length < 2 ^ 62) (p : GParty) (now : Int) : d_xca r p now = some (partyB r p now) := by
 have h2 : ∀ b, d_xca_j2 r p now b = some (!b && (((p.State == 1) && inB p.Until 0 (w64 (now + r.Rest))) || ((p.State == 2) && inB p.Until 1 (w64 (now + r.Window))))) := by
  intro b; unfold d_xca_j2 d_xca_j3; simp only [wi_eq, bd_some, jn_eq, br_and, br_or]; cases p.State == 1 <;> cases b <;> rfl
 have h1 : ∀ b, d_xca_j1 r p now b = some (!b && (inB p.Size 1 r.Size && (inB p.Tier 0 (w64 (r.Tiers - 1)) && (inB p.Since 0 now && (inB p.Turn 1 1000000 && (inB p.Asked 0 (w64 (r.Tries - 1)) && (((p.State == 1) && inB p.Until 0 (w64 (now + r.Rest))) || ((p.State == 2) && inB p.Until 1 (w64 (now + r.Window)))))))))) := by
  intro b; unfold d_xca_j1; simp only [wi_eq, ix_eq, bd_some, jn_eq, br_not, h2, Bool.not_true, Bool.false_and, br_and, br_andn, Bool.not_not]
 unfold d_xca; simp only [impl_RulesOk hr, wi_eq, ix_eq, bd_some, jn_eq, br_not, h1, Bool.not_true, Bool.false_and, br_and]; rfl
def levelI (r : GRules) (tier waited : Int) : Int := if 0 > w64 (tier - w64 (waited.tdiv r.Period)) then 0 else w64 (tier - w64 (waited.tdiv r.Period))
theorem l1Max_eq (a b : Int) : d_xbl a b = some (if a > b then a else b) := by
 unfold d_xbl; rw [br_dec]; split <;> rfl
theorem spec_l5Level {r : GRules} (hr : r.Period ≠ 0) (t w : Int) : d_xbm r t w = some (levelI r t w) := by
 unfold d_xbm; rw [gd_t hr, l1Max_eq, bd_some]; rfl
theorem levelI_nn (r : GRules) (t w : Int) : 0 <= levelI r t w := by unfold levelI; split <;> omega
theorem partyB_ok {r : GRules} {p : GParty} {now : Int} (h : partyB r p now = true) : rulesB r = true /\ (0 <= now /\ now <= 1000000) /\ (1 <= p.Id /\ p.Id <= 999) /\ (0 <= p.Cabin /\ p.Cabin <= r.Seats.length - 1) /\ (-1 <= p.From /\ p.From <= r.Seats.length - 1) /\ p.From ≠ p.Cabin /\ (1 <= p.Size /\ p.Size <= r.Size) /\ (0 <= p.Tier /\ p.Tier <= r.Tiers - 1) /\ (0 <= p.Since /\ p.Since <= now) /\ (1 <= p.Turn /\ p.Turn <= 1000000) /\ (0 <= p.Asked /\ p.Asked <= r.Tries - 1) /\ (p.State = 1 /\ 0 <= p.Until /\ p.Until <= now + r.Rest ∨ p.State = 2 /\ 1 <= p.Until /\ p.Until <= now + r.Window) := by
 unfold partyB at h; simp only [Bool.and_eq_true, inB_iff, Bool.or_eq_true, beq_iff_eq, Bool.not_eq_true', beq_eq_false_iff_ne] at h; obtain ⟨h1, h2, h3, h4, h5, h6, h7, h8, h9, h10, h11, h12⟩ := h; have hr := rulesB_ok h1; rw [w64_id (by omega) (by omega)] at h4 h5 h8 h11; rw [w64_id (by omega) (by omega), w64_id (by omega) (by omega)] at h12; exact ⟨h1, h2, h3, h4, h5, h6, h7, h8, h9, h10, h11, h12⟩
def levelOf (r : GRules) (p : GParty) (now : Int) : Int := if partyB r p now = true then levelI r p.Tier (w64 (now - p.Since)) else -1
theorem spec_LevelOf {r : GRules} (hr : r.Seats.length < 2 ^ 62) (p : GParty) (now : Int) : d_xbn r p now = some (levelOf r p now) := by
 unfold d_xbn levelOf; rw [spec_PartyOk hr, bd_some, br_not, br_if]; split
 ·rename_i h; have := (rulesB_ok (partyB_ok h).1).2.2.2.2.1; rw [spec_l5Level (by omega), bd_some]
 ·rfl
theorem impl_LevelOf {r : GRules} (hr : r.Seats.length < 2 ^ 62) (p : GParty) (now : Int) : d_xcq r p now = some (levelOf r p now) := by
 unfold d_xcq levelOf; rw [impl_PartyOk hr, bd_some, br_not, br_if]; split
 ·rename_i h; have hp := partyB_ok h; have hq := rulesB_ok hp.1; unfold d_xcp d_xcp_j1; rw [impl_RulesOk hr, hp.1, bd_some, br_not, br_t, ix_eq, bd_some, br_not]; have e1 : inB p.Tier 0 (w64 (r.Tiers - 1)) = true := by rw [inB_iff, w64_id (by omega) (by omega)]; omega
  have e2 : decide (w64 (now - p.Since) < 0) = false := by rw [w64_id (by omega) (by omega)]; simp; omega
  rw [e1, br_t, jn_eq, e2, br_f, gd_t (by omega), bd_some, if_pos rfl]; unfold levelI; congr 1; split <;> split <;> omega
 ·rfl
def entryOf (r : GRules) (p : GParty) (now : Int) : GEntry × Bool := if partyB r p now = true /\ p.State = 1 then (⟨levelOf r p now, p.Turn, p.Id, p.Size⟩, true) else (⟨0, 0, 0, 0⟩, false)
theorem spec_EntryOf {r : GRules} (hr : r.Seats.length < 2 ^ 62) (p : GParty) (now : Int) : d_xbo r p now = some (entryOf r p now) := by
 unfold d_xbo d_xbo_j1 entryOf; rw [spec_LevelOf hr, bd_some, br_dec, jn_eq, jn_eq, br_t]; by_cases h : partyB r p now = true
 ·have := levelI_nn r p.Tier (w64 (now - p.Since)); have e : ¬ levelOf r p now < 0 := by unfold levelOf; rw [if_pos h]; omega
  rw [if_neg e, br_if]; by_cases h2 : p.State = 1 <;> simp [h, h2]
 ·have e : levelOf r p now < 0 := by unfold levelOf; rw [if_neg h]; omega
  rw [if_pos e, if_neg (fun g => h g.1)]
theorem impl_EntryOf {r : GRules} (hr : r.Seats.length < 2 ^ 62) (p : GParty) (now : Int) : d_xcr r p now = some (entryOf r p now) := by
 unfold d_xcr d_xcr_j1 entryOf; rw [impl_PartyOk hr, bd_some, br_not, br_if, jn_eq, jn_eq, br_t, impl_LevelOf hr, bd_some, br_if]; by_cases h : partyB r p now = true
 ·rw [if_pos h]; by_cases h2 : p.State = 1 <;> simp [h, h2]
 ·rw [if_neg h, if_neg (fun g => h g.1)]
def ledgerB (l : GLedger) : Bool := inB l.Total 1 60 && (inB l.Free 0 l.Total && (inB l.Held 0 l.Total && (inB l.Sold 0 l.Total && ((w64 (w64 (l.Free + l.Held) + l.Sold) == l.Total) && inB l.Tied 0 l.Sold))))
theorem spec_LedgerOk (l : GLedger) : d_xbd l = some (ledgerB l) := by
 unfold d_xbd d_xbd_j1 ledgerB; simp only [in_eq, bd_some, jn_eq, br_and]
theorem impl_LedgerOk (l : GLedger) : d_xcc l = some (ledgerB l) := by
 unfold d_xcc d_xcc_j1 ledgerB; simp only [wi_eq, bd_some, jn_eq, br_and]
def areaB (a : GArea) : Bool := decide ((a.Data.length : Int) <= 20000) && inB a.Safe 0 a.Data.length
theorem spec_AreaOk (a : GArea) : d_xb2 a = some (areaB a) := by
 unfold d_xb2 d_xb2_j1 areaB; simp only [in_eq, bd_some, jn_eq, br_and]
theorem impl_AreaOk (a : GArea) : d_xdd a = some (areaB a) := by
 unfold d_xdd d_xdd_j1 areaB; simp only [wi_eq, bd_some, jn_eq, br_and]
def storeB (s : GStore) : Bool := areaB s.Log && (areaB s.Even && areaB s.Odd)
theorem spec_StoreOk (s : GStore) : d_xb3 s = some (storeB s) := by
 unfold d_xb3 d_xb3_j1 storeB; simp only [spec_AreaOk, bd_some, jn_eq, br_and]
theorem impl_StoreOk (s : GStore) : d_xde s = some (storeB s) := by
 unfold d_xde d_xde_j1 storeB; simp only [impl_AreaOk, bd_some, jn_eq, br_and]
end Lv.P
namespace Lv.P
open Go (IntKind BinOp UnOp)
section
variable {α : Type} (lt : α -> α -> Bool)
def put (x : α) : List α -> List α
 | [] => [x]
 | z :: l => if lt z x = true then z :: put x l else x :: z :: l
def ins (x : α) : List α -> List α
 | [] => [x]
 | z :: l => if lt x z = true then x :: z :: l else z :: ins x l
structure Swo : Prop where
 asym : ∀ a b, lt a b = true -> lt b a = false
 neg : ∀ a b c, lt a c = true -> lt a b = true ∨ lt b c = true
def isort (l : List α) : List α := l.foldr (put lt) []
variable {lt}
theorem Swo.trans (h : Swo lt) {a b c : α} (h1 : lt a b = true) (h2 : lt b c = true) : lt a c = true := by
 rcases h.neg a c b h1 with h3 | h3
 ·exact h3
 ·rw [h.asym _ _ h2] at h3; cases h3
theorem ins_put (h : Swo lt) (x y : α) : ∀ l, ins lt x (put lt y l) = put lt y (ins lt x l)
 | [] => by simp only [put, ins]
 | z :: l => by
  cases h1 : lt z y with
  | true =>
   cases h2 : lt x z with
   | true => simp only [put, ins, h1, h2, h.trans h2 h1, if_true]
   | false => simp [put, ins, h1, h2, ins_put h x y l]
  | false =>
   cases h2 : lt x y with
   | true =>
    have h3 : lt x z = true := (h.neg x z y h2).resolve_right (by simp [h1]); simp [put, ins, h1, h2, h3]
   | false =>
    cases h3 : lt x z <;> simp [put, ins, h1, h2, h3]
theorem put_put (h : Swo lt) (ht : ∀ a b, lt a b = false -> lt b a = false -> a = b) (x y : α) : ∀ l, put lt x (put lt y l) = put lt y (put lt x l)
 | [] => by
  simp only [put]; cases h1 : lt y x with
  | true => simp [h.asym _ _ h1]
  | false =>
   cases h2 : lt x y with
   | true => simp
   | false => simp [ht _ _ h1 h2]
 | z :: l => by
  cases h1 : lt z y with
  | true =>
   cases h2 : lt z x with
   | true => simp only [put, h1, h2, if_true]; rw [put_put h ht x y l]
   | false =>
    have h3 : lt x y = true := (h.neg z x y h1).resolve_left (by simp [h2]); simp [put, h1, h2, h3]
  | false =>
   cases h2 : lt z x with
   | true =>
    have h3 : lt y x = true := (h.neg z y x h2).resolve_left (by simp [h1]); simp [put, h1, h2, h3]
   | false =>
    cases h3 : lt y x with
    | true => simp [put, h1, h2, h3, h.asym _ _ h3]
    | false =>
     cases h4 : lt x y with
     | true => simp [put, h1, h2, h3, h4]
     | false => simp [ht _ _ h3 h4]
theorem foldl_ins (h : Swo lt) : ∀ (l acc : List α) (a : α), l.foldl (fun s x => ins lt x s) (put lt a acc) = put lt a (l.foldl (fun s x => ins lt x s) acc)
 | [], _, _ => rfl
 | x :: l, acc, a => by rw [List.foldl_cons, ins_put h, foldl_ins h l, List.foldl_cons]
theorem isort_ins (h : Swo lt) : ∀ l : List α, l.foldl (fun s x => ins lt x s) [] = isort lt l
 | [] => rfl
 | a :: l => by
  rw [List.foldl_cons, show ins lt a [] = put lt a [] from rfl, foldl_ins h, isort_ins h l]; rfl
theorem foldl_put (h : Swo lt) (ht : ∀ a b, lt a b = false -> lt b a = false -> a = b) : ∀ (l acc : List α) (a : α), l.foldl (fun s x => put lt x s) (put lt a acc) = put lt a (l.foldl (fun s x => put lt x s) acc)
 | [], _, _ => rfl
 | x :: l, acc, a => by rw [List.foldl_cons, put_put h ht, foldl_put h ht l, List.foldl_cons]
theorem isort_put (h : Swo lt) (ht : ∀ a b, lt a b = false -> lt b a = false -> a = b) : ∀ l : List α, l.foldl (fun s x => put lt x s) [] = isort lt l
 | [] => rfl
 | a :: l => by rw [List.foldl_cons, foldl_put h ht, isort_put h ht l]; rfl
theorem put_len (x : α) : ∀ l, (put lt x l).length = l.length + 1
 | [] => rfl
 | z :: l => by unfold put; split <;> simp [put_len x l]
theorem ins_len (x : α) : ∀ l, (ins lt x l).length = l.length + 1
 | [] => rfl
 | z :: l => by unfold ins; split <;> simp [ins_len x l]
theorem isort_len : ∀ l : List α, (isort lt l).length = l.length
 | [] => rfl
 | a :: l => by
  have := isort_len l; unfold isort at this ⊢; rw [List.foldr_cons, put_len, this]; rfl
theorem ins_mem {x a : α} : ∀ {l}, a ∈ ins lt x l ↔ a = x ∨ a ∈ l
 | [] => by simp [ins]
 | z :: l => by
  unfold ins; split
  ·simp
  ·rw [List.mem_cons, ins_mem, List.mem_cons]; constructor
   ·rintro (h | h | h) <;> simp [h]
   ·rintro (h | h | h) <;> simp [h]
def Srt (lt : α -> α -> Bool) (l : List α) : Prop := l.Pairwise fun a b => lt b a = false
theorem ins_srt (h : Swo lt) (x : α) : ∀ l, Srt lt l -> Srt lt (ins lt x l)
 | [], _ => by simp [ins, Srt]
 | z :: l, hs => by
  unfold Srt at hs; rw [List.pairwise_cons] at hs; unfold ins Srt; split
  ·rename_i hx; rw [List.pairwise_cons, List.pairwise_cons]; refine ⟨?_, hs⟩; intro b hb; rcases List.mem_cons.1 hb with rfl | hb
   ·exact h.asym _ _ hx
   ·cases e : lt b x with
    | false => rfl
    | true => exact absurd (h.trans e hx) (by simp [hs.1 b hb])
  ·rename_i hx; rw [List.pairwise_cons]; refine ⟨?_, ins_srt h x l hs.2⟩; intro b hb; rcases ins_mem.1 hb with rfl | hb
   ·simpa using hx
   ·exact hs.1 b hb
theorem ins_split {x : α} {s2 : List α} (h2 : ∀ b ∈ s2, lt x b = true) : ∀ {s1 : List α}, (∀ a ∈ s1, lt x a = false) -> ins lt x (s1 ++ s2) = s1 ++ x :: s2
 | [], _ => by
  cases s2 with
  | nil => rfl
  | cons b s => unfold ins; rw [List.nil_append]; simp [h2 b List.mem_cons_self]
 | a :: s1, h1 => by
  rw [List.cons_append]; unfold ins; rw [h1 a List.mem_cons_self, if_neg (by simp), ins_split h2 fun c hc => h1 c (List.mem_cons_of_mem _ hc)]; rfl
theorem innerLoop {γ : Type} (h : Swo lt) {G : (List α × Int -> Option γ) -> List α × Int -> Option γ} {E : List α -> Option γ} {x : α} {r : List α} {M : Nat}
 (g1 : ∀ L t z w, t.length < M -> lt x z = true -> G L (t ++ z :: x :: w, ((t.length + 1 : Nat) : Int)) = L (t ++ x :: z :: w, (t.length : Int)))
 (g2 : ∀ L t z w, t.length < M -> lt x z = false -> G L (t ++ z :: x :: w, ((t.length + 1 : Nat) : Int)) = E (t ++ z :: x :: w)) (g3 : ∀ L w, G L (x :: w, 0) = E (x :: w)) :
 ∀ (k N : Nat) (s1 s2 : List α), s1.length = k -> k <= M -> k < N -> (∀ b ∈ s2, lt x b = true) -> Srt lt s1 -> loopN G N (s1 ++ x :: (s2 ++ r), (k : Int)) = E (ins lt x (s1 ++ s2) ++ r)
 | k, 0, s1, s2, hk, hM, hN, h2, hs => by omega
 | 0, N + 1, s1, s2, hk, hM, hN, h2, hs => by
  obtain rfl := List.eq_nil_of_length_eq_zero hk; rw [loopN_s, List.nil_append, ins_split (s1 := []) h2 (by simp)]; exact g3 _ _
 | k + 1, N + 1, s1, s2, hk, hM, hN, h2, hs => by
  rcases List.eq_nil_or_concat s1 with rfl | ⟨t, z, rfl⟩
  ·simp at hk
  simp only [List.concat_eq_append] at hk hs ⊢; have ht : t.length = k := by simpa using hk
  have hp : Srt lt t /\ ∀ a ∈ t, lt z a = false := by
   unfold Srt at hs ⊢; rw [List.pairwise_append] at hs; exact ⟨hs.1, fun a ha => hs.2.2 a ha z (by simp)⟩
  rw [loopN_s]; subst ht; cases hx : lt x z with
  | true =>
   have e : t ++ [z] ++ x :: (s2 ++ r) = t ++ z :: x :: (s2 ++ r) := by simp
   rw [e, g1 _ _ _ _ (by omega) hx]; have := innerLoop (r := r) h g1 g2 g3 t.length N t (z :: s2) rfl (by omega) (by omega) (by simpa [hx] using h2) hp.1; rw [List.cons_append] at this; rw [this]; simp
  | false =>
   have e : t ++ [z] ++ x :: (s2 ++ r) = t ++ z :: x :: (s2 ++ r) := by simp
   rw [e, g2 _ _ _ _ (by omega) hx, ins_split h2 ?_]
   ·simp
   ·intro a ha; rw [List.mem_append] at ha; rcases ha with ha | ha
    ·cases e : lt x a with
     | false => rfl
     | true =>
      rcases h.neg x z a e with h3 | h3
      ·rw [hx] at h3; cases h3
      ·rw [hp.2 a ha] at h3; cases h3
    ·rw [List.mem_singleton] at ha; subst ha; exact hx
theorem isortLoop (h : Swo lt) {F : (List α × Int -> Option (List α)) -> List α × Int -> Option (List α)} {v0 : List α} (hn : v0.length < 2 ^ 62)
 (step : ∀ L s x r, s.length + 1 + r.length = v0.length -> 0 < s.length -> Srt lt s -> F L (s ++ x :: r, (s.length : Int)) = L (ins lt x s ++ r, ((s.length + 1 : Nat) : Int)))
 (stop : ∀ L v (i : Nat), v0.length <= i -> F L (v, (i : Int)) = some v) : loopN F big (v0, 1) = some (isort lt v0) := by
 cases v0 with
 | nil =>
  have := big_succ 0 (by omega); obtain ⟨n, hb⟩ := this; rw [hb, Nat.add_zero, loopN_s]; exact stop _ _ 1 (by simp)
 | cons a l =>
  have := forLoop (F := F) (n := l.length) (fun i (v : List α × List α) => (v.1 ++ v.2, ((i + 1 : Nat) : Int))) (fun i v => v.1.length = i + 1 /\ v.2.length + i = l.length /\ Srt lt v.1) (fun i v => some (v.2.foldl (fun s x => ins lt x s) v.1)) (by simp at hn; omega) ?_ (v := ([a], l)) ⟨rfl, rfl, by simp [Srt]⟩
  ·rw [<- isort_ins h]; exact this
  ·rintro L i ⟨s, r⟩ ⟨h1, h2, h3⟩ hi ih; dsimp only at h1 h2 h3 ih ⊢; cases r with
   | nil =>
    rw [stop _ _ _ (by simp at h2 ⊢; omega)]; simp
   | cons x r =>
    have hl : s.length + 1 + r.length = (a :: l).length := by simp at h2 ⊢; omega
    rw [<- h1, step L s x r hl (by omega) h3, List.foldl_cons]; have := ih (ins lt x s, r) ⟨by dsimp only; rw [ins_len, h1], by dsimp only; simp at h2 ⊢; omega, ins_srt h x s h3⟩ (by simp at h2; omega); rw [<- this, h1]
theorem putLoop' {γ : Type} {F : (Int -> Option γ) -> Int -> Option γ} {l : List α} {x : α} (J : List α -> Option γ) (hl : l.length < 2 ^ 62)
 (step : ∀ L (i : Nat) (h : i < l.length), F L (i : Int) = br (lt l[i] x) (L (w64 ((i : Int) + 1))) (J (l.take i ++ x :: l.drop i)))
 (stop : ∀ L, F L (l.length : Int) = J (l ++ [x])) : loopN F big 0 = J (put lt x l) := by
 refine (forLoop (n := l.length) (fun i (_ : Unit) => (i : Int)) (fun _ _ => True) (fun i _ => J (l.take i ++ put lt x (l.drop i))) (by omega) ?_ (v := ()) trivial).trans (by simp); intro L i _ _ hi ih; rcases Nat.lt_or_ge i l.length with h | h
 ·rw [step L i h, w64_succ h (by omega), drop_at h, put]; cases e : lt l[i] x with
  | true =>
   have e2 : l.take (i + 1) = l.take i ++ [l[i]] := by rw [List.take_add_one, List.getElem?_eq_getElem h]; rfl
   rw [br_t, ih () trivial h, e2, List.append_assoc]; rfl
  | false => rfl
 ·obtain rfl : i = l.length := by omega
  rw [stop]; simp [put]
end
theorem at?_app0 {α : Type} (t w : List α) (z : α) : at? (t ++ z :: w) (t.length : Int) = some z := by rw [at?_nat]; simp
theorem at?_app1 {α : Type} (t w : List α) (z x : α) : at? (t ++ z :: x :: w) ((t.length + 1 : Nat) : Int) = some x := by rw [at?_nat]; simp
theorem set_app0 {α : Type} (t w : List α) (z a : α) : (t ++ z :: w).set t.length a = t ++ a :: w := by simp
theorem set_app1 {α : Type} (t w : List α) (z x a : α) : (t ++ z :: x :: w).set (t.length + 1) a = t ++ z :: a :: w := by
 rw [List.set_append_right _ _ (by omega), show t.length + 1 - t.length = 1 by omega]; rfl
theorem w64_pred (n : Nat) (h : 0 < n) (hn : n < 2 ^ 63) : w64 ((n : Int) - 1) = ((n - 1 : Nat) : Int) := by rw [w64_id (by omega) (by omega)]; omega
theorem cmp_eq (a b : Int) : d_xce a b = some (if a < b then -1 else if a > b then 1 else 0) := by
 unfold d_xce d_xcd; have hne : ∀ (b : Int), (b != b) = false := by simp
 simp only [bd_some, hne, br_f, br_dec]; split
 ·rfl
 ·split <;> rfl
def ltE (a b : GEntry) : Bool := decide (a.Level < b.Level) || ((a.Level == b.Level) && decide (a.Turn < b.Turn))
theorem ltE_iff {a b : GEntry} : ltE a b = true ↔ a.Level < b.Level ∨ a.Level = b.Level /\ a.Turn < b.Turn := by simp [ltE]
theorem ltE_niff {a b : GEntry} : ltE a b = false ↔ ¬ (a.Level < b.Level ∨ a.Level = b.Level /\ a.Turn < b.Turn) := by rw [<- ltE_iff]; simp
def ltP (a b : GPin) : Bool := decide (a.At < b.At) || ((a.At == b.At) && decide (a.Id < b.Id))
theorem ltP_iff {a b : GPin} : ltP a b = true ↔ a.At < b.At ∨ a.At = b.At /\ a.Id < b.Id := by simp [ltP]
theorem ltP_niff {a b : GPin} : ltP a b = false ↔ ¬ (a.At < b.At ∨ a.At = b.At /\ a.Id < b.Id) := by rw [<- ltP_iff]; simp
theorem ltE_swo : Swo ltE := ⟨fun a b h => by rw [ltE_iff] at h; rw [ltE_niff]; omega, fun a b c h => by rw [ltE_iff] at *; rw [ltE_iff]; omega⟩
theorem ltP_swo : Swo ltP := ⟨fun a b h => by rw [ltP_iff] at h; rw [ltP_niff]; omega, fun a b c h => by rw [ltP_iff] at *; rw [ltP_iff]; omega⟩
theorem ltP_tot (a b : GPin) (h1 : ltP a b = false) (h2 : ltP b a = false) : a = b := by
 rw [ltP_niff] at h1 h2; obtain ⟨x, y⟩ := a; obtain ⟨z, w⟩ := b; dsimp only at h1 h2; have : x = z := by omega
 have : y = w := by omega
 subst x y; rfl
theorem spec_EntryLess (a b : GEntry) : d_xbe a b = some (ltE a b) := by
 unfold d_xbe d_xbe_j1 ltE; simp only [jn_eq, br_and, br_or]
theorem spec_l9Less (a b : GPin) : d_xbi a b = some (ltP a b) := by
 unfold d_xbi d_xbi_j1 ltP; simp only [jn_eq, br_and, br_or]
theorem impl_cmpE (a b : GEntry) : ∃ c, d_xcf a b = some c /\ decide (c < 0) = ltE a b := by
 unfold d_xcf; rw [cmp_eq, bd_some, br_if, cmp_eq, bd_some]; refine ⟨if a.Level < b.Level then -1 else if a.Level > b.Level then 1 else if a.Turn < b.Turn then -1 else if a.Turn > b.Turn then 1 else 0, ?_, ?_⟩
 ·split <;> split <;> simp_all
 ·rw [Bool.eq_iff_iff, decide_eq_true_iff, ltE_iff]
  repeat' split
  all_goals omega
theorem impl_EntryLess (a b : GEntry) : d_xcg a b = some (ltE a b) := by
 unfold d_xcg; obtain ⟨c, h1, h2⟩ := impl_cmpE a b; rw [h1, bd_some, h2]
theorem impl_cmpP (a b : GPin) : ∃ c, d_xcm a b = some c /\ decide (c < 0) = ltP a b /\ decide (c > 0) = ltP b a := by
 unfold d_xcm; rw [cmp_eq, bd_some, br_if, cmp_eq, bd_some]; refine ⟨if a.At < b.At then -1 else if a.At > b.At then 1 else if a.Id < b.Id then -1 else if a.Id > b.Id then 1 else 0, ?_, ?_, ?_⟩
 ·split <;> split <;> simp_all
 ·rw [Bool.eq_iff_iff, decide_eq_true_iff, ltP_iff]
  repeat' split
  all_goals omega
 ·rw [Bool.eq_iff_iff, decide_eq_true_iff, ltP_iff]
  repeat' split
  all_goals omega
theorem sortE {l : List GEntry} (hl : l.length < 2 ^ 62) : d_xcs l 0 l.length = some (isort ltE l) := by
 unfold d_xcs; refine isortLoop ltE_swo hl ?_ ?_
 ·intro L s x r hn hs hsrt; unfold d_xcs_l1; dsimp only; rw [decn_lt (by omega), br_t]; have := innerLoop (G := d_xcs_l2 0 L s.length) (E := fun v => L (v, ((s.length + 1 : Nat) : Int))) (x := x) (r := r) (M := s.length) ltE_swo ?_ ?_ ?_ s.length big s [] rfl (by omega) (big_pos _ (by omega)) (by simp) hsrt
  ·rw [List.nil_append, List.append_nil] at this; exact this
  all_goals unfold d_xcs_l2 d_xcs_j3 d_xcs_j4
  ·intro L' t z w ht hx; obtain ⟨c, h1, h2⟩ := impl_cmpE x z; have e := w64_pred (t.length + 1) (by omega) (by omega); have e0 : ((t.length + 1 : Nat) : Int) > 0 := by omega
   dsimp only; have h3 : c < 0 := by rw [hx, decide_eq_true_iff] at h2; exact h2
   simp only [br_dec, jn_eq, e, Nat.add_sub_cancel, at?_app0, at?_app1, bd_some, h1, set_app0, set_app1, Int.toNat_natCast, e0, h3, if_true]
  ·intro L' t z w ht hx; obtain ⟨c, h1, h2⟩ := impl_cmpE x z; have e := w64_pred (t.length + 1) (by omega) (by omega); have e0 : ((t.length + 1 : Nat) : Int) > 0 := by omega
   have e1 := w64_succ (i := s.length) (n := s.length + 1) (by omega) (by omega); dsimp only; have h3 : ¬ c < 0 := by rw [hx, decide_eq_false_iff_not] at h2; exact h2
   simp only [br_dec, jn_eq, e, Nat.add_sub_cancel, at?_app0, at?_app1, bd_some, h1, e0, h3, if_true, if_false, e1]
  ·intro L' w; have e1 := w64_succ (i := s.length) (n := s.length + 1) (by omega) (by omega); dsimp only; rw [br_dec, if_neg (by omega), jn_eq, br_f, jn_eq, e1]
 ·intro L v i hi; unfold d_xcs_l1; dsimp only; rw [br_dec, if_neg (by omega)]
theorem sortP {l : List GPin} (hl : l.length < 2 ^ 62) : d_xcz l 0 l.length = some (isort ltP l) := by
 unfold d_xcz; refine isortLoop ltP_swo hl ?_ ?_
 ·intro L s x r hn hs hsrt; unfold d_xcz_l1; dsimp only; rw [decn_lt (by omega), br_t]; have := innerLoop (G := d_xcz_l2 0 L s.length) (E := fun v => L (v, ((s.length + 1 : Nat) : Int))) (x := x) (r := r) (M := s.length) ltP_swo ?_ ?_ ?_ s.length big s [] rfl (by omega) (big_pos _ (by omega)) (by simp) hsrt
  ·rw [List.nil_append, List.append_nil] at this; exact this
  all_goals unfold d_xcz_l2 d_xcz_j3 d_xcz_j4
  ·intro L' t z w ht hx; obtain ⟨c, h1, h2, _⟩ := impl_cmpP x z; have e := w64_pred (t.length + 1) (by omega) (by omega); have e0 : ((t.length + 1 : Nat) : Int) > 0 := by omega
   dsimp only; have h3 : c < 0 := by rw [hx, decide_eq_true_iff] at h2; exact h2
   simp only [br_dec, jn_eq, e, Nat.add_sub_cancel, at?_app0, at?_app1, bd_some, h1, set_app0, set_app1, Int.toNat_natCast, e0, h3, if_true]
  ·intro L' t z w ht hx; obtain ⟨c, h1, h2, _⟩ := impl_cmpP x z; have e := w64_pred (t.length + 1) (by omega) (by omega); have e0 : ((t.length + 1 : Nat) : Int) > 0 := by omega
   have e1 := w64_succ (i := s.length) (n := s.length + 1) (by omega) (by omega); dsimp only; have h3 : ¬ c < 0 := by rw [hx, decide_eq_false_iff_not] at h2; exact h2
   simp only [br_dec, jn_eq, e, Nat.add_sub_cancel, at?_app0, at?_app1, bd_some, h1, e0, h3, if_true, if_false, e1]
  ·intro L' w; have e1 := w64_succ (i := s.length) (n := s.length + 1) (by omega) (by omega); dsimp only; rw [br_dec, if_neg (by omega), jn_eq, br_f, jn_eq, e1]
 ·intro L v i hi; unfold d_xcz_l1; dsimp only; rw [br_dec, if_neg (by omega)]
theorem stableE {l : List GEntry} (hl : l.length <= 19) : d_xcu l = some (isort ltE l) := by
 unfold d_xcu d_xct; obtain ⟨n, hb⟩ := big_succ 0 (by omega); rw [Nat.add_zero] at hb; have e : loopN (d_xct_l1 (l.length : Int)) big (l, 0, 20) = some (isort ltE l) := by
  rw [hb, loopN_s]; unfold d_xct_l1; dsimp only; rw [br_dec, if_neg (by omega), jn_eq]; unfold d_xct_j2; dsimp only; rw [sortE (by omega), bd_some, hb, loopN_s]; unfold d_xct_l3; rw [br_dec, if_neg (by omega)]
 rw [e, bd_some]
theorem stableP {l : List GPin} (hl : l.length <= 19) : d_xc4 l = some (isort ltP l) := by
 unfold d_xc4 d_xc3; obtain ⟨n, hb⟩ := big_succ 0 (by omega); rw [Nat.add_zero] at hb; have e : loopN (d_xc3_l1 (l.length : Int)) big (l, 0, 20) = some (isort ltP l) := by
  rw [hb, loopN_s]; unfold d_xc3_l1; dsimp only; rw [br_dec, if_neg (by omega), jn_eq]; unfold d_xc3_j2; dsimp only; rw [sortP (by omega), bd_some, hb, loopN_s]; unfold d_xc3_l3; rw [br_dec, if_neg (by omega)]
 rw [e, bd_some]
set_option maxRecDepth 100000
theorem bitsLen {n : Nat} (hn : n < 256) : ∃ c, d_xcy (IntKind.u64.wrap (n : Int)) = some c := by
 have e : IntKind.u64.wrap (n : Int) = n := by
  simp only [IntKind.wrap, IntKind.bits, IntKind.signed]; simp; omega
 unfold d_xcy d_xcx; rw [e, br_dec, if_neg (by omega), jn_eq]; unfold d_xcx_j1; dsimp only; rw [br_dec, if_neg (by omega), jn_eq]; unfold d_xcx_j2; dsimp only; rw [br_dec, if_neg (by omega), jn_eq]; unfold d_xcx_j3; dsimp only; rw [at?_lt (UInt8.toNat_lt (toB (n : Int))), bd_some, bd_some]; exact ⟨_, rfl⟩
theorem sortFP {l : List GPin} (hl : l.length <= 12) : d_xc1 l = some (isort ltP l) := by
 unfold d_xc1 d_xc0; obtain ⟨c, hc⟩ := bitsLen (n := l.length) (by omega); rw [hc, bd_some]; obtain ⟨n, hb⟩ := big_succ 0 (by omega); rw [Nat.add_zero] at hb; rw [hb, loopN_s]; unfold d_xc0_l1; rw [br_dec, if_pos (by rw [w64_id (by omega) (by omega)]; omega), sortP (by omega), bd_some, bd_some]
end Lv.P
namespace Lv.P
open Go (IntKind BinOp UnOp)
section
variable {α σ γ : Type}
theorem foldOf {l : List α} {F : (σ × Int -> Option γ) -> σ × Int -> Option γ} (f : σ -> α -> σ) (I : Nat -> σ -> Prop) (J : σ -> Option γ) (hl : l.length < 2 ^ 63)
 (step : ∀ L i (h : i < l.length) v, I i v -> F L (v, (i : Int)) = L (f v l[i], w64 ((i : Int) + 1))) (keep : ∀ i (h : i < l.length) v, I i v -> I (i + 1) (f v l[i]))
 (stop : ∀ L v, I l.length v -> F L (v, (l.length : Int)) = J v) {v0 : σ} (h0 : I 0 v0) : loopN F big (v0, 0) = J (l.foldl f v0) := by
 refine (forLoop (n := l.length) (fun i (v : σ) => (v, (i : Int))) I (fun i v => J ((l.drop i).foldl f v)) hl ?_ h0); intro L i v hv hi ih; rcases Nat.lt_or_ge i l.length with h | h
 ·rw [step L i h v hv, w64_succ h hl, drop_at h, List.foldl_cons]; exact ih _ (keep i h v hv) h
 ·obtain rfl : i = l.length := by omega
  rw [stop L v hv, List.drop_length]; rfl
def sameL (eq : α -> α -> Bool) : List α -> List α -> Bool
 | [], [] => true
 | x :: a, y :: b => eq x y && sameL eq a b
 | _, _ => false
theorem sameL_ne {eq : α -> α -> Bool} : ∀ {a b : List α}, a.length ≠ b.length -> sameL eq a b = false
 | [], [], h => by simp at h
 | [], y :: b, h => rfl
 | x :: a, [], h => rfl
 | x :: a, y :: b, h => by rw [sameL, sameL_ne (a := a) (b := b) (by simpa using h), Bool.and_false]
theorem sameLoop {eq : α -> α -> Bool} {a b : List α} {F : (Int -> Option Bool) -> Int -> Option Bool} (hl : a.length < 2 ^ 63) (hab : a.length = b.length)
 (step : ∀ L i (h : i < a.length) (h' : i < b.length), F L (i : Int) = br (!(eq a[i] b[i])) (some false) (L (w64 ((i : Int) + 1)))) (stop : ∀ L, F L (a.length : Int) = some true) : loopN F big 0 = some (sameL eq a b) := by
 refine (forLoop (n := a.length) (fun i (_ : Unit) => (i : Int)) (fun _ _ => True) (fun i _ => some (sameL eq (a.drop i) (b.drop i))) hl ?_ (v := ()) trivial); intro L i _ _ hi ih; rcases Nat.lt_or_ge i a.length with h | h
 ·rw [step L i h (by omega), w64_succ h hl, drop_at h, drop_at (l := b) (i := i) (by omega), sameL, br_not]; cases eq a[i] b[i] with
  | true => rw [br_t, ih () trivial h]; rfl
  | false => rfl
 ·obtain rfl : i = a.length := by omega
  rw [stop, List.drop_length, List.drop_eq_nil_of_le (by omega)]; rfl
theorem sameFn {eq : α -> α -> Bool} {a b : List α} {F : (Int -> Option Bool) -> Int -> Option Bool} (hl : a.length < 2 ^ 63)
 (step : ∀ L i (h : i < a.length) (h' : i < b.length), F L (i : Int) = br (!(eq a[i] b[i])) (some false) (L (w64 ((i : Int) + 1)))) (stop : ∀ L, F L (a.length : Int) = some true) :
 br ((a.length : Int) != (b.length : Int)) (some false) (loopN F big 0) = some (sameL eq a b) := by
 by_cases h : a.length = b.length
 ·have e : ((a.length : Int) != (b.length : Int)) = false := by simp [h]
  rw [e, br_f, sameLoop hl h step stop]
 ·have e : ((a.length : Int) != (b.length : Int)) = true := by simp; omega
  rw [e, br_t, sameL_ne h]
def atF (p : α -> Bool) : List α -> Nat -> Int
 | [], _ => -1
 | x :: l, i => if p x = true then (i : Int) else atF p l (i + 1)
theorem atLoop {p : α -> Bool} {l : List α} {F : (Int -> Option Int) -> Int -> Option Int} (hl : l.length < 2 ^ 63)
 (step : ∀ L i (h : i < l.length), F L (i : Int) = br (p l[i]) (some (i : Int)) (L (w64 ((i : Int) + 1)))) (stop : ∀ L, F L (l.length : Int) = some (-1)) : loopN F big 0 = some (atF p l 0) := by
 refine (forLoop (n := l.length) (fun i (_ : Unit) => (i : Int)) (fun _ _ => True) (fun i _ => some (atF p (l.drop i) i)) hl ?_ (v := ()) trivial); intro L i _ _ hi ih; rcases Nat.lt_or_ge i l.length with h | h
 ·rw [step L i h, w64_succ h hl, drop_at h, atF]; cases p l[i] with
  | true => rfl
  | false => rw [br_f, ih () trivial h]; simp
 ·obtain rfl : i = l.length := by omega
  rw [stop, List.drop_length]; rfl
theorem atF_none {p : α -> Bool} : ∀ {l : List α} {s : Nat}, atF p l s < 0 ↔ ∀ x ∈ l, p x = false
 | [], s => by simp [atF]
 | x :: l, s => by
  unfold atF; split
  ·rename_i h; simp [h]
  ·rename_i h; rw [atF_none]; simp [h]
theorem atF_take {p : α -> Bool} : ∀ {l : List α} {i : Nat} (s : Nat) (h : i < l.length), p l[i] = true -> ((atF p l s != ((s + i : Nat) : Int)) = decide (atF p (l.take i) s >= 0))
 | [], i, s, h, hp => by simp at h
 | x :: l, 0, s, h, hp => by
  simp only [List.getElem_cons_zero] at hp; simp [atF, hp]
 | x :: l, i + 1, s, h, hp => by
  simp only [List.getElem_cons_succ] at hp; rw [List.take_succ_cons, atF, atF]; by_cases hx : p x = true
  ·rw [if_pos hx, if_pos hx]; rw [Bool.eq_iff_iff]; simp; omega
  ·rw [if_neg hx, if_neg hx]; have := atF_take (l := l) (i := i) (s + 1) (by simpa using h) hp; rw [<- this, show s + 1 + i = s + (i + 1) by omega]
end
def countF (cabin : Int) (n : Int) (p : GParty) : Int := if (p.Cabin == cabin) = true then n + 1 else n
def countI (l : List GParty) (cabin : Int) : Int := l.foldl (countF cabin) 0
def heldF (cabin : Int) (n : Int) (p : GParty) : Int := if ((p.State == 2) && ((p.Cabin == cabin) && inB p.Size 1 6)) = true then n + p.Size else n
def heldI (l : List GParty) (cabin : Int) : Int := l.foldl (heldF cabin) 0
def tiedF (cabin : Int) (n : Int) (p : GParty) : Int := if ((p.From == cabin) && inB p.Size 1 6) = true then n + p.Size else n
def tiedI (l : List GParty) (cabin : Int) : Int := l.foldl (tiedF cabin) 0
theorem countF_eq (cabin : Int) (p : GParty) {i : Nat} {n : Int} (h : 0 <= n /\ n <= i) : 0 <= countF cabin n p /\ countF cabin n p <= ((i + 1 : Nat) : Int) := by unfold countF; split <;> omega
theorem heldF_eq (cabin : Int) (p : GParty) {i : Nat} {n : Int} (h : 0 <= n /\ n <= 6 * i) : 0 <= heldF cabin n p /\ heldF cabin n p <= 6 * ((i + 1 : Nat) : Int) := by
 unfold heldF; split
 ·rename_i g; simp only [Bool.and_eq_true, inB_iff] at g; omega
 ·omega
theorem tiedF_eq (cabin : Int) (p : GParty) {i : Nat} {n : Int} (h : 0 <= n /\ n <= 6 * i) : 0 <= tiedF cabin n p /\ tiedF cabin n p <= 6 * ((i + 1 : Nat) : Int) := by
 unfold tiedF; split
 ·rename_i g; simp only [Bool.and_eq_true, inB_iff] at g; omega
 ·omega
theorem spec_CountIn {l : List GParty} (hl : l.length < 2 ^ 58) (c : Int) : d_xb0 l c = some (countI l c) := by
 unfold d_xb0; refine foldOf (l := l) (countF c) (fun i n => 0 <= n /\ n <= i) some (by omega) ?_ (fun i h v hv => countF_eq c _ hv) ?_ (by simp)
 ·intro L i h v hv; unfold d_xb0_l1 d_xb0_j2 countF; dsimp only; rw [decn_lt h, br_t, at?_lt h, bd_some, jn_eq, jn_eq, w64_id (n := v + 1) (by omega) (by omega), br_if]; split <;> rfl
 ·intro L v hv; unfold d_xb0_l1 d_xb0_j3; dsimp only; rw [decn_ge, br_f, jn_eq]
theorem impl_CountIn {l : List GParty} (hl : l.length < 2 ^ 58) (c : Int) : d_xcb l c = some (countI l c) := by
 unfold d_xcb; refine foldOf (l := l) (countF c) (fun i n => 0 <= n /\ n <= i) some (by omega) ?_ (fun i h v hv => countF_eq c _ hv) ?_ (by simp)
 ·intro L i h v hv; unfold d_xcb_l1 d_xcb_j2 countF; dsimp only; rw [decn_lt h, br_t, at?_lt h, bd_some, jn_eq, jn_eq, w64_id (n := v + 1) (by omega) (by omega), br_if]; split <;> rfl
 ·intro L v hv; unfold d_xcb_l1 d_xcb_j3; dsimp only; rw [decn_ge, br_f, jn_eq]
theorem spec_HeldIn {l : List GParty} (hl : l.length < 2 ^ 58) (c : Int) : d_xbx l c = some (heldI l c) := by
 unfold d_xbx; refine foldOf (l := l) (heldF c) (fun i n => 0 <= n /\ n <= 6 * i) some (by omega) ?_ (fun i h v hv => heldF_eq c _ hv) ?_ (by simp)
 ·intro L i h v hv; have hk := heldF_eq c l[i] hv; unfold heldF at hk ⊢; unfold d_xbx_l1 d_xbx_j2 d_xbx_j3; dsimp only; rw [decn_lt h, br_t]; simp only [at?_lt h, bd_some, jn_eq, in_eq, br_f]; cases h1 : l[i].State == 2 <;> cases h2 : l[i].Cabin == c <;> cases h3 : inB l[i].Size 1 6 <;> simp only [br_t, br_f, Bool.true_and, Bool.false_and, if_true, Bool.false_eq_true, if_false]; rw [h1, h2, h3] at hk; simp only [Bool.true_and, if_true] at hk; rw [w64_id (n := v + l[i].Size) (by omega) (by omega)]
 ·intro L v hv; unfold d_xbx_l1 d_xbx_j4; dsimp only; rw [decn_ge, br_f, jn_eq]
theorem impl_HeldIn {l : List GParty} (hl : l.length < 2 ^ 58) (c : Int) : d_xc7 l c = some (heldI l c) := by
 unfold d_xc7; refine foldOf (l := l) (heldF c) (fun i n => 0 <= n /\ n <= 6 * i) some (by omega) ?_ (fun i h v hv => heldF_eq c _ hv) ?_ (by simp)
 ·intro L i h v hv; have hk := heldF_eq c l[i] hv; unfold heldF at hk ⊢; unfold d_xc7_l1 d_xc7_j2 d_xc7_j3; dsimp only; rw [decn_lt h, br_t]; simp only [at?_lt h, bd_some, jn_eq, wi_eq, br_f]; cases h1 : l[i].State == 2 <;> cases h2 : l[i].Cabin == c <;> cases h3 : inB l[i].Size 1 6 <;> simp only [br_t, br_f, Bool.true_and, Bool.false_and, if_true, Bool.false_eq_true, if_false]; rw [h1, h2, h3] at hk; simp only [Bool.true_and, if_true] at hk; rw [w64_id (n := v + l[i].Size) (by omega) (by omega)]
 ·intro L v hv; unfold d_xc7_l1 d_xc7_j4; dsimp only; rw [decn_ge, br_f, jn_eq]
theorem spec_TiedIn {l : List GParty} (hl : l.length < 2 ^ 58) (c : Int) : d_xby l c = some (tiedI l c) := by
 unfold d_xby; refine foldOf (l := l) (tiedF c) (fun i n => 0 <= n /\ n <= 6 * i) some (by omega) ?_ (fun i h v hv => tiedF_eq c _ hv) ?_ (by simp)
 ·intro L i h v hv; have hk := tiedF_eq c l[i] hv; unfold tiedF at hk ⊢; unfold d_xby_l1 d_xby_j2 d_xby_j3; dsimp only; rw [decn_lt h, br_t]; simp only [at?_lt h, bd_some, jn_eq, in_eq, br_f]; cases h2 : l[i].From == c <;> cases h3 : inB l[i].Size 1 6 <;> simp only [br_t, br_f, Bool.true_and, Bool.false_and, if_true, Bool.false_eq_true, if_false]; rw [h2, h3] at hk; simp only [Bool.true_and, if_true] at hk; rw [w64_id (n := v + l[i].Size) (by omega) (by omega)]
 ·intro L v hv; unfold d_xby_l1 d_xby_j4; dsimp only; rw [decn_ge, br_f, jn_eq]
theorem impl_TiedIn {l : List GParty} (hl : l.length < 2 ^ 58) (c : Int) : d_xc8 l c = some (tiedI l c) := by
 unfold d_xc8; refine foldOf (l := l) (tiedF c) (fun i n => 0 <= n /\ n <= 6 * i) some (by omega) ?_ (fun i h v hv => tiedF_eq c _ hv) ?_ (by simp)
 ·intro L i h v hv; have hk := tiedF_eq c l[i] hv; unfold tiedF at hk ⊢; unfold d_xc8_l1 d_xc8_j2 d_xc8_j3; dsimp only; rw [decn_lt h, br_t]; simp only [at?_lt h, bd_some, jn_eq, wi_eq, br_f]; cases h2 : l[i].From == c <;> cases h3 : inB l[i].Size 1 6 <;> simp only [br_t, br_f, Bool.true_and, Bool.false_and, if_true, Bool.false_eq_true, if_false]; rw [h2, h3] at hk; simp only [Bool.true_and, if_true] at hk; rw [w64_id (n := v + l[i].Size) (by omega) (by omega)]
 ·intro L v hv; unfold d_xc8_l1 d_xc8_j4; dsimp only; rw [decn_ge, br_f, jn_eq]
def eqE (x y : GEntry) : Bool := x.Level == y.Level && (x.Turn == y.Turn && (x.Id == y.Id && (x.Size == y.Size && true)))
def eqP (x y : GPin) : Bool := x.At == y.At && (x.Id == y.Id && true)
theorem spec_SameRow {a b : List GEntry} (hl : a.length < 2 ^ 62) : d_xbs a b = some (sameL eqE a b) := by
 unfold d_xbs; refine sameFn (by omega) ?_ ?_
 ·intro L i h h'; unfold d_xbs_l1; rw [decn_lt h, br_t, at?_lt h, bd_some, at?_lt h', bd_some]; rfl
 ·intro L; unfold d_xbs_l1 d_xbs_j2; rw [decn_ge, br_f, jn_eq]
theorem impl_EqualE {a b : List GEntry} (hl : a.length < 2 ^ 62) : d_xcw a b = some (sameL eqE a b) := by
 unfold d_xcw; refine sameFn (by omega) ?_ ?_
 ·intro L i h h'; unfold d_xcw_l1; rw [decn_lt h, br_t, at?_lt h, bd_some, at?_lt h', bd_some]; rfl
 ·intro L; unfold d_xcw_l1 d_xcw_j2; rw [decn_ge, br_f, jn_eq]
theorem spec_SamePins {a b : List GPin} (hl : a.length < 2 ^ 62) : d_xbw a b = some (sameL eqP a b) := by
 unfold d_xbw; refine sameFn (by omega) ?_ ?_
 ·intro L i h h'; unfold d_xbw_l1; rw [decn_lt h, br_t, at?_lt h, bd_some, at?_lt h', bd_some]; rfl
 ·intro L; unfold d_xbw_l1 d_xbw_j2; rw [decn_ge, br_f, jn_eq]
theorem impl_EqualP {a b : List GPin} (hl : a.length < 2 ^ 62) : d_xc6 a b = some (sameL eqP a b) := by
 unfold d_xc6; refine sameFn (by omega) ?_ ?_
 ·intro L i h h'; unfold d_xc6_l1; rw [decn_lt h, br_t, at?_lt h, bd_some, at?_lt h', bd_some]; rfl
 ·intro L; unfold d_xc6_l1 d_xc6_j2; rw [decn_ge, br_f, jn_eq]
end Lv.P
namespace Lv.P
open Go (IntKind BinOp UnOp)
def getP {α : Type} (l : List α) (k : Nat) (p : α -> Bool) : Bool := match l[k]? with | some x => p x | none => true
theorem getP_lt {α : Type} {l : List α} {k : Nat} (h : k < l.length) (p : α -> Bool) : getP l k p = p l[k] := by unfold getP; rw [List.getElem?_eq_getElem h]
theorem dec_pos (i : Nat) : decide ((i : Int) > 0) = decide (0 < i) := by rw [decide_eq_decide]; omega
theorem len1 {α : Type} (l : List α) (x : α) : l.length + [x].length = l.length + 1 := rfl
theorem spec_QueueAt {l : List GEntry} (hl : l.length < 2 ^ 62) (id : Int) : d_xbf l id = some (atF (fun x => x.Id == id) l 0) := by
 unfold d_xbf; refine atLoop (by omega) ?_ ?_
 ·intro L i h; unfold d_xbf_l1; rw [decn_lt h, br_t, at?_lt h, bd_some]
 ·intro L; unfold d_xbf_l1 d_xbf_j2; rw [decn_ge, br_f, jn_eq]
theorem impl_QueueAt {l : List GEntry} (hl : l.length < 2 ^ 62) (id : Int) : d_xcj l id = some (atF (fun x => x.Id == id) l 0) := by
 unfold d_xcj d_xci; rw [atLoop (l := l) (p := fun x => x.Id == id) (by omega) ?_ ?_, bd_some]
 ·intro L i h; unfold d_xci_l1 d_xch; rw [decn_lt h, br_t, at?_lt h, bd_some, bd_some]
 ·intro L; unfold d_xci_l1 d_xci_j2; rw [decn_ge, br_f, jn_eq]
def entB (e : GEntry) : Bool := inB e.Level 0 4 && (inB e.Turn 1 1000000 && (inB e.Id 1 999 && inB e.Size 1 6))
def qAt (l : List GEntry) (i : Nat) : Bool :=
 getP l i fun e => entB e && ((if 0 < i then getP l (i - 1) (fun d => ltE d e) else true) && !(decide (atF (fun x => x.Id == e.Id) (l.take i) 0 >= 0)))
def queueB (l : List GEntry) : Bool := !(decide ((l.length : Int) > 10)) && rAll (qAt l) 0 l.length
theorem spec_QueueOk (l : List GEntry) (hl : l.length < 2 ^ 62) : d_xbg l = some (queueB l) := by
 unfold d_xbg queueB; rw [allIdx (n := l.length) (E := some true) (qAt l) (by omega) ?_ ?_, br_and, Bool.and_true, br_andn]
 ·intro L i h; have hw := w64_succ h (show l.length < 2 ^ 63 by omega); unfold qAt; rw [getP_lt h]; unfold d_xbg_l1; rw [decn_lt h, br_t, at?_lt h, bd_some]; have hj3 : ∀ b, d_xbg_j3 L i b = br (!b) (L ((i + 1 : Nat) : Int)) (some false) := by intro b; unfold d_xbg_j3; rw [hw]; cases b <;> rfl
  have hq : (atF (fun x => x.Id == l[i].Id) l 0 != (i : Int)) = decide (atF (fun x => x.Id == l[i].Id) (l.take i) 0 >= 0) := by
   have := atF_take (p := fun x => x.Id == l[i].Id) 0 h (by simp); rw [Nat.zero_add] at this; exact this
  have hj2 : ∀ b, d_xbg_j2 l L i l[i] b = br (!b && ((if 0 < i then getP l (i - 1) (fun d => ltE d l[i]) else true) && !(decide (atF (fun x => x.Id == l[i].Id) (l.take i) 0 >= 0)))) (L ((i + 1 : Nat) : Int)) (some false) := by
   intro b; unfold d_xbg_j2; rw [dec_pos]; by_cases h0 : 0 < i
   ·rw [decide_eq_true h0, br_t, if_pos h0, w64_pred i h0 (by omega), at?_lt (show i - 1 < l.length by omega), bd_some, spec_EntryLess, bd_some, br_not, spec_QueueAt hl, bd_some, jn_eq, jn_eq, hj3, hj3, hq, getP_lt (by omega)]; cases b <;> cases ltE l[i - 1] l[i] <;> rfl
   ·rw [decide_eq_false h0, br_f, if_neg h0, spec_QueueAt hl, bd_some, jn_eq, hj3, hq]; cases b <;> rfl
  unfold entB; simp only [in_eq, bd_some, jn_eq, br_not, hj2]; generalize ((if 0 < i then getP l (i - 1) (fun d => ltE d l[i]) else true) && !(decide (atF (fun x => x.Id == l[i].Id) (l.take i) 0 >= 0))) = X; cases inB l[i].Level 0 4 <;> cases inB l[i].Turn 1 1000000 <;> cases inB l[i].Id 1 999 <;> cases inB l[i].Size 1 6 <;> rfl
 ·intro L; unfold d_xbg_l1 d_xbg_j4; rw [decn_ge, br_f, jn_eq]
theorem impl_QueueOk (l : List GEntry) (hl : l.length < 2 ^ 62) : d_xck l = some (queueB l) := by
 unfold d_xck queueB; rw [allIdx (n := l.length) (E := some true) (qAt l) (by omega) ?_ ?_, br_and, Bool.and_true, br_andn]
 ·intro L i h; have hw := w64_succ h (show l.length < 2 ^ 63 by omega); unfold qAt; rw [getP_lt h]; unfold d_xck_l1; rw [decn_lt h, br_t, at?_lt h, bd_some]; have hj3 : ∀ b, d_xck_j3 L i b = br (!b) (L ((i + 1 : Nat) : Int)) (some false) := by intro b; unfold d_xck_j3; rw [hw]; cases b <;> rfl
  have hj2 : ∀ b, d_xck_j2 L i l[i] b = br (!b && entB l[i]) (L ((i + 1 : Nat) : Int)) (some false) := by
   intro b; unfold d_xck_j2 entB; have e4 : w64 (5 - 1) = 4 := by rw [w64_id] <;> omega
   simp only [wi_eq, ix_eq, bd_some, jn_eq, br_not, hj3, e4]; cases b <;> cases inB l[i].Level 0 4 <;> cases inB l[i].Turn 1 1000000 <;> cases inB l[i].Id 1 999 <;> cases inB l[i].Size 1 6 <;> rfl
  have hg : (0 : Int) <= (i : Int) /\ (i : Int) <= (l.length : Int) := by omega
  rw [dec_pos]; by_cases h0 : 0 < i
  ·rw [decide_eq_true h0, br_t, if_pos h0, w64_pred i h0 (by omega), at?_lt (show i - 1 < l.length by omega), bd_some, impl_EntryLess, bd_some, br_not, gd_t hg, Int.toNat_natCast, impl_QueueAt (by rw [List.length_take]; omega), bd_some, jn_eq, jn_eq, hj2, hj2, getP_lt (by omega)]; cases entB l[i] <;> cases ltE l[i - 1] l[i] <;> cases decide (atF (fun x => x.Id == l[i].Id) (l.take i) 0 >= 0) <;> rfl
  ·rw [decide_eq_false h0, br_f, if_neg h0, gd_t hg, Int.toNat_natCast, impl_QueueAt (by rw [List.length_take]; omega), bd_some, jn_eq, hj2]; cases entB l[i] <;> cases decide (atF (fun x => x.Id == l[i].Id) (l.take i) 0 >= 0) <;> rfl
 ·intro L; unfold d_xck_l1 d_xck_j4; rw [decn_ge, br_f, jn_eq]
theorem spec_l7Copy {l : List GEntry} (hl : l.length <= lim) : d_xbp l = some l := by
 unfold d_xbp; rw [gd_t (by omega), List.nil_append]
theorem spec_l7Put {l : List GEntry} (hl : l.length + 1 <= lim) (e : GEntry) : d_xbq l e = some (put ltE e l) := by
 have h3 : ∀ i : Nat, i <= l.length -> d_xbq_j3 l e i = some (l.take i ++ e :: l.drop i) := by
  intro i hi; have h2 : (l.take i).length <= l.length := by rw [List.length_take]; omega
  have h5 : (l.take i).length + [e].length <= lim := by rw [len1]; omega
  unfold d_xbq_j3; rw [gd_t (by omega), Int.toNat_natCast, spec_l7Copy (by omega), bd_some, gd_t h5, bd_some, gd_t h5, eqv_self, gd_t (by omega), gd_t (by simp; omega)]; simp
 have hlim : lim = 268435456 := rfl; unfold d_xbq; refine putLoop' some (by omega) ?_ ?_
 ·intro L i h; unfold d_xbq_l1 d_xbq_j2; rw [decn_lt h, br_t, at?_lt h, bd_some, spec_EntryLess, bd_some, jn_eq, jn_eq, h3 i (by omega)]
 ·intro L; unfold d_xbq_l1 d_xbq_j2; rw [decn_ge, br_f, jn_eq, br_f, jn_eq, h3 _ (Nat.le_refl _)]; simp
theorem spec_l9Put {l : List GPin} (hl : l.length + 1 <= lim) (e : GPin) : d_xbt l e = some (put ltP e l) := by
 have h3 : ∀ i : Nat, i <= l.length -> d_xbt_j3 l e i = some (l.take i ++ e :: l.drop i) := by
  intro i hi; have h2 : (l.take i).length <= l.length := by rw [List.length_take]; omega
  unfold d_xbt_j3; rw [gd_t (by omega), Int.toNat_natCast, gd_t (by omega), List.nil_append, gd_t (by rw [len1]; omega), gd_t (by omega), gd_t (by simp; omega)]; simp
 have hlim : lim = 268435456 := rfl; unfold d_xbt; refine putLoop' some (by omega) ?_ ?_
 ·intro L i h; unfold d_xbt_l1 d_xbt_j2; rw [decn_lt h, br_t, at?_lt h, bd_some, spec_l9Less, bd_some, jn_eq, jn_eq, h3 i (by omega)]
 ·intro L; unfold d_xbt_l1 d_xbt_j2; rw [decn_ge, br_f, jn_eq, br_f, jn_eq, h3 _ (Nat.le_refl _)]; simp
def qsel (r : GRules) (cabin now : Int) (p : GParty) : Option GEntry := if ((entryOf r p now).2 && (p.Cabin == cabin)) = true then some (entryOf r p now).1 else none
def queueI (r : GRules) (l : List GParty) (cabin now : Int) : List GEntry := isort ltE (l.filterMap (qsel r cabin now))
theorem spec_QueueOf {r : GRules} (hr : r.Seats.length < 2 ^ 62) {l : List GParty} (hl : l.length <= 1048576) (c now : Int) : d_xbr r l c now = some (queueI r l c now) := by
 have hlim : lim = 268435456 := rfl; have e0 : w64 ((l.length : Int) - 1) = (l.length : Int) - 1 - ((0 : Nat) : Int) := by rw [w64_id (by omega) (by omega)]; omega
 unfold d_xbr queueI; rw [e0]; refine (forLoop (n := l.length) (fun i (v : List GEntry) => (v, (l.length : Int) - 1 - (i : Int))) (fun i v => v.length <= i) (fun i v => some ((((l.take (l.length - i)).filterMap (qsel r c now)).foldr (put ltE) v))) (by omega) ?_ (v := []) (by simp)).trans (by rw [Nat.sub_zero, List.take_length]; rfl); intro L i v hv hi ih; unfold d_xbr_l1 d_xbr_j2 d_xbr_j3; dsimp only; rcases Nat.lt_or_ge i l.length with h | h
 ·obtain ⟨k, hk⟩ : ∃ k, l.length = i + (k + 1) := ⟨l.length - i - 1, by omega⟩; have e1 : (l.length : Int) - 1 - (i : Int) = (k : Int) := by omega
  have hkl : k < l.length := by omega
  have e2 : w64 ((k : Int) - 1) = (l.length : Int) - 1 - ((i + 1 : Nat) : Int) := by rw [w64_id (by omega) (by omega)]; omega
  have e3 : l.take (l.length - i) = l.take (l.length - (i + 1)) ++ [l[k]] := by
   rw [show l.length - i = k + 1 by omega, show l.length - (i + 1) = k by omega, List.take_add_one, List.getElem?_eq_getElem hkl]; rfl
  rw [e1, br_dec, if_pos (by omega)]; simp only [at?_lt hkl, bd_some, spec_EntryOf hr, eqv_self, vGEntry_self, jn_eq, br_f]; have key : (br (entryOf r l[k] now).2 (br (l[k].Cabin == c) (bd (d_xbq v (entryOf r l[k] now).1) fun x9 => L (x9, w64 ((k : Int) - 1))) (L (v, w64 ((k : Int) - 1)))) (L (v, w64 ((k : Int) - 1)))) = some ((((l.take (l.length - i)).filterMap (qsel r c now)).foldr (put ltE) v)) := by
   rw [e2, spec_l7Put (by omega), bd_some, e3, List.filterMap_append, List.foldr_append]; have eq1 : ([l[k]].filterMap (qsel r c now)).foldr (put ltE) v = if ((entryOf r l[k] now).2 && (l[k].Cabin == c)) = true then put ltE (entryOf r l[k] now).1 v else v := by
    rw [List.filterMap_cons]; unfold qsel; by_cases hc : ((entryOf r l[k] now).2 && (l[k].Cabin == c)) = true
    ·rw [if_pos hc, if_pos hc]; rfl
    ·rw [if_neg hc, if_neg hc]; rfl
   rw [eq1]; cases h1 : (entryOf r l[k] now).2 <;> cases h2 : l[k].Cabin == c <;> simp only [br_t, br_f, Bool.and_true, Bool.and_false, if_true, Bool.false_eq_true, if_false]
   ·exact ih v (by omega) h
   ·exact ih v (by omega) h
   ·exact ih v (by omega) h
   ·exact ih _ (by rw [put_len]; omega) h
  exact key
 ·obtain rfl : i = l.length := by omega
  unfold d_xbr_j4; rw [br_dec, if_neg (by omega), jn_eq, Nat.sub_self]; rfl
theorem filterMap_add {α β : Type} (f : α -> Option β) {l : List α} {i : Nat} (h : i < l.length) : (l.take (i + 1)).filterMap f = (l.take i).filterMap f ++ (f l[i]).toList := by
 rw [List.take_add_one, List.getElem?_eq_getElem h, List.filterMap_append]; congr 1
theorem filterMap_len {α β : Type} (f : α -> Option β) (l : List α) (i : Nat) : ((l.take i).filterMap f).length <= i := Nat.le_trans (List.length_filterMap_le _ _) (by rw [List.length_take]; omega)
theorem collect {α β γ : Type} {l : List α} (f : α -> Option β) {F : (List β × Int -> Option γ) -> List β × Int -> Option γ} (J : List β -> Option γ) (hl : l.length <= 1048576)
 (step : ∀ L i (h : i < l.length) v, v.length <= i -> F L (v, (i : Int)) = L (v ++ (f l[i]).toList, w64 ((i : Int) + 1))) (stop : ∀ L v, F L (v, (l.length : Int)) = J v) : loopN F big ([], 0) = J (l.filterMap f) := by
 refine (forLoop (n := l.length) (fun i (v : List β) => (v, (i : Int))) (fun i v => v = (l.take i).filterMap f) (fun i v => J (l.filterMap f)) (by omega) ?_ (by simp)); intro L i v hv hi ih; rcases Nat.lt_or_ge i l.length with h | h
 ·rw [step L i h v (by rw [hv]; exact filterMap_len _ _ _), w64_succ h (by omega)]; exact ih _ (by rw [hv, filterMap_add f h]) h
 ·obtain rfl : i = l.length := by omega
  rw [stop, hv, List.take_length]
theorem countI_eq (c : Int) : ∀ (l : List GParty) (n : Int), l.foldl (countF c) n = n + (l.countP fun p => p.Cabin == c)
 | [], n => by simp
 | p :: l, n => by
  rw [List.foldl_cons, countI_eq c l, List.countP_cons]; unfold countF; split <;> simp <;> omega
theorem filt_le {β : Type} (f : GParty -> Option β) (c : Int) (hf : ∀ p, (p.Cabin == c) = false -> f p = none) : ∀ l : List GParty, ((l.filterMap f).length : Int) <= countI l c := by
 intro l; unfold countI; rw [countI_eq, Int.zero_add]
 induction l with
 | nil => simp
 | cons p l ih =>
  rw [List.countP_cons, List.filterMap_cons]; cases e : p.Cabin == c with
  | false => rw [hf p e]; simpa using ih
  | true => cases f p <;> simp <;> omega
theorem impl_QueueOf {r : GRules} (hr : r.Seats.length < 2 ^ 62) {l : List GParty} (hl : l.length <= 1048576) {c : Int} (hc : countI l c <= 19) (now : Int) : d_xcv r l c now = some (queueI r l c now) := by
 have hlim : lim = 268435456 := rfl; have hn := filt_le (qsel r c now) c (by intro p h; unfold qsel; rw [h, Bool.and_false]; rfl) l; unfold d_xcv queueI; rw [collect (l := l) (qsel r c now) d_xcv_j4 hl ?_ ?_]
 ·unfold d_xcv_j4; rw [stableE (by omega), bd_some]
 ·intro L i h v hv; unfold d_xcv_l1 d_xcv_j2 d_xcv_j3 qsel; dsimp only; rw [decn_lt h, br_t, at?_lt h, bd_some, impl_EntryOf hr, bd_some, jn_eq, jn_eq, gd_t (by rw [len1]; omega), jn_eq, jn_eq]; cases h1 : (entryOf r l[i] now).2 <;> cases h2 : l[i].Cabin == c <;> simp
 ·intro L v; unfold d_xcv_l1; dsimp only; rw [decn_ge, br_f, jn_eq]
def psel (cabin : Int) (p : GParty) : Option GPin := if ((p.State == 2) && (p.Cabin == cabin)) = true then some ⟨p.Until, p.Id⟩ else none
def pinsI (l : List GParty) (cabin : Int) : List GPin := isort ltP (l.filterMap (psel cabin))
theorem spec_PinsIn {l : List GParty} (hl : l.length <= 1048576) (c : Int) : d_xbv l c = some (pinsI l c) := by
 have hlim : lim = 268435456 := rfl; unfold d_xbv pinsI; rw [foldOf (l := l) (fun v p => match psel c p with | some x => put ltP x v | none => v) (fun i v => v.length <= i) some (by omega) ?_ ?_ ?_ (by simp), <- isort_put ltP_swo ltP_tot]
 ·congr 1; generalize ([] : List GPin) = a; clear hl
  induction l generalizing a with
  | nil => rfl
  | cons p l ih =>
   rw [List.foldl_cons, ih, List.filterMap_cons]; cases psel c p <;> rfl
 ·intro L i h v hv; unfold d_xbv_l1 d_xbv_j2 d_xbv_j3 psel; dsimp only; rw [decn_lt h, br_t]; simp only [at?_lt h, bd_some, jn_eq, br_f, spec_l9Put (show v.length + 1 <= lim by omega)]; cases h1 : l[i].State == 2 <;> cases h2 : l[i].Cabin == c <;> rfl
 ·intro i h v hv; split
  ·rw [put_len]; omega
  ·omega
 ·intro L v hv; unfold d_xbv_l1 d_xbv_j4; dsimp only; rw [decn_ge, br_f, jn_eq]
theorem impl_PinsIn {l : List GParty} (hl : l.length <= 1048576) {c : Int} (hc : countI l c <= 19) : d_xc5 l c = some (pinsI l c) := by
 have hlim : lim = 268435456 := rfl; have hn := filt_le (psel c) c (by intro p h; unfold psel; rw [h, Bool.and_false]; rfl) l; unfold d_xc5 pinsI; rw [collect (l := l) (psel c) d_xc5_j4 hl ?_ ?_]
 ·unfold d_xc5_j4; rw [stableP (by omega), bd_some]
 ·intro L i h v hv; unfold d_xc5_l1 d_xc5_j2 d_xc5_j3 psel; dsimp only; rw [decn_lt h, br_t, at?_lt h, bd_some, jn_eq, jn_eq, gd_t (by rw [len1]; omega), jn_eq, jn_eq]; cases h1 : l[i].State == 2 <;> cases h2 : l[i].Cabin == c <;> simp
 ·intro L v; unfold d_xc5_l1; dsimp only; rw [decn_ge, br_f, jn_eq]
end Lv.P
