/-
  Plain laws: the numbers of a house, the text of a snapshot.
-/
import Derived.Test.YtifcpnfmfagidaaGreatPB
import Derived.Test.YtifcpnfmfagidaaGreatPC
set_option linter.unusedVariables false
set_option linter.unusedSimpArgs false
set_option linter.unusedVariables false
set_option linter.unusedSimpArgs false
namespace Lv.P
open Go (IntKind BinOp UnOp)
theorem appLoop {α β γ : Type} {l : List α} (f : α → List β) (J : List β → Option γ) {F : (List β × Int → Option γ) → List β × Int → Option γ} (hl : l.length ≤ 1048576) (m : Nat) (hm : ∀ x, (f x).length ≤ m) {v0 : List β}
 (step : ∀ L i (h : i < l.length) v, v.length ≤ v0.length + m * i → F L (v, (i : Int)) = L (v ++ f l[i], w64 ((i : Int) + 1))) (stop : ∀ L v, F L (v, (l.length : Int)) = J v) : loopN F big (v0, 0) = J (v0 ++ l.flatMap f) := by
 refine (forLoop (n := l.length) (fun i (v : List β) => (v, (i : Int))) (fun i v => v = v0 ++ (l.take i).flatMap f ∧ v.length ≤ v0.length + m * i) (fun i v => J (v0 ++ l.flatMap f)) (by omega) ?_ ⟨by simp, by simp⟩)
 rintro L i v ⟨hv, hb⟩ hi ih
 rcases Nat.lt_or_ge i l.length with h | h
 ·rw [step L i h v hb, w64_succ h (by omega)]
  refine ih _ ⟨?_, ?_⟩ h
  ·rw [hv, List.take_add_one, List.getElem?_eq_getElem h, List.flatMap_append, List.append_assoc]; simp
  ·have := hm l[i]
   rw [List.length_append, Nat.mul_add]; omega
 ·obtain rfl : i = l.length := by omega
  rw [stop, hv, List.take_length]
theorem flatMap_le {α β : Type} (f : α → List β) {m : Nat} (hm : ∀ x, (f x).length ≤ m) : ∀ l : List α, (l.flatMap f).length ≤ m * l.length
 | [] => by simp
 | x :: l => by
  have := flatMap_le f hm l
  have := hm x
  rw [List.flatMap_cons, List.length_append, List.length_cons, Nat.mul_add]; omega
def rNums (r : GRules) : List Int := [r.Tiers, r.Room, r.Size, r.Period, r.Window, r.Rest, r.Tries, r.Crew] ++ r.Seats
def pNums (p : GParty) : List Int := [p.Id, p.Cabin, w64 (p.From + 1), p.Size, p.Tier, p.Since, p.Turn, p.State, p.Until, p.Asked]
def numsL (h : GHouse) : List Int :=
 (([((rNums h.Rules).length : Int)] ++ rNums h.Rules ++ [h.Now, h.Turn, (h.Parties.length : Int)] ++ h.Parties.flatMap pNums) ++ h.Cabins.flatMap (fun c => [c.Seats.Free])) ++ [(h.Todo.length : Int)] ++ h.Todo ++ h.Jobs.flatMap (fun x => [w64 (x + 1)])
noncomputable def numsI (h : GHouse) : List Int := if houseB h = true then numsL h else []
theorem houseB_ok {h : GHouse} (hb : houseB h = true) : rulesB h.Rules = true ∧ (0 ≤ h.Now ∧ h.Now ≤ 1000000) ∧ (1 ≤ h.Turn ∧ h.Turn ≤ 1000001) ∧ h.Parties.length ≤ 40 ∧ h.Cabins.length = h.Rules.Seats.length ∧ partiesB h = true ∧ todoB h.Todo h.Cabins.length = true ∧ jobsB h.Jobs h.Cabins.length = true ∧ (h.Jobs.length : Int) = h.Rules.Crew ∧ cabinsB h = true := by
 unfold houseB at hb
 simp only [Bool.and_eq_true, inB_iff, Bool.not_eq_true', decide_eq_false_iff_not, beq_iff_eq] at hb
 obtain ⟨h1, h2, h3, h4, h5, h6, ⟨h7, h8, h9⟩, h10⟩ := hb
 exact ⟨h1, h2, h3, by omega, by omega, h6, h7, h8, h9, h10⟩
theorem numsL_len {h : GHouse} (hh : HouseFit h) (hb : houseB h = true) : (numsL h).length ≤ 2000000 := by
 have hk := houseB_ok hb
 have hr := rulesB_ok hk.1
 have h1 := flatMap_le pNums (m := 10) (fun _ => Nat.le_refl _) h.Parties
 have h2 := flatMap_le (fun c : GCabin => [c.Seats.Free]) (m := 1) (fun _ => Nat.le_refl _) h.Cabins
 have h3 := flatMap_le (fun x : Int => [w64 (x + 1)]) (m := 1) (fun _ => Nat.le_refl _) h.Jobs
 have h4 := hh.todo
 unfold numsL rNums
 simp only [List.length_append, List.length_cons, List.length_nil]
 omega
theorem spec_RulesNums {r : GRules} (hr : r.Seats.length ≤ 1048576) (hb : rulesB r = true) : d_xcz r = some (rNums r) := by
 unfold d_xcz
 rw [spec_RulesOk (by omega), bd_some, hb, br_not, br_t, gd_t (by simp only [List.length_cons, List.length_nil]; unfold lim; omega)]; rfl
theorem impl_RulesNums {r : GRules} (hr : r.Seats.length ≤ 1048576) (hb : rulesB r = true) : d_xc6 r = some (rNums r) := by
 unfold d_xc6
 rw [impl_RulesOk (by omega), bd_some, hb, br_not, br_t, gd_t (by simp only [List.length_cons, List.length_nil]; unfold lim; omega)]; rfl
theorem rNums_len (r : GRules) : (rNums r).length = 8 + r.Seats.length := by unfold rNums; simp only [List.length_append, List.length_cons, List.length_nil]
theorem spec_nums {h : GHouse} (hh : HouseFit h) (hb : houseB h = true) : d_xc0 h = some (numsL h) := by
 have hlim : lim = 268435456 := rfl
 have hk := houseB_ok hb
 have hr := rulesB_ok hk.1
 have h1 := hh.parties; have h2 := hh.ncab; have h3 := hh.todo; have h4 := hh.jobs
 have e4 : ∀ v : List Int, v.length ≤ 5000000 → d_xc0_j4 h v = some (v ++ [(h.Todo.length : Int)] ++ h.Todo ++ h.Jobs.flatMap (fun x => [w64 (x + 1)])) := by
  intro v hv
  unfold d_xc0_j4
  rw [gd_t (by rw [len1]; omega), gd_t (by rw [List.length_append, List.length_singleton]; omega)]
  refine appLoop (l := h.Jobs) (fun x => [w64 (x + 1)]) some h4 1 (fun _ => Nat.le_refl _) ?_ ?_
  ·intro L i hi v' hv'
   simp only [List.length_append, List.length_singleton] at hv'
   unfold d_xc0_l5
   dsimp only
   rw [decn_lt hi, br_t, at?_lt hi, bd_some, gd_t (by rw [len1]; omega)]
  ·intro L v'
   unfold d_xc0_l5 d_xc0_j6
   dsimp only
   rw [decn_ge, br_f, jn_eq]
 have e2 : ∀ v : List Int, v.length ≤ 3000000 → d_xc0_j2 h v = some ((v ++ h.Cabins.flatMap (fun c => [c.Seats.Free])) ++ [(h.Todo.length : Int)] ++ h.Todo ++ h.Jobs.flatMap (fun x => [w64 (x + 1)])) := by
  intro v hv
  have hc := flatMap_le (fun c : GCabin => [c.Seats.Free]) (m := 1) (fun _ => Nat.le_refl _) h.Cabins
  unfold d_xc0_j2
  rw [appLoop (l := h.Cabins) (fun c => [c.Seats.Free]) (d_xc0_j4 h) h2 1 (fun _ => Nat.le_refl _) ?_ ?_, e4 _ (by rw [List.length_append]; omega)]
  ·intro L i hi v' hv'
   unfold d_xc0_l3
   dsimp only
   rw [decn_lt hi, br_t, at?_lt hi, bd_some, gd_t (by rw [len1]; omega)]
  ·intro L v'
   unfold d_xc0_l3
   dsimp only
   rw [decn_ge, br_f, jn_eq]
 have hc := flatMap_le pNums (m := 10) (fun _ => Nat.le_refl _) h.Parties
 have hn := rNums_len h.Rules
 have hs := hh.seats
 unfold d_xc0
 rw [spec_HouseOk hh, bd_some, hb, br_not, br_t, spec_RulesNums hh.seats hk.1, bd_some, gd_t (by rw [List.length_singleton]; omega), gd_t (by simp only [List.length_append, List.length_singleton, List.length_cons, List.length_nil]; omega)]
 rw [appLoop (l := h.Parties) pNums (d_xc0_j2 h) h1 10 (fun _ => Nat.le_refl _) ?_ ?_, e2 _ (by simp only [List.length_append, List.length_singleton, List.length_cons, List.length_nil]; omega)]
 ·rfl
 ·intro L i hi v' hv'
  simp only [List.length_append, List.length_singleton, List.length_cons, List.length_nil] at hv'
  unfold d_xc0_l1
  dsimp only
  rw [decn_lt hi, br_t, at?_lt hi, bd_some, gd_t (by simp only [List.length_cons, List.length_nil]; omega)]; rfl
 ·intro L v'
  unfold d_xc0_l1
  dsimp only
  rw [decn_ge, br_f, jn_eq]
theorem implA_nums {h : GHouse} (hh : HouseFit h) (hb : houseB h = true) : d_xc7 h = some (numsL h) := by
 have hlim : lim = 268435456 := rfl
 have hk := houseB_ok hb
 have hr := rulesB_ok hk.1
 have h1 := hh.parties; have h2 := hh.ncab; have h3 := hh.todo; have h4 := hh.jobs
 have e4 : ∀ v : List Int, v.length ≤ 5000000 → d_xc7_j4 h v = some (v ++ [(h.Todo.length : Int)] ++ h.Todo ++ h.Jobs.flatMap (fun x => [w64 (x + 1)])) := by
  intro v hv
  unfold d_xc7_j4
  rw [gd_t (by rw [len1]; omega), gd_t (by rw [List.length_append, List.length_singleton]; omega)]
  refine appLoop (l := h.Jobs) (fun x => [w64 (x + 1)]) some h4 1 (fun _ => Nat.le_refl _) ?_ ?_
  ·intro L i hi v' hv'
   simp only [List.length_append, List.length_singleton] at hv'
   unfold d_xc7_l5
   dsimp only
   rw [decn_lt hi, br_t, at?_lt hi, bd_some, gd_t (by rw [len1]; omega)]
  ·intro L v'
   unfold d_xc7_l5 d_xc7_j6
   dsimp only
   rw [decn_ge, br_f, jn_eq]
 have e2 : ∀ v : List Int, v.length ≤ 3000000 → d_xc7_j2 h v = some ((v ++ h.Cabins.flatMap (fun c => [c.Seats.Free])) ++ [(h.Todo.length : Int)] ++ h.Todo ++ h.Jobs.flatMap (fun x => [w64 (x + 1)])) := by
  intro v hv
  have hc := flatMap_le (fun c : GCabin => [c.Seats.Free]) (m := 1) (fun _ => Nat.le_refl _) h.Cabins
  unfold d_xc7_j2
  rw [appLoop (l := h.Cabins) (fun c => [c.Seats.Free]) (d_xc7_j4 h) h2 1 (fun _ => Nat.le_refl _) ?_ ?_, e4 _ (by rw [List.length_append]; omega)]
  ·intro L i hi v' hv'
   unfold d_xc7_l3
   dsimp only
   rw [decn_lt hi, br_t, at?_lt hi, bd_some, gd_t (by rw [len1]; omega)]
  ·intro L v'
   unfold d_xc7_l3
   dsimp only
   rw [decn_ge, br_f, jn_eq]
 have hc := flatMap_le pNums (m := 10) (fun _ => Nat.le_refl _) h.Parties
 have hn := rNums_len h.Rules
 have hs := hh.seats
 unfold d_xc7
 rw [impl_HouseOk hh, bd_some, hb, br_not, br_t, impl_RulesNums hh.seats hk.1, bd_some, gd_t (by rw [List.length_singleton]; omega), gd_t (by simp only [List.length_append, List.length_singleton, List.length_cons, List.length_nil]; omega)]
 rw [appLoop (l := h.Parties) pNums (d_xc7_j2 h) h1 10 (fun _ => Nat.le_refl _) ?_ ?_, e2 _ (by simp only [List.length_append, List.length_singleton, List.length_cons, List.length_nil]; omega)]
 ·rfl
 ·intro L i hi v' hv'
  simp only [List.length_append, List.length_singleton, List.length_cons, List.length_nil] at hv'
  unfold d_xc7_l1
  dsimp only
  rw [decn_lt hi, br_t, at?_lt hi, bd_some, gd_t (by simp only [List.length_cons, List.length_nil]; omega)]; rfl
 ·intro L v'
  unfold d_xc7_l1
  dsimp only
  rw [decn_ge, br_f, jn_eq]
noncomputable def snapT (h : GHouse) (q : Int) : List UInt8 := if houseB h = true ∧ inB q 0 1000000 = true then four ((crcOf (pL (q :: numsL h)) : Nat) : Int) ++ pL (q :: numsL h) else []
theorem pL_len5 : ∀ l : List Int, (pL l).length ≤ 5 * l.length
 | [] => by simp [pL]
 | x :: l => by
  have := pL_len5 l
  have := pN_len x
  unfold pL at *
  rw [List.flatMap_cons, List.length_append, List.length_cons]; omega
theorem spec_SnapText {h : GHouse} (hh : HouseFit h) (q : Int) : d_xc5 h q = some (snapT h q) := by
 have hlim : lim = 268435456 := rfl
 have hslim : slim = 4611686018427387904 := rfl
 unfold d_xc5 snapT
 rw [spec_HouseOk hh, bd_some, br_not, jn_eq, in_eq, bd_some, jn_eq]
 by_cases hb : houseB h = true
 ·have hn := numsL_len hh hb
  have hp := pL_len5 (q :: numsL h)
  rw [List.length_cons] at hp
  rw [hb, br_t]
  unfold d_xc5_j1
  rw [br_not, spec_nums hh hb, bd_some, gd_t (by rw [List.length_singleton]; omega), List.singleton_append, spec_l18Nums (by rw [List.length_cons]; omega), bd_some, spec_Crc (by omega), bd_some]
  unfold d_xc4
  rw [bd_some]
  cases hq : inB q 0 1000000 with
  | false => rfl
  | true =>
   rw [br_t, gd_t (by simp only [List.length_cons, List.length_nil]; omega), if_pos ⟨rfl, rfl⟩]
   rfl
 ·rw [if_neg (fun g => hb g.1)]
  rw [Bool.not_eq_true] at hb
  rw [hb, br_f]; rfl
theorem impl_SnapText {h : GHouse} (hh : HouseFit h) (q : Int) : d_xde h q = some (snapT h q) := by
 have hslim : slim = 4611686018427387904 := rfl
 unfold d_xde snapT orE
 by_cases hb : houseB h = true
 ·have hn := numsL_len hh hb
  have hp := pL_len5 (q :: numsL h)
  rw [List.length_cons] at hp
  have hpn := pN_len q
  have hpl := pL_len5 (numsL h)
  have he : (numsL h).isEmpty = false := by
   unfold numsL; simp
  have hcc : pN q ++ pL (numsL h) = pL (q :: numsL h) := rfl
  have e : d_xdb h q = some (if inB q 0 1000000 = true then four ((crcOf (pL (q :: numsL h)) : Nat) : Int) ++ pL (q :: numsL h) else []) := by
   unfold d_xdb
   rw [implA_nums hh hb, bd_some, gd_t he, wi_eq, bd_some, br_not]
   cases hq : inB q 0 1000000 with
   | false => rfl
   | true =>
    rw [br_t, impl_PutNum, bd_some, impl_putNums (by omega), bd_some, gd_t (by omega), hcc, impl_Crc (by omega), bd_some, gd_t (by simp only [List.length_cons, List.length_nil]; omega)]
    rfl
  rw [e]
  dsimp only
  cases hq : inB q 0 1000000 <;> simp [hb]
 ·rw [if_neg (fun g => hb g.1)]
  rw [Bool.not_eq_true] at hb
  have e : d_xdb h q = none := by
   unfold d_xdb d_xc7
   rw [impl_HouseOk hh, bd_some, hb, br_not, br_f, bd_none]
  rw [e]
  dsimp only
  unfold d_xdd d_xdc
  rw [impl_HouseOk hh, bd_some, hb, br_not, br_f, bd_some]
end Lv.P
/-
 Plain laws: rows are marked with numbers one after the other, and hold them.
-/
set_option linter.unusedVariables false
set_option linter.unusedSimpArgs false
namespace Lv.P
open Go (IntKind BinOp UnOp)
inductive Chain {α : Type} (Q : Int → α → Int → Prop) : Int → List α → Int → Prop
 | nil (k : Int) : Chain Q k [] k
 | cons {k k1 k2 : Int} {x : α} {l : List α} (h : Q k x k1) (t : Chain Q k1 l k2) : Chain Q k (x :: l) k2
section
variable {α : Type} {Q : Int → α → Int → Prop}
theorem Chain.snoc {k k1 k2 : Int} {l : List α} {x : α} (h : Chain Q k l k1) (hq : Q k1 x k2) : Chain Q k (l ++ [x]) k2 := by
 induction h with
 | nil k => exact .cons hq (.nil _)
 | cons h t ih => exact .cons h (ih hq)
theorem sum_take {l : List α} (cst : α → Nat) {i : Nat} (h : i < l.length) : ((l.take (i + 1)).map cst).sum = ((l.take i).map cst).sum + cst l[i] := by
 have e : l.take (i + 1) = l.take i ++ [l[i]] := by rw [List.take_add_one, List.getElem?_eq_getElem h]; rfl
 rw [e, List.map_append, List.sum_append]; simp
theorem sum_le {l : List α} (cst : α → Nat) (i : Nat) : ((l.take i).map cst).sum ≤ (l.map cst).sum := by
 have : (l.map cst).sum = ((l.take i).map cst).sum + ((l.drop i).map cst).sum := by rw [← List.sum_append, ← List.map_append, List.take_append_drop]
 omega
theorem sum_const (c : Nat) : ∀ l : List α, (l.map (fun _ => c)).sum = c * l.length
 | [] => by simp
 | x :: l => by rw [List.map_cons, List.sum_cons, sum_const c l, List.length_cons, Nat.mul_add]; omega
theorem sum_bound {l : List α} {cst : α → Nat} {m : Nat} (h : ∀ x ∈ l, cst x ≤ m) : (l.map cst).sum ≤ m * l.length := by
 induction l with
 | nil => simp
 | cons x l ih =>
  have h1 := h x List.mem_cons_self
  have h2 := ih fun y hy => h y (List.mem_cons_of_mem _ hy)
  rw [List.map_cons, List.sum_cons, List.length_cons, Nat.mul_add]; omega
theorem markLoop {l : List α} (cst : α → Nat) (M : Int) {F : (List α × Int × Int → Option (Int × List α)) → List α × Int × Int → Option (Int × List α)} (hl : l.length ≤ 1048576) {k0 : Int} (h0 : 0 ≤ k0) (hb : k0 + ((l.map cst).sum : Nat) ≤ M)
 (step : ∀ L (v : List α) (k : Int) (i : Nat) (h : i < l.length), v.length = l.length → v[i]? = some l[i] → 0 ≤ k → k + cst l[i] ≤ M →
  ∃ k1 x', F L (v, k, (i : Int)) = L (v.set i x', k1, w64 ((i : Int) + 1)) ∧ Q k x' k1 ∧ k ≤ k1 ∧ k1 ≤ k + cst l[i])
 (stop : ∀ L v k, v.length = l.length → F L (v, k, (l.length : Int)) = some (k, v)) :
 ∃ r, loopN F big (l, k0, 0) = some r ∧ (Chain Q k0 r.2 r.1 ∧ r.2.length = l.length ∧ k0 ≤ r.1 ∧ r.1 ≤ k0 + ((l.map cst).sum : Nat)) := by
 refine forEx (n := l.length) (fun i (v : List α × Int) => (v.1, v.2, (i : Int))) (fun i v => v.1.length = l.length ∧ v.1.drop i = l.drop i ∧ Chain Q k0 (v.1.take i) v.2 ∧ k0 ≤ v.2 ∧ v.2 ≤ k0 + (((l.take i).map cst).sum : Nat)) _ (by omega) ?_ (v := (l, k0)) ⟨rfl, rfl, by simpa using Chain.nil k0, Int.le_refl _, by simp⟩
 rintro L i ⟨v, k⟩ ⟨h1, h2, h3, h4, h5⟩ hi ih
 dsimp only at h1 h2 h3 h4 h5 ih ⊢
 rcases Nat.lt_or_ge i l.length with h | h
 ·have hv : i < v.length := by omega
  have e : v[i] = l[i] := by
   have := h2
   rw [drop_at h, drop_at hv] at this
   exact (List.cons.injEq .. ▸ this : _ ∧ _).1
  have hs := sum_take cst h
  have hs2 := sum_le (l := l) cst (i + 1)
  obtain ⟨k1, x', g1, g2, g3, g4⟩ := step L v k i h h1 (by rw [List.getElem?_eq_getElem hv, e]) (by omega) (by omega)
  rw [g1, w64_succ h (by omega)]
  refine ih (v.set i x', k1) ⟨by simp [h1], ?_, ?_, by dsimp only; omega, by dsimp only; omega⟩ h
  ·dsimp only
   rw [List.drop_set_of_lt (by omega)]
   have := congrArg (List.drop 1) h2
   simpa [List.drop_drop, Nat.add_comm] using this
  ·dsimp only
   have : (v.set i x').take (i + 1) = v.take i ++ [x'] := by
    rw [List.take_add_one, List.take_set_of_le (by omega)]; simp [hv]
   rw [this]
   exact h3.snoc g2
 ·obtain rfl : i = l.length := by omega
  rw [stop L v k h1]
  rw [List.take_of_length_le (by omega)] at h3
  rw [List.take_length] at h5
  exact ⟨_, rfl, h3, h1, h4, h5⟩
theorem heldLoop {l : List α} {k k' : Int} (hc : Chain Q k l k') {G : (Int × Int → Option Int) → Int × Int → Option Int} (hl : l.length ≤ 1048576)
 (step : ∀ L i (h : i < l.length) k k1, Q k l[i] k1 → G L (k, (i : Int)) = L (k1, w64 ((i : Int) + 1))) (stop : ∀ L k, G L (k, (l.length : Int)) = some k) : loopN G big (k, 0) = some k' := by
 refine (forLoop (n := l.length) (fun i (k : Int) => (k, (i : Int))) (fun i k => Chain Q k (l.drop i) k') (fun _ _ => some k') (by omega) ?_ (by simpa using hc))
 intro L i k hk hi ih
 rcases Nat.lt_or_ge i l.length with h | h
 ·rw [drop_at h] at hk
  cases hk with
  | cons hq ht =>
   rw [step L i h _ _ hq, w64_succ h (by omega)]
   exact ih _ ht h
 ·obtain rfl : i = l.length := by omega
  rw [List.drop_length] at hk
  cases hk
  exact stop _ _
end
theorem at?_set {α : Type} {v : List α} {i : Nat} (h : i < v.length) (a : α) : at? (v.set i a) (i : Int) = some a := by rw [at?_nat]; simp [h]
def qInt (k : Int) (x : Int) (k1 : Int) : Prop := x = k ∧ k1 = k + 1 ∧ 0 ≤ k ∧ k ≤ 2 ^ 60
theorem mark_Int {l : List Int} (hl : l.length ≤ 1048576) {k : Int} (h0 : 0 ≤ k) (hb : k ≤ 2 ^ 59) :
 ∃ r, d_xdf l k = some r ∧ (Chain qInt k r.2 r.1 ∧ r.2.length = l.length ∧ k ≤ r.1 ∧ r.1 ≤ k + 1 * l.length) := by
 have hs := sum_const 1 l
 unfold d_xdf
 have key := markLoop (l := l) (Q := qInt) (F := d_xdf_l1) (fun _ => 1) (2 ^ 60) hl h0 (by rw [hs]; omega) ?_ ?_
 ·obtain ⟨r, g1, g2, g3, g4, g5⟩ := key
  exact ⟨r, g1, g2, g3, g4, by rw [hs] at g5; omega⟩
 ·intro L v k i h hv hx k0 kb
  have hi : i < v.length := by omega
  have ha : at? v (i : Int) = some l[i] := by rw [at?_nat]; exact hx
  have e1 : w64 (k + 1) = k + 1 := w64_id (by omega) (by omega)
  refine ⟨k + 1, k, ?_, ⟨rfl, rfl, k0, by omega⟩, by omega, by omega⟩
  unfold d_xdf_l1 d_xdf_j2 d_xdf_j3
  dsimp only
  rw [decn_lt hi, br_t]
  simp only [ha, bd_some, jn_eq, Int.toNat_natCast, at?_set hi, List.set_set, e1]
 ·intro L v k hv
  unfold d_xdf_l1 d_xdf_j3
  dsimp only
  rw [hv, decn_ge, br_f, jn_eq]
theorem held_Int {l : List Int} (hl : l.length ≤ 1048576) {k k' : Int} (hc : Chain qInt k l k') : d_xdn l k = some k' := by
 unfold d_xdn
 refine heldLoop hc hl ?_ ?_
 ·rintro L i h k k1 ⟨hx, rfl, k0, kb⟩
  have e1 : w64 (k + 1) = k + 1 := w64_id (by omega) (by omega)
  unfold d_xdn_l1
  dsimp only
  rw [decn_lt h, br_t]
  simp only [at?_lt h, bd_some, hx, ne_self, br_f, e1]
 ·intro L k
  unfold d_xdn_l1 d_xdn_j2
  dsimp only
  rw [decn_ge, br_f, jn_eq]
def qParty (k : Int) (x : GParty) (k1 : Int) : Prop := x = ⟨k, k + 1, k + 1 + 1, k + 1 + 1 + 1, k + 1 + 1 + 1 + 1, k + 1 + 1 + 1 + 1 + 1, k + 1 + 1 + 1 + 1 + 1 + 1, k + 1 + 1 + 1 + 1 + 1 + 1 + 1, k + 1 + 1 + 1 + 1 + 1 + 1 + 1 + 1, k + 1 + 1 + 1 + 1 + 1 + 1 + 1 + 1 + 1⟩ ∧ k1 = k + 1 + 1 + 1 + 1 + 1 + 1 + 1 + 1 + 1 + 1 ∧ 0 ≤ k ∧ k ≤ 2 ^ 60
theorem mark_Party {l : List GParty} (hl : l.length ≤ 1048576) {k : Int} (h0 : 0 ≤ k) (hb : k ≤ 2 ^ 59) :
 ∃ r, d_xdh l k = some r ∧ (Chain qParty k r.2 r.1 ∧ r.2.length = l.length ∧ k ≤ r.1 ∧ r.1 ≤ k + 10 * l.length) := by
 have hs := sum_const 10 l
 unfold d_xdh
 have key := markLoop (l := l) (Q := qParty) (F := d_xdh_l1) (fun _ => 10) (2 ^ 60) hl h0 (by rw [hs]; omega) ?_ ?_
 ·obtain ⟨r, g1, g2, g3, g4, g5⟩ := key
  exact ⟨r, g1, g2, g3, g4, by rw [hs] at g5; omega⟩
 ·intro L v k i h hv hx k0 kb
  have hi : i < v.length := by omega
  have ha : at? v (i : Int) = some l[i] := by rw [at?_nat]; exact hx
  have e1 : w64 (k + 1) = k + 1 := w64_id (by omega) (by omega)
  have e2 : w64 (k + 1 + 1) = k + 1 + 1 := w64_id (by omega) (by omega)
  have e3 : w64 (k + 1 + 1 + 1) = k + 1 + 1 + 1 := w64_id (by omega) (by omega)
  have e4 : w64 (k + 1 + 1 + 1 + 1) = k + 1 + 1 + 1 + 1 := w64_id (by omega) (by omega)
  have e5 : w64 (k + 1 + 1 + 1 + 1 + 1) = k + 1 + 1 + 1 + 1 + 1 := w64_id (by omega) (by omega)
  have e6 : w64 (k + 1 + 1 + 1 + 1 + 1 + 1) = k + 1 + 1 + 1 + 1 + 1 + 1 := w64_id (by omega) (by omega)
  have e7 : w64 (k + 1 + 1 + 1 + 1 + 1 + 1 + 1) = k + 1 + 1 + 1 + 1 + 1 + 1 + 1 := w64_id (by omega) (by omega)
  have e8 : w64 (k + 1 + 1 + 1 + 1 + 1 + 1 + 1 + 1) = k + 1 + 1 + 1 + 1 + 1 + 1 + 1 + 1 := w64_id (by omega) (by omega)
  have e9 : w64 (k + 1 + 1 + 1 + 1 + 1 + 1 + 1 + 1 + 1) = k + 1 + 1 + 1 + 1 + 1 + 1 + 1 + 1 + 1 := w64_id (by omega) (by omega)
  have e10 : w64 (k + 1 + 1 + 1 + 1 + 1 + 1 + 1 + 1 + 1 + 1) = k + 1 + 1 + 1 + 1 + 1 + 1 + 1 + 1 + 1 + 1 := w64_id (by omega) (by omega)
  refine ⟨k + 1 + 1 + 1 + 1 + 1 + 1 + 1 + 1 + 1 + 1, ⟨k, k + 1, k + 1 + 1, k + 1 + 1 + 1, k + 1 + 1 + 1 + 1, k + 1 + 1 + 1 + 1 + 1, k + 1 + 1 + 1 + 1 + 1 + 1, k + 1 + 1 + 1 + 1 + 1 + 1 + 1, k + 1 + 1 + 1 + 1 + 1 + 1 + 1 + 1, k + 1 + 1 + 1 + 1 + 1 + 1 + 1 + 1 + 1⟩, ?_, ⟨rfl, rfl, k0, by omega⟩, by omega, by omega⟩
  unfold d_xdh_l1 d_xdh_j2 d_xdh_j3 d_xdh_j4 d_xdh_j5 d_xdh_j6 d_xdh_j7 d_xdh_j8 d_xdh_j9 d_xdh_j10 d_xdh_j11 d_xdh_j12
  dsimp only
  rw [decn_lt hi, br_t]
  simp only [ha, bd_some, jn_eq, Int.toNat_natCast, at?_set hi, List.set_set, e1, e2, e3, e4, e5, e6, e7, e8, e9, e10]
 ·intro L v k hv
  unfold d_xdh_l1 d_xdh_j12
  dsimp only
  rw [hv, decn_ge, br_f, jn_eq]
theorem held_Party {l : List GParty} (hl : l.length ≤ 1048576) {k k' : Int} (hc : Chain qParty k l k') : d_xd5 l k = some k' := by
 unfold d_xd5
 refine heldLoop hc hl ?_ ?_
 ·rintro L i h k k1 ⟨hx, rfl, k0, kb⟩
  have e1 : w64 (k + 1) = k + 1 := w64_id (by omega) (by omega)
  have e2 : w64 (k + 1 + 1) = k + 1 + 1 := w64_id (by omega) (by omega)
  have e3 : w64 (k + 1 + 1 + 1) = k + 1 + 1 + 1 := w64_id (by omega) (by omega)
  have e4 : w64 (k + 1 + 1 + 1 + 1) = k + 1 + 1 + 1 + 1 := w64_id (by omega) (by omega)
  have e5 : w64 (k + 1 + 1 + 1 + 1 + 1) = k + 1 + 1 + 1 + 1 + 1 := w64_id (by omega) (by omega)
  have e6 : w64 (k + 1 + 1 + 1 + 1 + 1 + 1) = k + 1 + 1 + 1 + 1 + 1 + 1 := w64_id (by omega) (by omega)
  have e7 : w64 (k + 1 + 1 + 1 + 1 + 1 + 1 + 1) = k + 1 + 1 + 1 + 1 + 1 + 1 + 1 := w64_id (by omega) (by omega)
  have e8 : w64 (k + 1 + 1 + 1 + 1 + 1 + 1 + 1 + 1) = k + 1 + 1 + 1 + 1 + 1 + 1 + 1 + 1 := w64_id (by omega) (by omega)
  have e9 : w64 (k + 1 + 1 + 1 + 1 + 1 + 1 + 1 + 1 + 1) = k + 1 + 1 + 1 + 1 + 1 + 1 + 1 + 1 + 1 := w64_id (by omega) (by omega)
  have e10 : w64 (k + 1 + 1 + 1 + 1 + 1 + 1 + 1 + 1 + 1 + 1) = k + 1 + 1 + 1 + 1 + 1 + 1 + 1 + 1 + 1 + 1 := w64_id (by omega) (by omega)
  unfold d_xd5_l1
  dsimp only
  rw [decn_lt h, br_t]
  simp only [at?_lt h, bd_some, hx, ne_self, br_f, e1, e2, e3, e4, e5, e6, e7, e8, e9, e10]
 ·intro L k
  unfold d_xd5_l1 d_xd5_j2
  dsimp only
  rw [decn_ge, br_f, jn_eq]
def qEntry (k : Int) (x : GEntry) (k1 : Int) : Prop := x = ⟨k, k + 1, k + 1 + 1, k + 1 + 1 + 1⟩ ∧ k1 = k + 1 + 1 + 1 + 1 ∧ 0 ≤ k ∧ k ≤ 2 ^ 60
theorem mark_Entry {l : List GEntry} (hl : l.length ≤ 1048576) {k : Int} (h0 : 0 ≤ k) (hb : k ≤ 2 ^ 59) :
 ∃ r, d_xdi l k = some r ∧ (Chain qEntry k r.2 r.1 ∧ r.2.length = l.length ∧ k ≤ r.1 ∧ r.1 ≤ k + 4 * l.length) := by
 have hs := sum_const 4 l
 unfold d_xdi
 have key := markLoop (l := l) (Q := qEntry) (F := d_xdi_l1) (fun _ => 4) (2 ^ 60) hl h0 (by rw [hs]; omega) ?_ ?_
 ·obtain ⟨r, g1, g2, g3, g4, g5⟩ := key
  exact ⟨r, g1, g2, g3, g4, by rw [hs] at g5; omega⟩
 ·intro L v k i h hv hx k0 kb
  have hi : i < v.length := by omega
  have ha : at? v (i : Int) = some l[i] := by rw [at?_nat]; exact hx
  have e1 : w64 (k + 1) = k + 1 := w64_id (by omega) (by omega)
  have e2 : w64 (k + 1 + 1) = k + 1 + 1 := w64_id (by omega) (by omega)
  have e3 : w64 (k + 1 + 1 + 1) = k + 1 + 1 + 1 := w64_id (by omega) (by omega)
  have e4 : w64 (k + 1 + 1 + 1 + 1) = k + 1 + 1 + 1 + 1 := w64_id (by omega) (by omega)
  refine ⟨k + 1 + 1 + 1 + 1, ⟨k, k + 1, k + 1 + 1, k + 1 + 1 + 1⟩, ?_, ⟨rfl, rfl, k0, by omega⟩, by omega, by omega⟩
  unfold d_xdi_l1 d_xdi_j2 d_xdi_j3 d_xdi_j4 d_xdi_j5 d_xdi_j6
  dsimp only
  rw [decn_lt hi, br_t]
  simp only [ha, bd_some, jn_eq, Int.toNat_natCast, at?_set hi, List.set_set, e1, e2, e3, e4]
 ·intro L v k hv
  unfold d_xdi_l1 d_xdi_j6
  dsimp only
  rw [hv, decn_ge, br_f, jn_eq]
theorem held_Entry {l : List GEntry} (hl : l.length ≤ 1048576) {k k' : Int} (hc : Chain qEntry k l k') : d_xd6 l k = some k' := by
 unfold d_xd6
 refine heldLoop hc hl ?_ ?_
 ·rintro L i h k k1 ⟨hx, rfl, k0, kb⟩
  have e1 : w64 (k + 1) = k + 1 := w64_id (by omega) (by omega)
  have e2 : w64 (k + 1 + 1) = k + 1 + 1 := w64_id (by omega) (by omega)
  have e3 : w64 (k + 1 + 1 + 1) = k + 1 + 1 + 1 := w64_id (by omega) (by omega)
  have e4 : w64 (k + 1 + 1 + 1 + 1) = k + 1 + 1 + 1 + 1 := w64_id (by omega) (by omega)
  unfold d_xd6_l1
  dsimp only
  rw [decn_lt h, br_t]
  simp only [at?_lt h, bd_some, hx, ne_self, br_f, e1, e2, e3, e4]
 ·intro L k
  unfold d_xd6_l1 d_xd6_j2
  dsimp only
  rw [decn_ge, br_f, jn_eq]
def qPin (k : Int) (x : GPin) (k1 : Int) : Prop := x = ⟨k, k + 1⟩ ∧ k1 = k + 1 + 1 ∧ 0 ≤ k ∧ k ≤ 2 ^ 60
theorem mark_Pin {l : List GPin} (hl : l.length ≤ 1048576) {k : Int} (h0 : 0 ≤ k) (hb : k ≤ 2 ^ 59) :
 ∃ r, d_xdj l k = some r ∧ (Chain qPin k r.2 r.1 ∧ r.2.length = l.length ∧ k ≤ r.1 ∧ r.1 ≤ k + 2 * l.length) := by
 have hs := sum_const 2 l
 unfold d_xdj
 have key := markLoop (l := l) (Q := qPin) (F := d_xdj_l1) (fun _ => 2) (2 ^ 60) hl h0 (by rw [hs]; omega) ?_ ?_
 ·obtain ⟨r, g1, g2, g3, g4, g5⟩ := key
  exact ⟨r, g1, g2, g3, g4, by rw [hs] at g5; omega⟩
 ·intro L v k i h hv hx k0 kb
  have hi : i < v.length := by omega
  have ha : at? v (i : Int) = some l[i] := by rw [at?_nat]; exact hx
  have e1 : w64 (k + 1) = k + 1 := w64_id (by omega) (by omega)
  have e2 : w64 (k + 1 + 1) = k + 1 + 1 := w64_id (by omega) (by omega)
  refine ⟨k + 1 + 1, ⟨k, k + 1⟩, ?_, ⟨rfl, rfl, k0, by omega⟩, by omega, by omega⟩
  unfold d_xdj_l1 d_xdj_j2 d_xdj_j3 d_xdj_j4
  dsimp only
  rw [decn_lt hi, br_t]
  simp only [ha, bd_some, jn_eq, Int.toNat_natCast, at?_set hi, List.set_set, e1, e2]
 ·intro L v k hv
  unfold d_xdj_l1 d_xdj_j4
  dsimp only
  rw [hv, decn_ge, br_f, jn_eq]
theorem held_Pin {l : List GPin} (hl : l.length ≤ 1048576) {k k' : Int} (hc : Chain qPin k l k') : d_xd7 l k = some k' := by
 unfold d_xd7
 refine heldLoop hc hl ?_ ?_
 ·rintro L i h k k1 ⟨hx, rfl, k0, kb⟩
  have e1 : w64 (k + 1) = k + 1 := w64_id (by omega) (by omega)
  have e2 : w64 (k + 1 + 1) = k + 1 + 1 := w64_id (by omega) (by omega)
  unfold d_xd7_l1
  dsimp only
  rw [decn_lt h, br_t]
  simp only [at?_lt h, bd_some, hx, ne_self, br_f, e1, e2]
 ·intro L k
  unfold d_xd7_l1 d_xd7_j2
  dsimp only
  rw [decn_ge, br_f, jn_eq]
def qReq (k : Int) (x : GReq) (k1 : Int) : Prop := x = ⟨k, k + 1, k + 1 + 1, k + 1 + 1 + 1, k + 1 + 1 + 1 + 1, k + 1 + 1 + 1 + 1 + 1⟩ ∧ k1 = k + 1 + 1 + 1 + 1 + 1 + 1 ∧ 0 ≤ k ∧ k ≤ 2 ^ 60
theorem mark_Req {l : List GReq} (hl : l.length ≤ 1048576) {k : Int} (h0 : 0 ≤ k) (hb : k ≤ 2 ^ 59) :
 ∃ r, d_xd2 l k = some r ∧ (Chain qReq k r.2 r.1 ∧ r.2.length = l.length ∧ k ≤ r.1 ∧ r.1 ≤ k + 6 * l.length) := by
 have hs := sum_const 6 l
 unfold d_xd2
 have key := markLoop (l := l) (Q := qReq) (F := d_xd2_l1) (fun _ => 6) (2 ^ 60) hl h0 (by rw [hs]; omega) ?_ ?_
 ·obtain ⟨r, g1, g2, g3, g4, g5⟩ := key
  exact ⟨r, g1, g2, g3, g4, by rw [hs] at g5; omega⟩
 ·intro L v k i h hv hx k0 kb
  have hi : i < v.length := by omega
  have ha : at? v (i : Int) = some l[i] := by rw [at?_nat]; exact hx
  have e1 : w64 (k + 1) = k + 1 := w64_id (by omega) (by omega)
  have e2 : w64 (k + 1 + 1) = k + 1 + 1 := w64_id (by omega) (by omega)
  have e3 : w64 (k + 1 + 1 + 1) = k + 1 + 1 + 1 := w64_id (by omega) (by omega)
  have e4 : w64 (k + 1 + 1 + 1 + 1) = k + 1 + 1 + 1 + 1 := w64_id (by omega) (by omega)
  have e5 : w64 (k + 1 + 1 + 1 + 1 + 1) = k + 1 + 1 + 1 + 1 + 1 := w64_id (by omega) (by omega)
  have e6 : w64 (k + 1 + 1 + 1 + 1 + 1 + 1) = k + 1 + 1 + 1 + 1 + 1 + 1 := w64_id (by omega) (by omega)
  refine ⟨k + 1 + 1 + 1 + 1 + 1 + 1, ⟨k, k + 1, k + 1 + 1, k + 1 + 1 + 1, k + 1 + 1 + 1 + 1, k + 1 + 1 + 1 + 1 + 1⟩, ?_, ⟨rfl, rfl, k0, by omega⟩, by omega, by omega⟩
  unfold d_xd2_l1 d_xd2_j2 d_xd2_j3 d_xd2_j4 d_xd2_j5 d_xd2_j6 d_xd2_j7 d_xd2_j8
  dsimp only
  rw [decn_lt hi, br_t]
  simp only [ha, bd_some, jn_eq, Int.toNat_natCast, at?_set hi, List.set_set, e1, e2, e3, e4, e5, e6]
 ·intro L v k hv
  unfold d_xd2_l1 d_xd2_j8
  dsimp only
  rw [hv, decn_ge, br_f, jn_eq]
theorem held_Req {l : List GReq} (hl : l.length ≤ 1048576) {k k' : Int} (hc : Chain qReq k l k') : d_xeb l k = some k' := by
 unfold d_xeb
 refine heldLoop hc hl ?_ ?_
 ·rintro L i h k k1 ⟨hx, rfl, k0, kb⟩
  have e1 : w64 (k + 1) = k + 1 := w64_id (by omega) (by omega)
  have e2 : w64 (k + 1 + 1) = k + 1 + 1 := w64_id (by omega) (by omega)
  have e3 : w64 (k + 1 + 1 + 1) = k + 1 + 1 + 1 := w64_id (by omega) (by omega)
  have e4 : w64 (k + 1 + 1 + 1 + 1) = k + 1 + 1 + 1 + 1 := w64_id (by omega) (by omega)
  have e5 : w64 (k + 1 + 1 + 1 + 1 + 1) = k + 1 + 1 + 1 + 1 + 1 := w64_id (by omega) (by omega)
  have e6 : w64 (k + 1 + 1 + 1 + 1 + 1 + 1) = k + 1 + 1 + 1 + 1 + 1 + 1 := w64_id (by omega) (by omega)
  unfold d_xeb_l1
  dsimp only
  rw [decn_lt h, br_t]
  simp only [at?_lt h, bd_some, hx, ne_self, br_f, e1, e2, e3, e4, e5, e6]
 ·intro L k
  unfold d_xeb_l1 d_xeb_j2
  dsimp only
  rw [decn_ge, br_f, jn_eq]
end Lv.P
/-
 Plain laws: houses and engines are marked and hold the marks; the law on a house's numbers.
-/
set_option linter.unusedVariables false
set_option linter.unusedSimpArgs false
namespace Lv.P
open Go (IntKind BinOp UnOp)
theorem ge_set {α : Type} {v : List α} {i : Nat} (h : i < v.length) (a : α) : (v.set i a)[i]? = some a := by simp [h]
def qPinS (k : Int) (s : List GPin) (k1 : Int) : Prop := s.length ≤ 1048576 ∧ Chain qPin k s k1 ∧ 0 ≤ k ∧ 0 ≤ k1
theorem flat_sum : ∀ l : List (List GPin), (l.map (fun s => 2 * s.length)).sum = 2 * l.flatten.length
 | [] => rfl
 | s :: l => by rw [List.map_cons, List.sum_cons, flat_sum l, List.flatten_cons, List.length_append]; omega
theorem mark_PinSS {w : GWheel} (hw : wheelFit w) {k : Int} (h0 : 0 ≤ k) (hb : k ≤ 2 ^ 58) :
 ∃ r, d_xdk w.Spoke k = some r ∧ (Chain qPinS k r.2 r.1 ∧ r.2.length = w.Spoke.length ∧ k ≤ r.1 ∧ r.1 ≤ k + 2 * w.Spoke.flatten.length) := by
 have hs := flat_sum w.Spoke
 have h1 := hw.1; have h2 := hw.2
 unfold d_xdk
 have key := markLoop (l := w.Spoke) (Q := qPinS) (F := d_xdk_l1) (fun s => 2 * s.length) (2 ^ 59) h1 h0 (by rw [hs]; omega) ?_ ?_
 ·obtain ⟨r, g1, g2, g3, g4, g5⟩ := key
  exact ⟨r, g1, g2, g3, g4, by rw [hs] at g5; omega⟩
 ·intro L v k i h hv hx k0 kb
  have hi : i < v.length := by omega
  have ha : at? v (i : Int) = some w.Spoke[i] := by rw [at?_nat]; exact hx
  have hl := spoke_len h
  obtain ⟨r, e, c1, c2, c3, c4⟩ := mark_Pin (l := w.Spoke[i]) (by omega) k0 (by omega)
  refine ⟨r.1, r.2, ?_, ⟨by omega, c1, k0, by omega⟩, c3, by push_cast; omega⟩
  unfold d_xdk_l1
  dsimp only
  rw [decn_lt hi, br_t, ha, bd_some, bd_some, e, bd_some, gd_t rfl, Int.toNat_natCast, hx, bd_some]
 ·intro L v k hv
  unfold d_xdk_l1 d_xdk_j2
  dsimp only
  rw [hv, decn_ge, br_f, jn_eq]
theorem held_PinSS {l : List (List GPin)} (hl : l.length ≤ 1048576) {k k' : Int} (hc : Chain qPinS k l k') : d_xd8 l k = some k' := by
 unfold d_xd8
 refine heldLoop hc hl ?_ ?_
 ·rintro L i h k k1 ⟨hs, c, k0, k10⟩
  unfold d_xd8_l1
  dsimp only
  rw [decn_lt h, br_t, at?_lt h, bd_some, held_Pin hs c, bd_some, br_dec, if_neg (by omega)]
 ·intro L k
  unfold d_xd8_l1 d_xd8_j2
  dsimp only
  rw [decn_ge, br_f, jn_eq]
def qCabin (k : Int) (c : GCabin) (k1 : Int) : Prop :=
 c.Seats = ⟨k, k + 1, k + 1 + 1, k + 1 + 1 + 1, k + 1 + 1 + 1 + 1⟩ ∧ (0 ≤ k ∧ k ≤ 2 ^ 60) ∧ c.Row.length ≤ 1048576 ∧ c.Wheel.Spoke.length ≤ 1048576 ∧ 0 ≤ k1 ∧ ∃ a, Chain qEntry (k + 1 + 1 + 1 + 1 + 1) c.Row a ∧ 0 ≤ a ∧ Chain qPinS a c.Wheel.Spoke k1
def cstC (c : GCabin) : Nat := 5 + 4 * c.Row.length + 2 * c.Wheel.Spoke.flatten.length
theorem mark_CabinS {l : List GCabin} (hl : l.length ≤ 1048576) (hf : ∀ c ∈ l, cabinFit c) {k : Int} (h0 : 0 ≤ k) (hb : k ≤ 2 ^ 56) :
 ∃ r, d_xdl l k = some r ∧ (Chain qCabin k r.2 r.1 ∧ r.2.length = l.length ∧ k ≤ r.1 ∧ r.1 ≤ k + 2 ^ 50) := by
 have hs := sum_bound (l := l) (cst := cstC) (m := 6291461) fun c hc => by
  have := hf c hc
  have h1 := this.1; have h2 := this.2.2
  unfold cstC; omega
 unfold d_xdl
 have key := markLoop (l := l) (Q := qCabin) (F := d_xdl_l1) cstC (2 ^ 57) hl h0 (by omega) ?_ ?_
 ·obtain ⟨r, g1, g2, g3, g4, g5⟩ := key
  exact ⟨r, g1, g2, g3, g4, by omega⟩
 ·intro L v k i h hv hx k0 kb
  have hi : i < v.length := by omega
  have ha : at? v (i : Int) = some l[i] := by rw [at?_nat]; exact hx
  have hc := hf _ (List.getElem_mem h)
  have hr := hc.1; have hw1 := hc.2.1; have hw2 := hc.2.2
  have hcst : cstC l[i] = 5 + 4 * l[i].Row.length + 2 * l[i].Wheel.Spoke.flatten.length := rfl
  have e1 : w64 (k + 1) = k + 1 := w64_id (by omega) (by omega)
  have e2 : w64 (k + 1 + 1) = k + 1 + 1 := w64_id (by omega) (by omega)
  have e3 : w64 (k + 1 + 1 + 1) = k + 1 + 1 + 1 := w64_id (by omega) (by omega)
  have e4 : w64 (k + 1 + 1 + 1 + 1) = k + 1 + 1 + 1 + 1 := w64_id (by omega) (by omega)
  have e5 : w64 (k + 1 + 1 + 1 + 1 + 1) = k + 1 + 1 + 1 + 1 + 1 := w64_id (by omega) (by omega)
  obtain ⟨a, ea, a1, a2, a3, a4⟩ := mark_Entry (l := l[i].Row) hr (k := k + 1 + 1 + 1 + 1 + 1) (by omega) (by omega)
  obtain ⟨b, eb, b1, b2, b3, b4⟩ := mark_PinSS (w := l[i].Wheel) hc.2 (k := a.1) (by omega) (by omega)
  refine ⟨b.1, ⟨⟨k, k + 1, k + 1 + 1, k + 1 + 1 + 1, k + 1 + 1 + 1 + 1⟩, a.2, ⟨b.2⟩⟩, ?_, ⟨rfl, ⟨k0, by omega⟩, by dsimp only; omega, by dsimp only; omega, by omega, a.1, a1, by omega, b1⟩, by omega, by omega⟩
  unfold d_xdl_l1 d_xdl_j2 d_xdl_j3 d_xdl_j4 d_xdl_j5 d_xdl_j6 d_xdl_j7
  dsimp only
  rw [decn_lt hi, br_t]
  simp only [ha, bd_some, jn_eq, Int.toNat_natCast, at?_set hi, List.set_set, e1, e2, e3, e4, e5, ea, eb, ge_set hi]
  rw [gd_t trivial, gd_t trivial]
 ·intro L v k hv
  unfold d_xdl_l1 d_xdl_j8
  dsimp only
  rw [hv, decn_ge, br_f, jn_eq]
theorem held_CabinS {l : List GCabin} (hl : l.length ≤ 1048576) {k k' : Int} (hc : Chain qCabin k l k') : d_xd9 l k = some k' := by
 unfold d_xd9
 refine heldLoop hc hl ?_ ?_
 ·rintro L i h k k1 ⟨hs, ⟨k0, kb⟩, hr, hw, k10, a, ca, a0, cb⟩
  have e1 : w64 (k + 1) = k + 1 := w64_id (by omega) (by omega)
  have e2 : w64 (k + 1 + 1) = k + 1 + 1 := w64_id (by omega) (by omega)
  have e3 : w64 (k + 1 + 1 + 1) = k + 1 + 1 + 1 := w64_id (by omega) (by omega)
  have e4 : w64 (k + 1 + 1 + 1 + 1) = k + 1 + 1 + 1 + 1 := w64_id (by omega) (by omega)
  have e5 : w64 (k + 1 + 1 + 1 + 1 + 1) = k + 1 + 1 + 1 + 1 + 1 := w64_id (by omega) (by omega)
  have ha : decide (a < 0) = false := by rw [decide_eq_false_iff_not]; omega
  have hk : decide (k1 < 0) = false := by rw [decide_eq_false_iff_not]; omega
  unfold d_xd9_l1
  dsimp only
  rw [decn_lt h, br_t]
  simp only [at?_lt h, bd_some, hs, ne_self, br_f, e1, e2, e3, e4, e5, held_Entry hr ca, held_PinSS hw cb, ha, hk]
 ·intro L k
  unfold d_xd9_l1 d_xd9_j2
  dsimp only
  rw [decn_ge, br_f, jn_eq]
theorem mark_House {h : GHouse} (hf : HouseFit h) {k : Int} (h0 : 0 ≤ k) (hb : k ≤ 2 ^ 50) :
 ∃ k' s ps cs td js, d_xdm h k = some (k', ⟨⟨s, h.Rules.Tiers, h.Rules.Room, h.Rules.Size, h.Rules.Period, h.Rules.Window, h.Rules.Rest, h.Rules.Tries, h.Rules.Crew⟩, h.Now, h.Turn, ps, cs, td, js⟩) ∧ (k ≤ k' ∧ k' ≤ 2 ^ 55) ∧
  ∀ r : GHouse, r.Rules.Seats = s → r.Parties = ps → r.Cabins = cs → r.Todo = td → r.Jobs = js → d_xea r k = some k' := by
 have g1 := hf.seats; have g2 := hf.parties; have g3 := hf.ncab; have g4 := hf.todo; have g5 := hf.jobs
 obtain ⟨a, ea, a1, a2, a3, a4⟩ := mark_Int (l := h.Rules.Seats) g1 h0 (by omega)
 obtain ⟨b, eb, b1, b2, b3, b4⟩ := mark_Party (l := h.Parties) g2 (k := a.1) (by omega) (by omega)
 obtain ⟨c, ec, c1, c2, c3, c4⟩ := mark_CabinS (l := h.Cabins) g3 hf.cabins (k := b.1) (by omega) (by omega)
 obtain ⟨d, ed, d1, d2, d3, d4⟩ := mark_Int (l := h.Todo) g4 (k := c.1) (by omega) (by omega)
 obtain ⟨e, ee, e1, e2, e3, e4⟩ := mark_Int (l := h.Jobs) g5 (k := d.1) (by omega) (by omega)
 refine ⟨e.1, a.2, b.2, c.2, d.2, e.2, ?_, ⟨by omega, by omega⟩, ?_⟩
 ·unfold d_xdm d_xdg
  simp only [ea, eb, ec, ed, ee, bd_some]
 ·rintro r h1 h2 h3 h4 h5
  have n1 : decide (a.1 < 0) = false := by rw [decide_eq_false_iff_not]; omega
  have n2 : decide (b.1 < 0) = false := by rw [decide_eq_false_iff_not]; omega
  have n3 : decide (c.1 < 0) = false := by rw [decide_eq_false_iff_not]; omega
  have n4 : decide (d.1 < 0) = false := by rw [decide_eq_false_iff_not]; omega
  have n5 : decide (e.1 < 0) = false := by rw [decide_eq_false_iff_not]; omega
  unfold d_xea d_xd4
  simp only [h1, h2, h3, h4, h5, held_Int (l := a.2) (by omega) a1, held_Party (l := b.2) (by omega) b1, held_CabinS (l := c.2) (by omega) c1, held_Int (l := d.2) (by omega) d1, held_Int (l := e.2) (by omega) e1, bd_some, n1, n2, n3, n4, n5, br_f]
theorem todo_len {t : List Int} {n : Nat} (hn : n ≤ 4) (h : todoB t n = true) : t.length ≤ 4 := by
 unfold todoB at h
 rw [rAll0] at h
 refine Classical.byContradiction fun hg => ?_
 have key : ∀ i (hi : i < t.length), 0 ≤ t[i] ∧ t[i] < n ∧ ∀ j (hj : j < i), t[j]'(by omega) ≠ t[i] := by
  intro i hi
  have := h i hi
  unfold todoAt at this
  rw [getP_lt hi, Bool.and_eq_true, inB_iff, Bool.not_eq_true', List.any_eq_false] at this
  rw [w64_id (by omega) (by omega)] at this
  refine ⟨by omega, by omega, fun j hj e => ?_⟩
  have hm : t[j]'(by omega) ∈ t.take i := by rw [List.mem_take_iff_getElem]; exact ⟨j, by omega, rfl⟩
  exact this.2 _ hm (by rw [e]; simp)
 have k0 := key 0 (by omega); have k1 := key 1 (by omega); have k2 := key 2 (by omega); have k3 := key 3 (by omega); have k4 := key 4 (by omega)
 have a10 := k1.2.2 0 (by omega)
 have a20 := k2.2.2 0 (by omega); have a21 := k2.2.2 1 (by omega)
 have a30 := k3.2.2 0 (by omega); have a31 := k3.2.2 1 (by omega); have a32 := k3.2.2 2 (by omega)
 have a40 := k4.2.2 0 (by omega); have a41 := k4.2.2 1 (by omega); have a42 := k4.2.2 2 (by omega); have a43 := k4.2.2 3 (by omega)
 omega
theorem numsI_len {h : GHouse} : (numsI h).length ≤ 500 := by
 unfold numsI
 split
 ·rename_i hb
  have hk := houseB_ok hb
  have hr := rulesB_ok hk.1
  have h1 := flatMap_le pNums (m := 10) (fun _ => Nat.le_refl _) h.Parties
  have h2 := flatMap_le (fun c : GCabin => [c.Seats.Free]) (m := 1) (fun _ => Nat.le_refl _) h.Cabins
  have h3 := flatMap_le (fun x : Int => [w64 (x + 1)]) (m := 1) (fun _ => Nat.le_refl _) h.Jobs
  have h4 := todo_len (t := h.Todo) (n := h.Cabins.length) (by omega) hk.2.2.2.2.2.2.1
  unfold numsL rNums
  simp only [List.length_append, List.length_cons, List.length_nil]
  omega
 ·simp
end Lv.P
/-
 Plain laws: new houses, engines and worlds.
-/
set_option linter.unusedVariables false
set_option linter.unusedSimpArgs false
namespace Lv.P
open Go (IntKind BinOp UnOp)
def ledgerNew (n : Int) : GLedger × Bool := if ledgerB ⟨n, 0, 0, n, 0⟩ = true then (⟨n, 0, 0, n, 0⟩, true) else (⟨0, 0, 0, 0, 0⟩, false)
def cabinNew (n : Int) : GCabin × Bool := if (ledgerNew n).2 = true then (⟨(ledgerNew n).1, [], ⟨List.replicate 9 []⟩⟩, true) else (⟨⟨0, 0, 0, 0, 0⟩, [], ⟨[]⟩⟩, false)
def houseNew (r : GRules) : GHouse × Bool :=
 if rulesB r = true then (⟨r, 0, 1, [], r.Seats.map (fun n => (cabinNew n).1), [], List.replicate r.Crew.toNat (-1)⟩, true) else (⟨⟨[], 0, 0, 0, 0, 0, 0, 0, 0⟩, 0, 0, [], [], [], []⟩, false)
theorem new_WheelS : d_xdq = some ⟨List.replicate 9 []⟩ := by
 unfold d_xdq
 refine (forLoop (n := 9) (fun i (v : GWheel) => ((i : Int), v)) (fun i v => v.Spoke = List.replicate i []) (fun _ _ => some (⟨List.replicate 9 []⟩ : GWheel)) (by omega) ?_ (v := ⟨[]⟩) rfl)
 rintro L i ⟨s⟩ hv hi ih
 unfold d_xdq_l1 d_xdq_j2
 dsimp only at hv ih ⊢
 subst hv
 rw [br_dec]
 rcases Nat.lt_or_ge i 9 with h | h
 ·rw [if_pos (by omega), gd_t (by simp only [List.length_replicate]; unfold lim; omega), w64_succ h (by omega)]
  exact ih ⟨_⟩ (by rw [List.replicate_succ']) h
 ·obtain rfl : i = 9 := by omega
  rw [if_neg (by omega), jn_eq]
theorem new_WheelI : d_xdx = some ⟨List.replicate 9 []⟩ := rfl
theorem new_copyS {r : GRules} (hr : r.Seats.length ≤ 1048576) : d_xdo r = some r := by
 unfold d_xdo
 rw [gd_t (by unfold lim; omega), List.nil_append]
theorem new_copyI {r : GRules} (hr : r.Seats.length ≤ 1048576) : d_xdv r = some r := by
 unfold d_xdv d_xdu
 rw [gd_t (by unfold lim; omega), bd_some]
theorem new_LedgerS (n : Int) : d_xdp n = some (ledgerNew n) := by
 unfold d_xdp ledgerNew
 rw [spec_LedgerOk, bd_some, br_not, br_if]
 split <;> rfl
theorem new_CabinS (n : Int) : d_xdr n = some (cabinNew n) := by
 unfold d_xdr cabinNew
 rw [new_LedgerS, bd_some, br_not, new_WheelS, bd_some, br_if]
 split <;> rfl
theorem new_HouseS {r : GRules} (hr : r.Seats.length ≤ 1048576) : d_xds r = some (houseNew r) := by
 unfold d_xds houseNew
 rw [spec_RulesOk (by omega), bd_some, br_not, new_copyS hr, bd_some, br_if]
 by_cases hb : rulesB r = true
 ·have hk := rulesB_ok hb
  rw [if_pos hb, if_pos hb]
  refine forLoop (n := r.Seats.length) (fun i (v : GHouse) => ((i : Int), v)) (fun i v => v = ⟨r, 0, 1, [], (r.Seats.take i).map (fun n => (cabinNew n).1), [], []⟩) (fun _ _ => _) (by omega) ?_ (v := ⟨r, 0, 1, [], [], [], []⟩) (by simp)
  rintro L i v hv hi ih
  unfold d_xds_l1
  dsimp only at ih ⊢
  rcases Nat.lt_or_ge i r.Seats.length with h | h
  ·rw [decn_lt h, br_t, at?_lt h, bd_some, new_CabinS, bd_some, gd_t (by rw [hv, len1]; simp; unfold lim; omega), w64_succ h (by omega)]
   refine ih _ ?_ h
   have e : r.Seats.take (i + 1) = r.Seats.take i ++ [r.Seats[i]] := by rw [List.take_add_one, List.getElem?_eq_getElem h]; rfl
   rw [hv, e, List.map_append]; rfl
  ·obtain rfl : i = r.Seats.length := by omega
   rw [decn_ge, br_f, jn_eq, hv, List.take_length]
   unfold d_xds_j2
   obtain ⟨n, hn⟩ := Int.eq_ofNat_of_zero_le (show 0 ≤ r.Crew by omega)
   refine forLoop (n := n) (fun i (v : GHouse) => ((i : Int), v)) (fun i v => v = ⟨r, 0, 1, [], r.Seats.map (fun n => (cabinNew n).1), [], List.replicate i (-1)⟩) (fun _ _ => _) (by omega) ?_ (v := ⟨r, 0, 1, [], r.Seats.map (fun n => (cabinNew n).1), [], []⟩) rfl
   rintro L j w hw hj ih
   unfold d_xds_l3 d_xds_j4
   dsimp only at ih ⊢
   have hd : decide ((j : Int) < r.Crew) = decide (j < n) := by rw [hn, dec_lt]
   have hc : r.Crew.toNat = n := by omega
   rw [hd]
   rcases Nat.lt_or_ge j n with h' | h'
   ·rw [decide_eq_true h', br_t, gd_t (by rw [hw, len1, List.length_replicate]; unfold lim; omega), w64_succ h' (by omega)]
    refine ih _ ?_ h'
    rw [hw, List.replicate_succ']
   ·obtain rfl : j = n := by omega
    rw [decide_eq_false (by omega), br_f, jn_eq, hw, hc]
 ·rw [if_neg hb, if_neg hb]
theorem new_LedgerI (n : Int) : d_xdw n = some (ledgerNew n) := by
 unfold d_xdw ledgerNew
 rw [impl_LedgerOk, bd_some, br_not, br_if]
 split <;> rfl
theorem new_CabinI (n : Int) : d_xdy n = some (cabinNew n) := by
 unfold d_xdy cabinNew
 rw [new_LedgerI, bd_some, br_not, new_WheelI, bd_some, br_if]
 split <;> rfl
theorem new_HouseI {r : GRules} (hr : r.Seats.length ≤ 1048576) : d_xdz r = some (houseNew r) := by
 unfold d_xdz houseNew
 rw [impl_RulesOk (by omega), bd_some, br_not, new_copyI hr, bd_some, br_if]
 by_cases hb : rulesB r = true
 ·have hk := rulesB_ok hb
  rw [if_pos hb, if_pos hb]
  refine forLoop (n := r.Seats.length) (fun i (v : GHouse) => ((i : Int), v)) (fun i v => v = ⟨r, 0, 1, [], (r.Seats.take i).map (fun n => (cabinNew n).1), [], []⟩) (fun _ _ => _) (by omega) ?_ (v := ⟨r, 0, 1, [], [], [], []⟩) (by simp)
  rintro L i v hv hi ih
  unfold d_xdz_l1
  dsimp only at ih ⊢
  rcases Nat.lt_or_ge i r.Seats.length with h | h
  ·rw [decn_lt h, br_t, at?_lt h, bd_some, new_CabinI, bd_some, gd_t (by rw [hv, len1]; simp; unfold lim; omega), w64_succ h (by omega)]
   refine ih _ ?_ h
   have e : r.Seats.take (i + 1) = r.Seats.take i ++ [r.Seats[i]] := by rw [List.take_add_one, List.getElem?_eq_getElem h]; rfl
   rw [hv, e, List.map_append]; rfl
  ·obtain rfl : i = r.Seats.length := by omega
   rw [decn_ge, br_f, jn_eq, hv, List.take_length]
   unfold d_xdz_j2
   obtain ⟨n, hn⟩ := Int.eq_ofNat_of_zero_le (show 0 ≤ r.Crew by omega)
   refine forLoop (n := n) (fun i (v : GHouse) => ((i : Int), v)) (fun i v => v = ⟨r, 0, 1, [], r.Seats.map (fun n => (cabinNew n).1), [], List.replicate i (-1)⟩) (fun _ _ => _) (by omega) ?_ (v := ⟨r, 0, 1, [], r.Seats.map (fun n => (cabinNew n).1), [], []⟩) rfl
   rintro L j w hw hj ih
   unfold d_xdz_l3 d_xdz_j4
   dsimp only at ih ⊢
   have hd : decide ((j : Int) < r.Crew) = decide (j < n) := by rw [hn, dec_lt]
   have hc : r.Crew.toNat = n := by omega
   rw [hd]
   rcases Nat.lt_or_ge j n with h' | h'
   ·rw [decide_eq_true h', br_t, gd_t (by rw [hw, len1, List.length_replicate]; unfold lim; omega), w64_succ h' (by omega)]
    refine ih _ ?_ h'
    rw [hw, List.replicate_succ']
   ·obtain rfl : j = n := by omega
    rw [decide_eq_false (by omega), br_f, jn_eq, hw, hc]
 ·rw [if_neg hb, if_neg hb]
theorem cabinNew_fit (n : Int) : cabinFit (cabinNew n).1 := by
 unfold cabinNew
 split
 ·exact ⟨by simp, by simp, by simp⟩
 ·exact ⟨by simp, by simp, by simp⟩
theorem houseNew_fit {r : GRules} (hr : r.Seats.length ≤ 1048576) : HouseFit (houseNew r).1 := by
 unfold houseNew
 split
 ·rename_i hb
  have hk := rulesB_ok hb
  refine ⟨hr, by simp, by simpa using hr, ?_, by simp, ?_⟩
  ·intro c hc
   obtain ⟨n, _, rfl⟩ := List.mem_map.1 hc
   exact cabinNew_fit n
  ·simp; omega
 ·exact ⟨by simp, by simp, by simp, by simp, by simp, by simp⟩
theorem eqf_Wheel {w : GWheel} (hw : wheelFit w) : d_xcq w w = some true := by
 unfold d_xcq
 have := hw.1
 rw [eqr_PinSS (by omega) fun x hx => by have := mem_flat hx; have := hw.2; omega, bd_some, br_not, br_t]
theorem eqf_Cabin {c : GCabin} (hc : cabinFit c) : d_xcr c c = some true := by
 have := hc.1
 unfold d_xcr
 rw [eqr_Ledger, bd_some, br_not, br_t, eqr_EntryS (by omega), bd_some, br_not, br_t, eqf_Wheel hc.2, bd_some, br_not, br_t]
theorem eqf_CabinS {l : List GCabin} (hl : l.length ≤ 1048576) (hp : ∀ x ∈ l, cabinFit x) : d_xcs l l = some true := by
 unfold d_xcs
 refine eqRow (by omega) ?_ ?_
 ·intro L i h
  unfold d_xcs_l1
  rw [decn_lt h, br_t, at?_lt h, bd_some, bd_some, eqf_Cabin (hp _ (List.getElem_mem h)), bd_some, br_not, br_t]
 ·intro L
  unfold d_xcs_l1 d_xcs_j2
  rw [decn_ge, br_f, jn_eq]
theorem eqf_Rules {r : GRules} (hr : r.Seats.length ≤ 1048576) : d_xch r r = some true := by
 unfold d_xch
 rw [eqr_IntS (by omega), bd_some, br_not, br_t]
 simp only [ne_self, br_f]
theorem eqf_House {h : GHouse} (hf : HouseFit h) : d_xct h h = some true := by
 have g1 := hf.seats; have g2 := hf.parties; have g3 := hf.ncab; have g4 := hf.todo; have g5 := hf.jobs
 unfold d_xct
 rw [eqf_Rules g1, bd_some, br_not, br_t, ne_self, br_f, ne_self, br_f, eqr_PartyS (by omega), bd_some, br_not, br_t, eqf_CabinS g3 hf.cabins, bd_some, br_not, br_t, eqr_IntS (by omega), bd_some, br_not, br_t, eqr_IntS (by omega), bd_some, br_not, br_t]
theorem eqf_Engine {e : GEngine} (he : EngineFit e) : d_xcy e e = some true := by
 have := he.laid
 unfold d_xcy
 rw [eqf_House he.house, bd_some, br_not, br_t, eqr_Store, bd_some, br_not, br_t, ne_self, br_f, eqr_ReqS (by omega), bd_some, br_not, br_t]
theorem mark_Engine {e : GEngine} (he : EngineFit e) {k : Int} (h0 : 0 ≤ k) (hb : k ≤ 2 ^ 50) :
 ∃ k' s ps cs td js ld, d_xd3 e k = some (k', ⟨⟨⟨s, e.House.Rules.Tiers, e.House.Rules.Room, e.House.Rules.Size, e.House.Rules.Period, e.House.Rules.Window, e.House.Rules.Rest, e.House.Rules.Tries, e.House.Rules.Crew⟩, e.House.Now, e.House.Turn, ps, cs, td, js⟩, e.Store, e.Seq, ld⟩) ∧ (k ≤ k' ∧ k' ≤ 2 ^ 56) ∧
  ∀ r : GEngine, r.House.Rules.Seats = s → r.House.Parties = ps → r.House.Cabins = cs → r.House.Todo = td → r.House.Jobs = js → r.Laid = ld → d_xec r k = some k' := by
 have hl := he.laid
 obtain ⟨a, s, ps, cs, td, js, ea, ⟨a1, a2⟩, ah⟩ := mark_House he.house h0 hb
 obtain ⟨b, eb, b1, b2, b3, b4⟩ := mark_Req (l := e.Laid) hl (k := a) (by omega) (by omega)
 refine ⟨b.1, s, ps, cs, td, js, b.2, ?_, ⟨by omega, by omega⟩, ?_⟩
 ·unfold d_xd3
  rw [ea, bd_some]
  dsimp only
  rw [eb, bd_some]
 ·rintro r h1 h2 h3 h4 h5 h6
  have n1 : decide (a < 0) = false := by rw [decide_eq_false_iff_not]; omega
  have n2 : decide (b.1 < 0) = false := by rw [decide_eq_false_iff_not]; omega
  unfold d_xec
  rw [ah r.House h1 h2 h3 h4 h5, bd_some, n1, br_f, h6, held_Req (l := b.2) (by omega) b1, bd_some, n2, br_f]
def engineZ : GEngine := ⟨⟨⟨[], 0, 0, 0, 0, 0, 0, 0, 0⟩, 0, 0, [], [], [], []⟩, ⟨⟨[], 0⟩, ⟨[], 0⟩, ⟨[], 0⟩⟩, 0, []⟩
noncomputable def engineNew (r : GRules) : GEngine × Bool :=
 if (houseNew r).2 = true then (⟨(houseNew r).1, ⟨⟨[], 0⟩, ⟨snapT (houseNew r).1 0, ((snapT (houseNew r).1 0).length : Int)⟩, ⟨[], 0⟩⟩, 0, []⟩, true) else (engineZ, false)
theorem snapT_len (h : GHouse) (q : Int) : (snapT h q).length ≤ 2600 := by
 unfold snapT
 split
 ·rename_i hb
  have hn := numsI_len (h := h)
  unfold numsI at hn
  rw [if_pos hb.1] at hn
  have hp := pL_len5 (q :: numsL h)
  rw [List.length_cons] at hp
  rw [List.length_append, four_len]; omega
 ·simp
theorem new_EngineS {r : GRules} (hr : r.Seats.length ≤ 1048576) : d_xdt r = some (engineNew r) := by
 unfold d_xdt engineNew
 rw [new_HouseS hr, bd_some, br_not, spec_SnapText (houseNew_fit hr), bd_some, br_if]
 split <;> rfl
theorem new_EngineI {r : GRules} (hr : r.Seats.length ≤ 1048576) : d_xd1 r = some (engineNew r) := by
 have hl := snapT_len (houseNew r).1 0
 have ha : areaB ⟨snapT (houseNew r).1 0, 0⟩ = true := by
  unfold areaB
  rw [Bool.and_eq_true, inB_iff, decide_eq_true_iff]
  dsimp only
  omega
 unfold d_xd1 engineNew d_xd0
 rw [new_HouseI hr, bd_some, br_not, impl_SnapText (houseNew_fit hr), bd_some, impl_AreaOk, bd_some, ha, br_not, br_t, bd_some, br_if]
 split <;> rfl
theorem engineNew_fit {r : GRules} (hr : r.Seats.length ≤ 1048576) : EngineFit (engineNew r).1 := by
 have hl := snapT_len (houseNew r).1 0
 unfold engineNew
 split
 ·exact ⟨houseNew_fit hr, by simp, by dsimp only; omega, by simp, by simp⟩
 ·exact ⟨⟨by simp [engineZ], by simp [engineZ], by simp [engineZ], by simp [engineZ], by simp [engineZ], by simp [engineZ]⟩, by simp [engineZ], by simp [engineZ], by simp [engineZ], by simp [engineZ]⟩
theorem not_same (b : Bool) : (!b == b) = false := by cases b <;> rfl
theorem szr_Rules {r : GRules} (hr : okGRules r) : ∃ x, d_xb r 1048576 = some x ∧ (x < 0 ∨ r.Seats.length ≤ 1048576) := by
 unfold d_xb
 obtain ⟨a, e, ha⟩ := szr_IntS hr.1.1 (d := 1048576) (by omega) (by omega)
 rw [e, bd_some, br_dec]
 split
 ·exact ⟨_, rfl, .inl (by omega)⟩
 ·exact ⟨_, rfl, .inr (by omega)⟩
theorem Law_FnExactEngineNew {r : GRules} (hr : okGRules r) : d_laws_FnExactEngineNew r = some true := by
 unfold d_laws_FnExactEngineNew
 obtain ⟨x, e, hx⟩ := szr_Rules hr
 rw [e, bd_some, br_dec]
 split
 ·rfl
 have hs := hx.resolve_left (by omega)
 have hf := engineNew_fit hs
 obtain ⟨k', s, ps, cs, td, js, ld, em, ⟨m1, m2⟩, mh⟩ := mark_Engine hf (k := 1) (by omega) (by omega)
 obtain ⟨a, ea, a1, a2, a3, a4⟩ := mark_Int (l := r.Seats) hs (k := 1) (by omega) (by omega)
 have ha : decide (a.1 < 0) = false := by rw [decide_eq_false_iff_not]; omega
 have hk : decide (k' < 0) = false := by rw [decide_eq_false_iff_not]; omega
 rw [tor_Rules hs, bd_some, new_EngineS hs, bd_some, bd_some, new_EngineI hs, bd_some, eqf_Engine hf, bd_some, br_not, br_t, not_same, jn_eq]
 unfold d_laws_FnExactEngineNew_j1 d_xdg
 rw [br_f, tor_Rules hs, bd_some, eqf_Rules hs, bd_some, br_not, br_t, ea, bd_some, bd_some]
 dsimp only
 rw [ha, br_f, eqf_Engine hf, bd_some, br_not, br_t, not_same, jn_eq]
 unfold d_laws_FnExactEngineNew_j2
 rw [br_f, em, bd_some, mh _ rfl rfl rfl rfl rfl rfl, bd_some]
 dsimp only
 rw [hk, br_f, ne_self, br_f, tor_Rules hs, bd_some, new_EngineI hs, bd_some, eqf_Engine hf, bd_some, br_not, br_t, not_same, jn_eq]
 unfold d_laws_FnExactEngineNew_j3
 rw [br_f]
 dsimp only
 rw [mh _ rfl rfl rfl rfl rfl rfl, bd_some, hk, br_f, ne_self, br_f]
end Lv.P
/-
 Plain laws: worlds are compared, marked and hold the marks; new worlds.
-/
set_option linter.unusedVariables false
set_option linter.unusedSimpArgs false
namespace Lv.P
open Go (IntKind BinOp UnOp)
structure WorldFit (w : GWorld) : Prop where
 engine : EngineFit w.Engine
 done : w.Done.length ≤ 1048576
 reps : w.Replies.length ≤ 1048576
 ids : ∀ r ∈ w.Replies, r.Ids.length ≤ 1048576
theorem eqf_Reply {r : GReply} (hr : r.Ids.length ≤ 1048576) : d_xef r r = some true := by
 unfold d_xef
 rw [ne_self, br_f, eqr_IntS (by omega), bd_some, br_not, br_t]
theorem eqf_ReplyS {l : List GReply} (hl : l.length ≤ 1048576) (hp : ∀ x ∈ l, x.Ids.length ≤ 1048576) : d_xeg l l = some true := by
 unfold d_xeg
 refine eqRow (by omega) ?_ ?_
 ·intro L i h
  unfold d_xeg_l1
  rw [decn_lt h, br_t, at?_lt h, bd_some, bd_some, eqf_Reply (hp _ (List.getElem_mem h)), bd_some, br_not, br_t]
 ·intro L
  unfold d_xeg_l1 d_xeg_j2
  rw [decn_ge, br_f, jn_eq]
theorem eqf_World {w : GWorld} (hw : WorldFit w) : d_xeh w w = some true := by
 have h1 := hw.done
 unfold d_xeh
 rw [eqf_Engine hw.engine, bd_some, br_not, br_t, eqr_ReqS (by omega), bd_some, br_not, br_t, eqf_ReplyS hw.reps hw.ids, bd_some, br_not, br_t, ne_self, br_f]
def qReply (k : Int) (r : GReply) (k1 : Int) : Prop := r.Code = k ∧ (0 ≤ k ∧ k ≤ 2 ^ 60) ∧ r.Ids.length ≤ 1048576 ∧ 0 ≤ k1 ∧ Chain qInt (k + 1) r.Ids k1
theorem mark_ReplyS {l : List GReply} (hl : l.length ≤ 1048576) (hf : ∀ r ∈ l, r.Ids.length ≤ 1048576) {k : Int} (h0 : 0 ≤ k) (hb : k ≤ 2 ^ 58) :
 ∃ r, d_xei l k = some r ∧ (Chain qReply k r.2 r.1 ∧ r.2.length = l.length ∧ k ≤ r.1 ∧ r.1 ≤ k + 2 ^ 50) := by
 have hs := sum_bound (l := l) (cst := fun r => 1 + r.Ids.length) (m := 1048577) fun r hr => by have := hf r hr; omega
 unfold d_xei
 have key := markLoop (l := l) (Q := qReply) (F := d_xei_l1) (fun r => 1 + r.Ids.length) (2 ^ 59) hl h0 (by omega) ?_ ?_
 ·obtain ⟨r, g1, g2, g3, g4, g5⟩ := key
  exact ⟨r, g1, g2, g3, g4, by omega⟩
 ·intro L v k i h hv hx k0 kb
  have hi : i < v.length := by omega
  have ha : at? v (i : Int) = some l[i] := by rw [at?_nat]; exact hx
  have hr := hf _ (List.getElem_mem h)
  have e1 : w64 (k + 1) = k + 1 := w64_id (by omega) (by omega)
  obtain ⟨a, ea, a1, a2, a3, a4⟩ := mark_Int (l := l[i].Ids) hr (k := k + 1) (by omega) (by omega)
  refine ⟨a.1, ⟨k, a.2⟩, ?_, ⟨rfl, ⟨k0, by omega⟩, by dsimp only; omega, by omega, a1⟩, by omega, by push_cast; omega⟩
  unfold d_xei_l1 d_xei_j2
  dsimp only
  rw [decn_lt hi, br_t]
  simp only [ha, bd_some, jn_eq, Int.toNat_natCast, at?_set hi, List.set_set, e1, ea, ge_set hi]
  rw [gd_t trivial]
 ·intro L v k hv
  unfold d_xei_l1 d_xei_j3
  dsimp only
  rw [hv, decn_ge, br_f, jn_eq]
theorem held_ReplyS {l : List GReply} (hl : l.length ≤ 1048576) {k k' : Int} (hc : Chain qReply k l k') : d_xek l k = some k' := by
 unfold d_xek
 refine heldLoop hc hl ?_ ?_
 ·rintro L i h k k1 ⟨hs, ⟨k0, kb⟩, hr, k10, ca⟩
  have e1 : w64 (k + 1) = k + 1 := w64_id (by omega) (by omega)
  have hk : decide (k1 < 0) = false := by rw [decide_eq_false_iff_not]; omega
  unfold d_xek_l1
  dsimp only
  rw [decn_lt h, br_t]
  simp only [at?_lt h, bd_some, hs, ne_self, br_f, e1, held_Int hr ca, hk]
 ·intro L k
  unfold d_xek_l1 d_xek_j2
  dsimp only
  rw [decn_ge, br_f, jn_eq]
theorem mark_World {w : GWorld} (hw : WorldFit w) {k : Int} (h0 : 0 ≤ k) (hb : k ≤ 2 ^ 50) :
 ∃ k' s ps cs td js ld dn rp, d_xej w k = some (k', ⟨⟨⟨⟨s, w.Engine.House.Rules.Tiers, w.Engine.House.Rules.Room, w.Engine.House.Rules.Size, w.Engine.House.Rules.Period, w.Engine.House.Rules.Window, w.Engine.House.Rules.Rest, w.Engine.House.Rules.Tries, w.Engine.House.Rules.Crew⟩, w.Engine.House.Now, w.Engine.House.Turn, ps, cs, td, js⟩, w.Engine.Store, w.Engine.Seq, ld⟩, dn, rp, w.Falls⟩) ∧ (k ≤ k' ∧ k' ≤ 2 ^ 59) ∧
  ∀ r : GWorld, r.Engine.House.Rules.Seats = s → r.Engine.House.Parties = ps → r.Engine.House.Cabins = cs → r.Engine.House.Todo = td → r.Engine.House.Jobs = js → r.Engine.Laid = ld → r.Done = dn → r.Replies = rp → d_xel r k = some k' := by
 have hl := hw.done; have hr := hw.reps
 obtain ⟨a, s, ps, cs, td, js, ld, ea, ⟨a1, a2⟩, ah⟩ := mark_Engine hw.engine h0 hb
 obtain ⟨b, eb, b1, b2, b3, b4⟩ := mark_Req (l := w.Done) hl (k := a) (by omega) (by omega)
 obtain ⟨c, ec, c1, c2, c3, c4⟩ := mark_ReplyS (l := w.Replies) hr hw.ids (k := b.1) (by omega) (by omega)
 refine ⟨c.1, s, ps, cs, td, js, ld, b.2, c.2, ?_, ⟨by omega, by omega⟩, ?_⟩
 ·unfold d_xej
  rw [ea, bd_some]
  dsimp only
  rw [eb, bd_some, ec, bd_some]
 ·rintro r h1 h2 h3 h4 h5 h6 h7 h8
  have n1 : decide (a < 0) = false := by rw [decide_eq_false_iff_not]; omega
  have n2 : decide (b.1 < 0) = false := by rw [decide_eq_false_iff_not]; omega
  have n3 : decide (c.1 < 0) = false := by rw [decide_eq_false_iff_not]; omega
  unfold d_xel
  rw [ah r.Engine h1 h2 h3 h4 h5 h6, bd_some, n1, br_f, h7, held_Req (l := b.2) (by omega) b1, bd_some, n2, br_f, h8, held_ReplyS (l := c.2) (by omega) c1, bd_some, n3, br_f]
noncomputable def worldNew (r : GRules) : GWorld × Bool := if (engineNew r).2 = true then (⟨(engineNew r).1, [], [], 0⟩, true) else (⟨engineZ, [], [], 0⟩, false)
theorem new_WorldS {r : GRules} (hr : r.Seats.length ≤ 1048576) : d_xed r = some (worldNew r) := by
 unfold d_xed worldNew
 rw [new_EngineS hr, bd_some, br_not, br_if]
 split <;> rfl
theorem new_WorldI {r : GRules} (hr : r.Seats.length ≤ 1048576) : d_xee r = some (worldNew r) := by
 unfold d_xee worldNew
 rw [new_EngineI hr, bd_some, br_not, br_if]
 split <;> rfl
theorem worldNew_fit {r : GRules} (hr : r.Seats.length ≤ 1048576) : WorldFit (worldNew r).1 := by
 have hf := engineNew_fit hr
 unfold worldNew
 split
 ·exact ⟨hf, by simp, by simp, by simp⟩
 ·rename_i hb
  unfold engineNew at hf hb
  split at hf
  ·rename_i h2; exact absurd (by rw [if_pos h2]) hb
  ·exact ⟨hf, by simp, by simp, by simp⟩
theorem Law_FnExactWorldNew {r : GRules} (hr : okGRules r) : d_laws_FnExactWorldNew r = some true := by
 unfold d_laws_FnExactWorldNew
 obtain ⟨x, e, hx⟩ := szr_Rules hr
 rw [e, bd_some, br_dec]
 split
 ·rfl
 have hs := hx.resolve_left (by omega)
 have hf := worldNew_fit hs
 obtain ⟨k', s, ps, cs, td, js, ld, dn, rp, em, ⟨m1, m2⟩, mh⟩ := mark_World hf (k := 1) (by omega) (by omega)
 obtain ⟨a, ea, a1, a2, a3, a4⟩ := mark_Int (l := r.Seats) hs (k := 1) (by omega) (by omega)
 have ha : decide (a.1 < 0) = false := by rw [decide_eq_false_iff_not]; omega
 have hk : decide (k' < 0) = false := by rw [decide_eq_false_iff_not]; omega
 rw [tor_Rules hs, bd_some, new_WorldS hs, bd_some, bd_some, new_WorldI hs, bd_some, eqf_World hf, bd_some, br_not, br_t, not_same, jn_eq]
 unfold d_laws_FnExactWorldNew_j1 d_xdg
 rw [br_f, tor_Rules hs, bd_some, eqf_Rules hs, bd_some, br_not, br_t, ea, bd_some, bd_some]
 dsimp only
 rw [ha, br_f, eqf_World hf, bd_some, br_not, br_t, not_same, jn_eq]
 unfold d_laws_FnExactWorldNew_j2
 rw [br_f, em, bd_some, mh _ rfl rfl rfl rfl rfl rfl rfl rfl, bd_some]
 dsimp only
 rw [hk, br_f, ne_self, br_f, tor_Rules hs, bd_some, new_WorldI hs, bd_some, eqf_World hf, bd_some, br_not, br_t, not_same, jn_eq]
 unfold d_laws_FnExactWorldNew_j3
 rw [br_f]
 dsimp only
 rw [mh _ rfl rfl rfl rfl rfl rfl rfl rfl, bd_some, hk, br_f, ne_self, br_f]
end Lv.P
