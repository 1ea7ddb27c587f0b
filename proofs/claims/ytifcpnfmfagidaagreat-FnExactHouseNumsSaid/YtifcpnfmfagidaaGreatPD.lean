/-
  Plain laws: the numbers of a house, the text of a snapshot.
-/
import Derived.Test.YtifcpnfmfagidaaGreatPB
import Derived.Test.YtifcpnfmfagidaaGreatPC
set_option linter.unusedVariables false
set_option linter.unusedSimpArgs false
set_option linter.unusedVariables false
set_option linter.unusedSimpArgs false
namespace Lv.P
open Go (IntKind BinOp UnOp)
theorem appLoop {α β γ : Type} {l : List α} (f : α → List β) (J : List β → Option γ) {F : (List β × Int → Option γ) → List β × Int → Option γ} (hl : l.length ≤ 1048576) (m : Nat) (hm : ∀ x, (f x).length ≤ m) {v0 : List β}
 (step : ∀ L i (h : i < l.length) v, v.length ≤ v0.length + m * i → F L (v, (i : Int)) = L (v ++ f l[i], w64 ((i : Int) + 1))) (stop : ∀ L v, F L (v, (l.length : Int)) = J v) : loopN F big (v0, 0) = J (v0 ++ l.flatMap f) := by
 refine (forLoop (n := l.length) (fun i (v : List β) => (v, (i : Int))) (fun i v => v = v0 ++ (l.take i).flatMap f ∧ v.length ≤ v0.length + m * i) (fun i v => J (v0 ++ l.flatMap f)) (by omega) ?_ ⟨by simp, by simp⟩)
 rintro L i v ⟨hv, hb⟩ hi ih
 rcases Nat.lt_or_ge i l.length with h | h
 ·rw [step L i h v hb, w64_succ h (by omega)]
  refine ih _ ⟨?_, ?_⟩ h
  ·rw [hv, List.take_add_one, List.getElem?_eq_getElem h, List.flatMap_append, List.append_assoc]; simp
  ·have := hm l[i]
   rw [List.length_append, Nat.mul_add]; omega
 ·obtain rfl : i = l.length := by omega
  rw [stop, hv, List.take_length]
theorem flatMap_le {α β : Type} (f : α → List β) {m : Nat} (hm : ∀ x, (f x).length ≤ m) : ∀ l : List α, (l.flatMap f).length ≤ m * l.length
 | [] => by simp
 | x :: l => by
  have := flatMap_le f hm l
  have := hm x
  rw [List.flatMap_cons, List.length_append, List.length_cons, Nat.mul_add]; omega
def rNums (r : GRules) : List Int := [r.Tiers, r.Room, r.Size, r.Period, r.Window, r.Rest, r.Tries, r.Crew] ++ r.Seats
def pNums (p : GParty) : List Int := [p.Id, p.Cabin, w64 (p.From + 1), p.Size, p.Tier, p.Since, p.Turn, p.State, p.Until, p.Asked]
def numsL (h : GHouse) : List Int :=
 (([((rNums h.Rules).length : Int)] ++ rNums h.Rules ++ [h.Now, h.Turn, (h.Parties.length : Int)] ++ h.Parties.flatMap pNums) ++ h.Cabins.flatMap (fun c => [c.Seats.Free])) ++ [(h.Todo.length : Int)] ++ h.Todo ++ h.Jobs.flatMap (fun x => [w64 (x + 1)])
noncomputable def numsI (h : GHouse) : List Int := if houseB h = true then numsL h else []
theorem houseB_ok {h : GHouse} (hb : houseB h = true) : rulesB h.Rules = true ∧ (0 ≤ h.Now ∧ h.Now ≤ 1000000) ∧ (1 ≤ h.Turn ∧ h.Turn ≤ 1000001) ∧ h.Parties.length ≤ 40 ∧ h.Cabins.length = h.Rules.Seats.length ∧ partiesB h = true ∧ todoB h.Todo h.Cabins.length = true ∧ jobsB h.Jobs h.Cabins.length = true ∧ (h.Jobs.length : Int) = h.Rules.Crew ∧ cabinsB h = true := by
 unfold houseB at hb
 simp only [Bool.and_eq_true, inB_iff, Bool.not_eq_true', decide_eq_false_iff_not, beq_iff_eq] at hb
 obtain ⟨h1, h2, h3, h4, h5, h6, ⟨h7, h8, h9⟩, h10⟩ := hb
 exact ⟨h1, h2, h3, by omega, by omega, h6, h7, h8, h9, h10⟩
theorem numsL_len {h : GHouse} (hh : HouseFit h) (hb : houseB h = true) : (numsL h).length ≤ 2000000 := by
 have hk := houseB_ok hb
 have hr := rulesB_ok hk.1
 have h1 := flatMap_le pNums (m := 10) (fun _ => Nat.le_refl _) h.Parties
 have h2 := flatMap_le (fun c : GCabin => [c.Seats.Free]) (m := 1) (fun _ => Nat.le_refl _) h.Cabins
 have h3 := flatMap_le (fun x : Int => [w64 (x + 1)]) (m := 1) (fun _ => Nat.le_refl _) h.Jobs
 have h4 := hh.todo
 unfold numsL rNums
 simp only [List.length_append, List.length_cons, List.length_nil]
 omega
theorem spec_RulesNums {r : GRules} (hr : r.Seats.length ≤ 1048576) (hb : rulesB r = true) : d_xdd r = some (rNums r) := by
 unfold d_xdd
 rw [spec_RulesOk (by omega), bd_some, hb, br_not, br_t, gd_t (by simp only [List.length_cons, List.length_nil]; unfold lim; omega)]; rfl
theorem impl_RulesNums {r : GRules} (hr : r.Seats.length ≤ 1048576) (hb : rulesB r = true) : d_xdk r = some (rNums r) := by
 unfold d_xdk
 rw [impl_RulesOk (by omega), bd_some, hb, br_not, br_t, gd_t (by simp only [List.length_cons, List.length_nil]; unfold lim; omega)]; rfl
theorem rNums_len (r : GRules) : (rNums r).length = 8 + r.Seats.length := by unfold rNums; simp only [List.length_append, List.length_cons, List.length_nil]
theorem spec_nums {h : GHouse} (hh : HouseFit h) (hb : houseB h = true) : d_xde h = some (numsL h) := by
 have hlim : lim = 268435456 := rfl
 have hk := houseB_ok hb
 have hr := rulesB_ok hk.1
 have h1 := hh.parties; have h2 := hh.ncab; have h3 := hh.todo; have h4 := hh.jobs
 have e4 : ∀ v : List Int, v.length ≤ 5000000 → d_xde_j4 h v = some (v ++ [(h.Todo.length : Int)] ++ h.Todo ++ h.Jobs.flatMap (fun x => [w64 (x + 1)])) := by
  intro v hv
  unfold d_xde_j4
  rw [gd_t (by rw [len1]; omega), gd_t (by rw [List.length_append, List.length_singleton]; omega)]
  refine appLoop (l := h.Jobs) (fun x => [w64 (x + 1)]) some h4 1 (fun _ => Nat.le_refl _) ?_ ?_
  ·intro L i hi v' hv'
   simp only [List.length_append, List.length_singleton] at hv'
   unfold d_xde_l5
   dsimp only
   rw [decn_lt hi, br_t, at?_lt hi, bd_some, gd_t (by rw [len1]; omega)]
  ·intro L v'
   unfold d_xde_l5 d_xde_j6
   dsimp only
   rw [decn_ge, br_f, jn_eq]
 have e2 : ∀ v : List Int, v.length ≤ 3000000 → d_xde_j2 h v = some ((v ++ h.Cabins.flatMap (fun c => [c.Seats.Free])) ++ [(h.Todo.length : Int)] ++ h.Todo ++ h.Jobs.flatMap (fun x => [w64 (x + 1)])) := by
  intro v hv
  have hc := flatMap_le (fun c : GCabin => [c.Seats.Free]) (m := 1) (fun _ => Nat.le_refl _) h.Cabins
  unfold d_xde_j2
  rw [appLoop (l := h.Cabins) (fun c => [c.Seats.Free]) (d_xde_j4 h) h2 1 (fun _ => Nat.le_refl _) ?_ ?_, e4 _ (by rw [List.length_append]; omega)]
  ·intro L i hi v' hv'
   unfold d_xde_l3
   dsimp only
   rw [decn_lt hi, br_t, at?_lt hi, bd_some, gd_t (by rw [len1]; omega)]
  ·intro L v'
   unfold d_xde_l3
   dsimp only
   rw [decn_ge, br_f, jn_eq]
 have hc := flatMap_le pNums (m := 10) (fun _ => Nat.le_refl _) h.Parties
 have hn := rNums_len h.Rules
 have hs := hh.seats
 unfold d_xde
 rw [spec_HouseOk hh, bd_some, hb, br_not, br_t, spec_RulesNums hh.seats hk.1, bd_some, gd_t (by rw [List.length_singleton]; omega), gd_t (by simp only [List.length_append, List.length_singleton, List.length_cons, List.length_nil]; omega)]
 rw [appLoop (l := h.Parties) pNums (d_xde_j2 h) h1 10 (fun _ => Nat.le_refl _) ?_ ?_, e2 _ (by simp only [List.length_append, List.length_singleton, List.length_cons, List.length_nil]; omega)]
 ·rfl
 ·intro L i hi v' hv'
  simp only [List.length_append, List.length_singleton, List.length_cons, List.length_nil] at hv'
  unfold d_xde_l1
  dsimp only
  rw [decn_lt hi, br_t, at?_lt hi, bd_some, gd_t (by simp only [List.length_cons, List.length_nil]; omega)]; rfl
 ·intro L v'
  unfold d_xde_l1
  dsimp only
  rw [decn_ge, br_f, jn_eq]
theorem impl_nums {h : GHouse} (hh : HouseFit h) (hb : houseB h = true) : d_xdt h = some (numsL h) := by
 have hlim : lim = 268435456 := rfl
 have hk := houseB_ok hb
 have hr := rulesB_ok hk.1
 have h1 := hh.parties; have h2 := hh.ncab; have h3 := hh.todo; have h4 := hh.jobs
 have e4 : ∀ v : List Int, v.length ≤ 5000000 → d_xdt_j4 h v = some (v ++ [(h.Todo.length : Int)] ++ h.Todo ++ h.Jobs.flatMap (fun x => [w64 (x + 1)])) := by
  intro v hv
  unfold d_xdt_j4
  rw [gd_t (by rw [len1]; omega), gd_t (by rw [List.length_append, List.length_singleton]; omega)]
  refine appLoop (l := h.Jobs) (fun x => [w64 (x + 1)]) some h4 1 (fun _ => Nat.le_refl _) ?_ ?_
  ·intro L i hi v' hv'
   simp only [List.length_append, List.length_singleton] at hv'
   unfold d_xdt_l5
   dsimp only
   rw [decn_lt hi, br_t, at?_lt hi, bd_some, gd_t (by rw [len1]; omega)]
  ·intro L v'
   unfold d_xdt_l5 d_xdt_j6
   dsimp only
   rw [decn_ge, br_f, jn_eq]
 have e2 : ∀ v : List Int, v.length ≤ 3000000 → d_xdt_j2 h v = some ((v ++ h.Cabins.flatMap (fun c => [c.Seats.Free])) ++ [(h.Todo.length : Int)] ++ h.Todo ++ h.Jobs.flatMap (fun x => [w64 (x + 1)])) := by
  intro v hv
  have hc := flatMap_le (fun c : GCabin => [c.Seats.Free]) (m := 1) (fun _ => Nat.le_refl _) h.Cabins
  unfold d_xdt_j2
  rw [appLoop (l := h.Cabins) (fun c => [c.Seats.Free]) (d_xdt_j4 h) h2 1 (fun _ => Nat.le_refl _) ?_ ?_, e4 _ (by rw [List.length_append]; omega)]
  ·intro L i hi v' hv'
   unfold d_xdt_l3
   dsimp only
   rw [decn_lt hi, br_t, at?_lt hi, bd_some, gd_t (by rw [len1]; omega)]
  ·intro L v'
   unfold d_xdt_l3
   dsimp only
   rw [decn_ge, br_f, jn_eq]
 have hc := flatMap_le pNums (m := 10) (fun _ => Nat.le_refl _) h.Parties
 have hn := rNums_len h.Rules
 have hs := hh.seats
 unfold d_xdt
 rw [impl_HouseOk hh, bd_some, hb, br_not, br_t, impl_RulesNums hh.seats hk.1, bd_some, gd_t (by rw [List.length_singleton]; omega), gd_t (by simp only [List.length_append, List.length_singleton, List.length_cons, List.length_nil]; omega)]
 rw [appLoop (l := h.Parties) pNums (d_xdt_j2 h) h1 10 (fun _ => Nat.le_refl _) ?_ ?_, e2 _ (by simp only [List.length_append, List.length_singleton, List.length_cons, List.length_nil]; omega)]
 ·rfl
 ·intro L i hi v' hv'
  simp only [List.length_append, List.length_singleton, List.length_cons, List.length_nil] at hv'
  unfold d_xdt_l1
  dsimp only
  rw [decn_lt hi, br_t, at?_lt hi, bd_some, gd_t (by simp only [List.length_cons, List.length_nil]; omega)]; rfl
 ·intro L v'
  unfold d_xdt_l1
  dsimp only
  rw [decn_ge, br_f, jn_eq]
theorem implA_nums {h : GHouse} (hh : HouseFit h) (hb : houseB h = true) : d_xdl h = some (numsL h) := by
 have hlim : lim = 268435456 := rfl
 have hk := houseB_ok hb
 have hr := rulesB_ok hk.1
 have h1 := hh.parties; have h2 := hh.ncab; have h3 := hh.todo; have h4 := hh.jobs
 have e4 : ∀ v : List Int, v.length ≤ 5000000 → d_xdl_j4 h v = some (v ++ [(h.Todo.length : Int)] ++ h.Todo ++ h.Jobs.flatMap (fun x => [w64 (x + 1)])) := by
  intro v hv
  unfold d_xdl_j4
  rw [gd_t (by rw [len1]; omega), gd_t (by rw [List.length_append, List.length_singleton]; omega)]
  refine appLoop (l := h.Jobs) (fun x => [w64 (x + 1)]) some h4 1 (fun _ => Nat.le_refl _) ?_ ?_
  ·intro L i hi v' hv'
   simp only [List.length_append, List.length_singleton] at hv'
   unfold d_xdl_l5
   dsimp only
   rw [decn_lt hi, br_t, at?_lt hi, bd_some, gd_t (by rw [len1]; omega)]
  ·intro L v'
   unfold d_xdl_l5 d_xdl_j6
   dsimp only
   rw [decn_ge, br_f, jn_eq]
 have e2 : ∀ v : List Int, v.length ≤ 3000000 → d_xdl_j2 h v = some ((v ++ h.Cabins.flatMap (fun c => [c.Seats.Free])) ++ [(h.Todo.length : Int)] ++ h.Todo ++ h.Jobs.flatMap (fun x => [w64 (x + 1)])) := by
  intro v hv
  have hc := flatMap_le (fun c : GCabin => [c.Seats.Free]) (m := 1) (fun _ => Nat.le_refl _) h.Cabins
  unfold d_xdl_j2
  rw [appLoop (l := h.Cabins) (fun c => [c.Seats.Free]) (d_xdl_j4 h) h2 1 (fun _ => Nat.le_refl _) ?_ ?_, e4 _ (by rw [List.length_append]; omega)]
  ·intro L i hi v' hv'
   unfold d_xdl_l3
   dsimp only
   rw [decn_lt hi, br_t, at?_lt hi, bd_some, gd_t (by rw [len1]; omega)]
  ·intro L v'
   unfold d_xdl_l3
   dsimp only
   rw [decn_ge, br_f, jn_eq]
 have hc := flatMap_le pNums (m := 10) (fun _ => Nat.le_refl _) h.Parties
 have hn := rNums_len h.Rules
 have hs := hh.seats
 unfold d_xdl
 rw [impl_HouseOk hh, bd_some, hb, br_not, br_t, impl_RulesNums hh.seats hk.1, bd_some, gd_t (by rw [List.length_singleton]; omega), gd_t (by simp only [List.length_append, List.length_singleton, List.length_cons, List.length_nil]; omega)]
 rw [appLoop (l := h.Parties) pNums (d_xdl_j2 h) h1 10 (fun _ => Nat.le_refl _) ?_ ?_, e2 _ (by simp only [List.length_append, List.length_singleton, List.length_cons, List.length_nil]; omega)]
 ·rfl
 ·intro L i hi v' hv'
  simp only [List.length_append, List.length_singleton, List.length_cons, List.length_nil] at hv'
  unfold d_xdl_l1
  dsimp only
  rw [decn_lt hi, br_t, at?_lt hi, bd_some, gd_t (by simp only [List.length_cons, List.length_nil]; omega)]; rfl
 ·intro L v'
  unfold d_xdl_l1
  dsimp only
  rw [decn_ge, br_f, jn_eq]
theorem spec_HouseNums {h : GHouse} (hh : HouseFit h) : d_xde h = some (numsI h) := by
 unfold numsI
 split
 ·rename_i hb; exact spec_nums hh hb
 ·rename_i hb
  rw [Bool.not_eq_true] at hb
  unfold d_xde
  rw [spec_HouseOk hh, bd_some, hb, br_not, br_f]
theorem impl_HouseNums {h : GHouse} (hh : HouseFit h) : d_xdt h = some (numsI h) := by
 unfold numsI
 split
 ·rename_i hb; exact impl_nums hh hb
 ·rename_i hb
  rw [Bool.not_eq_true] at hb
  unfold d_xdt
  rw [impl_HouseOk hh, bd_some, hb, br_not, br_f]
noncomputable def snapT (h : GHouse) (q : Int) : List UInt8 := if houseB h = true ∧ inB q 0 1000000 = true then four ((crcOf (pL (q :: numsL h)) : Nat) : Int) ++ pL (q :: numsL h) else []
theorem pL_len5 : ∀ l : List Int, (pL l).length ≤ 5 * l.length
 | [] => by simp [pL]
 | x :: l => by
  have := pL_len5 l
  have := pN_len x
  unfold pL at *
  rw [List.flatMap_cons, List.length_append, List.length_cons]; omega
theorem spec_SnapText {h : GHouse} (hh : HouseFit h) (q : Int) : d_xdj h q = some (snapT h q) := by
 have hlim : lim = 268435456 := rfl
 have hslim : slim = 4611686018427387904 := rfl
 unfold d_xdj snapT
 rw [spec_HouseOk hh, bd_some, br_not, jn_eq, in_eq, bd_some, jn_eq]
 by_cases hb : houseB h = true
 ·have hn := numsL_len hh hb
  have hp := pL_len5 (q :: numsL h)
  rw [List.length_cons] at hp
  rw [hb, br_t]
  unfold d_xdj_j1
  rw [br_not, spec_nums hh hb, bd_some, gd_t (by rw [List.length_singleton]; omega), List.singleton_append, spec_l18Nums (by rw [List.length_cons]; omega), bd_some, spec_Crc (by omega), bd_some]
  unfold d_xdi
  rw [bd_some]
  cases hq : inB q 0 1000000 with
  | false => rfl
  | true =>
   rw [br_t, gd_t (by simp only [List.length_cons, List.length_nil]; omega), if_pos ⟨rfl, rfl⟩]
   rfl
 ·rw [if_neg (fun g => hb g.1)]
  rw [Bool.not_eq_true] at hb
  rw [hb, br_f]; rfl
theorem impl_SnapText {h : GHouse} (hh : HouseFit h) (q : Int) : d_xds h q = some (snapT h q) := by
 have hslim : slim = 4611686018427387904 := rfl
 unfold d_xds snapT orE
 by_cases hb : houseB h = true
 ·have hn := numsL_len hh hb
  have hp := pL_len5 (q :: numsL h)
  rw [List.length_cons] at hp
  have hpn := pN_len q
  have hpl := pL_len5 (numsL h)
  have he : (numsL h).isEmpty = false := by
   unfold numsL; simp
  have hcc : pN q ++ pL (numsL h) = pL (q :: numsL h) := rfl
  have e : d_xdp h q = some (if inB q 0 1000000 = true then four ((crcOf (pL (q :: numsL h)) : Nat) : Int) ++ pL (q :: numsL h) else []) := by
   unfold d_xdp
   rw [implA_nums hh hb, bd_some, gd_t he, wi_eq, bd_some, br_not]
   cases hq : inB q 0 1000000 with
   | false => rfl
   | true =>
    rw [br_t, impl_PutNum, bd_some, impl_putNums (by omega), bd_some, gd_t (by omega), hcc, impl_Crc (by omega), bd_some, gd_t (by simp only [List.length_cons, List.length_nil]; omega)]
    rfl
  rw [e]
  dsimp only
  cases hq : inB q 0 1000000 <;> simp [hb]
 ·rw [if_neg (fun g => hb g.1)]
  rw [Bool.not_eq_true] at hb
  have e : d_xdp h q = none := by
   unfold d_xdp d_xdl
   rw [impl_HouseOk hh, bd_some, hb, br_not, br_f, bd_none]
  rw [e]
  dsimp only
  unfold d_xdr d_xdq
  rw [impl_HouseOk hh, bd_some, hb, br_not, br_f, bd_some]
theorem Law_FnExactSnapText {h : GHouse} {q : Int} (hh : okGHouse h) (_ : okI q) : d_laws_FnExactSnapText h q = some true := by
 unfold d_laws_FnExactSnapText
 obtain ⟨r, e, hr⟩ := szr_House hh (d := 1048576) (by omega) (by omega)
 rw [e, bd_some, br_dec]
 split
 ·rfl
 have hf := (hr.resolve_left (by omega)).2.2
 have hne : ∀ (b : List UInt8), (b != b) = false := by simp
 rw [tor_House hf, bd_some, spec_SnapText hf, bd_some, bd_some, impl_SnapText hf, bd_some, hne, br_f, bd_some, eqr_House hh, bd_some, br_not, br_t]
end Lv.P
/-
 Plain laws: rows are marked with numbers one after the other, and hold them.
-/
set_option linter.unusedVariables false
set_option linter.unusedSimpArgs false
namespace Lv.P
open Go (IntKind BinOp UnOp)
inductive Chain {α : Type} (Q : Int → α → Int → Prop) : Int → List α → Int → Prop
 | nil (k : Int) : Chain Q k [] k
 | cons {k k1 k2 : Int} {x : α} {l : List α} (h : Q k x k1) (t : Chain Q k1 l k2) : Chain Q k (x :: l) k2
section
variable {α : Type} {Q : Int → α → Int → Prop}
theorem Chain.snoc {k k1 k2 : Int} {l : List α} {x : α} (h : Chain Q k l k1) (hq : Q k1 x k2) : Chain Q k (l ++ [x]) k2 := by
 induction h with
 | nil k => exact .cons hq (.nil _)
 | cons h t ih => exact .cons h (ih hq)
theorem sum_take {l : List α} (cst : α → Nat) {i : Nat} (h : i < l.length) : ((l.take (i + 1)).map cst).sum = ((l.take i).map cst).sum + cst l[i] := by
 have e : l.take (i + 1) = l.take i ++ [l[i]] := by rw [List.take_add_one, List.getElem?_eq_getElem h]; rfl
 rw [e, List.map_append, List.sum_append]; simp
theorem sum_le {l : List α} (cst : α → Nat) (i : Nat) : ((l.take i).map cst).sum ≤ (l.map cst).sum := by
 have : (l.map cst).sum = ((l.take i).map cst).sum + ((l.drop i).map cst).sum := by rw [← List.sum_append, ← List.map_append, List.take_append_drop]
 omega
theorem sum_const (c : Nat) : ∀ l : List α, (l.map (fun _ => c)).sum = c * l.length
 | [] => by simp
 | x :: l => by rw [List.map_cons, List.sum_cons, sum_const c l, List.length_cons, Nat.mul_add]; omega
theorem sum_bound {l : List α} {cst : α → Nat} {m : Nat} (h : ∀ x ∈ l, cst x ≤ m) : (l.map cst).sum ≤ m * l.length := by
 induction l with
 | nil => simp
 | cons x l ih =>
  have h1 := h x List.mem_cons_self
  have h2 := ih fun y hy => h y (List.mem_cons_of_mem _ hy)
  rw [List.map_cons, List.sum_cons, List.length_cons, Nat.mul_add]; omega
theorem markLoop {l : List α} (cst : α → Nat) (M : Int) {F : (List α × Int × Int → Option (Int × List α)) → List α × Int × Int → Option (Int × List α)} (hl : l.length ≤ 1048576) {k0 : Int} (h0 : 0 ≤ k0) (hb : k0 + ((l.map cst).sum : Nat) ≤ M)
 (step : ∀ L (v : List α) (k : Int) (i : Nat) (h : i < l.length), v.length = l.length → v[i]? = some l[i] → 0 ≤ k → k + cst l[i] ≤ M →
  ∃ k1 x', F L (v, k, (i : Int)) = L (v.set i x', k1, w64 ((i : Int) + 1)) ∧ Q k x' k1 ∧ k ≤ k1 ∧ k1 ≤ k + cst l[i])
 (stop : ∀ L v k, v.length = l.length → F L (v, k, (l.length : Int)) = some (k, v)) :
 ∃ r, loopN F big (l, k0, 0) = some r ∧ (Chain Q k0 r.2 r.1 ∧ r.2.length = l.length ∧ k0 ≤ r.1 ∧ r.1 ≤ k0 + ((l.map cst).sum : Nat)) := by
 refine forEx (n := l.length) (fun i (v : List α × Int) => (v.1, v.2, (i : Int))) (fun i v => v.1.length = l.length ∧ v.1.drop i = l.drop i ∧ Chain Q k0 (v.1.take i) v.2 ∧ k0 ≤ v.2 ∧ v.2 ≤ k0 + (((l.take i).map cst).sum : Nat)) _ (by omega) ?_ (v := (l, k0)) ⟨rfl, rfl, by simpa using Chain.nil k0, Int.le_refl _, by simp⟩
 rintro L i ⟨v, k⟩ ⟨h1, h2, h3, h4, h5⟩ hi ih
 dsimp only at h1 h2 h3 h4 h5 ih ⊢
 rcases Nat.lt_or_ge i l.length with h | h
 ·have hv : i < v.length := by omega
  have e : v[i] = l[i] := by
   have := h2
   rw [drop_at h, drop_at hv] at this
   exact (List.cons.injEq .. ▸ this : _ ∧ _).1
  have hs := sum_take cst h
  have hs2 := sum_le (l := l) cst (i + 1)
  obtain ⟨k1, x', g1, g2, g3, g4⟩ := step L v k i h h1 (by rw [List.getElem?_eq_getElem hv, e]) (by omega) (by omega)
  rw [g1, w64_succ h (by omega)]
  refine ih (v.set i x', k1) ⟨by simp [h1], ?_, ?_, by dsimp only; omega, by dsimp only; omega⟩ h
  ·dsimp only
   rw [List.drop_set_of_lt (by omega)]
   have := congrArg (List.drop 1) h2
   simpa [List.drop_drop, Nat.add_comm] using this
  ·dsimp only
   have : (v.set i x').take (i + 1) = v.take i ++ [x'] := by
    rw [List.take_add_one, List.take_set_of_le (by omega)]; simp [hv]
   rw [this]
   exact h3.snoc g2
 ·obtain rfl : i = l.length := by omega
  rw [stop L v k h1]
  rw [List.take_of_length_le (by omega)] at h3
  rw [List.take_length] at h5
  exact ⟨_, rfl, h3, h1, h4, h5⟩
theorem heldLoop {l : List α} {k k' : Int} (hc : Chain Q k l k') {G : (Int × Int → Option Int) → Int × Int → Option Int} (hl : l.length ≤ 1048576)
 (step : ∀ L i (h : i < l.length) k k1, Q k l[i] k1 → G L (k, (i : Int)) = L (k1, w64 ((i : Int) + 1))) (stop : ∀ L k, G L (k, (l.length : Int)) = some k) : loopN G big (k, 0) = some k' := by
 refine (forLoop (n := l.length) (fun i (k : Int) => (k, (i : Int))) (fun i k => Chain Q k (l.drop i) k') (fun _ _ => some k') (by omega) ?_ (by simpa using hc))
 intro L i k hk hi ih
 rcases Nat.lt_or_ge i l.length with h | h
 ·rw [drop_at h] at hk
  cases hk with
  | cons hq ht =>
   rw [step L i h _ _ hq, w64_succ h (by omega)]
   exact ih _ ht h
 ·obtain rfl : i = l.length := by omega
  rw [List.drop_length] at hk
  cases hk
  exact stop _ _
end
theorem at?_set {α : Type} {v : List α} {i : Nat} (h : i < v.length) (a : α) : at? (v.set i a) (i : Int) = some a := by rw [at?_nat]; simp [h]
def qInt (k : Int) (x : Int) (k1 : Int) : Prop := x = k ∧ k1 = k + 1 ∧ 0 ≤ k ∧ k ≤ 2 ^ 60
theorem mark_Int {l : List Int} (hl : l.length ≤ 1048576) {k : Int} (h0 : 0 ≤ k) (hb : k ≤ 2 ^ 59) :
 ∃ r, d_xdu l k = some r ∧ (Chain qInt k r.2 r.1 ∧ r.2.length = l.length ∧ k ≤ r.1 ∧ r.1 ≤ k + 1 * l.length) := by
 have hs := sum_const 1 l
 unfold d_xdu
 have key := markLoop (l := l) (Q := qInt) (F := d_xdu_l1) (fun _ => 1) (2 ^ 60) hl h0 (by rw [hs]; omega) ?_ ?_
 ·obtain ⟨r, g1, g2, g3, g4, g5⟩ := key
  exact ⟨r, g1, g2, g3, g4, by rw [hs] at g5; omega⟩
 ·intro L v k i h hv hx k0 kb
  have hi : i < v.length := by omega
  have ha : at? v (i : Int) = some l[i] := by rw [at?_nat]; exact hx
  have e1 : w64 (k + 1) = k + 1 := w64_id (by omega) (by omega)
  refine ⟨k + 1, k, ?_, ⟨rfl, rfl, k0, by omega⟩, by omega, by omega⟩
  unfold d_xdu_l1 d_xdu_j2 d_xdu_j3
  dsimp only
  rw [decn_lt hi, br_t]
  simp only [ha, bd_some, jn_eq, Int.toNat_natCast, at?_set hi, List.set_set, e1]
 ·intro L v k hv
  unfold d_xdu_l1 d_xdu_j3
  dsimp only
  rw [hv, decn_ge, br_f, jn_eq]
theorem held_Int {l : List Int} (hl : l.length ≤ 1048576) {k k' : Int} (hc : Chain qInt k l k') : d_xd2 l k = some k' := by
 unfold d_xd2
 refine heldLoop hc hl ?_ ?_
 ·rintro L i h k k1 ⟨hx, rfl, k0, kb⟩
  have e1 : w64 (k + 1) = k + 1 := w64_id (by omega) (by omega)
  unfold d_xd2_l1
  dsimp only
  rw [decn_lt h, br_t]
  simp only [at?_lt h, bd_some, hx, ne_self, br_f, e1]
 ·intro L k
  unfold d_xd2_l1 d_xd2_j2
  dsimp only
  rw [decn_ge, br_f, jn_eq]
def qParty (k : Int) (x : GParty) (k1 : Int) : Prop := x = ⟨k, k + 1, k + 1 + 1, k + 1 + 1 + 1, k + 1 + 1 + 1 + 1, k + 1 + 1 + 1 + 1 + 1, k + 1 + 1 + 1 + 1 + 1 + 1, k + 1 + 1 + 1 + 1 + 1 + 1 + 1, k + 1 + 1 + 1 + 1 + 1 + 1 + 1 + 1, k + 1 + 1 + 1 + 1 + 1 + 1 + 1 + 1 + 1⟩ ∧ k1 = k + 1 + 1 + 1 + 1 + 1 + 1 + 1 + 1 + 1 + 1 ∧ 0 ≤ k ∧ k ≤ 2 ^ 60
theorem mark_Party {l : List GParty} (hl : l.length ≤ 1048576) {k : Int} (h0 : 0 ≤ k) (hb : k ≤ 2 ^ 59) :
 ∃ r, d_xdw l k = some r ∧ (Chain qParty k r.2 r.1 ∧ r.2.length = l.length ∧ k ≤ r.1 ∧ r.1 ≤ k + 10 * l.length) := by
 have hs := sum_const 10 l
 unfold d_xdw
 have key := markLoop (l := l) (Q := qParty) (F := d_xdw_l1) (fun _ => 10) (2 ^ 60) hl h0 (by rw [hs]; omega) ?_ ?_
 ·obtain ⟨r, g1, g2, g3, g4, g5⟩ := key
  exact ⟨r, g1, g2, g3, g4, by rw [hs] at g5; omega⟩
 ·intro L v k i h hv hx k0 kb
  have hi : i < v.length := by omega
  have ha : at? v (i : Int) = some l[i] := by rw [at?_nat]; exact hx
  have e1 : w64 (k + 1) = k + 1 := w64_id (by omega) (by omega)
  have e2 : w64 (k + 1 + 1) = k + 1 + 1 := w64_id (by omega) (by omega)
  have e3 : w64 (k + 1 + 1 + 1) = k + 1 + 1 + 1 := w64_id (by omega) (by omega)
  have e4 : w64 (k + 1 + 1 + 1 + 1) = k + 1 + 1 + 1 + 1 := w64_id (by omega) (by omega)
  have e5 : w64 (k + 1 + 1 + 1 + 1 + 1) = k + 1 + 1 + 1 + 1 + 1 := w64_id (by omega) (by omega)
  have e6 : w64 (k + 1 + 1 + 1 + 1 + 1 + 1) = k + 1 + 1 + 1 + 1 + 1 + 1 := w64_id (by omega) (by omega)
  have e7 : w64 (k + 1 + 1 + 1 + 1 + 1 + 1 + 1) = k + 1 + 1 + 1 + 1 + 1 + 1 + 1 := w64_id (by omega) (by omega)
  have e8 : w64 (k + 1 + 1 + 1 + 1 + 1 + 1 + 1 + 1) = k + 1 + 1 + 1 + 1 + 1 + 1 + 1 + 1 := w64_id (by omega) (by omega)
  have e9 : w64 (k + 1 + 1 + 1 + 1 + 1 + 1 + 1 + 1 + 1) = k + 1 + 1 + 1 + 1 + 1 + 1 + 1 + 1 + 1 := w64_id (by omega) (by omega)
  have e10 : w64 (k + 1 + 1 + 1 + 1 + 1 + 1 + 1 + 1 + 1 + 1) = k + 1 + 1 + 1 + 1 + 1 + 1 + 1 + 1 + 1 + 1 := w64_id (by omega) (by omega)
  refine ⟨k + 1 + 1 + 1 + 1 + 1 + 1 + 1 + 1 + 1 + 1, ⟨k, k + 1, k + 1 + 1, k + 1 + 1 + 1, k + 1 + 1 + 1 + 1, k + 1 + 1 + 1 + 1 + 1, k + 1 + 1 + 1 + 1 + 1 + 1, k + 1 + 1 + 1 + 1 + 1 + 1 + 1, k + 1 + 1 + 1 + 1 + 1 + 1 + 1 + 1, k + 1 + 1 + 1 + 1 + 1 + 1 + 1 + 1 + 1⟩, ?_, ⟨rfl, rfl, k0, by omega⟩, by omega, by omega⟩
  unfold d_xdw_l1 d_xdw_j2 d_xdw_j3 d_xdw_j4 d_xdw_j5 d_xdw_j6 d_xdw_j7 d_xdw_j8 d_xdw_j9 d_xdw_j10 d_xdw_j11 d_xdw_j12
  dsimp only
  rw [decn_lt hi, br_t]
  simp only [ha, bd_some, jn_eq, Int.toNat_natCast, at?_set hi, List.set_set, e1, e2, e3, e4, e5, e6, e7, e8, e9, e10]
 ·intro L v k hv
  unfold d_xdw_l1 d_xdw_j12
  dsimp only
  rw [hv, decn_ge, br_f, jn_eq]
theorem held_Party {l : List GParty} (hl : l.length ≤ 1048576) {k k' : Int} (hc : Chain qParty k l k') : d_laws_heldPartyS l k = some k' := by
 unfold d_laws_heldPartyS
 refine heldLoop hc hl ?_ ?_
 ·rintro L i h k k1 ⟨hx, rfl, k0, kb⟩
  have e1 : w64 (k + 1) = k + 1 := w64_id (by omega) (by omega)
  have e2 : w64 (k + 1 + 1) = k + 1 + 1 := w64_id (by omega) (by omega)
  have e3 : w64 (k + 1 + 1 + 1) = k + 1 + 1 + 1 := w64_id (by omega) (by omega)
  have e4 : w64 (k + 1 + 1 + 1 + 1) = k + 1 + 1 + 1 + 1 := w64_id (by omega) (by omega)
  have e5 : w64 (k + 1 + 1 + 1 + 1 + 1) = k + 1 + 1 + 1 + 1 + 1 := w64_id (by omega) (by omega)
  have e6 : w64 (k + 1 + 1 + 1 + 1 + 1 + 1) = k + 1 + 1 + 1 + 1 + 1 + 1 := w64_id (by omega) (by omega)
  have e7 : w64 (k + 1 + 1 + 1 + 1 + 1 + 1 + 1) = k + 1 + 1 + 1 + 1 + 1 + 1 + 1 := w64_id (by omega) (by omega)
  have e8 : w64 (k + 1 + 1 + 1 + 1 + 1 + 1 + 1 + 1) = k + 1 + 1 + 1 + 1 + 1 + 1 + 1 + 1 := w64_id (by omega) (by omega)
  have e9 : w64 (k + 1 + 1 + 1 + 1 + 1 + 1 + 1 + 1 + 1) = k + 1 + 1 + 1 + 1 + 1 + 1 + 1 + 1 + 1 := w64_id (by omega) (by omega)
  have e10 : w64 (k + 1 + 1 + 1 + 1 + 1 + 1 + 1 + 1 + 1 + 1) = k + 1 + 1 + 1 + 1 + 1 + 1 + 1 + 1 + 1 + 1 := w64_id (by omega) (by omega)
  unfold d_laws_heldPartyS_l1
  dsimp only
  rw [decn_lt h, br_t]
  simp only [at?_lt h, bd_some, hx, ne_self, br_f, e1, e2, e3, e4, e5, e6, e7, e8, e9, e10]
 ·intro L k
  unfold d_laws_heldPartyS_l1 d_laws_heldPartyS_j2
  dsimp only
  rw [decn_ge, br_f, jn_eq]
def qEntry (k : Int) (x : GEntry) (k1 : Int) : Prop := x = ⟨k, k + 1, k + 1 + 1, k + 1 + 1 + 1⟩ ∧ k1 = k + 1 + 1 + 1 + 1 ∧ 0 ≤ k ∧ k ≤ 2 ^ 60
theorem mark_Entry {l : List GEntry} (hl : l.length ≤ 1048576) {k : Int} (h0 : 0 ≤ k) (hb : k ≤ 2 ^ 59) :
 ∃ r, d_xdx l k = some r ∧ (Chain qEntry k r.2 r.1 ∧ r.2.length = l.length ∧ k ≤ r.1 ∧ r.1 ≤ k + 4 * l.length) := by
 have hs := sum_const 4 l
 unfold d_xdx
 have key := markLoop (l := l) (Q := qEntry) (F := d_xdx_l1) (fun _ => 4) (2 ^ 60) hl h0 (by rw [hs]; omega) ?_ ?_
 ·obtain ⟨r, g1, g2, g3, g4, g5⟩ := key
  exact ⟨r, g1, g2, g3, g4, by rw [hs] at g5; omega⟩
 ·intro L v k i h hv hx k0 kb
  have hi : i < v.length := by omega
  have ha : at? v (i : Int) = some l[i] := by rw [at?_nat]; exact hx
  have e1 : w64 (k + 1) = k + 1 := w64_id (by omega) (by omega)
  have e2 : w64 (k + 1 + 1) = k + 1 + 1 := w64_id (by omega) (by omega)
  have e3 : w64 (k + 1 + 1 + 1) = k + 1 + 1 + 1 := w64_id (by omega) (by omega)
  have e4 : w64 (k + 1 + 1 + 1 + 1) = k + 1 + 1 + 1 + 1 := w64_id (by omega) (by omega)
  refine ⟨k + 1 + 1 + 1 + 1, ⟨k, k + 1, k + 1 + 1, k + 1 + 1 + 1⟩, ?_, ⟨rfl, rfl, k0, by omega⟩, by omega, by omega⟩
  unfold d_xdx_l1 d_xdx_j2 d_xdx_j3 d_xdx_j4 d_xdx_j5 d_xdx_j6
  dsimp only
  rw [decn_lt hi, br_t]
  simp only [ha, bd_some, jn_eq, Int.toNat_natCast, at?_set hi, List.set_set, e1, e2, e3, e4]
 ·intro L v k hv
  unfold d_xdx_l1 d_xdx_j6
  dsimp only
  rw [hv, decn_ge, br_f, jn_eq]
theorem held_Entry {l : List GEntry} (hl : l.length ≤ 1048576) {k k' : Int} (hc : Chain qEntry k l k') : d_laws_heldEntryS l k = some k' := by
 unfold d_laws_heldEntryS
 refine heldLoop hc hl ?_ ?_
 ·rintro L i h k k1 ⟨hx, rfl, k0, kb⟩
  have e1 : w64 (k + 1) = k + 1 := w64_id (by omega) (by omega)
  have e2 : w64 (k + 1 + 1) = k + 1 + 1 := w64_id (by omega) (by omega)
  have e3 : w64 (k + 1 + 1 + 1) = k + 1 + 1 + 1 := w64_id (by omega) (by omega)
  have e4 : w64 (k + 1 + 1 + 1 + 1) = k + 1 + 1 + 1 + 1 := w64_id (by omega) (by omega)
  unfold d_laws_heldEntryS_l1
  dsimp only
  rw [decn_lt h, br_t]
  simp only [at?_lt h, bd_some, hx, ne_self, br_f, e1, e2, e3, e4]
 ·intro L k
  unfold d_laws_heldEntryS_l1 d_laws_heldEntryS_j2
  dsimp only
  rw [decn_ge, br_f, jn_eq]
def qPin (k : Int) (x : GPin) (k1 : Int) : Prop := x = ⟨k, k + 1⟩ ∧ k1 = k + 1 + 1 ∧ 0 ≤ k ∧ k ≤ 2 ^ 60
theorem mark_Pin {l : List GPin} (hl : l.length ≤ 1048576) {k : Int} (h0 : 0 ≤ k) (hb : k ≤ 2 ^ 59) :
 ∃ r, d_xdy l k = some r ∧ (Chain qPin k r.2 r.1 ∧ r.2.length = l.length ∧ k ≤ r.1 ∧ r.1 ≤ k + 2 * l.length) := by
 have hs := sum_const 2 l
 unfold d_xdy
 have key := markLoop (l := l) (Q := qPin) (F := d_xdy_l1) (fun _ => 2) (2 ^ 60) hl h0 (by rw [hs]; omega) ?_ ?_
 ·obtain ⟨r, g1, g2, g3, g4, g5⟩ := key
  exact ⟨r, g1, g2, g3, g4, by rw [hs] at g5; omega⟩
 ·intro L v k i h hv hx k0 kb
  have hi : i < v.length := by omega
  have ha : at? v (i : Int) = some l[i] := by rw [at?_nat]; exact hx
  have e1 : w64 (k + 1) = k + 1 := w64_id (by omega) (by omega)
  have e2 : w64 (k + 1 + 1) = k + 1 + 1 := w64_id (by omega) (by omega)
  refine ⟨k + 1 + 1, ⟨k, k + 1⟩, ?_, ⟨rfl, rfl, k0, by omega⟩, by omega, by omega⟩
  unfold d_xdy_l1 d_xdy_j2 d_xdy_j3 d_xdy_j4
  dsimp only
  rw [decn_lt hi, br_t]
  simp only [ha, bd_some, jn_eq, Int.toNat_natCast, at?_set hi, List.set_set, e1, e2]
 ·intro L v k hv
  unfold d_xdy_l1 d_xdy_j4
  dsimp only
  rw [hv, decn_ge, br_f, jn_eq]
theorem held_Pin {l : List GPin} (hl : l.length ≤ 1048576) {k k' : Int} (hc : Chain qPin k l k') : d_laws_heldPinS l k = some k' := by
 unfold d_laws_heldPinS
 refine heldLoop hc hl ?_ ?_
 ·rintro L i h k k1 ⟨hx, rfl, k0, kb⟩
  have e1 : w64 (k + 1) = k + 1 := w64_id (by omega) (by omega)
  have e2 : w64 (k + 1 + 1) = k + 1 + 1 := w64_id (by omega) (by omega)
  unfold d_laws_heldPinS_l1
  dsimp only
  rw [decn_lt h, br_t]
  simp only [at?_lt h, bd_some, hx, ne_self, br_f, e1, e2]
 ·intro L k
  unfold d_laws_heldPinS_l1 d_laws_heldPinS_j2
  dsimp only
  rw [decn_ge, br_f, jn_eq]
end Lv.P
/-
 Plain laws: houses and engines are marked and hold the marks; the law on a house's numbers.
-/
set_option linter.unusedVariables false
set_option linter.unusedSimpArgs false
namespace Lv.P
open Go (IntKind BinOp UnOp)
theorem ge_set {α : Type} {v : List α} {i : Nat} (h : i < v.length) (a : α) : (v.set i a)[i]? = some a := by simp [h]
def qPinS (k : Int) (s : List GPin) (k1 : Int) : Prop := s.length ≤ 1048576 ∧ Chain qPin k s k1 ∧ 0 ≤ k ∧ 0 ≤ k1
theorem flat_sum : ∀ l : List (List GPin), (l.map (fun s => 2 * s.length)).sum = 2 * l.flatten.length
 | [] => rfl
 | s :: l => by rw [List.map_cons, List.sum_cons, flat_sum l, List.flatten_cons, List.length_append]; omega
theorem mark_PinSS {w : GWheel} (hw : wheelFit w) {k : Int} (h0 : 0 ≤ k) (hb : k ≤ 2 ^ 58) :
 ∃ r, d_xdz w.Spoke k = some r ∧ (Chain qPinS k r.2 r.1 ∧ r.2.length = w.Spoke.length ∧ k ≤ r.1 ∧ r.1 ≤ k + 2 * w.Spoke.flatten.length) := by
 have hs := flat_sum w.Spoke
 have h1 := hw.1; have h2 := hw.2
 unfold d_xdz
 have key := markLoop (l := w.Spoke) (Q := qPinS) (F := d_xdz_l1) (fun s => 2 * s.length) (2 ^ 59) h1 h0 (by rw [hs]; omega) ?_ ?_
 ·obtain ⟨r, g1, g2, g3, g4, g5⟩ := key
  exact ⟨r, g1, g2, g3, g4, by rw [hs] at g5; omega⟩
 ·intro L v k i h hv hx k0 kb
  have hi : i < v.length := by omega
  have ha : at? v (i : Int) = some w.Spoke[i] := by rw [at?_nat]; exact hx
  have hl := spoke_len h
  obtain ⟨r, e, c1, c2, c3, c4⟩ := mark_Pin (l := w.Spoke[i]) (by omega) k0 (by omega)
  refine ⟨r.1, r.2, ?_, ⟨by omega, c1, k0, by omega⟩, c3, by push_cast; omega⟩
  unfold d_xdz_l1
  dsimp only
  rw [decn_lt hi, br_t, ha, bd_some, bd_some, e, bd_some, gd_t rfl, Int.toNat_natCast, hx, bd_some]
 ·intro L v k hv
  unfold d_xdz_l1 d_xdz_j2
  dsimp only
  rw [hv, decn_ge, br_f, jn_eq]
theorem held_PinSS {l : List (List GPin)} (hl : l.length ≤ 1048576) {k k' : Int} (hc : Chain qPinS k l k') : d_laws_heldPinSS l k = some k' := by
 unfold d_laws_heldPinSS
 refine heldLoop hc hl ?_ ?_
 ·rintro L i h k k1 ⟨hs, c, k0, k10⟩
  unfold d_laws_heldPinSS_l1
  dsimp only
  rw [decn_lt h, br_t, at?_lt h, bd_some, held_Pin hs c, bd_some, br_dec, if_neg (by omega)]
 ·intro L k
  unfold d_laws_heldPinSS_l1 d_laws_heldPinSS_j2
  dsimp only
  rw [decn_ge, br_f, jn_eq]
def qCabin (k : Int) (c : GCabin) (k1 : Int) : Prop :=
 c.Seats = ⟨k, k + 1, k + 1 + 1, k + 1 + 1 + 1, k + 1 + 1 + 1 + 1⟩ ∧ (0 ≤ k ∧ k ≤ 2 ^ 60) ∧ c.Row.length ≤ 1048576 ∧ c.Wheel.Spoke.length ≤ 1048576 ∧ 0 ≤ k1 ∧ ∃ a, Chain qEntry (k + 1 + 1 + 1 + 1 + 1) c.Row a ∧ 0 ≤ a ∧ Chain qPinS a c.Wheel.Spoke k1
def cstC (c : GCabin) : Nat := 5 + 4 * c.Row.length + 2 * c.Wheel.Spoke.flatten.length
theorem mark_CabinS {l : List GCabin} (hl : l.length ≤ 1048576) (hf : ∀ c ∈ l, cabinFit c) {k : Int} (h0 : 0 ≤ k) (hb : k ≤ 2 ^ 56) :
 ∃ r, d_xd0 l k = some r ∧ (Chain qCabin k r.2 r.1 ∧ r.2.length = l.length ∧ k ≤ r.1 ∧ r.1 ≤ k + 2 ^ 50) := by
 have hs := sum_bound (l := l) (cst := cstC) (m := 6291461) fun c hc => by
  have := hf c hc
  have h1 := this.1; have h2 := this.2.2
  unfold cstC; omega
 unfold d_xd0
 have key := markLoop (l := l) (Q := qCabin) (F := d_xd0_l1) cstC (2 ^ 57) hl h0 (by omega) ?_ ?_
 ·obtain ⟨r, g1, g2, g3, g4, g5⟩ := key
  exact ⟨r, g1, g2, g3, g4, by omega⟩
 ·intro L v k i h hv hx k0 kb
  have hi : i < v.length := by omega
  have ha : at? v (i : Int) = some l[i] := by rw [at?_nat]; exact hx
  have hc := hf _ (List.getElem_mem h)
  have hr := hc.1; have hw1 := hc.2.1; have hw2 := hc.2.2
  have hcst : cstC l[i] = 5 + 4 * l[i].Row.length + 2 * l[i].Wheel.Spoke.flatten.length := rfl
  have e1 : w64 (k + 1) = k + 1 := w64_id (by omega) (by omega)
  have e2 : w64 (k + 1 + 1) = k + 1 + 1 := w64_id (by omega) (by omega)
  have e3 : w64 (k + 1 + 1 + 1) = k + 1 + 1 + 1 := w64_id (by omega) (by omega)
  have e4 : w64 (k + 1 + 1 + 1 + 1) = k + 1 + 1 + 1 + 1 := w64_id (by omega) (by omega)
  have e5 : w64 (k + 1 + 1 + 1 + 1 + 1) = k + 1 + 1 + 1 + 1 + 1 := w64_id (by omega) (by omega)
  obtain ⟨a, ea, a1, a2, a3, a4⟩ := mark_Entry (l := l[i].Row) hr (k := k + 1 + 1 + 1 + 1 + 1) (by omega) (by omega)
  obtain ⟨b, eb, b1, b2, b3, b4⟩ := mark_PinSS (w := l[i].Wheel) hc.2 (k := a.1) (by omega) (by omega)
  refine ⟨b.1, ⟨⟨k, k + 1, k + 1 + 1, k + 1 + 1 + 1, k + 1 + 1 + 1 + 1⟩, a.2, ⟨b.2⟩⟩, ?_, ⟨rfl, ⟨k0, by omega⟩, by dsimp only; omega, by dsimp only; omega, by omega, a.1, a1, by omega, b1⟩, by omega, by omega⟩
  unfold d_xd0_l1 d_xd0_j2 d_xd0_j3 d_xd0_j4 d_xd0_j5 d_xd0_j6 d_xd0_j7
  dsimp only
  rw [decn_lt hi, br_t]
  simp only [ha, bd_some, jn_eq, Int.toNat_natCast, at?_set hi, List.set_set, e1, e2, e3, e4, e5, ea, eb, ge_set hi]
  rw [gd_t trivial, gd_t trivial]
 ·intro L v k hv
  unfold d_xd0_l1 d_xd0_j8
  dsimp only
  rw [hv, decn_ge, br_f, jn_eq]
theorem held_CabinS {l : List GCabin} (hl : l.length ≤ 1048576) {k k' : Int} (hc : Chain qCabin k l k') : d_laws_heldCabinS l k = some k' := by
 unfold d_laws_heldCabinS
 refine heldLoop hc hl ?_ ?_
 ·rintro L i h k k1 ⟨hs, ⟨k0, kb⟩, hr, hw, k10, a, ca, a0, cb⟩
  have e1 : w64 (k + 1) = k + 1 := w64_id (by omega) (by omega)
  have e2 : w64 (k + 1 + 1) = k + 1 + 1 := w64_id (by omega) (by omega)
  have e3 : w64 (k + 1 + 1 + 1) = k + 1 + 1 + 1 := w64_id (by omega) (by omega)
  have e4 : w64 (k + 1 + 1 + 1 + 1) = k + 1 + 1 + 1 + 1 := w64_id (by omega) (by omega)
  have e5 : w64 (k + 1 + 1 + 1 + 1 + 1) = k + 1 + 1 + 1 + 1 + 1 := w64_id (by omega) (by omega)
  have ha : decide (a < 0) = false := by rw [decide_eq_false_iff_not]; omega
  have hk : decide (k1 < 0) = false := by rw [decide_eq_false_iff_not]; omega
  unfold d_laws_heldCabinS_l1
  dsimp only
  rw [decn_lt h, br_t]
  simp only [at?_lt h, bd_some, hs, ne_self, br_f, e1, e2, e3, e4, e5, held_Entry hr ca, held_PinSS hw cb, ha, hk]
 ·intro L k
  unfold d_laws_heldCabinS_l1 d_laws_heldCabinS_j2
  dsimp only
  rw [decn_ge, br_f, jn_eq]
theorem mark_House {h : GHouse} (hf : HouseFit h) {k : Int} (h0 : 0 ≤ k) (hb : k ≤ 2 ^ 50) :
 ∃ k' s ps cs td js, d_xd1 h k = some (k', ⟨⟨s, h.Rules.Tiers, h.Rules.Room, h.Rules.Size, h.Rules.Period, h.Rules.Window, h.Rules.Rest, h.Rules.Tries, h.Rules.Crew⟩, h.Now, h.Turn, ps, cs, td, js⟩) ∧ (k ≤ k' ∧ k' ≤ 2 ^ 55) ∧
  ∀ r : GHouse, r.Rules.Seats = s → r.Parties = ps → r.Cabins = cs → r.Todo = td → r.Jobs = js → d_laws_heldHouse r k = some k' := by
 have g1 := hf.seats; have g2 := hf.parties; have g3 := hf.ncab; have g4 := hf.todo; have g5 := hf.jobs
 obtain ⟨a, ea, a1, a2, a3, a4⟩ := mark_Int (l := h.Rules.Seats) g1 h0 (by omega)
 obtain ⟨b, eb, b1, b2, b3, b4⟩ := mark_Party (l := h.Parties) g2 (k := a.1) (by omega) (by omega)
 obtain ⟨c, ec, c1, c2, c3, c4⟩ := mark_CabinS (l := h.Cabins) g3 hf.cabins (k := b.1) (by omega) (by omega)
 obtain ⟨d, ed, d1, d2, d3, d4⟩ := mark_Int (l := h.Todo) g4 (k := c.1) (by omega) (by omega)
 obtain ⟨e, ee, e1, e2, e3, e4⟩ := mark_Int (l := h.Jobs) g5 (k := d.1) (by omega) (by omega)
 refine ⟨e.1, a.2, b.2, c.2, d.2, e.2, ?_, ⟨by omega, by omega⟩, ?_⟩
 ·unfold d_xd1 d_xdv
  simp only [ea, eb, ec, ed, ee, bd_some]
 ·rintro r h1 h2 h3 h4 h5
  have n1 : decide (a.1 < 0) = false := by rw [decide_eq_false_iff_not]; omega
  have n2 : decide (b.1 < 0) = false := by rw [decide_eq_false_iff_not]; omega
  have n3 : decide (c.1 < 0) = false := by rw [decide_eq_false_iff_not]; omega
  have n4 : decide (d.1 < 0) = false := by rw [decide_eq_false_iff_not]; omega
  have n5 : decide (e.1 < 0) = false := by rw [decide_eq_false_iff_not]; omega
  unfold d_laws_heldHouse d_laws_heldRules
  simp only [h1, h2, h3, h4, h5, held_Int (l := a.2) (by omega) a1, held_Party (l := b.2) (by omega) b1, held_CabinS (l := c.2) (by omega) c1, held_Int (l := d.2) (by omega) d1, held_Int (l := e.2) (by omega) e1, bd_some, n1, n2, n3, n4, n5, br_f]
theorem todo_len {t : List Int} {n : Nat} (hn : n ≤ 4) (h : todoB t n = true) : t.length ≤ 4 := by
 unfold todoB at h
 rw [rAll0] at h
 refine Classical.byContradiction fun hg => ?_
 have key : ∀ i (hi : i < t.length), 0 ≤ t[i] ∧ t[i] < n ∧ ∀ j (hj : j < i), t[j]'(by omega) ≠ t[i] := by
  intro i hi
  have := h i hi
  unfold todoAt at this
  rw [getP_lt hi, Bool.and_eq_true, inB_iff, Bool.not_eq_true', List.any_eq_false] at this
  rw [w64_id (by omega) (by omega)] at this
  refine ⟨by omega, by omega, fun j hj e => ?_⟩
  have hm : t[j]'(by omega) ∈ t.take i := by rw [List.mem_take_iff_getElem]; exact ⟨j, by omega, rfl⟩
  exact this.2 _ hm (by rw [e]; simp)
 have k0 := key 0 (by omega); have k1 := key 1 (by omega); have k2 := key 2 (by omega); have k3 := key 3 (by omega); have k4 := key 4 (by omega)
 have a10 := k1.2.2 0 (by omega)
 have a20 := k2.2.2 0 (by omega); have a21 := k2.2.2 1 (by omega)
 have a30 := k3.2.2 0 (by omega); have a31 := k3.2.2 1 (by omega); have a32 := k3.2.2 2 (by omega)
 have a40 := k4.2.2 0 (by omega); have a41 := k4.2.2 1 (by omega); have a42 := k4.2.2 2 (by omega); have a43 := k4.2.2 3 (by omega)
 omega
theorem numsI_len {h : GHouse} : (numsI h).length ≤ 500 := by
 unfold numsI
 split
 ·rename_i hb
  have hk := houseB_ok hb
  have hr := rulesB_ok hk.1
  have h1 := flatMap_le pNums (m := 10) (fun _ => Nat.le_refl _) h.Parties
  have h2 := flatMap_le (fun c : GCabin => [c.Seats.Free]) (m := 1) (fun _ => Nat.le_refl _) h.Cabins
  have h3 := flatMap_le (fun x : Int => [w64 (x + 1)]) (m := 1) (fun _ => Nat.le_refl _) h.Jobs
  have h4 := todo_len (t := h.Todo) (n := h.Cabins.length) (by omega) hk.2.2.2.2.2.2.1
  unfold numsL rNums
  simp only [List.length_append, List.length_cons, List.length_nil]
  omega
 ·simp
theorem Law_FnExactHouseNums {h : GHouse} (hh : okGHouse h) : d_laws_FnExactHouseNums h = some true := by
 unfold d_laws_FnExactHouseNums
 obtain ⟨r, e, hr⟩ := szr_House hh (d := 1048576) (by omega) (by omega)
 rw [e, bd_some, br_dec]
 split
 ·rfl
 have hf := (hr.resolve_left (by omega)).2.2
 have hn := numsI_len (h := h)
 obtain ⟨k', s, ps, cs, td, js, em, ⟨m1, m2⟩, _⟩ := mark_House hf (k := 1) (by omega) (by omega)
 obtain ⟨a, ea, a1, a2, a3, a4⟩ := mark_Int (l := numsI h) (by omega) (k := 1) (by omega) (by omega)
 have ha : decide (a.1 < 0) = false := by rw [decide_eq_false_iff_not]; omega
 have hk : decide (k' < 0) = false := by rw [decide_eq_false_iff_not]; omega
 rw [tor_House hf, bd_some, spec_HouseNums hf, bd_some, bd_some, impl_HouseNums hf, bd_some, eqr_IntS (by omega), bd_some, br_not, br_t, bd_some, eqr_House hh, bd_some, br_not, br_t, em, bd_some]
 dsimp only
 rw [hk, br_f, bd_some, jn_eq]
 unfold d_laws_FnExactHouseNums_j1
 rw [br_not, br_t, ea, bd_some, held_Int (by omega) a1, bd_some, ha, br_f, ne_self, br_f, tor_House hf, bd_some, impl_HouseNums hf, bd_some, eqr_IntS (by omega), bd_some, br_not, br_t, bd_some, ha, br_f, ne_self, br_f]
end Lv.P
/-
 Plain laws: new houses, engines and worlds.
-/
set_option linter.unusedVariables false
set_option linter.unusedSimpArgs false
namespace Lv.P
open Go (IntKind BinOp UnOp)
end Lv.P
/-
 Plain laws: worlds are compared, marked and hold the marks; new worlds.
-/
set_option linter.unusedVariables false
set_option linter.unusedSimpArgs false
namespace Lv.P
open Go (IntKind BinOp UnOp)
structure WorldFit (w : GWorld) : Prop where
 engine : EngineFit w.Engine
 done : w.Done.length ≤ 1048576
 reps : w.Replies.length ≤ 1048576
 ids : ∀ r ∈ w.Replies, r.Ids.length ≤ 1048576
end Lv.P
