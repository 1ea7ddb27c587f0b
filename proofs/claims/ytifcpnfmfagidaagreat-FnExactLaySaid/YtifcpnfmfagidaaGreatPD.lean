/-
  Plain laws: the numbers of a house, the text of a snapshot.
-/
import Derived.Test.YtifcpnfmfagidaaGreatPB
import Derived.Test.YtifcpnfmfagidaaGreatPC
set_option linter.unusedVariables false
set_option linter.unusedSimpArgs false
namespace Lv.P
open Go (IntKind BinOp UnOp)
end Lv.P
namespace Lv.P
open Go (IntKind BinOp UnOp)
inductive Chain {α : Type} (Q : Int -> α -> Int -> Prop) : Int -> List α -> Int -> Prop
 | nil (k : Int) : Chain Q k [] k
 | cons {k k1 k2 : Int} {x : α} {l : List α} (h : Q k x k1) (t : Chain Q k1 l k2) : Chain Q k (x :: l) k2
section
variable {α : Type} {Q : Int -> α -> Int -> Prop}
theorem Chain.snoc {k k1 k2 : Int} {l : List α} {x : α} (h : Chain Q k l k1) (hq : Q k1 x k2) : Chain Q k (l ++ [x]) k2 := by
 induction h with
 | nil k => exact .cons hq (.nil _)
 | cons h t ih => exact .cons h (ih hq)
theorem sum_take {l : List α} (cst : α -> Nat) {i : Nat} (h : i < l.length) : ((l.take (i + 1)).map cst).sum = ((l.take i).map cst).sum + cst l[i] := by
 have e : l.take (i + 1) = l.take i ++ [l[i]] := by rw [List.take_add_one, List.getElem?_eq_getElem h]; rfl
 rw [e, List.map_append, List.sum_append]; simp
theorem sum_le {l : List α} (cst : α -> Nat) (i : Nat) : ((l.take i).map cst).sum <= (l.map cst).sum := by
 have : (l.map cst).sum = ((l.take i).map cst).sum + ((l.drop i).map cst).sum := by rw [<- List.sum_append, <- List.map_append, List.take_append_drop]
 omega
theorem sum_const (c : Nat) : ∀ l : List α, (l.map (fun _ => c)).sum = c * l.length
 | [] => by simp
 | x :: l => by rw [List.map_cons, List.sum_cons, sum_const c l, List.length_cons, Nat.mul_add]; omega
theorem sum_bound {l : List α} {cst : α -> Nat} {m : Nat} (h : ∀ x ∈ l, cst x <= m) : (l.map cst).sum <= m * l.length := by
 induction l with
 | nil => simp
 | cons x l ih =>
  have h1 := h x List.mem_cons_self; have h2 := ih fun y hy => h y (List.mem_cons_of_mem _ hy)
  rw [List.map_cons, List.sum_cons, List.length_cons, Nat.mul_add]; omega
theorem markLoop {l : List α} (cst : α -> Nat) (M : Int) {F : (List α × Int × Int -> Option (Int × List α)) -> List α × Int × Int -> Option (Int × List α)} (hl : l.length <= 1048576) {k0 : Int} (h0 : 0 <= k0) (hb : k0 + ((l.map cst).sum : Nat) <= M)
 (step : ∀ L (v : List α) (k : Int) (i : Nat) (h : i < l.length), v.length = l.length -> v[i]? = some l[i] -> 0 <= k -> k + cst l[i] <= M ->
  ∃ k1 x', F L (v, k, (i : Int)) = L (v.set i x', k1, w64 ((i : Int) + 1)) /\ Q k x' k1 /\ k <= k1 /\ k1 <= k + cst l[i])
 (stop : ∀ L v k, v.length = l.length -> F L (v, k, (l.length : Int)) = some (k, v)) :
 ∃ r, loopN F big (l, k0, 0) = some r /\ (Chain Q k0 r.2 r.1 /\ r.2.length = l.length /\ k0 <= r.1 /\ r.1 <= k0 + ((l.map cst).sum : Nat)) := by
 refine forEx (n := l.length) (fun i (v : List α × Int) => (v.1, v.2, (i : Int))) (fun i v => v.1.length = l.length /\ v.1.drop i = l.drop i /\ Chain Q k0 (v.1.take i) v.2 /\ k0 <= v.2 /\ v.2 <= k0 + (((l.take i).map cst).sum : Nat)) _ (by omega) ?_ (v := (l, k0)) ⟨rfl, rfl, by simpa using Chain.nil k0, Int.le_refl _, by simp⟩; rintro L i ⟨v, k⟩ ⟨h1, h2, h3, h4, h5⟩ hi ih; dsimp only at h1 h2 h3 h4 h5 ih ⊢; rcases Nat.lt_or_ge i l.length with h | h
 ·have hv : i < v.length := by omega
  have e : v[i] = l[i] := by
   have := h2; rw [drop_at h, drop_at hv] at this; exact (List.cons.injEq .. ▸ this : _ /\ _).1
  have hs := sum_take cst h; have hs2 := sum_le (l := l) cst (i + 1); obtain ⟨k1, x', g1, g2, g3, g4⟩ := step L v k i h h1 (by rw [List.getElem?_eq_getElem hv, e]) (by omega) (by omega); rw [g1, w64_succ h (by omega)]; refine ih (v.set i x', k1) ⟨by simp [h1], ?_, ?_, by dsimp only; omega, by dsimp only; omega⟩ h
  ·dsimp only; rw [List.drop_set_of_lt (by omega)]; have := congrArg (List.drop 1) h2; simpa [List.drop_drop, Nat.add_comm] using this
  ·dsimp only; have : (v.set i x').take (i + 1) = v.take i ++ [x'] := by
    rw [List.take_add_one, List.take_set_of_le (by omega)]; simp [hv]
   rw [this]; exact h3.snoc g2
 ·obtain rfl : i = l.length := by omega
  rw [stop L v k h1]; rw [List.take_of_length_le (by omega)] at h3; rw [List.take_length] at h5; exact ⟨_, rfl, h3, h1, h4, h5⟩
theorem heldLoop {l : List α} {k k' : Int} (hc : Chain Q k l k') {G : (Int × Int -> Option Int) -> Int × Int -> Option Int} (hl : l.length <= 1048576)
 (step : ∀ L i (h : i < l.length) k k1, Q k l[i] k1 -> G L (k, (i : Int)) = L (k1, w64 ((i : Int) + 1))) (stop : ∀ L k, G L (k, (l.length : Int)) = some k) : loopN G big (k, 0) = some k' := by
 refine (forLoop (n := l.length) (fun i (k : Int) => (k, (i : Int))) (fun i k => Chain Q k (l.drop i) k') (fun _ _ => some k') (by omega) ?_ (by simpa using hc)); intro L i k hk hi ih; rcases Nat.lt_or_ge i l.length with h | h
 ·rw [drop_at h] at hk; cases hk with
  | cons hq ht =>
   rw [step L i h _ _ hq, w64_succ h (by omega)]; exact ih _ ht h
 ·obtain rfl : i = l.length := by omega
  rw [List.drop_length] at hk; cases hk; exact stop _ _
end
theorem at?_set {α : Type} {v : List α} {i : Nat} (h : i < v.length) (a : α) : at? (v.set i a) (i : Int) = some a := by rw [at?_nat]; simp [h]
def qInt (k : Int) (x : Int) (k1 : Int) : Prop := x = k /\ k1 = k + 1 /\ 0 <= k /\ k <= 2 ^ 60
theorem mark_Int {l : List Int} (hl : l.length <= 1048576) {k : Int} (h0 : 0 <= k) (hb : k <= 2 ^ 59) :
 ∃ r, d_xd8 l k = some r /\ (Chain qInt k r.2 r.1 /\ r.2.length = l.length /\ k <= r.1 /\ r.1 <= k + 1 * l.length) := by
 have hs := sum_const 1 l; unfold d_xd8; have key := markLoop (l := l) (Q := qInt) (F := d_xd8_l1) (fun _ => 1) (2 ^ 60) hl h0 (by rw [hs]; omega) ?_ ?_
 ·obtain ⟨r, g1, g2, g3, g4, g5⟩ := key; exact ⟨r, g1, g2, g3, g4, by rw [hs] at g5; omega⟩
 ·intro L v k i h hv hx k0 kb; have hi : i < v.length := by omega
  have ha : at? v (i : Int) = some l[i] := by rw [at?_nat]; exact hx
  have e1 : w64 (k + 1) = k + 1 := w64_id (by omega) (by omega); refine ⟨k + 1, k, ?_, ⟨rfl, rfl, k0, by omega⟩, by omega, by omega⟩; unfold d_xd8_l1 d_xd8_j2 d_xd8_j3; dsimp only; rw [decn_lt hi, br_t]; simp only [ha, bd_some, jn_eq, Int.toNat_natCast, at?_set hi, List.set_set, e1]
 ·intro L v k hv; unfold d_xd8_l1 d_xd8_j3; dsimp only; rw [hv, decn_ge, br_f, jn_eq]
theorem held_Int {l : List Int} (hl : l.length <= 1048576) {k k' : Int} (hc : Chain qInt k l k') : d_xeg l k = some k' := by
 unfold d_xeg; refine heldLoop hc hl ?_ ?_
 ·rintro L i h k k1 ⟨hx, rfl, k0, kb⟩; have e1 : w64 (k + 1) = k + 1 := w64_id (by omega) (by omega); unfold d_xeg_l1; dsimp only; rw [decn_lt h, br_t]; simp only [at?_lt h, bd_some, hx, ne_self, br_f, e1]
 ·intro L k; unfold d_xeg_l1 d_xeg_j2; dsimp only; rw [decn_ge, br_f, jn_eq]
def qParty (k : Int) (x : GParty) (k1 : Int) : Prop := x = ⟨k, k + 1, k + 1 + 1, k + 1 + 1 + 1, k + 1 + 1 + 1 + 1, k + 1 + 1 + 1 + 1 + 1, k + 1 + 1 + 1 + 1 + 1 + 1, k + 1 + 1 + 1 + 1 + 1 + 1 + 1, k + 1 + 1 + 1 + 1 + 1 + 1 + 1 + 1, k + 1 + 1 + 1 + 1 + 1 + 1 + 1 + 1 + 1⟩ /\ k1 = k + 1 + 1 + 1 + 1 + 1 + 1 + 1 + 1 + 1 + 1 /\ 0 <= k /\ k <= 2 ^ 60
theorem mark_Party {l : List GParty} (hl : l.length <= 1048576) {k : Int} (h0 : 0 <= k) (hb : k <= 2 ^ 59) :
 ∃ r, d_xea l k = some r /\ (Chain qParty k r.2 r.1 /\ r.2.length = l.length /\ k <= r.1 /\ r.1 <= k + 10 * l.length) := by
 have hs := sum_const 10 l; unfold d_xea; have key := markLoop (l := l) (Q := qParty) (F := d_xea_l1) (fun _ => 10) (2 ^ 60) hl h0 (by rw [hs]; omega) ?_ ?_
 ·obtain ⟨r, g1, g2, g3, g4, g5⟩ := key; exact ⟨r, g1, g2, g3, g4, by rw [hs] at g5; omega⟩
 ·intro L v k i h hv hx k0 kb; have hi : i < v.length := by omega
  have ha : at? v (i : Int) = some l[i] := by rw [at?_nat]; exact hx
  have e1 : w64 (k + 1) = k + 1 := w64_id (by omega) (by omega); have e2 : w64 (k + 1 + 1) = k + 1 + 1 := w64_id (by omega) (by omega); have e3 : w64 (k + 1 + 1 + 1) = k + 1 + 1 + 1 := w64_id (by omega) (by omega); have e4 : w64 (k + 1 + 1 + 1 + 1) = k + 1 + 1 + 1 + 1 := w64_id (by omega) (by omega); have e5 : w64 (k + 1 + 1 + 1 + 1 + 1) = k + 1 + 1 + 1 + 1 + 1 := w64_id (by omega) (by omega); have e6 : w64 (k + 1 + 1 + 1 + 1 + 1 + 1) = k + 1 + 1 + 1 + 1 + 1 + 1 := w64_id (by omega) (by omega); have e7 : w64 (k + 1 + 1 + 1 + 1 + 1 + 1 + 1) = k + 1 + 1 + 1 + 1 + 1 + 1 + 1 := w64_id (by omega) (by omega); have e8 : w64 (k + 1 + 1 + 1 + 1 + 1 + 1 + 1 + 1) = k + 1 + 1 + 1 + 1 + 1 + 1 + 1 + 1 := w64_id (by omega) (by omega); have e9 : w64 (k + 1 + 1 + 1 + 1 + 1 + 1 + 1 + 1 + 1) = k + 1 + 1 + 1 + 1 + 1 + 1 + 1 + 1 + 1 := w64_id (by omega) (by omega); have e10 : w64 (k + 1 + 1 + 1 + 1 + 1 + 1 + 1 + 1 + 1 + 1) = k + 1 + 1 + 1 + 1 + 1 + 1 + 1 + 1 + 1 + 1 := w64_id (by omega) (by omega); refine ⟨k + 1 + 1 + 1 + 1 + 1 + 1 + 1 + 1 + 1 + 1, ⟨k, k + 1, k + 1 + 1, k + 1 + 1 + 1, k + 1 + 1 + 1 + 1, k + 1 + 1 + 1 + 1 + 1, k + 1 + 1 + 1 + 1 + 1 + 1, k + 1 + 1 + 1 + 1 + 1 + 1 + 1, k + 1 + 1 + 1 + 1 + 1 + 1 + 1 + 1, k + 1 + 1 + 1 + 1 + 1 + 1 + 1 + 1 + 1⟩, ?_, ⟨rfl, rfl, k0, by omega⟩, by omega, by omega⟩; unfold d_xea_l1 d_xea_j2 d_xea_j3 d_xea_j4 d_xea_j5 d_xea_j6 d_xea_j7 d_xea_j8 d_xea_j9 d_xea_j10 d_xea_j11 d_xea_j12; dsimp only; rw [decn_lt hi, br_t]
  simp only [ha, bd_some, jn_eq, Int.toNat_natCast, at?_set hi, List.set_set, e1, e2, e3, e4, e5, e6, e7, e8, e9, e10]
 ·intro L v k hv; unfold d_xea_l1 d_xea_j12; dsimp only; rw [hv, decn_ge, br_f, jn_eq]
theorem held_Party {l : List GParty} (hl : l.length <= 1048576) {k k' : Int} (hc : Chain qParty k l k') : d_xen l k = some k' := by
 unfold d_xen; refine heldLoop hc hl ?_ ?_
 ·rintro L i h k k1 ⟨hx, rfl, k0, kb⟩; have e1 : w64 (k + 1) = k + 1 := w64_id (by omega) (by omega); have e2 : w64 (k + 1 + 1) = k + 1 + 1 := w64_id (by omega) (by omega); have e3 : w64 (k + 1 + 1 + 1) = k + 1 + 1 + 1 := w64_id (by omega) (by omega); have e4 : w64 (k + 1 + 1 + 1 + 1) = k + 1 + 1 + 1 + 1 := w64_id (by omega) (by omega); have e5 : w64 (k + 1 + 1 + 1 + 1 + 1) = k + 1 + 1 + 1 + 1 + 1 := w64_id (by omega) (by omega); have e6 : w64 (k + 1 + 1 + 1 + 1 + 1 + 1) = k + 1 + 1 + 1 + 1 + 1 + 1 := w64_id (by omega) (by omega); have e7 : w64 (k + 1 + 1 + 1 + 1 + 1 + 1 + 1) = k + 1 + 1 + 1 + 1 + 1 + 1 + 1 := w64_id (by omega) (by omega); have e8 : w64 (k + 1 + 1 + 1 + 1 + 1 + 1 + 1 + 1) = k + 1 + 1 + 1 + 1 + 1 + 1 + 1 + 1 := w64_id (by omega) (by omega); have e9 : w64 (k + 1 + 1 + 1 + 1 + 1 + 1 + 1 + 1 + 1) = k + 1 + 1 + 1 + 1 + 1 + 1 + 1 + 1 + 1 := w64_id (by omega) (by omega); have e10 : w64 (k + 1 + 1 + 1 + 1 + 1 + 1 + 1 + 1 + 1 + 1) = k + 1 + 1 + 1 + 1 + 1 + 1 + 1 + 1 + 1 + 1 := w64_id (by omega) (by omega); unfold d_xen_l1; dsimp only; rw [decn_lt h, br_t]; simp only [at?_lt h, bd_some, hx, ne_self, br_f, e1, e2, e3, e4, e5, e6, e7, e8, e9, e10]
 ·intro L k; unfold d_xen_l1 d_xen_j2; dsimp only; rw [decn_ge, br_f, jn_eq]
def qEntry (k : Int) (x : GEntry) (k1 : Int) : Prop := x = ⟨k, k + 1, k + 1 + 1, k + 1 + 1 + 1⟩ /\ k1 = k + 1 + 1 + 1 + 1 /\ 0 <= k /\ k <= 2 ^ 60
theorem mark_Entry {l : List GEntry} (hl : l.length <= 1048576) {k : Int} (h0 : 0 <= k) (hb : k <= 2 ^ 59) :
 ∃ r, d_xeb l k = some r /\ (Chain qEntry k r.2 r.1 /\ r.2.length = l.length /\ k <= r.1 /\ r.1 <= k + 4 * l.length) := by
 have hs := sum_const 4 l; unfold d_xeb; have key := markLoop (l := l) (Q := qEntry) (F := d_xeb_l1) (fun _ => 4) (2 ^ 60) hl h0 (by rw [hs]; omega) ?_ ?_
 ·obtain ⟨r, g1, g2, g3, g4, g5⟩ := key; exact ⟨r, g1, g2, g3, g4, by rw [hs] at g5; omega⟩
 ·intro L v k i h hv hx k0 kb; have hi : i < v.length := by omega
  have ha : at? v (i : Int) = some l[i] := by rw [at?_nat]; exact hx
  have e1 : w64 (k + 1) = k + 1 := w64_id (by omega) (by omega); have e2 : w64 (k + 1 + 1) = k + 1 + 1 := w64_id (by omega) (by omega); have e3 : w64 (k + 1 + 1 + 1) = k + 1 + 1 + 1 := w64_id (by omega) (by omega); have e4 : w64 (k + 1 + 1 + 1 + 1) = k + 1 + 1 + 1 + 1 := w64_id (by omega) (by omega); refine ⟨k + 1 + 1 + 1 + 1, ⟨k, k + 1, k + 1 + 1, k + 1 + 1 + 1⟩, ?_, ⟨rfl, rfl, k0, by omega⟩, by omega, by omega⟩; unfold d_xeb_l1 d_xeb_j2 d_xeb_j3 d_xeb_j4 d_xeb_j5 d_xeb_j6; dsimp only; rw [decn_lt hi, br_t]; simp only [ha, bd_some, jn_eq, Int.toNat_natCast, at?_set hi, List.set_set, e1, e2, e3, e4]
 ·intro L v k hv; unfold d_xeb_l1 d_xeb_j6; dsimp only; rw [hv, decn_ge, br_f, jn_eq]
theorem held_Entry {l : List GEntry} (hl : l.length <= 1048576) {k k' : Int} (hc : Chain qEntry k l k') : d_xeo l k = some k' := by
 unfold d_xeo; refine heldLoop hc hl ?_ ?_
 ·rintro L i h k k1 ⟨hx, rfl, k0, kb⟩; have e1 : w64 (k + 1) = k + 1 := w64_id (by omega) (by omega); have e2 : w64 (k + 1 + 1) = k + 1 + 1 := w64_id (by omega) (by omega); have e3 : w64 (k + 1 + 1 + 1) = k + 1 + 1 + 1 := w64_id (by omega) (by omega); have e4 : w64 (k + 1 + 1 + 1 + 1) = k + 1 + 1 + 1 + 1 := w64_id (by omega) (by omega); unfold d_xeo_l1; dsimp only; rw [decn_lt h, br_t]; simp only [at?_lt h, bd_some, hx, ne_self, br_f, e1, e2, e3, e4]
 ·intro L k; unfold d_xeo_l1 d_xeo_j2; dsimp only; rw [decn_ge, br_f, jn_eq]
def qPin (k : Int) (x : GPin) (k1 : Int) : Prop := x = ⟨k, k + 1⟩ /\ k1 = k + 1 + 1 /\ 0 <= k /\ k <= 2 ^ 60
theorem mark_Pin {l : List GPin} (hl : l.length <= 1048576) {k : Int} (h0 : 0 <= k) (hb : k <= 2 ^ 59) :
 ∃ r, d_xec l k = some r /\ (Chain qPin k r.2 r.1 /\ r.2.length = l.length /\ k <= r.1 /\ r.1 <= k + 2 * l.length) := by
 have hs := sum_const 2 l; unfold d_xec; have key := markLoop (l := l) (Q := qPin) (F := d_xec_l1) (fun _ => 2) (2 ^ 60) hl h0 (by rw [hs]; omega) ?_ ?_
 ·obtain ⟨r, g1, g2, g3, g4, g5⟩ := key; exact ⟨r, g1, g2, g3, g4, by rw [hs] at g5; omega⟩
 ·intro L v k i h hv hx k0 kb; have hi : i < v.length := by omega
  have ha : at? v (i : Int) = some l[i] := by rw [at?_nat]; exact hx
  have e1 : w64 (k + 1) = k + 1 := w64_id (by omega) (by omega); have e2 : w64 (k + 1 + 1) = k + 1 + 1 := w64_id (by omega) (by omega); refine ⟨k + 1 + 1, ⟨k, k + 1⟩, ?_, ⟨rfl, rfl, k0, by omega⟩, by omega, by omega⟩; unfold d_xec_l1 d_xec_j2 d_xec_j3 d_xec_j4; dsimp only; rw [decn_lt hi, br_t]; simp only [ha, bd_some, jn_eq, Int.toNat_natCast, at?_set hi, List.set_set, e1, e2]
 ·intro L v k hv; unfold d_xec_l1 d_xec_j4; dsimp only; rw [hv, decn_ge, br_f, jn_eq]
theorem held_Pin {l : List GPin} (hl : l.length <= 1048576) {k k' : Int} (hc : Chain qPin k l k') : d_xep l k = some k' := by
 unfold d_xep; refine heldLoop hc hl ?_ ?_
 ·rintro L i h k k1 ⟨hx, rfl, k0, kb⟩; have e1 : w64 (k + 1) = k + 1 := w64_id (by omega) (by omega); have e2 : w64 (k + 1 + 1) = k + 1 + 1 := w64_id (by omega) (by omega); unfold d_xep_l1; dsimp only; rw [decn_lt h, br_t]; simp only [at?_lt h, bd_some, hx, ne_self, br_f, e1, e2]
 ·intro L k; unfold d_xep_l1 d_xep_j2; dsimp only; rw [decn_ge, br_f, jn_eq]
def qReq (k : Int) (x : GReq) (k1 : Int) : Prop := x = ⟨k, k + 1, k + 1 + 1, k + 1 + 1 + 1, k + 1 + 1 + 1 + 1, k + 1 + 1 + 1 + 1 + 1⟩ /\ k1 = k + 1 + 1 + 1 + 1 + 1 + 1 /\ 0 <= k /\ k <= 2 ^ 60
theorem mark_Req {l : List GReq} (hl : l.length <= 1048576) {k : Int} (h0 : 0 <= k) (hb : k <= 2 ^ 59) :
 ∃ r, d_xek l k = some r /\ (Chain qReq k r.2 r.1 /\ r.2.length = l.length /\ k <= r.1 /\ r.1 <= k + 6 * l.length) := by
 have hs := sum_const 6 l; unfold d_xek; have key := markLoop (l := l) (Q := qReq) (F := d_xek_l1) (fun _ => 6) (2 ^ 60) hl h0 (by rw [hs]; omega) ?_ ?_
 ·obtain ⟨r, g1, g2, g3, g4, g5⟩ := key; exact ⟨r, g1, g2, g3, g4, by rw [hs] at g5; omega⟩
 ·intro L v k i h hv hx k0 kb; have hi : i < v.length := by omega
  have ha : at? v (i : Int) = some l[i] := by rw [at?_nat]; exact hx
  have e1 : w64 (k + 1) = k + 1 := w64_id (by omega) (by omega); have e2 : w64 (k + 1 + 1) = k + 1 + 1 := w64_id (by omega) (by omega); have e3 : w64 (k + 1 + 1 + 1) = k + 1 + 1 + 1 := w64_id (by omega) (by omega); have e4 : w64 (k + 1 + 1 + 1 + 1) = k + 1 + 1 + 1 + 1 := w64_id (by omega) (by omega); have e5 : w64 (k + 1 + 1 + 1 + 1 + 1) = k + 1 + 1 + 1 + 1 + 1 := w64_id (by omega) (by omega); have e6 : w64 (k + 1 + 1 + 1 + 1 + 1 + 1) = k + 1 + 1 + 1 + 1 + 1 + 1 := w64_id (by omega) (by omega); refine ⟨k + 1 + 1 + 1 + 1 + 1 + 1, ⟨k, k + 1, k + 1 + 1, k + 1 + 1 + 1, k + 1 + 1 + 1 + 1, k + 1 + 1 + 1 + 1 + 1⟩, ?_, ⟨rfl, rfl, k0, by omega⟩, by omega, by omega⟩; unfold d_xek_l1 d_xek_j2 d_xek_j3 d_xek_j4 d_xek_j5 d_xek_j6 d_xek_j7 d_xek_j8; dsimp only; rw [decn_lt hi, br_t]; simp only [ha, bd_some, jn_eq, Int.toNat_natCast, at?_set hi, List.set_set, e1, e2, e3, e4, e5, e6]
 ·intro L v k hv; unfold d_xek_l1 d_xek_j8; dsimp only; rw [hv, decn_ge, br_f, jn_eq]
theorem held_Req {l : List GReq} (hl : l.length <= 1048576) {k k' : Int} (hc : Chain qReq k l k') : d_xet l k = some k' := by
 unfold d_xet; refine heldLoop hc hl ?_ ?_
 ·rintro L i h k k1 ⟨hx, rfl, k0, kb⟩; have e1 : w64 (k + 1) = k + 1 := w64_id (by omega) (by omega); have e2 : w64 (k + 1 + 1) = k + 1 + 1 := w64_id (by omega) (by omega); have e3 : w64 (k + 1 + 1 + 1) = k + 1 + 1 + 1 := w64_id (by omega) (by omega); have e4 : w64 (k + 1 + 1 + 1 + 1) = k + 1 + 1 + 1 + 1 := w64_id (by omega) (by omega); have e5 : w64 (k + 1 + 1 + 1 + 1 + 1) = k + 1 + 1 + 1 + 1 + 1 := w64_id (by omega) (by omega); have e6 : w64 (k + 1 + 1 + 1 + 1 + 1 + 1) = k + 1 + 1 + 1 + 1 + 1 + 1 := w64_id (by omega) (by omega); unfold d_xet_l1; dsimp only; rw [decn_lt h, br_t]; simp only [at?_lt h, bd_some, hx, ne_self, br_f, e1, e2, e3, e4, e5, e6]
 ·intro L k; unfold d_xet_l1 d_xet_j2; dsimp only; rw [decn_ge, br_f, jn_eq]
end Lv.P
namespace Lv.P
open Go (IntKind BinOp UnOp)
theorem ge_set {α : Type} {v : List α} {i : Nat} (h : i < v.length) (a : α) : (v.set i a)[i]? = some a := by simp [h]
def qPinS (k : Int) (s : List GPin) (k1 : Int) : Prop := s.length <= 1048576 /\ Chain qPin k s k1 /\ 0 <= k /\ 0 <= k1
theorem flat_sum : ∀ l : List (List GPin), (l.map (fun s => 2 * s.length)).sum = 2 * l.flatten.length
 | [] => rfl
 | s :: l => by rw [List.map_cons, List.sum_cons, flat_sum l, List.flatten_cons, List.length_append]; omega
theorem mark_PinSS {w : GWheel} (hw : wheelFit w) {k : Int} (h0 : 0 <= k) (hb : k <= 2 ^ 58) :
 ∃ r, d_xed w.Spoke k = some r /\ (Chain qPinS k r.2 r.1 /\ r.2.length = w.Spoke.length /\ k <= r.1 /\ r.1 <= k + 2 * w.Spoke.flatten.length) := by
 have hs := flat_sum w.Spoke; have h1 := hw.1; have h2 := hw.2; unfold d_xed; have key := markLoop (l := w.Spoke) (Q := qPinS) (F := d_xed_l1) (fun s => 2 * s.length) (2 ^ 59) h1 h0 (by rw [hs]; omega) ?_ ?_
 ·obtain ⟨r, g1, g2, g3, g4, g5⟩ := key; exact ⟨r, g1, g2, g3, g4, by rw [hs] at g5; omega⟩
 ·intro L v k i h hv hx k0 kb; have hi : i < v.length := by omega
  have ha : at? v (i : Int) = some w.Spoke[i] := by rw [at?_nat]; exact hx
  have hl := spoke_len h; obtain ⟨r, e, c1, c2, c3, c4⟩ := mark_Pin (l := w.Spoke[i]) (by omega) k0 (by omega); refine ⟨r.1, r.2, ?_, ⟨by omega, c1, k0, by omega⟩, c3, by push_cast; omega⟩; unfold d_xed_l1; dsimp only; rw [decn_lt hi, br_t, ha, bd_some, bd_some, e, bd_some, gd_t rfl, Int.toNat_natCast, hx, bd_some]
 ·intro L v k hv; unfold d_xed_l1 d_xed_j2; dsimp only; rw [hv, decn_ge, br_f, jn_eq]
theorem held_PinSS {l : List (List GPin)} (hl : l.length <= 1048576) {k k' : Int} (hc : Chain qPinS k l k') : d_xeq l k = some k' := by
 unfold d_xeq; refine heldLoop hc hl ?_ ?_
 ·rintro L i h k k1 ⟨hs, c, k0, k10⟩; unfold d_xeq_l1; dsimp only; rw [decn_lt h, br_t, at?_lt h, bd_some, held_Pin hs c, bd_some, br_dec, if_neg (by omega)]
 ·intro L k; unfold d_xeq_l1 d_xeq_j2; dsimp only; rw [decn_ge, br_f, jn_eq]
def qCabin (k : Int) (c : GCabin) (k1 : Int) : Prop :=
 c.Seats = ⟨k, k + 1, k + 1 + 1, k + 1 + 1 + 1, k + 1 + 1 + 1 + 1⟩ /\ (0 <= k /\ k <= 2 ^ 60) /\ c.Row.length <= 1048576 /\ c.Wheel.Spoke.length <= 1048576 /\ 0 <= k1 /\ ∃ a, Chain qEntry (k + 1 + 1 + 1 + 1 + 1) c.Row a /\ 0 <= a /\ Chain qPinS a c.Wheel.Spoke k1
def cstC (c : GCabin) : Nat := 5 + 4 * c.Row.length + 2 * c.Wheel.Spoke.flatten.length
theorem mark_CabinS {l : List GCabin} (hl : l.length <= 1048576) (hf : ∀ c ∈ l, cabinFit c) {k : Int} (h0 : 0 <= k) (hb : k <= 2 ^ 56) :
 ∃ r, d_xee l k = some r /\ (Chain qCabin k r.2 r.1 /\ r.2.length = l.length /\ k <= r.1 /\ r.1 <= k + 2 ^ 50) := by
 have hs := sum_bound (l := l) (cst := cstC) (m := 6291461) fun c hc => by
  have := hf c hc; have h1 := this.1; have h2 := this.2.2; unfold cstC; omega
 unfold d_xee; have key := markLoop (l := l) (Q := qCabin) (F := d_xee_l1) cstC (2 ^ 57) hl h0 (by omega) ?_ ?_
 ·obtain ⟨r, g1, g2, g3, g4, g5⟩ := key; exact ⟨r, g1, g2, g3, g4, by omega⟩
 ·intro L v k i h hv hx k0 kb; have hi : i < v.length := by omega
  have ha : at? v (i : Int) = some l[i] := by rw [at?_nat]; exact hx
  have hc := hf _ (List.getElem_mem h); have hr := hc.1; have hw1 := hc.2.1; have hw2 := hc.2.2; have hcst : cstC l[i] = 5 + 4 * l[i].Row.length + 2 * l[i].Wheel.Spoke.flatten.length := rfl; have e1 : w64 (k + 1) = k + 1 := w64_id (by omega) (by omega); have e2 : w64 (k + 1 + 1) = k + 1 + 1 := w64_id (by omega) (by omega); have e3 : w64 (k + 1 + 1 + 1) = k + 1 + 1 + 1 := w64_id (by omega) (by omega); have e4 : w64 (k + 1 + 1 + 1 + 1) = k + 1 + 1 + 1 + 1 := w64_id (by omega) (by omega); have e5 : w64 (k + 1 + 1 + 1 + 1 + 1) = k + 1 + 1 + 1 + 1 + 1 := w64_id (by omega) (by omega); obtain ⟨a, ea, a1, a2, a3, a4⟩ := mark_Entry (l := l[i].Row) hr (k := k + 1 + 1 + 1 + 1 + 1) (by omega) (by omega); obtain ⟨b, eb, b1, b2, b3, b4⟩ := mark_PinSS (w := l[i].Wheel) hc.2 (k := a.1) (by omega) (by omega); refine ⟨b.1, ⟨⟨k, k + 1, k + 1 + 1, k + 1 + 1 + 1, k + 1 + 1 + 1 + 1⟩, a.2, ⟨b.2⟩⟩, ?_, ⟨rfl, ⟨k0, by omega⟩, by dsimp only; omega, by dsimp only; omega, by omega, a.1, a1, by omega, b1⟩, by omega, by omega⟩; unfold d_xee_l1 d_xee_j2 d_xee_j3 d_xee_j4 d_xee_j5 d_xee_j6 d_xee_j7; dsimp only; rw [decn_lt hi, br_t]; simp only [ha, bd_some, jn_eq, Int.toNat_natCast, at?_set hi, List.set_set, e1, e2, e3, e4, e5, ea, eb, ge_set hi]; rw [gd_t trivial, gd_t trivial]
 ·intro L v k hv; unfold d_xee_l1 d_xee_j8; dsimp only; rw [hv, decn_ge, br_f, jn_eq]
theorem held_CabinS {l : List GCabin} (hl : l.length <= 1048576) {k k' : Int} (hc : Chain qCabin k l k') : d_xer l k = some k' := by
 unfold d_xer; refine heldLoop hc hl ?_ ?_
 ·rintro L i h k k1 ⟨hs, ⟨k0, kb⟩, hr, hw, k10, a, ca, a0, cb⟩; have e1 : w64 (k + 1) = k + 1 := w64_id (by omega) (by omega); have e2 : w64 (k + 1 + 1) = k + 1 + 1 := w64_id (by omega) (by omega); have e3 : w64 (k + 1 + 1 + 1) = k + 1 + 1 + 1 := w64_id (by omega) (by omega); have e4 : w64 (k + 1 + 1 + 1 + 1) = k + 1 + 1 + 1 + 1 := w64_id (by omega) (by omega); have e5 : w64 (k + 1 + 1 + 1 + 1 + 1) = k + 1 + 1 + 1 + 1 + 1 := w64_id (by omega) (by omega); have ha : decide (a < 0) = false := by rw [decide_eq_false_iff_not]; omega
  have hk : decide (k1 < 0) = false := by rw [decide_eq_false_iff_not]; omega
  unfold d_xer_l1; dsimp only; rw [decn_lt h, br_t]; simp only [at?_lt h, bd_some, hs, ne_self, br_f, e1, e2, e3, e4, e5, held_Entry hr ca, held_PinSS hw cb, ha, hk]
 ·intro L k; unfold d_xer_l1 d_xer_j2; dsimp only; rw [decn_ge, br_f, jn_eq]
theorem mark_House {h : GHouse} (hf : HouseFit h) {k : Int} (h0 : 0 <= k) (hb : k <= 2 ^ 50) :
 ∃ k' s ps cs td js, d_xef h k = some (k', ⟨⟨s, h.Rules.Tiers, h.Rules.Room, h.Rules.Size, h.Rules.Period, h.Rules.Window, h.Rules.Rest, h.Rules.Tries, h.Rules.Crew⟩, h.Now, h.Turn, ps, cs, td, js⟩) /\ (k <= k' /\ k' <= 2 ^ 55) /\
  ∀ r : GHouse, r.Rules.Seats = s -> r.Parties = ps -> r.Cabins = cs -> r.Todo = td -> r.Jobs = js -> d_xes r k = some k' := by
 have g1 := hf.seats; have g2 := hf.parties; have g3 := hf.ncab; have g4 := hf.todo; have g5 := hf.jobs; obtain ⟨a, ea, a1, a2, a3, a4⟩ := mark_Int (l := h.Rules.Seats) g1 h0 (by omega); obtain ⟨b, eb, b1, b2, b3, b4⟩ := mark_Party (l := h.Parties) g2 (k := a.1) (by omega) (by omega); obtain ⟨c, ec, c1, c2, c3, c4⟩ := mark_CabinS (l := h.Cabins) g3 hf.cabins (k := b.1) (by omega) (by omega); obtain ⟨d, ed, d1, d2, d3, d4⟩ := mark_Int (l := h.Todo) g4 (k := c.1) (by omega) (by omega); obtain ⟨e, ee, e1, e2, e3, e4⟩ := mark_Int (l := h.Jobs) g5 (k := d.1) (by omega) (by omega); refine ⟨e.1, a.2, b.2, c.2, d.2, e.2, ?_, ⟨by omega, by omega⟩, ?_⟩
 ·unfold d_xef d_xd9; simp only [ea, eb, ec, ed, ee, bd_some]
 ·rintro r h1 h2 h3 h4 h5; have n1 : decide (a.1 < 0) = false := by rw [decide_eq_false_iff_not]; omega
  have n2 : decide (b.1 < 0) = false := by rw [decide_eq_false_iff_not]; omega
  have n3 : decide (c.1 < 0) = false := by rw [decide_eq_false_iff_not]; omega
  have n4 : decide (d.1 < 0) = false := by rw [decide_eq_false_iff_not]; omega
  have n5 : decide (e.1 < 0) = false := by rw [decide_eq_false_iff_not]; omega
  unfold d_xes d_xem; simp only [h1, h2, h3, h4, h5, held_Int (l := a.2) (by omega) a1, held_Party (l := b.2) (by omega) b1, held_CabinS (l := c.2) (by omega) c1, held_Int (l := d.2) (by omega) d1, held_Int (l := e.2) (by omega) e1, bd_some, n1, n2, n3, n4, n5, br_f]
end Lv.P
namespace Lv.P
open Go (IntKind BinOp UnOp)
theorem new_copyS {r : GRules} (hr : r.Seats.length <= 1048576) : d_xeh r = some r := by
 unfold d_xeh; rw [gd_t (by unfold lim; omega), List.nil_append]
theorem new_copyI {r : GRules} (hr : r.Seats.length <= 1048576) : d_xej r = some r := by
 unfold d_xej d_xei; rw [gd_t (by unfold lim; omega), bd_some]
theorem eqf_Wheel {w : GWheel} (hw : wheelFit w) : d_xds w w = some true := by
 unfold d_xds; have := hw.1; rw [eqr_PinSS (by omega) fun x hx => by have := mem_flat hx; have := hw.2; omega, bd_some, br_not, br_t]
theorem eqf_Cabin {c : GCabin} (hc : cabinFit c) : d_xdt c c = some true := by
 have := hc.1; unfold d_xdt; rw [eqr_Ledger, bd_some, br_not, br_t, eqr_EntryS (by omega), bd_some, br_not, br_t, eqf_Wheel hc.2, bd_some, br_not, br_t]
theorem eqf_CabinS {l : List GCabin} (hl : l.length <= 1048576) (hp : ∀ x ∈ l, cabinFit x) : d_xdu l l = some true := by
 unfold d_xdu; refine eqRow (by omega) ?_ ?_
 ·intro L i h; unfold d_xdu_l1; rw [decn_lt h, br_t, at?_lt h, bd_some, bd_some, eqf_Cabin (hp _ (List.getElem_mem h)), bd_some, br_not, br_t]
 ·intro L; unfold d_xdu_l1 d_xdu_j2; rw [decn_ge, br_f, jn_eq]
theorem eqf_Rules {r : GRules} (hr : r.Seats.length <= 1048576) : d_xdj r r = some true := by
 unfold d_xdj; rw [eqr_IntS (by omega), bd_some, br_not, br_t]; simp only [ne_self, br_f]
theorem eqf_House {h : GHouse} (hf : HouseFit h) : d_xdv h h = some true := by
 have g1 := hf.seats; have g2 := hf.parties; have g3 := hf.ncab; have g4 := hf.todo; have g5 := hf.jobs; unfold d_xdv; rw [eqf_Rules g1, bd_some, br_not, br_t, ne_self, br_f, ne_self, br_f, eqr_PartyS (by omega), bd_some, br_not, br_t, eqf_CabinS g3 hf.cabins, bd_some, br_not, br_t, eqr_IntS (by omega), bd_some, br_not, br_t, eqr_IntS (by omega), bd_some, br_not, br_t]
theorem eqf_Engine {e : GEngine} (he : EngineFit e) : d_xd0 e e = some true := by
 have := he.laid; unfold d_xd0; rw [eqf_House he.house, bd_some, br_not, br_t, eqr_Store, bd_some, br_not, br_t, ne_self, br_f, eqr_ReqS (by omega), bd_some, br_not, br_t]
theorem mark_Engine {e : GEngine} (he : EngineFit e) {k : Int} (h0 : 0 <= k) (hb : k <= 2 ^ 50) :
 ∃ k' s ps cs td js ld, d_xel e k = some (k', ⟨⟨⟨s, e.House.Rules.Tiers, e.House.Rules.Room, e.House.Rules.Size, e.House.Rules.Period, e.House.Rules.Window, e.House.Rules.Rest, e.House.Rules.Tries, e.House.Rules.Crew⟩, e.House.Now, e.House.Turn, ps, cs, td, js⟩, e.Store, e.Seq, ld⟩) /\ (k <= k' /\ k' <= 2 ^ 56) /\
  ∀ r : GEngine, r.House.Rules.Seats = s -> r.House.Parties = ps -> r.House.Cabins = cs -> r.House.Todo = td -> r.House.Jobs = js -> r.Laid = ld -> d_xeu r k = some k' := by
 have hl := he.laid; obtain ⟨a, s, ps, cs, td, js, ea, ⟨a1, a2⟩, ah⟩ := mark_House he.house h0 hb; obtain ⟨b, eb, b1, b2, b3, b4⟩ := mark_Req (l := e.Laid) hl (k := a) (by omega) (by omega); refine ⟨b.1, s, ps, cs, td, js, b.2, ?_, ⟨by omega, by omega⟩, ?_⟩
 ·unfold d_xel; rw [ea, bd_some]; dsimp only; rw [eb, bd_some]
 ·rintro r h1 h2 h3 h4 h5 h6; have n1 : decide (a < 0) = false := by rw [decide_eq_false_iff_not]; omega
  have n2 : decide (b.1 < 0) = false := by rw [decide_eq_false_iff_not]; omega
  unfold d_xeu; rw [ah r.House h1 h2 h3 h4 h5, bd_some, n1, br_f, h6, held_Req (l := b.2) (by omega) b1, bd_some, n2, br_f]
end Lv.P
