/-
  Plain laws of the folds over requests and replies: the program's functions are the reference's.
-/
import Derived.Test.YtbhgiebhemcljaaG1
import Derived.Test.YtbhgiebhemcljaaLvE
set_option linter.unusedVariables false
set_option linter.unusedSimpArgs false
set_option linter.unusedSimpArgs false
set_option linter.unusedVariables false
namespace Lv
open Go (IntKind BinOp UnOp)

abbrev szL {α : Type} (l : List α) : Nat := l.length
def lnGReply (r : GReply) : Prop := r.Ids.length < 9223372036854775808
def szGReply (r : GReply) : Nat := r.Ids.length
def szReplies (l : List GReply) : Nat := l.length + sumN szGReply l

theorem len_sz {n : Nat} {d : Int} (hd : 0 ≤ d) (hd2 : d ≤ 1048576) (hn : n < 9223372036854775808) : w64 (d - n) = d - n := w64_id (by omega) (by omega)
theorem d_szIntS {l : List Int} {d : Int} (hd : 0 ≤ d) (hd2 : d ≤ 1048576) (hl : l.length < 9223372036854775808) : d_laws_szIntS l d = some (szR l.length d) := by
  rw [d_laws_szIntS, len_sz hd hd2 hl]
  simp only [decide_eq_true_eq, szR]
  split <;> split <;> first | rfl | omega
theorem d_szReply {r : GReply} {d : Int} (hd : 0 ≤ d) (hd2 : d ≤ 1048576) (hl : lnGReply r) : d_laws_szReply r d = some (szR (szGReply r) d) := by
  simp only [d_laws_szReply, d_szIntS hd hd2 hl, Option.bind_some, decide_eq_true_eq, szR, szGReply]
  by_cases h : (r.Ids.length : Int) ≤ d <;> simp [h] <;> omega
theorem d_szReplyS {l : List GReply} {d : Int} (hd : 0 ≤ d) (hd2 : d ≤ 1048576) (hl : l.length < 9223372036854775808) (hk : ∀ r ∈ l, lnGReply r) : d_laws_szReplyS l d = some (szR (szReplies l) d) := by
  rw [d_laws_szReplyS, len_sz hd hd2 hl]
  simp only [decide_eq_true_eq]
  split
  · rename_i h; simp only [szR]; rw [if_neg (by simp only [szReplies]; omega)]
  · rename_i h
    refine (loop_sz (l := l) (d := d - l.length) (L := d_laws_szReplyS_l1 l) (fun i e => (e, (i : Int))) szGReply (by omega) (by omega) ?_ (by intro n e; simp [d_laws_szReplyS_l1]) hl rfl).trans ?_
    · intro n i x e h1 h2 h3 h4
      simp [d_laws_szReplyS_l1, h1, get_of h1, h2, w64_ix hl h2, d_szReply h3 h4 (hk x (List.mem_of_getElem? h1))]
    · have := @szR_add l.length (sumN szGReply l) d (by simp only [szR]; split <;> omega)
      have e : szR l.length d = d - l.length := by unfold szR; exact if_pos (by omega)
      rw [szReplies, ← this, e]
theorem d_szReqS {l : List GReq} {d : Int} (hd : 0 ≤ d) (hd2 : d ≤ 1048576) (hl : l.length < 9223372036854775808) : d_laws_szReqS l d = some (szR l.length d) := by
  rw [d_laws_szReqS, len_sz hd hd2 hl]
  simp only [decide_eq_true_eq, szR]
  split <;> split <;> first | rfl | omega

theorem d_toIntS {l : List Int} (h : l.length ≤ 16777216) : d_laws_toIntS l = some l := by
  rw [d_laws_toIntS, if_pos (by omega)]
  refine loop_copy (l := l) (l' := l) (z := 0) (fun i acc => (acc, (i : Int))) some rfl ?_ (by intro n acc; simp [d_laws_toIntS_l1]) (by omega) (by simp)
  intro n i x y acc h1 h2 h3 h4
  obtain rfl : x = y := by rw [h1] at h2; exact Option.some.inj h2
  simp [d_laws_toIntS_l1, h1, get_of h1, h3, h4, w64_ix (show l.length < 9223372036854775808 by omega) h3]
def smGReply (r : GReply) : Prop := r.Ids.length ≤ 1048576
theorem d_toReply {r : GReply} (h : smGReply r) : d_laws_toReply r = some r := by
  unfold smGReply at h
  simp [d_laws_toReply, d_toIntS (l := r.Ids) (by omega)]
theorem d_toReplyS {l : List GReply} (h : l.length ≤ 16777216) (hs : ∀ r ∈ l, smGReply r) : d_laws_toReplyS l = some l := by
  rw [d_laws_toReplyS, if_pos (by omega)]
  refine loop_copy (l := l) (l' := l) (z := ⟨0, []⟩) (fun i acc => (acc, (i : Int))) some rfl ?_ (by intro n acc; simp [d_laws_toReplyS_l1]) (by omega) (by simp)
  intro n i x y acc h1 h2 h3 h4
  obtain rfl : x = y := by rw [h1] at h2; exact Option.some.inj h2
  simp [d_laws_toReplyS_l1, h1, get_of h1, h3, h4, w64_ix (show l.length < 9223372036854775808 by omega) h3, d_toReply (hs x (List.mem_of_getElem? h1))]
theorem d_toReqS {l : List GReq} (h : l.length ≤ 16777216) : d_laws_toReqS l = some l := by
  rw [d_laws_toReqS, if_pos (by omega)]
  refine loop_copy (l := l) (l' := l) (z := ⟨0, 0, 0, 0, 0, 0⟩) (fun i acc => (acc, (i : Int))) some rfl ?_ (by intro n acc; simp [d_laws_toReqS_l1]) (by omega) (by simp)
  intro n i x y acc h1 h2 h3 h4
  obtain rfl : x = y := by rw [h1] at h2; exact Option.some.inj h2
  simp [d_laws_toReqS_l1, d_laws_toReq, h1, get_of h1, h3, h4, w64_ix (show l.length < 9223372036854775808 by omega) h3]

theorem d_eqIntS {l : List Int} (h : l.length < 9223372036854775808) : d_laws_eqIntS l l = some true := by
  simp only [d_laws_eqIntS, bne_self_eq_false, Bool.false_eq_true, if_false]
  refine loop_true (l := l) (fun i => (i : Int)) _ ?_ (by intro n; simp [d_laws_eqIntS_l1]) h rfl
  intro n i x h1 h2
  simp [d_laws_eqIntS_l1, h1, get_of h1, h2, w64_ix h h2]
theorem d_eqReply {r : GReply} (h : lnGReply r) : d_laws_eqReply r r = some true := by
  simp [d_laws_eqReply, d_eqIntS h]
theorem d_eqReplyS {l : List GReply} (h : l.length < 9223372036854775808) (hk : ∀ r ∈ l, lnGReply r) : d_laws_eqReplyS l l = some true := by
  simp only [d_laws_eqReplyS, bne_self_eq_false, Bool.false_eq_true, if_false]
  refine loop_true (l := l) (fun i => (i : Int)) _ ?_ (by intro n; simp [d_laws_eqReplyS_l1]) h rfl
  intro n i x h1 h2
  simp [d_laws_eqReplyS_l1, h1, get_of h1, h2, w64_ix h h2, d_eqReply (hk x (List.mem_of_getElem? h1))]
theorem d_eqReq {q : GReq} : d_laws_eqReq q q = some true := by simp [d_laws_eqReq]
theorem d_eqReqS {l : List GReq} (h : l.length < 9223372036854775808) : d_laws_eqReqS l l = some true := by
  simp only [d_laws_eqReqS, bne_self_eq_false, Bool.false_eq_true, if_false]
  refine loop_true (l := l) (fun i => (i : Int)) _ ?_ (by intro n; simp [d_laws_eqReqS_l1]) h rfl
  intro n i x h1 h2
  simp [d_laws_eqReqS_l1, h1, get_of h1, h2, w64_ix h h2, d_eqReq]

/-- what is small is right -/
theorem sm_ok {l : List GReply} (h : ∀ r ∈ l, smGReply r) : ∀ r ∈ l, lnGReply r := fun r hr => by have := h r hr; unfold smGReply at this; unfold lnGReply; omega
theorem sm_of_sz {l : List GReply} {d : Int} (hd : d ≤ 1048576) (h : ¬ szR (szReplies l) d < 0) : l.length ≤ 1048576 ∧ ∀ r ∈ l, smGReply r := by
  have h1 : szReplies l ≤ 1048576 := by simp only [szR] at h; split at h <;> omega
  unfold szReplies at h1
  refine ⟨by omega, fun r hr => ?_⟩
  have := sumN_mem (f := szGReply) hr
  unfold smGReply
  unfold szGReply at this
  have h2 : sumN szGReply l ≤ 1048576 := by omega
  unfold szGReply at h2
  omega

/-! the functions -/
@[simp] theorem d_in {x lo hi : Int} : d_spec_l1In x lo hi = some (decide (lo ≤ x) && decide (x ≤ hi)) := by
  simp only [d_spec_l1In, d_spec_l1In_j1, ge_iff_le, decide_eq_true_eq]; by_cases h : lo ≤ x <;> simp [h]
@[simp] theorem d_within {x lo hi : Int} : d_impl_within x lo hi = some (decide (lo ≤ x) && decide (x ≤ hi)) := by
  simp only [d_impl_within, d_impl_within_j1, ge_iff_le, decide_eq_true_eq]; by_cases h : lo ≤ x <;> simp [h]
@[simp] theorem d_min {x y : Int} : d_spec_l1Min x y = some (min x y) := by
  simp only [d_spec_l1Min, decide_eq_true_eq]; split <;> simp <;> omega
@[simp] theorem d_max {x y : Int} : d_spec_l1Max x y = some (max x y) := by
  simp only [d_spec_l1Max, decide_eq_true_eq]; split <;> simp <;> omega
/-- reply i is there and its code is 0 -/
def doneB (rs : List GReply) (i : Nat) : Bool := match rs[i]? with | some r => r.Code == 0 | none => false
@[simp] theorem d_done {rs : List GReply} {i : Nat} : d_spec_l24Done rs (i : Int) = some (doneB rs i) := by
  simp only [d_spec_l24Done, d_spec_l24Done_j1, decide_eq_true_eq, doneB, at?_nat]
  split
  · rename_i h; have : i < rs.length := by omega
    simp [this]
  · rename_i h; have : ¬ i < rs.length := by omega
    simp [this]
theorem d_succ {l : List GReq} {rs : List GReply} {i : Nat} {k : Int} {q : GReq} (h : l[i]? = some q) : d_impl_successful l rs (i : Int) k = some (q.Kind == k && doneB rs i) := by
  simp only [d_impl_successful, d_impl_successful_j1, decide_eq_true_eq, doneB, at?_nat, h, Option.bind_some]
  split
  · rename_i h1
    simp only [h1, Bool.true_and]
    split
    · rename_i h; have : i < rs.length := by omega
      simp [this]
    · rename_i h; have : ¬ i < rs.length := by omega
      simp [this]
  · rename_i h1; simp [h1]

/-- OffersTo -/
def cntL (id : Int) (l : List Int) (n : Int) : Int := l.foldl (fun n x => if x = id then w64 (n + 1) else n) n
def offersM (rs : List GReply) (id : Int) : Int := rs.foldl (fun n r => cntL id r.Ids n) 0
theorem spec_offersTo {rs : List GReply} {id : Int} (h : rs.length < 9223372036854775808) (hk : ∀ r ∈ rs, lnGReply r) : d_spec_OffersTo rs id = some (offersM rs id) := by
  rw [d_spec_OffersTo]
  refine loop_all (l := rs) (fun i n => (n, (i : Int))) (fun r n => cntL id r.Ids n) some (fun _ _ => True) ?_ (by intro n a _; simp [d_spec_OffersTo_l1]) h 0 trivial rfl
  intro n i r m h1 h2 _
  refine ⟨?_, trivial⟩
  simp only [d_spec_OffersTo_l1, decide_eq_true_eq, Int.ofNat_lt, h2, if_true]
  refine (loop_all (l := r.Ids) (L := fun n z => d_spec_OffersTo_l2 _ _ _ _ n z) (fun k n => (n, (k : Int))) (fun x n => if x = id then w64 (n + 1) else n) (fun n' => d_spec_OffersTo_l1 rs id n (n', w64 ((i : Int) + 1))) (fun _ _ => True) ?_ ?_ (hk r (List.mem_of_getElem? h1)) m trivial rfl).trans ?_
  · intro n k x a h3 h4 _
    refine ⟨?_, trivial⟩
    simp only [d_spec_OffersTo_l2, at?_nat, h1, h3, h4, Option.bind_some, decide_eq_true_eq, Int.ofNat_lt, if_true, w64_ix (hk r (List.mem_of_getElem? h1)) h4, beq_iff_eq]
    split <;> simp [w64_ix (hk r (List.mem_of_getElem? h1)) h4]
  · intro n a _
    simp [d_spec_OffersTo_l2, h1]
  · rw [w64_ix h h2]; rfl
theorem impl_offersTo {rs : List GReply} {id : Int} (h : rs.length < 9223372036854775808) (hk : ∀ r ∈ rs, lnGReply r) : d_impl_OffersTo rs id = some (offersM rs id) := by
  rw [d_impl_OffersTo]
  refine loop_all (l := rs) (fun i n => (n, (i : Int))) (fun r n => cntL id r.Ids n) some (fun _ _ => True) ?_ (by intro n a _; simp [d_impl_OffersTo_l1]) h 0 trivial rfl
  intro n i r m h1 h2 _
  refine ⟨?_, trivial⟩
  simp only [d_impl_OffersTo_l1, decide_eq_true_eq, Int.ofNat_lt, h2, if_true, at?_nat, h1, Option.bind_some]
  refine (loop_all (l := r.Ids) (L := fun n z => d_impl_OffersTo_l2 _ _ _ _ n z) (fun k n => (n, (k : Int))) (fun x n => if x = id then w64 (n + 1) else n) (fun n' => d_impl_OffersTo_l1 rs id n (n', w64 ((i : Int) + 1))) (fun _ _ => True) ?_ ?_ (hk r (List.mem_of_getElem? h1)) m trivial rfl).trans ?_
  · intro n k x a h3 h4 _
    refine ⟨?_, trivial⟩
    simp only [d_impl_OffersTo_l2, at?_nat, h3, h4, Option.bind_some, decide_eq_true_eq, Int.ofNat_lt, if_true, w64_ix (hk r (List.mem_of_getElem? h1)) h4, beq_iff_eq]
    split <;> simp [w64_ix (hk r (List.mem_of_getElem? h1)) h4]
  · intro n a _
    simp [d_impl_OffersTo_l2]
  · rw [w64_ix h h2]; rfl

/-- TicksIn, FreedBy: a sum over the requests with their numbers -/
def foldN {α A : Type} (stp : Nat → α → A → A) : List α → Nat → A → A
  | [], _, a => a
  | x :: l, i, a => foldN stp l (i + 1) (stp i x a)
theorem runI_foldN {α A γ : Type} {stp : Nat → α → A → A} {K : A → Option γ} : ∀ (l : List α) (i : Nat) (a : A), runI (fun i x a => .inr (stp i x a)) K l i a = K (foldN stp l i a)
  | [], _, _ => rfl
  | x :: l, i, a => by simp only [runI, foldN, runI_foldN l]
/-- the list is gone through with numbers -/
theorem loop_num {α A σ γ : Type} {l : List α} {L : Nat → σ → Option γ} (mk : Nat → A → σ) (stp : Nat → α → A → A) (K : A → Option γ)
    (hs : ∀ n i x a, l[i]? = some x → i < l.length → L (n + 1) (mk i a) = L n (mk (i + 1) (stp i x a)))
    (he : ∀ n a, L (n + 1) (mk l.length a) = K a) (hl : l.length < 9223372036854775808) (a0 : A) {s0 : σ} (hs0 : s0 = mk 0 a0) : L big s0 = K (foldN stp l 0 a0) := by
  rw [loop_ix mk (fun i x a => .inr (stp i x a)) K (fun _ _ => True) (fun n i x a h1 h2 _ => ⟨hs n i x a h1 h2, fun _ _ => trivial⟩) (fun n a _ => he n a) hl a0 trivial hs0, runI_foldN]
def ticksM (l : List GReq) (rs : List GReply) : Int := foldN (fun i q n => if q.Kind == 6 && doneB rs i then w64 (n + 1) else n) l 0 0
theorem spec_ticksIn {l : List GReq} {rs : List GReply} (h : l.length < 9223372036854775808) : d_spec_TicksIn l rs = some (ticksM l rs) := by
  rw [d_spec_TicksIn]
  refine loop_num (l := l) (fun i n => (n, (i : Int))) (fun i q n => if q.Kind == 6 && doneB rs i then w64 (n + 1) else n) some ?_ (by intro n a; simp [d_spec_TicksIn_l1]) h 0 rfl
  intro n i q a h1 h2
  simp only [d_spec_TicksIn_l1, decide_eq_true_eq, Int.ofNat_lt, h2, if_true, at?_nat, h1, Option.bind_some, d_done, d_spec_TicksIn_j2, d_spec_TicksIn_j3, w64_ix h h2]
  by_cases hq : (q.Kind == 6) = true <;> simp [hq] <;> split <;> rfl
theorem impl_ticksIn {l : List GReq} {rs : List GReply} (h : l.length < 9223372036854775808) : d_impl_TicksIn l rs = some (ticksM l rs) := by
  rw [d_impl_TicksIn]
  refine loop_num (l := l) (fun i n => (n, (i : Int))) (fun i q n => if q.Kind == 6 && doneB rs i then w64 (n + 1) else n) some ?_ (by intro n a; simp [d_impl_TicksIn_l1]) h 0 rfl
  intro n i q a h1 h2
  simp only [d_impl_TicksIn_l1, decide_eq_true_eq, Int.ofNat_lt, h2, if_true, d_succ h1, Option.bind_some, d_impl_TicksIn_j2, w64_ix h h2]
  split <;> rfl
def freedM (l : List GReq) (rs : List GReply) (c : Int) : Int := foldN (fun i q n => if q.Kind == 3 && q.Cabin == c && doneB rs i && (decide (1 ≤ q.Size) && decide (q.Size ≤ 60)) then w64 (n + q.Size) else n) l 0 0
theorem spec_freedBy {l : List GReq} {rs : List GReply} {c : Int} (h : l.length < 9223372036854775808) : d_spec_FreedBy l rs c = some (freedM l rs c) := by
  rw [d_spec_FreedBy]
  refine loop_num (l := l) (fun i n => (n, (i : Int))) _ some ?_ (by intro n a; simp [d_spec_FreedBy_l1]) h 0 rfl
  intro n i q a h1 h2
  simp only [d_spec_FreedBy_l1, decide_eq_true_eq, Int.ofNat_lt, h2, if_true, at?_nat, h1, Option.bind_some, d_done, d_in, d_spec_FreedBy_j2, d_spec_FreedBy_j3, w64_ix h h2]
  by_cases hq : (q.Kind == 3) = true <;> by_cases hc : (q.Cabin == c) = true <;> by_cases hd : doneB rs i = true <;> simp [hq, hc, hd] <;> split <;> rfl
theorem impl_freedBy {l : List GReq} {rs : List GReply} {c : Int} (h : l.length < 9223372036854775808) : d_impl_FreedBy l rs c = some (freedM l rs c) := by
  rw [d_impl_FreedBy]
  refine loop_num (l := l) (fun i n => (n, (i : Int))) _ some ?_ (by intro n a; simp [d_impl_FreedBy_l1]) h 0 rfl
  intro n i q a h1 h2
  simp only [d_impl_FreedBy_l1, decide_eq_true_eq, Int.ofNat_lt, h2, if_true, at?_nat, h1, d_succ h1, Option.bind_some, d_within, d_impl_FreedBy_j2, d_impl_FreedBy_j3, w64_ix h h2]
  by_cases hq : (q.Kind == 3) = true <;> by_cases hc : (q.Cabin == c) = true <;> by_cases hd : doneB rs i = true <;> simp [hq, hc, hd] <;> split <;> rfl

/-- JoinOf: from number k - 1 downwards -/
def joinM (l : List GReq) (rs : List GReply) (id : Int) : Nat → GReq × Bool
  | 0 => (⟨0, 0, 0, 0, 0, 0⟩, false)
  | k + 1 => match l[k]? with
    | some q => if q.Kind == 1 && q.Id == id && doneB rs k then (q, true) else joinM l rs id k
    | none => (⟨0, 0, 0, 0, 0, 0⟩, false)
theorem spec_join_l {l : List GReq} {rs : List GReply} {id : Int} (h : l.length < 9223372036854775808) : ∀ (k n : Nat), k ≤ l.length → k < n → d_spec_JoinOf_l1 l id rs n ((k : Int) - 1) = some (joinM l rs id k)
  | 0, n + 1, _, _ => by simp [d_spec_JoinOf_l1, joinM]
  | k + 1, n + 1, hk, hn => by
    have hkl : k < l.length := by omega
    have e : ((k + 1 : Nat) : Int) - 1 = (k : Int) := by omega
    have hw : w64 ((k : Int) - 1) = (k : Int) - 1 := w64_id (by omega) (by omega)
    rw [e, d_spec_JoinOf_l1]
    simp only [ge_iff_le, Int.natCast_nonneg, decide_true, if_true, at?_nat, List.getElem?_eq_getElem hkl, Option.bind_some, d_done, d_spec_JoinOf_j2, hw, joinM, spec_join_l h k n (by omega) (by omega)]
    by_cases h1 : (l[k].Kind == 1) = true <;> by_cases h2 : (l[k].Id == id) = true <;> by_cases h3 : doneB rs k = true <;> simp [h1, h2, h3]
theorem impl_join_l {l : List GReq} {rs : List GReply} {id : Int} (h : l.length < 9223372036854775808) : ∀ (k n : Nat), k ≤ l.length → k < n → d_impl_JoinOf_l1 l id rs n ((k : Int) - 1) = some (joinM l rs id k)
  | 0, n + 1, _, _ => by simp [d_impl_JoinOf_l1, joinM]
  | k + 1, n + 1, hk, hn => by
    have hkl : k < l.length := by omega
    have e : ((k + 1 : Nat) : Int) - 1 = (k : Int) := by omega
    have hw : w64 ((k : Int) - 1) = (k : Int) - 1 := w64_id (by omega) (by omega)
    have hq : l[k]? = some l[k] := List.getElem?_eq_getElem hkl
    rw [e, d_impl_JoinOf_l1]
    simp only [ge_iff_le, Int.natCast_nonneg, decide_true, if_true, at?_nat, hq, d_succ hq, Option.bind_some, d_impl_JoinOf_j2, hw, joinM, impl_join_l h k n (by omega) (by omega)]
    by_cases h1 : (l[k].Kind == 1) = true <;> by_cases h2 : (l[k].Id == id) = true <;> by_cases h3 : doneB rs k = true <;> simp [h1, h2, h3]
def joinOfM (l : List GReq) (rs : List GReply) (id at_ : Int) : GReq × Bool := joinM l rs id (max 0 (min at_ l.length)).toNat
theorem spec_joinOf {l : List GReq} {rs : List GReply} {id at_ : Int} (h : l.length < 9223372036854775808) : d_spec_JoinOf l rs id at_ = some (joinOfM l rs id at_) := by
  simp only [d_spec_JoinOf, d_min, d_max, Option.bind_some]
  rw [w64_id (by omega) (by omega)]
  have := spec_join_l (l := l) (rs := rs) (id := id) h (max 0 (min at_ l.length)).toNat big (by omega) (big_pos _ (by omega))
  rw [show (((max 0 (min at_ (l.length : Int))).toNat : Nat) : Int) = max 0 (min at_ l.length) from by omega] at this
  exact this
theorem impl_joinOf {l : List GReq} {rs : List GReply} {id at_ : Int} (h : l.length < 9223372036854775808) : d_impl_JoinOf l rs id at_ = some (joinOfM l rs id at_) := by
  simp only [d_impl_JoinOf]
  have e : (if (l.length : Int) < (if 0 > at_ then 0 else at_) then (l.length : Int) else (if 0 > at_ then 0 else at_)) = max 0 (min at_ l.length) := by
    split <;> split at * <;> omega
  rw [e, w64_id (by omega) (by omega)]
  have := impl_join_l (l := l) (rs := rs) (id := id) h (max 0 (min at_ l.length)).toNat big (by omega) (big_pos _ (by omega))
  rw [show (((max 0 (min at_ (l.length : Int))).toNat : Nat) : Int) = max 0 (min at_ l.length) from by omega] at this
  exact this

/-- SoldBy, MovedFrom -/
def takenM (l : List GReq) (rs : List GReply) (t : GReq → Bool) : Int :=
  foldN (fun i q n => if q.Kind == 4 && doneB rs i then (if (joinOfM l rs q.Id i).2 && (decide (1 ≤ (joinOfM l rs q.Id i).1.Size) && decide ((joinOfM l rs q.Id i).1.Size ≤ 6)) && t (joinOfM l rs q.Id i).1 then w64 (n + (joinOfM l rs q.Id i).1.Size) else n) else n) l 0 0
theorem spec_taken {l : List GReq} {rs : List GReply} {c : Int} {b : Bool} (h : l.length < 9223372036854775808) : d_spec_l24Taken l rs c b = some (takenM l rs (fun q => if b then q.From == c else q.Cabin == c)) := by
  rw [d_spec_l24Taken]
  refine loop_num (l := l) (fun i n => (n, (i : Int))) _ some ?_ (by intro n a; simp [d_spec_l24Taken_l1]) h 0 rfl
  intro n i q a h1 h2
  simp only [d_spec_l24Taken_l1, decide_eq_true_eq, Int.ofNat_lt, h2, if_true, at?_nat, h1, Option.bind_some, d_done, d_in, spec_joinOf h, d_spec_l24Taken_j2, d_spec_l24Taken_j3, d_spec_l24Taken_j4, w64_ix h h2]
  generalize joinOfM l rs q.Id i = j
  by_cases hq : q.Kind = 4 <;> by_cases hd : doneB rs i = true <;> by_cases hj : j.2 = true <;> by_cases h3 : 1 ≤ j.1.Size <;> by_cases h4 : j.1.Size ≤ 6 <;> cases b <;> by_cases h5 : j.1.Cabin = c <;> by_cases h6 : j.1.From = c <;> simp [hq, hd, hj, h3, h4, h5, h6]
theorem impl_moved {l : List GReq} {rs : List GReply} {c : Int} (h : l.length < 9223372036854775808) : d_impl_accepted__impl_MovedFrom_1 l rs c = some (takenM l rs (fun q => q.From == c)) := by
  rw [d_impl_accepted__impl_MovedFrom_1]
  refine loop_num (l := l) (fun i n => (n, (i : Int))) _ some ?_ (by intro n a; simp [d_impl_accepted__impl_MovedFrom_1_l1]) h 0 rfl
  intro n i q a h1 h2
  simp only [d_impl_accepted__impl_MovedFrom_1_l1, decide_eq_true_eq, Int.ofNat_lt, h2, if_true, at?_nat, h1, d_succ h1, Option.bind_some, d_within, impl_joinOf h, d_impl_MovedFrom_1, d_impl_accepted__impl_MovedFrom_1_j2, d_impl_accepted__impl_MovedFrom_1_j3, w64_ix h h2]
  generalize joinOfM l rs q.Id i = j
  by_cases hq : q.Kind = 4 <;> by_cases hd : doneB rs i = true <;> by_cases hj : j.2 = true <;> by_cases h3 : 1 ≤ j.1.Size <;> by_cases h4 : j.1.Size ≤ 6 <;> by_cases h6 : j.1.From = c <;> simp [hq, hd, hj, h3, h4, h6]
theorem impl_sold {l : List GReq} {rs : List GReply} {c : Int} (h : l.length < 9223372036854775808) : d_impl_accepted__impl_SoldBy_1 l rs c = some (takenM l rs (fun q => q.Cabin == c)) := by
  rw [d_impl_accepted__impl_SoldBy_1]
  refine loop_num (l := l) (fun i n => (n, (i : Int))) _ some ?_ (by intro n a; simp [d_impl_accepted__impl_SoldBy_1_l1]) h 0 rfl
  intro n i q a h1 h2
  simp only [d_impl_accepted__impl_SoldBy_1_l1, decide_eq_true_eq, Int.ofNat_lt, h2, if_true, at?_nat, h1, d_succ h1, Option.bind_some, d_within, impl_joinOf h, d_impl_SoldBy_1, d_impl_accepted__impl_SoldBy_1_j2, d_impl_accepted__impl_SoldBy_1_j3, w64_ix h h2]
  generalize joinOfM l rs q.Id i = j
  by_cases hq : q.Kind = 4 <;> by_cases hd : doneB rs i = true <;> by_cases hj : j.2 = true <;> by_cases h3 : 1 ≤ j.1.Size <;> by_cases h4 : j.1.Size ≤ 6 <;> by_cases h6 : j.1.Cabin = c <;> simp [hq, hd, hj, h3, h4, h6]

/-! the laws -/
def okReqs (l : List GReq) : Prop := l.length < 9223372036854775808
def okReplies (l : List GReply) : Prop := l.length < 9223372036854775808 ∧ ∀ r ∈ l, lnGReply r

theorem law_two {l : List GReq} {rs : List GReply} (hl : okReqs l) (hr : okReplies rs) {k : List GReq → List GReply → Option Bool} (hk : okReqs l → okReplies rs → l.length ≤ 1048576 → rs.length ≤ 1048576 → (∀ r ∈ rs, smGReply r) → k l rs = some true) :
    ((d_laws_szReqS l 1048576).bind fun v1 => if (decide (v1 < 0)) = true then some true else (d_laws_szReplyS rs v1).bind fun v4 => if (decide (v4 < 0)) = true then some true else k l rs) = some true := by
  simp only [d_szReqS (by omega : (0 : Int) ≤ 1048576) (by omega) hl, Option.bind_some, decide_eq_true_eq]
  split
  · rfl
  · rename_i h1
    have h1' := h1
    have hle := @szR_le l.length 1048576
    have hll : l.length ≤ 1048576 := by simp only [szR] at h1; split at h1 <;> omega
    rw [d_szReplyS (by omega) (by omega) hr.1 hr.2]
    simp only [Option.bind_some]
    split
    · rfl
    · rename_i h2
      obtain ⟨h3, h4⟩ := sm_of_sz (by omega) h2
      exact hk hl hr hll h3 h4

theorem law_offersTo {rs : List GReply} {id : Int} (hr : okReplies rs) : d_laws_FnExactOffersTo rs id = some true := by
  simp only [d_laws_FnExactOffersTo, d_szReplyS (by omega : (0 : Int) ≤ 1048576) (by omega) hr.1 hr.2, Option.bind_some, decide_eq_true_eq]
  split
  · rfl
  · rename_i h2
    obtain ⟨h3, h4⟩ := sm_of_sz (by omega) h2
    simp [d_toReplyS (by omega) h4, spec_offersTo hr.1 hr.2, impl_offersTo hr.1 hr.2, d_eqReplyS hr.1 hr.2]
theorem law_ticksIn {l : List GReq} {rs : List GReply} (hl : okReqs l) (hr : okReplies rs) : d_laws_FnExactTicksIn l rs = some true := by
  rw [d_laws_FnExactTicksIn]
  refine law_two (k := fun l rs => _) hl hr fun hl hr h1 h2 h3 => ?_
  simp [d_toReqS (show l.length ≤ 16777216 by omega), d_toReplyS (show rs.length ≤ 16777216 by omega) h3, spec_ticksIn hl, impl_ticksIn hl, d_eqReplyS hr.1 hr.2, d_eqReqS hl]
theorem law_freedBy {l : List GReq} {rs : List GReply} {c : Int} (hl : okReqs l) (hr : okReplies rs) : d_laws_FnExactFreedBy l rs c = some true := by
  rw [d_laws_FnExactFreedBy]
  refine law_two (k := fun l rs => _) hl hr fun hl hr h1 h2 h3 => ?_
  simp [d_toReqS (show l.length ≤ 16777216 by omega), d_toReplyS (show rs.length ≤ 16777216 by omega) h3, spec_freedBy hl, impl_freedBy hl, d_eqReplyS hr.1 hr.2, d_eqReqS hl]
theorem law_joinOf {l : List GReq} {rs : List GReply} {id at_ : Int} (hl : okReqs l) (hr : okReplies rs) : d_laws_FnExactJoinOf l rs id at_ = some true := by
  rw [d_laws_FnExactJoinOf]
  refine law_two (k := fun l rs => _) hl hr fun hl hr h1 h2 h3 => ?_
  simp [d_toReqS (show l.length ≤ 16777216 by omega), d_toReplyS (show rs.length ≤ 16777216 by omega) h3, spec_joinOf hl, impl_joinOf hl, d_eqReplyS hr.1 hr.2, d_eqReqS hl, d_eqReq]
theorem law_movedFrom {l : List GReq} {rs : List GReply} {c : Int} (hl : okReqs l) (hr : okReplies rs) : d_laws_FnExactMovedFrom l rs c = some true := by
  rw [d_laws_FnExactMovedFrom]
  refine law_two (k := fun l rs => _) hl hr fun hl hr h1 h2 h3 => ?_
  simp [d_toReqS (show l.length ≤ 16777216 by omega), d_toReplyS (show rs.length ≤ 16777216 by omega) h3, d_spec_MovedFrom, d_impl_MovedFrom, spec_taken hl, impl_moved hl, d_eqReplyS hr.1 hr.2, d_eqReqS hl]
theorem law_soldBy {l : List GReq} {rs : List GReply} {c : Int} (hl : okReqs l) (hr : okReplies rs) : d_laws_FnExactSoldBy l rs c = some true := by
  rw [d_laws_FnExactSoldBy]
  refine law_two (k := fun l rs => _) hl hr fun hl hr h1 h2 h3 => ?_
  simp [d_toReqS (show l.length ≤ 16777216 by omega), d_toReplyS (show rs.length ≤ 16777216 by omega) h3, d_spec_SoldBy, d_impl_SoldBy, spec_taken hl, impl_sold hl, d_eqReplyS hr.1 hr.2, d_eqReqS hl]
theorem ok_replies {rs : List GReply} (h : okL okGReply rs) : okReplies rs := ⟨h.1, fun r hr => (h.2 r hr).2.1.1⟩
theorem Law_FnExactOffersTo {rs : List GReply} {id : Int} (h0 : okL okGReply rs) (h1 : okI id) : d_laws_FnExactOffersTo rs id = some true := law_offersTo (ok_replies h0)
theorem Law_FnExactTicksIn {l : List GReq} {rs : List GReply} (h0 : okL okGReq l) (h1 : okL okGReply rs) : d_laws_FnExactTicksIn l rs = some true := law_ticksIn h0.1 (ok_replies h1)
theorem Law_FnExactFreedBy {l : List GReq} {rs : List GReply} {c : Int} (h0 : okL okGReq l) (h1 : okL okGReply rs) (h2 : okI c) : d_laws_FnExactFreedBy l rs c = some true := law_freedBy h0.1 (ok_replies h1)
theorem Law_FnExactJoinOf {l : List GReq} {rs : List GReply} {id a : Int} (h0 : okL okGReq l) (h1 : okL okGReply rs) (h2 : okI id) (h3 : okI a) : d_laws_FnExactJoinOf l rs id a = some true := law_joinOf h0.1 (ok_replies h1)
theorem Law_FnExactMovedFrom {l : List GReq} {rs : List GReply} {c : Int} (h0 : okL okGReq l) (h1 : okL okGReply rs) (h2 : okI c) : d_laws_FnExactMovedFrom l rs c = some true := law_movedFrom h0.1 (ok_replies h1)
theorem Law_FnExactSoldBy {l : List GReq} {rs : List GReply} {c : Int} (h0 : okL okGReq l) (h1 : okL okGReply rs) (h2 : okI c) : d_laws_FnExactSoldBy l rs c = some true := law_soldBy h0.1 (ok_replies h1)
end Lv
