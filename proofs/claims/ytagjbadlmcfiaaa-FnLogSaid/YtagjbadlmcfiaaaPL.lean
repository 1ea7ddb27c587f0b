/-
  Plain laws: requests and journals come back as they were written.
-/
import Derived.Test.YtagjbadlmcfiaaaPD
set_option linter.unusedVariables false
set_option linter.unusedSimpArgs false
set_option linter.unusedVariables false
set_option linter.unusedSimpArgs false
namespace Lv.P
open Go (IntKind BinOp UnOp)
theorem tAt0 {s : List UInt8} (hs : s.length ≤ 1048576) (k : Nat) (hk : k ≤ 1000) : ∃ x, d_laws_at0 s (k : Int) = some x ∧ 0 ≤ x := by
  unfold d_laws_at0
  rw [dec_lt]
  rcases Nat.lt_or_ge k s.length with h | h
  · have := s[k].toNat_lt
    rw [decide_eq_true h, br_t, at?_lt h, bd_some, w64_id (by omega) (by omega)]
    exact ⟨_, rfl, by omega⟩
  · rw [decide_eq_false (by omega), br_f, w64_id (n := (k : Int) * 7) (by omega) (by omega), w64_id (by omega) (by omega)]
    exact ⟨_, rfl, (tmod_range (by omega) (by omega)).1⟩
end Lv.P
/-
  Plain laws: exactly the whole frames of a journal are read, wherever it is cut.
-/
set_option linter.unusedVariables false
set_option linter.unusedSimpArgs false
namespace Lv.P
open Go (IntKind BinOp UnOp)
def logT (p : Int) : List (List UInt8) → List UInt8
  | [] => []
  | b :: t => frB p b ++ logT (p + 1) t
def framesT (o : Int) (p : Int) : List (List UInt8) → List GFrame
  | [] => []
  | b :: t => ⟨p, b, o + (frB p b).length⟩ :: framesT (o + (frB p b).length) (p + 1) t
def goodT (p : Int) : List (List UInt8) → Prop
  | [] => True
  | b :: t => frOk p b ∧ goodT (p + 1) t
def within' (c : Int) (f : GFrame) : Bool := decide (f.Next ≤ c)
def cutF (c : Int) (l : List GFrame) : List GFrame := l.takeWhile (within' c)
theorem logT_len : ∀ {t : List (List UInt8)} {p : Int}, goodT p t → t.length ≤ (logT p t).length
  | [], p, h => by simp [logT]
  | b :: t, p, h => by
    have h1 := frB_len h.1
    have h2 := logT_len h.2
    simp only [logT, List.length_append, List.length_cons]; omega
theorem frs_logT : ∀ (t : List (List UInt8)) (p : Int) (o c f : Nat) (s : List UInt8), goodT p t → s.drop o = logT p t → o ≤ c → c ≤ s.length → t.length < f → frs f (s.take c) o = cutF c (framesT o p t)
  | t, p, o, c, 0, s, _, _, _, _, h => by omega
  | [], p, o, c, f + 1, s, hg, hd, ho, hc, hf => by
    unfold frs
    have hn : (frAt (s.take c) o).2 = false := by
      unfold frAt
      rw [if_pos (by rw [List.length_take]; omega), Int.toNat_natCast, List.drop_take, hd, frRd_none]
      intro q b h1 h2
      have := frB_len h1
      have h3 := h2.length_le
      rw [List.length_take] at h3
      have h4 : (logT p []).length = 0 := rfl
      omega
    rw [if_neg (by rw [hn]; simp)]; rfl
  | b :: t, p, o, c, f + 1, s, hg, hd, ho, hc, hf => by
    have hb := frB_len hg.1
    have hat : frAt (s.take c) o = frRd ((logT p (b :: t)).take (c - o)) o := by
      unfold frAt
      rw [if_pos (by rw [List.length_take]; omega), Int.toNat_natCast, List.drop_take, hd]
    have hpre : frB p b <+: logT p (b :: t) := ⟨_, rfl⟩
    have hlen : s.length - o = (frB p b).length + (logT (p + 1) t).length := by rw [← List.length_drop, hd]; simp [logT]
    unfold frs
    by_cases hw : o + (frB p b).length ≤ c
    · have he : frAt (s.take c) o = (⟨p, b, (o : Int) + (frB p b).length⟩, true) := by
        rw [hat, frRd_of hg.1 (take_pre hpre (by omega))]
      rw [he, if_pos rfl]
      have e2 : (o : Int) + (frB p b).length = ((o + (frB p b).length : Nat) : Int) := by omega
      have ih := frs_logT t (p + 1) (o + (frB p b).length) c f s hg.2 (by rw [← List.drop_drop, hd]; simp [logT]) hw hc (by simpa using hf)
      show _ = cutF c (⟨p, b, (o : Int) + (frB p b).length⟩ :: framesT ((o : Int) + (frB p b).length) (p + 1) t)
      unfold cutF at ih ⊢
      rw [List.takeWhile_cons, if_pos (by unfold within'; simp; omega)]
      dsimp only
      rw [e2, ih]
    · have hn : (frAt (s.take c) o).2 = false := by
        rw [hat, frRd_none]
        intro q b' h1 h2
        obtain ⟨rfl, rfl⟩ := frB_inj h1 hg.1 (h2.trans (List.take_prefix _ _)) hpre
        have := h2.length_le
        rw [List.length_take] at this; omega
      rw [if_neg (by rw [hn]; simp)]
      unfold cutF framesT
      rw [List.takeWhile_cons, if_neg (by unfold within'; simp; omega)]
theorem frames_logT {t : List (List UInt8)} {p : Int} (hg : goodT p t) {c : Nat} (hc : c ≤ (logT p t).length) : frames ((logT p t).take c) = cutF c (framesT 0 p t) := by
  have hl := logT_len hg
  have key : ∀ f, t.length < f → frs f ((logT p t).take c) 0 = cutF c (framesT 0 p t) := fun f hf => frs_logT t p 0 c f (logT p t) hg rfl (by omega) hc hf
  unfold frames
  have more : ∀ (f : Nat) (s : List UInt8) (i : Int), 0 ≤ i → s.length < f + i → frs (f + 1) s i = frs f s i := by
    intro f
    induction f with
    | zero =>
      intro s i h0 h
      have hn : ¬ (frAt s i).2 = true := fun hx => by have := frAt_next hx; omega
      unfold frs
      rw [if_neg hn]
    | succ f ih =>
      intro s i h0 h
      rw [frs]
      conv => rhs; rw [frs]
      by_cases hx : (frAt s i).2 = true
      · have := frAt_next hx
        rw [if_pos hx, if_pos hx, ih _ _ (by omega) (by omega)]
      · rw [if_neg hx, if_neg hx]
  have add : ∀ k, frs (((logT p t).take c).length + 1 + k) ((logT p t).take c) 0 = frs (((logT p t).take c).length + 1) ((logT p t).take c) 0 := by
    intro k
    induction k with
    | zero => rfl
    | succ k ih => rw [← Nat.add_assoc, more _ _ _ (by omega) (by omega), ih]
  rw [← add t.length]
  exact key _ (by omega)
theorem framesT_get : ∀ {t : List (List UInt8)} {o p : Int} {i : Nat} {f : GFrame}, (framesT o p t)[i]? = some f → f.Seq = p + i ∧ t[i]? = some f.Body
  | [], _, _, _, _, h => by simp [framesT] at h
  | b :: t, o, p, 0, f, h => by simp [framesT] at h; subst h; simp
  | b :: t, o, p, i + 1, f, h => by
    simp only [framesT, List.getElem?_cons_succ] at h ⊢
    have := framesT_get h
    exact ⟨by omega, this.2⟩
theorem framesT_len : ∀ {t : List (List UInt8)} {o p : Int}, (framesT o p t).length = t.length
  | [], _, _ => rfl
  | b :: t, _, _ => by simp [framesT, framesT_len]
theorem framesT_all : ∀ {t : List (List UInt8)} {o p : Int} {c : Int}, o + (logT p t).length ≤ c → cutF c (framesT o p t) = framesT o p t
  | [], _, _, _, _ => rfl
  | b :: t, o, p, c, h => by
    simp only [logT, List.length_append] at h
    unfold cutF framesT
    rw [List.takeWhile_cons, if_pos (by unfold within'; simp; omega)]
    have := framesT_all (t := t) (o := o + (frB p b).length) (p := p + 1) (c := c) (by omega)
    unfold cutF at this
    rw [this]
theorem logT_le : ∀ {t : List (List UInt8)} {p : Int}, (logT p t).length ≤ 74 * t.length
  | [], p => by simp [logT]
  | b :: t, p => by
    have h1 := frB_le p b
    have h2 := logT_le (t := t) (p := p + 1)
    simp only [logT, List.length_append, List.length_cons]; omega
end Lv.P
/-
  Plain laws: a journal is read as it was written, up to any cut.
-/
set_option linter.unusedVariables false
set_option linter.unusedSimpArgs false
namespace Lv.P
open Go (IntKind BinOp UnOp)
theorem logP_good : ∀ {l : List GReq} {p : Int} {r : List UInt8}, logP p l = some r → goodT p (l.map reqB) ∧ r = logT p (l.map reqB) ∧ ∀ q ∈ l, reqOk q = true
  | [], p, r, h => by simp [logP] at h; subst h; exact ⟨trivial, rfl, by simp⟩
  | q :: l, p, r, h => by
    unfold logP at h
    split at h
    · cases h
    · rename_i hne
      split at h
      · rename_i r' hr
        cases h
        obtain ⟨h1, h2, h3⟩ := logP_good hr
        have hok := frB_ne hne
        have hq : reqOk q = true := by
          by_cases hq : reqOk q = true
          · exact hq
          · have : reqB q = [] := by unfold reqB; rw [if_neg hq]
            have h4 := hok.2.1
            rw [this] at h4; simp at h4
        refine ⟨⟨hok, h1⟩, by rw [h2]; rfl, ?_⟩
        intro q' hm
        rcases List.mem_cons.1 hm with rfl | hm
        · exact hq
        · exact h3 q' hm
      · cases h
theorem notes_framesT : ∀ {l : List GReq} {o p : Int}, (∀ q ∈ l, reqOk q = true) → notes (framesT o p (l.map reqB)) = l
  | [], _, _, _ => rfl
  | q :: l, o, p, h => by
    simp only [List.map_cons, framesT, notes, reqRd_of (h q (List.mem_cons_self ..)), if_true]
    rw [notes_framesT fun q' hm => h q' (List.mem_cons_of_mem _ hm)]
theorem framesT_take : ∀ (k : Nat) (t : List (List UInt8)) (o p : Int), (framesT o p t).take k = framesT o p (t.take k)
  | 0, t, o, p => by simp [framesT]
  | k + 1, [], o, p => by simp [framesT]
  | k + 1, b :: t, o, p => by simp [framesT, framesT_take k t]
theorem cut_take (c o p : Int) (t : List (List UInt8)) : ∃ k, k ≤ t.length ∧ cutF c (framesT o p t) = framesT o p (t.take k) := by
  refine ⟨(cutF c (framesT o p t)).length, ?_, ?_⟩
  · rw [← framesT_len (t := t) (o := o) (p := p)]; exact (List.takeWhile_prefix _).length_le
  · rw [← framesT_take]
    exact List.prefix_iff_eq_take.1 (List.takeWhile_prefix _)
theorem sameReqs_refl {l : List GReq} (hl : l.length < 2 ^ 62) : d_laws_sameReqs l l = some true := by
  unfold d_laws_sameReqs
  rw [br_if, if_neg (by simp)]
  refine allLoop (n := l.length) (by omega) ?_ ?_
  · intro L i hi
    unfold d_laws_sameReqs_l1
    rw [dec_lt, decide_eq_true hi, br_t, at?_lt hi, bd_some, bd_some, w64_succ hi (by omega)]
    simp [br_if]
  · intro L
    unfold d_laws_sameReqs_l1 d_laws_sameReqs_j2
    rw [dec_lt, decide_eq_false (by omega), br_f, jn_eq]
theorem After_framesT {t : List (List UInt8)} {o p : Int} (ht : t.length ≤ 1000) (hp : -1000000 ≤ p ∧ p ≤ 10000000) : d_impl_After (framesT o p t) (p - 1) = some (framesT o p t) := by
  unfold d_impl_After
  have hl : (framesT o p t).length = t.length := framesT_len
  refine (forLoop (n := (framesT o p t).length) (fun i (v : List GFrame × Int) => (v.1, v.2, (i : Int))) (fun i v => v.1 = (framesT o p t).take i ∧ v.2 = p - 1 + i) (fun _ _ => some (framesT o p t)) (by omega) ?_ (v := ([], p - 1)) ⟨rfl, by simp⟩)
  rintro L i ⟨v, n⟩ ⟨h1, h2⟩ hi ih
  dsimp only at h1 h2 ih ⊢
  subst h1; subst h2
  unfold d_impl_After_l1 d_impl_After_j2 d_impl_After_j3
  dsimp only
  rw [dec_lt]
  rcases Nat.lt_or_ge i (framesT o p t).length with h | h
  · have hs := (framesT_get (t := t) (o := o) (p := p) (i := i) (f := (framesT o p t)[i]) (List.getElem?_eq_getElem h)).1
    rw [decide_eq_true h, br_t, at?_lt h, bd_some, br_dec, if_neg (by omega), br_if, w64_id (n := p - 1 + (i : Int) + 1) (by omega) (by omega), if_neg (by simp; omega)]
    rw [gd_t (by rw [List.length_take]; simp only [List.length_cons, List.length_nil]; unfold lim; omega), jn_eq, w64_succ h (by omega)]
    refine ih (_, _) ⟨?_, by dsimp only; omega⟩ h
    rw [List.take_add_one, List.getElem?_eq_getElem h, Option.toList_some]
  · rw [decide_eq_false (by omega), br_f, jn_eq, List.take_of_length_le h]
theorem framesT_body {t : List (List UInt8)} {o p : Int} {f : GFrame} (h : f ∈ framesT o p t) : f.Body ∈ t := by
  obtain ⟨i, hi, he⟩ := List.getElem_of_mem h
  have := (framesT_get (t := t) (o := o) (p := p) (i := i) (f := f) (by rw [List.getElem?_eq_getElem hi, he])).2
  exact List.mem_of_getElem? this
theorem Law_FnLog {s : List UInt8} (_ : okL okT s) : d_laws_FnLog s = some true := by
  unfold d_laws_FnLog d_laws_FnLog_j1
  rw [laws_big, bd_some, br_dec]
  by_cases hs : (s.length : Int) > 1048576
  · rw [if_pos hs]
  rw [if_neg hs]
  obtain ⟨⟨l, p⟩, ex, hx, hp⟩ := tDrawLogOf (s := s) (by omega)
  dsimp only at hx hp
  rw [ex, bd_some]
  dsimp only
  rw [impl_LogOf (by omega) hp, bd_some, spec_LogOf (by omega) hp, bd_some]
  have hne2 : ∀ a : List UInt8, (a != a) = false := by simp
  rw [hne2, br_f]
  cases hr : logP p l with
  | none =>
    have e : logR p l [] = [] := by unfold logR; rw [hr]
    have ef : frames [] = [] := by
      have := frames_len []
      exact List.eq_nil_of_length_eq_zero (by simpa using this)
    rw [e, impl_Frames (by simp), bd_some, ef, impl_NotesIn (by simp) (by simp), bd_some, beq_nil, br_dec, if_pos rfl]
    rfl
  | some r =>
    obtain ⟨hg, e1, hq⟩ := logP_good hr
    have e : logR p l [] = logT p (l.map reqB) := by unfold logR; rw [hr, ← e1]; rfl
    have hle := logT_le (t := l.map reqB) (p := p)
    rw [List.length_map] at hle
    have hfull : frames (logT p (l.map reqB)) = framesT 0 p (l.map reqB) := by
      have := frames_logT hg (c := (logT p (l.map reqB)).length) (by omega)
      rw [List.take_length] at this
      rw [this, framesT_all (by omega)]
    have hbody : ∀ k, ∀ f ∈ framesT 0 p ((l.map reqB).take k), f.Body.length ≤ 1048576 := by
      intro k f hf
      have := framesT_body hf
      have := List.mem_of_mem_take this
      obtain ⟨q, _, e⟩ := List.mem_map.1 this
      have := reqB_len q
      rw [← e]; omega
    have hall := hbody l.length
    rw [List.take_of_length_le (by simp)] at hall
    rw [e, impl_Frames (by omega), bd_some, hfull, impl_NotesIn (by rw [framesT_len, List.length_map]; omega) hall, bd_some, notes_framesT hq, beq_nil, br_dec]
    cases l with
    | nil => rfl
    | cons q0 l0 =>
      generalize hL : q0 :: l0 = l at *
      have hlpos : 0 < l.length := by rw [← hL]; simp
      have hpr : 1 ≤ p ∧ p ≤ 1000000 := by rw [← hL] at hg; exact hg.1.1
      have hpos : logT p (l.map reqB) ≠ [] := by
        intro h0
        have := logT_len hg
        rw [h0, List.length_map] at this
        simp only [List.length_nil] at this; omega
      obtain ⟨a, ea, ha⟩ := tAt0 (s := s) (by omega) 4 (by omega)
      rw [if_neg hpos, show (4 : Int) = ((4 : Nat) : Int) from rfl, ea, bd_some, w64_id (n := ((logT p (l.map reqB)).length : Int) + 1) (by omega) (by omega), gd_t (by omega)]
      have hrg := tmod_range ha (show 0 < ((logT p (l.map reqB)).length : Int) + 1 by omega)
      obtain ⟨c, hc⟩ := Int.eq_ofNat_of_zero_le hrg.1
      have hcl : c ≤ (logT p (l.map reqB)).length := by omega
      rw [hc, gd_t (by omega), Int.toNat_natCast, impl_Frames (by rw [List.length_take]; omega), bd_some, frames_logT hg hcl]
      obtain ⟨k, hk, hck⟩ := cut_take (c : Int) 0 p (l.map reqB)
      rw [List.length_map] at hk
      rw [hck, w64_id (n := p - 1) (by omega) (by omega), After_framesT (by rw [List.length_take, List.length_map]; omega) (by omega), bd_some, impl_NotesIn (by rw [framesT_len, List.length_take, List.length_map]; omega) (hbody k), bd_some, ← List.map_take, notes_framesT (fun q hm => hq q (List.mem_of_mem_take hm)), sameReqs_refl (by omega), bd_some, br_t]
      have htk : (l.take k).length = k := by rw [List.length_take]; omega
      rw [htk, br_dec, if_pos (by omega), gd_t (by omega), List.drop_zero, Nat.sub_zero, Int.toNat_natCast, sameReqs_refl (by omega), bd_some, br_t, br_dec]
      split
      · rw [jn_eq]
      · rename_i hcc
        rw [jn_eq]
        have hcc2 : c = (logT p (l.map reqB)).length := by omega
        rw [framesT_all (by omega)] at hck
        have := congrArg List.length hck
        rw [framesT_len, framesT_len, List.length_take, List.length_map] at this
        have hkl : k = l.length := by omega
        rw [hkl]; simp
end Lv.P
