/-
  Plain laws: requests and journals come back as they were written.
-/
import Derived.Test.YtagjbadlmcfiaaaPD
set_option linter.unusedVariables false
set_option linter.unusedSimpArgs false
set_option linter.unusedVariables false
set_option linter.unusedSimpArgs false
namespace Lv.P
open Go (IntKind BinOp UnOp)
theorem tAt0 {s : List UInt8} (hs : s.length ≤ 1048576) (k : Nat) (hk : k ≤ 1000) : ∃ x, d_laws_at0 s (k : Int) = some x ∧ 0 ≤ x := by
  unfold d_laws_at0
  rw [dec_lt]
  rcases Nat.lt_or_ge k s.length with h | h
  · have := s[k].toNat_lt
    rw [decide_eq_true h, br_t, at?_lt h, bd_some, w64_id (by omega) (by omega)]
    exact ⟨_, rfl, by omega⟩
  · rw [decide_eq_false (by omega), br_f, w64_id (n := (k : Int) * 7) (by omega) (by omega), w64_id (by omega) (by omega)]
    exact ⟨_, rfl, (tmod_range (by omega) (by omega)).1⟩
theorem gN_pN {n : Int} (h : 0 ≤ n ∧ n ≤ 2147483647) (l : List UInt8) : gN (pN n ++ l) 0 = (n, ((pN n).length : Int), true) := by
  obtain ⟨m, rfl⟩ := Int.eq_ofNat_of_zero_le h.1
  have e : pN (m : Int) = putN m := by unfold pN; rw [if_pos h, Int.toNat_natCast]
  rw [e, gN_put (pre := []) (w := putN m ++ l) (i := 0) rfl (by simp) (by omega)]; simp
theorem pN_cancel {n n' : Int} {l l' : List UInt8} (h : 0 ≤ n ∧ n ≤ 2147483647) (h' : 0 ≤ n' ∧ n' ≤ 2147483647) (e : pN n ++ l = pN n' ++ l') : n = n' ∧ l = l' := by
  have g := gN_pN h l
  rw [e, gN_pN h' l'] at g
  have hn : n' = n := congrArg Prod.fst g
  subst hn
  exact ⟨rfl, List.append_cancel_left e⟩
theorem pL_pre : ∀ {l l' : List Int} {r : List UInt8}, (∀ n ∈ l, 0 ≤ n ∧ n ≤ 2147483647) → (∀ n ∈ l', 0 ≤ n ∧ n ≤ 2147483647) → l.length = l'.length → pL l ++ r = pL l' → l = l' ∧ r = []
  | [], [], r, _, _, _, e => ⟨rfl, by simpa [pL] using e⟩
  | n :: l, n' :: l', r, h, h', hl, e => by
    simp only [pL, List.flatMap_cons, List.append_assoc] at e
    obtain ⟨rfl, e2⟩ := pN_cancel (h n (List.mem_cons_self ..)) (h' n' (List.mem_cons_self ..)) e
    obtain ⟨rfl, hr⟩ := pL_pre (l := l) (l' := l') (fun m hm => h m (List.mem_cons_of_mem _ hm)) (fun m hm => h' m (List.mem_cons_of_mem _ hm)) (by simpa using hl) e2
    exact ⟨rfl, hr⟩
  | [], _ :: _, _, _, _, h, _ => by simp at h
  | _ :: _, [], _, _, _, h, _ => by simp at h
theorem reqNums_head (q : GReq) : ∃ t, reqNums q = q.Kind :: t := by
  unfold reqNums
  split
  · exact ⟨_, rfl⟩
  split
  · exact ⟨_, rfl⟩
  split <;> exact ⟨_, rfl⟩
theorem reqNums_count {q q' : GReq} (h : q.Kind = q'.Kind) : (reqNums q).length = (reqNums q').length := by
  unfold reqNums
  rw [h]
  split
  · rfl
  split
  · rfl
  split <;> rfl
theorem reqB_pre {q q' : GReq} {r : List UInt8} (h : reqOk q = true) (h' : reqOk q' = true) (e : reqB q ++ r = reqB q') : r = [] := by
  unfold reqB at e
  rw [if_pos h, if_pos h'] at e
  have hk := reqNums_ok h
  have hk' := reqNums_ok h'
  obtain ⟨t, ht⟩ := reqNums_head q
  obtain ⟨t', ht'⟩ := reqNums_head q'
  have hc : q.Kind = q'.Kind := by
    rw [ht, ht'] at e
    simp only [pL, List.flatMap_cons, List.append_assoc] at e
    exact (pN_cancel (hk _ (by rw [ht]; exact List.mem_cons_self ..)) (hk' _ (by rw [ht']; exact List.mem_cons_self ..)) e).1
  exact (pL_pre hk hk' (reqNums_count hc) e).2
theorem reqRd_spec {s : List UInt8} (h : (reqRd s).2 = true) : reqOk (reqRd s).1 = true ∧ reqB (reqRd s).1 = s := by
  by_cases hx : ∃ q, reqOk q = true ∧ reqB q = s
  · obtain ⟨q, h1, rfl⟩ := hx
    rw [reqRd_of h1]; exact ⟨h1, rfl⟩
  · rw [reqRd_none (fun q h1 h2 => hx ⟨q, h1, h2⟩)] at h; cases h
theorem reqRd_zero {s : List UInt8} (h : (reqRd s).2 = false) : (reqRd s).1 = ⟨0, 0, 0, 0, 0, 0⟩ := by
  by_cases hx : ∃ q, reqOk q = true ∧ reqB q = s
  · obtain ⟨q, h1, rfl⟩ := hx
    rw [reqRd_of h1] at h; cases h
  · rw [reqRd_none (fun q h1 h2 => hx ⟨q, h1, h2⟩)]
theorem Law_FnReqBytes {s : List UInt8} (_ : okL okT s) : d_laws_FnReqBytes s = some true := by
  unfold d_laws_FnReqBytes d_laws_FnReqBytes_j1
  rw [laws_big, bd_some, br_dec]
  by_cases hs : (s.length : Int) > 1048576
  · rw [if_pos hs]
  rw [if_neg hs]
  obtain ⟨q, eq⟩ := tDrawReqBytes (s := s) (by omega)
  have hl := reqB_len q
  rw [eq, bd_some, impl_ReqBytes, bd_some, impl_ReqRead (by omega), bd_some, spec_ReqOk, bd_some, br_not]
  cases hq : reqOk q with
  | false =>
    have e : reqB q = [] := by unfold reqB; rw [hq]; rfl
    rw [br_f, e, beq_nil, br_dec, if_pos rfl, jn_eq, reqRd_none (fun q' h1 h2 => reqB_ne h1 h2)]
    rfl
  | true =>
    have hne := reqB_ne hq
    have hpos : 0 < (reqB q).length := by cases h : reqB q with | nil => exact absurd h hne | cons => simp
    obtain ⟨x, ex, _⟩ := tAt0 (s := s) (by omega) 3 (by omega)
    rw [br_t, show (3 : Int) = ((3 : Nat) : Int) from rfl, ex, bd_some, gd_t (by simp only [List.length_cons, List.length_nil]; unfold slim; omega), impl_ReqRead (by simp; omega), bd_some, w64_id (by omega) (by omega), gd_t (by omega), impl_ReqRead (by rw [List.length_take]; omega), bd_some]
    rw [reqRd_of hq, reqRd_none (s := reqB q ++ [toB x]), reqRd_none (s := (reqB q).take _)]
    · simp [br_if]
    · intro q' h1 h2
      have e : reqB q' ++ (reqB q).drop ((reqB q).length - 1 : Int).toNat = reqB q := by rw [h2]; exact List.take_append_drop _ _
      have := congrArg List.length (reqB_pre h1 hq e)
      rw [List.length_drop] at this
      simp only [List.length_nil] at this
      omega
    · intro q' h1 h2
      have := reqB_pre hq h1 h2.symm
      cases this
theorem tl1Bytes {c : Gl1Cur} (hc : CurOk c) (n : Nat) (hn : n ≤ 1000) : ∃ x, d_spec_l1Bytes c (n : Int) = some x ∧ x.1.length = n ∧ CurOk x.2 := by
  unfold d_spec_l1Bytes
  refine forEx (n := n) (fun i (v : List UInt8 × Gl1Cur) => (v.1, (i : Int), v.2)) (fun i v => v.1.length = i ∧ CurOk v.2) _ (by omega) ?_ (v := ([], c)) ⟨rfl, hc⟩
  rintro L i ⟨l, c⟩ ⟨g1, g2⟩ hi ih
  unfold d_spec_l1Bytes_l1 d_spec_l1Bytes_j2
  dsimp only at g1 g2 ih ⊢
  rw [dec_lt]
  rcases Nat.lt_or_ge i n with g | g
  · obtain ⟨x, ex, _, _, cx⟩ := tByte g2
    rw [decide_eq_true g, br_t, ex, bd_some, gd_t (by simp only [List.length_cons, List.length_nil]; unfold lim; omega), w64_succ g (by omega)]
    exact ih (_, _) ⟨by simp [g1], cx⟩ g
  · rw [decide_eq_false (by omega), br_f, jn_eq]
    exact ⟨_, rfl, by dsimp only; omega, g2⟩
theorem tl1Spoil {c : Gl1Cur} (hc : CurOk c) {l : List UInt8} (hl : l.length ≤ 1000000) : ∃ x, d_spec_l1Spoil c l = some x ∧ x.1.length ≤ l.length + 2 ∧ CurOk x.2 := by
  unfold d_spec_l1Spoil
  rw [beq_nil, br_dec]
  split
  · obtain ⟨x, ex, hx, cx⟩ := tl1Bytes hc 2 (by omega)
    rw [show (2 : Int) = ((2 : Nat) : Int) from rfl, ex, bd_some]
    exact ⟨_, rfl, by dsimp only; omega, cx⟩
  · rename_i hne
    have hpos : 0 < l.length := by cases l with | nil => exact absurd rfl hne | cons => simp
    obtain ⟨a, ea, a1, _, a3, ca⟩ := tBelow hc (l.length : Int)
    obtain ⟨b, eb, b1, _, b3, cb⟩ := tBelow ca 255
    have := a3 (by omega)
    obtain ⟨k, hk⟩ := Int.eq_ofNat_of_zero_le a1
    have hlt : k < l.length := by omega
    rw [ea, bd_some, hk, at?_lt hlt, bd_some, bd_some, eb, bd_some, bd_some, bd_some]
    exact ⟨_, rfl, by simp, cb⟩
theorem tDrawReqRead {s : List UInt8} (hs : s.length ≤ 1048576) : ∃ x, d_spec_DrawReqRead s = some x ∧ x.length ≤ 100 := by
  unfold d_spec_DrawReqRead
  obtain ⟨c, ec, hc⟩ := tNew hs
  obtain ⟨q, eq, cq⟩ := tl18Req hc
  have hl := reqB_len q.1
  obtain ⟨a, ea, a1, _, a3, ca⟩ := tBelow cq 6
  rw [ec, bd_some, eq, bd_some, spec_ReqBytes, bd_some, ea, bd_some, br_if, br_if, br_if]
  split
  · obtain ⟨x, ex, hx, _⟩ := tl1Spoil ca (l := reqB q.1) (by omega)
    rw [ex, bd_some]; exact ⟨_, rfl, by omega⟩
  split
  · rw [w64_id (by omega) (by omega)]
    obtain ⟨b, eb, b1, _, b3, cb⟩ := tBelow ca ((reqB q.1).length + 1)
    have := b3 (by omega)
    rw [eb, bd_some, gd_t (by omega)]
    exact ⟨_, rfl, by rw [List.length_take]; omega⟩
  split
  · obtain ⟨b, eb, b1, _, b3, cb⟩ := tBelow ca 3
    rw [eb, bd_some, gd_t (by simp only [List.length_cons, List.length_nil]; unfold slim; omega)]
    exact ⟨_, rfl, by simp; omega⟩
  · exact ⟨_, rfl, by omega⟩
theorem Law_FnReqRead {s : List UInt8} (_ : okL okT s) : d_laws_FnReqRead s = some true := by
  unfold d_laws_FnReqRead d_laws_FnReqRead_j1
  rw [laws_big, bd_some, br_dec]
  by_cases hs : (s.length : Int) > 1048576
  · rw [if_pos hs]
  rw [if_neg hs]
  obtain ⟨x, ex, hx⟩ := tDrawReqRead (s := s) (by omega)
  rw [ex, bd_some, impl_ReqRead (by omega), bd_some, spec_ReqRead (by omega), bd_some]
  cases h : (reqRd x).2 with
  | false =>
    rw [reqRd_zero h]; simp [br_if]
  | true =>
    obtain ⟨h1, h2⟩ := reqRd_spec h
    simp [br_if, impl_ReqOk, h1, impl_ReqBytes, h2]
end Lv.P
/-
  Plain laws: exactly the whole frames of a journal are read, wherever it is cut.
-/
set_option linter.unusedVariables false
set_option linter.unusedSimpArgs false
namespace Lv.P
open Go (IntKind BinOp UnOp)
def logT (p : Int) : List (List UInt8) → List UInt8
  | [] => []
  | b :: t => frB p b ++ logT (p + 1) t
def framesT (o : Int) (p : Int) : List (List UInt8) → List GFrame
  | [] => []
  | b :: t => ⟨p, b, o + (frB p b).length⟩ :: framesT (o + (frB p b).length) (p + 1) t
def goodT (p : Int) : List (List UInt8) → Prop
  | [] => True
  | b :: t => frOk p b ∧ goodT (p + 1) t
def within' (c : Int) (f : GFrame) : Bool := decide (f.Next ≤ c)
def cutF (c : Int) (l : List GFrame) : List GFrame := l.takeWhile (within' c)
theorem logT_len : ∀ {t : List (List UInt8)} {p : Int}, goodT p t → t.length ≤ (logT p t).length
  | [], p, h => by simp [logT]
  | b :: t, p, h => by
    have h1 := frB_len h.1
    have h2 := logT_len h.2
    simp only [logT, List.length_append, List.length_cons]; omega
theorem frs_logT : ∀ (t : List (List UInt8)) (p : Int) (o c f : Nat) (s : List UInt8), goodT p t → s.drop o = logT p t → o ≤ c → c ≤ s.length → t.length < f → frs f (s.take c) o = cutF c (framesT o p t)
  | t, p, o, c, 0, s, _, _, _, _, h => by omega
  | [], p, o, c, f + 1, s, hg, hd, ho, hc, hf => by
    unfold frs
    have hn : (frAt (s.take c) o).2 = false := by
      unfold frAt
      rw [if_pos (by rw [List.length_take]; omega), Int.toNat_natCast, List.drop_take, hd, frRd_none]
      intro q b h1 h2
      have := frB_len h1
      have h3 := h2.length_le
      rw [List.length_take] at h3
      have h4 : (logT p []).length = 0 := rfl
      omega
    rw [if_neg (by rw [hn]; simp)]; rfl
  | b :: t, p, o, c, f + 1, s, hg, hd, ho, hc, hf => by
    have hb := frB_len hg.1
    have hat : frAt (s.take c) o = frRd ((logT p (b :: t)).take (c - o)) o := by
      unfold frAt
      rw [if_pos (by rw [List.length_take]; omega), Int.toNat_natCast, List.drop_take, hd]
    have hpre : frB p b <+: logT p (b :: t) := ⟨_, rfl⟩
    have hlen : s.length - o = (frB p b).length + (logT (p + 1) t).length := by rw [← List.length_drop, hd]; simp [logT]
    unfold frs
    by_cases hw : o + (frB p b).length ≤ c
    · have he : frAt (s.take c) o = (⟨p, b, (o : Int) + (frB p b).length⟩, true) := by
        rw [hat, frRd_of hg.1 (take_pre hpre (by omega))]
      rw [he, if_pos rfl]
      have e2 : (o : Int) + (frB p b).length = ((o + (frB p b).length : Nat) : Int) := by omega
      have ih := frs_logT t (p + 1) (o + (frB p b).length) c f s hg.2 (by rw [← List.drop_drop, hd]; simp [logT]) hw hc (by simpa using hf)
      show _ = cutF c (⟨p, b, (o : Int) + (frB p b).length⟩ :: framesT ((o : Int) + (frB p b).length) (p + 1) t)
      unfold cutF at ih ⊢
      rw [List.takeWhile_cons, if_pos (by unfold within'; simp; omega)]
      dsimp only
      rw [e2, ih]
    · have hn : (frAt (s.take c) o).2 = false := by
        rw [hat, frRd_none]
        intro q b' h1 h2
        obtain ⟨rfl, rfl⟩ := frB_inj h1 hg.1 (h2.trans (List.take_prefix _ _)) hpre
        have := h2.length_le
        rw [List.length_take] at this; omega
      rw [if_neg (by rw [hn]; simp)]
      unfold cutF framesT
      rw [List.takeWhile_cons, if_neg (by unfold within'; simp; omega)]
theorem frames_logT {t : List (List UInt8)} {p : Int} (hg : goodT p t) {c : Nat} (hc : c ≤ (logT p t).length) : frames ((logT p t).take c) = cutF c (framesT 0 p t) := by
  have hl := logT_len hg
  have key : ∀ f, t.length < f → frs f ((logT p t).take c) 0 = cutF c (framesT 0 p t) := fun f hf => frs_logT t p 0 c f (logT p t) hg rfl (by omega) hc hf
  unfold frames
  have more : ∀ (f : Nat) (s : List UInt8) (i : Int), 0 ≤ i → s.length < f + i → frs (f + 1) s i = frs f s i := by
    intro f
    induction f with
    | zero =>
      intro s i h0 h
      have hn : ¬ (frAt s i).2 = true := fun hx => by have := frAt_next hx; omega
      unfold frs
      rw [if_neg hn]
    | succ f ih =>
      intro s i h0 h
      rw [frs]
      conv => rhs; rw [frs]
      by_cases hx : (frAt s i).2 = true
      · have := frAt_next hx
        rw [if_pos hx, if_pos hx, ih _ _ (by omega) (by omega)]
      · rw [if_neg hx, if_neg hx]
  have add : ∀ k, frs (((logT p t).take c).length + 1 + k) ((logT p t).take c) 0 = frs (((logT p t).take c).length + 1) ((logT p t).take c) 0 := by
    intro k
    induction k with
    | zero => rfl
    | succ k ih => rw [← Nat.add_assoc, more _ _ _ (by omega) (by omega), ih]
  rw [← add t.length]
  exact key _ (by omega)
theorem twl {α : Type} {p : α → Bool} : ∀ {l : List α} {i : Nat}, i ≤ (l.takeWhile p).length → (h : i < l.length) → (p l[i] = true ↔ i < (l.takeWhile p).length)
  | [], i, _, h => by simp at h
  | a :: l, i, hi, h => by
    rw [List.takeWhile_cons] at hi ⊢
    by_cases ha : p a = true
    · rw [if_pos ha] at hi ⊢
      cases i with
      | zero => simp [ha]
      | succ i =>
        rw [List.length_cons] at hi ⊢
        have := twl (p := p) (l := l) (i := i) (by omega) (by simpa using h)
        simp only [List.getElem_cons_succ]
        rw [this]; omega
    · rw [if_neg ha] at hi ⊢
      simp at hi
      subst hi
      simp [ha]
theorem tw_get {α : Type} {p : α → Bool} {l : List α} {i : Nat} (h : i < (l.takeWhile p).length) : (l.takeWhile p)[i]? = l[i]? := by
  have : l.takeWhile p <+: l := List.takeWhile_prefix p
  obtain ⟨r, hr⟩ := this
  conv => rhs; rw [← hr]
  rw [List.getElem?_append_left h]
theorem framesT_get : ∀ {t : List (List UInt8)} {o p : Int} {i : Nat} {f : GFrame}, (framesT o p t)[i]? = some f → f.Seq = p + i ∧ t[i]? = some f.Body
  | [], _, _, _, _, h => by simp [framesT] at h
  | b :: t, o, p, 0, f, h => by simp [framesT] at h; subst h; simp
  | b :: t, o, p, i + 1, f, h => by
    simp only [framesT, List.getElem?_cons_succ] at h ⊢
    have := framesT_get h
    exact ⟨by omega, this.2⟩
theorem framesT_len : ∀ {t : List (List UInt8)} {o p : Int}, (framesT o p t).length = t.length
  | [], _, _ => rfl
  | b :: t, _, _ => by simp [framesT, framesT_len]
def endsT (o p : Int) (t : List (List UInt8)) : List Int := o :: (framesT o p t).map (·.Next)
theorem logT_app : ∀ (t u : List (List UInt8)) (p : Int), logT p (t ++ u) = logT p t ++ logT (p + t.length) u
  | [], u, p => by simp [logT]
  | b :: t, u, p => by
    simp only [List.cons_append, logT, logT_app t u (p + 1), List.append_assoc, List.length_cons]
    rw [show p + 1 + (t.length : Int) = p + ((t.length + 1 : Nat) : Int) by omega]
theorem framesT_app : ∀ (t u : List (List UInt8)) (o p : Int), framesT o p (t ++ u) = framesT o p t ++ framesT (o + (logT p t).length) (p + t.length) u
  | [], u, o, p => by simp [framesT, logT]
  | b :: t, u, o, p => by
    simp only [List.cons_append, framesT, framesT_app t u, logT, List.length_append, List.length_cons]
    rw [show p + 1 + (t.length : Int) = p + ((t.length + 1 : Nat) : Int) by omega, show o + ((frB p b).length : Int) + ((logT (p + 1) t).length : Int) = o + (((frB p b).length + (logT (p + 1) t).length : Nat) : Int) by omega]
theorem goodT_app : ∀ {t u : List (List UInt8)} {p : Int}, goodT p t → goodT (p + t.length) u → goodT p (t ++ u)
  | [], u, p, _, h => by simpa using h
  | b :: t, u, p, h1, h2 => ⟨h1.1, goodT_app h1.2 (by rw [List.length_cons] at h2; rw [show p + 1 + (t.length : Int) = p + ((t.length + 1 : Nat) : Int) by omega]; exact h2)⟩
theorem logT_le : ∀ {t : List (List UInt8)} {p : Int}, (logT p t).length ≤ 74 * t.length
  | [], p => by simp [logT]
  | b :: t, p => by
    have h1 := frB_le p b
    have h2 := logT_le (t := t) (p := p + 1)
    simp only [logT, List.length_append, List.length_cons]; omega
theorem impl_Whole {s : List UInt8} (hs : s.length ≤ 1048576) : d_impl_Whole s = some (match (frames s).getLast? with | none => 0 | some f => f.Next) := by
  unfold d_impl_Whole
  have hl := frames_len s
  rw [impl_Frames hs, bd_some, br_if]
  cases h : frames s with
  | nil => simp
  | cons f l =>
    rw [h] at hl
    rw [if_neg (by simp; omega), w64_id (by omega) (by omega)]
    have e : (((f :: l).length : Int) - 1) = ((l.length : Nat) : Int) := by simp
    rw [e, at?_lt (show l.length < (f :: l).length by simp), bd_some, bd_some, List.getLast?_eq_getElem?]
    simp
theorem impl_Torn {s : List UInt8} (hs : s.length ≤ 1048576) : d_impl_Torn s = some (decide ((s.length : Int) > match (frames s).getLast? with | none => 0 | some f => f.Next)) := by
  unfold d_impl_Torn
  rw [impl_Whole hs, bd_some]
theorem ends_last {t : List (List UInt8)} {o p : Int} {c : Int} {n : Nat} (hn : n = (cutF c (framesT o p t)).length) (ho : o = 0) : (endsT o p t)[n]? = some (match (cutF c (framesT o p t)).getLast? with | none => 0 | some f => f.Next) := by
  cases hc : cutF c (framesT o p t) with
  | nil => rw [hc] at hn; simp at hn; subst hn; subst ho; rfl
  | cons f l =>
    rw [hc] at hn
    subst hn
    have hlt : l.length < (cutF c (framesT o p t)).length := by rw [hc]; simp
    have h1 := tw_get (l := framesT o p t) (p := within' c) hlt
    have h2 : (cutF c (framesT o p t))[l.length]? = (f :: l).getLast? := by rw [hc, List.getLast?_eq_getElem?]; simp
    unfold cutF at h2
    rw [← h2, h1]
    unfold endsT
    rw [List.length_cons, List.getElem?_cons_succ, List.getElem?_map]
    have h3 : (framesT o p t)[l.length]? = (f :: l).getLast? := by rw [← h1, h2]
    rw [h3]
    cases hg : (f :: l).getLast? with
    | none => simp at hg
    | some g => rfl
theorem Law_FnFrames {s : List UInt8} (_ : okL okT s) : d_laws_FnFrames s = some true := by
  unfold d_laws_FnFrames
  rw [laws_big, bd_some, br_dec]
  by_cases hs : (s.length : Int) > 1048576
  · rw [if_pos hs]
  rw [if_neg hs]
  obtain ⟨x, ex, hx, _⟩ := tDrawLogOf (s := s) (by omega)
  rw [ex, bd_some]
  have done : ∀ t : List (List UInt8), goodT 1 t → t.length ≤ 4 → d_laws_FnFrames_j3 s (logT 1 t, endsT 0 1 t) = some true := by
    intro t hg ht
    have hle := logT_le (t := t) (p := 1)
    have hlen : (endsT 0 1 t).length = t.length + 1 := by unfold endsT; simp [framesT_len]
    unfold d_laws_FnFrames_j3
    dsimp only
    have j4 : d_laws_FnFrames_j4 s (logT 1 t) (endsT 0 1 t) false = some true := by
      unfold d_laws_FnFrames_j4
      obtain ⟨a, ea, ha⟩ := tAt0 (s := s) (by omega) 5 (by omega)
      rw [br_f, show (5 : Int) = ((5 : Nat) : Int) from rfl, ea, bd_some, w64_id (by omega) (by omega), gd_t (by omega)]
      have hr := tmod_range ha (show 0 < ((logT 1 t).length : Int) + 1 by omega)
      obtain ⟨c, hc⟩ := Int.eq_ofNat_of_zero_le hr.1
      have hcl : c ≤ (logT 1 t).length := by omega
      have hfr := frames_logT hg hcl
      generalize hC : cutF (c : Int) (framesT 0 1 t) = C at hfr
      have hCl : C.length ≤ t.length := by rw [← hC, ← framesT_len (t := t) (o := 0) (p := 1)]; exact (List.takeWhile_prefix _).length_le
      have htl : ((logT 1 t).take c).length = c := by rw [List.length_take]; omega
      have hend : (endsT 0 1 t)[C.length]? = some (match C.getLast? with | none => 0 | some f => f.Next) := by
        have := ends_last (t := t) (o := 0) (p := 1) (c := (c : Int)) (n := C.length) (by rw [hC]) rfl
        rw [hC] at this; exact this
      have j7 : d_laws_FnFrames_j7 (logT 1 t) (endsT 0 1 t) a (C.length : Int) = some true := by
        unfold d_laws_FnFrames_j7
        rw [w64_id (n := ((logT 1 t).length : Int) + 1) (by omega) (by omega), hc, Int.toNat_natCast, gd_t (by omega), impl_Frames (by omega), bd_some, hfr]
        have hne : ((C.length : Int) != (C.length : Int)) = false := by simp
        have hne2 : ∀ a : Int, (a != a) = false := by simp
        rw [hne, br_f, gd_t (by omega), at?_nat, hend, bd_some, bd_some, impl_Whole (by omega), bd_some, hfr, hne2, br_f, gd_t (by omega), bd_some, bd_some, impl_Torn (by omega), bd_some, hfr, htl, jn_eq]
        unfold d_laws_FnFrames_j8
        have hbb : ∀ b : Bool, (!b == b) = false := by decide
        rw [hbb, br_f]
        refine allLoop (n := C.length) (by omega) ?_ ?_
        · intro L i hi
          have h1 := tw_get (l := framesT 0 1 t) (p := within' (c : Int)) (i := i) (by have : (List.takeWhile (within' (c : Int)) (framesT 0 1 t)) = C := hC; rw [this]; exact hi)
          have h1' : C[i]? = (framesT 0 1 t)[i]? := by rw [← h1]; exact congrArg (·[i]?) hC.symm
          have h2 := framesT_get (t := t) (o := 0) (p := 1) (i := i) (f := C[i]) (by rw [← h1', List.getElem?_eq_getElem hi])
          have h3 : at? (endsT 0 1 t) ((i + 1 : Nat) : Int) = some C[i].Next := by
            rw [at?_nat]; unfold endsT
            rw [List.getElem?_cons_succ, List.getElem?_map, ← h1', List.getElem?_eq_getElem hi]; rfl
          unfold d_laws_FnFrames_l9 d_laws_FnFrames_j10
          rw [dec_lt, decide_eq_true hi, br_t, at?_lt hi, bd_some, bd_some, w64_succ hi (by omega), h2.1]
          have e1 : ((1 : Int) + (i : Int) != ((i + 1 : Nat) : Int)) = false := by simp; omega
          rw [e1, br_f, bd_some, bd_some, h3, bd_some, bd_some, hne2, jn_eq, br_f]
        · intro L
          unfold d_laws_FnFrames_l9 d_laws_FnFrames_j11
          rw [dec_lt, decide_eq_false (by omega), br_f, jn_eq]
      refine forLoop (n := t.length) (fun i (_ : Unit) => (i : Int)) (fun i _ => i ≤ C.length) (fun _ _ => some true) (by omega) ?_ (v := ()) (by omega)
      intro L i _ hi hn ih
      unfold d_laws_FnFrames_l5 d_laws_FnFrames_j6
      rw [w64_id (n := ((logT 1 t).length : Int) + 1) (by omega) (by omega), hc, w64_id (n := (i : Int) + 1) (by omega) (by omega), hlen, br_dec]
      have h3 : ∀ (h : i < t.length), at? (endsT 0 1 t) ((i : Int) + 1) = some ((framesT 0 1 t)[i]'(by rw [framesT_len]; exact h)).Next := by
        intro h
        rw [show (i : Int) + 1 = ((i + 1 : Nat) : Int) by omega, at?_nat]; unfold endsT
        rw [List.getElem?_cons_succ, List.getElem?_map, List.getElem?_eq_getElem (by rw [framesT_len]; exact h)]; rfl
      have hCe : (List.takeWhile (within' (c : Int)) (framesT 0 1 t)) = C := hC
      rcases Nat.lt_or_ge i t.length with h | h
      · have hw := twl (p := within' (c : Int)) (l := framesT 0 1 t) (i := i) (by rw [hCe]; exact hi) (by rw [framesT_len]; exact h)
        rw [hCe] at hw
        rw [if_pos (by omega), h3 h, bd_some, bd_some, jn_eq, br_dec, jn_eq]
        unfold within' at hw
        rw [decide_eq_true_eq] at hw
        split
        · rename_i hle
          have := ih () (hw.1 hle) h
          exact this
        · rename_i hle
          have : i = C.length := by
            have : ¬ i < C.length := fun hh => hle (hw.2 hh)
            omega
          rw [this]; exact j7
      · rw [if_neg (by omega), jn_eq, br_f, jn_eq]
        have : i = C.length := by omega
        rw [this]; exact j7
    rw [hlen, br_dec]
    split
    · rename_i h1
      cases t with
      | nil => simp at h1
      | cons b t =>
        have e : at? (endsT 0 1 (b :: t)) 1 = some (0 + ((frB 1 b).length : Int)) := by
          rw [show (1 : Int) = ((1 : Nat) : Int) from rfl, at?_nat]; rfl
        have := frB_len hg.1
        rw [e, bd_some, bd_some, jn_eq, decide_eq_false (by omega)]
        exact j4
    · rw [jn_eq]; exact j4
  refine forLoop (n := x.1.length) (fun i (t : List (List UInt8)) => (logT 1 t, endsT 0 1 t, (i : Int))) (fun i t => goodT 1 t ∧ t.length ≤ i) (fun _ _ => some true) (by omega) ?_ (v := []) ⟨trivial, by simp⟩
  rintro L i t ⟨hg, ht⟩ hi ih
  unfold d_laws_FnFrames_l1 d_laws_FnFrames_j2
  dsimp only
  rw [dec_lt]
  rcases Nat.lt_or_ge i x.1.length with h | h
  · rw [decide_eq_true h, br_t, at?_lt h, bd_some, bd_some, spec_ReqBytes, bd_some, bne_ite]
    have hlen : (endsT 0 1 t).length = t.length + 1 := by unfold endsT; simp [framesT_len]
    have hle := logT_le (t := t) (p := 1)
    rw [hlen]
    split
    · rw [jn_eq, w64_succ h (by omega)]
      exact ih t ⟨hg, by omega⟩ h
    · rename_i hb
      have hok : frOk (((t.length + 1 : Nat) : Int)) (reqB x.1[i]) := by
        have := reqB_len x.1[i]
        have : 0 < (reqB x.1[i]).length := by cases hh : reqB x.1[i] with | nil => exact absurd hh hb | cons => simp
        exact ⟨by omega, by omega⟩
      have hf := frB_len hok
      rw [impl_FrameOf, bd_some, gd_t (by unfold slim; omega), gd_t (by simp only [List.length_cons, List.length_nil]; unfold lim; omega), jn_eq, w64_succ h (by omega)]
      have e1 : logT 1 (t ++ [reqB x.1[i]]) = logT 1 t ++ frB ((t.length + 1 : Nat) : Int) (reqB x.1[i]) := by
        rw [logT_app]; simp only [logT, List.append_nil]
        rw [show (1 : Int) + (t.length : Int) = ((t.length + 1 : Nat) : Int) by omega]
      have e2 : endsT 0 1 (t ++ [reqB x.1[i]]) = endsT 0 1 t ++ [((logT 1 t ++ frB ((t.length + 1 : Nat) : Int) (reqB x.1[i])).length : Int)] := by
        unfold endsT
        rw [framesT_app]
        simp only [framesT, List.map_append, List.map_cons, List.map_nil, List.cons_append, List.length_append]
        rw [show (1 : Int) + (t.length : Int) = ((t.length + 1 : Nat) : Int) by omega]
        simp
      have := ih (t ++ [reqB x.1[i]]) ⟨goodT_app hg ⟨by rw [show (1 : Int) + (t.length : Int) = ((t.length + 1 : Nat) : Int) by omega]; exact hok, trivial⟩, by simp; omega⟩ h
      rw [e1, e2] at this
      exact this
  · rw [decide_eq_false (by omega), br_f, jn_eq]
    exact done t hg (by omega)
end Lv.P
/-
  Plain laws: a journal is read as it was written, up to any cut.
-/
set_option linter.unusedVariables false
set_option linter.unusedSimpArgs false
namespace Lv.P
open Go (IntKind BinOp UnOp)
end Lv.P
