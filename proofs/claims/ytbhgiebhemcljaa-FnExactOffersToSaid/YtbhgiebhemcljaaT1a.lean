/-
  What the functions of the law OffersTo compute, and that they do.
-/
import Derived.Test.YtbhgiebhemcljaaXOne
set_option linter.unusedVariables false
set_option linter.unusedSimpArgs false
namespace Lv
open Go (IntKind BinOp UnOp)

abbrev w64 (n : Int) : Int := IntKind.i64.wrap n
theorem wrap_id {n : Int} (h1 : -9223372036854775808 ≤ n) (h2 : n < 9223372036854775808) : IntKind.i64.wrap n = n := by
  simp only [IntKind.wrap, IntKind.bits, IntKind.signed]
  simp
  omega
theorem wrap_s {i n : Nat} (hn : n < 9223372036854775808) (h : i < n) : IntKind.i64.wrap ((i : Int) + 1) = (i : Int) + 1 := wrap_id (by omega) (by omega)
theorem drop_cons {α : Type} {l : List α} {i : Nat} {x : α} (h : l[i]? = some x) : l.drop i = x :: l.drop (i + 1) := by
  obtain ⟨hi, rfl⟩ := List.getElem?_eq_some_iff.1 h
  exact List.drop_eq_getElem_cons hi
structure Reply where
  code : Int
  ids : List Int
abbrev eReply (r : Reply) : List T := [eI r.code, eInts r.ids]
abbrev eReplies (l : List Reply) : T := .sl 2 (l.map eReply)

/-- a row that is being filled -/
def fill {α : Type} (f : α → List T) (z : List T) (l : List α) (i : Nat) : List (List T) := (l.take i).map f ++ List.replicate (l.length - i) z
theorem fill_zero {α : Type} {f : α → List T} {z : List T} {l : List α} : fill f z l 0 = List.replicate l.length z := by simp [fill]
theorem fill_end {α : Type} {f : α → List T} {z : List T} {l : List α} : fill f z l l.length = l.map f := by simp [fill]
theorem fill_len {α : Type} {f : α → List T} {z : List T} {l : List α} {i : Nat} (h : i ≤ l.length) : (fill f z l i).length = l.length := by simp [fill]; omega
theorem fill_get {α : Type} {f : α → List T} {z : List T} {l : List α} {i : Nat} (h : i < l.length) (h' : i < (fill f z l i).length) : (fill f z l i)[i] = z := by
  have hl : ((l.take i).map f).length = i := by simp; omega
  have : (fill f z l i)[i]? = some z := by
    unfold fill
    rw [List.getElem?_append_right (show _ ≤ i from by omega), hl, Nat.sub_self, show l.length - i = (l.length - (i + 1)) + 1 from by omega, List.replicate_succ]
    rfl
  exact Option.some.inj ((List.getElem?_eq_getElem h').symm.trans this)
theorem fill_set {α : Type} {f : α → List T} {z : List T} {l : List α} {i : Nat} (h : i < l.length) : (fill f z l i).set i (f l[i]) = fill f z l (i + 1) := by
  have hl : ((l.take i).map f).length = i := by simp; omega
  have ht : (l.take (i + 1)).map f = (l.take i).map f ++ [f l[i]] := by rw [List.take_add_one, List.getElem?_eq_getElem h, Option.toList_some, List.map_append, List.map_cons, List.map_nil]
  unfold fill
  rw [List.set_append_right _ _ (show _ ≤ i from by omega), hl, Nat.sub_self, show l.length - i = (l.length - (i + 1)) + 1 from by omega, List.replicate_succ, List.set_cons_zero, ht, List.append_assoc]
  rfl

def szIntS (l : List Int) (left : Int) : Int := if w64 (left - l.length) < 0 then -1 else w64 (left - l.length)
def szReply (r : Reply) (left : Int) : Int := if szIntS r.ids left < 0 then -1 else szIntS r.ids left
def szReplyL : List Reply → Int → Int
  | [], d => d
  | r :: rs, d => if szReply r d < 0 then -1 else szReplyL rs (szReply r d)
def szReplyS (rs : List Reply) (left : Int) : Int := if w64 (left - rs.length) < 0 then -1 else szReplyL rs (w64 (left - rs.length))

def cntL (id : Int) : List Int → Int → Int
  | [], n => n
  | x :: xs, n => cntL id xs (if x = id then w64 (n + 1) else n)
def offersL (id : Int) : List Reply → Int → Int
  | [], n => n
  | r :: rs, n => offersL id rs (cntL id r.ids n)

theorem szReply_small {r : Reply} {d : Int} (hl : r.ids.length < 9223372036854775808) (hd : d ≤ 1048576) (hd0 : 0 ≤ d) (h : ¬ szReply r d < 0) : r.ids.length ≤ 16777216 ∧ szReply r d ≤ 1048576 := by
  have hw : IntKind.i64.wrap (d - r.ids.length) = d - r.ids.length := wrap_id (by omega) (by omega)
  simp only [szReply, szIntS, w64, hw] at h ⊢
  by_cases h1 : d - (r.ids.length : Int) < 0
  · simp [h1] at h
  · simp only [if_neg h1] at h ⊢
    omega
theorem szReplyL_small : ∀ {rs : List Reply} {d : Int}, (∀ r ∈ rs, r.ids.length < 9223372036854775808) → d ≤ 1048576 → 0 ≤ d → ¬ szReplyL rs d < 0 → ∀ r ∈ rs, r.ids.length ≤ 16777216
  | [], _, _, _, _, _ => by simp
  | r :: rs, d, hl, hd, hd0, h => by
    simp only [szReplyL] at h
    split at h
    · omega
    · rename_i h1
      have hs := szReply_small (hl r (by simp)) hd hd0 h1
      have := szReplyL_small (fun r hr => hl r (by simp [hr])) hs.2 (by omega) h
      intro r' hr'
      rcases List.mem_cons.1 hr' with rfl | hr'
      · exact hs.1
      · exact this r' hr'
theorem szReplyS_small {rs : List Reply} (hl : rs.length < 9223372036854775808 ∧ ∀ r ∈ rs, r.ids.length < 9223372036854775808) (h : ¬ szReplyS rs 1048576 < 0) : rs.length ≤ 16777216 ∧ ∀ r ∈ rs, r.ids.length ≤ 16777216 := by
  have hw : IntKind.i64.wrap (1048576 - rs.length) = 1048576 - rs.length := wrap_id (by omega) (by omega)
  simp only [szReplyS, w64, hw] at h
  split at h
  · omega
  · rename_i h1
    exact ⟨by omega, szReplyL_small hl.2 (by omega) (by omega) h⟩

theorem run_laws_szIntS {l : List Int} {left : Int} : Runs x_laws_szIntS [.v .one [eInts l], .v .one [eI left]] .one [eI (szIntS l left)] [] := by
  refine Runs.mk (by simp <;> rfl) ?_ (by simp)
  refine w_seq ?_
  refine w_reg ?_
  refine k_op (by simp <;> rfl) ?_
  refine k_nil ?_
  refine w_seq ?_
  refine w_st (by simp <;> rfl) ?_
  refine w_reg ?_
  refine k_op (by simp <;> rfl) ?_
  refine k_op (by simp <;> rfl) ?_
  refine k_op (by simp <;> rfl) ?_
  refine k_op (by simp <;> rfl) ?_
  refine k_op (by simp <;> rfl) ?_
  refine k_op (by simp <;> rfl) ?_
  refine k_op (by simp <;> rfl) ?_
  refine k_op (by simp <;> rfl) ?_
  refine k_nil ?_
  refine w_seq ?_
  refine w_seq ?_
  refine w_st (by simp <;> rfl) ?_
  refine w_reg ?_
  refine k_op (by simp <;> rfl) ?_
  refine k_op (by simp <;> rfl) ?_
  refine k_nil ?_
  refine w_st (by simp <;> rfl) ?_
  refine w_dec (by simp <;> rfl) (fun h1 => ?_) (fun h1 => ?_)
  · refine w_seq ?_
    refine w_reg ?_
    refine k_op (by simp <;> rfl) ?_
    refine k_nil ?_
    refine w_ret ?_
    simp [szIntS, *]
  · refine w_skip ?_
    refine w_seq ?_
    refine w_reg ?_
    refine k_op (by simp <;> rfl) ?_
    refine k_op (by simp <;> rfl) ?_
    refine k_op (by simp <;> rfl) ?_
    refine k_nil ?_
    refine w_ret ?_
    simp [szIntS, *]

theorem run_laws_szReply {r : Reply} {left : Int} : Runs x_laws_szReply [.v .agg (eReply r), .v .one [eI left]] .one [eI (szReply r left)] [] := by
  refine Runs.mk (by simp <;> rfl) ?_ (by simp)
  refine w_seq ?_
  refine w_reg ?_
  refine k_op (by simp <;> rfl) ?_
  refine k_op (by simp <;> rfl) ?_
  refine k_op (by simp <;> rfl) ?_
  refine k_nil ?_
  refine w_seq ?_
  refine w_st (by simp <;> rfl) ?_
  refine w_reg ?_
  refine k_op (by simp <;> rfl) ?_
  refine k_op (by simp <;> rfl) ?_
  refine k_op (by simp <;> rfl) ?_
  refine k_op (by simp <;> rfl) ?_
  refine k_op (by simp <;> rfl) ?_
  apply k_call (by simp <;> rfl) (by simp <;> rfl)
  · exact run_laws_szIntS
  · simp <;> rfl
  refine k_op (by simp <;> rfl) ?_
  refine k_op (by simp <;> rfl) ?_
  refine k_nil ?_
  refine w_seq ?_
  refine w_seq ?_
  refine w_st (by simp <;> rfl) ?_
  refine w_reg ?_
  refine k_op (by simp <;> rfl) ?_
  refine k_op (by simp <;> rfl) ?_
  refine k_nil ?_
  refine w_st (by simp <;> rfl) ?_
  refine w_dec (by simp <;> rfl) (fun h1 => ?_) (fun h1 => ?_)
  · refine w_seq ?_
    refine w_reg ?_
    refine k_op (by simp <;> rfl) ?_
    refine k_nil ?_
    refine w_ret ?_
    simp [szReply, *]
  · refine w_skip ?_
    refine w_seq ?_
    refine w_reg ?_
    refine k_op (by simp <;> rfl) ?_
    refine k_op (by simp <;> rfl) ?_
    refine k_op (by simp <;> rfl) ?_
    refine k_nil ?_
    refine w_ret ?_
    simp [szReply, *]

theorem run_laws_szReplyS {rs : List Reply} {left : Int} (hl : rs.length < 9223372036854775808) : Runs x_laws_szReplyS [.v .one [eReplies rs], .v .one [eI left]] .one [eI (szReplyS rs left)] [] := by
  refine Runs.mk (by simp <;> rfl) ?_ (by simp)
  refine w_seq ?_
  refine w_reg ?_
  refine k_op (by simp <;> rfl) ?_
  refine k_nil ?_
  refine w_seq ?_
  refine w_st (by simp <;> rfl) ?_
  refine w_reg ?_
  refine k_op (by simp <;> rfl) ?_
  refine k_op (by simp <;> rfl) ?_
  refine k_op (by simp <;> rfl) ?_
  refine k_op (by simp <;> rfl) ?_
  refine k_op (by simp <;> rfl) ?_
  refine k_op (by simp <;> rfl) ?_
  refine k_op (by simp <;> rfl) ?_
  refine k_op (by simp <;> rfl) ?_
  refine k_nil ?_
  refine w_seq ?_
  refine w_seq ?_
  refine w_st (by simp <;> rfl) ?_
  refine w_reg ?_
  refine k_op (by simp <;> rfl) ?_
  refine k_op (by simp <;> rfl) ?_
  refine k_nil ?_
  refine w_st (by simp <;> rfl) ?_
  refine w_dec (by simp <;> rfl) (fun h1 => ?_) (fun h1 => ?_)
  · refine w_seq ?_
    refine w_reg ?_
    refine k_op (by simp <;> rfl) ?_
    refine k_nil ?_
    refine w_ret ?_
    simp [szReplyS, h1]
  · refine w_skip ?_
    refine w_seq ?_
    refine w_seq ?_
    refine w_reg ?_
    refine k_op (by simp <;> rfl) ?_
    refine k_nil ?_
    refine w_st (by simp <;> rfl) ?_
    refine w_block ?_
    refine w_loop (α := Nat × Int) (fun x => ⟨[(0, ⟨.one, [.vw (.old 0) 2 (rs.map eReply)]⟩), (1, ⟨.one, [.t (eI x.2)]⟩), (5, ⟨.one, [.t (eI x.1)]⟩)], [], []⟩)
      (fun x => x.1 ≤ rs.length ∧ szReplyL (rs.drop x.1) x.2 = szReplyS rs left) (fun x => rs.length - x.1) (fun x hx => ?_) (0, w64 (left - rs.length)) ⟨by omega, by simp [szReplyS, h1]⟩ (by simp)
    obtain ⟨i, lf⟩ := x
    obtain ⟨hx1, hx2⟩ := hx
    simp only at hx1 hx2
    refine w_seq ?_
    refine w_seq ?_
    refine w_reg ?_
    refine k_op (by simp <;> rfl) ?_
    refine k_op (by simp <;> rfl) ?_
    refine k_op (by simp <;> rfl) ?_
    refine k_op (by simp <;> rfl) ?_
    refine k_op (by simp <;> rfl) ?_
    refine k_nil ?_
    refine w_st (by simp <;> rfl) ?_
    refine w_dec (by simp <;> rfl) (fun h2 => ?_) (fun h2 => ?_)
    · have h2 : i < rs.length := by simpa using h2
      obtain ⟨r, hr⟩ : ∃ r, rs[i] = r := ⟨_, rfl⟩
      have hd : rs.drop i = r :: rs.drop (i + 1) := drop_cons (by simp [h2, hr])
      rw [hd, szReplyL] at hx2
      refine w_skip ?_
      refine w_seq ?_
      refine w_block ?_
      refine w_seq ?_
      refine w_reg ?_
      refine k_op (by simp [hr, h2] <;> rfl) ?_
      refine k_op (by simp [hr, h2] <;> rfl) ?_
      refine k_op (by simp [hr, h2] <;> rfl) ?_
      refine k_op (by simp [hr, h2] <;> rfl) ?_
      refine k_op (by simp [hr, h2] <;> rfl) ?_
      refine k_op (by simp [hr, h2] <;> rfl) ?_
      refine k_op (by simp [hr, h2] <;> rfl) ?_
      apply k_call (by simp [hr, h2] <;> rfl) (by simp [hr, h2] <;> rfl)
      · exact run_laws_szReply
      · simp [hr, h2] <;> rfl
      refine k_op (by simp [hr, h2] <;> rfl) ?_
      refine k_op (by simp [hr, h2] <;> rfl) ?_
      refine k_nil ?_
      refine w_seq ?_
      refine w_st (by simp [hr, h2] <;> rfl) ?_
      refine w_reg ?_
      refine k_op (by simp [hr, h2] <;> rfl) ?_
      refine k_op (by simp [hr, h2] <;> rfl) ?_
      refine k_nil ?_
      refine w_st (by simp [hr, h2] <;> rfl) ?_
      refine w_dec (by simp [hr, h2] <;> rfl) (fun h3 => ?_) (fun h3 => ?_)
      · rw [if_pos h3] at hx2
        refine w_seq ?_
        refine w_reg ?_
        refine k_op (by simp [hr, h2] <;> rfl) ?_
        refine k_nil ?_
        refine w_ret ?_
        simp [← hx2]
      · rw [if_neg h3] at hx2
        refine w_skip ?_
        refine w_reg ?_
        refine k_op (by simp [hr, h2] <;> rfl) ?_
        refine k_op (by simp [hr, h2] <;> rfl) ?_
        refine k_op (by simp [hr, h2] <;> rfl) ?_
        refine k_op (by simp [hr, h2] <;> rfl) ?_
        refine k_op (by simp [hr, h2] <;> rfl) ?_
        refine k_nil ?_
        refine ⟨(i + 1, szReply r lf), by simp [wrap_s hl h2], ⟨by simp; omega, by rw [hx2]⟩, by simp; omega⟩
    · obtain rfl : i = rs.length := by simp at h2; omega
      refine w_exit ?_
      refine x_here ?_
      refine w_seq ?_
      refine w_reg ?_
      refine k_op (by simp <;> rfl) ?_
      refine k_op (by simp <;> rfl) ?_
      refine k_op (by simp <;> rfl) ?_
      refine k_nil ?_
      refine w_ret ?_
      simp [← hx2, szReplyL]

theorem run_laws_toIntS {l : List Int} (hl : l.length ≤ 16777216) : Runs x_laws_toIntS [.v .one [eInts l]] .one [eInts l] [] := by
  have hl1 : (l.length : Int) ≤ 16777216 := by have := hl; omega
  have hl2 : l.length < 9223372036854775808 := by have := hl; omega
  refine Runs.mk (by simp <;> rfl) ?_ (by simp)
  refine w_seq ?_
  refine w_reg ?_
  refine k_op (by simp [hl1] <;> rfl) ?_
  refine k_nil ?_
  refine w_seq ?_
  refine w_st (by simp [hl1] <;> rfl) ?_
  refine w_reg ?_
  refine k_op (by simp [hl1] <;> rfl) ?_
  refine k_op (by simp [hl1] <;> rfl) ?_
  refine k_op (by simp [hl1] <;> rfl) ?_
  refine k_op (by simp [hl1] <;> rfl) ?_
  refine k_op (by simp [hl1] <;> rfl) ?_
  refine k_op (by simp [hl1] <;> rfl) ?_
  refine k_nil ?_
  refine w_seq ?_
  refine w_seq ?_
  refine w_st (by simp [hl1] <;> rfl) ?_
  refine w_reg ?_
  refine k_op (by simp [hl1] <;> rfl) ?_
  refine k_nil ?_
  refine w_st (by simp [hl1] <;> rfl) ?_
  refine w_block ?_
  refine w_count (fun i => ⟨[(0, ⟨.one, [.vw (.old 0) 1 (l.map eN)]⟩), (3, ⟨.one, [.ow (.sl 1 (fill eN [eI 0] l i))]⟩), (4, ⟨.one, [.t (eI i)]⟩)], [], []⟩) l.length (fun i hi => ?_) ?_ (by simp [fill_zero])
  · obtain ⟨x, hx⟩ : ∃ x, l[i] = x := ⟨_, rfl⟩
    have hfl : (fill eN [eI 0] l i).length = l.length := fill_len (by omega)
    have hfg : ∀ h', (fill eN [eI 0] l i)[i]'h' = [eI 0] := fun h' => fill_get hi h'
    have hfs : (fill eN [eI 0] l i).set i (eN x) = fill eN [eI 0] l (i + 1) := hx ▸ fill_set hi
    refine w_seq ?_
    refine w_seq ?_
    refine w_reg ?_
    refine k_op (by simp [hl1, hi, hx, hfl, hfg] <;> rfl) ?_
    refine k_op (by simp [hl1, hi, hx, hfl, hfg] <;> rfl) ?_
    refine k_op (by simp [hl1, hi, hx, hfl, hfg] <;> rfl) ?_
    refine k_op (by simp [hl1, hi, hx, hfl, hfg] <;> rfl) ?_
    refine k_op (by simp [hl1, hi, hx, hfl, hfg] <;> rfl) ?_
    refine k_nil ?_
    refine w_st (by simp [hl1, hi, hx, hfl, hfg] <;> rfl) ?_
    refine w_true (by simp [hi, hx, hfl, hfg]) ?_
    refine w_skip ?_
    refine w_seq ?_
    refine w_block ?_
    refine w_reg ?_
    refine k_op (by simp [hl1, hi, hx, hfl, hfg] <;> rfl) ?_
    refine k_op (by simp [hl1, hi, hx, hfl, hfg] <;> rfl) ?_
    refine k_op (by simp [hl1, hi, hx, hfl, hfg] <;> rfl) ?_
    refine k_op (by simp [hl1, hi, hx, hfl, hfg] <;> rfl) ?_
    refine k_op (by simp [hl1, hi, hx, hfl, hfg] <;> rfl) ?_
    refine k_op (by simp [hl1, hi, hx, hfl, hfg] <;> rfl) ?_
    refine k_op (by simp [hl1, hi, hx, hfl, hfg] <;> rfl) ?_
    refine k_op (by simp [hl1, hi, hx, hfl, hfg] <;> rfl) ?_
    refine k_op (by simp [hl1, hi, hx, hfl, hfg] <;> rfl) ?_
    refine k_nil ?_
    refine w_st (by simp [hl1, hi, hx, hfl, hfg] <;> rfl) ?_
    refine w_reg ?_
    refine k_op (by simp [hl1, hi, hx, hfl, hfg] <;> rfl) ?_
    refine k_op (by simp [hl1, hi, hx, hfl, hfg] <;> rfl) ?_
    refine k_op (by simp [hl1, hi, hx, hfl, hfg] <;> rfl) ?_
    refine k_op (by simp [hl1, hi, hx, hfl, hfg] <;> rfl) ?_
    refine k_op (by simp [hl1, hi, hx, hfl, hfg] <;> rfl) ?_
    refine k_nil ?_
    simp [wrap_s hl2 hi, hfs]
  · refine w_seq ?_
    refine w_seq ?_
    refine w_reg ?_
    refine k_op (by simp [hl1, fill_len] <;> rfl) ?_
    refine k_op (by simp [hl1, fill_len] <;> rfl) ?_
    refine k_op (by simp [hl1, fill_len] <;> rfl) ?_
    refine k_op (by simp [hl1, fill_len] <;> rfl) ?_
    refine k_op (by simp [hl1, fill_len] <;> rfl) ?_
    refine k_nil ?_
    refine w_st (by simp [hl1, fill_len] <;> rfl) ?_
    refine w_false (by simp [fill_len]) ?_
    refine w_exit ?_
    refine x_here ?_
    refine w_seq ?_
    refine w_reg ?_
    refine k_op (by simp [hl1, fill_len] <;> rfl) ?_
    refine k_op (by simp [hl1, fill_len] <;> rfl) ?_
    refine k_nil ?_
    refine w_ret ?_
    simp [fill_end]

theorem run_laws_toReply {r : Reply} (hl : r.ids.length ≤ 16777216) : Runs x_laws_toReply [.v .agg (eReply r)] .agg (eReply r) [] := by
  refine Runs.mk (by simp <;> rfl) ?_ (by simp)
  refine w_seq ?_
  refine w_reg ?_
  refine k_op (by simp <;> rfl) ?_
  refine k_op (by simp <;> rfl) ?_
  refine k_op (by simp <;> rfl) ?_
  refine k_nil ?_
  refine w_seq ?_
  refine w_st (by simp <;> rfl) ?_
  refine w_reg ?_
  refine k_op (by simp <;> rfl) ?_
  refine k_nil ?_
  refine w_seq ?_
  refine w_st (by simp <;> rfl) ?_
  refine w_reg ?_
  refine k_op (by simp <;> rfl) ?_
  refine k_op (by simp <;> rfl) ?_
  refine k_op (by simp <;> rfl) ?_
  refine k_op (by simp <;> rfl) ?_
  refine k_op (by simp <;> rfl) ?_
  refine k_nil ?_
  refine w_seq ?_
  refine w_st (by simp <;> rfl) ?_
  refine w_reg ?_
  refine k_op (by simp <;> rfl) ?_
  refine k_op (by simp <;> rfl) ?_
  refine k_op (by simp <;> rfl) ?_
  apply k_call (by simp <;> rfl) (by simp <;> rfl)
  · exact run_laws_toIntS hl
  · simp <;> rfl
  refine k_op (by simp <;> rfl) ?_
  refine k_op (by simp <;> rfl) ?_
  refine k_op (by simp <;> rfl) ?_
  refine k_nil ?_
  refine w_seq ?_
  refine w_st (by simp <;> rfl) ?_
  refine w_reg ?_
  refine k_op (by simp <;> rfl) ?_
  refine k_op (by simp <;> rfl) ?_
  refine k_nil ?_
  refine w_ret ?_
  simp

theorem run_laws_toReplyS {l : List Reply} (hl : l.length ≤ 16777216 ∧ ∀ r ∈ l, r.ids.length ≤ 16777216) : Runs x_laws_toReplyS [.v .one [eReplies l]] .one [eReplies l] [] := by
  have hl1 : (l.length : Int) ≤ 16777216 := by have := hl.1; omega
  have hl2 : l.length < 9223372036854775808 := by have := hl.1; omega
  refine Runs.mk (by simp <;> rfl) ?_ (by simp)
  refine w_seq ?_
  refine w_reg ?_
  refine k_op (by simp [hl1] <;> rfl) ?_
  refine k_nil ?_
  refine w_seq ?_
  refine w_st (by simp [hl1] <;> rfl) ?_
  refine w_reg ?_
  refine k_op (by simp [hl1] <;> rfl) ?_
  refine k_op (by simp [hl1] <;> rfl) ?_
  refine k_op (by simp [hl1] <;> rfl) ?_
  refine k_op (by simp [hl1] <;> rfl) ?_
  refine k_op (by simp [hl1] <;> rfl) ?_
  refine k_op (by simp [hl1] <;> rfl) ?_
  refine k_nil ?_
  refine w_seq ?_
  refine w_seq ?_
  refine w_st (by simp [hl1] <;> rfl) ?_
  refine w_reg ?_
  refine k_op (by simp [hl1] <;> rfl) ?_
  refine k_nil ?_
  refine w_st (by simp [hl1] <;> rfl) ?_
  refine w_block ?_
  refine w_count (fun i => ⟨[(0, ⟨.one, [.vw (.old 0) 2 (l.map eReply)]⟩), (3, ⟨.one, [.ow (.sl 2 (fill eReply [eI 0, .nil] l i))]⟩), (4, ⟨.one, [.t (eI i)]⟩)], [], []⟩) l.length (fun i hi => ?_) ?_ (by simp [fill_zero])
  · obtain ⟨x, hx⟩ : ∃ x, l[i] = x := ⟨_, rfl⟩
    have hfl : (fill eReply [eI 0, .nil] l i).length = l.length := fill_len (by omega)
    have hfg : ∀ h', (fill eReply [eI 0, .nil] l i)[i]'h' = [eI 0, .nil] := fun h' => fill_get hi h'
    have hfs : (fill eReply [eI 0, .nil] l i).set i (eReply x) = fill eReply [eI 0, .nil] l (i + 1) := hx ▸ fill_set hi
    have hr : x.ids.length ≤ 16777216 := hl.2 x (hx ▸ List.getElem_mem hi)
    refine w_seq ?_
    refine w_seq ?_
    refine w_reg ?_
    refine k_op (by simp [hl1, hi, hx, hfl, hfg] <;> rfl) ?_
    refine k_op (by simp [hl1, hi, hx, hfl, hfg] <;> rfl) ?_
    refine k_op (by simp [hl1, hi, hx, hfl, hfg] <;> rfl) ?_
    refine k_op (by simp [hl1, hi, hx, hfl, hfg] <;> rfl) ?_
    refine k_op (by simp [hl1, hi, hx, hfl, hfg] <;> rfl) ?_
    refine k_nil ?_
    refine w_st (by simp [hl1, hi, hx, hfl, hfg] <;> rfl) ?_
    refine w_true (by simp [hi, hx, hfl, hfg]) ?_
    refine w_skip ?_
    refine w_seq ?_
    refine w_block ?_
    refine w_reg ?_
    refine k_op (by simp [hl1, hi, hx, hfl, hfg] <;> rfl) ?_
    refine k_op (by simp [hl1, hi, hx, hfl, hfg] <;> rfl) ?_
    refine k_op (by simp [hl1, hi, hx, hfl, hfg] <;> rfl) ?_
    refine k_op (by simp [hl1, hi, hx, hfl, hfg] <;> rfl) ?_
    refine k_op (by simp [hl1, hi, hx, hfl, hfg] <;> rfl) ?_
    refine k_op (by simp [hl1, hi, hx, hfl, hfg] <;> rfl) ?_
    refine k_op (by simp [hl1, hi, hx, hfl, hfg] <;> rfl) ?_
    apply k_call (by simp [hl1, hi, hx, hfl, hfg] <;> rfl) (by simp [hl1, hi, hx, hfl, hfg] <;> rfl)
    · exact run_laws_toReply hr
    · simp [hl1, hi, hx, hfl, hfg] <;> rfl
    refine k_op (by simp [hl1, hi, hx, hfl, hfg] <;> rfl) ?_
    refine k_op (by simp [hl1, hi, hx, hfl, hfg] <;> rfl) ?_
    refine k_op (by simp [hl1, hi, hx, hfl, hfg] <;> rfl) ?_
    refine k_nil ?_
    refine w_st (by simp [hl1, hi, hx, hfl, hfg] <;> rfl) ?_
    refine w_reg ?_
    refine k_op (by simp [hl1, hi, hx, hfl, hfg] <;> rfl) ?_
    refine k_op (by simp [hl1, hi, hx, hfl, hfg] <;> rfl) ?_
    refine k_op (by simp [hl1, hi, hx, hfl, hfg] <;> rfl) ?_
    refine k_op (by simp [hl1, hi, hx, hfl, hfg] <;> rfl) ?_
    refine k_op (by simp [hl1, hi, hx, hfl, hfg] <;> rfl) ?_
    refine k_nil ?_
    simp [wrap_s hl2 hi, hfs]
  · refine w_seq ?_
    refine w_seq ?_
    refine w_reg ?_
    refine k_op (by simp [hl1, fill_len] <;> rfl) ?_
    refine k_op (by simp [hl1, fill_len] <;> rfl) ?_
    refine k_op (by simp [hl1, fill_len] <;> rfl) ?_
    refine k_op (by simp [hl1, fill_len] <;> rfl) ?_
    refine k_op (by simp [hl1, fill_len] <;> rfl) ?_
    refine k_nil ?_
    refine w_st (by simp [hl1, fill_len] <;> rfl) ?_
    refine w_false (by simp [fill_len]) ?_
    refine w_exit ?_
    refine x_here ?_
    refine w_seq ?_
    refine w_reg ?_
    refine k_op (by simp [hl1, fill_len] <;> rfl) ?_
    refine k_op (by simp [hl1, fill_len] <;> rfl) ?_
    refine k_nil ?_
    refine w_ret ?_
    simp [fill_end]

theorem run_laws_eqIntS {l : List Int} (hl : l.length < 9223372036854775808) : Runs x_laws_eqIntS [.v .one [.sl 1 (l.map eN)], .v .one [.sl 1 (l.map eN)]] .one [.bool true] [] := by
  refine Runs.mk (by simp <;> rfl) ?_ (by simp)
  refine w_seq ?_
  refine w_reg ?_
  refine k_op (by simp <;> rfl) ?_
  refine k_nil ?_
  refine w_seq ?_
  refine w_seq ?_
  refine w_st (by simp <;> rfl) ?_
  refine w_reg ?_
  refine k_op (by simp <;> rfl) ?_
  refine k_op (by simp <;> rfl) ?_
  refine k_op (by simp <;> rfl) ?_
  refine k_op (by simp <;> rfl) ?_
  refine k_op (by simp <;> rfl) ?_
  refine k_op (by simp <;> rfl) ?_
  refine k_op (by simp <;> rfl) ?_
  refine k_nil ?_
  refine w_st (by simp <;> rfl) ?_
  refine w_false (by simp ) ?_
  refine w_skip ?_
  refine w_seq ?_
  refine w_seq ?_
  refine w_reg ?_
  refine k_op (by simp <;> rfl) ?_
  refine k_nil ?_
  refine w_st (by simp <;> rfl) ?_
  refine w_block ?_
  refine w_count (fun i => ⟨[(0, ⟨.one, [.vw (.old 0) 1 (l.map eN)]⟩), (1, ⟨.one, [.vw (.old 1) 1 (l.map eN)]⟩), (5, ⟨.one, [.t (eI i)]⟩)], [], []⟩) l.length (fun i hi => ?_) ?_ (by simp)
  · obtain ⟨x, hx⟩ : ∃ x, l[i] = x := ⟨_, rfl⟩
    refine w_seq ?_
    refine w_seq ?_
    refine w_reg ?_
    refine k_op (by simp [hi, hx] <;> rfl) ?_
    refine k_op (by simp [hi, hx] <;> rfl) ?_
    refine k_op (by simp [hi, hx] <;> rfl) ?_
    refine k_op (by simp [hi, hx] <;> rfl) ?_
    refine k_op (by simp [hi, hx] <;> rfl) ?_
    refine k_nil ?_
    refine w_st (by simp [hi, hx] <;> rfl) ?_
    refine w_true (by simp [hi, hx]) ?_
    refine w_skip ?_
    refine w_seq ?_
    refine w_block ?_
    refine w_seq ?_
    refine w_dreg ?_
    refine r_op (by simp) (by simp [hi, hx] <;> rfl) ?_
    refine r_op (by simp) (by simp [hi, hx] <;> rfl) ?_
    refine r_op (by simp) (by simp [hi, hx] <;> rfl) ?_
    refine r_op (by simp) (by simp [hi, hx] <;> rfl) ?_
    refine r_dr (by simp [hi, hx] <;> rfl) ?_
    refine r_op (by simp) (by simp [hi, hx] <;> rfl) ?_
    refine r_op (by simp) (by simp [hi, hx] <;> rfl) ?_
    refine r_op (by simp) (by simp [hi, hx] <;> rfl) ?_
    refine r_op (by simp) (by simp [hi, hx] <;> rfl) ?_
    refine r_dr (by simp [hi, hx] <;> rfl) ?_
    refine r_op (by simp) (by simp [hi, hx] <;> rfl) ?_
    refine r_nil ?_
    refine w_st (by simp [hi, hx] <;> rfl) ?_
    refine w_false (by simp [hi, hx] ) ?_
    refine w_skip ?_
    refine w_reg ?_
    refine k_op (by simp [hi, hx] <;> rfl) ?_
    refine k_op (by simp [hi, hx] <;> rfl) ?_
    refine k_op (by simp [hi, hx] <;> rfl) ?_
    refine k_op (by simp [hi, hx] <;> rfl) ?_
    refine k_op (by simp [hi, hx] <;> rfl) ?_
    refine k_nil ?_
    simp [wrap_s hl hi]
  · refine w_seq ?_
    refine w_seq ?_
    refine w_reg ?_
    refine k_op (by simp <;> rfl) ?_
    refine k_op (by simp <;> rfl) ?_
    refine k_op (by simp <;> rfl) ?_
    refine k_op (by simp <;> rfl) ?_
    refine k_op (by simp <;> rfl) ?_
    refine k_nil ?_
    refine w_st (by simp <;> rfl) ?_
    refine w_false (by simp) ?_
    refine w_exit ?_
    refine x_here ?_
    refine w_seq ?_
    refine w_reg ?_
    refine k_op (by simp <;> rfl) ?_
    refine k_nil ?_
    refine w_ret ?_
    simp

theorem run_laws_eqReply {r : Reply} (hl : r.ids.length < 9223372036854775808) : Runs x_laws_eqReply [.v .agg (eReply r), .v .agg (eReply r)] .one [.bool true] [] := by
  refine Runs.mk (by simp <;> rfl) ?_ (by simp)
  refine w_seq ?_
  refine w_reg ?_
  refine k_op (by simp <;> rfl) ?_
  refine k_op (by simp <;> rfl) ?_
  refine k_op (by simp <;> rfl) ?_
  refine k_op (by simp <;> rfl) ?_
  refine k_op (by simp <;> rfl) ?_
  refine k_nil ?_
  refine w_seq ?_
  refine w_seq ?_
  refine w_st (by simp <;> rfl) ?_
  refine w_reg ?_
  refine k_op (by simp <;> rfl) ?_
  refine k_op (by simp <;> rfl) ?_
  refine k_op (by simp <;> rfl) ?_
  refine k_op (by simp <;> rfl) ?_
  refine k_op (by simp <;> rfl) ?_
  refine k_op (by simp <;> rfl) ?_
  refine k_op (by simp <;> rfl) ?_
  refine k_nil ?_
  refine w_st (by simp <;> rfl) ?_
  refine w_false (by simp ) ?_
  refine w_skip ?_
  refine w_seq ?_
  refine w_seq ?_
  refine w_reg ?_
  refine k_op (by simp <;> rfl) ?_
  refine k_op (by simp <;> rfl) ?_
  refine k_op (by simp <;> rfl) ?_
  refine k_op (by simp <;> rfl) ?_
  refine k_op (by simp <;> rfl) ?_
  refine k_op (by simp <;> rfl) ?_
  apply k_call (by simp <;> rfl) (by simp <;> rfl)
  · exact run_laws_eqIntS hl
  · simp <;> rfl
  refine k_op (by simp <;> rfl) ?_
  refine k_op (by simp <;> rfl) ?_
  refine k_nil ?_
  refine w_st (by simp <;> rfl) ?_
  refine w_false (by simp ) ?_
  refine w_skip ?_
  refine w_seq ?_
  refine w_reg ?_
  refine k_op (by simp <;> rfl) ?_
  refine k_nil ?_
  refine w_ret ?_
  simp

theorem run_laws_eqReplyS {l : List Reply} (hl : l.length < 9223372036854775808 ∧ ∀ r ∈ l, r.ids.length < 9223372036854775808) : Runs x_laws_eqReplyS [.v .one [.sl 2 (l.map eReply)], .v .one [.sl 2 (l.map eReply)]] .one [.bool true] [] := by
  refine Runs.mk (by simp <;> rfl) ?_ (by simp)
  refine w_seq ?_
  refine w_reg ?_
  refine k_op (by simp <;> rfl) ?_
  refine k_nil ?_
  refine w_seq ?_
  refine w_seq ?_
  refine w_st (by simp <;> rfl) ?_
  refine w_reg ?_
  refine k_op (by simp <;> rfl) ?_
  refine k_op (by simp <;> rfl) ?_
  refine k_op (by simp <;> rfl) ?_
  refine k_op (by simp <;> rfl) ?_
  refine k_op (by simp <;> rfl) ?_
  refine k_op (by simp <;> rfl) ?_
  refine k_op (by simp <;> rfl) ?_
  refine k_nil ?_
  refine w_st (by simp <;> rfl) ?_
  refine w_false (by simp ) ?_
  refine w_skip ?_
  refine w_seq ?_
  refine w_seq ?_
  refine w_reg ?_
  refine k_op (by simp <;> rfl) ?_
  refine k_nil ?_
  refine w_st (by simp <;> rfl) ?_
  refine w_block ?_
  refine w_count (fun i => ⟨[(0, ⟨.one, [.vw (.old 0) 2 (l.map eReply)]⟩), (1, ⟨.one, [.vw (.old 1) 2 (l.map eReply)]⟩), (5, ⟨.one, [.t (eI i)]⟩)], [], []⟩) l.length (fun i hi => ?_) ?_ (by simp)
  · obtain ⟨x, hx⟩ : ∃ x, l[i] = x := ⟨_, rfl⟩
    have hr : x.ids.length < 9223372036854775808 := hl.2 x (hx ▸ List.getElem_mem hi)
    refine w_seq ?_
    refine w_seq ?_
    refine w_reg ?_
    refine k_op (by simp [hi, hx] <;> rfl) ?_
    refine k_op (by simp [hi, hx] <;> rfl) ?_
    refine k_op (by simp [hi, hx] <;> rfl) ?_
    refine k_op (by simp [hi, hx] <;> rfl) ?_
    refine k_op (by simp [hi, hx] <;> rfl) ?_
    refine k_nil ?_
    refine w_st (by simp [hi, hx] <;> rfl) ?_
    refine w_true (by simp [hi, hx]) ?_
    refine w_skip ?_
    refine w_seq ?_
    refine w_block ?_
    refine w_seq ?_
    refine w_dreg ?_
    refine r_op (by simp) (by simp [hi, hx] <;> rfl) ?_
    refine r_op (by simp) (by simp [hi, hx] <;> rfl) ?_
    refine r_op (by simp) (by simp [hi, hx] <;> rfl) ?_
    refine r_op (by simp) (by simp [hi, hx] <;> rfl) ?_
    refine r_op (by simp) (by simp [hi, hx] <;> rfl) ?_
    refine r_op (by simp) (by simp [hi, hx] <;> rfl) ?_
    refine r_op (by simp) (by simp [hi, hx] <;> rfl) ?_
    refine r_op (by simp) (by simp [hi, hx] <;> rfl) ?_
    apply r_call (by simp) (by simp [hi, hx] <;> rfl) (by simp [hi, hx] <;> rfl)
    · exact run_laws_eqReply hr
    · simp [hi, hx] <;> rfl
    refine r_dr (by simp [hi, hx] <;> rfl) ?_
    refine r_op (by simp) (by simp [hi, hx] <;> rfl) ?_
    refine r_nil ?_
    refine w_st (by simp [hi, hx] <;> rfl) ?_
    refine w_false (by simp [hi, hx] ) ?_
    refine w_skip ?_
    refine w_reg ?_
    refine k_op (by simp [hi, hx] <;> rfl) ?_
    refine k_op (by simp [hi, hx] <;> rfl) ?_
    refine k_op (by simp [hi, hx] <;> rfl) ?_
    refine k_op (by simp [hi, hx] <;> rfl) ?_
    refine k_op (by simp [hi, hx] <;> rfl) ?_
    refine k_nil ?_
    simp [wrap_s hl.1 hi]
  · refine w_seq ?_
    refine w_seq ?_
    refine w_reg ?_
    refine k_op (by simp <;> rfl) ?_
    refine k_op (by simp <;> rfl) ?_
    refine k_op (by simp <;> rfl) ?_
    refine k_op (by simp <;> rfl) ?_
    refine k_op (by simp <;> rfl) ?_
    refine k_nil ?_
    refine w_st (by simp <;> rfl) ?_
    refine w_false (by simp) ?_
    refine w_exit ?_
    refine x_here ?_
    refine w_seq ?_
    refine w_reg ?_
    refine k_op (by simp <;> rfl) ?_
    refine k_nil ?_
    refine w_ret ?_
    simp

theorem run_spec_OffersTo {rs : List Reply} {id : Int} (hl : rs.length < 9223372036854775808 ∧ ∀ r ∈ rs, r.ids.length < 9223372036854775808) : Runs x_spec_OffersTo [.v .one [eReplies rs], .v .one [eI id]] .one [eI (offersL id rs 0)] [] := by
  refine Runs.mk (by simp <;> rfl) ?_ (by simp)
  refine w_seq ?_
  refine w_reg ?_
  refine k_op (by simp <;> rfl) ?_
  refine k_nil ?_
  refine w_seq ?_
  refine w_st (by simp <;> rfl) ?_
  refine w_reg ?_
  refine k_op (by simp <;> rfl) ?_
  refine k_nil ?_
  refine w_seq ?_
  refine w_seq ?_
  refine w_st (by simp <;> rfl) ?_
  refine w_reg ?_
  refine k_op (by simp <;> rfl) ?_
  refine k_nil ?_
  refine w_st (by simp <;> rfl) ?_
  refine w_block ?_
  refine w_loop (α := Nat × Int) (fun x => ⟨[(0, ⟨.one, [.vw (.old 0) 2 (rs.map eReply)]⟩), (1, ⟨.one, [.t (eI id)]⟩), (5, ⟨.one, [.t (eI x.2)]⟩), (6, ⟨.one, [.t (eI x.1)]⟩)], [], []⟩) (fun x => x.1 ≤ rs.length ∧ offersL id (rs.drop x.1) x.2 = offersL id rs 0) (fun x => rs.length - x.1) (fun x hx => ?_) (0, 0) ⟨by omega, by simp⟩ (by simp)
  obtain ⟨i, n⟩ := x
  obtain ⟨hx1, hx2⟩ := hx
  simp only at hx1 hx2
  refine w_seq ?_
  refine w_seq ?_
  refine w_reg ?_
  refine k_op (by simp <;> rfl) ?_
  refine k_op (by simp <;> rfl) ?_
  refine k_op (by simp <;> rfl) ?_
  refine k_op (by simp <;> rfl) ?_
  refine k_op (by simp <;> rfl) ?_
  refine k_nil ?_
  refine w_st (by simp <;> rfl) ?_
  refine w_dec (by simp <;> rfl) (fun h1 => ?_) (fun h1 => ?_)
  · have h1 : i < rs.length := by simpa using h1
    obtain ⟨r, hr⟩ : ∃ r, rs[i] = r := ⟨_, rfl⟩
    have hd : rs.drop i = r :: rs.drop (i + 1) := drop_cons (by simp [h1, hr])
    have hl2 : r.ids.length < 9223372036854775808 := hl.2 r (hr ▸ List.getElem_mem h1)
    rw [hd, offersL] at hx2
    refine w_skip ?_
    refine w_seq ?_
    refine w_block ?_
    refine w_seq ?_
    refine w_reg ?_
    refine k_op (by simp [h1, hr] <;> rfl) ?_
    refine k_nil ?_
    refine w_st (by simp [h1, hr] <;> rfl) ?_
    refine w_block ?_
    refine w_loop (α := Nat × Int) (fun x => ⟨[(0, ⟨.one, [.vw (.old 0) 2 (rs.map eReply)]⟩), (1, ⟨.one, [.t (eI id)]⟩), (5, ⟨.one, [.t (eI x.2)]⟩), (6, ⟨.one, [.t (eI i)]⟩), (7, ⟨.one, [.t (eI x.1)]⟩)], [], []⟩) (fun x => x.1 ≤ r.ids.length ∧ cntL id (r.ids.drop x.1) x.2 = cntL id r.ids n) (fun x => r.ids.length - x.1) (fun x hx => ?_) (0, n) ⟨by omega, by simp⟩ (by simp)
    obtain ⟨k, m⟩ := x
    obtain ⟨hz1, hz2⟩ := hx
    simp only at hz1 hz2
    refine w_seq ?_
    refine w_seq ?_
    refine w_reg ?_
    refine k_op (by simp [h1, hr] <;> rfl) ?_
    refine k_op (by simp [h1, hr] <;> rfl) ?_
    refine k_op (by simp [h1, hr] <;> rfl) ?_
    refine k_op (by simp [h1, hr] <;> rfl) ?_
    refine k_op (by simp [h1, hr] <;> rfl) ?_
    refine k_op (by simp [h1, hr] <;> rfl) ?_
    refine k_op (by simp [h1, hr] <;> rfl) ?_
    refine k_op (by simp [h1, hr] <;> rfl) ?_
    refine k_op (by simp [h1, hr] <;> rfl) ?_
    refine k_op (by simp [h1, hr] <;> rfl) ?_
    refine k_op (by simp [h1, hr] <;> rfl) ?_
    refine k_nil ?_
    refine w_st (by simp [h1, hr] <;> rfl) ?_
    refine w_dec (by simp [h1, hr] <;> rfl) (fun h2 => ?_) (fun h2 => ?_)
    · have h2 : k < r.ids.length := by simpa using h2
      obtain ⟨y, hy⟩ : ∃ y, r.ids[k] = y := ⟨_, rfl⟩
      have hd2 : r.ids.drop k = y :: r.ids.drop (k + 1) := drop_cons (by simp [h2, hy])
      rw [hd2, cntL] at hz2
      refine w_skip ?_
      refine w_seq ?_
      refine w_block ?_
      refine w_seq ?_
      refine w_reg ?_
      refine k_op (by simp [h1, hr, h2, hy] <;> rfl) ?_
      refine k_op (by simp [h1, hr, h2, hy] <;> rfl) ?_
      refine k_op (by simp [h1, hr, h2, hy] <;> rfl) ?_
      refine k_op (by simp [h1, hr, h2, hy] <;> rfl) ?_
      refine k_op (by simp [h1, hr, h2, hy] <;> rfl) ?_
      refine k_op (by simp [h1, hr, h2, hy] <;> rfl) ?_
      refine k_op (by simp [h1, hr, h2, hy] <;> rfl) ?_
      refine k_op (by simp [h1, hr, h2, hy] <;> rfl) ?_
      refine k_op (by simp [h1, hr, h2, hy] <;> rfl) ?_
      refine k_op (by simp [h1, hr, h2, hy] <;> rfl) ?_
      refine k_op (by simp [h1, hr, h2, hy] <;> rfl) ?_
      refine k_op (by simp [h1, hr, h2, hy] <;> rfl) ?_
      refine k_op (by simp [h1, hr, h2, hy] <;> rfl) ?_
      refine k_nil ?_
      refine w_st (by simp [h1, hr, h2, hy] <;> rfl) ?_
      refine w_cond (by simp [h1, hr, h2, hy] <;> rfl) (fun h3 => ?_) (fun h3 => ?_)
      · rw [if_pos (by simpa using h3)] at hz2
        refine w_reg ?_
        refine k_op (by simp [h1, hr, h2, hy] <;> rfl) ?_
        refine k_op (by simp [h1, hr, h2, hy] <;> rfl) ?_
        refine k_op (by simp [h1, hr, h2, hy] <;> rfl) ?_
        refine k_op (by simp [h1, hr, h2, hy] <;> rfl) ?_
        refine k_op (by simp [h1, hr, h2, hy] <;> rfl) ?_
        refine k_nil ?_
        refine w_st (by simp [h1, hr, h2, hy] <;> rfl) ?_
        refine w_reg ?_
        refine k_op (by simp [h1, hr, h2, hy] <;> rfl) ?_
        refine k_op (by simp [h1, hr, h2, hy] <;> rfl) ?_
        refine k_op (by simp [h1, hr, h2, hy] <;> rfl) ?_
        refine k_op (by simp [h1, hr, h2, hy] <;> rfl) ?_
        refine k_op (by simp [h1, hr, h2, hy] <;> rfl) ?_
        refine k_nil ?_
        first
          | exact ⟨(k + 1, w64 (m + 1)), by simp [wrap_s hl2 h2], ⟨by simp; omega, hz2⟩, by simp; omega⟩
          | exact ⟨(k + 1, m), by simp [wrap_s hl2 h2], ⟨by simp; omega, hz2⟩, by simp; omega⟩
      · rw [if_neg (by simpa using h3)] at hz2
        refine w_skip ?_
        refine w_reg ?_
        refine k_op (by simp [h1, hr, h2, hy] <;> rfl) ?_
        refine k_op (by simp [h1, hr, h2, hy] <;> rfl) ?_
        refine k_op (by simp [h1, hr, h2, hy] <;> rfl) ?_
        refine k_op (by simp [h1, hr, h2, hy] <;> rfl) ?_
        refine k_op (by simp [h1, hr, h2, hy] <;> rfl) ?_
        refine k_nil ?_
        first
          | exact ⟨(k + 1, w64 (m + 1)), by simp [wrap_s hl2 h2], ⟨by simp; omega, hz2⟩, by simp; omega⟩
          | exact ⟨(k + 1, m), by simp [wrap_s hl2 h2], ⟨by simp; omega, hz2⟩, by simp; omega⟩
    · obtain rfl : k = r.ids.length := by simp at h2; omega
      refine w_exit ?_
      refine x_here ?_
      refine w_reg ?_
      refine k_op (by simp [h1, hr] <;> rfl) ?_
      refine k_op (by simp [h1, hr] <;> rfl) ?_
      refine k_op (by simp [h1, hr] <;> rfl) ?_
      refine k_op (by simp [h1, hr] <;> rfl) ?_
      refine k_op (by simp [h1, hr] <;> rfl) ?_
      refine k_nil ?_
      refine ⟨(i + 1, m), by simp [wrap_s hl.1 h1], ⟨by simp; omega, by rw [← hx2, ← hz2]; simp [cntL]⟩, by simp; omega⟩
  · obtain rfl : i = rs.length := by simp at h1; omega
    refine w_exit ?_
    refine x_here ?_
    refine w_seq ?_
    refine w_reg ?_
    refine k_op (by simp <;> rfl) ?_
    refine k_op (by simp <;> rfl) ?_
    refine k_op (by simp <;> rfl) ?_
    refine k_nil ?_
    refine w_ret ?_
    simp at hx2
    simp [← hx2, offersL]

theorem run_impl_OffersTo {rs : List Reply} {id : Int} (hl : rs.length < 9223372036854775808 ∧ ∀ r ∈ rs, r.ids.length < 9223372036854775808) : Runs x_impl_OffersTo [.v .one [eReplies rs], .v .one [eI id]] .one [eI (offersL id rs 0)] [] := by
  refine Runs.mk (by simp <;> rfl) ?_ (by simp)
  refine w_seq ?_
  refine w_reg ?_
  refine k_op (by simp <;> rfl) ?_
  refine k_nil ?_
  refine w_seq ?_
  refine w_st (by simp <;> rfl) ?_
  refine w_reg ?_
  refine k_op (by simp <;> rfl) ?_
  refine k_nil ?_
  refine w_seq ?_
  refine w_seq ?_
  refine w_st (by simp <;> rfl) ?_
  refine w_reg ?_
  refine k_op (by simp <;> rfl) ?_
  refine k_op (by simp <;> rfl) ?_
  refine k_op (by simp <;> rfl) ?_
  refine k_nil ?_
  refine w_st (by simp <;> rfl) ?_
  refine w_block ?_
  refine w_loop (α := Nat × Int) (fun x => ⟨[(0, ⟨.one, [.vw (.old 0) 2 (rs.map eReply)]⟩), (1, ⟨.one, [.t (eI id)]⟩), (5, ⟨.one, [.t (eI x.2)]⟩), (10, ⟨.one, [.vw (.old 0) 2 (rs.map eReply)]⟩), (11, ⟨.one, [.t (eI rs.length)]⟩), (12, ⟨.one, [.t (eI x.1)]⟩)], [], []⟩) (fun x => x.1 ≤ rs.length ∧ offersL id (rs.drop x.1) x.2 = offersL id rs 0) (fun x => rs.length - x.1) (fun x hx => ?_) (0, 0) ⟨by omega, by simp⟩ (by simp)
  obtain ⟨i, n⟩ := x
  obtain ⟨hx1, hx2⟩ := hx
  simp only at hx1 hx2
  refine w_seq ?_
  refine w_reg ?_
  refine k_op (by simp <;> rfl) ?_
  refine k_nil ?_
  refine w_seq ?_
  refine w_st (by simp <;> rfl) ?_
  refine w_dec (by simp <;> rfl) (fun h1 => ?_) (fun h1 => ?_)
  · have h1 : i < rs.length := by simpa using h1
    obtain ⟨r, hr⟩ : ∃ r, rs[i] = r := ⟨_, rfl⟩
    have hd : rs.drop i = r :: rs.drop (i + 1) := drop_cons (by simp [h1, hr])
    have hl2 : r.ids.length < 9223372036854775808 := hl.2 r (hr ▸ List.getElem_mem h1)
    rw [hd, offersL] at hx2
    refine w_skip ?_
    refine w_seq ?_
    refine w_block ?_
    refine w_seq ?_
    refine w_reg ?_
    refine k_op (by simp [h1, hr] <;> rfl) ?_
    refine k_op (by simp [h1, hr] <;> rfl) ?_
    refine k_op (by simp [h1, hr] <;> rfl) ?_
    refine k_op (by simp [h1, hr] <;> rfl) ?_
    refine k_op (by simp [h1, hr] <;> rfl) ?_
    refine k_nil ?_
    refine w_seq ?_
    refine w_st (by simp [h1, hr] <;> rfl) ?_
    refine w_reg ?_
    refine k_op (by simp [h1, hr] <;> rfl) ?_
    refine k_op (by simp [h1, hr] <;> rfl) ?_
    refine k_op (by simp [h1, hr] <;> rfl) ?_
    refine k_op (by simp [h1, hr] <;> rfl) ?_
    refine k_op (by simp [h1, hr] <;> rfl) ?_
    refine k_nil ?_
    refine w_st (by simp [h1, hr] <;> rfl) ?_
    refine w_block ?_
    refine w_loop (α := Nat × Int) (fun x => ⟨[(0, ⟨.one, [.vw (.old 0) 2 (rs.map eReply)]⟩), (1, ⟨.one, [.t (eI id)]⟩), (5, ⟨.one, [.t (eI x.2)]⟩), (7, ⟨.one, [.bp 7 0]⟩), (10, ⟨.one, [.vw (.old 0) 2 (rs.map eReply)]⟩), (11, ⟨.one, [.t (eI rs.length)]⟩), (12, ⟨.one, [.t (eI i)]⟩), (17, ⟨.one, [.vw (.old 0) 1 (r.ids.map eN)]⟩), (18, ⟨.one, [.t (eI r.ids.length)]⟩), (19, ⟨.one, [.t (eI x.1)]⟩)], [(7, [.t (eI r.code), .vw (.old 0) 1 (r.ids.map eN)])], []⟩) (fun x => x.1 ≤ r.ids.length ∧ cntL id (r.ids.drop x.1) x.2 = cntL id r.ids n) (fun x => r.ids.length - x.1) (fun x hx => ?_) (0, n) ⟨by omega, by simp⟩ (by simp)
    obtain ⟨k, m⟩ := x
    obtain ⟨hz1, hz2⟩ := hx
    simp only at hz1 hz2
    refine w_seq ?_
    refine w_reg ?_
    refine k_op (by simp [h1, hr] <;> rfl) ?_
    refine k_nil ?_
    refine w_seq ?_
    refine w_st (by simp [h1, hr] <;> rfl) ?_
    refine w_dec (by simp [h1, hr] <;> rfl) (fun h2 => ?_) (fun h2 => ?_)
    · have h2 : k < r.ids.length := by simpa using h2
      obtain ⟨y, hy⟩ : ∃ y, r.ids[k] = y := ⟨_, rfl⟩
      have hd2 : r.ids.drop k = y :: r.ids.drop (k + 1) := drop_cons (by simp [h2, hy])
      rw [hd2, cntL] at hz2
      refine w_skip ?_
      refine w_seq ?_
      refine w_block ?_
      refine w_seq ?_
      refine w_reg ?_
      refine k_op (by simp [h1, hr, h2, hy] <;> rfl) ?_
      refine k_op (by simp [h1, hr, h2, hy] <;> rfl) ?_
      refine k_op (by simp [h1, hr, h2, hy] <;> rfl) ?_
      refine k_op (by simp [h1, hr, h2, hy] <;> rfl) ?_
      refine k_nil ?_
      refine w_seq ?_
      refine w_st (by simp [h1, hr, h2, hy] <;> rfl) ?_
      refine w_reg ?_
      refine k_op (by simp [h1, hr, h2, hy] <;> rfl) ?_
      refine k_op (by simp [h1, hr, h2, hy] <;> rfl) ?_
      refine k_op (by simp [h1, hr, h2, hy] <;> rfl) ?_
      refine k_op (by simp [h1, hr, h2, hy] <;> rfl) ?_
      refine k_nil ?_
      refine w_st (by simp [h1, hr, h2, hy] <;> rfl) ?_
      refine w_cond (by simp [h1, hr, h2, hy] <;> rfl) (fun h3 => ?_) (fun h3 => ?_)
      · rw [if_pos (by simpa using h3)] at hz2
        refine w_reg ?_
        refine k_op (by simp [h1, hr, h2, hy] <;> rfl) ?_
        refine k_op (by simp [h1, hr, h2, hy] <;> rfl) ?_
        refine k_op (by simp [h1, hr, h2, hy] <;> rfl) ?_
        refine k_op (by simp [h1, hr, h2, hy] <;> rfl) ?_
        refine k_op (by simp [h1, hr, h2, hy] <;> rfl) ?_
        refine k_nil ?_
        refine w_st (by simp [h1, hr, h2, hy] <;> rfl) ?_
        refine w_reg ?_
        refine k_op (by simp [h1, hr, h2, hy] <;> rfl) ?_
        refine k_op (by simp [h1, hr, h2, hy] <;> rfl) ?_
        refine k_op (by simp [h1, hr, h2, hy] <;> rfl) ?_
        refine k_nil ?_
        first
          | exact ⟨(k + 1, w64 (m + 1)), by simp [wrap_s hl2 h2], ⟨by simp; omega, hz2⟩, by simp; omega⟩
          | exact ⟨(k + 1, m), by simp [wrap_s hl2 h2], ⟨by simp; omega, hz2⟩, by simp; omega⟩
      · rw [if_neg (by simpa using h3)] at hz2
        refine w_skip ?_
        refine w_reg ?_
        refine k_op (by simp [h1, hr, h2, hy] <;> rfl) ?_
        refine k_op (by simp [h1, hr, h2, hy] <;> rfl) ?_
        refine k_op (by simp [h1, hr, h2, hy] <;> rfl) ?_
        refine k_nil ?_
        first
          | exact ⟨(k + 1, w64 (m + 1)), by simp [wrap_s hl2 h2], ⟨by simp; omega, hz2⟩, by simp; omega⟩
          | exact ⟨(k + 1, m), by simp [wrap_s hl2 h2], ⟨by simp; omega, hz2⟩, by simp; omega⟩
    · obtain rfl : k = r.ids.length := by simp at h2; omega
      refine w_exit ?_
      refine x_here ?_
      refine w_reg ?_
      refine k_op (by simp [h1, hr] <;> rfl) ?_
      refine k_op (by simp [h1, hr] <;> rfl) ?_
      refine k_nil ?_
      refine ⟨(i + 1, m), by simp [wrap_s hl.1 h1], ⟨by simp; omega, by rw [← hx2, ← hz2]; simp [cntL]⟩, by simp; omega⟩
  · obtain rfl : i = rs.length := by simp at h1; omega
    refine w_exit ?_
    refine x_here ?_
    refine w_seq ?_
    refine w_reg ?_
    refine k_op (by simp <;> rfl) ?_
    refine k_op (by simp <;> rfl) ?_
    refine k_op (by simp <;> rfl) ?_
    refine k_nil ?_
    refine w_ret ?_
    simp at hx2
    simp [← hx2, offersL]

theorem run_laws_FnExactOffersTo {rs : List Reply} {id : Int} (hl : rs.length < 9223372036854775808 ∧ ∀ r ∈ rs, r.ids.length < 9223372036854775808) : Runs x_laws_FnExactOffersTo [.v .one [eReplies rs], .v .one [eI id]] .one [.bool true] [] := by
  refine Runs.mk (by simp <;> rfl) ?_ (by simp)
  refine w_seq ?_
  refine w_reg ?_
  refine k_op (by simp <;> rfl) ?_
  refine k_nil ?_
  refine w_seq ?_
  refine w_st (by simp <;> rfl) ?_
  refine w_reg ?_
  refine k_op (by simp <;> rfl) ?_
  refine k_nil ?_
  refine w_seq ?_
  refine w_st (by simp <;> rfl) ?_
  refine w_reg ?_
  refine k_op (by simp <;> rfl) ?_
  refine k_op (by simp <;> rfl) ?_
  refine k_op (by simp <;> rfl) ?_
  apply k_call (by simp <;> rfl) (by simp <;> rfl)
  · exact run_laws_szReplyS hl.1
  · simp <;> rfl
  refine k_op (by simp <;> rfl) ?_
  refine k_op (by simp <;> rfl) ?_
  refine k_nil ?_
  refine w_seq ?_
  refine w_seq ?_
  refine w_st (by simp <;> rfl) ?_
  refine w_reg ?_
  refine k_op (by simp <;> rfl) ?_
  refine k_op (by simp <;> rfl) ?_
  refine k_op (by simp <;> rfl) ?_
  refine k_nil ?_
  refine w_st (by simp <;> rfl) ?_
  refine w_dec (by simp <;> rfl) (fun h1 => ?_) (fun h1 => ?_)
  · refine w_seq ?_
    refine w_reg ?_
    refine k_op (by simp <;> rfl) ?_
    refine k_nil ?_
    refine w_ret ?_
    simp
  · have hs := szReplyS_small hl h1
    refine w_skip ?_
    refine w_seq ?_
    refine w_reg ?_
    refine k_op (by simp <;> rfl) ?_
    apply k_call (by simp <;> rfl) (by simp <;> rfl)
    · exact run_laws_toReplyS hs
    · simp <;> rfl
    refine k_op (by simp <;> rfl) ?_
    refine k_op (by simp <;> rfl) ?_
    apply k_call (by simp <;> rfl) (by simp <;> rfl)
    · exact run_spec_OffersTo hl
    · simp <;> rfl
    refine k_op (by simp <;> rfl) ?_
    refine k_op (by simp <;> rfl) ?_
    refine k_nil ?_
    refine w_seq ?_
    refine w_st (by simp <;> rfl) ?_
    refine w_reg ?_
    refine k_op (by simp <;> rfl) ?_
    apply k_call (by simp <;> rfl) (by simp <;> rfl)
    · exact run_laws_toReplyS hs
    · simp <;> rfl
    refine k_op (by simp <;> rfl) ?_
    refine k_op (by simp <;> rfl) ?_
    refine k_nil ?_
    refine w_seq ?_
    refine w_st (by simp <;> rfl) ?_
    refine w_reg ?_
    refine k_op (by simp <;> rfl) ?_
    refine k_op (by simp <;> rfl) ?_
    refine k_op (by simp <;> rfl) ?_
    apply k_call (by simp <;> rfl) (by simp <;> rfl)
    · exact run_impl_OffersTo hl
    · simp <;> rfl
    refine k_op (by simp <;> rfl) ?_
    refine k_op (by simp <;> rfl) ?_
    refine k_nil ?_
    refine w_seq ?_
    refine w_seq ?_
    refine w_st (by simp <;> rfl) ?_
    refine w_reg ?_
    refine k_op (by simp <;> rfl) ?_
    refine k_op (by simp <;> rfl) ?_
    refine k_op (by simp <;> rfl) ?_
    refine k_op (by simp <;> rfl) ?_
    refine k_op (by simp <;> rfl) ?_
    refine k_nil ?_
    refine w_st (by simp <;> rfl) ?_
    refine w_false (by simp ) ?_
    refine w_skip ?_
    refine w_seq ?_
    refine w_seq ?_
    refine w_reg ?_
    refine k_op (by simp <;> rfl) ?_
    refine k_op (by simp <;> rfl) ?_
    apply k_call (by simp <;> rfl) (by simp <;> rfl)
    · exact run_laws_toReplyS hs
    · simp <;> rfl
    refine k_op (by simp <;> rfl) ?_
    apply k_call (by simp <;> rfl) (by simp <;> rfl)
    · exact run_laws_eqReplyS hl
    · simp <;> rfl
    refine k_op (by simp <;> rfl) ?_
    refine k_op (by simp <;> rfl) ?_
    refine k_nil ?_
    refine w_st (by simp <;> rfl) ?_
    refine w_false (by simp ) ?_
    refine w_skip ?_
    refine w_seq ?_
    refine w_reg ?_
    refine k_op (by simp <;> rfl) ?_
    refine k_nil ?_
    refine w_ret ?_
    simp

end Lv
