/-
  A function's body begins: the first state is right.
-/
import Derived.Test.YtifcpnfmfagidaaGreatLvD
import Derived.Laws.ResultCell
import Derived.Test.YtifcpnfmfagidaaGreatLvA
import Derived.ProofKit
import Derived.OpenShut
set_option linter.unusedVariables false
set_option linter.unusedSimpArgs false
namespace Lv
open Go
def EntAt (s : Nat) (md : Md) (V : V) (e : Ent) : Prop :=
 match md, V with
 | .v, .v sh cs => e = ⟨sh, cs.map (leafV s)⟩
 | .v, .f xf caps => ∃ ls, capL s caps = some ls ∧ e = ⟨.one, [.fn xf ls]⟩
 | .p, .p cs => e = ⟨.one, [.vp (.old s) cs]⟩
 | .b, .b _ => e = ⟨.one, [.bp s 0]⟩
 | .o, .o sh cs => e = ⟨sh, cs.map leafO⟩
 | .m, .m sh cs => e = ⟨sh, cs.map leafO⟩ ∧ shOk sh cs.length = true
 | _, _ => False
structure Start (i0 : Nat) (ms : List Md) (vs : List V) (S S' : St) : Prop where
 tm : ∀ s e, get S'.tm s = some e → get S.tm s = some e ∨ ∃ (j : Nat) (md : Md) (V : V), s = i0 + j ∧ ms[j]? = some md ∧ vs[j]? = some V ∧ EntAt s md V e
 bx : ∀ id ls, get S'.bx id = some ls → get S.bx id = some ls ∨ ∃ (j : Nat) (cs : List T), id = i0 + j ∧ ms[j]? = some .b ∧ vs[j]? = some (.b cs) ∧ ls = cs.map (leafV id)
 pin : ∀ p ∈ S'.pin, p ∈ S.pin ∨ ∃ j : Nat, p = i0 + j ∧ (ms[j]? = some .b ∨ ms[j]? = some .m)
 m : ∀ (j : Nat), ms[j]? = some .m → ∃ sh cs, vs[j]? = some (.m sh cs) ∧ shOk sh cs.length = true
theorem Start.step {i0 : Nat} {md : Md} {ms : List Md} {V0 : V} {vs : List V} {S S1 S' : St} (h : Start (i0 + 1) ms vs S1 S')
 (ht : ∀ s e, get S1.tm s = some e → get S.tm s = some e ∨ (s = i0 ∧ EntAt s md V0 e))
 (hb : ∀ id ls, get S1.bx id = some ls → get S.bx id = some ls ∨ ∃ cs, id = i0 ∧ md = .b ∧ V0 = .b cs ∧ ls = cs.map (leafV id))
 (hp : ∀ p ∈ S1.pin, p ∈ S.pin ∨ (p = i0 ∧ (md = .b ∨ md = .m))) (hm : md = .m → ∃ sh cs, V0 = .m sh cs ∧ shOk sh cs.length = true) : Start i0 (md :: ms) (V0 :: vs) S S' where
 tm s e he := by
  rcases h.tm s e he with he | ⟨j, md', V', rfl, h1, h2, h3⟩
  ·rcases ht s e he with he | ⟨rfl, he⟩
   ·exact .inl he
   ·exact .inr ⟨0, md, V0, rfl, rfl, rfl, he⟩
  ·exact .inr ⟨j + 1, md', V', by omega, by simpa using h1, by simpa using h2, h3⟩
 bx id ls he := by
  rcases h.bx id ls he with he | ⟨j, cs, rfl, h1, h2, h3⟩
  ·rcases hb id ls he with he | ⟨cs, rfl, rfl, rfl, he⟩
   ·exact .inl he
   ·exact .inr ⟨0, cs, rfl, rfl, rfl, he⟩
  ·exact .inr ⟨j + 1, cs, by omega, by simpa using h1, by simpa using h2, h3⟩
 pin p he := by
  rcases h.pin p he with he | ⟨j, rfl, h1⟩
  ·rcases hp p he with he | ⟨rfl, he⟩
   ·exact .inl he
   ·exact .inr ⟨0, rfl, by rcases he with rfl | rfl <;> simp⟩
  ·exact .inr ⟨j + 1, by omega, by simpa using h1⟩
 m j hj := by
  cases j with
  | zero =>
   simp only [List.getElem?_cons_zero, Option.some.injEq] at hj
   obtain ⟨sh, cs, rfl, h⟩ := hm hj
   exact ⟨sh, cs, rfl, h⟩
  | succ j => exact h.m j (by simpa using hj)
theorem init_ok : ∀ (ms : List Md) (i : Nat) (vs : List V) (S S' : St), initK i ms vs S = some S' → Start i ms vs S S'
 | [], i, vs, S, S', h => by
  cases vs with
  | nil =>
   simp only [initK, Option.some.injEq] at h
   subst h
   exact ⟨fun _ _ h => .inl h, fun _ _ h => .inl h, fun _ h => .inl h, by simp⟩
  | cons => simp [initK] at h
 | md :: ms, i, vs, S, S', h => by
  cases vs with
  | nil => cases md <;> simp [initK] at h
  | cons V vs =>
   have key : ∀ {e : Ent}, EntAt i md V e → ∀ s e', get (put S.tm i e) s = some e' → get S.tm s = some e' ∨ (s = i ∧ EntAt s md V e') := by
    intro e he s e' h
    rw [get_put] at h
    split at h
    ·rename_i hs
     cases h
     subst hs
     exact .inr ⟨rfl, he⟩
    ·exact .inl h
   cases md with
   | v =>
    cases V with
    | v sh cs =>
     simp only [initK] at h
     have h' := init_ok ms _ vs _ S' h
     refine h'.step (md := .v) (key rfl) (fun _ _ h => .inl h) (fun _ h => .inl h) (fun h => by cases h)
    | f xf caps =>
     simp only [initK] at h
     split at h
     ·rename_i ls hls
      have h' := init_ok ms _ vs _ S' h
      refine h'.step (md := .v) (key ⟨ls, hls, rfl⟩) (fun _ _ h => .inl h) (fun _ h => .inl h) (fun h => by cases h)
     ·cases h
    | _ => simp [initK] at h
   | p =>
    cases V with
    | p cs =>
     simp only [initK] at h
     have h' := init_ok ms _ vs _ S' h
     refine h'.step (md := .p) (key rfl) (fun _ _ h => .inl h) (fun _ h => .inl h) (fun h => by cases h)
    | _ => simp [initK] at h
   | b =>
    cases V with
    | b cs =>
     simp only [initK] at h
     have h' := init_ok ms _ vs _ S' h
     refine h'.step (md := .b) (key rfl) ?_ ?_ (fun h => by cases h)
     ·intro id ls hb
      rw [get_put] at hb
      split at hb
      ·rename_i hs
       cases hb
       exact .inr ⟨cs, hs.symm ▸ rfl, rfl, rfl, by rw [hs]⟩
      ·exact .inl hb
     ·intro p hp
      rcases List.mem_cons.1 hp with rfl | hp
      ·exact .inr ⟨rfl, .inl rfl⟩
      ·exact .inl hp
    | _ => simp [initK] at h
   | o =>
    cases V with
    | o sh cs =>
     simp only [initK] at h
     have h' := init_ok ms _ vs _ S' h
     refine h'.step (md := .o) (key rfl) (fun _ _ h => .inl h) (fun _ h => .inl h) (fun h => by cases h)
    | _ => simp [initK] at h
   | m =>
    cases V with
    | m sh cs =>
     simp only [initK] at h
     split at h
     ·rename_i hsh
      have h' := init_ok ms _ vs _ S' h
      refine h'.step (md := .m) (key ⟨rfl, hsh⟩) (fun _ _ h => .inl h) ?_ (fun _ => ⟨sh, cs, rfl, hsh⟩)
      intro p hp
      rcases List.mem_cons.1 hp with rfl | hp
      ·exact .inr ⟨rfl, .inr rfl⟩
      ·exact .inl hp
     ·cases h
    | _ => simp [initK] at h
theorem capL_get {i : Nat} : ∀ {caps : List V} {ls : List Leaf}, capL i caps = some ls → ls.length = caps.length ∧ ∀ (c : Nat) l, ls[c]? = some l → (∃ x, caps[c]? = some (.v .one [x]) ∧ l = leafV i x) ∨ ∃ cs, caps[c]? = some (.p cs) ∧ l = .vp (.old i) cs
 | [], ls, h => by simp only [capL, Option.some.injEq] at h; subst h; simp
 | V :: vs, ls, h => by
  unfold capL at h
  split at h
  ·cases ‹V :: vs = []›
  ·rename_i x vs' heq
   cases heq
   rw [Option.map_eq_some_iff] at h
   obtain ⟨ls', h1, rfl⟩ := h
   obtain ⟨k1, k2⟩ := capL_get h1
   refine ⟨by simp [k1], fun c l hl => ?_⟩
   cases c with
   | zero => simp only [List.getElem?_cons_zero, Option.some.injEq] at hl; subst hl; exact .inl ⟨x, rfl, rfl⟩
   | succ c => simpa using k2 c l (by simpa using hl)
  ·rename_i cs vs' heq
   cases heq
   rw [Option.map_eq_some_iff] at h
   obtain ⟨ls', h1, rfl⟩ := h
   obtain ⟨k1, k2⟩ := capL_get h1
   refine ⟨by simp [k1], fun c l hl => ?_⟩
   cases c with
   | zero => simp only [List.getElem?_cons_zero, Option.some.injEq] at hl; subst hl; exact .inr ⟨cs, rfl, rfl⟩
   | succ c => simpa using k2 c l (by simpa using hl)
  ·cases h
section
variable {A : Nat → Nat → List Md → Prop} {P : Program} {w : World} {R : Nat → Blk} {G : Nat → Nat → Blk} {U : Nat → List Value} {ms : List Md} {vs : List V} {us : List Value}
def fix0 (h : ArgsOK A P w R G U ms vs us) (N : Nat) : Fix where
 P := P
 A := A
 R := R
 K b := b < w.heap.size ∧ ∀ i c, ¬ G i c b
 RK k b hb := ⟨h.rlt k b hb, fun i c => h.rg k i c b hb⟩
 w0 := w
 pv i := us.getD i undef
 β0 i := match us[i]? with | some (.pointer (some a)) => a.block | _ => 0
 N := N
def tv0 (ms : List Md) (vs : List V) (U : Nat → List Value) (us : List Value) (s : Nat) : List Value :=
 match ms[s]?, vs[s]? with
 | some .v, some (.v _ _) => U s
 | some .o, _ => U s
 | some .m, _ => U s
 | _, _ => [us.getD s undef]
def gh0 (h : ArgsOK A P w R G U ms vs us) (N : Nat) : Gh where
 β := (fix0 h N).β0
 tv := tv0 ms vs U us
 bv := U
 fp r b := match r with | .tmp s c => G s c b ∧ (ms[s]? = some .o ∨ ms[s]? = some .m) | .cell _ _ => False
def act0 (us : List Value) (N : Nat) : Act := { tmps := us.toArray ++ Array.replicate (N - us.toArray.size) undef, defers := [] }
theorem getD_some {α : Type} {xs : List α} {i : Nat} {x d : α} (h : xs[i]? = some x) : xs.getD i d = x := by simp [List.getD, h]
set_option maxHeartbeats 1000000 in
theorem inv0 (h : ArgsOK A P w R G U ms vs us) {N : Nat} (hN : ms.length ≤ N) {S0 : St} (hi : initK 0 ms vs ⟨[], [], []⟩ = some S0) : Inv (fix0 h N) S0 (gh0 h N) (act0 us N) w := by
 have hs := init_ok ms 0 vs _ S0 hi
 have htm : ∀ s e, get S0.tm s = some e → ∃ (md : Md) (V : V) (u : Value), ms[s]? = some md ∧ vs[s]? = some V ∧ us[s]? = some u ∧ EntAt s md V e ∧ ArgOK A P w (R s) (G s) (U s) md V u := by
  intro s e he
  rcases hs.tm s e he with he | ⟨j, md, V, rfl, h1, h2, h3⟩
  ·simp [get] at he
  ·rw [Nat.zero_add] at h3 ⊢
   have hj : j < us.length := by rw [h.len2]; exact (List.getElem?_eq_some_iff.1 h1).1
   exact ⟨md, V, us[j], h1, h2, by simp [hj], h3, h.arg j md V _ h1 h2 (by simp [hj])⟩
 have hbx : ∀ id ls, get S0.bx id = some ls → ∃ cs blk E, ms[id]? = some .b ∧ ls = cs.map (leafV id) ∧ us[id]? = some (.pointer (some ⟨blk, 0, none⟩)) ∧ w.heap[blk]? = some (.cells (U id).toArray E (0, 0)) ∧ Views w (R id) cs (U id) ∧ (∀ c b, G id c b ↔ c = 0 ∧ b = blk) ∧ (fix0 h N).β0 id = blk := by
  intro id ls he
  rcases hs.bx id ls he with he | ⟨j, cs, rfl, h1, h2, h3⟩
  ·simp [get] at he
  ·rw [Nat.zero_add] at h3 ⊢
   have hj : j < us.length := by rw [h.len2]; exact (List.getElem?_eq_some_iff.1 h1).1
   obtain ⟨blk, E, k1, k2, k3, k4⟩ := h.arg j _ _ us[j] h1 h2 (by simp [hj])
   have hu : us[j]? = some (.pointer (some ⟨blk, 0, none⟩)) := by rw [← k1]; simp [hj]
   exact ⟨cs, blk, E, h1, h3, hu, k2, k3, k4, by simp [fix0, hu]⟩
 have hbx' : ∀ id, (get S0.bx id).isSome → ms[id]? = some .b ∧ G id 0 ((fix0 h N).β0 id) := by
  intro id hid
  obtain ⟨ls, hls⟩ := Option.isSome_iff_exists.1 hid
  obtain ⟨cs, blk, E, h1, _, _, _, _, h2, h3⟩ := hbx id ls hls
  exact ⟨h1, (h2 _ _).2 ⟨rfl, h3⟩⟩
 have hvno : ∀ {s : Nat} {cs : List T} {c : Nat} {x : T}, (cs.map (leafV s))[c]? ≠ some (.ow x) := by
  intro s cs c x hx
  rw [List.getElem?_map, Option.map_eq_some_iff] at hx
  obtain ⟨y, _, hy⟩ := hx
  exact leafV_ow hy
 have hal : ∀ r, Alive S0 r → ∃ s c, r = .tmp s c ∧ (ms[s]? = some .o ∨ ms[s]? = some .m) := by
  rintro r ⟨x, hx⟩
  cases r with
  | tmp s c =>
   refine ⟨s, c, rfl, ?_⟩
   simp only [St.at] at hx
   split at hx
   ·rename_i e he
    obtain ⟨md, V, u, h1, h2, h3, h4, _⟩ := htm s e he
    unfold EntAt at h4
    split at h4
    ·subst h4; exact absurd hx hvno
    ·obtain ⟨ls, _, rfl⟩ := h4; cases c <;> simp at hx
    ·subst h4; cases c <;> simp at hx
    ·subst h4; cases c <;> simp at hx
    ·exact .inl h1
    ·exact .inr h1
    ·exact h4.elim
   ·cases hx
  | cell b c =>
   simp only [St.at] at hx
   split at hx
   ·rename_i ls hls
    obtain ⟨cs, blk, E, _, rfl, _⟩ := hbx b ls hls
    exact absurd hx hvno
   ·cases hx
 have hent : ∀ {s : Nat} {md : Md} {V : V} {u : Value} {e : Ent}, ms[s]? = some md → vs[s]? = some V → us[s]? = some u → EntAt s md V e → ArgOK A P w (R s) (G s) (U s) md V u →
  u = mkV e.sh (tv0 ms vs U us s) ∧ (tv0 ms vs U us s).length = e.cs.length ∧ ∀ (c : Nat) l, e.cs[c]? = some l → ∃ v, (tv0 ms vs U us s)[c]? = some v ∧ LeafOK (fix0 h N) S0 (gh0 h N) w ((gh0 h N).fp (.tmp s c)) l v := by
  intro s md V u e h1 h2 h3 h4 h5
  have hone : ∀ {l : Leaf}, (∀ fp, LeafOK (fix0 h N) S0 (gh0 h N) w fp l u) → tv0 ms vs U us s = [us.getD s undef] → e = ⟨.one, [l]⟩ →
   u = mkV e.sh (tv0 ms vs U us s) ∧ (tv0 ms vs U us s).length = e.cs.length ∧ ∀ (c : Nat) l, e.cs[c]? = some l → ∃ v, (tv0 ms vs U us s)[c]? = some v ∧ LeafOK (fix0 h N) S0 (gh0 h N) w ((gh0 h N).fp (.tmp s c)) l v := by
   intro l hl ht he
   subst he
   have hu : us.getD s undef = u := getD_some h3
   rw [ht, hu]
   refine ⟨rfl, rfl, ?_⟩
   intro c l' hl'
   cases c with
   | zero => simp only [List.getElem?_cons_zero, Option.some.injEq] at hl'; subst hl'; exact ⟨u, rfl, hl _⟩
   | succ c => simp at hl'
  unfold EntAt at h4
  split at h4
  ·rename_i sh cs
   subst h4
   obtain ⟨k1, k2, k3⟩ := h5
   have ht : tv0 ms vs U us s = U s := by simp only [tv0, h1, h2]
   rw [ht]
   refine ⟨k1, by simpa using k2.1, ?_⟩
   intro c l hl
   rw [List.getElem?_map, Option.map_eq_some_iff] at hl
   obtain ⟨y, hy, rfl⟩ := hl
   obtain ⟨z, hz, hV⟩ := k2.2 c y hy
   exact ⟨z, hz, leafV_ok hV⟩
  ·rename_i xf caps
   obtain ⟨ls, hls, rfl⟩ := h4
   obtain ⟨⟨n, cv, k1, k2, k3, k4⟩, _⟩ := h5
   obtain ⟨q1, q2⟩ := capL_get hls
   refine hone (l := .fn xf ls) ?_ (by simp only [tv0, h1, h2]) rfl
   intro fp
   refine ⟨n, cv, k1, k2, by rw [k3, q1], ?_⟩
   intro i l c hl hc
   rcases q2 i l hl with ⟨x, hx, rfl⟩ | ⟨cs, hx, rfl⟩
   ·have hV : View w (R s) x c := k4 i _ c hx hc
    have := leafV_ok (F := fix0 h N) (S := S0) (g := gh0 h N) (k := s) (fp := fun _ => False) hV
    cases x <;> exact this
   ·have hV : PtrV w (R s) cs c := k4 i _ c hx hc
    exact hV
  ·rename_i cs
   exact hone (l := .vp (.old s) cs) (fun fp => h5.1) (by simp only [tv0, h1, h2]) h4
  ·rename_i cs
   refine hone (l := .bp s 0) (fun fp => ?_) (by simp only [tv0, h1]) h4
   obtain ⟨blk, E, k1, _⟩ := h5
   subst k1
   show _ = _
   simp [gh0, fix0, h3]
  ·rename_i sh cs
   subst h4
   obtain ⟨k1, k2, k3⟩ := h5
   have ht : tv0 ms vs U us s = U s := by simp only [tv0, h1]
   rw [ht]
   refine ⟨k1, by simpa using k2.1, ?_⟩
   intro c l hl
   rw [List.getElem?_map, Option.map_eq_some_iff] at hl
   obtain ⟨y, hy, rfl⟩ := hl
   obtain ⟨z, hz, hO⟩ := k2.2 c y hy
   exact ⟨z, hz, leafO_ok (hO.congr fun b => ⟨fun hb => hb.1, fun hb => ⟨hb, .inl h1⟩⟩)⟩
  ·rename_i sh cs
   obtain ⟨h4, _⟩ := h4
   subst h4
   obtain ⟨k1, k2, k3⟩ := h5
   have ht : tv0 ms vs U us s = U s := by simp only [tv0, h1]
   rw [ht]
   refine ⟨k1, by simpa using k2.1, ?_⟩
   intro c l hl
   rw [List.getElem?_map, Option.map_eq_some_iff] at hl
   obtain ⟨y, hy, rfl⟩ := hl
   obtain ⟨z, hz, hO⟩ := k2.2 c y hy
   exact ⟨z, hz, leafO_ok (hO.congr fun b => ⟨fun hb => hb.1, fun hb => ⟨hb, .inr h1⟩⟩)⟩
  ·exact h4.elim
 have hget : ∀ {s : Nat} {u : Value}, us[s]? = some u → (act0 us N).tmps.getD s undef = u := by
  intro s u hu
  have hl : s < us.length := (List.getElem?_eq_some_iff.1 hu).1
  simp only [act0, Array.getD_eq_getD_getElem?]
  rw [Array.getElem?_append_left (by simpa using hl)]
  simp [hu]
 refine ⟨?_, ?_, ?_, ?_, ?_, ?_, ?_, ?_, fun b hb => rfl, fun b hb => hb.1, .refl, rfl, ?_, ?_⟩
 ·intro r l hl
  cases r with
  | tmp s c =>
   simp only [St.at] at hl
   split at hl
   ·rename_i e he
    obtain ⟨md, V, u, h1, h2, h3, h4, h5⟩ := htm s e he
    exact (hent h1 h2 h3 h4 h5).2.2 c l hl
   ·cases hl
  | cell b c =>
   simp only [St.at] at hl
   split at hl
   ·rename_i ls hls
    obtain ⟨cs, blk, E, _, rfl, _, _, hv, _⟩ := hbx b ls hls
    rw [List.getElem?_map, Option.map_eq_some_iff] at hl
    obtain ⟨y, hy, rfl⟩ := hl
    obtain ⟨z, hz, hV⟩ := hv.2 c y hy
    exact ⟨z, hz, leafV_ok hV⟩
   ·cases hl
 ·intro s e he
  obtain ⟨md, V, u, h1, h2, h3, h4, h5⟩ := htm s e he
  refine ⟨Nat.lt_of_lt_of_le (List.getElem?_eq_some_iff.1 h1).1 hN, ?_⟩
  rw [hget h3]
  have := hent h1 h2 h3 h4 h5
  exact ⟨this.1, this.2.1⟩
 ·intro id ls hls
  obtain ⟨cs, blk, E, _, rfl, _, h1, hv, _, h2⟩ := hbx id ls hls
  exact ⟨⟨E, by rw [show (gh0 h N).β id = blk from h2]; exact h1⟩, by simpa [gh0] using hv.1⟩
 ·intro r r' hr hr' hne b hf hf'
  obtain ⟨s, c, rfl, _⟩ := hal r hr
  obtain ⟨s', c', rfl, _⟩ := hal r' hr'
  refine h.gg s c s' c' b hf.1 ?_ hf'.1
  by_cases hs : s = s'
  ·subst hs; exact .inr fun hc => hne (by rw [hc])
  ·exact .inl hs
 ·intro r id hr hid hf
  obtain ⟨s, c, rfl, hm⟩ := hal r hr
  obtain ⟨h1, h2⟩ := hbx' id hid
  refine h.gg s c id 0 _ hf.1 (.inl ?_) h2
  rintro rfl
  rw [h1] at hm
  rcases hm with hm | hm <;> cases hm
 ·intro r hr b hf hk
  obtain ⟨s, c, rfl, hm⟩ := hal r hr
  exact hk.2 s c hf.1
 ·intro id id' hid hid' heq
  obtain ⟨h1, h2⟩ := hbx' id hid
  obtain ⟨h1', h2'⟩ := hbx' id' hid'
  refine Classical.byContradiction fun hne => h.gg id 0 id' 0 _ h2 (.inl hne) ?_
  rw [show (fix0 h N).β0 id = (fix0 h N).β0 id' from heq]
  exact h2'
 ·intro id hid hk
  obtain ⟨h1, h2⟩ := hbx' id hid
  exact hk.2 id 0 h2
 ·have := h.len2
  simp [act0, fix0]; omega
 ·intro p hp
  rcases hs.pin p hp with hp | ⟨j, rfl, hj⟩
  ·cases hp
  ·have hl : j < us.length := by rw [h.len2]; rcases hj with hj | hj <;> exact (List.getElem?_eq_some_iff.1 hj).1
   rw [Nat.zero_add]
   refine ⟨?_, fun _ => rfl⟩
   have hu : us[j]? = some us[j] := by simp [hl]
   rw [hget hu]
   simp [fix0, hl]
end
end Lv
/-
 A function's body ends: its results.
-/
namespace Lv
open Go
section
variable {F : Fix} {S S' : St} {g g' : Gh} {a : Act} {w w' : World} {P : Program}
def resF (tmps : Array Value) : ResultVar → Sem Value
 | .tmp t => pure (tmps.getD t undef)
 | .cell a t => do loadVar t (← asAddr (tmps.getD a undef))
theorem results_list {fn : Func} {tmps : Array Value} {vs : List Value} (h : (fn.results.toList.mapM (resF tmps)).run P w = .ok vs w) :
 (results fn tmps).run P w = .ok (if h : vs.toArray.size = 1 then vs.toArray[0] else .tuple vs.toArray) w := by
 have h2 : (fn.results.mapM (resF tmps)).run P w = .ok vs.toArray w := by
  have : fn.results = fn.results.toList.toArray := by simp
  rw [this, List.mapM_toArray]
  simp [h, Result.andThen, go_sem]
 show ((fn.results.mapM (resF tmps)) >>= fun vs => pure (if h : vs.size = 1 then vs[0] else .tuple vs)).run P w = _
 rw [Sem.run_bind, h2]
 rfl
theorem run_cons {rv : ResultVar} {rvs : List ResultVar} {tmps : Array Value} {v : Value} {vs : List Value} (h1 : (resF tmps rv).run P w = .ok v w) (h2 : (rvs.mapM (resF tmps)).run P w = .ok vs w) :
 ((rv :: rvs).mapM (resF tmps)).run P w = .ok (v :: vs) w := by
 simp [List.mapM_cons, Sem.run_bind, Result.andThen, h1, h2, go_sem]
theorem run_var_one {t : TypeId} {b o : Nat} {d : TypeDesc} {v : Value} (hu : P.underlying t = some d) (hd : ∀ fs, d ≠ .struct fs) (hd' : ∀ n e, d ≠ .array n e) (hc : w.cell? ⟨b, o, none⟩ = some v) :
 (loadVar t ⟨b, o, none⟩).run P w = .ok v w := by
 simp [loadVar, isAgg, run_underlying hu, go_sem]
 cases d <;> simp_all [go_sem]
theorem run_var_agg {t : TypeId} {b o : Nat} {fs : Array Field} {i : TypeInfo} {vs : List Value} (hu : P.underlying t = some (.struct fs)) (hi : P.info? t = some i) (hl : vs.length = i.size)
 (hc : ∀ (j : Nat) v, vs[j]? = some v → w.cell? ⟨b, o + j, none⟩ = some v) :
 (loadVar t ⟨b, o, none⟩).run P w = .ok (.agg vs.toArray) w := by
 have h := run_loadCells_list (P := P) (w := w) ⟨b, o, none⟩ vs (by
  intro j v hj
  have := hc j v hj
  unfold Addr.add
  split
  ·subst_vars; simpa using this
  ·exact this)
 simp [loadVar, isAgg, run_underlying hu, run_size hi, ← hl, h, go_sem]
 unfold loadCells at h
 simp [h, go_sem]
theorem load_no {n : Nat} {p : Leaf} {ls : List Leaf} (h : S.load n p = some ls) : ∀ x, Leaf.ow x ∉ ls := by
 have hin : ∀ s y x, leafIn s y ≠ .ow x := by intro s y x; cases y <;> simp [leafIn]
 have hB : ∀ (b : Nat) (cs : List Leaf) (o : Nat) x, Leaf.ow x ∉ aliB b o cs := by
  intro b cs
  induction cs with
  | nil => simp [aliB]
  | cons l cs ih => intro o x hx; rw [aliB_cons] at hx; rcases List.mem_cons.1 hx with hx | hx; (cases l <;> simp [aliC] at hx); exact ih _ x hx
 have hA : ∀ (r : Root) (i : Nat) (cs : List T) (j : Nat) x, Leaf.ow x ∉ leafAt r i j cs := by
  intro r i cs
  induction cs with
  | nil => simp [leafAt]
  | cons l cs ih => intro j x hx; rcases List.mem_cons.1 hx with hx | hx; (exact hin _ _ _ hx.symm); exact ih _ x hx
 intro x hx
 unfold St.load at h
 split at h
 ·split at h
  ·split at h
   ·cases h; exact hB _ _ _ _ hx
   ·cases h
  ·cases h
 ·split at h
  ·split at h
   ·split at h
    ·cases h; exact hA _ _ _ _ _ hx
    ·cases h
   ·cases h
  ·cases h
 ·split at h
  ·cases h
   obtain ⟨y, _, hy⟩ := List.mem_map.1 hx
   exact hin _ _ _ hy
  ·cases h
 ·cases h
theorem resL_ok (h : Inv F S g a w) : ∀ (rs : List XRes) (rvs : List ResultVar) (ns : List (Option Nat)) (ls : List Leaf), resOk F.P rvs rs = true → resL rs S = some (ns, ls) →
 ∃ us : List Value, (rvs.mapM (resF a.tmps)).run F.P w = .ok (mkTup ns us) w ∧ us.length = ls.length ∧ us.length = sumW ns ∧ (∀ x, Leaf.ow x ∉ ls) ∧
  ∀ (c : Nat) l, ls[c]? = some l → ∃ u, us[c]? = some u ∧ LeafOK F S g w (fun _ => False) l u
 | [], rvs, ns, ls, hok, hr => by
  simp only [resL, Option.some.injEq, Prod.mk.injEq] at hr
  obtain ⟨rfl, rfl⟩ := hr
  cases rvs with
  | nil => exact ⟨[], by simp [mkTup, go_sem], rfl, rfl, by simp, by simp⟩
  | cons rv _ => cases rv <;> simp [resOk] at hok
 | .bx _ :: _, _, _, _, _, hr => by simp [resL] at hr
 | .vw _ _ :: _, _, _, _, _, hr => by simp [resL] at hr
 | .tmp t :: rs, rvs, ns, ls, hok, hr => by
  cases rvs with
  | nil => simp [resOk] at hok
  | cons rv rvs =>
   cases rv with
   | cell => simp [resOk] at hok
   | tmp t' =>
    simp only [resOk, Bool.and_eq_true, beq_iff_eq] at hok
    obtain ⟨rfl, hok⟩ := hok
    simp only [resL] at hr
    split at hr
    ·rename_i e ns' ls' he hrs
     split at hr
     ·rename_i hsh
      simp only [Option.some.injEq, Prod.mk.injEq] at hr
      obtain ⟨rfl, rfl⟩ := hr
      obtain ⟨us, h1, h2, h3, h4, h5⟩ := resL_ok h rs rvs ns' ls' hok hrs
      obtain ⟨vs, k1, k2, k3, k4⟩ := rd_ok (o := .tmp t') h he (by simp [opdOk]) (fun p hp => by simp [opdCal] at hp)
      have hv : a.tmps.getD t' undef = mkV e.sh vs := by simpa [Act.eval] using k1
      have happ : ∀ (c : Nat) l, (e.cs ++ ls')[c]? = some l → ∃ u, (vs ++ us)[c]? = some u ∧ LeafOK F S g w (fun _ => False) l u := by
       intro c l hl
       rcases Nat.lt_or_ge c e.cs.length with hc | hc
       ·rw [List.getElem?_append_left hc] at hl
        rw [List.getElem?_append_left (by omega)]
        exact k4 c l hl
       ·rw [List.getElem?_append_right hc] at hl
        rw [List.getElem?_append_right (by omega), k2]
        exact h5 _ l hl
      refine ⟨vs ++ us, ?_, by simp [h2, k2], ?_, fun x hx => (List.mem_append.1 hx).elim (k3 x) (h4 x), happ⟩
      ·have : (resF a.tmps (.tmp t')).run F.P w = .ok (mkV e.sh vs) w := by simp [resF, hv, go_sem]
       obtain ⟨sh, cs⟩ := e
       cases sh with
       | one =>
        simp only [shOk, beq_iff_eq] at hsh
        simp only at k2
        match vs, k2.trans hsh with
        | [v], _ => exact run_cons this h1
       | agg =>
        simp only at k2
        have h0 := run_cons this h1
        simpa only [mkTup, ← k2, List.take_left, List.drop_left, mkV] using h0
       | _ => simp [shOk] at hsh
      ·obtain ⟨sh, cs⟩ := e
       cases sh with
       | one => simp only [shOk, beq_iff_eq] at hsh; simp only at k2; simp [sumW, widthOf, k2, hsh, h3]
       | agg => simp only at k2; simp [sumW, widthOf, k2, h3]
       | _ => simp [shOk] at hsh
     ·cases hr
    ·cases hr
 | .cell t n :: rs, rvs, ns, ls, hok, hr => by
  cases rvs with
  | nil => simp [resOk] at hok
  | cons rv rvs =>
   cases rv with
   | tmp => simp [resOk] at hok
   | cell t' ty =>
    simp only [resOk, Bool.and_eq_true, beq_iff_eq] at hok
    obtain ⟨⟨rfl, hw⟩, hok⟩ := hok
    simp only [resL] at hr
    split at hr
    ·rename_i id o hone
     split at hr
     ·rename_i ls1 ns' ls' hld hrs
      simp only [Option.some.injEq, Prod.mk.injEq] at hr
      obtain ⟨rfl, rfl⟩ := hr
      obtain ⟨us, h1, h2, h3, h4, h5⟩ := resL_ok h rs rvs ns' ls' hok hrs
      obtain ⟨b, o', vs, k1, k2, k3, k4, k5⟩ := load_ok h (one_ok (o := .tmp t') h hone (by simp [opdOk]) (fun p hp => by simp [opdCal] at hp)).1 hld
      have hv : a.tmps.getD t' undef = .pointer (some ⟨b, o', none⟩) := by simpa [Act.eval] using k1
      have happ : ∀ (c : Nat) l, (ls1 ++ ls')[c]? = some l → ∃ u, (vs ++ us)[c]? = some u ∧ LeafOK F S g w (fun _ => False) l u := by
       intro c l hl
       rcases Nat.lt_or_ge c ls1.length with hc | hc
       ·rw [List.getElem?_append_left hc] at hl
        rw [List.getElem?_append_left (by omega)]
        exact k5.2.1 c l hl
       ·rw [List.getElem?_append_right hc] at hl
        rw [List.getElem?_append_right (by omega), k2, ← k3]
        exact h5 _ l hl
      refine ⟨vs ++ us, ?_, by simp [h2, k2, k3], by simp [sumW, h3, k2], fun x hx => (List.mem_append.1 hx).elim (load_no hld x) (h4 x), happ⟩
      have hrun : ∀ {u : Value}, (loadVar ty ⟨b, o', none⟩).run F.P w = .ok u w → (resF a.tmps (.cell t' ty)).run F.P w = .ok u w := by
       intro u hu
       show (asAddr (a.tmps.getD t' undef) >>= fun ad => loadVar ty ad).run F.P w = _
       rw [hv, Sem.run_bind]
       exact hu
      unfold widthOk at hw
      split at hw
      ·rename_i dsc i hu hi
       cases n with
       | some k =>
        simp only [Bool.and_eq_true, beq_iff_eq] at hw
        obtain ⟨hst, hk⟩ := hw
        obtain ⟨fs, rfl⟩ : ∃ fs, dsc = .struct fs := by cases dsc <;> simp [isStruct] at hst; exact ⟨_, rfl⟩
        have h0 := run_cons (hrun (run_var_agg hu hi (by simp [widthOf] at k2; omega) k4)) h1
        simp only [widthOf] at k2
        simpa only [mkTup, ← k2, List.take_left, List.drop_left] using h0
       | none =>
        simp only [Bool.and_eq_true, beq_iff_eq, Bool.not_eq_true'] at hw
        match vs, k2 with
        | [u], _ =>
         refine run_cons (hrun (run_var_one hu ?_ ?_ (by simpa using k4 0 u rfl))) h1
         ·rintro fs rfl; simp [isAggD] at hw
         ·rintro n e rfl; simp [isAggD] at hw
      ·cases hw
     ·cases hr
    ·cases hr
end
end Lv
/-
 A function's body ends: what it gives back.
-/
namespace Lv
open Go
section
variable {A : Nat → Nat → List Md → Prop} {P : Program} {w w' : World} {R : Nat → Blk} {G : Nat → Nat → Blk} {U : Nat → List Value} {ms : List Md} {vs : List V} {us : List Value}
theorem given (h : ArgsOK A P w R G U ms vs us) {i c b : Nat} (hg : G i c b) : ∃ md, ms[i]? = some md ∧ (md.takes = true ∨ md = .b ∧ us[i]? = some (.pointer (some ⟨b, 0, none⟩))) := by
 have hi := h.out i c b hg
 have hm : ms[i]? = some ms[i] := by simp [hi]
 have hv : vs[i]? = some (vs[i]'(by rw [h.len1]; exact hi)) := by simp [h.len1, hi]
 have hu : us[i]? = some (us[i]'(by rw [h.len2]; exact hi)) := by simp [h.len2, hi]
 refine ⟨_, hm, ?_⟩
 have harg := h.arg i _ _ _ hm hv hu
 unfold ArgOK at harg
 split at harg
 ·exact absurd hg (harg.2.2 c b)
 ·exact absurd hg (harg.2 c b)
 ·exact absurd hg (harg.2 c b)
 ·rename_i h1 _
  obtain ⟨blk, E, k1, k2, k3, k4⟩ := harg
  obtain ⟨_, rfl⟩ := (k4 c b).1 hg
  exact .inr ⟨h1, by rw [hu, k1]⟩
 ·rename_i h1 _; rw [h1]; exact .inl rfl
 ·rename_i h1 _; rw [h1]; exact .inl rfl
 ·exact harg.elim
theorem outs_pin {S : St} : ∀ (ms : List Md) (i : Nat) (outs : List (List T)), outsOf i ms S = some outs → ∀ j, ms[j]? = some .b → i + j ∈ S.pin ∧ (get S.bx (i + j)).isSome
 | [], _, _, _, j, hj => by simp at hj
 | md :: ms, i, outs, h, j, hj => by
  have hrest : ∃ os, outsOf (i + 1) ms S = some os := by
   cases md <;> simp only [outsOf] at h
   ·exact ⟨_, h⟩
   ·exact ⟨_, h⟩
   ·split at h
    ·rename_i os _ ho; exact ⟨_, ho⟩
    ·cases h
   ·exact ⟨_, h⟩
   ·split at h
    ·rename_i os _ ho; exact ⟨_, ho⟩
    ·cases h
  cases j with
  | zero =>
   simp only [List.getElem?_cons_zero, Option.some.injEq] at hj
   subst hj
   simp only [outsOf] at h
   split at h
   ·rename_i ls os hls _
    split at h
    ·rename_i hp; exact ⟨hp, by simp [hls]⟩
    ·cases h
   ·cases h
  | succ j =>
   obtain ⟨os, ho⟩ := hrest
   have := outs_pin ms (i + 1) os ho j (by simpa using hj)
   rwa [show i + 1 + j = i + (j + 1) by omega] at this
theorem owT_inv {l : Leaf} {x : T} (h : owT l = some x) : l = .ow x ∨ (l = .t x ∧ isTop x = false) := by
 cases l with
 | ow y => simp only [owT, Option.some.injEq] at h; subst h; exact .inl rfl
 | t y =>
  simp only [owT] at h
  split at h
  ·cases h
  ·rename_i hh; cases h; exact .inr ⟨rfl, by simpa using hh⟩
 | _ => simp [owT] at h
theorem owTs_get : ∀ {ls : List Leaf} {xs : List T}, owTs ls = some xs → xs.length = ls.length ∧ ∀ (c : Nat) x, xs[c]? = some x → ∃ l, ls[c]? = some l ∧ owT l = some x
 | [], xs, h => by simp only [owTs, Option.some.injEq] at h; subst h; simp
 | l :: ls, xs, h => by
  simp only [owTs] at h
  split at h
  ·rename_i x xs' h1 h2
   cases h
   obtain ⟨k1, k2⟩ := owTs_get h2
   refine ⟨by simp [k1], fun c y hy => ?_⟩
   cases c with
   | zero => simp only [List.getElem?_cons_zero, Option.some.injEq] at hy; subst hy; exact ⟨l, rfl, h1⟩
   | succ c => simpa using k2 c y (by simpa using hy)
  ·cases h
theorem mkV_eq {sh sh' : Sh} {xs ys : List Value} (h : mkV sh xs = mkV sh' ys) (h1 : shOk sh xs.length = true) (h2 : shOk sh' ys.length = true) (o1 : ∀ v ∈ xs, v.oneCell' = true) (o2 : ∀ v ∈ ys, v.oneCell' = true) : xs = ys := by
 cases sh with
 | one =>
  simp only [shOk, beq_iff_eq] at h1
  match xs, h1 with
  | [x], _ =>
   cases sh' with
   | one =>
    simp only [shOk, beq_iff_eq] at h2
    match ys, h2 with
    | [y], _ => simp only [mkV, List.headD_cons] at h; rw [h]
   | agg =>
    have := o1 x (by simp)
    simp only [mkV, List.headD_cons] at h
    subst h
    simp [Value.oneCell'] at this
   | _ => simp [shOk] at h2
 | agg =>
  cases sh' with
  | one =>
   simp only [shOk, beq_iff_eq] at h2
   match ys, h2 with
   | [y], _ =>
    have := o2 y (by simp)
    simp only [mkV, List.headD_cons] at h
    rw [← h] at this
    simp [Value.oneCell'] at this
  | agg =>
   simp only [mkV, Value.agg.injEq] at h
   simpa using congrArg Array.toList h
  | _ => simp [shOk] at h2
 | _ => simp [shOk] at h1
section close
variable (h : ArgsOK A P w R G U ms vs us) {N : Nat} {Z0 Zx : Blk} {w1 : World} {a : Act} {S : St} {g : Gh}
def dOf (ms : List Md) (S : St) (g : Gh) (D0 : Nat → Blk) (p c b : Nat) : Prop :=
 match p with
 | 0 => D0 c b
 | i + 1 => ms[i]? = some .m ∧ Alive S (.tmp i c) ∧ g.fp (.tmp i c) b
theorem outs_ok {D0 : Nat → Blk} (hm0 : ∀ (j : Nat), ms[j]? = some .m → ∃ sh cs, vs[j]? = some (.m sh cs) ∧ shOk sh cs.length = true) (hI : Inv ((fix0 h N).ext Z0 w1) S g a w') : ∀ (ms' : List Md) (vs' : List V) (i : Nat) (outs : List (List T)),
 (∀ (j : Nat) md, ms'[j]? = some md → ms[i + j]? = some md) → (∀ (j : Nat) V, vs'[j]? = some V → vs[i + j]? = some V) → outsOf i ms' S = some outs → outLen ms' vs' outs = true →
 OutsOK w' R (fun b => Z0 b ∨ Zx b) (dOf ms S g D0) U us i ms' outs
 | [], vs', i, outs, _, _, ho, _ => by simp only [outsOf, Option.some.injEq] at ho; exact ho.symm
 | md :: ms', vs', i, outs, hms, hvs, ho, hl => by
  have hmd : ms[i]? = some md := hms 0 md rfl
  have hi : i < us.length := by rw [h.len2]; exact (List.getElem?_eq_some_iff.1 hmd).1
  have hu : us[i]? = some us[i] := by simp [hi]
  have hms' : ∀ (j : Nat) md, ms'[j]? = some md → ms[i + 1 + j]? = some md := fun j md hj => by rw [show i + 1 + j = i + (j + 1) by omega]; exact hms (j + 1) md (by simpa using hj)
  have hvs' : ∀ {V0 : V} {vs0 : List V}, vs' = V0 :: vs0 → ∀ (j : Nat) V, vs0[j]? = some V → vs[i + 1 + j]? = some V := fun he j V hj => by subst he; rw [show i + 1 + j = i + (j + 1) by omega]; exact hvs (j + 1) V (by simpa using hj)
  cases md with
  | v => cases vs' with
   | nil => simp [outLen] at hl
   | cons V0 vs0 => exact outs_ok hm0 hI ms' vs0 (i + 1) outs hms' (hvs' rfl) (by simpa [outsOf] using ho) (by simpa [outLen] using hl)
  | p => cases vs' with
   | nil => simp [outLen] at hl
   | cons V0 vs0 => exact outs_ok hm0 hI ms' vs0 (i + 1) outs hms' (hvs' rfl) (by simpa [outsOf] using ho) (by simpa [outLen] using hl)
  | o => cases vs' with
   | nil => simp [outLen] at hl
   | cons V0 vs0 => exact outs_ok hm0 hI ms' vs0 (i + 1) outs hms' (hvs' rfl) (by simpa [outsOf] using ho) (by simpa [outLen] using hl)
  | b =>
   simp only [outsOf] at ho
   split at ho
   ·rename_i ls os hls hos
    split at ho
    ·rename_i hp
     rw [Option.map_eq_some_iff] at ho
     obtain ⟨o, hb, rfl⟩ := ho
     cases vs' with
     | nil => simp [outLen] at hl
     | cons V0 vs0 =>
      cases V0 with
      | b cs =>
       simp only [outLen, Bool.and_eq_true, beq_iff_eq] at hl
       obtain ⟨hlen, hl⟩ := hl
       have hV : vs[i]? = some (.b cs) := hvs 0 _ rfl
       obtain ⟨blk, E, k1, k2, k3, k4⟩ := h.arg i _ _ _ hmd hV hu
       obtain ⟨q1, q2, q3⟩ := bareTs_get hb
       obtain ⟨⟨E', hE'⟩, hbl⟩ := hI.bxs i ls hls
       have hβ : g.β i = blk := by
        have h1 := (hI.pin i hp).2 (by simp [hls])
        have h2 : ((fix0 h N).ext Z0 w1).β0 i = blk := by
         show (match us[i]? with | some (.pointer (some a)) => a.block | _ => 0) = blk
         rw [hu, k1]
        rw [h1, h2]
       rw [hβ] at hE'
       refine ⟨o, os, rfl, ⟨blk, g.bv i, E', by rw [hu, k1], hE', by rw [hbl, ← q1, hlen, k3.1], ⟨by rw [hbl, q1], ?_⟩⟩, outs_ok hm0 hI ms' vs0 (i + 1) os hms' (hvs' rfl) hos hl⟩
       intro c x hx
       obtain ⟨l, hl1, hl2⟩ := q2 c x hx
       obtain ⟨v, hv, hok⟩ := hI.at_ok (.cell i c) l (by simp [St.at, hls, hl1])
       refine ⟨v, hv, ?_⟩
       exact (bare_view hl2 hok).up fun b hb => hb.imp id .inl
      | _ => simp [outLen] at hl
    ·cases ho
   ·cases ho
  | m =>
   simp only [outsOf] at ho
   split at ho
   ·rename_i e os he hos
    split at ho
    ·rename_i hp
     obtain ⟨hp, hsh⟩ := hp
     rw [Option.map_eq_some_iff] at ho
     obtain ⟨o, hb, rfl⟩ := ho
     cases vs' with
     | nil => simp [outLen] at hl
     | cons V0 vs0 =>
      obtain ⟨q1, q2⟩ := owTs_get hb
      obtain ⟨sh, cs, hV, hsh0⟩ := hm0 i hmd
      obtain ⟨k1, k2, k3⟩ := h.arg i _ _ _ hmd hV hu
      obtain ⟨t1, t2, t3⟩ := hI.tms i e he
      have hcell : ∀ (c : Nat) x, o[c]? = some x → ∃ z, (g.tv i)[c]? = some z ∧ Own w' x z (dOf ms S g D0 (i + 1) c) := by
       intro c x hx
       obtain ⟨l, hl1, hl2⟩ := q2 c x hx
       have hat : S.at (.tmp i c) = some l := by simp [St.at, he, hl1]
       obtain ⟨z, hz, hok⟩ := hI.at_ok (.tmp i c) l hat
       refine ⟨z, hz, ?_⟩
       rcases owT_inv hl2 with rfl | ⟨rfl, htop⟩
       ·have hO : Own w' x z (g.fp (.tmp i c)) := hok
        exact hO.congr fun b => ⟨fun hb => hb.2.2, fun hb => ⟨hmd, ⟨x, hat⟩, hb⟩⟩
       ·have hS : Sc x z := hok
        refine .sc hS (hS.one htop) ?_
        rintro b ⟨_, ⟨y, hy⟩, _⟩
        rw [hat] at hy; cases hy
      have hUeq : g.tv i = U i := by
       refine mkV_eq (sh := e.sh) (sh' := sh) ?_ (by rw [t3]; exact hsh) (by rw [k2.1]; exact hsh0) ?_ ?_
       ·have h1 := (hI.pin i hp).1
        have h2 : ((fix0 h N).ext Z0 w1).pv i = us[i] := by simp [Fix.ext, fix0, hi]
        rw [← t2, h1, h2, k1]
       ·intro v hv
        obtain ⟨c, hc⟩ := List.mem_iff_getElem?.1 hv
        have hlt : c < o.length := by rw [q1, ← t3]; exact (List.getElem?_eq_some_iff.1 hc).1
        obtain ⟨z, hz, hO⟩ := hcell c o[c] (by simp [hlt])
        rw [hc] at hz; cases hz
        exact hO.one
       ·intro v hv
        obtain ⟨c, hc⟩ := List.mem_iff_getElem?.1 hv
        have hlt : c < cs.length := by rw [← k2.1]; exact (List.getElem?_eq_some_iff.1 hc).1
        obtain ⟨z, hz, hO⟩ := k2.2 c cs[c] (by simp [hlt])
        rw [hc] at hz; cases hz
        exact hO.one
      refine ⟨o, os, rfl, ⟨by rw [← hUeq, t3, q1], ?_⟩, outs_ok hm0 hI ms' vs0 (i + 1) os hms' (hvs' rfl) hos (by simpa [outLen] using hl)⟩
      rw [← hUeq]
      exact hcell
    ·cases ho
   ·cases ho
theorem spare_of {b : Nat} {outs : List (List T)} (hI : Inv ((fix0 h N).ext Z0 w1) S g a w') (ho : outsOf 0 ms S = some outs) (hk : ¬ (fix0 h N).K b) (hb : ∀ j : Nat, (get S.bx j).isSome → j ∈ S.pin → b ≠ g.β j) : Spare w ms G b := by
 classical
 rcases Nat.lt_or_ge b w.heap.size with hlt | hge
 ·have : ∃ i c, G i c b := by
   refine Classical.byContradiction fun hn => hk ⟨hlt, fun i c hg => hn ⟨i, c, hg⟩⟩
  obtain ⟨i, c, hg⟩ := this
  obtain ⟨md, hm, ht | ⟨rfl, hu⟩⟩ := given h hg
  ·exact .inr ⟨i, c, md, hm, ht, hg⟩
  ·obtain ⟨hp, hs⟩ := outs_pin ms 0 outs ho i hm
   rw [Nat.zero_add] at hp hs
   have h1 := (hI.pin i hp).2 hs
   have h2 : ((fix0 h N).ext Z0 w1).β0 i = b := by
    show (match us[i]? with | some (.pointer (some a)) => a.block | _ => 0) = b
    rw [hu]
   exact absurd (h2.symm.trans h1.symm) (hb i hs hp)
 ·exact .inl hge
theorem close_ok {D0 : Nat → Blk} {outs : List (List T)} {sh : Sh} {cs : List T} {v : Value} (hm0 : ∀ (j : Nat), ms[j]? = some .m → ∃ sh cs, vs[j]? = some (.m sh cs) ∧ shOk sh cs.length = true) (hI : Inv ((fix0 h N).ext Z0 w1) S g a w')
 (hw1 : ∀ b, (fix0 h N).K b → w1.heap[b]? = w.heap[b]?) (hw2 : Still w w1) (hZ : ∀ b, Z0 b → ¬ (fix0 h N).K b) (ho : outsOf 0 ms S = some outs) (hl : outLen ms vs outs = true)
 (hx : ∀ b, Zx b → Loose ((fix0 h N).ext Z0 w1) S g b ∧ b < w'.heap.size) (hD0 : ∀ c b, D0 c b → Loose ((fix0 h N).ext Z0 w1) S g b ∧ ¬ Zx b) (hD1 : ∀ c d b, D0 c b → c ≠ d → ¬ D0 d b)
 (hres : ResOK (Spare w ms G) w' R (fun b => Z0 b ∨ Zx b) (dOf ms S g D0) sh cs v) : Back w w' R G U ms us sh cs outs v (fun b => Z0 b ∨ Zx b) (dOf ms S g D0) where
 still := hw2.trans hI.still
 frame b hb hg := (hI.keep b (.inl ⟨hb, hg⟩)).trans (hw1 b ⟨hb, hg⟩)
 z b hb := by
  rcases hb with hb | hb
  ·have hK : ((fix0 h N).ext Z0 w1).K b := .inr hb
   exact ⟨spare_of h hI ho (hZ b hb) fun j hs _ he => hI.bxR j hs (he ▸ hK), Nat.lt_of_lt_of_le (hI.rlt b hK) hI.size⟩
  ·obtain ⟨hL, hlt⟩ := hx b hb
   exact ⟨spare_of h hI ho (fun hk => hL.1 (.inl hk)) fun j hs _ => hL.2.2 j hs, hlt⟩
 res := hres
 outs := outs_ok h hm0 hI ms vs 0 outs (fun j md hj => by rw [Nat.zero_add]; exact hj) (fun j md hj => by rw [Nat.zero_add]; exact hj) ho hl
 dd p c q d b hp hne hq := by
  cases p with
  | zero =>
   cases q with
   | zero => exact hD1 c d b hp (hne.elim (fun h => absurd rfl h) id) hq
   | succ q => exact (hD0 c b hp).1.2.1 _ hq.2.1 hq.2.2
  | succ p =>
   cases q with
   | zero => exact (hD0 d b hq).1.2.1 _ hp.2.1 hp.2.2
   | succ q =>
    refine hI.dis _ _ hp.2.1 hq.2.1 ?_ b hp.2.2 hq.2.2
    intro he
    cases he
    exact hne.elim (fun h => h rfl) (fun h => h rfl)
 dz p c b hp hz := by
  cases p with
  | zero =>
   obtain ⟨hL, hn⟩ := hD0 c b hp
   exact hz.elim (fun hz => hL.1 (.inr hz)) hn
  | succ p =>
   rcases hz with hz | hz
   ·exact hI.disR _ hp.2.1 b hp.2.2 (.inr hz)
   ·exact (hx b hz).1.2.1 _ hp.2.1 hp.2.2
 df p c b hp := by
  cases p with
  | zero =>
   obtain ⟨hL, _⟩ := hD0 c b hp
   exact spare_of h hI ho (fun hk => hL.1 (.inl hk)) fun j hs _ => hL.2.2 j hs
  | succ p => exact spare_of h hI ho (fun hk => hI.disR _ hp.2.1 b hp.2.2 (.inl hk)) fun j hs _ he => hI.disB _ j hp.2.1 hs (he ▸ hp.2.2)
theorem fin_ok {fn : Func} {rs : List XRes} {outs : List (List T)} {sh : Sh} {cs : List T} (hm0 : ∀ (j : Nat), ms[j]? = some .m → ∃ sh cs, vs[j]? = some (.m sh cs) ∧ shOk sh cs.length = true) (hI : Inv ((fix0 h N).ext Z0 w1) S g a w')
 (hw1 : ∀ b, (fix0 h N).K b → w1.heap[b]? = w.heap[b]?) (hw2 : Still w w1) (hZ : ∀ b, Z0 b → ¬ (fix0 h N).K b) (hl : outLen ms vs outs = true)
 (hr : resOk P fn.results.toList rs = true) (hf : fin ms rs S sh cs outs) : ∃ v Z D, (results fn a.tmps).run P w' = .ok v w' ∧ Back w w' R G U ms us sh cs outs v Z D := by
 obtain ⟨S2, hrs, ho⟩ := hf
 have htmp : ∀ {t : Nat} {l : Leaf}, S.one (.tmp t) = some l → LeafOK ((fix0 h N).ext Z0 w1) S g w' (fun _ => False) l (a.tmps.getD t undef) := by
  intro t l hone
  have := (one_ok (o := .tmp t) hI hone (by simp [opdOk]) (fun p hp => by simp [opdCal] at hp)).1
  simpa [Act.eval] using this
 have hrt : ∀ {t : Nat} {x : XRes}, (resOk P fn.results.toList [x] = true) → (x = .bx t ∨ ∃ k, x = .vw t k) → (results fn a.tmps).run P w' = .ok (a.tmps.getD t undef) w' := by
  intro t x hr hx
  have : fn.results = #[.tmp t] := by
   have hto : fn.results = fn.results.toList.toArray := by simp
   rw [hto]
   generalize fn.results.toList = rvs at hr
   cases rvs with
   | nil => rcases hx with rfl | ⟨k, rfl⟩ <;> simp [resOk] at hr
   | cons rv rvs =>
    cases rv with
    | cell => rcases hx with rfl | ⟨k, rfl⟩ <;> simp [resOk] at hr
    | tmp t' =>
     have : t' = t ∧ rvs = [] := by
      rcases hx with rfl | ⟨k, rfl⟩ <;> simp only [resOk, Bool.and_eq_true, beq_iff_eq] at hr <;> refine ⟨hr.1, ?_⟩ <;> (cases rvs with | nil => rfl | cons rv _ => cases rv <;> simp [resOk] at hr)
     obtain ⟨rfl, rfl⟩ := this
     rfl
  exact results_tmp this _ _ _
 unfold resS at hrs
 split at hrs
 ·
  rename_i t
  split at hrs
  ·rename_i id hone
   split at hrs
   ·rename_i ls hls
    split at hrs
    ·cases hrs
    ·rename_i hpin
     split at hrs
     ·rename_i cs' hb
      cases hrs
      have hv : a.tmps.getD t undef = .pointer (some ⟨g.β id, 0, none⟩) := htmp hone
      obtain ⟨⟨E, hE⟩, hbl⟩ := hI.bxs id ls hls
      obtain ⟨q1, q2, q3⟩ := bareTs_get hb
      have hsid : (get S.bx id).isSome := by simp [hls]
      refine ⟨_, _, _, hrt hr (.inl rfl), close_ok (Zx := fun _ => False) (D0 := fun _ _ => False) h hm0 hI hw1 hw2 hZ ho hl (fun _ hb => hb.elim) (fun _ _ hb => hb.elim) (fun _ _ _ hb => hb.elim) ?_⟩
      refine ⟨g.β id, g.bv id, E, hv, hE, ⟨by rw [hbl, q1], ?_⟩, ?_, ?_, ?_⟩
      ·intro c x hx
       obtain ⟨l, hl1, hl2⟩ := q2 c x hx
       obtain ⟨v, hv, hok⟩ := hI.at_ok (.cell id c) l (by simp [St.at, hls, hl1])
       exact ⟨v, hv, (bare_view hl2 hok).up fun b hb => hb.imp (fun h => h) .inl⟩
      ·refine spare_of h hI ho (fun hk => hI.bxR id hsid (.inl hk)) fun j hs hp he => ?_
       have := hI.bxinj id j hsid hs he
       subst this
       exact hpin hp
      ·rintro (hz | hz)
       ·exact hI.bxR id hsid (.inr hz)
       ·exact hz
      ·intro p c hd
       cases p with
       | zero => exact hd
       | succ p => exact hI.disB _ id hd.2.1 hsid hd.2.2
     ·cases hrs
   ·cases hrs
  ·cases hrs
 ·
  rename_i t k
  split at hrs
  ·rename_i k' e xs hone
   split at hrs
   ·rename_i hk
    cases hrs
    subst hk
    have hV : View w' (((fix0 h N).ext Z0 w1).R k') (.sl e xs) (a.tmps.getD t undef) := htmp hone
    refine ⟨_, _, _, hrt hr (.inr ⟨_, rfl⟩), close_ok (Zx := fun _ => False) (D0 := fun _ _ => False) h hm0 hI hw1 hw2 hZ ho hl (fun _ hb => hb.elim) (fun _ _ hb => hb.elim) (fun _ _ _ hb => hb.elim) ⟨_, rfl, hV.up fun b hb => hb.imp (fun h => h) .inl⟩⟩
   ·cases hrs
  ·rename_i hone
   cases hrs
   have hV : Sc .nil (a.tmps.getD t undef) := htmp hone
   exact ⟨_, _, _, hrt hr (.inr ⟨_, rfl⟩), close_ok (Zx := fun _ => False) (D0 := fun _ _ => False) h hm0 hI hw1 hw2 hZ ho hl (fun _ hb => hb.elim) (fun _ _ hb => hb.elim) (fun _ _ _ hb => hb.elim) ⟨_, rfl, .sc hV⟩⟩
  ·rename_i r sub hone
   split at hrs
   ·rename_i x hx
    cases hrs
    have hT := taken_out hI hx
    have hV := view_leaf hI (htmp hone) (x := subT sub x) (by simp [St.viewT, hx]) (fun y => by simp)
    obtain ⟨v0, _, hO⟩ := hI.at_ok r _ hx
    have hO : Own w' x v0 (g.fp r) := hO
    refine ⟨_, _, _, hrt hr (.inr ⟨_, rfl⟩), close_ok (Zx := g.fp r) (D0 := fun _ _ => False) h hm0 hT.inv hw1 hw2 hZ ho hl ?_ (fun _ _ hb => hb.elim) (fun _ _ _ hb => hb.elim) ⟨_, rfl, hV.up fun b hb => .inr (.inr hb.2)⟩⟩
    intro b hb
    refine ⟨⟨hI.disR r ⟨x, hx⟩ b hb, fun r' hr' hf => ?_, fun id hid he => hI.disB r id ⟨x, hx⟩ (hT.bx id hid) (he ▸ hb)⟩, hO.lt b hb⟩
    obtain ⟨hne, hal⟩ := out_alive hx hr'
    exact hI.dis r r' ⟨x, hx⟩ hal (Ne.symm hne) b hb hf
   ·cases hrs
  ·cases hrs
 ·
  split at hrs
  ·rename_i ns ls hL
   split at hrs
   ·rename_i S2' cs' how
    cases hrs
    obtain ⟨ru, k1, k2, k3, k4, k5⟩ := resL_ok hI rs fn.results.toList ns ls hr hL
    obtain ⟨g2, hT, nf, ⟨t1, t2, t3, t4, t5, t6⟩, _⟩ := ownK_ok hI k4 k2 (fun c l hl => by
     obtain ⟨u, hu, hok⟩ := k5 c l hl
     exact ⟨u, hu, fun _ _ _ => hok, fun _ => hok⟩) how
    refine ⟨_, _, _, results_list k1, close_ok (Zx := fun _ => False) (D0 := fun c b => c < cs.length ∧ nf c b) h hm0 hT.inv hw1 hw2 hZ ho hl (fun _ hb => hb.elim) ?_ ?_ ?_⟩
    ·rintro c b ⟨hc, hb⟩
     exact ⟨⟨t3 c b hc hb, fun r hr hf => t4 c r b hc hr hb hf, fun id hid he => t5 c id hc hid (he ▸ hb)⟩, fun h => h⟩
    ·rintro c d b ⟨hc, hb⟩ hne ⟨hd, hb'⟩
     exact t6 c d b hc hd hne hb hb'
    ·have hO : Owns w' (dOf ms S2 g2 (fun c b => c < cs.length ∧ nf c b) 0) cs ru := by
      refine ⟨t1, fun c x hx => ?_⟩
      obtain ⟨v, hv, ho⟩ := t2 c x hx
      have hc : c < cs.length := (List.getElem?_eq_some_iff.1 hx).1
      exact ⟨v, hv, ho.congr fun b => ⟨fun hb => hb.2, fun hb => ⟨hc, hb⟩⟩⟩
     unfold shOf
     split
     ·refine ⟨ru, ?_, hO⟩
      simp [mkTup, mkV]
     ·rename_i m
      simp only [sumW, widthOf, Nat.add_zero] at k3
      refine ⟨ru, ?_, hO⟩
      simp [mkTup, mkV, ← k3]
     ·rename_i hn1 hn2
      refine ⟨ru, ?_, hO⟩
      have hlen : (mkTup ns ru).length ≠ 1 := by
       have hl : ∀ (ns : List (Option Nat)) (xs : List Value), (mkTup ns xs).length = ns.length := by
        intro ns
        induction ns with
        | nil => intro xs; rfl
        | cons n ns ih => intro xs; cases n <;> simp [mkTup, ih]
       rw [hl]
       match ns, hn1, hn2 with
       | [], _, _ => simp
       | [none], hn1, _ => exact absurd rfl hn1
       | [some m], _, hn2 => exact absurd rfl (hn2 m)
       | _ :: _ :: _, _, _ => simp
      simp [hlen, mkV]
   ·cases hrs
  ·cases hrs
theorem body_ok {Rn : Rel} {A : Nat → Nat → List Md → Prop} {P : Program} (hA : Prims A P) (hRn : ∀ f vs sh cs outs, Rn f vs sh cs outs → Ct A P f vs sh cs outs) {f : XFunc} {vs : List V} {sh : Sh} {cs : List T} {outs : List (List T)}
 (hb : runBody Rn f vs sh cs outs) : Ct A P f vs sh cs outs := by
 intro n hmt w R G U us hargs
 cases hmt with
 | prim hp => exact hA.ct _ _ _ _ _ _ _ hp hb w R G U us hargs
 | mk h1 h2 h3 h4 =>
  rename_i fn c
  cases f with
  | prim => simp [funcOk] at h3
  | mk ms rs body =>
   simp only [funcOk, Bool.and_eq_true, beq_iff_eq, decide_eq_true_eq] at h3
   obtain ⟨⟨⟨q2, q3⟩, q4⟩, _⟩ := h3
   obtain ⟨S0, hi, hwp, hl⟩ := hb
   have hI := inv0 hargs q2 hi
   have hm0 := (init_ok ms 0 vs _ S0 hi).m
   refine calls_of_wp h1 h2 ?_
   have hc := code_ok (F0 := fix0 hargs fn.ntmps) hA hRn body c _ S0 _ (act0 us fn.ntmps) w _ .refl hI q4 h4 hwp
   refine wp_mono hc ?_
   rintro e a' w' ⟨e', F', S', g', rfl, ⟨Z, w1, rfl, l1, l2, l3⟩, hinv, hk⟩
   have key : fin ms rs S' sh cs outs → ∃ v, (results fn a'.tmps).run P w' = .ok v w' ∧ ∃ v' Z D, Ending.returned v = .returned v' ∧ Back w w' R G U ms us sh cs outs v' Z D := by
    intro hf
    obtain ⟨v, Z', D, hr, hB⟩ := fin_ok hargs hm0 hinv l1 l2 l3 hl q3 hf
    exact ⟨v, hr, v, Z', D, rfl, hB⟩
   cases e' with
   | n => exact ⟨hinv.defs, key hk⟩
   | r => exact ⟨hinv.defs, key hk⟩
   | x id => exact hk.elim
theorem runs_ok {A : Nat → Nat → List Md → Prop} {P : Program} (hA : Prims A P) {f : XFunc} {vs : List V} {sh : Sh} {cs : List T} {outs : List (List T)} (h : Runs f vs sh cs outs) : Ct A P f vs sh cs outs :=
 h (Ct A P) fun _ _ _ _ _ hb => body_ok hA (fun _ _ _ _ _ h => h) hb
end close
end
end Lv
/-
 The light evaluator in use: rules for its judgements.
-/
namespace Lv
open Go (IntKind BinOp UnOp)
section mono
variable {R1 R2 : Rel} (hR : ∀ f vs sh cs outs, R1 f vs sh cs outs → R2 f vs sh cs outs)
include hR
theorem opK_mono {o : XOp} {S : St} {K K' : St → Prop} (h : opK R1 o S K) (hK : ∀ S, K S → K' S) : opK R2 o S K' := by
 rcases h with ⟨S', h1, h2⟩ | ⟨d, f, es, S1, vs, sh, cs, outs, S2, h1, h2, h3, h4, h5⟩
 ·exact .inl ⟨S', h1, hK _ h2⟩
 ·exact .inr ⟨d, f, es, S1, vs, sh, cs, outs, S2, h1, h2, hR _ _ _ _ _ h3, h4, hK _ h5⟩
theorem opsK_mono : ∀ {xs : List (Option (Nat × Bool) × XOp)} {S : St} {K K' : St → Prop}, opsK R1 xs S K → (∀ S, K S → K' S) → opsK R2 xs S K'
 | [], _, _, _, h, hK => hK _ h
 | (_, _) :: _, _, _, _, ⟨b, hb, h⟩, hK => by
  refine ⟨b, hb, ?_⟩
  rcases h with ⟨h1, h2⟩ | ⟨h1, S', h2, h3⟩
  ·exact .inl ⟨h1, opK_mono hR h2 fun S hS => opsK_mono hS hK⟩
  ·exact .inr ⟨h1, S', h2, opsK_mono h3 hK⟩
theorem runK_mono : ∀ {r : XRun} {S : St} {K K' : St → Prop}, runK R1 r S K → (∀ S, K S → K' S) → runK R2 r S K'
 | .nil, _, _, _, h, hK => hK _ h
 | .op _ _ _ _ _, _, _, _, ⟨b, hb, h⟩, hK => by
  refine ⟨b, hb, ?_⟩
  rcases h with ⟨h1, h1', h2⟩ | ⟨h1, S', h2, h3⟩
  ·exact .inl ⟨h1, h1', opK_mono hR h2 fun S hS => runK_mono hS hK⟩
  ·exact .inr ⟨h1, S', h2, runK_mono h3 hK⟩
 | .dr _ r, _, _, _, h, hK => runK_mono (r := r) h hK
 | .nl _ r, _, _, _, h, hK => runK_mono (r := r) h hK
 | .both _ _, _, _, _, h, hK => ⟨runK_mono h.1 hK, runK_mono h.2 hK⟩
theorem wp_mono' : ∀ {x : XCode} {S : St} {Q Q' : Ex → St → Prop}, wp R1 x S Q → (∀ e S, Q e S → Q' e S) → wp R2 x S Q'
 | .skip, _, _, _, h, hQ => hQ _ _ h
 | .region _ _, _, _, _, h, hQ => opsK_mono hR h fun S ⟨ks, hS⟩ => ⟨ks, hQ _ _ hS⟩
 | .dreg _ _, _, _, _, h, hQ => runK_mono hR h fun S ⟨ks, hS⟩ => ⟨ks, hQ _ _ hS⟩
 | .seq a b, _, _, _, h, hQ => wp_mono' (x := a) h fun e S hS => by
  cases e with
  | n => exact wp_mono' (x := b) hS hQ
  | x => exact hQ _ _ hS
  | r => exact hQ _ _ hS
 | .cond c kt ke t e, _, _, _, ⟨b, hb, ks, h⟩, hQ => by
  refine ⟨b, hb, ks, ?_⟩
  cases b with
  | true => exact wp_mono' (x := t) h hQ
  | false => exact wp_mono' (x := e) h hQ
 | .block id b, _, _, _, h, hQ => wp_mono' (x := b) h fun e S hS => by
  cases e with
  | n => exact hQ _ _ hS
  | x i => dsimp only at hS ⊢; split at hS <;> simp_all
  | r => exact hQ _ _ hS
 | .loop b, S, Q, Q', ⟨n, h⟩, hQ => by
  refine ⟨n, ?_⟩
  induction n generalizing S with
  | zero => exact h
  | succ n ih =>
   refine wp_mono' (x := b) h fun e S hS => ?_
   cases e with
   | n => exact ih _ hS
   | x => exact hQ _ _ hS
   | r => exact hQ _ _ hS
 | .exit _, _, _, _, h, hQ => hQ _ _ h
 | .ret, _, _, _, h, hQ => hQ _ _ h
 | .scope b, _, _, _, h, hQ => wp_mono' (x := b) h hQ
end mono
theorem runBody_mono {R1 R2 : Rel} (hR : ∀ f vs sh cs outs, R1 f vs sh cs outs → R2 f vs sh cs outs) {f : XFunc} {vs : List V} {sh : Sh} {cs : List T} {outs : List (List T)} (h : runBody R1 f vs sh cs outs) : runBody R2 f vs sh cs outs := by
 cases f with
 | prim => exact h
 | mk ms rs body =>
  obtain ⟨S0, h1, h2, h3⟩ := h
  exact ⟨S0, h1, wp_mono' hR h2 fun _ _ h => h, h3⟩
theorem Runs.intro {f : XFunc} {vs : List V} {sh : Sh} {cs : List T} {outs : List (List T)} (h : runBody Runs f vs sh cs outs) : Runs f vs sh cs outs :=
 fun Rn hc => hc _ _ _ _ _ (runBody_mono (fun f vs sh cs outs h => h Rn hc) h)
def W (Rn : Rel) (x : XCode) (S : St) (N : St → Prop) (X : Nat → St → Prop) (R : St → Prop) : Prop :=
 wp Rn x S (fun e S => match e with | .n => N S | .x i => X i S | .r => R S)
theorem Runs.mk {ms : List Md} {rs : List XRes} {body : XCode} {vs : List V} {S0 : St} {sh : Sh} {cs : List T} {outs : List (List T)} (h1 : initK 0 ms vs ⟨[], [], []⟩ = some S0)
 (h2 : W Runs body S0 (fun S => fin ms rs S sh cs outs) (fun _ _ => False) (fun S => fin ms rs S sh cs outs)) (h3 : outLen ms vs outs = true) : Runs (.mk ms rs body) vs sh cs outs :=
 .intro ⟨S0, h1, wp_mono' (fun _ _ _ _ _ h => h) h2 (fun e S h => by cases e <;> exact h), h3⟩
variable {Rn : Rel}
def evs : Nat → List (Option (Nat × Bool) × XOp) → St → Option (St × List (Option (Nat × Bool) × XOp))
 | n + 1, (g, o) :: r, S => match wanted S g with
  | some true => (match ev o S with | some S' => evs n r S' | none => none)
  | some false => (match skipO o S with | some S' => evs n r S' | none => none)
  | none => none
 | 0, r, S => some (S, r)
 | _, [], _ => none
def evr : Nat → XRun → St → Option (St × XRun)
 | n + 1, .op _ g sf o r, S => match wanted S g with
  | some true => if safeK o S sf = true then (match ev o S with | some S' => evr n r S' | none => none) else none
  | some false => (match skipO o S with | some S' => evr n r S' | none => none)
  | none => none
 | n + 1, .dr ds r, S => evr n r (S.dropS ds)
 | n + 1, .nl ns r, S => evr n r (S.nilS ns)
 | 0, r, S => some (S, r)
 | _, _, _ => none
variable {N R : St → Prop} {X : Nat → St → Prop}
theorem ob {α β : Type} {o : Option α} {f : α → Option β} {r : β} (h : o.bind f = some r) : ∃ v, o = some v ∧ f v = some r := by
 cases o with
 | none => cases h
 | some v => exact ⟨v, rfl, h⟩
theorem oif {α : Type} {c : Prop} [Decidable c] {a b : Option α} {r : α} (h : (if c then a else b) = some r) : (c ∧ a = some r) ∨ (¬ c ∧ b = some r) := by
 by_cases hc : c
 ·exact .inl ⟨hc, by rwa [if_pos hc] at h⟩
 ·exact .inr ⟨hc, by rwa [if_neg hc] at h⟩
theorem oguard {α : Type} {c : Prop} [Decidable c] {a : Option α} {r : α} (h : (if c then a else none) = some r) : c ∧ a = some r := by
 rcases oif h with h | ⟨_, h⟩
 ·exact h
 ·cases h
def at? {α : Type} (l : List α) (i : Int) : Option α := if 0 ≤ i then l[i.toNat]? else none
theorem at_facts {α : Type} {l : List α} {i : Int} {x : α} (h : at? l i = some x) : 0 ≤ i ∧ i < l.length ∧ i.toNat < l.length ∧ l[i.toNat]? = some x ∧ ∀ h, l[i.toNat]'h = x := by
 obtain ⟨h0, h⟩ := oguard h
 obtain ⟨h1, h2⟩ := List.getElem?_eq_some_iff.1 h
 exact ⟨h0, by omega, h1, h, fun _ => h2⟩
theorem at_map {α β : Type} (e : α → β) {l : List α} {i : Int} {x : α} (h : at? l i = some x) : (l.map e)[i.toNat]? = some (e x) := by
 rw [List.getElem?_map, (at_facts h).2.2.2.1]; rfl
noncomputable def big : Nat := Classical.choose (p := fun n => 2 ^ 80 ≤ n) ⟨2 ^ 80, Nat.le_refl _⟩
theorem big_ge : 2 ^ 80 ≤ big := Classical.choose_spec (p := fun n => 2 ^ 80 ≤ n) _
end Lv
/-
 Plain numbers, bytes, rows, bounds.
-/
namespace Lv
open Go (IntKind BinOp UnOp)
abbrev eI (n : Int) : T := .int .i64 n
abbrev eN (n : Int) : List T := [eI n]
abbrev w64 (n : Int) : Int := IntKind.i64.wrap n
def toB (n : Int) : UInt8 := UInt8.ofNat (IntKind.u8.wrap n).toNat
theorem wrap8_range (n : Int) : 0 ≤ IntKind.u8.wrap n ∧ IntKind.u8.wrap n < 256 := by
 simp only [IntKind.wrap, IntKind.bits, IntKind.signed]
 simp
 omega
theorem toB_toNat (n : Int) : ((toB n).toNat : Int) = IntKind.u8.wrap n := by
 have := wrap8_range n
 simp only [toB, UInt8.toNat_ofNat']
 omega
abbrev andI (a b : Int) : Int := IntKind.i64.wrap (BitVec.ofInt IntKind.i64.bits a &&& BitVec.ofInt IntKind.i64.bits b).toNat
abbrev xorI (a b : Int) : Int := IntKind.i64.wrap (BitVec.ofInt IntKind.i64.bits a ^^^ BitVec.ofInt IntKind.i64.bits b).toNat
abbrev shrI (a b : Int) : Int := a.fdiv (2 ^ (min b.toNat IntKind.i64.bits))
abbrev eBr (b : UInt8) : List T := [.int .u8 b.toNat]
theorem byteOf_row (b : UInt8) : byteOf [T.int .u8 b.toNat] = some b := by simp [byteOf]
theorem bytesOf_map (s : List UInt8) : bytesOf (s.map eBr) = some s := by
 induction s with
 | nil => rfl
 | cons b s ih => simp only [List.map_cons, bytesOf, byteOf_row, ih]
def okI (n : Int) : Prop := -9223372036854775808 ≤ n ∧ n < 9223372036854775808
def okL {α : Type} (ok : α → Prop) (l : List α) : Prop := l.length < 9223372036854775808 ∧ ∀ a ∈ l, ok a
end Lv
/-
 Arguments are read: from the kit's reading of an argument to a tree.
-/
namespace Lv
open Go
section
variable {H : Type} {enc : TypeId × Value → H} {P : Program} {w : World} {base : Nat} {spare : Nat → Bool} {held : Bool}
def Old (w : World) : Blk := fun b => b < w.heap.size
def Reads (enc : TypeId × Value → H) (P : Program) (w : World) (base : Nat) (spare : Nat → Bool) (held : Bool) (t : TypeId) {α : Type} (f : α → List T) (ok : α → Prop) (n : Nat) : Prop :=
 P.cellsOf t = n ∧ ∀ fuel cs x, cs.length = n → DataW.trod enc P w base spare held fuel t cs = some x → ∃ a, ok a ∧ (f a).length = n ∧ Views w (Old w) (f a) cs
theorem Reads.int {t : TypeId} (ht : P.underlying t = some (.int .i64)) (hc : P.cellsOf t = 1) : Reads enc P w base spare held t (fun n : Int => [T.int .i64 n]) (fun n => -9223372036854775808 ≤ n ∧ n < 9223372036854775808) 1 := by
 refine ⟨hc, fun fuel cs x _ h => ?_⟩
 obtain ⟨n, rfl, _, hw⟩ := DataW.trod_int ht h
 refine ⟨n, ?_, rfl, rfl, ?_⟩
 ·simp [Lit.wf, IntKind.min, IntKind.max, IntKind.signed, IntKind.bits] at hw
  omega
 ·intro c x hx
  cases c with
  | zero => simp only [List.getElem?_cons_zero, Option.some.injEq] at hx; subst hx; exact ⟨_, rfl, .sc rfl⟩
  | succ c => simp at hx
theorem Reads.slice {t e : TypeId} {α : Type} {f : α → List T} {ok : α → Prop} {n : Nat} (ht : P.underlying t = some (.slice e)) (hc : P.cellsOf t = 1) (hn : 0 < n) (h : Reads enc P w base spare held e f ok n) :
 Reads enc P w base spare held t (fun l : List α => [T.sl n (l.map f)]) (fun l => l.length < 9223372036854775808 ∧ ∀ a ∈ l, ok a) 1 := by
 refine ⟨hc, fun fuel cs x _ hr => ?_⟩
 rcases DataW.trod_slice ht hr with ⟨rfl, _⟩ | ⟨a, len, cap, elems, rest, m, _, rfl, _, hb, hl, hm, hlen, hel, _⟩
 ·refine ⟨[], ⟨by simp, by simp⟩, rfl, rfl, ?_⟩
  intro c x hx
  cases c with
  | zero => simp only [List.map_nil, List.getElem?_cons_zero, Option.some.injEq] at hx; subst hx; exact ⟨_, rfl, .nl⟩
  | succ c => simp at hx
 ·have each : ∀ i, i < len → ∃ b, ok b ∧ (f b).length = n ∧ ∃ cs', w.cells? base (a.add (i * n)) n = some cs' ∧ Views w (Old w) (f b) cs' := by
   intro i hi
   have := hel i hi
   rw [List.getElem?_eq_getElem (by omega), h.1] at this
   obtain ⟨cs', h1, h2⟩ := Option.bind_eq_some_iff.1 this
   obtain ⟨_, h3, _⟩ := World.cells?_some h1
   obtain ⟨b, h4, h5, h6⟩ := h.2 _ _ _ h3 h2
   exact ⟨b, h4, h5, cs', h1, h6⟩
  have hg : ∃ l : List α, l.length = len ∧ ∀ i b, l[i]? = some b → ok b ∧ (f b).length = n ∧ ∃ cs', w.cells? base (a.add (i * n)) n = some cs' ∧ Views w (Old w) (f b) cs' := by
   have key : ∀ k, k ≤ len → ∃ l : List α, l.length = k ∧ ∀ i b, l[i]? = some b → ok b ∧ (f b).length = n ∧ ∃ cs', w.cells? base (a.add (i * n)) n = some cs' ∧ Views w (Old w) (f b) cs' := by
    intro k
    induction k with
    | zero => intro _; exact ⟨[], rfl, by simp⟩
    | succ k ih =>
     intro hk
     obtain ⟨l, h1, h2⟩ := ih (by omega)
     obtain ⟨b, hb⟩ := each k (by omega)
     refine ⟨l ++ [b], by simp [h1], fun i b' hb' => ?_⟩
     rcases Nat.lt_or_ge i l.length with hi | hi
     ·rw [List.getElem?_append_left hi] at hb'; exact h2 i b' hb'
     ·rw [List.getElem?_append_right hi] at hb'
      have : i = k := by
       have := (List.getElem?_eq_some_iff.1 hb').1
       simp at this; omega
      subst this
      rw [← h1, Nat.sub_self] at hb'
      simp only [List.getElem?_cons_zero, Option.some.injEq] at hb'
      subst hb'
      exact hb
   exact key len (Nat.le_refl _)
  obtain ⟨l, h1, h2⟩ := hg
  have hcell : ∀ i j x, at2 (l.map f) i j = some x → ∃ z, w.cell? ⟨a.block, a.off + i * n + j, none⟩ = some z ∧ View w (Old w) x z := by
   intro i j x hx
   unfold at2 at hx
   rw [List.getElem?_map] at hx
   cases hli : l[i]? with
   | none => rw [hli] at hx; cases hx
   | some b =>
    rw [hli] at hx
    simp only [Option.map_some] at hx
    obtain ⟨q1, q2, cs', q3, q4, q5⟩ := h2 i b hli
    obtain ⟨z, hz, hV⟩ := q5 j x hx
    obtain ⟨_, r1, r2⟩ := World.cells?_some q3
    have hj : j < n := by rw [← q2]; exact (List.getElem?_eq_some_iff.1 hx).1
    have := r2 j hj
    rw [hz] at this
    refine ⟨z, ?_, hV⟩
    have hsp : ∀ ad : Addr, w.cell? ad = some z → ad.spot = none ∧ w.cell? ⟨ad.block, ad.off, none⟩ = some z := by
     intro ad had
     unfold World.cell? at had
     split at had
     ·rename_i h
      split at had
      ·cases had
      ·rename_i hs
       refine ⟨by simpa using hs, ?_⟩
       simp only [World.cell?, h]
       simpa using had
     ·cases had
    obtain ⟨_, h5⟩ := hsp _ this
    rw [← h5]
    congr 1
    unfold Addr.add
    split <;> split <;> simp_all <;> omega
  refine ⟨l, ⟨by rw [h1]; unfold maxLen at hm; omega, fun b hb => ?_⟩, rfl, rfl, ?_⟩
  ·obtain ⟨i, hi⟩ := List.mem_iff_getElem?.1 hb
   exact (h2 i b hi).1
  ·intro c x hx
   cases c with
   | succ c => simp at hx
   | zero =>
    simp only [List.getElem?_cons_zero, Option.some.injEq] at hx
    subst hx
    refine ⟨_, rfl, ?_⟩
    have hfirst : l ≠ [] → a.spot = none ∧ a.block < w.heap.size := by
     intro hne
     obtain ⟨b, l', rfl⟩ := List.exists_cons_of_ne_nil hne
     obtain ⟨q1, q2, cs', q3, q4, q5⟩ := h2 0 b rfl
     obtain ⟨_, r1, r2⟩ := World.cells?_some q3
     have h0 := r2 0 hn
     rw [Nat.zero_mul] at h0
     have ha : (a.add 0).add 0 = a := by simp [Addr.add]
     rw [ha] at h0
     have hlt : 0 < cs'.length := by omega
     rw [List.getElem?_eq_getElem hlt] at h0
     unfold World.cell? at h0
     split at h0
     ·rename_i hh
      split at h0
      ·cases h0
      ·rename_i hs
       exact ⟨by simpa using hs, (Array.getElem?_eq_some_iff.1 hh).1⟩
     ·cases h0
    refine .sl (fun i j => (w.cell? ⟨a.block, a.off + i * n + j, none⟩).getD undef) (by simp [h1]) hl ?_ (fun hne => hfirst (by rintro rfl; exact hne rfl)) ?_ ?_
    ·intro row hr
     obtain ⟨b, hb, rfl⟩ := List.mem_map.1 hr
     obtain ⟨i, hi⟩ := List.mem_iff_getElem?.1 hb
     exact (h2 i b hi).2.1
    ·intro i j x hx
     obtain ⟨z, hz, _⟩ := hcell i j x hx
     simp [hz]
    ·intro i j x hx
     obtain ⟨z, hz, hV⟩ := hcell i j x hx
     simpa [hz] using hV
theorem Reads.map {t : TypeId} {α β : Type} {f : α → List T} {ok : α → Prop} {n : Nat} (h : Reads enc P w base spare held t f ok n) {g : β → List T} {ok' : β → Prop} (φ : α → β) (hf : ∀ a, f a = g (φ a)) (hk : ∀ a, ok a → ok' (φ a)) :
 Reads enc P w base spare held t g ok' n := by
 refine ⟨h.1, fun fuel cs x hl hr => ?_⟩
 obtain ⟨a, h1, h2, h3⟩ := h.2 fuel cs x hl hr
 exact ⟨φ a, hk a h1, by rw [← hf]; exact h2, by rw [← hf]; exact h3⟩
theorem Views.append {B : Blk} {xs ys : List T} {us : List Value} {k : Nat} (hk : xs.length = k) (h1 : Views w B xs (us.take k)) (h2 : Views w B ys (us.drop k)) : Views w B (xs ++ ys) us := by
 obtain ⟨p1, p2⟩ := h1
 obtain ⟨q1, q2⟩ := h2
 have hlen : k ≤ us.length := by rw [List.length_take] at p1; omega
 refine ⟨by rw [List.length_drop] at q1; simp; omega, fun c x hx => ?_⟩
 rcases Nat.lt_or_ge c xs.length with hc | hc
 ·rw [List.getElem?_append_left hc] at hx
  obtain ⟨z, hz, hV⟩ := p2 c x hx
  rw [List.getElem?_take, if_pos (by omega)] at hz
  exact ⟨z, hz, hV⟩
 ·rw [List.getElem?_append_right hc] at hx
  obtain ⟨z, hz, hV⟩ := q2 _ x hx
  rw [List.getElem?_drop, show k + (c - xs.length) = c from by omega] at hz
  exact ⟨z, hz, hV⟩
def ReadsF (enc : TypeId × Value → H) (P : Program) (w : World) (base : Nat) (spare : Nat → Bool) (held : Bool) (fs : List Field) (off : Nat) {α : Type} (f : α → List T) (ok : α → Prop) (n : Nat) : Prop :=
 ∀ (fuel : Nat) (cs : List Value), cs.length = off + n → (∀ fld ∈ fs, ∃ x, DataW.trod enc P w base spare held fuel fld.type ((cs.drop fld.offset).take (P.cellsOf fld.type)) = some x) → ∃ a, ok a ∧ (f a).length = n ∧ Views w (Old w) (f a) (cs.drop off)
theorem ReadsF.nil {off : Nat} : ReadsF enc P w base spare held [] off (fun _ : Unit => []) (fun _ => True) 0 := by
 intro fuel cs hl _
 exact ⟨(), trivial, rfl, by simp; omega, by simp⟩
theorem ReadsF.cons {fld : Field} {fs : List Field} {off n n' : Nat} {α β : Type} {f : α → List T} {ok : α → Prop} {g : β → List T} {ok' : β → Prop} (ho : fld.offset = off) (h : Reads enc P w base spare held fld.type f ok n)
 (h' : ReadsF enc P w base spare held fs (off + n) g ok' n') : ReadsF enc P w base spare held (fld :: fs) off (fun x : α × β => f x.1 ++ g x.2) (fun x => ok x.1 ∧ ok' x.2) (n + n') := by
 intro fuel cs hl hr
 obtain ⟨x, hx⟩ := hr fld (by simp)
 rw [h.1, ho] at hx
 obtain ⟨a, h1, h2, h3⟩ := h.2 fuel _ x (by simp; omega) hx
 obtain ⟨b, k1, k2, k3⟩ := h' fuel cs (by omega) (fun fld hf => hr fld (by simp [hf]))
 exact ⟨(a, b), ⟨h1, k1⟩, by simp [h2, k2], Views.append h2 h3 (by rw [List.drop_drop]; exact k3)⟩
theorem Reads.struct {t : TypeId} {fs : Array Field} {α : Type} {f : α → List T} {ok : α → Prop} {n : Nat} (ht : P.underlying t = some (.struct fs)) (hc : P.cellsOf t = n) (h : ReadsF enc P w base spare held fs.toList 0 f ok n) : Reads enc P w base spare held t f ok n := by
 refine ⟨hc, fun fuel cs x hl hr => ?_⟩
 obtain ⟨xs, m, _, _, _, h2, h3⟩ := DataW.trod_struct ht hr
 obtain ⟨a, k1, k2, k3⟩ := h m cs (by omega) (fun fld hf => by
  obtain ⟨i, hi⟩ := List.mem_iff_getElem?.1 hf
  have hi' : fs[i]? = some fld := by simpa using hi
  have hlt : i < xs.length := by rw [h2]; exact (Array.getElem?_eq_some_iff.1 hi').1
  exact ⟨xs[i], by rw [h3 i fld hi']; simp [hlt]⟩)
 exact ⟨a, k1, k2, by simpa using k3⟩
end
end Lv
/-
 A law's frame: what the light evaluator says of a law, as the row's contract asks it.
-/
namespace Lv
open Go
structure Quiet (w w' : World) : Prop where
 still : Still w w'
 heap : ∀ b, b < w.heap.size → w'.heap[b]? = w.heap[b]?
theorem law_ok {A : Nat → Nat → List Md → Prop} {P : Program} (hA : Prims A P) {f : XFunc} {vs : List V} {n : Nat} (hr : Runs f vs .one [.bool true] []) (hmt : Mt A P n f) {W : World} {args : Array Value} (hm : modes f = vs.map fun _ => Md.v)
 (hl : args.size = vs.length) (hv : ∀ (i : Nat) V u, vs[i]? = some V → args[i]? = some u → ∃ sh cs us, V = .v sh cs ∧ u = mkV sh us ∧ Views W (Old W) cs us) :
 Calls P n args W fun e W' => e = .returned (.bool true) ∧ Quiet W W' := by
 have hch : ∀ i : Nat, ∃ us : List Value, ∀ V u, vs[i]? = some V → args[i]? = some u → ∃ sh cs, V = .v sh cs ∧ u = mkV sh us ∧ Views W (Old W) cs us := by
  intro i
  cases hV : vs[i]? with
  | none => exact ⟨[], fun V u h => by cases h⟩
  | some V =>
   have hlt : i < args.size := by rw [hl]; exact (List.getElem?_eq_some_iff.1 hV).1
   obtain ⟨sh, cs, us, h1, h2, h3⟩ := hv i V args[i] hV (by simp [hlt])
   refine ⟨us, fun V' u hV' hu => ?_⟩
   cases hV'
   rw [Array.getElem?_eq_getElem hlt] at hu
   cases hu
   exact ⟨sh, cs, h1, h2, h3⟩
 have hch' := Classical.axiomOfChoice hch
 obtain ⟨U, hU⟩ := hch'
 have hargs : ArgsOK A P W (fun _ => Old W) (fun _ _ _ => False) U (modes f) vs args.toList := by
  refine ⟨by rw [hm]; simp, by rw [hm]; simp [hl], ?_, fun _ _ h => h, fun _ _ _ _ _ h => h, fun _ _ _ _ _ h => h.elim, fun _ _ _ h => h.elim⟩
  intro i md V u h1 h2 h3
  rw [hm, List.getElem?_map, h2] at h1
  cases h1
  obtain ⟨sh, cs, rfl, h5, h6⟩ := hU i V u h2 (by simpa using h3)
  exact ⟨h5, h6, fun _ _ h => h⟩
 have := runs_ok hA hr n hmt W _ _ U args.toList hargs
 rw [Array.toArray_toList] at this
 refine this.mono ?_
 rintro e W' ⟨v, Z, D, rfl, hB⟩
 obtain ⟨us, rfl, h1, h2⟩ := hB.res
 obtain ⟨z, hz, hO⟩ := h2 0 _ rfl
 have hv : us = [.bool true] := by
  match us, h1, hz with
  | [y], _, hz =>
   simp only [List.getElem?_cons_zero, Option.some.injEq] at hz
   subst hz
   cases hO with
   | sc h _ _ => rw [show y = Value.bool true from h]
 subst hv
 exact ⟨rfl, hB.still, fun b hb => hB.frame b hb fun _ _ h => h⟩
section
variable {A : Nat → Nat → List Md → Prop} {P : Program}
def okAt (P : Program) (fn : Func) (f : XFunc) : Bool := match fn.body with | some c => funcOk P fn c f | none => false
def calAt (fn : Func) (f : XFunc) : List (Nat × XFunc) := match fn.body with | some c => funcCal c f | none => []
theorem Mt.by {n : Nat} {fn : Func} {f : XFunc} {l : List (Nat × XFunc)} (h1 : P.funcs[n]? = some fn) (h2 : okAt P fn f = true) (h3 : calAt fn f = l) (h4 : ∀ p ∈ l, Mt A P p.1 p.2) : Mt A P n f := by
 unfold okAt at h2
 unfold calAt at h3
 cases hb : fn.body with
 | none => simp [hb] at h2
 | some c =>
  simp only [hb] at h2 h3
  exact .mk h1 hb h2 (by rw [h3]; exact h4)
theorem Mt.none : ∀ p ∈ ([] : List (Nat × XFunc)), Mt A P p.1 p.2 := by simp
theorem Mt.and {n : Nat} {f : XFunc} {l : List (Nat × XFunc)} (h : Mt A P n f) (h' : ∀ p ∈ l, Mt A P p.1 p.2) : ∀ p ∈ (n, f) :: l, Mt A P p.1 p.2 := by
 intro p hp
 rcases List.mem_cons.1 hp with rfl | hp
 ·exact h
 ·exact h' p hp
theorem prims_none : Prims (fun _ _ _ => False) P := ⟨fun _ _ _ h => h.elim, fun _ _ _ _ _ _ _ h => h.elim⟩
end
end Lv
/-
 A law's frame: the row's contract.
-/
namespace Lv
open Go Go.ChangeShapes Go.WideShapes Go.ChangeAt Go.RowKit
theorem Quiet.kept {W W' : World} (h : Quiet W W') (may : MemPlace → Prop) : W.keptBut W' may := by
 refine ⟨h.still.os, h.still.output, fun i hi => ?_⟩
 rw [h.heap i hi]
 cases W.heap[i]? with
 | none => trivial
 | some o => cases o <;> first | exact ⟨rfl, rfl, rfl, fun _ _ => rfl⟩ | exact .inr ⟨rfl, rfl⟩ | rfl
variable {H : Type} {enc : TypeId × Value → H} {P : Program}
theorem post_of_quiet {f : Func} {s : ChangeSpec} {apart fresh handsOn again : Bool} {W W' : World} {args : Array Value} {v : Value} {ds gs : List (DataW H)} {before pa pv : List MemPlace}
 (hW : DataW.Whole enc P f.params.toList s.vars apart W args.toList ds gs before)
 (hres : ∀ (b : Nat) (sp : Nat → Bool) (hd : Bool), DataW.TrodAll enc P W' b sp hd f.resultTypes.toList (v.resultList f.resultTypes.size) (s.fn H (ds ++ gs)).results [])
 (hargs : ∀ sp : Nat → Bool, (∀ p ∈ before, sp p.block = true) → DataW.TrodAll enc P W' 0 sp true f.params.toList args.toList (s.fn H (ds ++ gs)).args pa)
 (hvars : ∀ sp : Nat → Bool, (∀ p ∈ before, sp p.block = true) → DataW.TrodVars enc P W' sp s.vars (s.fn H (ds ++ gs)).vars pv)
 (hps : before = pa ++ pv) (hq : Quiet W W')
 (hok : ∀ (j : Nat) (t : TypeId) (r : Value), f.resultTypes[j]? = some t → (v.resultList f.resultTypes.size)[j]? = some r → Value.okWide P W' .any 0 t r) :
 s.post enc P f apart fresh handsOn again W args v W' := by
 have hold : ∀ p ∈ before, (fun b => decide (b < W.heap.size)) p.block = true := fun p hp => by simpa using hW.lt p hp
 have hlt := hW.lt
 refine ⟨ds, gs, before, [], pa, pv, hW, hres _ _ _, hargs _ hold, hvars _ hold, World.keptBut_mono (fun p hp => ⟨hp, ?_⟩) (hq.kept (· ∈ before)), fun _ => ?_⟩
 ·rw [hps, List.mem_append] at hp
  exact Or.inr hp
 ·obtain ⟨_, _, _, _, _, hz, hn⟩ := hW
  refine ⟨hok, _, _, ([] ++ pa) ++ pv, ⟨[] ++ pa, pv, trodAll_append (hargs _ (fun _ _ => rfl)) (hres _ _ _), hvars _ (fun _ _ => rfl), rfl, ?_, ?_⟩, ?_⟩
  ·intro b off hp
   have hb : MemPlace.cell b off ∈ before := by rw [hps]; simpa using hp
   rw [hq.still.frozen _ (hlt _ hb)]
   exact hz b off hb
  ·intro ha
   have := hn ha
   rw [hps] at this
   simpa using this
  ·intro p hp _
   rw [hps]
   simpa using hp
theorem Quiet.trod {t : TypeId} (hl : laidOutB P = true) (hr : P.readableRec t = true) (hrow : t < P.types.size) {W W' : World} (hq : Quiet W W') {sp : Nat → Bool} {v : Value} {d : DataW H} {ps : List MemPlace}
 (h : DataW.Trod enc P W 0 (fun _ => true) true t v d ps) (hlt : ∀ x ∈ ps, x.block < W.heap.size) (hsp : ∀ x ∈ ps, sp x.block = true) : DataW.Trod enc P W' 0 sp true t v d ps :=
 WideElems.Trod_stays hl hr hrow h (fun x hx => by
  have := hq.heap _ (hlt x hx)
  cases x with
  | cell b o => exact World.cell?_of_block this
  | map b => exact this) hsp
end Lv
/-
 A law's frame: arguments of any kinds.
-/
namespace Lv
open Go Go.ChangeShapes Go.WideShapes Go.ChangeAt Go.RowKit
def ArgIs (w : World) (V : V) (u : Value) : Prop := ∃ sh cs us, V = .v sh cs ∧ u = mkV sh us ∧ Views w (Old w) cs us
section
variable {H : Type} {enc : TypeId × Value → H} {P : Program} {w : World} {base : Nat} {spare : Nat → Bool} {held : Bool}
theorem Reads.str {t : TypeId} (ht : P.underlying t = some .string) (hc : P.cellsOf t = 1) : Reads enc P w base spare held t (fun s : List UInt8 => [T.str s]) (fun s => s.length < 9223372036854775808) 1 := by
 refine ⟨hc, fun fuel cs x _ h => ?_⟩
 obtain ⟨s, rfl, _, hw⟩ := DataW.trod_string ht h
 refine ⟨s.data.toList, ?_, rfl, rfl, ?_⟩
 ·unfold maxLen at hw
  have : s.data.toList.length = s.size := Array.length_toList
  omega
 ·intro c x hx
  cases c with
  | zero => simp only [List.getElem?_cons_zero, Option.some.injEq] at hx; subst hx; exact ⟨_, rfl, .sc (by simp [Sc])⟩
  | succ c => simp at hx
theorem Reads.bool {t : TypeId} (ht : P.underlying t = some .bool) (hc : P.cellsOf t = 1) : Reads enc P w base spare held t (fun b : Bool => [T.bool b]) (fun _ => True) 1 := by
 refine ⟨hc, fun fuel cs x _ h => ?_⟩
 obtain ⟨b, rfl, _⟩ := DataW.trod_bool ht h
 refine ⟨b, trivial, rfl, rfl, ?_⟩
 intro c x hx
 cases c with
 | zero => simp only [List.getElem?_cons_zero, Option.some.injEq] at hx; subst hx; exact ⟨_, rfl, .sc rfl⟩
 | succ c => simp at hx
theorem Reads.u8 {t : TypeId} (ht : P.underlying t = some (.int .u8)) (hc : P.cellsOf t = 1) : Reads enc P w base spare held t (fun b : UInt8 => [T.int .u8 b.toNat]) (fun _ => True) 1 := by
 refine ⟨hc, fun fuel cs x _ h => ?_⟩
 obtain ⟨n, rfl, _, hw⟩ := DataW.trod_int ht h
 simp [Lit.wf, IntKind.min, IntKind.max, IntKind.signed, IntKind.bits] at hw
 refine ⟨UInt8.ofNat n.toNat, trivial, rfl, rfl, ?_⟩
 intro c x hx
 cases c with
 | zero =>
  simp only [List.getElem?_cons_zero, Option.some.injEq] at hx; subst hx
  refine ⟨_, rfl, .sc ?_⟩
  simp only [Sc, UInt8.toNat_ofNat']
  congr 1; omega
 | succ c => simp at hx
theorem Reads.one {t : TypeId} {α : Type} {f : α → List T} {ok : α → Prop} (h : Reads enc P w base spare held t f ok 1) {v : Value} {d : DataW H} {ps : List MemPlace} (hd : DataW.Trod enc P w base spare held t v d ps) (hv : v.cells.toList = [v]) :
 ∃ a, ok a ∧ ArgIs w (.v .one (f a)) v := by
 obtain ⟨fuel, hd⟩ := hd
 rw [hv] at hd
 obtain ⟨a, h1, h2, h3⟩ := h.2 _ _ _ rfl hd
 exact ⟨a, h1, _, _, [v], rfl, rfl, h3⟩
theorem Reads.agg {t : TypeId} {n : Nat} {α : Type} {f : α → List T} {ok : α → Prop} (h : Reads enc P w base spare held t f ok n) {cs : Array Value} {d : DataW H} {ps : List MemPlace} (hd : DataW.Trod enc P w base spare held t (.agg cs) d ps) (hc : cs.size = P.cellsOf t) :
 ∃ a, ok a ∧ ArgIs w (.v .agg (f a)) (.agg cs) := by
 obtain ⟨fuel, hd⟩ := hd
 obtain ⟨a, h1, h2, h3⟩ := h.2 _ _ _ (by rw [show (Value.agg cs).cells.toList.length = cs.size from by simp [Value.cells], hc, h.1]) hd
 exact ⟨a, h1, _, _, cs.toList, rfl, by simp [mkV], h3⟩
end
variable {H : Type} {enc : TypeId × Value → H} {P : Program}
theorem Quiet.trodAll (hl : laidOutB P = true) {W W' : World} (hq : Quiet W W') {sp : Nat → Bool} : ∀ (ts : List TypeId) (vs : List Value) (ds : List (DataW H)) (ps : List MemPlace), (∀ t ∈ ts, P.readableRec t = true ∧ t < P.types.size) →
 DataW.TrodAll enc P W 0 (fun _ => true) true ts vs ds ps → (∀ x ∈ ps, x.block < W.heap.size) → (∀ x ∈ ps, sp x.block = true) → DataW.TrodAll enc P W' 0 sp true ts vs ds ps
 | [], vs, ds, ps, _, h, _, _ => by
  obtain ⟨rfl, rfl, rfl⟩ := trodAll_nil h
  exact trodAll_mk0
 | t :: ts, vs, ds, ps, hr, h, hlt, hsp => by
  obtain ⟨v, vs', d, ds', p, q, rfl, rfl, rfl, h1, h2⟩ := trodAll_cons h
  exact trodAll_cons_mk (hq.trod hl (hr t (by simp)).1 (hr t (by simp)).2 h1 (fun x hx => hlt x (by simp [hx])) (fun x hx => hsp x (by simp [hx])))
   (hq.trodAll hl ts vs' ds' q (fun t ht => hr t (by simp [ht])) h2 (fun x hx => hlt x (by simp [hx])) (fun x hx => hsp x (by simp [hx])))
theorem law_post {A : Nat → Nat → List Md → Prop} (hA : Prims A P) {f : Func} {n tb : Nat} {x : XFunc} {Vs : List V} {W : World} {args : Array Value} {s : ChangeSpec} {ds : List (DataW H)} {before : List MemPlace} {fresh handsOn again apart : Bool}
 (hl : laidOutB P = true) (htb : P.underlying tb = some .bool) (hrt : f.resultTypes = #[tb])
 (hr : Runs x Vs .one [.bool true] []) (hmt : Mt A P n x) (hm : modes x = Vs.map fun _ => Md.v) (hlen : args.size = Vs.length)
 (hv : ∀ (i : Nat) V u, Vs[i]? = some V → args[i]? = some u → ArgIs W V u)
 (hW : DataW.Whole enc P f.params.toList s.vars apart W args.toList ds [] before) (hAll : DataW.TrodAll enc P W 0 (fun _ => true) true f.params.toList args.toList ds before) (hvars : s.vars = [])
 (hrow : ∀ t ∈ f.params.toList, P.readableRec t = true ∧ t < P.types.size)
 (hs1 : (s.fn H (ds ++ [])).results = [.lit (.bool true)]) (hs2 : (s.fn H (ds ++ [])).args = ds) (hs3 : (s.fn H (ds ++ [])).vars = []) :
 Calls P n args W fun e W' => ∃ v, e = .returned v ∧ s.post enc P f apart fresh handsOn again W args v W' := by
 refine (law_ok hA hr hmt hm hlen ?_).mono ?_
 ·intro i V u h1 h2
  obtain ⟨sh, cs, us, h3, h4, h5⟩ := hv i V u h1 h2
  exact ⟨sh, cs, us, h3, h4, h5⟩
 ·rintro e W' ⟨rfl, hq⟩
  have hlt := hW.lt
  refine ⟨_, rfl, post_of_quiet (pa := before) (pv := []) hW (fun b sp hd => ?_) (fun sp hsp => ?_) (fun sp _ => ?_) (by simp) hq ?_⟩
  ·rw [hs1, hrt]; exact trodAll_cons_mk (shut_bool htb _) trodAll_mk0
  ·rw [hs2]; exact hq.trodAll hl _ _ _ _ hrow hAll hlt hsp
  ·rw [hvars, hs3]; rfl
  ·exact ok_one (by rw [hrt]) rfl (okWide_bool_mk htb _)
end Lv
