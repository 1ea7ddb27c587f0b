/-
  The program's OffersTo returns what the reference's returns, for all arguments.
-/
import Derived.Test.YtbhgiebhemcljaaMtOffers
import Derived.Test.YtbhgiebhemcljaaLvE
import Derived.WalkKit
import Derived.OpenShut
import Derived.JoinedCond
set_option linter.unusedVariables false
set_option linter.unusedSimpArgs false
namespace Go.Proofs.Ytbhgiebhemcljaa.offersTo
open Go Lv Go.ChangeShapes Go.WideShapes Go.ChangeAt Go.RowKit

theorem own : ownKnob Try.prog.godebug = none := by kernel_rfl
theorem laidOut : laidOutB Try.prog = true := by kernel_rfl

section
variable {H : Type} {enc : TypeId × Value → H} {w : World} {base : Nat} {spare : Nat → Bool} {held : Bool}
theorem reads_int : Reads enc Try.prog w base spare held 3 (fun n : Int => [T.int .i64 n]) (fun n => -9223372036854775808 ≤ n ∧ n < 9223372036854775808) 1 := .int Try.underlying3 (by kernel_rfl)
theorem reads_ints : Reads enc Try.prog w base spare held 45 (fun l : List Int => [eInts l]) (fun l => l.length < 9223372036854775808) 1 :=
  (Reads.slice Try.underlying45 (by kernel_rfl) (by decide) reads_int).map id (fun _ => rfl) (fun _ h => h.1)
theorem reads_reply : Reads enc Try.prog w base spare held 47 eReply (fun r => r.ids.length < 9223372036854775808) 2 :=
  (Reads.struct Try.underlying47 (by kernel_rfl) (.cons (by kernel_rfl) reads_int (.cons (by kernel_rfl) reads_ints .nil))).map (fun x => ⟨x.1, x.2.1⟩) (fun _ => rfl) (fun _ h => h.2.1)
theorem reads_replies : Reads enc Try.prog w base spare held 22 (fun l : List Reply => [eReplies l]) (fun l => l.length < 9223372036854775808 ∧ ∀ r ∈ l, r.ids.length < 9223372036854775808) 1 :=
  .slice Try.underlying22 (by kernel_rfl) (by decide) reads_reply
end

theorem contract (H : Type) (enc : TypeId × Value → H) (W : World) (base : Nat) (args : Array Value) (ds gs : List (DataW H)) (before : List MemPlace)
    (hval : ∀ (j : Nat) t v, Try.f3.params[j]? = some t → args[j]? = some v → Value.okWide Try.prog W .any base t v)
    (hW : DataW.Whole enc Try.prog Try.f3.params.toList Rows.fnExactOffersToSpec.vars false W args.toList ds gs before) :
    Calls Try.prog 3 args W fun e W' => ∃ v, e = .returned v ∧ Rows.fnExactOffersToSpec.post enc Try.prog Try.f3 false true false false W args v W' := by
  have hW' := hW
  have hlt0 := hW.lt
  obtain ⟨p, q, hA0, hV, rfl, hfz, hnd⟩ := hW
  have hA : DataW.TrodAll enc Try.prog W 0 (fun _ => true) true Try.f3.params.toList args.toList ds p := hA0
  rw [Try.params3] at hA hval
  obtain ⟨v0, v1, d0, d1, p0, p1, rfl, rfl, rfl, h0, h1⟩ := trodAll_two hA
  obtain ⟨rfl, rfl⟩ := trodVars_none hV
  clear hA0
  simp only [List.append_nil] at hW' hlt0
  obtain ⟨a0, len0, cap0, rfl⟩ := okWide_slice Try.underlying22 (hval 0 22 v0 rfl rfl)
  obtain ⟨id, rfl, rfl, rfl, w1⟩ := open_int Try.underlying3 (hval 1 3 v1 rfl rfl) h1
  have h0k := h0
  obtain ⟨f0, g0⟩ := h0
  obtain ⟨rs, k0, _, hv0⟩ := reads_replies.2 _ _ _ rfl g0
  refine (law_ok (A := fun _ _ _ => False) prims_none (run_laws_FnExactOffersTo (rs := rs) (id := id) k0) mt_laws_FnExactOffersTo rfl rfl ?_).mono ?_
  · intro i V u hV hu
    match i, hV, hu with
    | 0, hV, hu => cases hV; cases hu; exact ⟨_, _, _, rfl, rfl, hv0⟩
    | 1, hV, hu =>
      cases hV; cases hu
      refine ⟨_, _, [.int .i64 id], rfl, rfl, rfl, fun c x hx => ?_⟩
      cases c with
      | zero => cases hx; exact ⟨_, rfl, .sc rfl⟩
      | succ c => cases hx
  · rintro e W' ⟨rfl, hq⟩
    have hl0 : ∀ x ∈ p0, x.block < W.heap.size := fun x hx => hlt0 x (by simp [hx])
    exact ⟨_, rfl, post_of_quiet (pa := p0 ++ []) (pv := []) hW' (fun _ _ _ => (trodAll_cons_mk (shut_bool Try.underlying4 _) trodAll_mk0))
      (fun sp hsp => trodAll_mk2 (hq.trod laidOut (by kernel_rfl) (of_decide_eq_true (by kernel_rfl)) h0k hl0 (fun x hx => hsp x (by simp [hx]))) (shut_int Try.underlying3 w1))
      (fun _ _ => rfl) (by simp) hq (ok_one (by kernel_rfl) rfl (okWide_bool_mk Try.underlying4 _))⟩

set_option maxRecDepth 100000 in
theorem lifted (os : Os) (started : os.Started) (H : Type) (enc : TypeId × Value → H) :
    ReturnsInHanded {} Try.checked os 3 .any (Rows.fnExactOffersToSpec.pre6 enc Try.prog Try.f3 Rows.fnExactOffersToRow.domain false) (Rows.fnExactOffersToSpec.post enc Try.prog Try.f3 false true false false) := by
  refine returnsInHanded_of_change (C := Try.checked) own started (by kernel_rfl) Try.func3
    (ChangeSpec.witness6 (enc := enc) (C := Try.checked) false ⟨#[], #[.slice none 0 0, .int .i64 0], []⟩ 8 (by kernel_rfl) (by kernel_rfl) (by kernel_rfl) (by kernel_rfl)) ?_
  intro W base args ds gs before hval hW _ _
  exact contract H enc W base args ds gs before hval hW

theorem holds : Rows.FnExactOffersToSaid :=
  OpenClaim.holds_of_wide 3 Try.f3 rfl rfl rfl rfl rfl rfl rfl ⟨rfl, rfl, rfl, rfl, rfl⟩ rfl rfl rfl rfl rfl (by kernel_rfl) Try.func3 (by kernel_rfl)
    (of_decide_eq_true (by kernel_rfl)) (by unfold Func.isWrapper; first | (rw [if_pos (by decide +kernel)]; kernel_rfl) | (rw [if_neg (by decide +kernel)]; exact ⟨rfl, rfl⟩))
    (fun os started H enc _ => lifted os started H enc)
#print axioms holds
end Go.Proofs.Ytbhgiebhemcljaa.offersTo
