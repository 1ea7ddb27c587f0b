/-
  The law FnSurvive holds of the program, for all arguments.
-/
import Derived.Test.YtknihindefnhcaaGreatMFnSurvive
set_option linter.all false
namespace Go.Proofs.YtknihindefnhcaaGreat.fnSurvive
open Go Lv Lv.P Go.ChangeShapes Go.WideShapes Go.ChangeAt Go.RowKit

theorem own : ownKnob Tryz.prog.godebug = none := by kernel_rfl
theorem laidOut : laidOutB Tryz.prog = true := by kernel_rfl
set_option maxRecDepth 100000
theorem AU9 {x0 : List UInt8} (h : KV x0 = some true) : K8 H5.x [.v .one [T.sl 1 (x0.map eBr)]] .one [.bool true] [] := H5.ok (x0, ()) true h
section
variable {H : Type} {enc : TypeId × Value → H} {w : World} {base : Nat} {spare : Nat → Bool} {held : Bool}
theorem AU1 : Reads enc Tryz.prog w base spare held 5 eBr okT 1 := .u8 Tryz.underlying5 (by kernel_rfl)
theorem Acw : Reads enc Tryz.prog w base spare held 22 (λl : List UInt8 => [T.sl 1 (l.map eBr)]) (okL okT) 1 := .slice Tryz.underlying22 (by kernel_rfl) (by decide) AU1
end

theorem contract (H : Type) (enc : TypeId × Value → H) (W : World) (base : Nat) (args : Array Value) (ds gs : List (DataW H)) (before : List MemPlace)
    (hval : ∀ (j : Nat) t v, Tryz.f3.params[j]? = some t → args[j]? = some v → Value.okWide Tryz.prog W .any base t v)
    (hW : DataW.Whole enc Tryz.prog Tryz.f3.params.toList Rows.fnSurviveSpec.vars false W args.toList ds gs before) :
    Calls Tryz.prog 3 args W λe W' => ∃ v, e = .returned v ∧ Rows.fnSurviveSpec.post enc Tryz.prog Tryz.f3 false true false false W args v W' := by
  have hW' := hW
  obtain ⟨p, q, hA0, hV, rfl, hfz, hnd⟩ := hW
  have hA : DataW.TrodAll enc Tryz.prog W 0 (λ_ => true) true Tryz.f3.params.toList args.toList ds p := hA0
  obtain ⟨rfl, rfl⟩ := trodVars_none hV
  clear hA0
  simp only [List.append_nil] at hW'
  have hA1 := hA
  rw [Tryz.params3] at hA1 hval
  obtain ⟨v0, vs0, d0, ds0, p0, q0, hargs, rfl, rfl, h0, hA1⟩ := trodAll_cons hA1
  obtain ⟨rfl, rfl, rfl⟩ := trodAll_nil hA1
  obtain rfl : args = #[v0] := by cases args; simp_all
  obtain ⟨a0, len0, cap0, rfl⟩ := okWide_slice Tryz.underlying22 (hval 0 22 v0 rfl rfl)
  obtain ⟨x0, k0, e0⟩ := Acw.one h0 rfl
  refine AS6 (A := (PB Tryz.prog)) AMK laidOut (tb := 4) Tryz.underlying4 rfl (AU9 (pX k0)) Zs (H5.ms.trans rfl) rfl ?_ hW' hA rfl (by rw [Tryz.params3]; exact of_decide_eq_true (by kernel_rfl)) rfl rfl rfl
  intro i V u hV hu
  match i, hV, hu with
  | 0, hV, hu => cases hV; cases hu; exact e0

set_option maxRecDepth 100000 in
theorem lifted (os : Os) (started : os.Started) (H : Type) (enc : TypeId × Value → H) :
    ReturnsInHanded {} Tryz.checked os 3 .any (Rows.fnSurviveSpec.pre6 enc Tryz.prog Tryz.f3 Rows.fnSurviveRow.domain false) (Rows.fnSurviveSpec.post enc Tryz.prog Tryz.f3 false true false false) := by
  refine returnsInHanded_of_change (C := Tryz.checked) own started (by kernel_rfl) Tryz.func3
    (ChangeSpec.witness6 (enc := enc) (C := Tryz.checked) false ⟨#[], #[.slice none 0 0], []⟩ 8 (by kernel_rfl) (by kernel_rfl) (by kernel_rfl) (by kernel_rfl)) ?_
  intro W base args ds gs before hval hW _ _
  exact contract H enc W base args ds gs before hval hW

set_option maxHeartbeats 4000000 in
theorem holds : Rows.FnSurviveSaid :=
  OpenClaim.holds_of_wide 3 Tryz.f3 rfl rfl rfl rfl rfl rfl rfl ⟨rfl, rfl, rfl, rfl, rfl⟩ rfl rfl rfl rfl rfl (by kernel_rfl) Tryz.func3
    (by
      unfold joinedFacts
      simp only [Bool.and_eq_true]
      repeat' with_reducible apply And.intro
      all_goals as_aux_lemma => kernel_rfl)
    (of_decide_eq_true (by kernel_rfl)) (by unfold Func.isWrapper; first | (rw [if_pos (by decide +kernel)]; kernel_rfl) | (rw [if_neg (by decide +kernel)]; exact ⟨rfl, rfl⟩))
    (λos started H enc _ => lifted os started H enc)
#print axioms holds
end Go.Proofs.YtknihindefnhcaaGreat.fnSurvive
