/-
  The program's MovedFrom returns what the reference's returns, for all arguments.
-/
import Derived.Test.YtbhgiebhemcljaaMt
import Derived.WalkKit
import Derived.OpenShut
import Derived.JoinedCond
namespace Go.Proofs.Ytbhgiebhemcljaa.fnExactMovedFrom
open Go Lv Go.ChangeShapes Go.WideShapes Go.ChangeAt Go.RowKit

theorem own : ownKnob Try.prog.godebug = none := by kernel_rfl
theorem laidOut : laidOutB Try.prog = true := by kernel_rfl
section
variable {H : Type} {enc : TypeId × Value → H} {w : World} {base : Nat} {spare : Nat → Bool} {held : Bool}
theorem reads_t3 : Reads enc Try.prog w base spare held 3 (fun n : Int => [T.int .i64 n]) okI 1 := .int Try.underlying3 (by kernel_rfl)
theorem reads_t53 : Reads enc Try.prog w base spare held 53 eGReq okGReq 6 := (Reads.struct Try.underlying53 (by kernel_rfl) (.cons (by kernel_rfl) reads_t3 (.cons (by kernel_rfl) reads_t3 (.cons (by kernel_rfl) reads_t3 (.cons (by kernel_rfl) reads_t3 (.cons (by kernel_rfl) reads_t3 (.cons (by kernel_rfl) reads_t3 .nil))))))).map (fun x => ⟨x.1, x.2.1, x.2.2.1, x.2.2.2.1, x.2.2.2.2.1, x.2.2.2.2.2.1⟩) (fun _ => rfl) (fun _ h => h)
theorem reads_t29 : Reads enc Try.prog w base spare held 29 (fun l : List GReq => [T.sl 6 (l.map eGReq)]) (okL okGReq) 1 := .slice Try.underlying29 (by kernel_rfl) (by decide) reads_t53
theorem reads_t45 : Reads enc Try.prog w base spare held 45 (fun l : List Int => [T.sl 1 (l.map eN)]) (okL okI) 1 := .slice Try.underlying45 (by kernel_rfl) (by decide) reads_t3
theorem reads_t47 : Reads enc Try.prog w base spare held 47 eGReply okGReply 2 := (Reads.struct Try.underlying47 (by kernel_rfl) (.cons (by kernel_rfl) reads_t3 (.cons (by kernel_rfl) reads_t45 .nil))).map (fun x => ⟨x.1, x.2.1⟩) (fun _ => rfl) (fun _ h => h)
theorem reads_t22 : Reads enc Try.prog w base spare held 22 (fun l : List GReply => [T.sl 2 (l.map eGReply)]) (okL okGReply) 1 := .slice Try.underlying22 (by kernel_rfl) (by decide) reads_t47
end

theorem contract (H : Type) (enc : TypeId × Value → H) (W : World) (base : Nat) (args : Array Value) (ds gs : List (DataW H)) (before : List MemPlace)
    (hval : ∀ (j : Nat) t v, Try.f7.params[j]? = some t → args[j]? = some v → Value.okWide Try.prog W .any base t v)
    (hW : DataW.Whole enc Try.prog Try.f7.params.toList Rows.fnExactMovedFromSpec.vars false W args.toList ds gs before) :
    Calls Try.prog 7 args W fun e W' => ∃ v, e = .returned v ∧ Rows.fnExactMovedFromSpec.post enc Try.prog Try.f7 false true false false W args v W' := by
  have hW' := hW
  obtain ⟨p, q, hA0, hV, rfl, hfz, hnd⟩ := hW
  have hA : DataW.TrodAll enc Try.prog W 0 (fun _ => true) true Try.f7.params.toList args.toList ds p := hA0
  obtain ⟨rfl, rfl⟩ := trodVars_none hV
  clear hA0
  simp only [List.append_nil] at hW'
  have hA1 := hA
  rw [Try.params7] at hA1 hval
  obtain ⟨v0, vs0, d0, ds0, p0, q0, hargs, rfl, rfl, h0, hA1⟩ := trodAll_cons hA1
  obtain ⟨v1, vs1, d1, ds1, p1, q1, rfl, rfl, rfl, h1, hA1⟩ := trodAll_cons hA1
  obtain ⟨v2, vs2, d2, ds2, p2, q2, rfl, rfl, rfl, h2, hA1⟩ := trodAll_cons hA1
  obtain ⟨rfl, rfl, rfl⟩ := trodAll_nil hA1
  obtain rfl : args = #[v0, v1, v2] := by cases args; simp_all
  obtain ⟨a0, len0, cap0, rfl⟩ := okWide_slice Try.underlying29 (hval 0 29 v0 rfl rfl)
  obtain ⟨x0, k0, e0⟩ := reads_t29.one h0 rfl
  obtain ⟨a1, len1, cap1, rfl⟩ := okWide_slice Try.underlying22 (hval 1 22 v1 rfl rfl)
  obtain ⟨x1, k1, e1⟩ := reads_t22.one h1 rfl
  obtain ⟨n2, rfl⟩ := okWide_int Try.underlying3 (hval 2 3 v2 rfl rfl)
  obtain ⟨x2, k2, e2⟩ := reads_t3.one h2 rfl
  refine law_post (A := (fun _ _ _ => False)) prims_none laidOut (tb := 4) Try.underlying4 rfl (run_laws_FnExactMovedFrom (p0 := x0) (p1 := x1) (p2 := x2) (r := true) (Law_FnExactMovedFrom k0 k1 k2)) mt_laws_FnExactMovedFrom rfl rfl ?_ hW' hA rfl (by rw [Try.params7]; exact of_decide_eq_true (by kernel_rfl)) rfl rfl rfl
  intro i V u hV hu
  match i, hV, hu with
  | 0, hV, hu => cases hV; cases hu; exact e0
  | 1, hV, hu => cases hV; cases hu; exact e1
  | 2, hV, hu => cases hV; cases hu; exact e2

set_option maxRecDepth 100000 in
theorem lifted (os : Os) (started : os.Started) (H : Type) (enc : TypeId × Value → H) :
    ReturnsInHanded {} Try.checked os 7 .any (Rows.fnExactMovedFromSpec.pre6 enc Try.prog Try.f7 Rows.fnExactMovedFromRow.domain false) (Rows.fnExactMovedFromSpec.post enc Try.prog Try.f7 false true false false) := by
  refine returnsInHanded_of_change (C := Try.checked) own started (by kernel_rfl) Try.func7
    (ChangeSpec.witness6 (enc := enc) (C := Try.checked) false ⟨#[], #[.slice none 0 0, .slice none 0 0, .int .i64 0], []⟩ 8 (by kernel_rfl) (by kernel_rfl) (by kernel_rfl) (by kernel_rfl)) ?_
  intro W base args ds gs before hval hW _ _
  exact contract H enc W base args ds gs before hval hW

theorem holds : Rows.FnExactMovedFromSaid :=
  OpenClaim.holds_of_wide 7 Try.f7 rfl rfl rfl rfl rfl rfl rfl ⟨rfl, rfl, rfl, rfl, rfl⟩ rfl rfl rfl rfl rfl (by kernel_rfl) Try.func7 (by kernel_rfl)
    (of_decide_eq_true (by kernel_rfl)) (by unfold Func.isWrapper; first | (rw [if_pos (by decide +kernel)]; kernel_rfl) | (rw [if_neg (by decide +kernel)]; exact ⟨rfl, rfl⟩))
    (fun os started H enc _ => lifted os started H enc)
#print axioms holds
end Go.Proofs.Ytbhgiebhemcljaa.fnExactMovedFrom
