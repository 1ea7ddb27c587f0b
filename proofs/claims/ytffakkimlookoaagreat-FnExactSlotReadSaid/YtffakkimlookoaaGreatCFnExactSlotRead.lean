/-
  The program's SlotRead returns what the reference's returns, for all arguments.
-/
import Derived.Test.YtffakkimlookoaaGreatRows
import Derived.Test.YtffakkimlookoaaGreatKD
import Derived.Test.YtffakkimlookoaaGreatLF
import Derived.Test.YtffakkimlookoaaGreatLvE
import Derived.Test.YtffakkimlookoaaGreatPG
import Derived.Test.YtffakkimlookoaaGreatMFnExactSlotRead
import Derived.WalkKit
import Derived.OpenShut
import Derived.JoinedCond
namespace Go.Proofs.YtffakkimlookoaaGreat.fnExactSlotRead
open Go Lv Lv.P Go.ChangeShapes Go.WideShapes Go.ChangeAt Go.RowKit

theorem own : ownKnob Tryz.prog.godebug = none := by kernel_rfl
theorem laidOut : laidOutB Tryz.prog = true := by kernel_rfl
set_option maxRecDepth 100000
theorem HU {x0 : Be} {x1 : Int} (h : CS x0 x1 = some true) : EB CJ.x [.v .agg (Pq x0), .v .one [T.int .i64 x1]] .one [.bool true] [] := CJ.ok (x0, x1, ()) true h
section
variable {H : Type} {enc : TypeId × Value → H} {w : World} {base : Nat} {spare : Nat → Bool} {held : Bool}
theorem Li : Reads enc Tryz.prog w base spare held 9 eSt okS 1 := .str Tryz.underlying9 (by kernel_rfl)
theorem I6 : Reads enc Tryz.prog w base spare held 3 (fun n : Int => [T.int .i64 n]) okI 1 := .int Tryz.underlying3 (by kernel_rfl)
theorem Fp : Reads enc Tryz.prog w base spare held 38 jD QR 2 := (Reads.struct Tryz.underlying38 (by kernel_rfl) (.cons (by kernel_rfl) Li (.cons (by kernel_rfl) I6 .nil))).map (fun x => ⟨x.1, x.2.1⟩) (fun _ => rfl) (fun _ h => h)
theorem Rm : Reads enc Tryz.prog w base spare held 40 Pq Ld 6 := (Reads.struct Tryz.underlying40 (by kernel_rfl) (.cons (by kernel_rfl) Fp (.cons (by kernel_rfl) Fp (.cons (by kernel_rfl) Fp .nil)))).map (fun x => ⟨x.1, x.2.1, x.2.2.1⟩) (fun _ => rfl) (fun _ h => h)
end

theorem contract (H : Type) (enc : TypeId × Value → H) (W : World) (base : Nat) (args : Array Value) (ds gs : List (DataW H)) (before : List MemPlace)
    (hval : ∀ (j : Nat) t v, Tryz.f9.params[j]? = some t → args[j]? = some v → Value.okWide Tryz.prog W .any base t v)
    (hW : DataW.Whole enc Tryz.prog Tryz.f9.params.toList Rows.fnExactSlotReadSpec.vars false W args.toList ds gs before) :
    Calls Tryz.prog 9 args W fun e W' => ∃ v, e = .returned v ∧ Rows.fnExactSlotReadSpec.post enc Tryz.prog Tryz.f9 false true false false W args v W' := by
  have hW' := hW
  obtain ⟨p, q, hA0, hV, rfl, hfz, hnd⟩ := hW
  have hA : DataW.TrodAll enc Tryz.prog W 0 (fun _ => true) true Tryz.f9.params.toList args.toList ds p := hA0
  obtain ⟨rfl, rfl⟩ := trodVars_none hV
  clear hA0
  simp only [List.append_nil] at hW'
  have hA1 := hA
  rw [Tryz.params9] at hA1 hval
  obtain ⟨v0, vs0, d0, ds0, p0, q0, hargs, rfl, rfl, h0, hA1⟩ := trodAll_cons hA1
  obtain ⟨v1, vs1, d1, ds1, p1, q1, rfl, rfl, rfl, h1, hA1⟩ := trodAll_cons hA1
  obtain ⟨rfl, rfl, rfl⟩ := trodAll_nil hA1
  obtain rfl : args = #[v0, v1] := by cases args; simp_all
  obtain ⟨cs0, rfl, hs0⟩ := okWide_struct Tryz.underlying40 (hval 0 40 v0 rfl rfl)
  obtain ⟨x0, k0, e0⟩ := Rm.agg h0 hs0
  obtain ⟨n1, rfl⟩ := okWide_int Tryz.underlying3 (hval 1 3 v1 rfl rfl)
  obtain ⟨x1, k1, e1⟩ := I6.one h1 rfl
  refine QM (A := (PA Tryz.prog)) QW laidOut (tb := 4) Tryz.underlying4 rfl (HU (Mg k0 k1)) Iu (CJ.ms.trans rfl) rfl ?_ hW' hA rfl (by rw [Tryz.params9]; exact of_decide_eq_true (by kernel_rfl)) rfl rfl rfl
  intro i V u hV hu
  match i, hV, hu with
  | 0, hV, hu => cases hV; cases hu; exact e0
  | 1, hV, hu => cases hV; cases hu; exact e1

set_option maxRecDepth 100000 in
theorem lifted (os : Os) (started : os.Started) (H : Type) (enc : TypeId × Value → H) :
    ReturnsInHanded {} Tryz.checked os 9 .any (Rows.fnExactSlotReadSpec.pre6 enc Tryz.prog Tryz.f9 Rows.fnExactSlotReadRow.domain false) (Rows.fnExactSlotReadSpec.post enc Tryz.prog Tryz.f9 false true false false) := by
  refine returnsInHanded_of_change (C := Tryz.checked) own started (by kernel_rfl) Tryz.func9
    (ChangeSpec.witness6 (enc := enc) (C := Tryz.checked) false ⟨#[], #[.agg #[.string ⟨#[]⟩, .int .i64 0, .string ⟨#[]⟩, .int .i64 0, .string ⟨#[]⟩, .int .i64 0], .int .i64 0], []⟩ 8 (by kernel_rfl) (by kernel_rfl) (by kernel_rfl) (by kernel_rfl)) ?_
  intro W base args ds gs before hval hW _ _
  exact contract H enc W base args ds gs before hval hW

theorem holds : Rows.FnExactSlotReadSaid :=
  OpenClaim.holds_of_wide 9 Tryz.f9 rfl rfl rfl rfl rfl rfl rfl ⟨rfl, rfl, rfl, rfl, rfl⟩ rfl rfl rfl rfl rfl (by kernel_rfl) Tryz.func9 (by kernel_rfl)
    (of_decide_eq_true (by kernel_rfl)) (by unfold Func.isWrapper; first | (rw [if_pos (by decide +kernel)]; kernel_rfl) | (rw [if_neg (by decide +kernel)]; exact ⟨rfl, rfl⟩))
    (fun os started H enc _ => lifted os started H enc)
#print axioms holds
end Go.Proofs.YtffakkimlookoaaGreat.fnExactSlotRead
