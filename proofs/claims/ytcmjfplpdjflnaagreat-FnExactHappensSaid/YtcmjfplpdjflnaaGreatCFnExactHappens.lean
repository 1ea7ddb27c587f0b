/-
  The program's Happens returns what the reference's returns, for all arguments.
-/
import Derived.Test.YtcmjfplpdjflnaaGreatMFnExactHappens
namespace Go.Proofs.YtcmjfplpdjflnaaGreat.fnExactHappens
open Go Lv Lv.P Go.ChangeShapes Go.WideShapes Go.ChangeAt Go.RowKit

theorem own : ownKnob Tryz.prog.godebug = none := by kernel_rfl
theorem laidOut : laidOutB Tryz.prog = true := by kernel_rfl
set_option maxRecDepth 100000
theorem AVE {x0 : CB} {x1 : Iu} (h : GB x0 x1 = some true) : Iv Eh.x [.v .agg (qZ x0), .v .agg (AO6 x1)] .one [.bool true] [] := Eh.ok (x0, x1, ()) true h
section
variable {H : Type} {enc : TypeId × Value → H} {w : World} {base : Nat} {spare : Nat → Bool} {held : Bool}
theorem CW : Reads enc Tryz.prog w base spare held 3 (fun n : Int => [T.int .i64 n]) okI 1 := .int Tryz.underlying3 (by kernel_rfl)
theorem O5 : Reads enc Tryz.prog w base spare held 24 (fun l : List Int => [T.sl 1 (l.map eN)]) (okL okI) 1 := .slice Tryz.underlying24 (by kernel_rfl) (by decide) CW
theorem AM6 : Reads enc Tryz.prog w base spare held 50 AJb AB2 9 := (Reads.struct Tryz.underlying50 (by kernel_rfl) (.cons (by kernel_rfl) O5 (.cons (by kernel_rfl) CW (.cons (by kernel_rfl) CW (.cons (by kernel_rfl) CW (.cons (by kernel_rfl) CW (.cons (by kernel_rfl) CW (.cons (by kernel_rfl) CW (.cons (by kernel_rfl) CW (.cons (by kernel_rfl) CW .nil)))))))))).map (fun x => ⟨x.1, x.2.1, x.2.2.1, x.2.2.2.1, x.2.2.2.2.1, x.2.2.2.2.2.1, x.2.2.2.2.2.2.1, x.2.2.2.2.2.2.2.1, x.2.2.2.2.2.2.2.2.1⟩) (fun _ => rfl) (fun _ h => h)
theorem AGB : Reads enc Tryz.prog w base spare held 291 SI jx 10 := (Reads.struct Tryz.underlying291 (by kernel_rfl) (.cons (by kernel_rfl) CW (.cons (by kernel_rfl) CW (.cons (by kernel_rfl) CW (.cons (by kernel_rfl) CW (.cons (by kernel_rfl) CW (.cons (by kernel_rfl) CW (.cons (by kernel_rfl) CW (.cons (by kernel_rfl) CW (.cons (by kernel_rfl) CW (.cons (by kernel_rfl) CW .nil))))))))))).map (fun x => ⟨x.1, x.2.1, x.2.2.1, x.2.2.2.1, x.2.2.2.2.1, x.2.2.2.2.2.1, x.2.2.2.2.2.2.1, x.2.2.2.2.2.2.2.1, x.2.2.2.2.2.2.2.2.1, x.2.2.2.2.2.2.2.2.2.1⟩) (fun _ => rfl) (fun _ h => h)
theorem AM7 : Reads enc Tryz.prog w base spare held 70 (fun l : List AM => [T.sl 10 (l.map SI)]) (okL jx) 1 := .slice Tryz.underlying70 (by kernel_rfl) (by decide) AGB
theorem AF6 : Reads enc Tryz.prog w base spare held 283 ABB oh 5 := (Reads.struct Tryz.underlying283 (by kernel_rfl) (.cons (by kernel_rfl) CW (.cons (by kernel_rfl) CW (.cons (by kernel_rfl) CW (.cons (by kernel_rfl) CW (.cons (by kernel_rfl) CW .nil)))))).map (fun x => ⟨x.1, x.2.1, x.2.2.1, x.2.2.2.1, x.2.2.2.2.1⟩) (fun _ => rfl) (fun _ h => h)
theorem AGC : Reads enc Tryz.prog w base spare held 351 aI jv 4 := (Reads.struct Tryz.underlying351 (by kernel_rfl) (.cons (by kernel_rfl) CW (.cons (by kernel_rfl) CW (.cons (by kernel_rfl) CW (.cons (by kernel_rfl) CW .nil))))).map (fun x => ⟨x.1, x.2.1, x.2.2.1, x.2.2.2.1⟩) (fun _ => rfl) (fun _ h => h)
theorem AF7 : Reads enc Tryz.prog w base spare held 284 (fun l : List Ad => [T.sl 4 (l.map aI)]) (okL jv) 1 := .slice Tryz.underlying284 (by kernel_rfl) (by decide) AGC
theorem AGE : Reads enc Tryz.prog w base spare held 385 oB jy 2 := (Reads.struct Tryz.underlying385 (by kernel_rfl) (.cons (by kernel_rfl) CW (.cons (by kernel_rfl) CW .nil))).map (fun x => ⟨x.1, x.2.1⟩) (fun _ => rfl) (fun _ h => h)
theorem AGD : Reads enc Tryz.prog w base spare held 367 (fun l : List A7 => [T.sl 2 (l.map oB)]) (okL jy) 1 := .slice Tryz.underlying367 (by kernel_rfl) (by decide) AGE
theorem AF8 : Reads enc Tryz.prog w base spare held 285 (fun l : List (List A7) => [T.sl 1 (l.map (fun l : List A7 => [T.sl 2 (l.map oB)]))]) (okL (okL jy)) 1 := .slice Tryz.underlying285 (by kernel_rfl) (by decide) AGD
theorem AF9 : Reads enc Tryz.prog w base spare held 287 AJd AB4 1 := (Reads.struct Tryz.underlying287 (by kernel_rfl) (.cons (by kernel_rfl) AF8 .nil)).map (fun x => ⟨x.1⟩) (fun _ => rfl) (fun _ h => h)
theorem AGA : Reads enc Tryz.prog w base spare held 289 SH Re 7 := (Reads.struct Tryz.underlying289 (by kernel_rfl) (.cons (by kernel_rfl) AF6 (.cons (by kernel_rfl) AF7 (.cons (by kernel_rfl) AF9 .nil)))).map (fun x => ⟨x.1, x.2.1, x.2.2.1⟩) (fun _ => rfl) (fun _ h => h)
theorem AM8 : Reads enc Tryz.prog w base spare held 71 (fun l : List AX => [T.sl 7 (l.map SH)]) (okL Re) 1 := .slice Tryz.underlying71 (by kernel_rfl) (by decide) AGA
theorem AM9 : Reads enc Tryz.prog w base spare held 73 AJa jw 15 := (Reads.struct Tryz.underlying73 (by kernel_rfl) (.cons (by kernel_rfl) AM6 (.cons (by kernel_rfl) CW (.cons (by kernel_rfl) CW (.cons (by kernel_rfl) AM7 (.cons (by kernel_rfl) AM8 (.cons (by kernel_rfl) O5 (.cons (by kernel_rfl) O5 .nil)))))))).map (fun x => ⟨x.1, x.2.1, x.2.2.1, x.2.2.2.1, x.2.2.2.2.1, x.2.2.2.2.2.1, x.2.2.2.2.2.2.1⟩) (fun _ => rfl) (fun _ h => h)
theorem AU5 : Reads enc Tryz.prog w base spare held 9 eSt okS 1 := .str Tryz.underlying9 (by kernel_rfl)
theorem Yl : Reads enc Tryz.prog w base spare held 74 AO7 aW 2 := (Reads.struct Tryz.underlying74 (by kernel_rfl) (.cons (by kernel_rfl) AU5 (.cons (by kernel_rfl) CW .nil))).map (fun x => ⟨x.1, x.2.1⟩) (fun _ => rfl) (fun _ h => h)
theorem ANA : Reads enc Tryz.prog w base spare held 76 AJc AB3 6 := (Reads.struct Tryz.underlying76 (by kernel_rfl) (.cons (by kernel_rfl) Yl (.cons (by kernel_rfl) Yl (.cons (by kernel_rfl) Yl .nil)))).map (fun x => ⟨x.1, x.2.1, x.2.2.1⟩) (fun _ => rfl) (fun _ h => h)
theorem pI : Reads enc Tryz.prog w base spare held 84 oC jz 6 := (Reads.struct Tryz.underlying84 (by kernel_rfl) (.cons (by kernel_rfl) CW (.cons (by kernel_rfl) CW (.cons (by kernel_rfl) CW (.cons (by kernel_rfl) CW (.cons (by kernel_rfl) CW (.cons (by kernel_rfl) CW .nil))))))).map (fun x => ⟨x.1, x.2.1, x.2.2.1, x.2.2.2.1, x.2.2.2.2.1, x.2.2.2.2.2.1⟩) (fun _ => rfl) (fun _ h => h)
theorem pH : Reads enc Tryz.prog w base spare held 77 (fun l : List Bo => [T.sl 6 (l.map oC)]) (okL jz) 1 := .slice Tryz.underlying77 (by kernel_rfl) (by decide) pI
theorem ANB : Reads enc Tryz.prog w base spare held 79 ABA Yc 23 := (Reads.struct Tryz.underlying79 (by kernel_rfl) (.cons (by kernel_rfl) AM9 (.cons (by kernel_rfl) ANA (.cons (by kernel_rfl) CW (.cons (by kernel_rfl) pH .nil))))).map (fun x => ⟨x.1, x.2.1, x.2.2.1, x.2.2.2.1⟩) (fun _ => rfl) (fun _ h => h)
theorem AF5 : Reads enc Tryz.prog w base spare held 191 aJ WT 2 := (Reads.struct Tryz.underlying191 (by kernel_rfl) (.cons (by kernel_rfl) CW (.cons (by kernel_rfl) O5 .nil))).map (fun x => ⟨x.1, x.2.1⟩) (fun _ => rfl) (fun _ h => h)
theorem ANC : Reads enc Tryz.prog w base spare held 80 (fun l : List Bf => [T.sl 2 (l.map aJ)]) (okL WT) 1 := .slice Tryz.underlying80 (by kernel_rfl) (by decide) AF5
theorem AND : Reads enc Tryz.prog w base spare held 82 qZ j5 26 := (Reads.struct Tryz.underlying82 (by kernel_rfl) (.cons (by kernel_rfl) ANB (.cons (by kernel_rfl) pH (.cons (by kernel_rfl) ANC (.cons (by kernel_rfl) CW .nil))))).map (fun x => ⟨x.1, x.2.1, x.2.2.1, x.2.2.2.1⟩) (fun _ => rfl) (fun _ h => h)
theorem ANE : Reads enc Tryz.prog w base spare held 86 AO6 ATe 9 := (Reads.struct Tryz.underlying86 (by kernel_rfl) (.cons (by kernel_rfl) CW (.cons (by kernel_rfl) pI (.cons (by kernel_rfl) CW (.cons (by kernel_rfl) O5 .nil))))).map (fun x => ⟨x.1, x.2.1, x.2.2.1, x.2.2.2.1⟩) (fun _ => rfl) (fun _ h => h)
end

theorem contract (H : Type) (enc : TypeId × Value → H) (W : World) (base : Nat) (args : Array Value) (ds gs : List (DataW H)) (before : List MemPlace)
    (hval : ∀ (j : Nat) t v, Tryz.f5.params[j]? = some t → args[j]? = some v → Value.okWide Tryz.prog W .any base t v)
    (hW : DataW.Whole enc Tryz.prog Tryz.f5.params.toList Rows.fnExactHappensSpec.vars false W args.toList ds gs before) :
    Calls Tryz.prog 5 args W fun e W' => ∃ v, e = .returned v ∧ Rows.fnExactHappensSpec.post enc Tryz.prog Tryz.f5 false true false false W args v W' := by
  have hW' := hW
  obtain ⟨p, q, hA0, hV, rfl, hfz, hnd⟩ := hW
  have hA : DataW.TrodAll enc Tryz.prog W 0 (fun _ => true) true Tryz.f5.params.toList args.toList ds p := hA0
  obtain ⟨rfl, rfl⟩ := trodVars_none hV
  clear hA0
  simp only [List.append_nil] at hW'
  have hA1 := hA
  rw [Tryz.params5] at hA1 hval
  obtain ⟨v0, vs0, d0, ds0, p0, q0, hargs, rfl, rfl, h0, hA1⟩ := trodAll_cons hA1
  obtain ⟨v1, vs1, d1, ds1, p1, q1, rfl, rfl, rfl, h1, hA1⟩ := trodAll_cons hA1
  obtain ⟨rfl, rfl, rfl⟩ := trodAll_nil hA1
  obtain rfl : args = #[v0, v1] := by cases args; simp_all
  obtain ⟨cs0, rfl, hs0⟩ := okWide_struct Tryz.underlying82 (hval 0 82 v0 rfl rfl)
  obtain ⟨x0, k0, e0⟩ := AND.agg h0 hs0
  obtain ⟨cs1, rfl, hs1⟩ := okWide_struct Tryz.underlying86 (hval 1 86 v1 rfl rfl)
  obtain ⟨x1, k1, e1⟩ := ANE.agg h1 hs1
  refine ATG (A := (PB Tryz.prog)) ALi laidOut (tb := 4) Tryz.underlying4 rfl (AVE (TS k0 k1)) Px (Eh.ms.trans rfl) rfl ?_ hW' hA rfl (by rw [Tryz.params5]; exact of_decide_eq_true (by kernel_rfl)) rfl rfl rfl
  intro i V u hV hu
  match i, hV, hu with
  | 0, hV, hu => cases hV; cases hu; exact e0
  | 1, hV, hu => cases hV; cases hu; exact e1

set_option maxRecDepth 100000 in
theorem lifted (os : Os) (started : os.Started) (H : Type) (enc : TypeId × Value → H) :
    ReturnsInHanded {} Tryz.checked os 5 .any (Rows.fnExactHappensSpec.pre6 enc Tryz.prog Tryz.f5 Rows.fnExactHappensRow.domain false) (Rows.fnExactHappensSpec.post enc Tryz.prog Tryz.f5 false true false false) := by
  refine returnsInHanded_of_change (C := Tryz.checked) own started (by kernel_rfl) Tryz.func5
    (ChangeSpec.witness6 (enc := enc) (C := Tryz.checked) false ⟨#[], #[.agg #[.slice none 0 0, .int .i64 0, .int .i64 0, .int .i64 0, .int .i64 0, .int .i64 0, .int .i64 0, .int .i64 0, .int .i64 0, .int .i64 0, .int .i64 0, .slice none 0 0, .slice none 0 0, .slice none 0 0, .slice none 0 0, .string ⟨#[]⟩, .int .i64 0, .string ⟨#[]⟩, .int .i64 0, .string ⟨#[]⟩, .int .i64 0, .int .i64 0, .slice none 0 0, .slice none 0 0, .slice none 0 0, .int .i64 0], .agg #[.int .i64 0, .int .i64 0, .int .i64 0, .int .i64 0, .int .i64 0, .int .i64 0, .int .i64 0, .int .i64 0, .slice none 0 0]], []⟩ 8 (by kernel_rfl) (by kernel_rfl) (by kernel_rfl) (by kernel_rfl)) ?_
  intro W base args ds gs before hval hW _ _
  exact contract H enc W base args ds gs before hval hW

set_option maxHeartbeats 4000000 in
theorem holds : Rows.FnExactHappensSaid :=
  OpenClaim.holds_of_wide 5 Tryz.f5 rfl rfl rfl rfl rfl rfl rfl ⟨rfl, rfl, rfl, rfl, rfl⟩ rfl rfl rfl rfl rfl (by kernel_rfl) Tryz.func5
    (by
      unfold joinedFacts
      simp only [Bool.and_eq_true]
      repeat' with_reducible apply And.intro
      all_goals as_aux_lemma => kernel_rfl)
    (of_decide_eq_true (by kernel_rfl)) (by unfold Func.isWrapper; first | (rw [if_pos (by decide +kernel)]; kernel_rfl) | (rw [if_neg (by decide +kernel)]; exact ⟨rfl, rfl⟩))
    (fun os started H enc _ => lifted os started H enc)
#print axioms holds
end Go.Proofs.YtcmjfplpdjflnaaGreat.fnExactHappens
