/-
  The program's Played returns what the reference's returns, for all arguments.
-/
import Derived.Test.YtcmjfplpdjflnaaGreatMFnExactPlayed
namespace Go.Proofs.YtcmjfplpdjflnaaGreat.fnExactPlayed
open Go Lv Lv.P Go.ChangeShapes Go.WideShapes Go.ChangeAt Go.RowKit

theorem own : ownKnob Tryz.prog.godebug = none := by kernel_rfl
theorem laidOut : laidOutB Tryz.prog = true := by kernel_rfl
set_option maxRecDepth 100000
theorem AUe {x0 : Aa} {x1 : List Cw} (h : Ge x0 x1 = some true) : I8 Ew.x [.v .agg (qJ x0), .v .one [T.sl 9 (x1.map AIy)]] .one [.bool true] [] := Ew.ok (x0, x1, ()) true h
section
variable {H : Type} {enc : TypeId × Value → H} {w : World} {base : Nat} {spare : Nat → Bool} {held : Bool}
theorem FQ : Reads enc Tryz.prog w base spare held 3 (fun n : Int => [T.int .i64 n]) okI 1 := .int Tryz.underlying3 (by kernel_rfl)
theorem n8 : Reads enc Tryz.prog w base spare held 24 (fun l : List Int => [T.sl 1 (l.map eN)]) (okL okI) 1 := .slice Tryz.underlying24 (by kernel_rfl) (by decide) FQ
theorem AMi : Reads enc Tryz.prog w base spare held 50 qJ ABm 9 := (Reads.struct Tryz.underlying50 (by kernel_rfl) (.cons (by kernel_rfl) n8 (.cons (by kernel_rfl) FQ (.cons (by kernel_rfl) FQ (.cons (by kernel_rfl) FQ (.cons (by kernel_rfl) FQ (.cons (by kernel_rfl) FQ (.cons (by kernel_rfl) FQ (.cons (by kernel_rfl) FQ (.cons (by kernel_rfl) FQ .nil)))))))))).map (fun x => ⟨x.1, x.2.1, x.2.2.1, x.2.2.2.1, x.2.2.2.2.1, x.2.2.2.2.2.1, x.2.2.2.2.2.2.1, x.2.2.2.2.2.2.2.1, x.2.2.2.2.2.2.2.2.1⟩) (fun _ => rfl) (fun _ h => h)
theorem AMk : Reads enc Tryz.prog w base spare held 84 AAv AS5 6 := (Reads.struct Tryz.underlying84 (by kernel_rfl) (.cons (by kernel_rfl) FQ (.cons (by kernel_rfl) FQ (.cons (by kernel_rfl) FQ (.cons (by kernel_rfl) FQ (.cons (by kernel_rfl) FQ (.cons (by kernel_rfl) FQ .nil))))))).map (fun x => ⟨x.1, x.2.1, x.2.2.1, x.2.2.2.1, x.2.2.2.2.1, x.2.2.2.2.2.1⟩) (fun _ => rfl) (fun _ h => h)
theorem AMl : Reads enc Tryz.prog w base spare held 86 AIy tO 9 := (Reads.struct Tryz.underlying86 (by kernel_rfl) (.cons (by kernel_rfl) FQ (.cons (by kernel_rfl) AMk (.cons (by kernel_rfl) FQ (.cons (by kernel_rfl) n8 .nil))))).map (fun x => ⟨x.1, x.2.1, x.2.2.1, x.2.2.2.1⟩) (fun _ => rfl) (fun _ h => h)
theorem AMj : Reads enc Tryz.prog w base spare held 51 (fun l : List Cw => [T.sl 9 (l.map AIy)]) (okL tO) 1 := .slice Tryz.underlying51 (by kernel_rfl) (by decide) AMl
end

theorem contract (H : Type) (enc : TypeId × Value → H) (W : World) (base : Nat) (args : Array Value) (ds gs : List (DataW H)) (before : List MemPlace)
    (hval : ∀ (j : Nat) t v, Tryz.f4.params[j]? = some t → args[j]? = some v → Value.okWide Tryz.prog W .any base t v)
    (hW : DataW.Whole enc Tryz.prog Tryz.f4.params.toList Rows.fnExactPlayedSpec.vars false W args.toList ds gs before) :
    Calls Tryz.prog 4 args W fun e W' => ∃ v, e = .returned v ∧ Rows.fnExactPlayedSpec.post enc Tryz.prog Tryz.f4 false true false false W args v W' := by
  have hW' := hW
  obtain ⟨p, q, hA0, hV, rfl, hfz, hnd⟩ := hW
  have hA : DataW.TrodAll enc Tryz.prog W 0 (fun _ => true) true Tryz.f4.params.toList args.toList ds p := hA0
  obtain ⟨rfl, rfl⟩ := trodVars_none hV
  clear hA0
  simp only [List.append_nil] at hW'
  have hA1 := hA
  rw [Tryz.params4] at hA1 hval
  obtain ⟨v0, vs0, d0, ds0, p0, q0, hargs, rfl, rfl, h0, hA1⟩ := trodAll_cons hA1
  obtain ⟨v1, vs1, d1, ds1, p1, q1, rfl, rfl, rfl, h1, hA1⟩ := trodAll_cons hA1
  obtain ⟨rfl, rfl, rfl⟩ := trodAll_nil hA1
  obtain rfl : args = #[v0, v1] := by cases args; simp_all
  obtain ⟨cs0, rfl, hs0⟩ := okWide_struct Tryz.underlying50 (hval 0 50 v0 rfl rfl)
  obtain ⟨x0, k0, e0⟩ := AMi.agg h0 hs0
  obtain ⟨a1, Li, cap1, rfl⟩ := okWide_slice Tryz.underlying51 (hval 1 51 v1 rfl rfl)
  obtain ⟨x1, k1, e1⟩ := AMj.one h1 rfl
  refine ASh (A := (PB Tryz.prog)) ALK laidOut (tb := 4) Tryz.underlying4 rfl (AUe (US k0 k1)) Qn (Ew.ms.trans rfl) rfl ?_ hW' hA rfl (by rw [Tryz.params4]; exact of_decide_eq_true (by kernel_rfl)) rfl rfl rfl
  intro i V u hV hu
  match i, hV, hu with
  | 0, hV, hu => cases hV; cases hu; exact e0
  | 1, hV, hu => cases hV; cases hu; exact e1

set_option maxRecDepth 100000 in
theorem lifted (os : Os) (started : os.Started) (H : Type) (enc : TypeId × Value → H) :
    ReturnsInHanded {} Tryz.checked os 4 .any (Rows.fnExactPlayedSpec.pre6 enc Tryz.prog Tryz.f4 Rows.fnExactPlayedRow.domain false) (Rows.fnExactPlayedSpec.post enc Tryz.prog Tryz.f4 false true false false) := by
  refine returnsInHanded_of_change (C := Tryz.checked) own started (by kernel_rfl) Tryz.func4
    (ChangeSpec.witness6 (enc := enc) (C := Tryz.checked) false ⟨#[], #[.agg #[.slice none 0 0, .int .i64 0, .int .i64 0, .int .i64 0, .int .i64 0, .int .i64 0, .int .i64 0, .int .i64 0, .int .i64 0], .slice none 0 0], []⟩ 8 (by kernel_rfl) (by kernel_rfl) (by kernel_rfl) (by kernel_rfl)) ?_
  intro W base args ds gs before hval hW _ _
  exact contract H enc W base args ds gs before hval hW

set_option maxHeartbeats 4000000 in
theorem holds : Rows.FnExactPlayedSaid :=
  OpenClaim.holds_of_wide 4 Tryz.f4 rfl rfl rfl rfl rfl rfl rfl ⟨rfl, rfl, rfl, rfl, rfl⟩ rfl rfl rfl rfl rfl (by kernel_rfl) Tryz.func4
    (by
      unfold joinedFacts
      simp only [Bool.and_eq_true]
      repeat' with_reducible apply And.intro
      all_goals as_aux_lemma => kernel_rfl)
    (of_decide_eq_true (by kernel_rfl)) (by unfold Func.isWrapper; first | (rw [if_pos (by decide +kernel)]; kernel_rfl) | (rw [if_neg (by decide +kernel)]; exact ⟨rfl, rfl⟩))
    (fun os started H enc _ => lifted os started H enc)
#print axioms holds
end Go.Proofs.YtcmjfplpdjflnaaGreat.fnExactPlayed
