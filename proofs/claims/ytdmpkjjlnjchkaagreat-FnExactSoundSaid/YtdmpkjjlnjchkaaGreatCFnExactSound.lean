/-
  The program's Sound returns what the reference's returns, for all arguments.
-/
import Derived.Test.YtdmpkjjlnjchkaaGreatMFnExactSound
namespace Go.Proofs.YtdmpkjjlnjchkaaGreat.fnExactSound
open Go Lv Lv.P Go.ChangeShapes Go.WideShapes Go.ChangeAt Go.RowKit

theorem own : ownKnob Tryz.prog.godebug = none := by kernel_rfl
theorem laidOut : laidOutB Tryz.prog = true := by kernel_rfl
set_option maxRecDepth 100000
theorem Fq {x0 : Ae} (h : Hz x0 = some true) : IM Fl.x [.v .agg (T0 x0)] .one [.bool true] [] := Fl.ok (x0, ()) true h
section
variable {H : Type} {enc : TypeId × Value → H} {w : World} {base : Nat} {spare : Nat → Bool} {held : Bool}
theorem Ax : Reads enc Tryz.prog w base spare held 3 (fun n : Int => [T.int .i64 n]) okI 1 := .int Tryz.underlying3 (by kernel_rfl)
theorem Gj : Reads enc Tryz.prog w base spare held 24 (fun l : List Int => [T.sl 1 (l.map eN)]) (okL okI) 1 := .slice Tryz.underlying24 (by kernel_rfl) (by decide) Ax
theorem UZ : Reads enc Tryz.prog w base spare held 64 oh jA 9 := (Reads.struct Tryz.underlying64 (by kernel_rfl) (.cons (by kernel_rfl) Gj (.cons (by kernel_rfl) Ax (.cons (by kernel_rfl) Ax (.cons (by kernel_rfl) Ax (.cons (by kernel_rfl) Ax (.cons (by kernel_rfl) Ax (.cons (by kernel_rfl) Ax (.cons (by kernel_rfl) Ax (.cons (by kernel_rfl) Ax .nil)))))))))).map (fun x => ⟨x.1, x.2.1, x.2.2.1, x.2.2.2.1, x.2.2.2.2.1, x.2.2.2.2.2.1, x.2.2.2.2.2.2.1, x.2.2.2.2.2.2.2.1, x.2.2.2.2.2.2.2.2.1⟩) (fun _ => rfl) (fun _ h => h)
theorem Qv : Reads enc Tryz.prog w base spare held 260 NM Qk 10 := (Reads.struct Tryz.underlying260 (by kernel_rfl) (.cons (by kernel_rfl) Ax (.cons (by kernel_rfl) Ax (.cons (by kernel_rfl) Ax (.cons (by kernel_rfl) Ax (.cons (by kernel_rfl) Ax (.cons (by kernel_rfl) Ax (.cons (by kernel_rfl) Ax (.cons (by kernel_rfl) Ax (.cons (by kernel_rfl) Ax (.cons (by kernel_rfl) Ax .nil))))))))))).map (fun x => ⟨x.1, x.2.1, x.2.2.1, x.2.2.2.1, x.2.2.2.2.1, x.2.2.2.2.2.1, x.2.2.2.2.2.2.1, x.2.2.2.2.2.2.2.1, x.2.2.2.2.2.2.2.2.1, x.2.2.2.2.2.2.2.2.2.1⟩) (fun _ => rfl) (fun _ h => h)
theorem Ua : Reads enc Tryz.prog w base spare held 65 (fun l : List AK => [T.sl 10 (l.map NM)]) (okL Qk) 1 := .slice Tryz.underlying65 (by kernel_rfl) (by decide) Qv
theorem Qq : Reads enc Tryz.prog w base spare held 252 iQ af 5 := (Reads.struct Tryz.underlying252 (by kernel_rfl) (.cons (by kernel_rfl) Ax (.cons (by kernel_rfl) Ax (.cons (by kernel_rfl) Ax (.cons (by kernel_rfl) Ax (.cons (by kernel_rfl) Ax .nil)))))).map (fun x => ⟨x.1, x.2.1, x.2.2.1, x.2.2.2.1, x.2.2.2.2.1⟩) (fun _ => rfl) (fun _ h => h)
theorem Qw : Reads enc Tryz.prog w base spare held 338 RR Qj 4 := (Reads.struct Tryz.underlying338 (by kernel_rfl) (.cons (by kernel_rfl) Ax (.cons (by kernel_rfl) Ax (.cons (by kernel_rfl) Ax (.cons (by kernel_rfl) Ax .nil))))).map (fun x => ⟨x.1, x.2.1, x.2.2.1, x.2.2.2.1⟩) (fun _ => rfl) (fun _ h => h)
theorem Qr : Reads enc Tryz.prog w base spare held 253 (fun l : List Ad => [T.sl 4 (l.map RR)]) (okL Qj) 1 := .slice Tryz.underlying253 (by kernel_rfl) (by decide) Qw
theorem Qy : Reads enc Tryz.prog w base spare held 374 Wa Ql 2 := (Reads.struct Tryz.underlying374 (by kernel_rfl) (.cons (by kernel_rfl) Ax (.cons (by kernel_rfl) Ax .nil))).map (fun x => ⟨x.1, x.2.1⟩) (fun _ => rfl) (fun _ h => h)
theorem Qx : Reads enc Tryz.prog w base spare held 357 (fun l : List A6 => [T.sl 2 (l.map Wa)]) (okL Ql) 1 := .slice Tryz.underlying357 (by kernel_rfl) (by decide) Qy
theorem Qs : Reads enc Tryz.prog w base spare held 254 (fun l : List (List A6) => [T.sl 1 (l.map (fun l : List A6 => [T.sl 2 (l.map Wa)]))]) (okL (okL Ql)) 1 := .slice Tryz.underlying254 (by kernel_rfl) (by decide) Qx
theorem Qt : Reads enc Tryz.prog w base spare held 256 ot jB 1 := (Reads.struct Tryz.underlying256 (by kernel_rfl) (.cons (by kernel_rfl) Qs .nil)).map (fun x => ⟨x.1⟩) (fun _ => rfl) (fun _ h => h)
theorem Qu : Reads enc Tryz.prog w base spare held 258 NL Lx 7 := (Reads.struct Tryz.underlying258 (by kernel_rfl) (.cons (by kernel_rfl) Qq (.cons (by kernel_rfl) Qr (.cons (by kernel_rfl) Qt .nil)))).map (fun x => ⟨x.1, x.2.1, x.2.2.1⟩) (fun _ => rfl) (fun _ h => h)
theorem Ub : Reads enc Tryz.prog w base spare held 66 (fun l : List AY => [T.sl 7 (l.map NL)]) (okL Lx) 1 := .slice Tryz.underlying66 (by kernel_rfl) (by decide) Qu
theorem Uc : Reads enc Tryz.prog w base spare held 68 oe Zm 15 := (Reads.struct Tryz.underlying68 (by kernel_rfl) (.cons (by kernel_rfl) UZ (.cons (by kernel_rfl) Ax (.cons (by kernel_rfl) Ax (.cons (by kernel_rfl) Ua (.cons (by kernel_rfl) Ub (.cons (by kernel_rfl) Gj (.cons (by kernel_rfl) Gj .nil)))))))).map (fun x => ⟨x.1, x.2.1, x.2.2.1, x.2.2.2.1, x.2.2.2.2.1, x.2.2.2.2.2.1, x.2.2.2.2.2.2.1⟩) (fun _ => rfl) (fun _ h => h)
theorem Js : Reads enc Tryz.prog w base spare held 9 eSt okS 1 := .str Tryz.underlying9 (by kernel_rfl)
theorem Dk : Reads enc Tryz.prog w base spare held 46 cQ PG 2 := (Reads.struct Tryz.underlying46 (by kernel_rfl) (.cons (by kernel_rfl) Js (.cons (by kernel_rfl) Ax .nil))).map (fun x => ⟨x.1, x.2.1⟩) (fun _ => rfl) (fun _ h => h)
theorem II : Reads enc Tryz.prog w base spare held 48 NN Jr 6 := (Reads.struct Tryz.underlying48 (by kernel_rfl) (.cons (by kernel_rfl) Dk (.cons (by kernel_rfl) Dk (.cons (by kernel_rfl) Dk .nil)))).map (fun x => ⟨x.1, x.2.1, x.2.2.1⟩) (fun _ => rfl) (fun _ h => h)
theorem Pd : Reads enc Tryz.prog w base spare held 72 Xd Vx 6 := (Reads.struct Tryz.underlying72 (by kernel_rfl) (.cons (by kernel_rfl) Ax (.cons (by kernel_rfl) Ax (.cons (by kernel_rfl) Ax (.cons (by kernel_rfl) Ax (.cons (by kernel_rfl) Ax (.cons (by kernel_rfl) Ax .nil))))))).map (fun x => ⟨x.1, x.2.1, x.2.2.1, x.2.2.2.1, x.2.2.2.2.1, x.2.2.2.2.2.1⟩) (fun _ => rfl) (fun _ h => h)
theorem Pc : Reads enc Tryz.prog w base spare held 69 (fun l : List BX => [T.sl 6 (l.map Xd)]) (okL Vx) 1 := .slice Tryz.underlying69 (by kernel_rfl) (by decide) Pd
theorem Ud : Reads enc Tryz.prog w base spare held 71 T0 M9 23 := (Reads.struct Tryz.underlying71 (by kernel_rfl) (.cons (by kernel_rfl) Uc (.cons (by kernel_rfl) II (.cons (by kernel_rfl) Ax (.cons (by kernel_rfl) Pc .nil))))).map (fun x => ⟨x.1, x.2.1, x.2.2.1, x.2.2.2.1⟩) (fun _ => rfl) (fun _ h => h)
end

theorem contract (H : Type) (enc : TypeId × Value → H) (W : World) (base : Nat) (args : Array Value) (ds gs : List (DataW H)) (before : List MemPlace)
    (hval : ∀ (j : Nat) t v, Tryz.f10.params[j]? = some t → args[j]? = some v → Value.okWide Tryz.prog W .any base t v)
    (hW : DataW.Whole enc Tryz.prog Tryz.f10.params.toList Rows.fnExactSoundSpec.vars false W args.toList ds gs before) :
    Calls Tryz.prog 10 args W fun e W' => ∃ v, e = .returned v ∧ Rows.fnExactSoundSpec.post enc Tryz.prog Tryz.f10 false true false false W args v W' := by
  have hW' := hW
  obtain ⟨p, q, hA0, hV, rfl, hfz, hnd⟩ := hW
  have hA : DataW.TrodAll enc Tryz.prog W 0 (fun _ => true) true Tryz.f10.params.toList args.toList ds p := hA0
  obtain ⟨rfl, rfl⟩ := trodVars_none hV
  clear hA0
  simp only [List.append_nil] at hW'
  have hA1 := hA
  rw [Tryz.params10] at hA1 hval
  obtain ⟨v0, vs0, d0, ds0, p0, q0, hargs, rfl, rfl, h0, hA1⟩ := trodAll_cons hA1
  obtain ⟨rfl, rfl, rfl⟩ := trodAll_nil hA1
  obtain rfl : args = #[v0] := by cases args; simp_all
  obtain ⟨cs0, rfl, hs0⟩ := okWide_struct Tryz.underlying71 (hval 0 71 v0 rfl rfl)
  obtain ⟨x0, k0, e0⟩ := Ud.agg h0 hs0
  refine Lt (A := (PB Tryz.prog)) J2 laidOut (tb := 4) Tryz.underlying4 rfl (Fq (j6 k0)) Zh (Fl.ms.trans rfl) rfl ?_ hW' hA rfl (by rw [Tryz.params10]; exact of_decide_eq_true (by kernel_rfl)) rfl rfl rfl
  intro i V u hV hu
  match i, hV, hu with
  | 0, hV, hu => cases hV; cases hu; exact e0

set_option maxRecDepth 100000 in
theorem lifted (os : Os) (started : os.Started) (H : Type) (enc : TypeId × Value → H) :
    ReturnsInHanded {} Tryz.checked os 10 .any (Rows.fnExactSoundSpec.pre6 enc Tryz.prog Tryz.f10 Rows.fnExactSoundRow.domain false) (Rows.fnExactSoundSpec.post enc Tryz.prog Tryz.f10 false true false false) := by
  refine returnsInHanded_of_change (C := Tryz.checked) own started (by kernel_rfl) Tryz.func10
    (ChangeSpec.witness6 (enc := enc) (C := Tryz.checked) false ⟨#[], #[.agg #[.slice none 0 0, .int .i64 0, .int .i64 0, .int .i64 0, .int .i64 0, .int .i64 0, .int .i64 0, .int .i64 0, .int .i64 0, .int .i64 0, .int .i64 0, .slice none 0 0, .slice none 0 0, .slice none 0 0, .slice none 0 0, .string ⟨#[]⟩, .int .i64 0, .string ⟨#[]⟩, .int .i64 0, .string ⟨#[]⟩, .int .i64 0, .int .i64 0, .slice none 0 0]], []⟩ 8 (by kernel_rfl) (by kernel_rfl) (by kernel_rfl) (by kernel_rfl)) ?_
  intro W base args ds gs before hval hW _ _
  exact contract H enc W base args ds gs before hval hW

set_option maxHeartbeats 4000000 in
theorem holds : Rows.FnExactSoundSaid :=
  OpenClaim.holds_of_wide 10 Tryz.f10 rfl rfl rfl rfl rfl rfl rfl ⟨rfl, rfl, rfl, rfl, rfl⟩ rfl rfl rfl rfl rfl (by kernel_rfl) Tryz.func10
    (by
      unfold joinedFacts
      simp only [Bool.and_eq_true]
      repeat' with_reducible apply And.intro
      all_goals as_aux_lemma => kernel_rfl)
    (of_decide_eq_true (by kernel_rfl)) (by unfold Func.isWrapper; first | (rw [if_pos (by decide +kernel)]; kernel_rfl) | (rw [if_neg (by decide +kernel)]; exact ⟨rfl, rfl⟩))
    (fun os started H enc _ => lifted os started H enc)
#print axioms holds
end Go.Proofs.YtdmpkjjlnjchkaaGreat.fnExactSound
