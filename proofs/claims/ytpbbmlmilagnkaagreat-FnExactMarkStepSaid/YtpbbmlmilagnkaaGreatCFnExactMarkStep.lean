/-
  The program's MarkStep returns what the reference's returns, for all arguments.
-/
import Derived.Test.YtpbbmlmilagnkaaGreatMFnExactMarkStep
namespace Go.Proofs.YtpbbmlmilagnkaaGreat.fnExactMarkStep
open Go Lv Lv.P Go.ChangeShapes Go.WideShapes Go.ChangeAt Go.RowKit

theorem own : ownKnob Tryz.prog.godebug = none := by kernel_rfl
theorem laidOut : laidOutB Tryz.prog = true := by kernel_rfl
set_option maxRecDepth 100000
theorem Y9 {x0 : Ay} {x1 : Int} (h : Ee x0 x1 = some true) : HE Dn.x [.v .agg (Nm x0), .v .one [T.int .i64 x1]] .one [.bool true] [] := Dn.ok (x0, x1, ()) true h
section
variable {H : Type} {enc : TypeId × Value → H} {w : World} {base : Nat} {spare : Nat → Bool} {held : Bool}
theorem BA : Reads enc Tryz.prog w base spare held 3 (fun n : Int => [T.int .i64 n]) okI 1 := .int Tryz.underlying3 (by kernel_rfl)
theorem Ig : Reads enc Tryz.prog w base spare held 22 (fun l : List Int => [T.sl 1 (l.map eN)]) (okL okI) 1 := .slice Tryz.underlying22 (by kernel_rfl) (by decide) BA
theorem TM : Reads enc Tryz.prog w base spare held 24 dO Yb 9 := (Reads.struct Tryz.underlying24 (by kernel_rfl) (.cons (by kernel_rfl) Ig (.cons (by kernel_rfl) BA (.cons (by kernel_rfl) BA (.cons (by kernel_rfl) BA (.cons (by kernel_rfl) BA (.cons (by kernel_rfl) BA (.cons (by kernel_rfl) BA (.cons (by kernel_rfl) BA (.cons (by kernel_rfl) BA .nil)))))))))).map (fun x => ⟨x.1, x.2.1, x.2.2.1, x.2.2.2.1, x.2.2.2.2.1, x.2.2.2.2.2.1, x.2.2.2.2.2.2.1, x.2.2.2.2.2.2.2.1, x.2.2.2.2.2.2.2.2.1⟩) (fun _ => rfl) (fun _ h => h)
theorem Pv : Reads enc Tryz.prog w base spare held 187 Kg N8 10 := (Reads.struct Tryz.underlying187 (by kernel_rfl) (.cons (by kernel_rfl) BA (.cons (by kernel_rfl) BA (.cons (by kernel_rfl) BA (.cons (by kernel_rfl) BA (.cons (by kernel_rfl) BA (.cons (by kernel_rfl) BA (.cons (by kernel_rfl) BA (.cons (by kernel_rfl) BA (.cons (by kernel_rfl) BA (.cons (by kernel_rfl) BA .nil))))))))))).map (fun x => ⟨x.1, x.2.1, x.2.2.1, x.2.2.2.1, x.2.2.2.2.1, x.2.2.2.2.2.1, x.2.2.2.2.2.2.1, x.2.2.2.2.2.2.2.1, x.2.2.2.2.2.2.2.2.1, x.2.2.2.2.2.2.2.2.2.1⟩) (fun _ => rfl) (fun _ h => h)
theorem TN : Reads enc Tryz.prog w base spare held 25 (fun l : List AP => [T.sl 10 (l.map Kg)]) (okL N8) 1 := .slice Tryz.underlying25 (by kernel_rfl) (by decide) Pv
theorem Pq : Reads enc Tryz.prog w base spare held 170 XO S9 5 := (Reads.struct Tryz.underlying170 (by kernel_rfl) (.cons (by kernel_rfl) BA (.cons (by kernel_rfl) BA (.cons (by kernel_rfl) BA (.cons (by kernel_rfl) BA (.cons (by kernel_rfl) BA .nil)))))).map (fun x => ⟨x.1, x.2.1, x.2.2.1, x.2.2.2.1, x.2.2.2.2.1⟩) (fun _ => rfl) (fun _ h => h)
theorem Pw : Reads enc Tryz.prog w base spare held 265 OT N7 4 := (Reads.struct Tryz.underlying265 (by kernel_rfl) (.cons (by kernel_rfl) BA (.cons (by kernel_rfl) BA (.cons (by kernel_rfl) BA (.cons (by kernel_rfl) BA .nil))))).map (fun x => ⟨x.1, x.2.1, x.2.2.1, x.2.2.2.1⟩) (fun _ => rfl) (fun _ h => h)
theorem Pr : Reads enc Tryz.prog w base spare held 171 (fun l : List Ac => [T.sl 4 (l.map OT)]) (okL N7) 1 := .slice Tryz.underlying171 (by kernel_rfl) (by decide) Pw
theorem Py : Reads enc Tryz.prog w base spare held 307 Q9 N9 2 := (Reads.struct Tryz.underlying307 (by kernel_rfl) (.cons (by kernel_rfl) BA (.cons (by kernel_rfl) BA .nil))).map (fun x => ⟨x.1, x.2.1⟩) (fun _ => rfl) (fun _ h => h)
theorem Px : Reads enc Tryz.prog w base spare held 293 (fun l : List Ax => [T.sl 2 (l.map Q9)]) (okL N9) 1 := .slice Tryz.underlying293 (by kernel_rfl) (by decide) Py
theorem Ps : Reads enc Tryz.prog w base spare held 172 (fun l : List (List Ax) => [T.sl 1 (l.map (fun l : List Ax => [T.sl 2 (l.map Q9)]))]) (okL (okL N9)) 1 := .slice Tryz.underlying172 (by kernel_rfl) (by decide) Px
theorem Pt : Reads enc Tryz.prog w base spare held 174 dQ Yd 1 := (Reads.struct Tryz.underlying174 (by kernel_rfl) (.cons (by kernel_rfl) Ps .nil)).map (fun x => ⟨x.1⟩) (fun _ => rfl) (fun _ h => h)
theorem Pu : Reads enc Tryz.prog w base spare held 176 Kf KH 7 := (Reads.struct Tryz.underlying176 (by kernel_rfl) (.cons (by kernel_rfl) Pq (.cons (by kernel_rfl) Pr (.cons (by kernel_rfl) Pt .nil)))).map (fun x => ⟨x.1, x.2.1, x.2.2.1⟩) (fun _ => rfl) (fun _ h => h)
theorem TO : Reads enc Tryz.prog w base spare held 26 (fun l : List Aa => [T.sl 7 (l.map Kf)]) (okL KH) 1 := .slice Tryz.underlying26 (by kernel_rfl) (by decide) Pu
theorem TP : Reads enc Tryz.prog w base spare held 28 dN RV 15 := (Reads.struct Tryz.underlying28 (by kernel_rfl) (.cons (by kernel_rfl) TM (.cons (by kernel_rfl) BA (.cons (by kernel_rfl) BA (.cons (by kernel_rfl) TN (.cons (by kernel_rfl) TO (.cons (by kernel_rfl) Ig (.cons (by kernel_rfl) Ig .nil)))))))).map (fun x => ⟨x.1, x.2.1, x.2.2.1, x.2.2.2.1, x.2.2.2.2.1, x.2.2.2.2.2.1, x.2.2.2.2.2.2.1⟩) (fun _ => rfl) (fun _ h => h)
theorem Y2 : Reads enc Tryz.prog w base spare held 9 eSt okS 1 := .str Tryz.underlying9 (by kernel_rfl)
theorem Ih : Reads enc Tryz.prog w base spare held 30 qH RU 2 := (Reads.struct Tryz.underlying30 (by kernel_rfl) (.cons (by kernel_rfl) Y2 (.cons (by kernel_rfl) BA .nil))).map (fun x => ⟨x.1, x.2.1⟩) (fun _ => rfl) (fun _ h => h)
theorem TQ : Reads enc Tryz.prog w base spare held 32 dP Yc 6 := (Reads.struct Tryz.underlying32 (by kernel_rfl) (.cons (by kernel_rfl) Ih (.cons (by kernel_rfl) Ih (.cons (by kernel_rfl) Ih .nil)))).map (fun x => ⟨x.1, x.2.1, x.2.2.1⟩) (fun _ => rfl) (fun _ h => h)
theorem Pp : Reads enc Tryz.prog w base spare held 136 Tq Ya 6 := (Reads.struct Tryz.underlying136 (by kernel_rfl) (.cons (by kernel_rfl) BA (.cons (by kernel_rfl) BA (.cons (by kernel_rfl) BA (.cons (by kernel_rfl) BA (.cons (by kernel_rfl) BA (.cons (by kernel_rfl) BA .nil))))))).map (fun x => ⟨x.1, x.2.1, x.2.2.1, x.2.2.2.1, x.2.2.2.2.1, x.2.2.2.2.2.1⟩) (fun _ => rfl) (fun _ h => h)
theorem TR : Reads enc Tryz.prog w base spare held 33 (fun l : List Cb => [T.sl 6 (l.map Tq)]) (okL Ya) 1 := .slice Tryz.underlying33 (by kernel_rfl) (by decide) Pp
theorem TS : Reads enc Tryz.prog w base spare held 35 Nm Lq 23 := (Reads.struct Tryz.underlying35 (by kernel_rfl) (.cons (by kernel_rfl) TP (.cons (by kernel_rfl) TQ (.cons (by kernel_rfl) BA (.cons (by kernel_rfl) TR .nil))))).map (fun x => ⟨x.1, x.2.1, x.2.2.1, x.2.2.2.1⟩) (fun _ => rfl) (fun _ h => h)
end

theorem contract (H : Type) (enc : TypeId × Value → H) (W : World) (base : Nat) (args : Array Value) (ds gs : List (DataW H)) (before : List MemPlace)
    (hval : ∀ (j : Nat) t v, Tryz.f3.params[j]? = some t → args[j]? = some v → Value.okWide Tryz.prog W .any base t v)
    (hW : DataW.Whole enc Tryz.prog Tryz.f3.params.toList Rows.fnExactMarkStepSpec.vars false W args.toList ds gs before) :
    Calls Tryz.prog 3 args W fun e W' => ∃ v, e = .returned v ∧ Rows.fnExactMarkStepSpec.post enc Tryz.prog Tryz.f3 false true false false W args v W' := by
  have hW' := hW
  obtain ⟨p, q, hA0, hV, rfl, hfz, hnd⟩ := hW
  have hA : DataW.TrodAll enc Tryz.prog W 0 (fun _ => true) true Tryz.f3.params.toList args.toList ds p := hA0
  obtain ⟨rfl, rfl⟩ := trodVars_none hV
  clear hA0
  simp only [List.append_nil] at hW'
  have hA1 := hA
  rw [Tryz.params3] at hA1 hval
  obtain ⟨v0, vs0, d0, ds0, p0, q0, hargs, rfl, rfl, h0, hA1⟩ := trodAll_cons hA1
  obtain ⟨v1, vs1, d1, ds1, p1, q1, rfl, rfl, rfl, h1, hA1⟩ := trodAll_cons hA1
  obtain ⟨rfl, rfl, rfl⟩ := trodAll_nil hA1
  obtain rfl : args = #[v0, v1] := by cases args; simp_all
  obtain ⟨cs0, rfl, hs0⟩ := okWide_struct Tryz.underlying35 (hval 0 35 v0 rfl rfl)
  obtain ⟨x0, k0, e0⟩ := TS.agg h0 hs0
  obtain ⟨n1, rfl⟩ := okWide_int Tryz.underlying3 (hval 1 3 v1 rfl rfl)
  obtain ⟨x1, k1, e1⟩ := BA.one h1 rfl
  refine nw (A := (PB Tryz.prog)) bw laidOut (tb := 4) Tryz.underlying4 rfl (Y9 (On k0 k1)) Lk (Dn.ms.trans rfl) rfl ?_ hW' hA rfl (by rw [Tryz.params3]; exact of_decide_eq_true (by kernel_rfl)) rfl rfl rfl
  intro i V u hV hu
  match i, hV, hu with
  | 0, hV, hu => cases hV; cases hu; exact e0
  | 1, hV, hu => cases hV; cases hu; exact e1

set_option maxRecDepth 100000 in
theorem lifted (os : Os) (started : os.Started) (H : Type) (enc : TypeId × Value → H) :
    ReturnsInHanded {} Tryz.checked os 3 .any (Rows.fnExactMarkStepSpec.pre6 enc Tryz.prog Tryz.f3 Rows.fnExactMarkStepRow.domain false) (Rows.fnExactMarkStepSpec.post enc Tryz.prog Tryz.f3 false true false false) := by
  refine returnsInHanded_of_change (C := Tryz.checked) own started (by kernel_rfl) Tryz.func3
    (ChangeSpec.witness6 (enc := enc) (C := Tryz.checked) false ⟨#[], #[.agg #[.slice none 0 0, .int .i64 0, .int .i64 0, .int .i64 0, .int .i64 0, .int .i64 0, .int .i64 0, .int .i64 0, .int .i64 0, .int .i64 0, .int .i64 0, .slice none 0 0, .slice none 0 0, .slice none 0 0, .slice none 0 0, .string ⟨#[]⟩, .int .i64 0, .string ⟨#[]⟩, .int .i64 0, .string ⟨#[]⟩, .int .i64 0, .int .i64 0, .slice none 0 0], .int .i64 0], []⟩ 8 (by kernel_rfl) (by kernel_rfl) (by kernel_rfl) (by kernel_rfl)) ?_
  intro W base args ds gs before hval hW _ _
  exact contract H enc W base args ds gs before hval hW

set_option maxHeartbeats 4000000 in
theorem holds : Rows.FnExactMarkStepSaid :=
  OpenClaim.holds_of_wide 3 Tryz.f3 rfl rfl rfl rfl rfl rfl rfl ⟨rfl, rfl, rfl, rfl, rfl⟩ rfl rfl rfl rfl rfl (by kernel_rfl) Tryz.func3
    (by
      unfold joinedFacts
      simp only [Bool.and_eq_true]
      repeat' with_reducible apply And.intro
      all_goals as_aux_lemma => kernel_rfl)
    (of_decide_eq_true (by kernel_rfl)) (by unfold Func.isWrapper; first | (rw [if_pos (by decide +kernel)]; kernel_rfl) | (rw [if_neg (by decide +kernel)]; exact ⟨rfl, rfl⟩))
    (fun os started H enc _ => lifted os started H enc)
#print axioms holds
end Go.Proofs.YtpbbmlmilagnkaaGreat.fnExactMarkStep
