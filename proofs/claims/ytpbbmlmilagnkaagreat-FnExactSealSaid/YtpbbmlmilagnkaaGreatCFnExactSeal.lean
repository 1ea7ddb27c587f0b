/-
  The program's Seal returns what the reference's returns, for all arguments.
-/
import Derived.Test.YtpbbmlmilagnkaaGreatRows
import Derived.Test.YtpbbmlmilagnkaaGreatKG
import Derived.Test.YtpbbmlmilagnkaaGreatLF
import Derived.Test.YtpbbmlmilagnkaaGreatLvE
import Derived.Test.YtpbbmlmilagnkaaGreatPO
import Derived.Test.YtpbbmlmilagnkaaGreatMFnExactSeal
import Derived.WalkKit
import Derived.OpenShut
import Derived.JoinedCond
namespace Go.Proofs.YtpbbmlmilagnkaaGreat.fnExactSeal
open Go Lv Lv.P Go.ChangeShapes Go.WideShapes Go.ChangeAt Go.RowKit

theorem own : ownKnob Tryz.prog.godebug = none := by kernel_rfl
theorem laidOut : laidOutB Tryz.prog = true := by kernel_rfl
set_option maxRecDepth 100000
theorem gD {x0 : Be} (h : GU x0 = some true) : Hb Et.x [.v .agg (T6 x0)] .one [.bool true] [] := Et.ok (x0, ()) true h
section
variable {H : Type} {enc : TypeId × Value → H} {w : World} {base : Nat} {spare : Nat → Bool} {held : Bool}
theorem BF : Reads enc Tryz.prog w base spare held 3 (fun n : Int => [T.int .i64 n]) okI 1 := .int Tryz.underlying3 (by kernel_rfl)
theorem IT : Reads enc Tryz.prog w base spare held 22 (fun l : List Int => [T.sl 1 (l.map eN)]) (okL okI) 1 := .slice Tryz.underlying22 (by kernel_rfl) (by decide) BF
theorem Wj : Reads enc Tryz.prog w base spare held 24 m0 fL 9 := (Reads.struct Tryz.underlying24 (by kernel_rfl) (.cons (by kernel_rfl) IT (.cons (by kernel_rfl) BF (.cons (by kernel_rfl) BF (.cons (by kernel_rfl) BF (.cons (by kernel_rfl) BF (.cons (by kernel_rfl) BF (.cons (by kernel_rfl) BF (.cons (by kernel_rfl) BF (.cons (by kernel_rfl) BF .nil)))))))))).map (fun x => ⟨x.1, x.2.1, x.2.2.1, x.2.2.2.1, x.2.2.2.2.1, x.2.2.2.2.2.1, x.2.2.2.2.2.2.1, x.2.2.2.2.2.2.2.1, x.2.2.2.2.2.2.2.2.1⟩) (fun _ => rfl) (fun _ h => h)
theorem R8 : Reads enc Tryz.prog w base spare held 187 LU Pk 10 := (Reads.struct Tryz.underlying187 (by kernel_rfl) (.cons (by kernel_rfl) BF (.cons (by kernel_rfl) BF (.cons (by kernel_rfl) BF (.cons (by kernel_rfl) BF (.cons (by kernel_rfl) BF (.cons (by kernel_rfl) BF (.cons (by kernel_rfl) BF (.cons (by kernel_rfl) BF (.cons (by kernel_rfl) BF (.cons (by kernel_rfl) BF .nil))))))))))).map (fun x => ⟨x.1, x.2.1, x.2.2.1, x.2.2.2.1, x.2.2.2.2.1, x.2.2.2.2.2.1, x.2.2.2.2.2.2.1, x.2.2.2.2.2.2.2.1, x.2.2.2.2.2.2.2.2.1, x.2.2.2.2.2.2.2.2.2.1⟩) (fun _ => rfl) (fun _ h => h)
theorem Wk : Reads enc Tryz.prog w base spare held 25 (fun l : List AJ => [T.sl 10 (l.map LU)]) (okL Pk) 1 := .slice Tryz.underlying25 (by kernel_rfl) (by decide) R8
theorem R3 : Reads enc Tryz.prog w base spare held 170 cV WY 5 := (Reads.struct Tryz.underlying170 (by kernel_rfl) (.cons (by kernel_rfl) BF (.cons (by kernel_rfl) BF (.cons (by kernel_rfl) BF (.cons (by kernel_rfl) BF (.cons (by kernel_rfl) BF .nil)))))).map (fun x => ⟨x.1, x.2.1, x.2.2.1, x.2.2.2.1, x.2.2.2.2.1⟩) (fun _ => rfl) (fun _ h => h)
theorem R9 : Reads enc Tryz.prog w base spare held 265 QC Pj 4 := (Reads.struct Tryz.underlying265 (by kernel_rfl) (.cons (by kernel_rfl) BF (.cons (by kernel_rfl) BF (.cons (by kernel_rfl) BF (.cons (by kernel_rfl) BF .nil))))).map (fun x => ⟨x.1, x.2.1, x.2.2.1, x.2.2.2.1⟩) (fun _ => rfl) (fun _ h => h)
theorem R4 : Reads enc Tryz.prog w base spare held 171 (fun l : List AQ => [T.sl 4 (l.map QC)]) (okL Pj) 1 := .slice Tryz.underlying171 (by kernel_rfl) (by decide) R9
theorem SB : Reads enc Tryz.prog w base spare held 307 T7 Pl 2 := (Reads.struct Tryz.underlying307 (by kernel_rfl) (.cons (by kernel_rfl) BF (.cons (by kernel_rfl) BF .nil))).map (fun x => ⟨x.1, x.2.1⟩) (fun _ => rfl) (fun _ h => h)
theorem SA : Reads enc Tryz.prog w base spare held 293 (fun l : List AY => [T.sl 2 (l.map T7)]) (okL Pl) 1 := .slice Tryz.underlying293 (by kernel_rfl) (by decide) SB
theorem R5 : Reads enc Tryz.prog w base spare held 172 (fun l : List (List AY) => [T.sl 1 (l.map (fun l : List AY => [T.sl 2 (l.map T7)]))]) (okL (okL Pl)) 1 := .slice Tryz.underlying172 (by kernel_rfl) (by decide) SA
theorem R6 : Reads enc Tryz.prog w base spare held 174 m8 fN 1 := (Reads.struct Tryz.underlying174 (by kernel_rfl) (.cons (by kernel_rfl) R5 .nil)).map (fun x => ⟨x.1⟩) (fun _ => rfl) (fun _ h => h)
theorem R7 : Reads enc Tryz.prog w base spare held 176 LS K3 7 := (Reads.struct Tryz.underlying176 (by kernel_rfl) (.cons (by kernel_rfl) R3 (.cons (by kernel_rfl) R4 (.cons (by kernel_rfl) R6 .nil)))).map (fun x => ⟨x.1, x.2.1, x.2.2.1⟩) (fun _ => rfl) (fun _ h => h)
theorem Wl : Reads enc Tryz.prog w base spare held 26 (fun l : List AS => [T.sl 7 (l.map LS)]) (okL K3) 1 := .slice Tryz.underlying26 (by kernel_rfl) (by decide) R7
theorem Wm : Reads enc Tryz.prog w base spare held 28 mz UX 15 := (Reads.struct Tryz.underlying28 (by kernel_rfl) (.cons (by kernel_rfl) Wj (.cons (by kernel_rfl) BF (.cons (by kernel_rfl) BF (.cons (by kernel_rfl) Wk (.cons (by kernel_rfl) Wl (.cons (by kernel_rfl) IT (.cons (by kernel_rfl) IT .nil)))))))).map (fun x => ⟨x.1, x.2.1, x.2.2.1, x.2.2.2.1, x.2.2.2.2.1, x.2.2.2.2.2.1, x.2.2.2.2.2.2.1⟩) (fun _ => rfl) (fun _ h => h)
theorem fu : Reads enc Tryz.prog w base spare held 9 eSt okS 1 := .str Tryz.underlying9 (by kernel_rfl)
theorem JK : Reads enc Tryz.prog w base spare held 30 zQ UW 2 := (Reads.struct Tryz.underlying30 (by kernel_rfl) (.cons (by kernel_rfl) fu (.cons (by kernel_rfl) BF .nil))).map (fun x => ⟨x.1, x.2.1⟩) (fun _ => rfl) (fun _ h => h)
theorem Wn : Reads enc Tryz.prog w base spare held 32 m7 fM 6 := (Reads.struct Tryz.underlying32 (by kernel_rfl) (.cons (by kernel_rfl) JK (.cons (by kernel_rfl) JK (.cons (by kernel_rfl) JK .nil)))).map (fun x => ⟨x.1, x.2.1, x.2.2.1⟩) (fun _ => rfl) (fun _ h => h)
theorem R0 : Reads enc Tryz.prog w base spare held 136 XG WZ 6 := (Reads.struct Tryz.underlying136 (by kernel_rfl) (.cons (by kernel_rfl) BF (.cons (by kernel_rfl) BF (.cons (by kernel_rfl) BF (.cons (by kernel_rfl) BF (.cons (by kernel_rfl) BF (.cons (by kernel_rfl) BF .nil))))))).map (fun x => ⟨x.1, x.2.1, x.2.2.1, x.2.2.2.1, x.2.2.2.2.1, x.2.2.2.2.2.1⟩) (fun _ => rfl) (fun _ h => h)
theorem QS : Reads enc Tryz.prog w base spare held 33 (fun l : List Bw => [T.sl 6 (l.map XG)]) (okL WZ) 1 := .slice Tryz.underlying33 (by kernel_rfl) (by decide) R0
theorem Wo : Reads enc Tryz.prog w base spare held 35 T6 NC 23 := (Reads.struct Tryz.underlying35 (by kernel_rfl) (.cons (by kernel_rfl) Wm (.cons (by kernel_rfl) Wn (.cons (by kernel_rfl) BF (.cons (by kernel_rfl) QS .nil))))).map (fun x => ⟨x.1, x.2.1, x.2.2.1, x.2.2.2.1⟩) (fun _ => rfl) (fun _ h => h)
end

theorem contract (H : Type) (enc : TypeId × Value → H) (W : World) (base : Nat) (args : Array Value) (ds gs : List (DataW H)) (before : List MemPlace)
    (hval : ∀ (j : Nat) t v, Tryz.f6.params[j]? = some t → args[j]? = some v → Value.okWide Tryz.prog W .any base t v)
    (hW : DataW.Whole enc Tryz.prog Tryz.f6.params.toList Rows.fnExactSealSpec.vars false W args.toList ds gs before) :
    Calls Tryz.prog 6 args W fun e W' => ∃ v, e = .returned v ∧ Rows.fnExactSealSpec.post enc Tryz.prog Tryz.f6 false true false false W args v W' := by
  have hW' := hW
  obtain ⟨p, q, hA0, hV, rfl, hfz, hnd⟩ := hW
  have hA : DataW.TrodAll enc Tryz.prog W 0 (fun _ => true) true Tryz.f6.params.toList args.toList ds p := hA0
  obtain ⟨rfl, rfl⟩ := trodVars_none hV
  clear hA0
  simp only [List.append_nil] at hW'
  have hA1 := hA
  rw [Tryz.params6] at hA1 hval
  obtain ⟨v0, vs0, d0, ds0, p0, q0, hargs, rfl, rfl, h0, hA1⟩ := trodAll_cons hA1
  obtain ⟨rfl, rfl, rfl⟩ := trodAll_nil hA1
  obtain rfl : args = #[v0] := by cases args; simp_all
  obtain ⟨cs0, rfl, hs0⟩ := okWide_struct Tryz.underlying35 (hval 0 35 v0 rfl rfl)
  obtain ⟨x0, k0, e0⟩ := Wo.agg h0 hs0
  refine xZ (A := (PB Tryz.prog)) lV laidOut (tb := 4) Tryz.underlying4 rfl (gD (Xh k0)) Qp (Et.ms.trans rfl) rfl ?_ hW' hA rfl (by rw [Tryz.params6]; exact of_decide_eq_true (by kernel_rfl)) rfl rfl rfl
  intro i V u hV hu
  match i, hV, hu with
  | 0, hV, hu => cases hV; cases hu; exact e0

set_option maxRecDepth 100000 in
theorem lifted (os : Os) (started : os.Started) (H : Type) (enc : TypeId × Value → H) :
    ReturnsInHanded {} Tryz.checked os 6 .any (Rows.fnExactSealSpec.pre6 enc Tryz.prog Tryz.f6 Rows.fnExactSealRow.domain false) (Rows.fnExactSealSpec.post enc Tryz.prog Tryz.f6 false true false false) := by
  refine returnsInHanded_of_change (C := Tryz.checked) own started (by kernel_rfl) Tryz.func6
    (ChangeSpec.witness6 (enc := enc) (C := Tryz.checked) false ⟨#[], #[.agg #[.slice none 0 0, .int .i64 0, .int .i64 0, .int .i64 0, .int .i64 0, .int .i64 0, .int .i64 0, .int .i64 0, .int .i64 0, .int .i64 0, .int .i64 0, .slice none 0 0, .slice none 0 0, .slice none 0 0, .slice none 0 0, .string ⟨#[]⟩, .int .i64 0, .string ⟨#[]⟩, .int .i64 0, .string ⟨#[]⟩, .int .i64 0, .int .i64 0, .slice none 0 0]], []⟩ 8 (by kernel_rfl) (by kernel_rfl) (by kernel_rfl) (by kernel_rfl)) ?_
  intro W base args ds gs before hval hW _ _
  exact contract H enc W base args ds gs before hval hW

set_option maxHeartbeats 4000000 in
theorem holds : Rows.FnExactSealSaid :=
  OpenClaim.holds_of_wide 6 Tryz.f6 rfl rfl rfl rfl rfl rfl rfl ⟨rfl, rfl, rfl, rfl, rfl⟩ rfl rfl rfl rfl rfl (by kernel_rfl) Tryz.func6
    (by
      unfold joinedFacts
      simp only [Bool.and_eq_true]
      repeat' with_reducible apply And.intro
      all_goals as_aux_lemma => kernel_rfl)
    (of_decide_eq_true (by kernel_rfl)) (by unfold Func.isWrapper; first | (rw [if_pos (by decide +kernel)]; kernel_rfl) | (rw [if_neg (by decide +kernel)]; exact ⟨rfl, rfl⟩))
    (fun os started H enc _ => lifted os started H enc)
#print axioms holds
end Go.Proofs.YtpbbmlmilagnkaaGreat.fnExactSeal
