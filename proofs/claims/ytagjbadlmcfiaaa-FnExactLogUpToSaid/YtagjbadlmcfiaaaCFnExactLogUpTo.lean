/-
  The program's LogUpTo returns what the reference's returns, for all arguments.
-/
import Derived.Test.YtagjbadlmcfiaaaRows
import Derived.Test.YtagjbadlmcfiaaaK2b
import Derived.Test.YtagjbadlmcfiaaaLvE
import Derived.Test.YtagjbadlmcfiaaaPF
import Derived.WalkKit
import Derived.OpenShut
import Derived.JoinedCond
namespace Go.Proofs.Ytagjbadlmcfiaaa.fnExactLogUpTo
open Go Lv Lv.P Go.ChangeShapes Go.WideShapes Go.ChangeAt Go.RowKit

theorem own : ownKnob Try.prog.godebug = none := by kernel_rfl
theorem laidOut : laidOutB Try.prog = true := by kernel_rfl
set_option maxRecDepth 100000
theorem mt_laws_szArea : Mt (fun _ _ _ => False) Try.prog 48 gf_laws_szArea.x := .by Try.func48 (by kernel_rfl) (l := []) (by kernel_rfl) .none
theorem mt_laws_szStore : Mt (fun _ _ _ => False) Try.prog 14 gf_laws_szStore.x := .by Try.func14 (by kernel_rfl) (l := [(48, gf_laws_szArea.x), (48, gf_laws_szArea.x), (48, gf_laws_szArea.x)]) (by kernel_rfl) (.and mt_laws_szArea (.and mt_laws_szArea (.and mt_laws_szArea .none)))
theorem mt_laws_toArea : Mt (fun _ _ _ => False) Try.prog 50 gf_laws_toArea.x := .by Try.func50 (by kernel_rfl) (l := []) (by kernel_rfl) .none
theorem mt_laws_toStore : Mt (fun _ _ _ => False) Try.prog 16 gf_laws_toStore.x := .by Try.func16 (by kernel_rfl) (l := [(50, gf_laws_toArea.x), (50, gf_laws_toArea.x), (50, gf_laws_toArea.x)]) (by kernel_rfl) (.and mt_laws_toArea (.and mt_laws_toArea (.and mt_laws_toArea .none)))
theorem mt_spec_l1In : Mt (fun _ _ _ => False) Try.prog 62 gf_spec_l1In.x := .by Try.func62 (by kernel_rfl) (l := []) (by kernel_rfl) .none
theorem mt_spec_l1Min : Mt (fun _ _ _ => False) Try.prog 83 gf_spec_l1Min.x := .by Try.func83 (by kernel_rfl) (l := []) (by kernel_rfl) .none
theorem mt_spec_GetNum : Mt (fun _ _ _ => False) Try.prog 76 gf_spec_GetNum.x := .by Try.func76 (by kernel_rfl) (l := []) (by kernel_rfl) .none
theorem mt_spec_PutNum : Mt (fun _ _ _ => False) Try.prog 92 gf_spec_PutNum.x := .by Try.func92 (by kernel_rfl) (l := [(62, gf_spec_l1In.x)]) (by kernel_rfl) (.and mt_spec_l1In .none)
theorem mt_spec_Crc : Mt (fun _ _ _ => False) Try.prog 96 gf_spec_Crc.x := .by Try.func96 (by kernel_rfl) (l := []) (by kernel_rfl) .none
theorem mt_spec_l2Four : Mt (fun _ _ _ => False) Try.prog 95 gf_spec_l2Four.x := .by Try.func95 (by kernel_rfl) (l := []) (by kernel_rfl) .none
theorem mt_spec_FrameOf : Mt (fun _ _ _ => False) Try.prog 79 gf_spec_FrameOf.x := .by Try.func79 (by kernel_rfl) (l := [(62, gf_spec_l1In.x), (62, gf_spec_l1In.x), (92, gf_spec_PutNum.x), (96, gf_spec_Crc.x), (95, gf_spec_l2Four.x), (92, gf_spec_PutNum.x)]) (by kernel_rfl) (.and mt_spec_l1In (.and mt_spec_l1In (.and mt_spec_PutNum (.and mt_spec_Crc (.and mt_spec_l2Four (.and mt_spec_PutNum .none))))))
theorem mt_spec_FrameAt : Mt (fun _ _ _ => False) Try.prog 78 gf_spec_FrameAt.x := .by Try.func78 (by kernel_rfl) (l := [(62, gf_spec_l1In.x), (83, gf_spec_l1Min.x), (76, gf_spec_GetNum.x), (76, gf_spec_GetNum.x), (79, gf_spec_FrameOf.x)]) (by kernel_rfl) (.and mt_spec_l1In (.and mt_spec_l1Min (.and mt_spec_GetNum (.and mt_spec_GetNum (.and mt_spec_FrameOf .none)))))
theorem mt_spec_Frames : Mt (fun _ _ _ => False) Try.prog 49 gf_spec_Frames.x := .by Try.func49 (by kernel_rfl) (l := [(78, gf_spec_FrameAt.x)]) (by kernel_rfl) (.and mt_spec_FrameAt .none)
theorem mt_spec_LogUpTo : Mt (fun _ _ _ => False) Try.prog 15 gf_spec_LogUpTo.x := .by Try.func15 (by kernel_rfl) (l := [(49, gf_spec_Frames.x)]) (by kernel_rfl) (.and mt_spec_Frames .none)
theorem mt_impl_within : Mt (fun _ _ _ => False) Try.prog 70 gf_impl_within.x := .by Try.func70 (by kernel_rfl) (l := []) (by kernel_rfl) .none
theorem mt_impl_isIndex : Mt (fun _ _ _ => False) Try.prog 93 gf_impl_isIndex.x := .by Try.func93 (by kernel_rfl) (l := [(70, gf_impl_within.x)]) (by kernel_rfl) (.and mt_impl_within .none)
theorem mt_impl_PutNum : Mt (fun _ _ _ => False) Try.prog 71 gf_impl_PutNum.x := .by Try.func71 (by kernel_rfl) (l := [(70, gf_impl_within.x)]) (by kernel_rfl) (.and mt_impl_within .none)
theorem mt_impl_GetNum : Mt (fun _ _ _ => False) Try.prog 77 gf_impl_GetNum.x := .by Try.func77 (by kernel_rfl) (l := [(70, gf_impl_within.x), (71, gf_impl_PutNum.x)]) (by kernel_rfl) (.and mt_impl_within (.and mt_impl_PutNum .none))
theorem mt_impl_Crc : Mt (fun _ _ _ => False) Try.prog 72 gf_impl_Crc.x := .by Try.func72 (by kernel_rfl) (l := []) (by kernel_rfl) .none
theorem mt_impl_FrameOf : Mt (fun _ _ _ => False) Try.prog 38 gf_impl_FrameOf.x := .by Try.func38 (by kernel_rfl) (l := [(70, gf_impl_within.x), (70, gf_impl_within.x), (71, gf_impl_PutNum.x), (72, gf_impl_Crc.x), (71, gf_impl_PutNum.x)]) (by kernel_rfl) (.and mt_impl_within (.and mt_impl_within (.and mt_impl_PutNum (.and mt_impl_Crc (.and mt_impl_PutNum .none)))))
theorem mt_impl_FrameAt : Mt (fun _ _ _ => False) Try.prog 73 gf_impl_FrameAt.x := .by Try.func73 (by kernel_rfl) (l := [(93, gf_impl_isIndex.x), (77, gf_impl_GetNum.x), (77, gf_impl_GetNum.x), (38, gf_impl_FrameOf.x)]) (by kernel_rfl) (.and mt_impl_isIndex (.and mt_impl_GetNum (.and mt_impl_GetNum (.and mt_impl_FrameOf .none))))
theorem mt_impl_Frames : Mt (fun _ _ _ => False) Try.prog 39 gf_impl_Frames.x := .by Try.func39 (by kernel_rfl) (l := [(73, gf_impl_FrameAt.x)]) (by kernel_rfl) (.and mt_impl_FrameAt .none)
theorem mt_impl_LogUpTo : Mt (fun _ _ _ => False) Try.prog 17 gf_impl_LogUpTo.x := .by Try.func17 (by kernel_rfl) (l := [(39, gf_impl_Frames.x)]) (by kernel_rfl) (.and mt_impl_Frames .none)
theorem mt_laws_FnExactLogUpTo : Mt (fun _ _ _ => False) Try.prog 4 gf_laws_FnExactLogUpTo.x := .by Try.func4 (by kernel_rfl) (l := [(14, gf_laws_szStore.x), (16, gf_laws_toStore.x), (15, gf_spec_LogUpTo.x), (16, gf_laws_toStore.x), (17, gf_impl_LogUpTo.x)]) (by kernel_rfl) (.and mt_laws_szStore (.and mt_laws_toStore (.and mt_spec_LogUpTo (.and mt_laws_toStore (.and mt_impl_LogUpTo .none)))))
theorem runs_law {x0 : GStore} {x1 : Int} (h : d_laws_FnExactLogUpTo x0 x1 = some true) : Runs gf_laws_FnExactLogUpTo.x [.v .agg (eGStore x0), .v .one [T.int .i64 x1]] .one [.bool true] [] := gf_laws_FnExactLogUpTo.ok (x0, x1, ()) true h
section
variable {H : Type} {enc : TypeId × Value → H} {w : World} {base : Nat} {spare : Nat → Bool} {held : Bool}
theorem reads_t9 : Reads enc Try.prog w base spare held 9 eSt okS 1 := .str Try.underlying9 (by kernel_rfl)
theorem reads_t3 : Reads enc Try.prog w base spare held 3 (fun n : Int => [T.int .i64 n]) okI 1 := .int Try.underlying3 (by kernel_rfl)
theorem reads_t29 : Reads enc Try.prog w base spare held 29 eGArea okGArea 2 := (Reads.struct Try.underlying29 (by kernel_rfl) (.cons (by kernel_rfl) reads_t9 (.cons (by kernel_rfl) reads_t3 .nil))).map (fun x => ⟨x.1, x.2.1⟩) (fun _ => rfl) (fun _ h => h)
theorem reads_t31 : Reads enc Try.prog w base spare held 31 eGStore okGStore 6 := (Reads.struct Try.underlying31 (by kernel_rfl) (.cons (by kernel_rfl) reads_t29 (.cons (by kernel_rfl) reads_t29 (.cons (by kernel_rfl) reads_t29 .nil)))).map (fun x => ⟨x.1, x.2.1, x.2.2.1⟩) (fun _ => rfl) (fun _ h => h)
end

theorem contract (H : Type) (enc : TypeId × Value → H) (W : World) (base : Nat) (args : Array Value) (ds gs : List (DataW H)) (before : List MemPlace)
    (hval : ∀ (j : Nat) t v, Try.f4.params[j]? = some t → args[j]? = some v → Value.okWide Try.prog W .any base t v)
    (hW : DataW.Whole enc Try.prog Try.f4.params.toList Rows.fnExactLogUpToSpec.vars false W args.toList ds gs before) :
    Calls Try.prog 4 args W fun e W' => ∃ v, e = .returned v ∧ Rows.fnExactLogUpToSpec.post enc Try.prog Try.f4 false true false false W args v W' := by
  have hW' := hW
  obtain ⟨p, q, hA0, hV, rfl, hfz, hnd⟩ := hW
  have hA : DataW.TrodAll enc Try.prog W 0 (fun _ => true) true Try.f4.params.toList args.toList ds p := hA0
  obtain ⟨rfl, rfl⟩ := trodVars_none hV
  clear hA0
  simp only [List.append_nil] at hW'
  have hA1 := hA
  rw [Try.params4] at hA1 hval
  obtain ⟨v0, vs0, d0, ds0, p0, q0, hargs, rfl, rfl, h0, hA1⟩ := trodAll_cons hA1
  obtain ⟨v1, vs1, d1, ds1, p1, q1, rfl, rfl, rfl, h1, hA1⟩ := trodAll_cons hA1
  obtain ⟨rfl, rfl, rfl⟩ := trodAll_nil hA1
  obtain rfl : args = #[v0, v1] := by cases args; simp_all
  obtain ⟨cs0, rfl, hs0⟩ := okWide_struct Try.underlying31 (hval 0 31 v0 rfl rfl)
  obtain ⟨x0, k0, e0⟩ := reads_t31.agg h0 hs0
  obtain ⟨n1, rfl⟩ := okWide_int Try.underlying3 (hval 1 3 v1 rfl rfl)
  obtain ⟨x1, k1, e1⟩ := reads_t3.one h1 rfl
  refine law_post (A := (fun _ _ _ => False)) prims_none laidOut (tb := 4) Try.underlying4 rfl (runs_law (Law_FnExactLogUpTo k0 k1)) mt_laws_FnExactLogUpTo (gf_laws_FnExactLogUpTo.ms.trans rfl) rfl ?_ hW' hA rfl (by rw [Try.params4]; exact of_decide_eq_true (by kernel_rfl)) rfl rfl rfl
  intro i V u hV hu
  match i, hV, hu with
  | 0, hV, hu => cases hV; cases hu; exact e0
  | 1, hV, hu => cases hV; cases hu; exact e1

set_option maxRecDepth 100000 in
theorem lifted (os : Os) (started : os.Started) (H : Type) (enc : TypeId × Value → H) :
    ReturnsInHanded {} Try.checked os 4 .any (Rows.fnExactLogUpToSpec.pre6 enc Try.prog Try.f4 Rows.fnExactLogUpToRow.domain false) (Rows.fnExactLogUpToSpec.post enc Try.prog Try.f4 false true false false) := by
  refine returnsInHanded_of_change (C := Try.checked) own started (by kernel_rfl) Try.func4
    (ChangeSpec.witness6 (enc := enc) (C := Try.checked) false ⟨#[], #[.agg #[.string ⟨#[]⟩, .int .i64 0, .string ⟨#[]⟩, .int .i64 0, .string ⟨#[]⟩, .int .i64 0], .int .i64 0], []⟩ 8 (by kernel_rfl) (by kernel_rfl) (by kernel_rfl) (by kernel_rfl)) ?_
  intro W base args ds gs before hval hW _ _
  exact contract H enc W base args ds gs before hval hW

theorem holds : Rows.FnExactLogUpToSaid :=
  OpenClaim.holds_of_wide 4 Try.f4 rfl rfl rfl rfl rfl rfl rfl ⟨rfl, rfl, rfl, rfl, rfl⟩ rfl rfl rfl rfl rfl (by kernel_rfl) Try.func4 (by kernel_rfl)
    (of_decide_eq_true (by kernel_rfl)) (by unfold Func.isWrapper; first | (rw [if_pos (by decide +kernel)]; kernel_rfl) | (rw [if_neg (by decide +kernel)]; exact ⟨rfl, rfl⟩))
    (fun os started H enc _ => lifted os started H enc)
#print axioms holds
end Go.Proofs.Ytagjbadlmcfiaaa.fnExactLogUpTo
