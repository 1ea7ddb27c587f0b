/-
  The program's LogOf returns what the reference's returns, for all arguments.
-/
import Derived.Test.YtagjbadlmcfiaaaRows
import Derived.Test.YtagjbadlmcfiaaaK2b
import Derived.Test.YtagjbadlmcfiaaaLvE
import Derived.Test.YtagjbadlmcfiaaaPF
import Derived.WalkKit
import Derived.OpenShut
import Derived.JoinedCond
namespace Go.Proofs.Ytagjbadlmcfiaaa.fnExactLogOf
open Go Lv Lv.P Go.ChangeShapes Go.WideShapes Go.ChangeAt Go.RowKit

theorem own : ownKnob Try.prog.godebug = none := by kernel_rfl
theorem laidOut : laidOutB Try.prog = true := by kernel_rfl
set_option maxRecDepth 100000
theorem mt_laws_szReqS : Mt (fun _ _ _ => False) Try.prog 18 gf_laws_szReqS.x := .by Try.func18 (by kernel_rfl) (l := []) (by kernel_rfl) .none
theorem mt_laws_toReq : Mt (fun _ _ _ => False) Try.prog 52 gf_laws_toReq.x := .by Try.func52 (by kernel_rfl) (l := []) (by kernel_rfl) .none
theorem mt_laws_toReqS : Mt (fun _ _ _ => False) Try.prog 20 gf_laws_toReqS.x := .by Try.func20 (by kernel_rfl) (l := [(52, gf_laws_toReq.x)]) (by kernel_rfl) (.and mt_laws_toReq .none)
theorem mt_spec_l1In : Mt (fun _ _ _ => False) Try.prog 62 gf_spec_l1In.x := .by Try.func62 (by kernel_rfl) (l := []) (by kernel_rfl) .none
theorem mt_spec_l12Field : Mt (fun _ _ _ => False) Try.prog 61 gf_spec_l12Field.x := .by Try.func61 (by kernel_rfl) (l := [(62, gf_spec_l1In.x)]) (by kernel_rfl) (.and mt_spec_l1In .none)
theorem mt_spec_ReqOk : Mt (fun _ _ _ => False) Try.prog 34 gf_spec_ReqOk.x := .by Try.func34 (by kernel_rfl) (l := [(61, gf_spec_l12Field.x), (61, gf_spec_l12Field.x), (62, gf_spec_l1In.x), (61, gf_spec_l12Field.x), (61, gf_spec_l12Field.x), (61, gf_spec_l12Field.x), (61, gf_spec_l12Field.x), (61, gf_spec_l12Field.x)]) (by kernel_rfl) (.and mt_spec_l12Field (.and mt_spec_l12Field (.and mt_spec_l1In (.and mt_spec_l12Field (.and mt_spec_l12Field (.and mt_spec_l12Field (.and mt_spec_l12Field (.and mt_spec_l12Field .none))))))))
theorem mt_spec_PutNum : Mt (fun _ _ _ => False) Try.prog 92 gf_spec_PutNum.x := .by Try.func92 (by kernel_rfl) (l := [(62, gf_spec_l1In.x)]) (by kernel_rfl) (.and mt_spec_l1In .none)
theorem mt_spec_l18Nums : Mt (fun _ _ _ => False) Try.prog 69 gf_spec_l18Nums.x := .by Try.func69 (by kernel_rfl) (l := [(92, gf_spec_PutNum.x)]) (by kernel_rfl) (.and mt_spec_PutNum .none)
theorem mt_spec_ReqBytes : Mt (fun _ _ _ => False) Try.prog 37 gf_spec_ReqBytes.x := .by Try.func37 (by kernel_rfl) (l := [(34, gf_spec_ReqOk.x), (69, gf_spec_l18Nums.x), (69, gf_spec_l18Nums.x), (69, gf_spec_l18Nums.x), (69, gf_spec_l18Nums.x)]) (by kernel_rfl) (.and mt_spec_ReqOk (.and mt_spec_l18Nums (.and mt_spec_l18Nums (.and mt_spec_l18Nums (.and mt_spec_l18Nums .none)))))
theorem mt_spec_Crc : Mt (fun _ _ _ => False) Try.prog 96 gf_spec_Crc.x := .by Try.func96 (by kernel_rfl) (l := []) (by kernel_rfl) .none
theorem mt_spec_l2Four : Mt (fun _ _ _ => False) Try.prog 95 gf_spec_l2Four.x := .by Try.func95 (by kernel_rfl) (l := []) (by kernel_rfl) .none
theorem mt_spec_FrameOf : Mt (fun _ _ _ => False) Try.prog 79 gf_spec_FrameOf.x := .by Try.func79 (by kernel_rfl) (l := [(62, gf_spec_l1In.x), (62, gf_spec_l1In.x), (92, gf_spec_PutNum.x), (96, gf_spec_Crc.x), (95, gf_spec_l2Four.x), (92, gf_spec_PutNum.x)]) (by kernel_rfl) (.and mt_spec_l1In (.and mt_spec_l1In (.and mt_spec_PutNum (.and mt_spec_Crc (.and mt_spec_l2Four (.and mt_spec_PutNum .none))))))
theorem mt_spec_NoteOf : Mt (fun _ _ _ => False) Try.prog 51 gf_spec_NoteOf.x := .by Try.func51 (by kernel_rfl) (l := [(37, gf_spec_ReqBytes.x), (79, gf_spec_FrameOf.x)]) (by kernel_rfl) (.and mt_spec_ReqBytes (.and mt_spec_FrameOf .none))
theorem mt_spec_LogOf : Mt (fun _ _ _ => False) Try.prog 19 gf_spec_LogOf.x := .by Try.func19 (by kernel_rfl) (l := [(51, gf_spec_NoteOf.x)]) (by kernel_rfl) (.and mt_spec_NoteOf .none)
theorem mt_impl_within : Mt (fun _ _ _ => False) Try.prog 70 gf_impl_within.x := .by Try.func70 (by kernel_rfl) (l := []) (by kernel_rfl) .none
theorem mt_impl_ReqOk_1 : Mt (fun _ _ _ => False) Try.prog 75 gf_impl_ReqOk_1.x := .by Try.func75 (by kernel_rfl) (l := [(70, gf_impl_within.x)]) (by kernel_rfl) (.and mt_impl_within .none)
theorem mt_impl_ReqOk : Mt (fun _ _ _ => False) Try.prog 43 gf_impl_ReqOk.x := .by Try.func43 (by kernel_rfl) (l := [(75, gf_impl_ReqOk_1.x), (70, gf_impl_within.x)]) (by kernel_rfl) (.and mt_impl_ReqOk_1 (.and mt_impl_within .none))
theorem mt_impl_PutNum : Mt (fun _ _ _ => False) Try.prog 71 gf_impl_PutNum.x := .by Try.func71 (by kernel_rfl) (l := [(70, gf_impl_within.x)]) (by kernel_rfl) (.and mt_impl_within .none)
theorem mt_impl_putNums : Mt (fun _ _ _ => False) Try.prog 60 gf_impl_putNums.x := .by Try.func60 (by kernel_rfl) (l := [(71, gf_impl_PutNum.x)]) (by kernel_rfl) (.and mt_impl_PutNum .none)
theorem mt_impl_ReqBytes : Mt (fun _ _ _ => False) Try.prog 33 gf_impl_ReqBytes.x := .by Try.func33 (by kernel_rfl) (l := [(43, gf_impl_ReqOk.x), (60, gf_impl_putNums.x)]) (by kernel_rfl) (.and mt_impl_ReqOk (.and mt_impl_putNums .none))
theorem mt_impl_Crc : Mt (fun _ _ _ => False) Try.prog 72 gf_impl_Crc.x := .by Try.func72 (by kernel_rfl) (l := []) (by kernel_rfl) .none
theorem mt_impl_FrameOf : Mt (fun _ _ _ => False) Try.prog 38 gf_impl_FrameOf.x := .by Try.func38 (by kernel_rfl) (l := [(70, gf_impl_within.x), (70, gf_impl_within.x), (71, gf_impl_PutNum.x), (72, gf_impl_Crc.x), (71, gf_impl_PutNum.x)]) (by kernel_rfl) (.and mt_impl_within (.and mt_impl_within (.and mt_impl_PutNum (.and mt_impl_Crc (.and mt_impl_PutNum .none)))))
theorem mt_impl_NoteOf : Mt (fun _ _ _ => False) Try.prog 53 gf_impl_NoteOf.x := .by Try.func53 (by kernel_rfl) (l := [(33, gf_impl_ReqBytes.x), (38, gf_impl_FrameOf.x)]) (by kernel_rfl) (.and mt_impl_ReqBytes (.and mt_impl_FrameOf .none))
theorem mt_impl_LogOf : Mt (fun _ _ _ => False) Try.prog 21 gf_impl_LogOf.x := .by Try.func21 (by kernel_rfl) (l := [(53, gf_impl_NoteOf.x)]) (by kernel_rfl) (.and mt_impl_NoteOf .none)
theorem mt_laws_eqReq : Mt (fun _ _ _ => False) Try.prog 13 gf_laws_eqReq.x := .by Try.func13 (by kernel_rfl) (l := []) (by kernel_rfl) .none
theorem mt_laws_eqReqS : Mt (fun _ _ _ => False) Try.prog 22 gf_laws_eqReqS.x := .by Try.func22 (by kernel_rfl) (l := [(13, gf_laws_eqReq.x)]) (by kernel_rfl) (.and mt_laws_eqReq .none)
theorem mt_laws_FnExactLogOf : Mt (fun _ _ _ => False) Try.prog 5 gf_laws_FnExactLogOf.x := .by Try.func5 (by kernel_rfl) (l := [(18, gf_laws_szReqS.x), (20, gf_laws_toReqS.x), (19, gf_spec_LogOf.x), (20, gf_laws_toReqS.x), (21, gf_impl_LogOf.x), (20, gf_laws_toReqS.x), (22, gf_laws_eqReqS.x)]) (by kernel_rfl) (.and mt_laws_szReqS (.and mt_laws_toReqS (.and mt_spec_LogOf (.and mt_laws_toReqS (.and mt_impl_LogOf (.and mt_laws_toReqS (.and mt_laws_eqReqS .none)))))))
theorem runs_law {x0 : List GReq} {x1 : Int} (h : d_laws_FnExactLogOf x0 x1 = some true) : Runs gf_laws_FnExactLogOf.x [.v .one [T.sl 6 (x0.map eGReq)], .v .one [T.int .i64 x1]] .one [.bool true] [] := gf_laws_FnExactLogOf.ok (x0, x1, ()) true h
section
variable {H : Type} {enc : TypeId × Value → H} {w : World} {base : Nat} {spare : Nat → Bool} {held : Bool}
theorem reads_t3 : Reads enc Try.prog w base spare held 3 (fun n : Int => [T.int .i64 n]) okI 1 := .int Try.underlying3 (by kernel_rfl)
theorem reads_t77 : Reads enc Try.prog w base spare held 77 eGReq okGReq 6 := (Reads.struct Try.underlying77 (by kernel_rfl) (.cons (by kernel_rfl) reads_t3 (.cons (by kernel_rfl) reads_t3 (.cons (by kernel_rfl) reads_t3 (.cons (by kernel_rfl) reads_t3 (.cons (by kernel_rfl) reads_t3 (.cons (by kernel_rfl) reads_t3 .nil))))))).map (fun x => ⟨x.1, x.2.1, x.2.2.1, x.2.2.2.1, x.2.2.2.2.1, x.2.2.2.2.2.1⟩) (fun _ => rfl) (fun _ h => h)
theorem reads_t39 : Reads enc Try.prog w base spare held 39 (fun l : List GReq => [T.sl 6 (l.map eGReq)]) (okL okGReq) 1 := .slice Try.underlying39 (by kernel_rfl) (by decide) reads_t77
end

theorem contract (H : Type) (enc : TypeId × Value → H) (W : World) (base : Nat) (args : Array Value) (ds gs : List (DataW H)) (before : List MemPlace)
    (hval : ∀ (j : Nat) t v, Try.f5.params[j]? = some t → args[j]? = some v → Value.okWide Try.prog W .any base t v)
    (hW : DataW.Whole enc Try.prog Try.f5.params.toList Rows.fnExactLogOfSpec.vars false W args.toList ds gs before) :
    Calls Try.prog 5 args W fun e W' => ∃ v, e = .returned v ∧ Rows.fnExactLogOfSpec.post enc Try.prog Try.f5 false true false false W args v W' := by
  have hW' := hW
  obtain ⟨p, q, hA0, hV, rfl, hfz, hnd⟩ := hW
  have hA : DataW.TrodAll enc Try.prog W 0 (fun _ => true) true Try.f5.params.toList args.toList ds p := hA0
  obtain ⟨rfl, rfl⟩ := trodVars_none hV
  clear hA0
  simp only [List.append_nil] at hW'
  have hA1 := hA
  rw [Try.params5] at hA1 hval
  obtain ⟨v0, vs0, d0, ds0, p0, q0, hargs, rfl, rfl, h0, hA1⟩ := trodAll_cons hA1
  obtain ⟨v1, vs1, d1, ds1, p1, q1, rfl, rfl, rfl, h1, hA1⟩ := trodAll_cons hA1
  obtain ⟨rfl, rfl, rfl⟩ := trodAll_nil hA1
  obtain rfl : args = #[v0, v1] := by cases args; simp_all
  obtain ⟨a0, len0, cap0, rfl⟩ := okWide_slice Try.underlying39 (hval 0 39 v0 rfl rfl)
  obtain ⟨x0, k0, e0⟩ := reads_t39.one h0 rfl
  obtain ⟨n1, rfl⟩ := okWide_int Try.underlying3 (hval 1 3 v1 rfl rfl)
  obtain ⟨x1, k1, e1⟩ := reads_t3.one h1 rfl
  refine law_post (A := (fun _ _ _ => False)) prims_none laidOut (tb := 4) Try.underlying4 rfl (runs_law (Law_FnExactLogOf k0 k1)) mt_laws_FnExactLogOf (gf_laws_FnExactLogOf.ms.trans rfl) rfl ?_ hW' hA rfl (by rw [Try.params5]; exact of_decide_eq_true (by kernel_rfl)) rfl rfl rfl
  intro i V u hV hu
  match i, hV, hu with
  | 0, hV, hu => cases hV; cases hu; exact e0
  | 1, hV, hu => cases hV; cases hu; exact e1

set_option maxRecDepth 100000 in
theorem lifted (os : Os) (started : os.Started) (H : Type) (enc : TypeId × Value → H) :
    ReturnsInHanded {} Try.checked os 5 .any (Rows.fnExactLogOfSpec.pre6 enc Try.prog Try.f5 Rows.fnExactLogOfRow.domain false) (Rows.fnExactLogOfSpec.post enc Try.prog Try.f5 false true false false) := by
  refine returnsInHanded_of_change (C := Try.checked) own started (by kernel_rfl) Try.func5
    (ChangeSpec.witness6 (enc := enc) (C := Try.checked) false ⟨#[], #[.slice none 0 0, .int .i64 0], []⟩ 8 (by kernel_rfl) (by kernel_rfl) (by kernel_rfl) (by kernel_rfl)) ?_
  intro W base args ds gs before hval hW _ _
  exact contract H enc W base args ds gs before hval hW

theorem holds : Rows.FnExactLogOfSaid :=
  OpenClaim.holds_of_wide 5 Try.f5 rfl rfl rfl rfl rfl rfl rfl ⟨rfl, rfl, rfl, rfl, rfl⟩ rfl rfl rfl rfl rfl (by kernel_rfl) Try.func5 (by kernel_rfl)
    (of_decide_eq_true (by kernel_rfl)) (by unfold Func.isWrapper; first | (rw [if_pos (by decide +kernel)]; kernel_rfl) | (rw [if_neg (by decide +kernel)]; exact ⟨rfl, rfl⟩))
    (fun os started H enc _ => lifted os started H enc)
#print axioms holds
end Go.Proofs.Ytagjbadlmcfiaaa.fnExactLogOf
