/-
  The program's NotesIn returns what the reference's returns, for all arguments.
-/
import Derived.Test.YtagjbadlmcfiaaaRows
import Derived.Test.YtagjbadlmcfiaaaK2c
import Derived.Test.YtagjbadlmcfiaaaLvE
import Derived.Test.YtagjbadlmcfiaaaPN
import Derived.WalkKit
import Derived.OpenShut
import Derived.JoinedCond
namespace Go.Proofs.Ytagjbadlmcfiaaa.fnExactNotesIn
open Go Lv Lv.P Go.ChangeShapes Go.WideShapes Go.ChangeAt Go.RowKit

theorem own : ownKnob Try.prog.godebug = none := by kernel_rfl
theorem laidOut : laidOutB Try.prog = true := by kernel_rfl
set_option maxRecDepth 100000
theorem mt_laws_szFrame : Mt (fun _ _ _ => False) Try.prog 54 gf_laws_szFrame.x := .by Try.func54 (by kernel_rfl) (l := []) (by kernel_rfl) .none
theorem mt_laws_szFrameS : Mt (fun _ _ _ => False) Try.prog 23 gf_laws_szFrameS.x := .by Try.func23 (by kernel_rfl) (l := [(54, gf_laws_szFrame.x)]) (by kernel_rfl) (.and mt_laws_szFrame .none)
theorem mt_laws_toFrame : Mt (fun _ _ _ => False) Try.prog 55 gf_laws_toFrame.x := .by Try.func55 (by kernel_rfl) (l := []) (by kernel_rfl) .none
theorem mt_laws_toFrameS : Mt (fun _ _ _ => False) Try.prog 25 gf_laws_toFrameS.x := .by Try.func25 (by kernel_rfl) (l := [(55, gf_laws_toFrame.x)]) (by kernel_rfl) (.and mt_laws_toFrame .none)
theorem mt_spec_GetNum : Mt (fun _ _ _ => False) Try.prog 76 gf_spec_GetNum.x := .by Try.func76 (by kernel_rfl) (l := []) (by kernel_rfl) .none
theorem mt_spec_l18Read : Mt (fun _ _ _ => False) Try.prog 46 gf_spec_l18Read.x := .by Try.func46 (by kernel_rfl) (l := [(76, gf_spec_GetNum.x)]) (by kernel_rfl) (.and mt_spec_GetNum .none)
theorem mt_spec_l1In : Mt (fun _ _ _ => False) Try.prog 62 gf_spec_l1In.x := .by Try.func62 (by kernel_rfl) (l := []) (by kernel_rfl) .none
theorem mt_spec_l12Field : Mt (fun _ _ _ => False) Try.prog 61 gf_spec_l12Field.x := .by Try.func61 (by kernel_rfl) (l := [(62, gf_spec_l1In.x)]) (by kernel_rfl) (.and mt_spec_l1In .none)
theorem mt_spec_ReqOk : Mt (fun _ _ _ => False) Try.prog 34 gf_spec_ReqOk.x := .by Try.func34 (by kernel_rfl) (l := [(61, gf_spec_l12Field.x), (61, gf_spec_l12Field.x), (62, gf_spec_l1In.x), (61, gf_spec_l12Field.x), (61, gf_spec_l12Field.x), (61, gf_spec_l12Field.x), (61, gf_spec_l12Field.x), (61, gf_spec_l12Field.x)]) (by kernel_rfl) (.and mt_spec_l12Field (.and mt_spec_l12Field (.and mt_spec_l1In (.and mt_spec_l12Field (.and mt_spec_l12Field (.and mt_spec_l12Field (.and mt_spec_l12Field (.and mt_spec_l12Field .none))))))))
theorem mt_spec_PutNum : Mt (fun _ _ _ => False) Try.prog 92 gf_spec_PutNum.x := .by Try.func92 (by kernel_rfl) (l := [(62, gf_spec_l1In.x)]) (by kernel_rfl) (.and mt_spec_l1In .none)
theorem mt_spec_l18Nums : Mt (fun _ _ _ => False) Try.prog 69 gf_spec_l18Nums.x := .by Try.func69 (by kernel_rfl) (l := [(92, gf_spec_PutNum.x)]) (by kernel_rfl) (.and mt_spec_PutNum .none)
theorem mt_spec_ReqBytes : Mt (fun _ _ _ => False) Try.prog 37 gf_spec_ReqBytes.x := .by Try.func37 (by kernel_rfl) (l := [(34, gf_spec_ReqOk.x), (69, gf_spec_l18Nums.x), (69, gf_spec_l18Nums.x), (69, gf_spec_l18Nums.x), (69, gf_spec_l18Nums.x)]) (by kernel_rfl) (.and mt_spec_ReqOk (.and mt_spec_l18Nums (.and mt_spec_l18Nums (.and mt_spec_l18Nums (.and mt_spec_l18Nums .none)))))
theorem mt_spec_ReqRead : Mt (fun _ _ _ => False) Try.prog 11 gf_spec_ReqRead.x := .by Try.func11 (by kernel_rfl) (l := [(46, gf_spec_l18Read.x), (37, gf_spec_ReqBytes.x)]) (by kernel_rfl) (.and mt_spec_l18Read (.and mt_spec_ReqBytes .none))
theorem mt_spec_NotesIn : Mt (fun _ _ _ => False) Try.prog 24 gf_spec_NotesIn.x := .by Try.func24 (by kernel_rfl) (l := [(11, gf_spec_ReqRead.x)]) (by kernel_rfl) (.and mt_spec_ReqRead .none)
theorem mt_impl_within : Mt (fun _ _ _ => False) Try.prog 70 gf_impl_within.x := .by Try.func70 (by kernel_rfl) (l := []) (by kernel_rfl) .none
theorem mt_impl_PutNum : Mt (fun _ _ _ => False) Try.prog 71 gf_impl_PutNum.x := .by Try.func71 (by kernel_rfl) (l := [(70, gf_impl_within.x)]) (by kernel_rfl) (.and mt_impl_within .none)
theorem mt_impl_GetNum : Mt (fun _ _ _ => False) Try.prog 77 gf_impl_GetNum.x := .by Try.func77 (by kernel_rfl) (l := [(70, gf_impl_within.x), (71, gf_impl_PutNum.x)]) (by kernel_rfl) (.and mt_impl_within (.and mt_impl_PutNum .none))
theorem mt_impl_getNums : Mt (fun _ _ _ => False) Try.prog 47 gf_impl_getNums.x := .by Try.func47 (by kernel_rfl) (l := [(77, gf_impl_GetNum.x)]) (by kernel_rfl) (.and mt_impl_GetNum .none)
theorem mt_impl_ReqOk_1 : Mt (fun _ _ _ => False) Try.prog 75 gf_impl_ReqOk_1.x := .by Try.func75 (by kernel_rfl) (l := [(70, gf_impl_within.x)]) (by kernel_rfl) (.and mt_impl_within .none)
theorem mt_impl_ReqOk : Mt (fun _ _ _ => False) Try.prog 43 gf_impl_ReqOk.x := .by Try.func43 (by kernel_rfl) (l := [(75, gf_impl_ReqOk_1.x), (70, gf_impl_within.x)]) (by kernel_rfl) (.and mt_impl_ReqOk_1 (.and mt_impl_within .none))
theorem mt_impl_putNums : Mt (fun _ _ _ => False) Try.prog 60 gf_impl_putNums.x := .by Try.func60 (by kernel_rfl) (l := [(71, gf_impl_PutNum.x)]) (by kernel_rfl) (.and mt_impl_PutNum .none)
theorem mt_impl_ReqBytes : Mt (fun _ _ _ => False) Try.prog 33 gf_impl_ReqBytes.x := .by Try.func33 (by kernel_rfl) (l := [(43, gf_impl_ReqOk.x), (60, gf_impl_putNums.x)]) (by kernel_rfl) (.and mt_impl_ReqOk (.and mt_impl_putNums .none))
theorem mt_impl_ReqRead : Mt (fun _ _ _ => False) Try.prog 12 gf_impl_ReqRead.x := .by Try.func12 (by kernel_rfl) (l := [(47, gf_impl_getNums.x), (33, gf_impl_ReqBytes.x)]) (by kernel_rfl) (.and mt_impl_getNums (.and mt_impl_ReqBytes .none))
theorem mt_impl_NotesIn : Mt (fun _ _ _ => False) Try.prog 26 gf_impl_NotesIn.x := .by Try.func26 (by kernel_rfl) (l := [(12, gf_impl_ReqRead.x)]) (by kernel_rfl) (.and mt_impl_ReqRead .none)
theorem mt_laws_eqReq : Mt (fun _ _ _ => False) Try.prog 13 gf_laws_eqReq.x := .by Try.func13 (by kernel_rfl) (l := []) (by kernel_rfl) .none
theorem mt_laws_eqReqS : Mt (fun _ _ _ => False) Try.prog 22 gf_laws_eqReqS.x := .by Try.func22 (by kernel_rfl) (l := [(13, gf_laws_eqReq.x)]) (by kernel_rfl) (.and mt_laws_eqReq .none)
theorem mt_laws_eqFrame : Mt (fun _ _ _ => False) Try.prog 56 gf_laws_eqFrame.x := .by Try.func56 (by kernel_rfl) (l := []) (by kernel_rfl) .none
theorem mt_laws_eqFrameS : Mt (fun _ _ _ => False) Try.prog 27 gf_laws_eqFrameS.x := .by Try.func27 (by kernel_rfl) (l := [(56, gf_laws_eqFrame.x)]) (by kernel_rfl) (.and mt_laws_eqFrame .none)
theorem mt_laws_markText : Mt (fun _ _ _ => False) Try.prog 57 gf_laws_markText.x := .by Try.func57 (by kernel_rfl) (l := []) (by kernel_rfl) .none
theorem mt_laws_markFrameS : Mt (fun _ _ _ => False) Try.prog 28 gf_laws_markFrameS.x := .by Try.func28 (by kernel_rfl) (l := [(57, gf_laws_markText.x)]) (by kernel_rfl) (.and mt_laws_markText .none)
theorem mt_laws_markReqS : Mt (fun _ _ _ => False) Try.prog 29 gf_laws_markReqS.x := .by Try.func29 (by kernel_rfl) (l := []) (by kernel_rfl) .none
theorem mt_laws_heldReqS : Mt (fun _ _ _ => False) Try.prog 30 gf_laws_heldReqS.x := .by Try.func30 (by kernel_rfl) (l := []) (by kernel_rfl) .none
theorem mt_laws_FnExactNotesIn : Mt (fun _ _ _ => False) Try.prog 6 gf_laws_FnExactNotesIn.x := .by Try.func6 (by kernel_rfl) (l := [(23, gf_laws_szFrameS.x), (25, gf_laws_toFrameS.x), (24, gf_spec_NotesIn.x), (25, gf_laws_toFrameS.x), (26, gf_impl_NotesIn.x), (22, gf_laws_eqReqS.x), (25, gf_laws_toFrameS.x), (27, gf_laws_eqFrameS.x), (28, gf_laws_markFrameS.x), (22, gf_laws_eqReqS.x), (29, gf_laws_markReqS.x), (30, gf_laws_heldReqS.x), (25, gf_laws_toFrameS.x), (26, gf_impl_NotesIn.x), (22, gf_laws_eqReqS.x), (30, gf_laws_heldReqS.x)]) (by kernel_rfl) (.and mt_laws_szFrameS (.and mt_laws_toFrameS (.and mt_spec_NotesIn (.and mt_laws_toFrameS (.and mt_impl_NotesIn (.and mt_laws_eqReqS (.and mt_laws_toFrameS (.and mt_laws_eqFrameS (.and mt_laws_markFrameS (.and mt_laws_eqReqS (.and mt_laws_markReqS (.and mt_laws_heldReqS (.and mt_laws_toFrameS (.and mt_impl_NotesIn (.and mt_laws_eqReqS (.and mt_laws_heldReqS .none))))))))))))))))
theorem runs_law {x0 : List GFrame} (h : d_laws_FnExactNotesIn x0 = some true) : Runs gf_laws_FnExactNotesIn.x [.v .one [T.sl 3 (x0.map eGFrame)]] .one [.bool true] [] := gf_laws_FnExactNotesIn.ok (x0, ()) true h
section
variable {H : Type} {enc : TypeId × Value → H} {w : World} {base : Nat} {spare : Nat → Bool} {held : Bool}
theorem reads_t3 : Reads enc Try.prog w base spare held 3 (fun n : Int => [T.int .i64 n]) okI 1 := .int Try.underlying3 (by kernel_rfl)
theorem reads_t9 : Reads enc Try.prog w base spare held 9 eSt okS 1 := .str Try.underlying9 (by kernel_rfl)
theorem reads_t79 : Reads enc Try.prog w base spare held 79 eGFrame okGFrame 3 := (Reads.struct Try.underlying79 (by kernel_rfl) (.cons (by kernel_rfl) reads_t3 (.cons (by kernel_rfl) reads_t9 (.cons (by kernel_rfl) reads_t3 .nil)))).map (fun x => ⟨x.1, x.2.1, x.2.2.1⟩) (fun _ => rfl) (fun _ h => h)
theorem reads_t46 : Reads enc Try.prog w base spare held 46 (fun l : List GFrame => [T.sl 3 (l.map eGFrame)]) (okL okGFrame) 1 := .slice Try.underlying46 (by kernel_rfl) (by decide) reads_t79
end

theorem contract (H : Type) (enc : TypeId × Value → H) (W : World) (base : Nat) (args : Array Value) (ds gs : List (DataW H)) (before : List MemPlace)
    (hval : ∀ (j : Nat) t v, Try.f6.params[j]? = some t → args[j]? = some v → Value.okWide Try.prog W .any base t v)
    (hW : DataW.Whole enc Try.prog Try.f6.params.toList Rows.fnExactNotesInSpec.vars false W args.toList ds gs before) :
    Calls Try.prog 6 args W fun e W' => ∃ v, e = .returned v ∧ Rows.fnExactNotesInSpec.post enc Try.prog Try.f6 false true false false W args v W' := by
  have hW' := hW
  obtain ⟨p, q, hA0, hV, rfl, hfz, hnd⟩ := hW
  have hA : DataW.TrodAll enc Try.prog W 0 (fun _ => true) true Try.f6.params.toList args.toList ds p := hA0
  obtain ⟨rfl, rfl⟩ := trodVars_none hV
  clear hA0
  simp only [List.append_nil] at hW'
  have hA1 := hA
  rw [Try.params6] at hA1 hval
  obtain ⟨v0, vs0, d0, ds0, p0, q0, hargs, rfl, rfl, h0, hA1⟩ := trodAll_cons hA1
  obtain ⟨rfl, rfl, rfl⟩ := trodAll_nil hA1
  obtain rfl : args = #[v0] := by cases args; simp_all
  obtain ⟨a0, len0, cap0, rfl⟩ := okWide_slice Try.underlying46 (hval 0 46 v0 rfl rfl)
  obtain ⟨x0, k0, e0⟩ := reads_t46.one h0 rfl
  refine law_post (A := (fun _ _ _ => False)) prims_none laidOut (tb := 4) Try.underlying4 rfl (runs_law (Law_FnExactNotesIn k0)) mt_laws_FnExactNotesIn (gf_laws_FnExactNotesIn.ms.trans rfl) rfl ?_ hW' hA rfl (by rw [Try.params6]; exact of_decide_eq_true (by kernel_rfl)) rfl rfl rfl
  intro i V u hV hu
  match i, hV, hu with
  | 0, hV, hu => cases hV; cases hu; exact e0

set_option maxRecDepth 100000 in
theorem lifted (os : Os) (started : os.Started) (H : Type) (enc : TypeId × Value → H) :
    ReturnsInHanded {} Try.checked os 6 .any (Rows.fnExactNotesInSpec.pre6 enc Try.prog Try.f6 Rows.fnExactNotesInRow.domain false) (Rows.fnExactNotesInSpec.post enc Try.prog Try.f6 false true false false) := by
  refine returnsInHanded_of_change (C := Try.checked) own started (by kernel_rfl) Try.func6
    (ChangeSpec.witness6 (enc := enc) (C := Try.checked) false ⟨#[], #[.slice none 0 0], []⟩ 8 (by kernel_rfl) (by kernel_rfl) (by kernel_rfl) (by kernel_rfl)) ?_
  intro W base args ds gs before hval hW _ _
  exact contract H enc W base args ds gs before hval hW

theorem holds : Rows.FnExactNotesInSaid :=
  OpenClaim.holds_of_wide 6 Try.f6 rfl rfl rfl rfl rfl rfl rfl ⟨rfl, rfl, rfl, rfl, rfl⟩ rfl rfl rfl rfl rfl (by kernel_rfl) Try.func6 (by kernel_rfl)
    (of_decide_eq_true (by kernel_rfl)) (by unfold Func.isWrapper; first | (rw [if_pos (by decide +kernel)]; kernel_rfl) | (rw [if_neg (by decide +kernel)]; exact ⟨rfl, rfl⟩))
    (fun os started H enc _ => lifted os started H enc)
#print axioms holds
end Go.Proofs.Ytagjbadlmcfiaaa.fnExactNotesIn
