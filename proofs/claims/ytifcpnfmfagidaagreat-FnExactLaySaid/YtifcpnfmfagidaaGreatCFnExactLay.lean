/-
  The program's Lay returns what the reference's returns, for all arguments.
-/
import Derived.Test.YtifcpnfmfagidaaGreatRows
import Derived.Test.YtifcpnfmfagidaaGreatKC
import Derived.Test.YtifcpnfmfagidaaGreatLvE
import Derived.Test.YtifcpnfmfagidaaGreatPE
import Derived.Test.YtifcpnfmfagidaaGreatMFnExactLay
import Derived.WalkKit
import Derived.OpenShut
import Derived.JoinedCond
namespace Go.Proofs.YtifcpnfmfagidaaGreat.fnExactLay
open Go Lv Lv.P Go.ChangeShapes Go.WideShapes Go.ChangeAt Go.RowKit

theorem own : ownKnob Tryz.prog.godebug = none := by kernel_rfl
theorem laidOut : laidOutB Tryz.prog = true := by kernel_rfl
set_option maxRecDepth 100000
theorem runs_law {x0 : GEngine} {x1 : GReq} (h : d_laws_FnExactLay x0 x1 = some true) : Runs gf_laws_FnExactLay.x [.v .agg (eGEngine x0), .v .agg (eGReq x1)] .one [.bool true] [] := gf_laws_FnExactLay.ok (x0, x1, ()) true h
section
variable {H : Type} {enc : TypeId × Value → H} {w : World} {base : Nat} {spare : Nat → Bool} {held : Bool}
theorem reads_t3 : Reads enc Tryz.prog w base spare held 3 (fun n : Int => [T.int .i64 n]) okI 1 := .int Tryz.underlying3 (by kernel_rfl)
theorem reads_t22 : Reads enc Tryz.prog w base spare held 22 (fun l : List Int => [T.sl 1 (l.map eN)]) (okL okI) 1 := .slice Tryz.underlying22 (by kernel_rfl) (by decide) reads_t3
theorem reads_t24 : Reads enc Tryz.prog w base spare held 24 eGRules okGRules 9 := (Reads.struct Tryz.underlying24 (by kernel_rfl) (.cons (by kernel_rfl) reads_t22 (.cons (by kernel_rfl) reads_t3 (.cons (by kernel_rfl) reads_t3 (.cons (by kernel_rfl) reads_t3 (.cons (by kernel_rfl) reads_t3 (.cons (by kernel_rfl) reads_t3 (.cons (by kernel_rfl) reads_t3 (.cons (by kernel_rfl) reads_t3 (.cons (by kernel_rfl) reads_t3 .nil)))))))))).map (fun x => ⟨x.1, x.2.1, x.2.2.1, x.2.2.2.1, x.2.2.2.2.1, x.2.2.2.2.2.1, x.2.2.2.2.2.2.1, x.2.2.2.2.2.2.2.1, x.2.2.2.2.2.2.2.2.1⟩) (fun _ => rfl) (fun _ h => h)
theorem reads_t139 : Reads enc Tryz.prog w base spare held 139 eGParty okGParty 10 := (Reads.struct Tryz.underlying139 (by kernel_rfl) (.cons (by kernel_rfl) reads_t3 (.cons (by kernel_rfl) reads_t3 (.cons (by kernel_rfl) reads_t3 (.cons (by kernel_rfl) reads_t3 (.cons (by kernel_rfl) reads_t3 (.cons (by kernel_rfl) reads_t3 (.cons (by kernel_rfl) reads_t3 (.cons (by kernel_rfl) reads_t3 (.cons (by kernel_rfl) reads_t3 (.cons (by kernel_rfl) reads_t3 .nil))))))))))).map (fun x => ⟨x.1, x.2.1, x.2.2.1, x.2.2.2.1, x.2.2.2.2.1, x.2.2.2.2.2.1, x.2.2.2.2.2.2.1, x.2.2.2.2.2.2.2.1, x.2.2.2.2.2.2.2.2.1, x.2.2.2.2.2.2.2.2.2.1⟩) (fun _ => rfl) (fun _ h => h)
theorem reads_t25 : Reads enc Tryz.prog w base spare held 25 (fun l : List GParty => [T.sl 10 (l.map eGParty)]) (okL okGParty) 1 := .slice Tryz.underlying25 (by kernel_rfl) (by decide) reads_t139
theorem reads_t129 : Reads enc Tryz.prog w base spare held 129 eGLedger okGLedger 5 := (Reads.struct Tryz.underlying129 (by kernel_rfl) (.cons (by kernel_rfl) reads_t3 (.cons (by kernel_rfl) reads_t3 (.cons (by kernel_rfl) reads_t3 (.cons (by kernel_rfl) reads_t3 (.cons (by kernel_rfl) reads_t3 .nil)))))).map (fun x => ⟨x.1, x.2.1, x.2.2.1, x.2.2.2.1, x.2.2.2.2.1⟩) (fun _ => rfl) (fun _ h => h)
theorem reads_t196 : Reads enc Tryz.prog w base spare held 196 eGEntry okGEntry 4 := (Reads.struct Tryz.underlying196 (by kernel_rfl) (.cons (by kernel_rfl) reads_t3 (.cons (by kernel_rfl) reads_t3 (.cons (by kernel_rfl) reads_t3 (.cons (by kernel_rfl) reads_t3 .nil))))).map (fun x => ⟨x.1, x.2.1, x.2.2.1, x.2.2.2.1⟩) (fun _ => rfl) (fun _ h => h)
theorem reads_t130 : Reads enc Tryz.prog w base spare held 130 (fun l : List GEntry => [T.sl 4 (l.map eGEntry)]) (okL okGEntry) 1 := .slice Tryz.underlying130 (by kernel_rfl) (by decide) reads_t196
theorem reads_t220 : Reads enc Tryz.prog w base spare held 220 eGPin okGPin 2 := (Reads.struct Tryz.underlying220 (by kernel_rfl) (.cons (by kernel_rfl) reads_t3 (.cons (by kernel_rfl) reads_t3 .nil))).map (fun x => ⟨x.1, x.2.1⟩) (fun _ => rfl) (fun _ h => h)
theorem reads_t207 : Reads enc Tryz.prog w base spare held 207 (fun l : List GPin => [T.sl 2 (l.map eGPin)]) (okL okGPin) 1 := .slice Tryz.underlying207 (by kernel_rfl) (by decide) reads_t220
theorem reads_t131 : Reads enc Tryz.prog w base spare held 131 (fun l : List (List GPin) => [T.sl 1 (l.map (fun l : List GPin => [T.sl 2 (l.map eGPin)]))]) (okL (okL okGPin)) 1 := .slice Tryz.underlying131 (by kernel_rfl) (by decide) reads_t207
theorem reads_t133 : Reads enc Tryz.prog w base spare held 133 eGWheel okGWheel 1 := (Reads.struct Tryz.underlying133 (by kernel_rfl) (.cons (by kernel_rfl) reads_t131 .nil)).map (fun x => ⟨x.1⟩) (fun _ => rfl) (fun _ h => h)
theorem reads_t135 : Reads enc Tryz.prog w base spare held 135 eGCabin okGCabin 7 := (Reads.struct Tryz.underlying135 (by kernel_rfl) (.cons (by kernel_rfl) reads_t129 (.cons (by kernel_rfl) reads_t130 (.cons (by kernel_rfl) reads_t133 .nil)))).map (fun x => ⟨x.1, x.2.1, x.2.2.1⟩) (fun _ => rfl) (fun _ h => h)
theorem reads_t26 : Reads enc Tryz.prog w base spare held 26 (fun l : List GCabin => [T.sl 7 (l.map eGCabin)]) (okL okGCabin) 1 := .slice Tryz.underlying26 (by kernel_rfl) (by decide) reads_t135
theorem reads_t28 : Reads enc Tryz.prog w base spare held 28 eGHouse okGHouse 15 := (Reads.struct Tryz.underlying28 (by kernel_rfl) (.cons (by kernel_rfl) reads_t24 (.cons (by kernel_rfl) reads_t3 (.cons (by kernel_rfl) reads_t3 (.cons (by kernel_rfl) reads_t25 (.cons (by kernel_rfl) reads_t26 (.cons (by kernel_rfl) reads_t22 (.cons (by kernel_rfl) reads_t22 .nil)))))))).map (fun x => ⟨x.1, x.2.1, x.2.2.1, x.2.2.2.1, x.2.2.2.2.1, x.2.2.2.2.2.1, x.2.2.2.2.2.2.1⟩) (fun _ => rfl) (fun _ h => h)
theorem reads_t9 : Reads enc Tryz.prog w base spare held 9 eSt okS 1 := .str Tryz.underlying9 (by kernel_rfl)
theorem reads_t67 : Reads enc Tryz.prog w base spare held 67 eGArea okGArea 2 := (Reads.struct Tryz.underlying67 (by kernel_rfl) (.cons (by kernel_rfl) reads_t9 (.cons (by kernel_rfl) reads_t3 .nil))).map (fun x => ⟨x.1, x.2.1⟩) (fun _ => rfl) (fun _ h => h)
theorem reads_t69 : Reads enc Tryz.prog w base spare held 69 eGStore okGStore 6 := (Reads.struct Tryz.underlying69 (by kernel_rfl) (.cons (by kernel_rfl) reads_t67 (.cons (by kernel_rfl) reads_t67 (.cons (by kernel_rfl) reads_t67 .nil)))).map (fun x => ⟨x.1, x.2.1, x.2.2.1⟩) (fun _ => rfl) (fun _ h => h)
theorem reads_t74 : Reads enc Tryz.prog w base spare held 74 eGReq okGReq 6 := (Reads.struct Tryz.underlying74 (by kernel_rfl) (.cons (by kernel_rfl) reads_t3 (.cons (by kernel_rfl) reads_t3 (.cons (by kernel_rfl) reads_t3 (.cons (by kernel_rfl) reads_t3 (.cons (by kernel_rfl) reads_t3 (.cons (by kernel_rfl) reads_t3 .nil))))))).map (fun x => ⟨x.1, x.2.1, x.2.2.1, x.2.2.2.1, x.2.2.2.2.1, x.2.2.2.2.2.1⟩) (fun _ => rfl) (fun _ h => h)
theorem reads_t70 : Reads enc Tryz.prog w base spare held 70 (fun l : List GReq => [T.sl 6 (l.map eGReq)]) (okL okGReq) 1 := .slice Tryz.underlying70 (by kernel_rfl) (by decide) reads_t74
theorem reads_t72 : Reads enc Tryz.prog w base spare held 72 eGEngine okGEngine 23 := (Reads.struct Tryz.underlying72 (by kernel_rfl) (.cons (by kernel_rfl) reads_t28 (.cons (by kernel_rfl) reads_t69 (.cons (by kernel_rfl) reads_t3 (.cons (by kernel_rfl) reads_t70 .nil))))).map (fun x => ⟨x.1, x.2.1, x.2.2.1, x.2.2.2.1⟩) (fun _ => rfl) (fun _ h => h)
end

theorem contract (H : Type) (enc : TypeId × Value → H) (W : World) (base : Nat) (args : Array Value) (ds gs : List (DataW H)) (before : List MemPlace)
    (hval : ∀ (j : Nat) t v, Tryz.f7.params[j]? = some t → args[j]? = some v → Value.okWide Tryz.prog W .any base t v)
    (hW : DataW.Whole enc Tryz.prog Tryz.f7.params.toList Rows.fnExactLaySpec.vars false W args.toList ds gs before) :
    Calls Tryz.prog 7 args W fun e W' => ∃ v, e = .returned v ∧ Rows.fnExactLaySpec.post enc Tryz.prog Tryz.f7 false true false false W args v W' := by
  have hW' := hW
  obtain ⟨p, q, hA0, hV, rfl, hfz, hnd⟩ := hW
  have hA : DataW.TrodAll enc Tryz.prog W 0 (fun _ => true) true Tryz.f7.params.toList args.toList ds p := hA0
  obtain ⟨rfl, rfl⟩ := trodVars_none hV
  clear hA0
  simp only [List.append_nil] at hW'
  have hA1 := hA
  rw [Tryz.params7] at hA1 hval
  obtain ⟨v0, vs0, d0, ds0, p0, q0, hargs, rfl, rfl, h0, hA1⟩ := trodAll_cons hA1
  obtain ⟨v1, vs1, d1, ds1, p1, q1, rfl, rfl, rfl, h1, hA1⟩ := trodAll_cons hA1
  obtain ⟨rfl, rfl, rfl⟩ := trodAll_nil hA1
  obtain rfl : args = #[v0, v1] := by cases args; simp_all
  obtain ⟨cs0, rfl, hs0⟩ := okWide_struct Tryz.underlying72 (hval 0 72 v0 rfl rfl)
  obtain ⟨x0, k0, e0⟩ := reads_t72.agg h0 hs0
  obtain ⟨cs1, rfl, hs1⟩ := okWide_struct Tryz.underlying74 (hval 1 74 v1 rfl rfl)
  obtain ⟨x1, k1, e1⟩ := reads_t74.agg h1 hs1
  refine law_post (A := (fun _ _ _ => False)) prims_none laidOut (tb := 4) Tryz.underlying4 rfl (runs_law (Law_FnExactLay k0 k1)) mt_laws_FnExactLay (gf_laws_FnExactLay.ms.trans rfl) rfl ?_ hW' hA rfl (by rw [Tryz.params7]; exact of_decide_eq_true (by kernel_rfl)) rfl rfl rfl
  intro i V u hV hu
  match i, hV, hu with
  | 0, hV, hu => cases hV; cases hu; exact e0
  | 1, hV, hu => cases hV; cases hu; exact e1

set_option maxRecDepth 100000 in
theorem lifted (os : Os) (started : os.Started) (H : Type) (enc : TypeId × Value → H) :
    ReturnsInHanded {} Tryz.checked os 7 .any (Rows.fnExactLaySpec.pre6 enc Tryz.prog Tryz.f7 Rows.fnExactLayRow.domain false) (Rows.fnExactLaySpec.post enc Tryz.prog Tryz.f7 false true false false) := by
  refine returnsInHanded_of_change (C := Tryz.checked) own started (by kernel_rfl) Tryz.func7
    (ChangeSpec.witness6 (enc := enc) (C := Tryz.checked) false ⟨#[], #[.agg #[.slice none 0 0, .int .i64 0, .int .i64 0, .int .i64 0, .int .i64 0, .int .i64 0, .int .i64 0, .int .i64 0, .int .i64 0, .int .i64 0, .int .i64 0, .slice none 0 0, .slice none 0 0, .slice none 0 0, .slice none 0 0, .string ⟨#[]⟩, .int .i64 0, .string ⟨#[]⟩, .int .i64 0, .string ⟨#[]⟩, .int .i64 0, .int .i64 0, .slice none 0 0], .agg #[.int .i64 0, .int .i64 0, .int .i64 0, .int .i64 0, .int .i64 0, .int .i64 0]], []⟩ 8 (by kernel_rfl) (by kernel_rfl) (by kernel_rfl) (by kernel_rfl)) ?_
  intro W base args ds gs before hval hW _ _
  exact contract H enc W base args ds gs before hval hW

theorem holds : Rows.FnExactLaySaid :=
  OpenClaim.holds_of_wide 7 Tryz.f7 rfl rfl rfl rfl rfl rfl rfl ⟨rfl, rfl, rfl, rfl, rfl⟩ rfl rfl rfl rfl rfl (by kernel_rfl) Tryz.func7 (by kernel_rfl)
    (of_decide_eq_true (by kernel_rfl)) (by unfold Func.isWrapper; first | (rw [if_pos (by decide +kernel)]; kernel_rfl) | (rw [if_neg (by decide +kernel)]; exact ⟨rfl, rfl⟩))
    (fun os started H enc _ => lifted os started H enc)
#print axioms holds
end Go.Proofs.YtifcpnfmfagidaaGreat.fnExactLay
