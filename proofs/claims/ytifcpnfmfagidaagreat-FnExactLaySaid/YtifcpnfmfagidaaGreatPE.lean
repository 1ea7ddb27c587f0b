/-
  Plain laws: a frame at a place is found the same by both.
-/
import Derived.Test.YtifcpnfmfagidaaGreatPC
import Derived.Test.YtifcpnfmfagidaaGreatPD
set_option linter.unusedVariables false
set_option linter.unusedSimpArgs false
namespace Lv.P
open Go (IntKind BinOp UnOp)
noncomputable def frRd (d : List UInt8) (i : Int) : GFrame × Bool :=
 open Classical in if h : ∃ x : Int × List UInt8, frOk x.1 x.2 /\ frB x.1 x.2 <+: d then (⟨h.choose.1, h.choose.2, i + (frB h.choose.1 h.choose.2).length⟩, true) else (⟨0, [], 0⟩, false)
noncomputable def frAt (s : List UInt8) (i : Int) : GFrame × Bool := if 0 <= i /\ i <= s.length then frRd (s.drop i.toNat) i else (⟨0, [], 0⟩, false)
@[simp] theorem l1Min_eq (a b : Int) : d_spec_l1Min a b = some (if a < b then a else b) := by
 unfold d_spec_l1Min; rw [br_dec]; split <;> rfl
theorem beq_nil (b : List UInt8) : (b == []) = decide (b = []) := by cases b <;> rfl
end Lv.P
namespace Lv.P
open Go (IntKind BinOp UnOp)
noncomputable def frs : Nat -> List UInt8 -> Int -> List GFrame
 | 0, _, _ => []
 | f + 1, s, i => if (frAt s i).2 = true then (frAt s i).1 :: frs f s (frAt s i).1.Next else []
noncomputable def frames (s : List UInt8) : List GFrame := frs (s.length + 1) s 0
end Lv.P
namespace Lv.P
open Go (IntKind BinOp UnOp)
theorem frB_nil (q : Int) : frB q [] = [] := by unfold frB; rw [if_neg (fun h => by have := h.2.1; simp at this)]
theorem spec_NoteOf (n : Int) (q : GReq) : d_xe1 n q = some (frB n (reqB q)) := by
 unfold d_xe1; rw [spec_ReqBytes, bd_some, beq_nil, br_dec]; split
 ·rename_i h; rw [h, frB_nil]
 ·rw [spec_FrameOf, bd_some]
theorem impl_NoteOf (n : Int) (q : GReq) : d_xfb n q = some (frB n (reqB q)) := by
 unfold d_xfb; rw [impl_ReqBytes, bd_some, impl_FrameOf, bd_some]
theorem frB_le (q : Int) (b : List UInt8) : (frB q b).length <= 74 := by
 by_cases h : frOk q b
 ·exact (frB_len h).2
 ·unfold frB; rw [if_neg h]; simp
end Lv.P
namespace Lv.P
open Go (IntKind BinOp UnOp)
theorem cp_l7 {l : List GEntry} (hl : l.length <= 1048576) : d_xbp l = some l := spec_l7Copy (by unfold lim; omega)
theorem cp_Wheel {F : (Int × GWheel -> Option GWheel) -> Int × GWheel -> Option GWheel} {w : GWheel} (hw : wheelFit w)
 (step : ∀ L i (h : i < w.Spoke.length) (v : GWheel), v.Spoke.length = i -> F L ((i : Int), v) = L (w64 ((i : Int) + 1), ⟨v.Spoke ++ [w.Spoke[i]]⟩)) (stop : ∀ L v, F L ((w.Spoke.length : Int), v) = some v) : loopN F big (0, ⟨[]⟩) = some w := by
 have h1 := hw.1; refine forLoop (n := w.Spoke.length) (fun i (v : GWheel) => ((i : Int), v)) (fun i v => v = ⟨w.Spoke.take i⟩) (fun _ _ => some w) (by omega) ?_ (v := ⟨[]⟩) (by simp); intro L i v hv hi ih; rcases Nat.lt_or_ge i w.Spoke.length with h | h
 ·rw [step L i h v (by rw [hv]; simp; omega), w64_succ h (by omega)]; refine ih _ ?_ h; rw [hv, List.take_add_one, List.getElem?_eq_getElem h]; rfl
 ·obtain rfl : i = w.Spoke.length := by omega
  rw [stop, hv, List.take_length]
theorem cp_WheelS {w : GWheel} (hw : wheelFit w) : d_xev w = some w := by
 have hlim : lim = 268435456 := rfl; have h1 := hw.1; have h2 := hw.2; unfold d_xev; refine cp_Wheel hw ?_ ?_
 ·intro L i h v hv; have := spoke_len h; unfold d_xev_l1; dsimp only; rw [decn_lt h, br_t, at?_lt h, bd_some, gd_t (by omega), gd_t (by rw [len1]; omega), List.nil_append]
 ·intro L v; unfold d_xev_l1 d_xev_j2; dsimp only; rw [decn_ge, br_f, jn_eq]
theorem cp_WheelI {w : GWheel} (hw : wheelFit w) : d_xe5 w = some w := by
 have hlim : lim = 268435456 := rfl; have h1 := hw.1; have h2 := hw.2; unfold d_xe5; refine cp_Wheel hw ?_ ?_
 ·intro L i h v hv; have := spoke_len h; unfold d_xe5_l1; dsimp only; rw [decn_lt h, br_t, at?_lt h, bd_some, gd_t (by omega), gd_t (by rw [len1]; omega)]
 ·intro L v; unfold d_xe5_l1 d_xe5_j2; dsimp only; rw [decn_ge, br_f, jn_eq]
theorem cp_CabinS {c : GCabin} (hc : cabinFit c) : d_xew c = some c := by
 unfold d_xew; rw [cp_l7 hc.1, bd_some, cp_WheelS hc.2, bd_some]
theorem cp_CabinI {c : GCabin} (hc : cabinFit c) : d_xe6 c = some c := by
 unfold d_xe6 d_xe4; have := hc.1; rw [gd_t (by unfold lim; omega), bd_some, cp_WheelI hc.2, bd_some]
theorem cp_Ints {l : List Int} (hl : l.length <= 1048576) : d_xei l = some l := by
 unfold d_xei; rw [gd_t (by unfold lim; omega)]
theorem cp_House {F : (Int × GHouse -> Option GHouse) -> Int × GHouse -> Option GHouse} {h : GHouse} (hf : HouseFit h)
 (step : ∀ L i (hi : i < h.Cabins.length) (v : GHouse), v.Cabins.length = i -> F L ((i : Int), v) = L (w64 ((i : Int) + 1), ⟨v.Rules, v.Now, v.Turn, v.Parties, v.Cabins ++ [h.Cabins[i]], v.Todo, v.Jobs⟩)) (stop : ∀ L v, F L ((h.Cabins.length : Int), v) = some v) : loopN F big (0, ⟨h.Rules, h.Now, h.Turn, h.Parties, [], h.Todo, h.Jobs⟩) = some h := by
 have h1 := hf.ncab; refine forLoop (n := h.Cabins.length) (fun i (v : GHouse) => ((i : Int), v)) (fun i v => v = ⟨h.Rules, h.Now, h.Turn, h.Parties, h.Cabins.take i, h.Todo, h.Jobs⟩) (fun _ _ => some h) (by omega) ?_ (v := ⟨h.Rules, h.Now, h.Turn, h.Parties, [], h.Todo, h.Jobs⟩) (by simp); intro L i v hv hi ih; rcases Nat.lt_or_ge i h.Cabins.length with hc | hc
 ·rw [step L i hc v (by rw [hv]; simp; omega), w64_succ hc (by omega)]; refine ih _ ?_ hc; have e : h.Cabins.take (i + 1) = h.Cabins.take i ++ [h.Cabins[i]] := by rw [List.take_add_one, List.getElem?_eq_getElem hc]; rfl
  rw [hv, e]
 ·obtain rfl : i = h.Cabins.length := by omega
  rw [stop, hv, List.take_length]
theorem cp_HouseS {h : GHouse} (hf : HouseFit h) : d_xex h = some h := by
 have hlim : lim = 268435456 := rfl; have g0 := hf.seats; have p1 := hf.parties; have p2 := hf.todo; have p3 := hf.jobs; have p4 := hf.ncab; have g1 : 0 + h.Parties.length <= lim := by omega
 have g2 : 0 + h.Todo.length <= lim := by omega
 have g3 : 0 + h.Jobs.length <= lim := by omega
 unfold d_xex; simp only [new_copyS g0, bd_some, gd_t g1, gd_t g2, gd_t g3, alt_def, List.nil_append, vGRules_self, ev6_eq, d_xex_a1, d_xex_a3, d_xex_a4, d_xex_a2, d_xex_a6, d_xex_a5, d_xex_a9, d_xex_a10, d_xex_a8, d_xex_a13, d_xex_a12, d_xex_a15, d_xex_a14, d_xex_a11, d_xex_a7, d_xex_a18, d_xex_a17, d_xex_a21, d_xex_a20, d_xex_a23, d_xex_a22, d_xex_a19, d_xex_a16, d_xex_a27, d_xex_a28, d_xex_a26, d_xex_a31, d_xex_a30, d_xex_a33, d_xex_a32, d_xex_a29, d_xex_a25, d_xex_a38, d_xex_a37, d_xex_a40, d_xex_a39, d_xex_a36, d_xex_a35, d_xex_a45, d_xex_a44, d_xex_a43, d_xex_a42, d_xex_a48, d_xex_a47, d_xex_a46, d_xex_a41, d_xex_a34, d_xex_a24]; refine cp_House hf ?_ ?_
 ·intro L i hi v hv; unfold d_xex_l49; dsimp only; rw [decn_lt hi, br_t, at?_lt hi, bd_some, cp_CabinS (hf.cabins _ (List.getElem_mem hi)), bd_some, gd_t (by rw [len1]; omega)]
 ·intro L v; unfold d_xex_l49 d_xex_j50; dsimp only; rw [decn_ge, br_f, jn_eq]
theorem cp_HouseI {h : GHouse} (hf : HouseFit h) : d_xe7 h = some h := by
 have hlim : lim = 268435456 := rfl; have g0 := hf.seats; have p1 := hf.parties; have p2 := hf.todo; have p3 := hf.jobs; have p4 := hf.ncab; have g1 : 0 + h.Parties.length <= lim := by omega
 unfold d_xe7; simp only [new_copyI g0, bd_some, gd_t g1, cp_Ints p2, cp_Ints p3, eqv_self, ev2_eq, ev3_eq, ev4_eq, ev5_eq, ev6_eq, ev7_eq, ev8_eq, vGRules_self, vGHouse_self, vGEngine_self, vGArea_self, vGStore_self, vGReq_self]; refine cp_House hf ?_ ?_
 ·intro L i hi v hv; unfold d_xe7_l1; dsimp only; rw [decn_lt hi, br_t, at?_lt hi, bd_some, cp_CabinI (hf.cabins _ (List.getElem_mem hi)), bd_some, gd_t (by rw [len1]; omega)]
 ·intro L v; unfold d_xe7_l1 d_xe7_j2; dsimp only; rw [decn_ge, br_f, jn_eq]
theorem cp_EngineS {e : GEngine} (he : EngineFit e) : d_xey e = some e := by
 have hlim : lim = 268435456 := rfl; have := he.laid; have g : 0 + e.Laid.length <= lim := by omega
 unfold d_xey; simp only [cp_HouseS he.house, bd_some, gd_t g, eqv_self, ev2_eq, ev3_eq, ev4_eq, ev5_eq, ev6_eq, ev7_eq, ev8_eq, vGRules_self, vGHouse_self, vGEngine_self, vGArea_self, vGStore_self, vGReq_self, List.nil_append]
theorem cp_EngineI {e : GEngine} (he : EngineFit e) : d_xe8 e = some e := by
 have hlim : lim = 268435456 := rfl; have := he.laid; unfold d_xe8; rw [cp_HouseI he.house, bd_some, gd_t (by omega)]
def appendA (a : GArea) (s : List UInt8) : GArea × Bool := if areaB a = true /\ (a.Data.length : Int) + s.length <= 20000 then (⟨a.Data ++ s, a.Safe⟩, true) else (a, false)
theorem areaB_iff {a : GArea} : areaB a = true ↔ (a.Data.length : Int) <= 20000 /\ 0 <= a.Safe /\ a.Safe <= a.Data.length := by
 unfold areaB; rw [Bool.and_eq_true, inB_iff, decide_eq_true_iff]
theorem spec_Append {a : GArea} {s : List UInt8} (hs : s.length <= 100) : d_xe2 a s = some (appendA a s) := by
 have hslim : slim = 4611686018427387904 := rfl; unfold d_xe2 d_xe2_j1 appendA; rw [spec_AreaOk, bd_some, br_not, jn_eq, jn_eq, br_t]; cases hb : areaB a with
 | false => simp
 | true =>
  have hk := areaB_iff.1 hb; rw [br_t, w64_id (by omega) (by omega), gd_t (by omega), br_dec]; by_cases h : (a.Data.length : Int) + s.length <= 20000
  ·rw [if_neg (by omega), if_pos ⟨rfl, h⟩]
  ·rw [if_pos (by omega), if_neg (fun g => h g.2)]
theorem impl_Append {a : GArea} {s : List UInt8} (ha : a.Data.length <= 1048576) (hs : s.length <= 100) : d_xfc a s = some (appendA a s) := by
 have hslim : slim = 4611686018427387904 := rfl; unfold d_xfc d_xfc_j1 appendA; rw [gd_t (by omega), impl_AreaOk, bd_some, br_not, jn_eq, br_t, impl_AreaOk, bd_some, jn_eq, br_not]; cases hb : areaB a with
 | false => simp
 | true =>
  have hk := areaB_iff.1 hb; rw [br_t]; by_cases h : (a.Data.length : Int) + s.length <= 20000
  ·have e : areaB ⟨a.Data ++ s, a.Safe⟩ = true := by
    rw [areaB_iff]; dsimp only; rw [List.length_append]; push_cast; omega
   rw [e, br_t, if_pos ⟨rfl, h⟩]
  ·have e : areaB ⟨a.Data ++ s, a.Safe⟩ = false := by
    rw [<- Bool.not_eq_true, areaB_iff]; dsimp only; rw [List.length_append]; push_cast; omega
   rw [e, br_f, if_neg (fun g => h g.2)]
noncomputable def layE (e : GEngine) (q : GReq) : GEngine × Int :=
 if engineB e = false then (e, 21) else if askB q = false then (e, 22) else if e.Seq = 1000000 then (e, 23) else if e.Laid.length = 8 ∨ (appendA e.Store.Log (frB (w64 (e.Seq + 1)) (reqB q))).2 = false then (e, 24)
 else (⟨e.House, ⟨(appendA e.Store.Log (frB (w64 (e.Seq + 1)) (reqB q))).1, e.Store.Even, e.Store.Odd⟩, w64 (e.Seq + 1), e.Laid ++ [q]⟩, 0)
theorem spec_Lay {e : GEngine} (he : EngineFit e) (q : GReq) : d_xe3 e q = some (layE e q) := by
 have hlim : lim = 268435456 := rfl; have hl := he.laid; have hp := frB_le (w64 (e.Seq + 1)) (reqB q); unfold d_xe3 layE; simp only [cp_EngineS he, spec_EngineOk he, spec_ask, spec_NoteOf, spec_Append (Nat.le_trans hp (by omega) : (frB (w64 (e.Seq + 1)) (reqB q)).length <= 100), bd_some, eqv_self, ev2_eq, ev3_eq, ev4_eq, ev5_eq, ev6_eq, ev7_eq, ev8_eq, vGRules_self, vGHouse_self, vGEngine_self, vGArea_self, vGStore_self, vGReq_self, br_not, jn_eq]; unfold d_xe3_j1; rw [br_not, br_t, gd_t (by rw [len1]; omega)]; cases engineB e with
 | false => rfl
 | true =>
  cases askB q with
  | false => rfl
  | true =>
   simp only [br_t, br_if, beq_iff_eq]; by_cases h1 : e.Seq = 1000000
   ·simp [h1]
   ·by_cases h2 : e.Laid.length = 8
    ·have h2' : (e.Laid.length : Int) = 8 := by omega
     simp [h1, h2, h2']
    ·have h2' : ¬ (e.Laid.length : Int) = 8 := by omega
     cases h3 : (appendA e.Store.Log (frB (w64 (e.Seq + 1)) (reqB q))).2 <;> simp [h1, h2, h2', h3]
theorem impl_Lay {e : GEngine} (he : EngineFit e) (q : GReq) : d_xfd e q = some (layE e q) := by
 have hlim : lim = 268435456 := rfl; have hl := he.laid; have hp := frB_le (w64 (e.Seq + 1)) (reqB q); unfold d_xfd layE; simp only [cp_EngineI he, impl_EngineOk he, impl_ask, impl_NoteOf, impl_Append he.log (Nat.le_trans hp (by omega) : (frB (w64 (e.Seq + 1)) (reqB q)).length <= 100), bd_some, eqv_self, ev2_eq, ev3_eq, ev4_eq, ev5_eq, ev6_eq, ev7_eq, ev8_eq, vGRules_self, vGHouse_self, vGEngine_self, vGArea_self, vGStore_self, vGReq_self, br_not]; rw [gd_t (by rw [len1]; omega)]; cases engineB e with
 | false => rfl
 | true =>
  cases askB q with
  | false => rfl
  | true =>
   simp only [br_t, br_if, beq_iff_eq]; by_cases h1 : e.Seq = 1000000
   ·simp [h1]
   ·by_cases h2 : e.Laid.length = 8
    ·have h2' : (e.Laid.length : Int) = 8 := by omega
     simp [h1, h2, h2']
    ·have h2' : ¬ (e.Laid.length : Int) = 8 := by omega
     cases h3 : (appendA e.Store.Log (frB (w64 (e.Seq + 1)) (reqB q))).2 <;> simp [h1, h2, h2', h3]
theorem engineB_ok {e : GEngine} (h : engineB e = true) : houseB e.House = true /\ storeB e.Store = true /\ e.Laid.length <= 8 /\ ((e.Laid.length : Int) <= e.Seq /\ e.Seq <= 1000000) /\ e.Laid.all askB = true := by
 unfold engineB at h; simp only [Bool.and_eq_true, inB_iff, Bool.not_eq_true', decide_eq_false_iff_not] at h; obtain ⟨h1, h2, h3, h4, h5⟩ := h; exact ⟨h1, h2, by omega, h4, h5⟩
theorem appendA_len {a : GArea} {s : List UInt8} (ha : a.Data.length <= 1048576) : (appendA a s).1.Data.length <= 1048576 := by
 unfold appendA; split
 ·rename_i h; dsimp only; rw [List.length_append]; omega
 ·exact ha
theorem layE_fit {e : GEngine} (he : EngineFit e) (q : GReq) : EngineFit (layE e q).1 := by
 unfold layE; split
 ·exact he
 ·rename_i hb; rw [Bool.not_eq_false] at hb; have hk := engineB_ok hb; split
  ·exact he
  ·split
   ·exact he
   ·split
    ·exact he
    ·exact ⟨he.house, appendA_len he.log, he.even, he.odd, by dsimp only; rw [List.length_append, List.length_singleton]; omega⟩
theorem tor_Req (q : GReq) : d_x4 q = some q := rfl
theorem Law_FnExactLay {e : GEngine} {q : GReq} (he : okGEngine e) (_ : okGReq q) : d_laws_FnExactLay e q = some true := by
 unfold d_laws_FnExactLay; obtain ⟨x, ex, hx⟩ := szr_Engine he; rw [ex, bd_some, br_dec]; split
 ·rfl
 have hs := (hx.resolve_left (by omega)).2.2; have hf := layE_fit hs q; obtain ⟨k', s, ps, cs, td, js, ld, em, ⟨m1, m2⟩, mh⟩ := mark_Engine hf (k := 1) (by omega) (by omega); obtain ⟨k2, s2, ps2, cs2, td2, js2, ld2, em2, ⟨n1, n2⟩, _⟩ := mark_Engine hs (k := 1) (by omega) (by omega); have hk : decide (k' < 0) = false := by rw [decide_eq_false_iff_not]; omega
 have hk2 : decide (k2 < 0) = false := by rw [decide_eq_false_iff_not]; omega
 simp only [tor_Engine hs, tor_Req, spec_Lay hs, impl_Lay hs, bd_some, eqv_self, ev2_eq, ev3_eq, ev4_eq, ev5_eq, ev6_eq, ev7_eq, ev8_eq, vGRules_self, vGHouse_self, vGEngine_self, vGArea_self, vGStore_self, vGReq_self, eqf_Engine hf, br_not, br_t, ne_self, jn_eq]; unfold d_laws_FnExactLay_j1; rw [br_f, tor_Engine hs, bd_some, eqf_Engine hs, bd_some, br_not, br_t, em2, bd_some]; dsimp only; rw [hk2, br_f, eqf_Engine hf, bd_some, br_not, br_t, ne_self, jn_eq]; unfold d_laws_FnExactLay_j2; rw [br_f, em, bd_some, mh _ rfl rfl rfl rfl rfl rfl, bd_some]; dsimp only; rw [hk, br_f, ne_self, br_f]; simp only [tor_Engine hs, tor_Req, impl_Lay hs, bd_some, eqv_self, ev2_eq, ev3_eq, ev4_eq, ev5_eq, ev6_eq, ev7_eq, ev8_eq, vGRules_self, vGHouse_self, vGEngine_self, vGArea_self, vGStore_self, vGReq_self, eqf_Engine hf, br_not, br_t, ne_self, jn_eq]; unfold d_laws_FnExactLay_j3; rw [br_f]; dsimp only; rw [mh _ rfl rfl rfl rfl rfl rfl, bd_some, hk, br_f, ne_self, br_f]
end Lv.P
