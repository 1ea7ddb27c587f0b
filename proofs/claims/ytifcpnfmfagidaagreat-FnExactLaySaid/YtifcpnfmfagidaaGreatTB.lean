/-
  The typed light machine is right, fifth part: what comes back from calls.
-/
import Derived.Test.YtifcpnfmfagidaaGreatTA
set_option linter.unusedVariables false
set_option linter.unusedSimpArgs false
namespace Lv
open Go (IntKind BinOp UnOp)
theorem br_eq {γ : Type} {b : Bool} {x y : Option γ} {r : γ} (h : br b x y = some r) : (b = true /\ x = some r) ∨ (b = false /\ y = some r) := by
 rw [br_def] at h; cases b with
 | true => exact .inl ⟨rfl, h⟩
 | false => exact .inr ⟨rfl, h⟩
theorem gd_eq {γ : Type} {p : Prop} [Decidable p] {x : Option γ} {r : γ} (h : gd p x = some r) : p /\ x = some r := by
 rw [gd_def] at h; split at h
 ·rename_i hp; exact ⟨hp, h⟩
 ·cases h
theorem bd_eq {α γ : Type} {o : Option α} {f : α -> Option γ} {r : γ} (h : bd o f = some r) : ∃ a, o = some a /\ f a = some r := ob (bd_def o f ▸ h)
theorem setC_get (X : List (List T)) (i j : Nat) (o : T) (k : Nat) : (setC X i j o)[k]? = if k = i then (X[i]?).map (fun row => row.set j o) else X[k]? := by
 unfold setC; rw [List.getElem?_set]; by_cases h : i = k
 ·subst h; simp only [if_true]; split
  ·rename_i hl; simp [List.getD_eq_getElem?_getD, List.getElem?_eq_getElem hl]
  ·rename_i hl; rw [List.getElem?_eq_none (by omega)]; rfl
 ·rw [if_neg h, if_neg (fun h' => h h'.symm)]
theorem setC_comm (X : List (List T)) (i j i2 j2 : Nat) (o t : T) (h : j2 ≠ j) : setC (setC X i2 j2 t) i j o = setC (setC X i j o) i2 j2 t := by
 apply List.ext_getElem?; intro k; simp only [setC_get]; by_cases h1 : k = i
 ·subst h1; simp only [if_true]; by_cases h2 : k = i2
  ·subst h2; simp only [if_true]; cases X[k]? with
   | none => rfl
   | some row => simp only [Option.map_some]; rw [List.set_comm _ _ h]
  ·rw [if_neg h2, if_neg h2]
 ·rw [if_neg h1]; by_cases h2 : k = i2
  ·subst h2; simp only [if_true, if_neg h1]
  ·simp only [if_neg h1, if_neg h2]
theorem setC_setC (X : List (List T)) (i j : Nat) (o t : T) : setC (setC X i j t) i j o = setC X i j o := by
 apply List.ext_getElem?; intro k; simp only [setC_get]; by_cases h1 : k = i
 ·subst h1; simp only [if_true]; cases X[k]? with
  | none => rfl
  | some row => simp
 ·simp only [if_neg h1]
namespace Y
section
variable {R : List GF} {ρ : Type}
theorem holes_set (i j : Nat) (o : T) : ∀ (hs : List (Nat × Nat)) (X : List (List T)), (∀ p ∈ hs, p.2 ≠ j) -> setC (holes X hs) i j o = holes (setC X i j o) hs
 | [], X, _ => rfl
 | (a, b) :: hs, X, h => by
  simp only [holes]; rw [holes_set i j o hs _ (fun p hp => h p (by simp [hp])), setC_comm X i j a b o .top (h (a, b) (by simp))]
theorem setC_enc {c : C} {xs : List c.D} {i j : Nat} {o : U} {x x' : c.D} (hx : xs[i]? = some x) (h : ofC c ((cells c x).set j o) = some x') : setC (xs.map (enc c)) i j o.fg = (xs.set i x').map (enc c) := by
 have h1 : i < xs.length := (List.getElem?_eq_some_iff.1 hx).1; apply List.ext_getElem?; intro k; simp only [setC_get, List.getElem?_map, List.getElem?_set]; by_cases hk : k = i
 ·subst hk; simp only [if_true, hx, Option.map_some, h1, Option.some.injEq]; rw [ofC_enc h, enc_cells, List.map_set]
 ·rw [if_neg hk, if_neg (fun h => hk h.symm)]
theorem fillK_ok : ∀ {ls : List Leaf} {us : List U} {S : St} {K : St -> Option ρ} {r : ρ}, fillK S ls us K = some r ->
 ∃ S', Lv.fillK (S.fg R) (ls.map (Leaf.fg R)) (us.map U.fg) = some (S'.fg R) /\ Keeps S S' /\ K S' = some r
 | [], [], S, K, r, h => ⟨S, rfl, Keeps.refl _, h⟩
 | [], u :: us, S, K, r, h => by simp [fillK] at h
 | l :: ls, [], S, K, r, h => by cases l <;> simp [fillK] at h
 | l :: ls, o :: us, S, K, r, h => by
  cases l with
  | t x =>
   have h : fillK S ls us K = some r := h; obtain ⟨S', h1, h2, h3⟩ := fillK_ok h; exact ⟨S', h1, h2, h3⟩
  | al q sub =>
   cases sub with
   | some p => simp [fillK] at h
   | none =>
    have h : fillK (S.setRoot q (.ow o)) ls us K = some r := h; obtain ⟨S', h1, h2, h3⟩ := fillK_ok h; refine ⟨S', ?_, (Keeps.setRoot _ _ _).trans h2, h3⟩; rw [setRoot_fg] at h1; exact h1
  | vw s c xs =>
   cases s with
   | old k => simp [fillK] at h
   | own q p =>
    cases p with
    | none => simp [fillK] at h
    | some p =>
     obtain ⟨i, j⟩ := p; simp only [fillK] at h; split at h
     ·rename_i c' rows i' j' hs hat; split at h
      ·rename_i hj; obtain ⟨rfl, hall⟩ := hj; obtain ⟨rfl, h⟩ := gd_eq h; obtain ⟨x, hx, h⟩ := bd_eq h; split at h
       ·rename_i x' hx'; obtain ⟨S', h1, h2, h3⟩ := fillK_ok h; refine ⟨S', ?_, ((Keeps.setRoot _ _ _).trans (Keeps.kill _ _)).trans h2, h3⟩; have hne : ∀ p ∈ hs, p.2 ≠ j' := by
         intro p hp; have := List.all_eq_true.1 hall p hp; intro he; simp [he] at this
        simp only [List.map_cons, Leaf.fg, Lv.fillK, at_fg, hat, Option.map_some]; rw [<- kill_fg (onIn_fg q), setRoot_fg] at h1; rw [<- h1]; congr 3; simp only [holes]; rw [holes_set _ _ _ hs _ hne, setC_setC, setC_enc hx hx']; cases hs with
        | nil => simp only [Leaf.fg, U.fg, holes]
        | cons p hs => simp only [Leaf.fg]
       ·cases h
      ·cases h
     ·cases h
  | _ => simp [fillK] at h
theorem lback_b (S0 S : Lv.St) (ms : List Md) (e : Lv.Ent) (es : List Lv.Ent) (outs : List (List T)) : Lv.backK S0 S (.b :: ms) (e :: es) outs = match lbp0 e, outs with
 | some id, o :: outs => (match Lv.get S0.bx id, Lv.get S.bx id with
  | some ls, some ls1 => if o.length = ls1.length then Lv.backK S0 { S with bx := Lv.put S.bx id (o.map (Lv.leafV (Lv.labelOf ls))) } ms es outs else none
  | _, _ => none)
 | _, _ => none := by
 obtain ⟨sh, cs⟩ := e; cases sh <;> try rfl
 rcases cs with _ | ⟨l, _ | ⟨l2, ls⟩⟩
 ·rfl
 ·cases l <;> try rfl
  rename_i id off; cases off <;> cases outs <;> rfl
 ·cases l <;> try rfl
  rename_i id off; cases off <;> rfl
theorem back_b {S0 S : St} {c : C} {ks : List PK} {e : En} {es : List En} {outs : List (List U)} {K : St -> Option ρ} : backK S0 S (.b c :: ks) (e :: es) outs K = match bp0 e, outs with
 | some id, o :: outs => (match get S0.bx id, get S.bx id with
  | some ls, some ls1 => if o.length = ls1.cs.length then backK S0 (S.putB id (o.map (leafV (labelOf ls.cs)))) ks es outs K else none
  | _, _ => none)
 | _, _ => none := by
 obtain ⟨sh, cs⟩ := e; cases sh <;> try rfl
 rcases cs with _ | ⟨l, _ | ⟨l2, ls⟩⟩
 ·rfl
 ·cases l <;> try rfl
  rename_i id off; cases off <;> cases outs <;> rfl
 ·cases l <;> try rfl
  rename_i id off; cases off <;> rfl
theorem backK_ok {S0 : St} : ∀ {ks : List PK} {es : List En} {outs : List (List U)} {S : St} {K : St -> Option ρ} {r : ρ}, backK S0 S ks es outs K = some r ->
 ∃ S', Lv.backK (S0.fg R) (S.fg R) (ks.map PK.md) (es.map (En.fg R)) (outs.map fun o => o.map U.fg) = some (S'.fg R) /\ Keeps S S' /\ K S' = some r
 | [], es, [], S, K, r, h => by
  refine ⟨S, ?_, Keeps.refl _, ?_⟩
  ·cases es <;> rfl
  ·cases es <;> exact h
 | [], es, o :: outs, S, K, r, h => by cases es <;> simp [backK] at h
 | k :: ks, [], outs, S, K, r, h => by cases outs <;> simp [backK] at h
 | k :: ks, e :: es, outs, S, K, r, h => by
  cases k with
  | b c =>
   rw [back_b] at h; simp only [List.map_cons, PK.md]; rw [lback_b, bp0_fg]; split at h
   ·rename_i id o outs' hb; rw [hb]; simp only [List.map_cons, fg_bx]; split at h
    ·rename_i ls ls1 hl hl1; rw [hl, hl1]; split at h
     ·rename_i hlen; obtain ⟨S', h1, h2, h3⟩ := backK_ok h; refine ⟨S', ?_, (Keeps.putB _ _ _).trans h2, h3⟩; simp only [Option.map_some, List.length_map, hlen, if_true]; rw [putB_fg, map_leafV] at h1; rw [labelOf_fg]; exact h1
     ·cases h
    ·cases h
   ·cases h
  | m c =>
   cases outs with
   | nil => simp [backK] at h
   | cons o outs =>
    have h : fillK S e.cs o (fun S' => backK S0 S' ks es outs K) = some r := h; obtain ⟨S1, h1, h2, h3⟩ := fillK_ok (R := R) h; obtain ⟨S', h4, h5, h6⟩ := backK_ok h3; refine ⟨S', ?_, h2.trans h5, h6⟩; simp only [List.map_cons, PK.md, Lv.backK, En.fg, h1]; exact h4
  | v c =>
   have h : backK S0 S ks es outs K = some r := by cases outs <;> exact h
   obtain ⟨S', h1, h2, h3⟩ := backK_ok h; refine ⟨S', ?_, h2, h3⟩; cases outs <;> exact h1
  | p c =>
   have h : backK S0 S ks es outs K = some r := by cases outs <;> exact h
   obtain ⟨S', h1, h2, h3⟩ := backK_ok h; refine ⟨S', ?_, h2, h3⟩; cases outs <;> exact h1
  | o c =>
   have h : backK S0 S ks es outs K = some r := by cases outs <;> exact h
   obtain ⟨S', h1, h2, h3⟩ := backK_ok h; refine ⟨S', ?_, h2, h3⟩; cases outs <;> exact h1
  | f x l =>
   have h : backK S0 S ks es outs K = some r := by cases outs <;> exact h
   obtain ⟨S', h1, h2, h3⟩ := backK_ok h; refine ⟨S', ?_, h2, h3⟩; cases outs <;> exact h1
theorem newBx_ok {S : St} {d : Nat} {ls : List Leaf} {K : St -> Option ρ} {r : ρ} (h : newBx S d ls K = some r) : ∃ S', Lv.newBx (S.fg R) d (ls.map (Leaf.fg R)) = some (S'.fg R) /\ Keeps S S' /\ K S' = some r := by
 unfold newBx at h; split at h
 ·cases h
 ·rename_i hm; have hp : d ∉ (S.fg R).pin := mem_false.1 hm; refine ⟨_, ?_, ((Keeps.kill _ _).trans (Keeps.putT _ _ _ _)).trans (Keeps.putB _ _ _), h⟩; unfold Lv.newBx; rw [if_neg hp, putB_fg, putT_fg, <- kill_fg (q' := fun l => Lv.onTmp d l || Lv.onBox d l) (fun l => by rw [onTmp_fg, onBox_fg])]; rfl
theorem labL_fg {S : St} {e : En} {k : Nat} (h : labL S e = some k) : Lv.labL (S.fg R) (e.fg R) = some k := by
 have gen : ∀ (cs : List Leaf), (if (bareTs (labelOf cs) cs).isSome = true then some (labelOf cs) else none) = some k -> (if (Lv.bareTs (Lv.labelOf (cs.map (Leaf.fg R))) (cs.map (Leaf.fg R))).isSome = true then some (Lv.labelOf (cs.map (Leaf.fg R))) else none) = some k := by
  intro cs h; rw [labelOf_fg]; cases hb : bareTs (labelOf cs) cs with
  | none => rw [hb] at h; simp at h
  | some us => rw [bareTs_fg hb]; rw [hb] at h; simpa using h
 obtain ⟨sh, cs⟩ := e; cases sh <;> try exact gen cs h
 rcases cs with _ | ⟨l, _ | ⟨l2, ls⟩⟩
 ·exact gen [] h
 ·have g1 := gen [l]; cases l with
  | bp id off =>
   simp only [labL] at h; simp only [En.fg, List.map_cons, List.map_nil, Leaf.fg, Lv.labL, fg_bx]; split at h
   ·rename_i ls hl; rw [hl]; exact gen _ h
   ·cases h
  | _ => exact g1 h
 ·have g1 := gen (l :: l2 :: ls); cases l <;> exact g1 h
theorem labP_fg {g : GF} {S0 : St} {es : List En} {k lab : Nat} (h : labP g.ps S0 es k = some lab) : Lv.labP g.x (S0.fg R) (es.map (En.fg R)) k = some lab := by
 unfold labP at h; unfold Lv.labP; rw [g.ms]; simp only [List.getElem?_map]; split at h
 ·rename_i e he; rw [he]; simp only [Option.map_some]; split at h
  ·cases h
  ·rename_i hk; rw [if_neg]
   ·exact labL_fg h
   ·intro hc; cases hp : g.ps[k]? with
    | none => rw [hp] at hc; simp at hc
    | some q => rw [hp] at hc; cases q <;> simp [PK.md] at hc; exact hk _ hp
 ·cases h
theorem encT_cells : ∀ (cs : List C) (x : Tu cs), encT cs x = (cellsT cs x).map fun l => l.map U.fg
 | [], _ => rfl
 | [c], x => congrArg (fun z => [z]) (enc_cells c x)
 | c :: c' :: cs, x => by simp only [encT, cellsT, List.map_cons, enc_cells, encT_cells (c' :: cs) x.2]
theorem post_ok {d : Nat} {g : GF} {es : List En} {S0 S : St} {x : Tu (g.rk.cs ++ outC g.ps)} {K : St -> Option ρ} {r : ρ} (h : post d g es S0 S x K = some r) :
 ∃ S', Lv.post d g.x (es.map (En.fg R)) (S0.fg R) (S.fg R) g.rk.sh ((encT _ x).take g.rk.cs.length).flatten ((encT _ x).drop g.rk.cs.length) = some (S'.fg R) /\ Keeps S S' /\ K S' = some r := by
 unfold post at h; obtain ⟨S1, h1, h2, h3⟩ := backK_ok (R := R) h; unfold Lv.post; rw [g.ms, encT_cells, <- List.map_drop, h1, <- List.map_take, <- List.map_flatten]; generalize ((cellsT (g.rk.cs ++ outC g.ps) x).take g.rk.cs.length).flatten = us at h3; dsimp only; cases hr : g.rk with
 | ptr k c =>
  rw [hr] at h3; simp only [RK.sh]; dsimp only at h3; split at h3
  ·rename_i lab hl; rw [labP_fg hl]; obtain ⟨S2, h4, h5, h6⟩ := newBx_ok (R := R) h3; rw [map_leafV] at h4; exact ⟨S2, h4, h2.trans h5, h6⟩
  ·cases h3
 | vw k c =>
  rw [hr] at h3; simp only [RK.sh]; dsimp only at h3; split at h3
  ·rename_i lab hl; rw [labP_fg hl]; obtain ⟨S2, h4, h5, h6⟩ := putK_ok (R := R) h3; rw [map_leafV] at h4; exact ⟨S2, h4, h2.trans h5, h6⟩
  ·cases h3
 | ret cs =>
  rw [hr] at h3; dsimp only at h3; obtain ⟨S2, h4, h5, h6⟩ := putK_ok (R := R) h3; rw [map_leafO] at h4; refine ⟨S2, ?_, h2.trans h5, h6⟩; simp only [RK.sh]; cases hs : shOf (cs.map wC) with
  | ptr k => exfalso; revert hs; unfold shOf; split <;> simp
  | vw k => exfalso; revert hs; unfold shOf; split <;> simp
  | one => rw [hs] at h4; exact h4
  | agg => rw [hs] at h4; exact h4
  | tup ns => rw [hs] at h4; exact h4
theorem callK_ok {d : Nat} {g : GF} {fs : List Nat} {es : List En} {S : St} {K : St -> Option ρ} {r : ρ} (hA : Al R fs (fX g.ps)) (h : callK d g fs es S K = some r) :
 ∃ S1 vs cs outs S', Lv.pre g.x (es.map (En.fg R)) (S.fg R) = some (S1, vs) /\ Runs g.x vs g.rk.sh cs outs /\ Lv.post d g.x (es.map (En.fg R)) (S.fg R) S1 g.rk.sh cs outs = some (S'.fg R) /\ Keeps S S' /\ K S' = some r := by
 unfold callK at h; split at h
 ·cases h
 ·rename_i hc; split at h
  ·rename_i S1 a h1; obtain ⟨x, hx, h⟩ := bd_eq h; obtain ⟨h2, h3⟩ := argsK_fg hA h1; obtain ⟨S', h4, h5, h6⟩ := post_ok (R := R) h; refine ⟨_, _, _, _, S', ?_, g.ok a x hx, h4, h3.trans h5, h6⟩; unfold Lv.pre; rw [g.ms]; have := clash_fg (R := R) g.ps [] es; rw [List.map_nil] at this; rw [this, hc, if_neg (by decide), h2]
  ·cases h
end
end Y
end Lv
namespace Lv
open Go (IntKind BinOp UnOp)
namespace Y
section
variable {R : List GF} {ρ : Type}
theorem one_fg {S : St} {x : YO} {l : Leaf} (h : S.one x = some l) : (S.fg R).one (x.er R) = some (Leaf.fg R l) := by
 unfold St.one at h; split at h
 ·rename_i l' hr; cases h; simp only [Lv.St.one, rd_fg hr, En.fg, List.map_cons, List.map_nil]
 ·cases h
theorem sc_fg {S : St} {x : YO} {u : U} (h : S.sc x = some u) : (S.fg R).sc (x.er R) = some u.fg := by
 unfold St.sc scal at h; split at h
 ·rename_i o l' hr; cases h; simp only [Lv.St.sc, rd_fg hr, En.fg, List.map_cons, List.map_nil, Leaf.fg, Lv.scal]
 ·cases h
theorem nat_fg {S : St} {x : YO} {n : Int} (h : S.nat x = some n) : (S.fg R).nat (x.er R) = some n := by
 unfold St.nat at h; split at h
 ·rename_i u hu; simp only [Lv.St.nat, sc_fg hu]; cases u <;> simp [natU] at h <;> subst h <;> rfl
 ·cases h
theorem eqU_fg {k : Kd} {a b : U} {c : Bool} (h : eqU k a b = some c) : eqT k a.fg b.fg = some c := by
 cases k <;> cases a <;> cases b <;> simp only [eqU] at h <;> first | cases h; done | exact h
theorem eqUs_fg : ∀ {ks : List Kd} {as bs : List U} {c : Bool}, eqUs ks as bs = some c -> eqTs ks (as.map U.fg) (bs.map U.fg) = some c
 | [], [], [], c, h => h
 | [], [], b :: bs, c, h => by simp [eqUs] at h
 | [], a :: as, bs, c, h => by cases bs <;> simp [eqUs] at h
 | k :: ks, [], bs, c, h => by cases bs <;> simp [eqUs] at h
 | k :: ks, a :: as, [], c, h => by simp [eqUs] at h
 | k :: ks, a :: as, b :: bs, c, h => by
  simp only [eqUs] at h; split at h
  ·rename_i x y h1 h2; cases h; simp only [List.map_cons, eqTs, eqU_fg h1, eqUs_fg h2]
  ·cases h
theorem tsOf_fg : ∀ {ls : List Leaf} {us : List U}, tsOf ls = some us -> Lv.tsOf (ls.map (Leaf.fg R)) = some (us.map U.fg)
 | [], us, h => by cases h; rfl
 | l :: ls, us, h => by
  cases l with
  | t x =>
   simp only [tsOf] at h; split at h
   ·rename_i us' h1; cases h; simp only [List.map_cons, Leaf.fg, Lv.tsOf, tsOf_fg h1, Option.map_some]
   ·cases h
  | _ => simp [tsOf] at h
theorem gdc_eq {cst : Bool} {p : Prop} [Decidable p] {x : Option ρ} {r : ρ} (h : gdc cst p x = some r) : p /\ x = some r := by
 cases cst with
 | true => simp only [gdc] at h; split at h <;> simp_all
 | false => exact gd_eq h
theorem intU_ok {cst : Bool} {op : BinOp} {k : IntKind} {a b : Int} {K : U -> Option ρ} {r : ρ} (h : intU cst op k a b K = some r) : ∃ u, intOp op k a b = some (U.fg u) /\ K u = some r := by
 cases op <;> simp only [intU] at h <;> first
  | exact ⟨_, rfl, h⟩
  | (obtain ⟨h1, h⟩ := gdc_eq h; exact ⟨_, by simp only [intOp]; rw [if_neg h1]; rfl, h⟩)
  | cases h
theorem shU_ok {cst : Bool} {op : BinOp} {k : IntKind} {a b : Int} {K : U -> Option ρ} {r : ρ} (h : shU cst op k a b K = some r) : ∃ u, shOp op k a b = some (U.fg u) /\ K u = some r := by
 cases op <;> simp only [shU] at h <;> first
  | cases h; done
  | (obtain ⟨h1, h⟩ := gdc_eq h; exact ⟨_, by simp only [shOp]; rw [if_neg h1]; rfl, h⟩)
theorem toB_fg (n : Int) : (U.u8 (toB n)).fg = .int .u8 (IntKind.u8.wrap n) := by simp only [U.fg, toB_toNat]
theorem byU_ok {op : BinOp} {a b : Int} {K : U -> Option ρ} {r : ρ} (h : byU op a b K = some r) : ∃ u, intOp op .u8 a b = some (U.fg u) /\ K u = some r /\ isSh op = false := by
 cases op <;> simp only [byU] at h <;> first
  | cases h; done
  | exact ⟨_, by rw [toB_fg]; rfl, h, rfl⟩
  | exact ⟨_, rfl, h, rfl⟩
theorem binInt {op : BinOp} {k k' : IntKind} {a b : Int} : binN op (.int k a) (.int k' b) = if isSh op = true then shOp op k a b else if k = k' then intOp op k a b else none := by
 cases op <;> rfl
theorem binU_ok {cst : Bool} {op : BinOp} {x y : U} {K : U -> Option ρ} {r : ρ} (h : binU cst op x y K = some r) : ∃ u, binN op x.fg y.fg = some (U.fg u) /\ K u = some r := by
 unfold binU at h; split at h
 ·rename_i k a k' b; split at h
  ·rename_i hs; obtain ⟨u, h1, h2⟩ := shU_ok h; exact ⟨u, by show binN op (.int k a) (.int k' b) = _; rw [binInt, if_pos hs]; exact h1, h2⟩
  ·rename_i hs; split at h
   ·rename_i hk; split at h
    ·cases h
    ·obtain ⟨u, h1, h2⟩ := intU_ok h; exact ⟨u, by show binN op (.int k a) (.int k' b) = _; rw [binInt, if_neg hs, if_pos hk]; exact h1, h2⟩
   ·cases h
 ·rename_i k a b; split at h
  ·rename_i hs; obtain ⟨u, h1, h2⟩ := shU_ok h; exact ⟨u, by show binN op (.int k a) (.int .u8 b.toNat) = _; rw [binInt, if_pos hs]; exact h1, h2⟩
  ·cases h
 ·rename_i a b; obtain ⟨u, h1, h2, h3⟩ := byU_ok h; exact ⟨u, by show binN op (.int .u8 a.toNat) (.int .u8 b.toNat) = _; rw [binInt, if_neg (by simp [h3]), if_pos rfl]; exact h1, h2⟩
 ·rename_i a b; split at h
  ·obtain ⟨h1, h⟩ := gd_eq h; exact ⟨_, by show (if a.length + b.length <= slim then some (T.str (a ++ b)) else none) = some (U.fg (.str (a ++ b))); rw [if_pos h1]; rfl, h⟩
  ·exact ⟨_, rfl, h⟩
  ·exact ⟨_, rfl, h⟩
  ·cases h
 ·cases h
theorem eqK_ok {op : BinOp} {b : Bool} {K : U -> Option ρ} {r : ρ} (h : eqK op b K = some r) : ∃ u, eqOp op b = some (U.fg u) /\ K u = some r := by
 cases op <;> simp only [eqK] at h <;> first
  | cases h; done
  | exact ⟨_, rfl, h⟩
theorem map_cons_of {α β : Type} {f : α -> β} {xs : List α} (h : xs.isEmpty = false) : ∃ y ys, xs.map f = y :: ys := by
 cases xs with
 | nil => simp at h
 | cons x xs => exact ⟨_, _, rfl⟩
theorem nilB_ok {S : St} {l : Leaf} {K : Bool -> Option ρ} {r : ρ} (h : S.nilB l K = some r) : ∃ b, (S.fg R).nilB (Leaf.fg R l) = some b /\ K b = some r := by
 unfold St.nilB at h; split at h
 ·exact ⟨true, rfl, h⟩
 ·rename_i s c xs; obtain ⟨h1, h⟩ := gd_eq h; obtain ⟨y, ys, hy⟩ := map_cons_of (f := enc c) h1; exact ⟨false, by simp only [Leaf.fg, hy, Lv.St.nilB], h⟩
 ·rename_i q; simp only [Leaf.fg, Lv.St.nilB, at_fg]; split at h
  ·rename_i hq; rw [hq]; exact ⟨true, rfl, h⟩
  ·rename_i c xs hq; rw [hq]; obtain ⟨h1, h⟩ := gd_eq h; obtain ⟨y, ys, hy⟩ := map_cons_of (f := enc c) h1; exact ⟨false, by simp only [Option.map_some, Leaf.fg, U.fg, hy], h⟩
  ·cases h
 ·cases h
theorem bin_ok {S : St} {cst : Bool} {c : Cls} {op : BinOp} {x y : En} {K : U -> Option ρ} {r : ρ} (h : S.bin cst c op x y K = some r) : ∃ u, (S.fg R).bin c op (x.fg R) (y.fg R) = some (U.fg u) /\ K u = some r := by
 unfold St.bin at h; split at h
 ·split at h
  ·exact binU_ok h
  ·cases h
 ·split at h
  ·exact eqK_ok h
  ·cases h
 ·split at h
  ·obtain ⟨b, h1, h2⟩ := nilB_ok (R := R) h; obtain ⟨u, h3, h4⟩ := eqK_ok h2; rename_i l; exact ⟨u, by show (match (S.fg R).nilB (Leaf.fg R l) with | some b => eqOp op b | none => none) = _; rw [h1]; exact h3, h4⟩
  ·cases h
 ·split at h
  ·split at h
   ·rename_i as' bs' h1 h2; split at h
    ·rename_i b hb; obtain ⟨u, h3, h4⟩ := eqK_ok h; refine ⟨u, ?_, h4⟩; simp only [En.fg, Lv.St.bin, tsOf_fg h1, tsOf_fg h2, eqUs_fg hb, h3]
    ·cases h
   ·cases h
  ·cases h
theorem unU_ok {op : UnOp} {x : U} {K : U -> Option ρ} {r : ρ} (h : unU op x K = some r) : ∃ u, unT op x.fg = some (U.fg u) /\ K u = some r := by
 unfold unU at h; split at h
 ·cases op <;> simp only at h <;> first | cases h; done | exact ⟨_, rfl, h⟩
 ·cases op <;> simp only at h <;> first | cases h; done | (split at h; cases h; exact ⟨_, rfl, h⟩)
 ·cases h
theorem mkInt_fg (k : IntKind) (n : Int) : (mkInt k n).fg = .int k (k.wrap n) := by cases k <;> simp only [mkInt, toB_fg] <;> rfl
theorem flatS_enc : ∀ (n : Nat) (x : tD n), flatC (.st n) = true -> (encS n x).all flat = true
 | 0, x, _ => rfl
 | 1, x, h => absurd h (by decide)
 | 2, x, _ => rfl
 | 3, x, _ => rfl
 | 4, x, _ => rfl
 | 5, x, _ => rfl
 | 6, x, h => absurd h (by decide)
 | 7, x, h => absurd h (by decide)
 | 8, x, h => absurd h (by decide)
 | 9, x, _ => rfl
 | 10, x, _ => rfl
 | 11, x, h => absurd h (by decide)
 | 12, x, h => absurd h (by decide)
 | 13, x, h => absurd h (by decide)
 | 14, x, h => absurd h (by decide)
 | 15, x, _ => rfl
 | 16, x, h => absurd h (by decide)
 | 17, x, h => absurd h (by decide)
 | _ + 18, x, _ => rfl
theorem flatC_enc {c : C} (h : flatC c = true) (x : c.D) : (enc c x).all flat = true := by
 cases c with
 | l c => cases h
 | m => cases h
 | st n => exact flatS_enc n x h
 | _ => rfl
theorem flatRow_enc {c : C} (h : flatC c = true) (xs : List c.D) : flatRow (xs.map (enc c)) = true := by
 simp only [flatRow, List.all_map, List.all_eq_true]; intro x _; exact flatC_enc h x
theorem srcK_fg {c : C} {fl : Bool} {S S' : St} {l : Leaf} {ys : List c.D} (h : srcK c fl S l = some (S', ys)) : Lv.srcK c.size fl (S.fg R) (Leaf.fg R l) = some (S'.fg R, ys.map (enc c)) /\ Keeps S S' := by
 unfold srcK at h; split at h
 ·rename_i s; split at h
  ·rename_i xs hx; cases h; have hc : C.u = c := by
    simp only [Rw.as] at hx; split at hx
    ·rename_i hc; exact hc
    ·cases hx
   subst hc; have := as_fg hx; simp only [Leaf.fg, U.fg, Lv.srcK, C.size, if_true, <- this, Rw.fg]; exact ⟨rfl, Keeps.refl _⟩
  ·cases h
 ·cases h; exact ⟨rfl, Keeps.refl _⟩
 ·rename_i s c' xs; split at h
  ·rename_i hf; split at h
   ·rename_i ys' hx; cases h; have hc : c' = c := by
     simp only [Rw.as] at hx; split at hx
     ·rename_i hc; exact hc
     ·cases hx
    subst hc; have := as_fg hx; simp only [Leaf.fg, Lv.srcK, flatRow_enc hf, and_self, if_true, <- this, Rw.fg]; exact ⟨trivial, Keeps.refl _⟩
   ·cases h
  ·cases h
 ·rename_i q sub; simp only [Leaf.fg, Lv.srcK, at_fg]; split at h
  ·rename_i x hx; rw [hx]; split at h
   ·rename_i w hw; split at h
    ·rename_i ys' hy; have he : eOf c.size x.fg = true := by
      cases x <;> simp [content] at hw <;> subst hw <;> simp only [U.fg, eOf]; simp only [Rw.sub, Rw.as] at hy; split at hy
      ·rename_i hc; subst hc; simp
      ·cases hy
     have hyy := as_fg hy; rw [sub_fg] at hyy; simp only [Option.map_some, Leaf.fg, content_fg hw, he, if_true, hyy]; cases fl with
     | true =>
      simp only [if_true] at h ⊢; split at h
      ·rename_i hf; cases h; rw [if_pos (flatRow_enc hf _)]; exact ⟨rfl, Keeps.refl _⟩
      ·cases h
     | false =>
      simp only [Bool.false_eq_true, if_false] at h ⊢; cases h; rw [out_fg]; exact ⟨rfl, Keeps.out _ _⟩
    ·cases h
   ·cases h
  ·cases h
 ·cases h
theorem gdo_eq {e : Option (Nat × Nat)} {x : Option ρ} {r : ρ} (h : gdo e x = some r) : (∀ a b, e = some (a, b) -> a = b) /\ x = some r := by
 cases e with
 | none => exact ⟨by intros; contradiction, h⟩
 | some p =>
  obtain ⟨a, b⟩ := p; obtain ⟨h1, h2⟩ := gd_eq h; exact ⟨fun a' b' hh => by cases hh; exact h1, h2⟩
theorem baseK_fg {c : C} {S S' : St} {l : Leaf} {b : U} {n : Nat} {e : Option (Nat × Nat)} (h : baseK c S l = some (S', b, n, e)) (he : ∀ a b, e = some (a, b) -> a = b) : Lv.baseK c.size (S.fg R) (Leaf.fg R l) = some (S'.fg R, b.fg, n) /\ Keeps S S' := by
 unfold baseK at h; split at h
 ·cases h; exact ⟨rfl, Keeps.refl _⟩
 ·rename_i q sub; simp only [Leaf.fg, Lv.baseK, at_fg]; split at h
  ·rename_i x hx; rw [hx]; split at h
   ·rename_i w hw; split at h
    ·rename_i ys hy; cases h; have heo : eOf c.size x.fg = true := by
      cases x <;> simp [content] at hw <;> subst hw <;> simp only [U.fg, eOf]; simp only [Rw.as] at hy; split at hy
      ·rename_i hc; subst hc; simp
      ·cases hy
     have hyy := as_fg hy; have hte : toEnd sub (ys.map (enc c)).length = true := by
      cases sub with
      | none => rfl
      | some p =>
       obtain ⟨lo, m⟩ := p; have := he _ _ rfl; simp [toEnd, this]
     simp only [Option.map_some, Leaf.fg, content_fg hw, hyy]; rw [if_pos ⟨heo, hte⟩, out_fg, subU_fg]; refine ⟨?_, Keeps.out _ _⟩; rw [subl_eq, <- sublD_map, List.length_map]
    ·cases h
   ·cases h
  ·cases h
 ·rename_i q i j c' xs; split at h
  ·rename_i hc; subst hc; split at h
   ·rename_i S1 h1; cases h; obtain ⟨h2, h3⟩ := pull_fg (R := R) h1; simp only [Leaf.fg, Lv.baseK, if_true, h2, U.fg, List.length_map]; exact ⟨trivial, h3⟩
   ·cases h
  ·cases h
 ·cases h
theorem appU_fg {c : C} {b u : U} {ys : List c.D} (h : appU c b ys = some u) : u.fg = appT c.size b.fg (ys.map (enc c)) := by
 unfold appU at h; split at h
 ·rename_i c' xs; split at h
  ·rename_i hc; subst hc; cases h; simp only [U.fg, appT, List.map_append]
  ·cases h
 ·rename_i hn; cases h; cases b <;> simp only [U.fg, appT]; exact (hn _ _ rfl).elim
end
end Y
end Lv
namespace Lv
open Go (IntKind BinOp UnOp)
theorem setAll_map {α β : Type} (f : α -> β) : ∀ (cs ls : List α) (o : Nat), setAll (ls.map f) o (cs.map f) = (setAll ls o cs).map f
 | [], ls, o => by cases ls <;> rfl
 | c :: cs, ls, o => by
  simp only [List.map_cons, setAll]; rw [<- List.map_set, setAll_map f cs]
theorem setAll_set {α : Type} (t : α) : ∀ (cs ls : List α) (o b : Nat), o <= b -> b < o + cs.length -> setAll (ls.set b t) o cs = setAll ls o cs
 | [], ls, o, b, h1, h2 => by simp at h2; omega
 | c :: cs, ls, o, b, h1, h2 => by
  simp only [setAll]; by_cases h : b = o
  ·subst h; rw [List.set_set]
  ·rw [List.set_comm _ _ h]; exact setAll_set t cs _ _ _ (by omega) (by simp at h2; omega)
namespace Y
section
variable {R : List GF} {ρ : Type}
theorem leafAt_fg (r : Root) (i : Nat) : ∀ (j : Nat) (us : List U), (leafAt r i j us).map (Leaf.fg R) = Lv.leafAt r i j (us.map U.fg)
 | _, [] => rfl
 | j, u :: us => by simp only [leafAt, List.map_cons, Lv.leafAt, leafIn_fg, leafAt_fg r i (j + 1) us]
theorem at_enc {c : C} {xs : List c.D} {i : Int} {x : c.D} (h : at? xs i = some x) : (xs.map (enc c))[i.toNat]? = some (enc c x) := at_map (enc c) h
theorem load_ok {S : St} {n : Nat} {l : Leaf} {K : List Leaf -> Option ρ} {r : ρ} (h : S.load n l K = some r) : ∃ ls, (S.fg R).load n (Leaf.fg R l) = some (ls.map (Leaf.fg R)) /\ K ls = some r := by
 unfold St.load at h; split at h
 ·rename_i id o; simp only [Leaf.fg, Lv.St.load, fg_bx]; split at h
  ·rename_i ls hl; rw [hl]; split at h
   ·rename_i hc; refine ⟨_, ?_, h⟩; simp only [Option.map_some, List.length_map, hc, if_true, aliB_fg, List.map_take, List.map_drop]
   ·cases h
  ·cases h
 ·rename_i q i j; simp only [Leaf.fg, Lv.St.load, at_fg]; split at h
  ·rename_i c xs hx; rw [hx]; obtain ⟨x, h1, h⟩ := bd_eq h; split at h
   ·rename_i hc; refine ⟨_, ?_, h⟩; have h2 := at_enc h1; simp only [Option.map_some, Leaf.fg, U.fg, h2, enc_cells, List.length_map, hc, if_true, leafAt_fg, List.map_take, List.map_drop]
   ·cases h
  ·cases h
 ·rename_i s cs; split at h
  ·rename_i hc; refine ⟨_, ?_, h⟩; simp only [Leaf.fg, Lv.St.load, List.length_map, hc, if_true, Option.some.injEq]; rw [<- List.map_take, List.map_map, List.map_map]; congr 1; funext u; exact (leafIn_fg _ _).symm
  ·cases h
 ·cases h
theorem anyTop_fg : ∀ ls : List Leaf, Lv.anyTop (ls.map (Leaf.fg R)) = anyTop ls
 | [] => rfl
 | l :: ls => by
  have ih := anyTop_fg ls; cases l with
  | t x => cases x <;> first | rfl | exact ih
  | und => rfl
  | _ => exact ih
theorem onCells_fg (b o n : Nat) (l : Leaf) : Lv.onCells b o n (Leaf.fg R l) = onCells b o n l := by
 simp only [Lv.onCells, onCells, root_fg]; cases l.root? with
 | none => rfl
 | some q =>
  cases q with
  | tmp s c => rfl
  | cell b' c =>
   simp only [beq_dec]; have h1 : Nat.ble o c = decide (o <= c) := by
    cases h : Nat.ble o c with
    | true => simp [Nat.le_of_ble_eq_true h]
    | false =>
     symm; rw [decide_eq_false_iff_not]; intro hh; rw [Nat.ble_eq_true_of_le hh] at h; cases h
   have h2 : Nat.blt c (o + n) = decide (c < o + n) := by
    unfold Nat.blt; cases h : Nat.ble c.succ (o + n) with
    | true => have := Nat.le_of_ble_eq_true h; symm; rw [decide_eq_true_eq]; omega
    | false =>
     symm; rw [decide_eq_false_iff_not]; intro hh; rw [Nat.ble_eq_true_of_le hh] at h; cases h
   rw [h1, h2]
def tops : List T -> List (Nat × Nat) -> List T
 | row, [] => row
 | row, (_, b) :: hs => tops (row.set b .top) hs
theorem tops_len : ∀ (hs : List (Nat × Nat)) (row : List T), (tops row hs).length = row.length
 | [], row => rfl
 | (a, b) :: hs, row => by simp only [tops, tops_len hs, List.length_set]
theorem holes_get (i : Nat) : ∀ (hs : List (Nat × Nat)) (X : List (List T)) (k : Nat), (∀ p ∈ hs, p.1 = i) -> (holes X hs)[k]? = if k = i then (X[i]?).map (fun row => tops row hs) else X[k]?
 | [], X, k, h => by
  simp only [holes, tops]; split
  ·rename_i hk; subst hk; cases X[k]? <;> rfl
  ·rfl
 | (a, b) :: hs, X, k, h => by
  have ha : a = i := h (a, b) (by simp); subst ha; simp only [holes]; rw [holes_get a hs _ k (fun p hp => h p (by simp [hp]))]; simp only [setC_get, if_true]; split
  ·cases X[a]? <;> rfl
  ·rfl
theorem setAll_tops (j : Nat) (ts : List T) : ∀ (hs : List (Nat × Nat)) (row : List T), (∀ p ∈ hs, j <= p.2 /\ p.2 < j + ts.length) -> setAll (tops row hs) j ts = setAll row j ts
 | [], row, h => rfl
 | (a, b) :: hs, row, h => by
  simp only [tops]; rw [setAll_tops j ts hs _ (fun p hp => h p (by simp [hp]))]; have := h (a, b) (by simp); exact setAll_set _ _ _ _ _ this.1 this.2
theorem holeIn_all {i j n : Nat} : ∀ {hs : List (Nat × Nat)}, holeIn i j n hs -> (∀ p ∈ hs, p.1 = i) /\ (∀ p ∈ hs, j <= p.2 /\ p.2 < j + n)
 | [], _ => ⟨by simp, by simp⟩
 | (a, b) :: hs, h => by
  obtain ⟨h1, h2, h3⟩ := h; obtain ⟨h4, h5⟩ := holeIn_all h3; constructor
  ·intro p hp; rcases List.mem_cons.1 hp with rfl | hp
   ·exact h1
   ·exact h4 p hp
  ·intro p hp; rcases List.mem_cons.1 hp with rfl | hp
   ·exact h2
   ·exact h5 p hp
theorem takeF_fg {n : Nat} {ls : List Leaf} {S S' : St} {ls' : List Leaf} (h : takeF n S ls = some (S', ls')) : Lv.takeF n (S.fg R) (ls.map (Leaf.fg R)) = some (S'.fg R, ls'.map (Leaf.fg R)) /\ Keeps S S' := by
 unfold takeF at h; unfold Lv.takeF; split at h
 ·rename_i hn; rw [Nat.blt_eq] at hn; rw [if_pos hn]; exact takeK_fg h
 ·rename_i hn; rw [if_neg fun h2 => by rw [<- Nat.blt_eq, hn] at h2; cases h2]; cases h; exact ⟨rfl, Keeps.refl _⟩
theorem storeK_ok {S : St} {n : Nat} {p : Leaf} {cs : List Leaf} {K : St -> Option ρ} {r : ρ} (h : S.storeK n p cs K = some r) :
 ∃ S', (S.fg R).storeK n (Leaf.fg R p) (cs.map (Leaf.fg R)) = some (S'.fg R) /\ Keeps S S' /\ K S' = some r := by
 unfold St.storeK at h; split at h
 ·rename_i id o; split at h
  ·rename_i S1 cs' h1; obtain ⟨h2, h3⟩ := takeF_fg (R := R) h1; split at h
   ·cases h
   ·rename_i ht; dsimp only at h; split at h
    ·rename_i ls hl; split at h
     ·rename_i hlen; refine ⟨_, ?_, (h3.trans (Keeps.kill _ _)).trans (Keeps.putB _ _ _), h⟩; simp only [Leaf.fg, Lv.St.storeK, h2, anyTop_fg, ht, Bool.false_eq_true, if_false, List.length_map]; rw [kill_fg (onCells_fg id o cs'.length), fg_bx, hl]; simp only [Option.map_some, List.length_map, hlen, if_true]; rw [putB_fg, killL_fg (onCells_fg id o cs'.length), setAll_map]
     ·cases h
    ·cases h
  ·cases h
 ·rename_i q i j; split at h
  ·rename_i S1 us h1; obtain ⟨h2, h3⟩ := ownK_fg (R := R) h1; simp only [Leaf.fg, Lv.St.storeK, h2, at_fg]; split at h
   ·rename_i c xs hx; rw [hx]; obtain ⟨x, h4, h⟩ := bd_eq h; split at h
    ·rename_i hlen; split at h
     ·rename_i x' hx'; refine ⟨_, ?_, (h3.trans (Keeps.setRoot _ _ _)).trans (Keeps.kill _ _), h⟩; have h5 := at_enc h4; simp only [Option.map_some, Leaf.fg, U.fg, h5, enc_cells, List.length_map, hlen, if_true, Option.some.injEq]; rw [<- kill_fg (onIn_fg q), setRoot_fg]; congr 2; simp only [Leaf.fg, U.fg]; rw [List.map_set, ofC_enc hx', setAll_map]
     ·cases h
    ·cases h
   ·rename_i c xs hs hx; rw [hx]; obtain ⟨x, h4, h⟩ := bd_eq h; split at h
    ·rename_i hlen; split at h
     ·rename_i x' hx'; obtain ⟨hh, h⟩ := @gd_eq _ _ (holeDec i.toNat j us.length hs) _ _ h; obtain ⟨hr, hcol⟩ := holeIn_all hh; refine ⟨_, ?_, (h3.trans (Keeps.setRoot _ _ _)).trans (Keeps.kill _ _), h⟩; have h5 := at_enc h4; have h6 := holes_get i.toNat hs (xs.map (enc c)) i.toNat hr; rw [if_pos rfl, h5] at h6; simp only [Option.map_some] at h6; simp only [Option.map_some, Leaf.fg, h6, tops_len, enc_len]; have hl2 : j + (us.map U.fg).length <= c.size := by rw [List.length_map, <- cells_len c x]; exact hlen
      rw [if_pos hl2, <- kill_fg (onIn_fg q), setRoot_fg]; congr 3; simp only [Leaf.fg, U.fg]; have h7 : setAll (tops (enc c x) hs) j (us.map U.fg) = enc c x' := by
       rw [setAll_tops _ _ _ _ (by rw [List.length_map]; exact hcol), ofC_enc hx', enc_cells, setAll_map]
      rw [h7]; congr 1; congr 1; apply List.ext_getElem?; intro k; have hlt : i.toNat < xs.length := (at_facts h4).2.2.1; have hlt2 : i.toNat < (holes (xs.map (enc c)) hs).length := (List.getElem?_eq_some_iff.1 h6).1; rw [List.getElem?_set, List.getElem?_map, List.getElem?_set]; by_cases hk : i.toNat = k
      ·subst hk; simp only [if_true, hlt, hlt2, Option.map_some]
      ·rw [if_neg hk, if_neg hk, holes_get i.toNat hs _ k hr, if_neg (fun h => hk h.symm), List.getElem?_map]
     ·cases h
    ·cases h
   ·cases h
  ·cases h
 ·cases h
def erP (R : List GF) (p : Nat × Nat × YO) : Nat × Nat × Opd := (p.1, p.2.1, p.2.2.er R)
theorem buildC_fg {S : St} : ∀ {ps : List (Nat × Nat × YO)} {ls ls' : List Leaf}, buildC S ls ps = some ls' -> Lv.buildC (S.fg R) (ls.map (Leaf.fg R)) (ps.map (erP R)) = some (ls'.map (Leaf.fg R))
 | [], ls, ls', h => by cases h; rfl
 | (o, n, x) :: ps, ls, ls', h => by
  simp only [buildC] at h; split at h
  ·rename_i e he; split at h
   ·rename_i hc; have := buildC_fg (ps := ps) h; simp only [List.map_cons, erP, Lv.buildC, rd_fg he, En.fg, List.length_map, anyTop_fg]; rw [if_pos hc, setAll_map]; exact this
   ·cases h
  ·cases h
def erQ (R : List GF) (p : Nat × YO) : Nat × Opd := (p.1, p.2.er R)
theorem bsK_fg {c : C} {n : Nat} : ∀ {ps : List (Nat × YO)} {S S' : St} {xs xs' : List c.D}, bsK c n S xs ps = some (S', xs') ->
 Lv.bsK c.size n (S.fg R) (xs.map (enc c)) (ps.map (erQ R)) = some (S'.fg R, xs'.map (enc c)) /\ Keeps S S'
 | [], S, S', xs, xs', h => by cases h; exact ⟨rfl, Keeps.refl _⟩
 | (i, x) :: ps, S, S', xs, xs', h => by
  simp only [bsK] at h; split at h
  ·rename_i e he; split at h
   ·rename_i hc; split at h
    ·rename_i S1 us h1; obtain ⟨h2, h3⟩ := ownK_fg (R := R) h1; split at h
     ·rename_i y hy; obtain ⟨h4, h5⟩ := bsK_fg (ps := ps) h; simp only [List.map_cons, erQ, Lv.bsK, rd_fg he, En.fg, List.length_map]; rw [if_pos hc, h2]; dsimp only; rw [<- ofC_enc hy, <- List.map_set]; exact ⟨h4, h3.trans h5⟩
     ·cases h
    ·cases h
   ·cases h
  ·cases h
theorem bsL_fg {c : C} {n : Nat} {z : List T} : ∀ {ps : List (Nat × YO)} {S S' : St} {ys : List c.D} (pre : List (List T)), bsL c n S ps = some (S', ys) -> inOrd pre.length n ps = true -> pre.length <= n ->
 Lv.bsK c.size n (S.fg R) (pre ++ List.replicate (n - pre.length) z) (ps.map (erQ R)) = some (S'.fg R, pre ++ ys.map (enc c)) /\ Keeps S S'
 | [], S, S', ys, pre, h, ho, hn => by
  cases h; simp only [inOrd, beq_iff_eq] at ho; simp only [List.map_nil, Lv.bsK, ho, Nat.sub_self, List.replicate_zero]; exact ⟨trivial, Keeps.refl _⟩
 | (i, x) :: ps, S, S', ys, pre, h, ho, hn => by
  simp only [inOrd, Bool.and_eq_true, beq_iff_eq] at ho; obtain ⟨rfl, ho⟩ := ho; simp only [bsL] at h; split at h
  ·rename_i e he; split at h
   ·rename_i hc; split at h
    ·rename_i S1 us h1; obtain ⟨h2, h3⟩ := ownK_fg (R := R) h1; split at h
     ·rename_i y S2 ys' hy h6; cases h; have hl : (pre ++ [enc c y]).length = pre.length + 1 := by simp
      obtain ⟨h4, h5⟩ := bsL_fg (z := z) (ps := ps) (pre ++ [enc c y]) h6 (by rw [hl]; exact ho) (by rw [hl]; omega); simp only [List.map_cons, erQ, Lv.bsK, rd_fg he, En.fg, List.length_map]; rw [if_pos hc, h2]; dsimp only; rw [<- ofC_enc hy]; have hs : (pre ++ List.replicate (n - pre.length) z).set pre.length (enc c y) = (pre ++ [enc c y]) ++ List.replicate (n - (pre ++ [enc c y]).length) z := by
       rw [List.set_append_right _ _ (Nat.le_refl _), Nat.sub_self, hl]; have : n - pre.length = (n - (pre.length + 1)) + 1 := by omega
       rw [this, List.replicate_succ]; simp
      rw [hs]; refine ⟨?_, h3.trans h5⟩; simpa [erQ] using h4
     ·cases h
    ·cases h
   ·cases h
  ·cases h
theorem range_ok {S : St} {len : Nat} {lo hi : Option YO} {K : Nat -> Nat -> Option ρ} {r : ρ} (h : range S len lo hi K = some r) :
 ∃ a b, (S.fg R).range len (lo.map (YO.er R)) (hi.map (YO.er R)) = some (a, b) /\ K a b = some r /\ ∀ {α : Type} (xs : List α), xs.length = len -> part lo hi xs a b = (xs.drop a).take (b - a) := by
 unfold range at h; split at h
 ·refine ⟨0, len, ?_, h, fun xs hx => by subst hx; simp [part]⟩; simp [Lv.St.range, Lv.St.natO]
 ·rename_i x; split at h
  ·rename_i a ha; obtain ⟨h1, h⟩ := gd_eq h; refine ⟨_, _, ?_, h, fun xs hx => ?_⟩
   ·simp only [Option.map_some, Option.map_none, Lv.St.range, Lv.St.natO, nat_fg ha]; rw [if_pos ⟨h1.1, h1.2, Int.le_refl _⟩]; simp
   ·simp only [part]; rw [List.take_of_length_le (by simp [hx])]
  ·cases h
 ·rename_i y; split at h
  ·rename_i b hb; obtain ⟨h1, h⟩ := gd_eq h; refine ⟨_, _, ?_, h, fun xs hx => by simp [part]⟩; simp only [Option.map_some, Option.map_none, Lv.St.range, Lv.St.natO, nat_fg hb]; rw [if_pos ⟨Int.le_refl _, h1.1, h1.2⟩]; rfl
  ·cases h
 ·rename_i x y; split at h
  ·rename_i a b ha hb; obtain ⟨h1, h⟩ := gd_eq h; refine ⟨_, _, ?_, h, fun xs hx => rfl⟩; simp only [Option.map_some, Lv.St.range, Lv.St.natO, nat_fg ha, nat_fg hb]; rw [if_pos h1]
  ·cases h
theorem holes_length : ∀ (hs : List (Nat × Nat)) (X : List (List T)), (holes X hs).length = X.length
 | [], _ => rfl
 | (i, j) :: hs, X => by rw [holes, holes_length hs]; simp [setC]
theorem wide_fg {S : St} {c : C} {l : Leaf} (h : S.wide c l = true) (hl : (∃ s c' xs, l = .vw s c' xs) ∨ (∃ q sub, l = .al q sub) ∨ l = .t .nil) : (S.fg R).wide c.size (Leaf.fg R l) = true := by
 rcases hl with ⟨s, c', xs, rfl⟩ | ⟨q, sub, rfl⟩ | rfl
 ·simp only [St.wide, decide_eq_true_eq] at h; subst h; simp [Leaf.fg, Lv.St.wide]
 ·simp only [St.wide] at h; simp only [Leaf.fg, Lv.St.wide, at_fg]; split at h
  ·rename_i x hx; rw [hx]; simp only [Option.map_some, Leaf.fg]; cases x <;> simp only [U.fg, eOf]; simp only [decide_eq_true_eq] at h; subst h; simp
  ·rename_i c' xs hs hx; rw [hx]; simp only [decide_eq_true_eq] at h; subst h; simp [Leaf.fg, eOf]
  ·cases h
 ·rfl
theorem ptrOff_fg {off : Nat} {p q : Leaf} (h : ptrOff off p = some q) : Lv.ptrOff off (Leaf.fg R p) = some (Leaf.fg R q) := by
 cases p <;> simp only [ptrOff] at h <;> first
  | cases h; done
  | (cases h; simp only [Leaf.fg, Lv.ptrOff, List.map_drop])
theorem isPtr_fg (p : Leaf) : Lv.St.isPtr (Leaf.fg R p) = isPtr p := by cases p <;> rfl
theorem cap_fg {l : Leaf} {c : Cap} (h : l.cap? = some c) : c.fg = Leaf.fg R l /\ (Leaf.fg R l).plain = true := by
 unfold Leaf.cap? at h; split at h <;> first | cases h; done | (cases h; exact ⟨rfl, rfl⟩)
theorem allCap_fg : ∀ {es : List En} {cs : List Cap}, allCap es = some cs -> ((es.map (En.fg R)).all fun e => Lv.isOne e.sh && e.cs.length == 1 && e.cs.all Lv.Leaf.plain) = true /\ (es.map (En.fg R)).flatMap Lv.Ent.cs = cs.map Cap.fg
 | [], cs, h => by cases h; exact ⟨rfl, rfl⟩
 | e :: es, cs, h => by
  unfold allCap at h; split at h
  ·rename_i he; cases he
  ·rename_i l es' he; cases he; split at h
   ·rename_i c cs' h1 h2; cases h; obtain ⟨h3, h4⟩ := allCap_fg h2; obtain ⟨h5, h6⟩ := cap_fg (R := R) h1; constructor
    ·rw [List.map_cons, List.all_cons, h3]; simp [En.fg, Lv.isOne, h6]
    ·simp only [List.map_cons, List.flatMap_cons, h4, En.fg, List.map_nil, List.singleton_append, h5]
   ·cases h
  ·cases h
end
end Y
end Lv
namespace Lv
open Go (IntKind BinOp UnOp)
namespace Y
section
variable {R : List GF} {ρ : Type}
def zsC (c : C) : List T := match zeroC c with | some z => enc c z | none => []
theorem zsC_eq {c : C} {z : c.D} (h : zeroC c = some z) : zsC c = enc c z := by unfold zsC; rw [h]
def YOp.er : YOp R -> XOp
 | .mv d x => .mv d (x.er R)
 | .as d x => .as d (x.er R)
 | .pick d c a b => .pick d (c.er R) (a.er R) (b.er R)
 | .alloc d zs => .alloc d (zs.map U.fg)
 | .box d x => .box d (x.er R)
 | .build d zs ps => .build d (zs.map U.fg) (ps.map (erP R))
 | .bslice d n c ps => .bslice d n (zsC c) (ps.map (erQ R))
 | .ld d n x => .ld d n (x.er R)
 | .st n x v => .st n (x.er R) (v.er R)
 | .chk d x => .chk d (x.er R)
 | .bin d c op x y => .bin d c op (x.er R) (y.er R)
 | .un d op x => .un d op (x.er R)
 | .cvI d k x => .cvI d k (x.er R)
 | .cvSB d x => .cvSB d (x.er R)
 | .cvBS d x => .cvBS d (x.er R)
 | .mkfn d n caps => .mkfn d (xr R n) (caps.map (YO.er R))
 | .mksl d c n => .mksl d (zsC c) (n.er R) (n.er R)
 | .sub d c x lo hi => .sub d c.size (x.er R) (lo.map (YO.er R)) (hi.map (YO.er R))
 | .subs d x lo hi => .subs d (x.er R) (lo.map (YO.er R)) (hi.map (YO.er R))
 | .fa d off x => .fa d off (x.er R)
 | .fld d off n x => .fld d off n (x.er R)
 | .ia d c x i => .ia d c.size (x.er R) (i.er R)
 | .ix d x i => .ix d (x.er R) (i.er R)
 | .ext d x i => .ext d (x.er R) i
 | .call d g _ _ args => .call d g.x (args.map (YO.er R))
 | .callv d x ms args => .callv d (x.er R) ms (args.map (YO.er R))
 | .len d x => .len d (x.er R)
 | .lens d x => .lens d (x.er R)
 | .app d c fl x y => .app d c.size fl (x.er R) (y.er R)
 | .appz d c x n => .appz d (zsC c) (x.er R) (n.er R)
 | .cpy d c x y => .cpy d c.size (x.er R) (y.er R)
 | .mm d m x y => .mm d m (x.er R) (y.er R)
 | .mmk d => .mmk d
 | .mget d x k => .mget d (x.er R) (k.er R)
 | .mset x k v => .mset (x.er R) (k.er R) (v.er R)
 | .mlen d x => .mlen d (x.er R)
 | .bad d => .bad d
 | .drop ds => .drop ds
 | .nils ns => .nils (ns.map fun p => (p.1, p.2.size))
def Plain (o : YOp R) (S : St) (K : St -> Option ρ) (r : ρ) : Prop := ∃ S', Lv.ev o.er (S.fg R) = some (S'.fg R) /\ Keeps S S' /\ K S' = some r
theorem put_plain {o : YOp R} {S S1 : St} {d : Nat} {sh : Sh} {cs : List Leaf} {K : St -> Option ρ} {r : ρ} (h : putK S1 d sh cs K = some r) (hk : Keeps S S1) (he : Lv.ev o.er (S.fg R) = (S1.fg R).put1 d ⟨sh, cs.map (Leaf.fg R)⟩) : Plain o S K r := by
 obtain ⟨S', h1, h2, h3⟩ := putK_ok (R := R) h; exact ⟨S', he.trans h1, hk.trans h2, h3⟩
variable {S : St} {K : St -> Option ρ} {r : ρ}
theorem ok_mv {d : Nat} {x : YO} (h : ev (.mv d x : YOp R) S K = some r) : Plain (.mv d x : YOp R) S K r := by
 simp only [ev] at h; split at h
 ·rename_i e he; exact put_plain h (Keeps.refl _) (by simp only [YOp.er, Lv.ev, rd_fg he, En.fg])
 ·cases h
theorem ok_as {d : Nat} {x : YO} (h : ev (.as d x : YOp R) S K = some r) : Plain (.as d x : YOp R) S K r := by
 simp only [ev] at h; split at h
 ·rename_i e he; split at h
  ·rename_i S1 cs h1; obtain ⟨h2, h3⟩ := takeK_fg (R := R) h1; exact put_plain h h3 (by simp only [YOp.er, Lv.ev, rd_fg he, En.fg, h2])
  ·cases h
 ·cases h
theorem ok_pick {d : Nat} {c a b : YO} (h : ev (.pick d c a b : YOp R) S K = some r) : Plain (.pick d c a b : YOp R) S K r := by
 simp only [ev] at h; split at h
 ·rename_i t ea eb h1 h2 h3; rcases br_eq h with ⟨rfl, h'⟩ | ⟨rfl, h'⟩
  ·exact put_plain h' (Keeps.refl _) (by simp only [YOp.er, Lv.ev, sc_fg h1, rd_fg h2, rd_fg h3, U.fg, En.fg, if_true])
  ·exact put_plain h' (Keeps.refl _) (by simp only [YOp.er, Lv.ev, sc_fg h1, rd_fg h2, rd_fg h3, U.fg, En.fg, Bool.false_eq_true, if_false])
 ·cases h
theorem ok_alloc {d : Nat} {zs : List U} (h : ev (.alloc d zs : YOp R) S K = some r) : Plain (.alloc d zs : YOp R) S K r := by
 simp only [ev] at h; obtain ⟨S', h1, h2, h3⟩ := newBx_ok (R := R) h; refine ⟨S', ?_, h2, h3⟩; rw [<- h1]; simp only [YOp.er, Lv.ev, Lv.newBx, List.map_map]; rfl
theorem ok_box {d : Nat} {x : YO} (h : ev (.box d x : YOp R) S K = some r) : Plain (.box d x : YOp R) S K r := by
 simp only [ev] at h; split at h
 ·rename_i e he; split at h
  ·rename_i S1 cs h1; obtain ⟨h2, h3⟩ := boxK_fg (R := R) h1; split at h
   ·cases h
   ·rename_i hc; obtain ⟨S', h4, h5, h6⟩ := newBx_ok (R := R) h; refine ⟨S', ?_, h3.trans h5, h6⟩; simp only [YOp.er, Lv.ev, rd_fg he, En.fg, h2, anyTop_fg, List.length_map]; rw [<- killL_fg (q' := fun l => Lv.onTmp d l || Lv.onBox d l) (fun l => by rw [onTmp_fg, onBox_fg])] at h4; unfold Lv.newBx at h4; split at h4
    ·cases h4
    ·rename_i hp; rw [if_neg (by intro hh; rcases hh with hh | hh; exact hp hh; exact hc hh)]; exact h4
  ·cases h
 ·cases h
theorem ok_build {d : Nat} {zs : List U} {ps : List (Nat × Nat × YO)} (h : ev (.build d zs ps : YOp R) S K = some r) : Plain (.build d zs ps : YOp R) S K r := by
 simp only [ev] at h; split at h
 ·rename_i ls hl; have := buildC_fg (R := R) hl; rw [List.map_map] at this; refine put_plain h (Keeps.refl _) ?_; simp only [YOp.er, Lv.ev, List.map_map]; rw [show (Lv.Leaf.t ∘ U.fg) = (Leaf.fg R ∘ Leaf.t) from rfl, this]
 ·cases h
theorem ok_bslice {d n : Nat} {c : C} {ps : List (Nat × YO)} (h : ev (.bslice d n c ps : YOp R) S K = some r) : Plain (.bslice d n c ps : YOp R) S K r := by
 simp only [ev] at h; split at h
 ·rename_i z hz; split at h
  ·rename_i hn; split at h
   ·rename_i S1 xs hx; have hb : Lv.bsK c.size n (S.fg R) (rowsOf n (enc c z)) (ps.map (erQ R)) = some (S1.fg R, xs.map (enc c)) /\ Keeps S S1 := by
     split at hx
     ·rename_i ho; have := bsL_fg (R := R) (z := enc c z) [] hx ho (Nat.zero_le _); simpa [rowsOf] using this
     ·have := bsK_fg (R := R) hx; rw [List.map_replicate] at this; exact this
    refine put_plain h hb.2 ?_; simp only [YOp.er, Lv.ev, zsC_eq hz, enc_len]; rw [if_pos hn, hb.1]; rfl
   ·cases h
  ·cases h
 ·cases h
theorem ok_ld {d : Nat} {n : Option Nat} {x : YO} (h : ev (.ld d n x : YOp R) S K = some r) : Plain (.ld d n x : YOp R) S K r := by
 simp only [ev] at h; split at h
 ·rename_i p hp; obtain ⟨ls, h1, h⟩ := load_ok (R := R) h; exact put_plain h (Keeps.refl _) (by simp only [YOp.er, Lv.ev, one_fg hp, h1])
 ·cases h
theorem ok_st {n : Nat} {x v : YO} (h : ev (.st n x v : YOp R) S K = some r) : Plain (.st n x v : YOp R) S K r := by
 simp only [ev] at h; split at h
 ·rename_i p e hp he; split at h
  ·rename_i hc; obtain ⟨S', h1, h2, h3⟩ := storeK_ok (R := R) h; refine ⟨S', ?_, h2, h3⟩; simp only [YOp.er, Lv.ev, one_fg hp, rd_fg he, En.fg, List.length_map]; rw [if_pos hc, h1]
  ·cases h
 ·cases h
theorem ok_chk {d : Nat} {x : YO} (h : ev (.chk d x : YOp R) S K = some r) : Plain (.chk d x : YOp R) S K r := by
 simp only [ev] at h; split at h
 ·rename_i p hp; split at h
  ·rename_i hc; exact put_plain h (Keeps.refl _) (by simp only [YOp.er, Lv.ev, one_fg hp, isPtr_fg, hc, if_true]; rfl)
  ·cases h
 ·cases h
theorem ok_bin {d : Nat} {c : Cls} {op : BinOp} {x y : YO} (h : ev (.bin d c op x y : YOp R) S K = some r) : Plain (.bin d c op x y : YOp R) S K r := by
 simp only [ev] at h; split at h
 ·rename_i ex ey h1 h2; obtain ⟨u, h3, h⟩ := bin_ok (R := R) h; exact put_plain h (Keeps.refl _) (by simp only [YOp.er, Lv.ev, rd_fg h1, rd_fg h2, h3]; rfl)
 ·cases h
theorem ok_un {d : Nat} {op : UnOp} {x : YO} (h : ev (.un d op x : YOp R) S K = some r) : Plain (.un d op x : YOp R) S K r := by
 simp only [ev] at h; split at h
 ·rename_i a h1; obtain ⟨u, h3, h⟩ := unU_ok h; exact put_plain h (Keeps.refl _) (by simp only [YOp.er, Lv.ev, sc_fg h1, h3]; rfl)
 ·cases h
theorem ok_cvI {d : Nat} {k : IntKind} {x : YO} (h : ev (.cvI d k x : YOp R) S K = some r) : Plain (.cvI d k x : YOp R) S K r := by
 simp only [ev] at h; split at h
 ·rename_i n h1; exact put_plain h (Keeps.refl _) (by simp only [YOp.er, Lv.ev, nat_fg h1, List.map_cons, List.map_nil, Leaf.fg, mkInt_fg])
 ·cases h
theorem ok_cvSB {d : Nat} {x : YO} (h : ev (.cvSB d x : YOp R) S K = some r) : Plain (.cvSB d x : YOp R) S K r := by
 simp only [ev] at h; split at h
 ·rename_i s h1; exact put_plain h (Keeps.refl _) (by simp only [YOp.er, Lv.ev, sc_fg h1, U.fg]; rfl)
 ·cases h
theorem ok_cvBS {d : Nat} {x : YO} (h : ev (.cvBS d x : YOp R) S K = some r) : Plain (.cvBS d x : YOp R) S K r := by
 simp only [ev] at h; split at h
 ·rename_i l h1; split at h
  ·rename_i w hw; split at h
   ·rename_i bs hb; have h2 := elems_fg (R := R) hw; rw [as_fg hb] at h2; refine put_plain h (Keeps.refl _) ?_; have h3 : bytesOf (bs.map (enc .u)) = some bs := bytesOf_map bs; simp only [YOp.er, Lv.ev, one_fg h1, h2, h3]; rfl
   ·cases h
  ·cases h
 ·cases h
theorem ok_mkfn {d n : Nat} {caps : List YO} (h : ev (.mkfn d n caps : YOp R) S K = some r) : Plain (.mkfn d n caps : YOp R) S K r := by
 simp only [ev] at h; split at h
 ·rename_i es he; split at h
  ·rename_i cs hc; obtain ⟨h1, h2⟩ := allCap_fg (R := R) hc; refine put_plain h (Keeps.refl _) ?_; simp only [YOp.er, Lv.ev, rds_fg he]; rw [if_pos h1, h2]; rfl
  ·cases h
 ·cases h
theorem ok_mksl {d : Nat} {c : C} {n : YO} (h : ev (.mksl d c n : YOp R) S K = some r) : Plain (.mksl d c n : YOp R) S K r := by
 simp only [ev] at h; split at h
 ·rename_i k hk; split at h
  ·rename_i z hz; obtain ⟨h1, h⟩ := gd_eq h; refine put_plain h (Keeps.refl _) ?_; simp only [YOp.er, Lv.ev, nat_fg hk, zsC_eq hz, enc_len]; rw [if_pos ⟨trivial, h1⟩]; simp only [rowsOf, List.map_cons, List.map_nil, Leaf.fg, U.fg, List.map_replicate]
  ·cases h
 ·cases h
theorem ok_subs {d : Nat} {x : YO} {lo hi : Option YO} (h : ev (.subs d x lo hi : YOp R) S K = some r) : Plain (.subs d x lo hi : YOp R) S K r := by
 simp only [ev] at h; split at h
 ·rename_i s hs; obtain ⟨a, b, h1, h, h2⟩ := range_ok (R := R) h; rw [h2 s rfl] at h; exact put_plain h (Keeps.refl _) (by simp only [YOp.er, Lv.ev, sc_fg hs, U.fg, h1]; rfl)
 ·cases h
theorem elems_al {q : Root} {sub : Option (Nat × Nat)} {w : Rw} {c : C} {xs : List c.D} (h : S.elems (.al q sub) = some w) (ha : w.as c = some xs) : (S.fg R).elems (.al q sub) = some (xs.map (enc c)) := by
 have := elems_fg (R := R) h; rw [as_fg ha] at this; exact this
theorem ok_sub {d : Nat} {c : C} {x : YO} {lo hi : Option YO} (h : ev (.sub d c x lo hi : YOp R) S K = some r) : Plain (.sub d c x lo hi : YOp R) S K r := by
 simp only [ev] at h; split at h
 ·rename_i l hl; split at h
  ·rename_i hw; split at h
   ·rename_i q sub; have hw' := wide_fg (R := R) hw (.inr (.inl ⟨_, _, rfl⟩)); split at h
    ·rename_i w he; split at h
     ·rename_i xs hx; obtain ⟨a, b, h1, h, _⟩ := range_ok (R := R) h; have h2 := elems_al (R := R) he hx; have h3 := one_fg (R := R) hl; simp only [Leaf.fg] at hw' h3; refine put_plain h (Keeps.refl _) ?_; simp only [YOp.er, Lv.ev, h3, hw', if_true, h2, List.length_map, h1]; cases sub with
      | none => rfl
      | some p => rfl
     ·cases h
    ·cases h
   ·rename_i s c' xs; have hw' := wide_fg (R := R) hw (.inl ⟨_, _, _, rfl⟩); obtain ⟨a, b, h1, h, h2⟩ := range_ok (R := R) h; rw [h2 xs rfl] at h; have h3 := one_fg (R := R) hl; simp only [Leaf.fg] at hw' h3; refine put_plain h (Keeps.refl _) ?_; simp only [YOp.er, Lv.ev, h3, hw', if_true, Lv.St.elems, List.length_map, h1, List.map_cons, List.map_nil, Leaf.fg, List.map_take, List.map_drop]
   ·obtain ⟨a, b, h1, h, _⟩ := range_ok (R := R) h; have hw' := wide_fg (R := R) hw (.inr (.inr rfl)); have h3 := one_fg (R := R) hl; simp only [Leaf.fg, U.fg] at hw' h3; refine put_plain h (Keeps.refl _) ?_; simp only [YOp.er, Lv.ev, h3, hw', if_true, Lv.St.elems, List.length_nil, h1, List.map_cons, List.map_nil, Leaf.fg, U.fg]
   ·cases h
  ·cases h
 ·cases h
theorem ok_fa {d off : Nat} {x : YO} (h : ev (.fa d off x : YOp R) S K = some r) : Plain (.fa d off x : YOp R) S K r := by
 simp only [ev] at h; split at h
 ·rename_i p hp; split at h
  ·rename_i q hq; exact put_plain h (Keeps.refl _) (by simp only [YOp.er, Lv.ev, one_fg hp, ptrOff_fg hq]; rfl)
  ·cases h
 ·cases h
theorem ok_fld {d off : Nat} {n : Option Nat} {x : YO} (h : ev (.fld d off n x : YOp R) S K = some r) : Plain (.fld d off n x : YOp R) S K r := by
 simp only [ev] at h; split at h
 ·rename_i cs hr; split at h
  ·rename_i hc; refine put_plain h (Keeps.refl _) ?_; simp only [YOp.er, Lv.ev, rd_fg hr, En.fg, List.length_map, hc, if_true, List.map_take, List.map_drop]
  ·cases h
 ·cases h
theorem ok_ia {d : Nat} {c : C} {x i : YO} (h : ev (.ia d c x i : YOp R) S K = some r) : Plain (.ia d c x i : YOp R) S K r := by
 simp only [ev] at h; split at h
 ·rename_i l n hl hn; split at h
  ·rename_i hw; split at h
   ·rename_i q sub; have hw' := wide_fg (R := R) hw (.inr (.inl ⟨_, _, rfl⟩)); split at h
    ·rename_i c' xs he; obtain ⟨y, hy, h⟩ := bd_eq h; have h2 := elems_fg (R := R) he; have h3 := one_fg (R := R) hl; simp only [Leaf.fg] at hw' h3 h2; have hf := at_facts hy; refine put_plain h (Keeps.refl _) ?_; simp only [YOp.er, Lv.ev, h3, nat_fg hn, h2, Rw.fg, List.length_map]; rw [if_pos ⟨hw', hf.1, hf.2.1⟩]; cases sub with
     | none => rfl
     | some p =>
      obtain ⟨lo, m⟩ := p; simp only [List.map_cons, List.map_nil, Leaf.fg]; congr 5; have := hf.1; omega
    ·split at h
     ·split at h
      ·rename_i c' xs hs hq; obtain ⟨y, hy, h⟩ := bd_eq h; have h3 := one_fg (R := R) hl; simp only [Leaf.fg] at hw' h3; have hf := at_facts hy; refine put_plain h (Keeps.refl _) ?_; simp only [YOp.er, Lv.ev, h3, nat_fg hn, Lv.St.elems, at_fg, hq, Option.map_some, Leaf.fg, Lv.content, Lv.subl, holes_length, List.length_map]; rw [if_pos ⟨hw', hf.1, hf.2.1⟩]; rfl
      ·cases h
     ·cases h
   ·rename_i s c' xs; have hw' := wide_fg (R := R) hw (.inl ⟨_, _, _, rfl⟩); obtain ⟨y, hy, h⟩ := bd_eq h; have h3 := one_fg (R := R) hl; simp only [Leaf.fg] at hw' h3; have hf := at_facts hy; refine put_plain h (Keeps.refl _) ?_; simp only [YOp.er, Lv.ev, h3, nat_fg hn, Lv.St.elems, List.length_map]; rw [if_pos ⟨hw', hf.1, hf.2.1⟩]; have h4 : (xs.map (enc c')).getD n.toNat [] = (cells c' y).map U.fg := by
     rw [List.getD_eq_getElem?_getD, at_enc hy, Option.getD_some, enc_cells]
    rw [h4]; rfl
   ·cases h
  ·cases h
 ·cases h
theorem ok_ix {d : Nat} {x i : YO} (h : ev (.ix d x i : YOp R) S K = some r) : Plain (.ix d x i : YOp R) S K r := by
 simp only [ev] at h; split at h
 ·rename_i s n hs hn; obtain ⟨y, hy, h⟩ := bd_eq h; have hf := at_facts hy; refine put_plain h (Keeps.refl _) ?_; simp only [YOp.er, Lv.ev, sc_fg hs, U.fg, nat_fg hn]; rw [if_pos ⟨hf.1, hf.2.1⟩]; have : s.getD n.toNat 0 = y := by rw [List.getD_eq_getElem?_getD, hf.2.2.2.1, Option.getD_some]
  rw [this]; rfl
 ·cases h
theorem ok_ext {d : Nat} {x : YO} {i : Nat} (h : ev (.ext d x i : YOp R) S K = some r) : Plain (.ext d x i : YOp R) S K r := by
 simp only [ev] at h; split at h
 ·rename_i s; split at h
  ·rename_i ns cs v hg; split at h
   ·rename_i n hn; split at h
    ·rename_i hc; split at h
     ·rename_i S1 ls h1; obtain ⟨h2, h3⟩ := takeK_fg (R := R) h1; refine put_plain h h3 ?_; simp only [YOp.er, YO.er, Lv.ev, fg_tm, hg, Option.map_some, Ent.fg, hn, List.length_map, hc, if_true]; rw [List.map_take, List.map_drop, aliL_fg] at h2; rw [h2]
     ·cases h
    ·cases h
   ·cases h
  ·cases h
 ·cases h
theorem ok_lens {d : Nat} {x : YO} (h : ev (.lens d x : YOp R) S K = some r) : Plain (.lens d x : YOp R) S K r := by
 simp only [ev] at h; split at h
 ·rename_i s hs; exact put_plain h (Keeps.refl _) (by simp only [YOp.er, Lv.ev, sc_fg hs, U.fg]; rfl)
 ·cases h
theorem ok_len {d : Nat} {x : YO} (h : ev (.len d x : YOp R) S K = some r) : Plain (.len d x : YOp R) S K r := by
 simp only [ev] at h; split at h
 ·rename_i l hl; split at h
  ·rename_i c xs he; have h2 := elems_fg (R := R) he; exact put_plain h (Keeps.refl _) (by simp only [YOp.er, Lv.ev, one_fg hl, h2, Rw.fg, List.length_map]; rfl)
  ·rename_i he; have h2 := elems_fg (R := R) he; exact put_plain h (Keeps.refl _) (by simp only [YOp.er, Lv.ev, one_fg hl, h2, Rw.fg, List.length_nil]; rfl)
  ·cases h
 ·cases h
theorem ok_app {d : Nat} {c : C} {fl : Bool} {x y : YO} (h : ev (.app d c fl x y : YOp R) S K = some r) : Plain (.app d c fl x y : YOp R) S K r := by
 simp only [ev] at h; split at h
 ·rename_i lx ly hx hy; split at h
  ·rename_i S1 ys h1; obtain ⟨h2, h3⟩ := srcK_fg (R := R) h1; split at h
   ·rename_i S2 b n e h4; obtain ⟨he, h⟩ := gdo_eq h; obtain ⟨h5, h6⟩ := baseK_fg (R := R) h4 he; obtain ⟨h7, h⟩ := gd_eq h; split at h
    ·rename_i u hu; refine put_plain h (h3.trans h6) ?_; simp only [YOp.er, Lv.ev, one_fg hx, one_fg hy, h2, h5, List.length_map]; rw [if_pos h7, <- appU_fg hu]; rfl
    ·cases h
   ·cases h
  ·cases h
 ·cases h
theorem ok_appz {d : Nat} {c : C} {x n : YO} (h : ev (.appz d c x n : YOp R) S K = some r) : Plain (.appz d c x n : YOp R) S K r := by
 simp only [ev] at h; split at h
 ·rename_i lx k z hx hk hz; obtain ⟨h1, h⟩ := gd_eq h; split at h
  ·rename_i S2 b m e h4; obtain ⟨he, h⟩ := gdo_eq h; obtain ⟨h5, h6⟩ := baseK_fg (R := R) h4 he; obtain ⟨h7, h⟩ := gd_eq h; split at h
   ·rename_i u hu; refine put_plain h h6 ?_; simp only [YOp.er, Lv.ev, one_fg hx, nat_fg hk, zsC_eq hz, enc_len]; rw [if_pos h1]
    try dsimp only
    rw [h5]
    try dsimp only
    rw [if_pos h7]; have := appU_fg hu; rw [List.map_replicate] at this; simp only [rowsOf, <- this, List.map_cons, List.map_nil, Leaf.fg]
   ·cases h
  ·cases h
 ·cases h
theorem ok_cpy {d : Nat} {c : C} {x y : YO} (h : ev (.cpy d c x y : YOp R) S K = some r) : Plain (.cpy d c x y : YOp R) S K r := by
 simp only [ev] at h; split at h
 ·rename_i q ly hx hy; split at h
  ·rename_i c' xs0 w hat hw; split at h
   ·rename_i ys xs hys hxs; split at h
    ·rename_i hc; obtain ⟨hne, h⟩ := gd_eq h; have hcc : c' = c := by
      simp only [Rw.as] at hxs; split at hxs
      ·rename_i hc; exact hc
      ·cases hxs
     subst hcc; have hx0 : xs0 = xs := by simp only [Rw.as] at hxs; simpa using hxs
     subst hx0; have h2 := elems_fg (R := R) hw; rw [as_fg hys] at h2; have h3 := one_fg (R := R) hx; simp only [Leaf.fg] at h3; have hwd : (S.fg R).wide c'.size (Leaf.fg R ly) = true := by
      refine wide_fg hc.1 ?_; unfold St.elems at hw; split at hw
      ·exact .inr (.inl ⟨_, _, rfl⟩)
      ·exact .inl ⟨_, _, _, rfl⟩
      ·exact .inr (.inr rfl)
      ·cases hw
     have hemp : (xs0.map (enc c')).isEmpty = false := by cases xs0 <;> simp_all
     have hy' := one_fg (R := R) hy; generalize Leaf.fg R ly = L at hy' h2 hwd; refine put_plain h ((Keeps.setRoot _ _ _).trans (Keeps.kill _ _)) ?_; simp only [YOp.er, Lv.ev, h3, hy', at_fg, hat, Option.map_some, Leaf.fg, U.fg, h2]; rw [if_pos ⟨trivial, hwd, flatRow_enc hc.2 _, flatRow_enc hc.2 _, hemp⟩, <- kill_fg (onIn_fg q), setRoot_fg]; simp only [Leaf.fg, U.fg, List.map_append, List.map_take, List.map_drop, List.length_map, List.map_cons, List.map_nil]
    ·cases h
   ·cases h
  ·cases h
 ·cases h
theorem ok_mm {d : Nat} {m : Bool} {x y : YO} (h : ev (.mm d m x y : YOp R) S K = some r) : Plain (.mm d m x y : YOp R) S K r := by
 simp only [ev] at h; split at h
 ·rename_i k a k' b h1 h2; split at h
  ·rename_i hk; exact put_plain h (Keeps.refl _) (by simp only [YOp.er, Lv.ev, sc_fg h1, sc_fg h2, U.fg]; rw [if_pos hk]; rfl)
  ·cases h
 ·cases h
theorem mapAt_fg {x : YO} {q : Root} {ks : List (Int × Int)} (h : S.mapAt x = some (q, ks)) : (S.fg R).mapAt (x.er R) = some (q, ks) := by
 unfold St.mapAt at h; split at h
 ·rename_i r0 h1; split at h
  ·rename_i ks0 h2; cases h; have := one_fg (R := R) h1; simp only [Leaf.fg] at this; unfold Lv.St.mapAt; simp only [this, at_fg, h2, Option.map_some, Leaf.fg, U.fg]
  ·cases h
 ·cases h
theorem ok_mmk {d : Nat} (h : ev (.mmk d : YOp R) S K = some r) : Plain (.mmk d : YOp R) S K r := by
 simp only [ev] at h; exact put_plain h (Keeps.refl _) (by simp only [YOp.er, Lv.ev]; rfl)
theorem ok_mget {d : Nat} {x k : YO} (h : ev (.mget d x k : YOp R) S K = some r) : Plain (.mget d x k : YOp R) S K r := by
 simp only [ev] at h; split at h
 ·rename_i q ks n h1 h2; exact put_plain h (Keeps.refl _) (by simp only [YOp.er, Lv.ev, mapAt_fg h1, sc_fg h2, U.fg]; rfl)
 ·cases h
theorem ok_mlen {d : Nat} {x : YO} (h : ev (.mlen d x : YOp R) S K = some r) : Plain (.mlen d x : YOp R) S K r := by
 simp only [ev] at h; split at h
 ·rename_i q ks h1; exact put_plain h (Keeps.refl _) (by simp only [YOp.er, Lv.ev, mapAt_fg h1]; rfl)
 ·cases h
theorem ok_mset {x k v : YO} (h : ev (.mset x k v : YOp R) S K = some r) : Plain (.mset x k v : YOp R) S K r := by
 simp only [ev] at h; split at h
 ·rename_i q ks n m h1 h2 h3; refine ⟨_, ?_, (Keeps.setRoot _ _ _).trans (Keeps.kill _ _), h⟩; simp only [YOp.er, Lv.ev, mapAt_fg h1, sc_fg h2, sc_fg h3, U.fg]; rw [<- kill_fg (onIn_fg q), setRoot_fg]; rfl
 ·cases h
theorem ev_ok {o : YOp R} (h : ev o S K = some r) : ∃ S', Keeps S S' /\ K S' = some r /\ ∀ N : Lv.St -> Prop, N (S'.fg R) -> opK Runs o.er (S.fg R) N := by
 have pl : Plain o S K r -> ∃ S', Keeps S S' /\ K S' = some r /\ ∀ N : Lv.St -> Prop, N (S'.fg R) -> opK Runs o.er (S.fg R) N := fun ⟨S', h1, h2, h3⟩ => ⟨S', h2, h3, fun N hN => .inl ⟨_, h1, hN⟩⟩
 cases o with
 | mv => exact pl (ok_mv h)
 | as => exact pl (ok_as h)
 | pick => exact pl (ok_pick h)
 | alloc => exact pl (ok_alloc h)
 | box => exact pl (ok_box h)
 | build => exact pl (ok_build h)
 | bslice => exact pl (ok_bslice h)
 | ld => exact pl (ok_ld h)
 | st => exact pl (ok_st h)
 | chk => exact pl (ok_chk h)
 | bin => exact pl (ok_bin h)
 | un => exact pl (ok_un h)
 | cvI => exact pl (ok_cvI h)
 | cvSB => exact pl (ok_cvSB h)
 | cvBS => exact pl (ok_cvBS h)
 | mkfn => exact pl (ok_mkfn h)
 | mksl => exact pl (ok_mksl h)
 | sub => exact pl (ok_sub h)
 | subs => exact pl (ok_subs h)
 | fa => exact pl (ok_fa h)
 | fld => exact pl (ok_fld h)
 | ia => exact pl (ok_ia h)
 | ix => exact pl (ok_ix h)
 | ext => exact pl (ok_ext h)
 | len => exact pl (ok_len h)
 | lens => exact pl (ok_lens h)
 | app => exact pl (ok_app h)
 | appz => exact pl (ok_appz h)
 | cpy => exact pl (ok_cpy h)
 | mm => exact pl (ok_mm h)
 | mmk => exact pl (ok_mmk h)
 | mget => exact pl (ok_mget h)
 | mset => exact pl (ok_mset h)
 | mlen => exact pl (ok_mlen h)
 | bad => simp [ev] at h
 | drop ds => exact pl ⟨_, by simp only [YOp.er, Lv.ev, dropS_fg], Keeps.dropS _ _, h⟩
 | nils ns => exact pl ⟨_, by simp only [YOp.er, Lv.ev, nilS_fg], Keeps.nilS _ _, h⟩
 | call d g fs hf args =>
  simp only [ev] at h; split at h
  ·rename_i es he; obtain ⟨S1, vs, cs, outs, S', h1, h2, h3, h4, h5⟩ := callK_ok (Al.of hf) h; refine ⟨S', h4, h5, fun N hN => .inr ⟨d, g.x, es.map (En.fg R), S1, vs, _, cs, outs, _, ?_, h1, h2, h3, hN⟩⟩; simp only [YOp.er, Lv.callee?, rds_fg he]
  ·cases h
 | callv d x ms args =>
  simp only [ev] at h; split at h
  ·rename_i n caps es h0 he; split at h
   ·rename_i g hg; split at h
    ·rename_i hm; obtain ⟨S1, vs, cs, outs, S', h1, h2, h3, h4, h5⟩ := callK_ok (Al.nil _) h; refine ⟨S', h4, h5, fun N hN => .inr ⟨d, g.x, _, S1, vs, _, cs, outs, _, ?_, h1, h2, h3, hN⟩⟩; have hx : xr R n = g.x := by unfold xr; rw [hg]
     simp only [YOp.er, Lv.callee?, one_fg h0, rds_fg he, Leaf.fg, hx]; rw [if_pos (by rw [g.ms, hm])]; simp only [List.map_append, List.map_map, Option.some.injEq, Prod.mk.injEq, true_and, List.append_cancel_left_eq]; apply List.map_congr_left; intro c _; simp only [Function.comp, En.fg, List.map_cons, List.map_nil, cap_leaf_fg]
    ·cases h
   ·cases h
  ·cases h
end
end Y
end Lv
namespace Lv
open Go (IntKind BinOp UnOp)
namespace Y
section
variable {R : List GF} {ρ : Type}
def YRun.er : YRun R -> XRun
 | .nil => .nil
 | .op i g sf o rest => .op i g sf o.er rest.er
 | .dr ds rest => .dr ds rest.er
 | .nl ns rest => .nl (ns.map fun p => (p.1, p.2.size)) rest.er
 | .both _ a b => .both a.er b.er
def YCode.er : YCode R -> XCode
 | .skip => .skip
 | .region ops _ => .region (ops.map fun p => (p.1, p.2.er)) []
 | .dreg r _ => .dreg r.er []
 | .seq a b => .seq a.er b.er
 | .join _ a b => .seq a.er b.er
 | .cond c _ _ t e => .cond c [] [] t.er e.er
 | .block id b => .block id b.er
 | .loop _ b => .loop b.er
 | .exit id => .exit id
 | .ret => .ret
 | .scope b => .scope b.er
theorem dst_er (o : YOp R) : o.er.dst? = o.dst? := by cases o <;> rfl
theorem skipO_ok {o : YOp R} {S : St} {K : St -> Option ρ} {r : ρ} (h : skipO o S K = some r) : ∃ S', Lv.skipO o.er (S.fg R) = some (S'.fg R) /\ Keeps S S' /\ K S' = some r := by
 unfold skipO at h; unfold Lv.skipO; rw [dst_er]; split at h
 ·rename_i d hd; obtain ⟨S', h1, h2, h3⟩ := putK_ok (R := R) h; rw [hd]; exact ⟨S', h1, h2, h3⟩
 ·rename_i hd; rw [hd]; exact ⟨S, rfl, Keeps.refl _, h⟩
theorem reE_fg {s : Nat} {e x : Ent} : ∀ {l : List (Nat × Ent)}, get l s = some x -> e.fg R = x.fg R -> fgE R (reE s e l) = fgE R l
 | [], h, _ => rfl
 | (k, y) :: l, h, he => by
  simp only [get] at h; simp only [reE]; cases hb : Nat.beq k s with
  | true => rw [hb] at h; cases h; simp only [fgE, List.map_cons, he]
  | false =>
   rw [hb] at h; have := reE_fg (l := l) h he; simp only [fgE, List.map_cons] at this ⊢; rw [this]
theorem get_reE {s : Nat} {e : Ent} : ∀ {l : List (Nat × Ent)} {k : Nat} {y : Ent}, get (reE s e l) k = some y -> y = e ∨ get l k = some y
 | [], k, y, h => .inr h
 | (j, x) :: l, k, y, h => by
  simp only [reE] at h; cases hb : Nat.beq j s with
  | true =>
   rw [hb] at h; simp only [get] at h ⊢; cases hk : Nat.beq j k with
   | true => rw [hk] at h; cases h; exact .inl rfl
   | false => rw [hk] at h; exact .inr h
  | false =>
   rw [hb] at h; simp only [get] at h ⊢; cases hk : Nat.beq j k with
   | true => rw [hk] at h; exact .inr h
   | false => rw [hk] at h; exact get_reE h
theorem lit_ok {S : St} {s : Nat} {b : Bool} {v : Nat} (h : get S.tm s = some ⟨.one, [.t (.bool b)], v⟩) : (S.lit s b).fg R = S.fg R /\ Keeps S (S.lit s b) := by
 refine ⟨?_, by simp [St.lit], fun k e he hv => ?_, fun _ _ h _ => h, rfl⟩
 ·simp only [St.fg, St.lit]; have := reE_fg (R := R) (e := ⟨.one, [.t (.bool b)], S.nv⟩) h rfl; rw [this]
 ·rcases get_reE he with rfl | h1
  ·exact (Nat.lt_irrefl _ hv).elim
  ·exact h1
def Gd (R : List GF) (g : Option (Nat × Bool)) (o : YOp R) (S : Lv.St) (N : Lv.St -> Prop) : Prop :=
 ∃ b, Lv.wanted S g = some b /\ ((b = true /\ opK Runs o.er S N) ∨ (b = false /\ ∃ S', Lv.skipO o.er S = some S' /\ N S'))
theorem want_bool {S : St} {s : Nat} {w b : Bool} {v : Nat} (h : get S.tm s = some ⟨.one, [.t (.bool b)], v⟩) : Lv.wanted (S.fg R) (some (s, w)) = some (b == w) := by
 simp only [Lv.wanted, fg_tm, h]; rfl
theorem want_und {S : St} {s : Nat} {w : Bool} {v : Nat} (h : get S.tm s = some ⟨.one, [.und], v⟩) : Lv.wanted (S.fg R) (some (s, w)) = some false := by
 simp only [Lv.wanted, fg_tm, h]; rfl
theorem branch_ok {S : St} {s : Nat} {w b : Bool} {v : Nat} {o : YOp R} {f : Option ρ} {K : St -> Option ρ} {r : ρ} {P : Lv.St -> (Lv.St -> Prop) -> Prop} (hg : get S.tm s = some ⟨.one, [.t (.bool b)], v⟩) (x : Bool) (hx : x = (b == w))
 (h : orSkip x o (S.lit s b) f K = some r) (hf : f = some r -> ∃ S', Keeps (S.lit s b) S' /\ K S' = some r /\ ∀ N : Lv.St -> Prop, N (S'.fg R) -> P ((S.lit s b).fg R) N) :
 ∃ S', Keeps S S' /\ K S' = some r /\ ∀ N : Lv.St -> Prop, N (S'.fg R) -> ∃ b, Lv.wanted (S.fg R) (some (s, w)) = some b /\ ((b = true /\ P (S.fg R) N) ∨ (b = false /\ ∃ S', Lv.skipO o.er (S.fg R) = some S' /\ N S')) := by
 obtain ⟨hl, hk⟩ := lit_ok (R := R) hg; cases x with
 | true =>
  obtain ⟨S', h1, h2, h3⟩ := hf h; refine ⟨S', hk.trans h1, h2, fun N hN => ⟨_, want_bool hg, .inl ⟨hx.symm, ?_⟩⟩⟩; have := h3 N hN
  rwa [hl] at this
 | false =>
  obtain ⟨S', h1, h2, h3⟩ := skipO_ok (R := R) h; refine ⟨S', hk.trans h2, h3, fun N hN => ⟨_, want_bool hg, .inr ⟨hx.symm, _, ?_, hN⟩⟩⟩
  rwa [hl] at h1
theorem evg_ok {g : Option (Nat × Bool)} {o : YOp R} {S : St} {K : St -> Option ρ} {r : ρ} (h : evg g o S K = some r) :
 ∃ S', Keeps S S' /\ K S' = some r /\ ∀ N : Lv.St -> Prop, N (S'.fg R) -> Gd R g o (S.fg R) N := by
 unfold evg at h; split at h
 ·obtain ⟨S', h1, h2, h3⟩ := ev_ok h; exact ⟨S', h1, h2, fun N hN => ⟨true, rfl, .inl ⟨rfl, h3 N hN⟩⟩⟩
 ·rename_i s w; split at h
  ·rename_i b v hg; rcases br_eq h with ⟨rfl, h'⟩ | ⟨rfl, h'⟩
   ·exact branch_ok (P := opK Runs o.er) hg w (by cases w <;> rfl) h' fun hf => ev_ok hf
   ·exact branch_ok (P := opK Runs o.er) hg (!w) (by cases w <;> rfl) h' fun hf => ev_ok hf
  ·rename_i v hg; obtain ⟨S', h1, h2, h3⟩ := skipO_ok (R := R) h; exact ⟨S', h2, h3, fun N hN => ⟨false, want_und hg, .inr ⟨rfl, _, h1, hN⟩⟩⟩
  ·cases h
theorem evs_ok : ∀ {ops : List (Option (Nat × Bool) × YOp R)} {S : St} {K : St -> Option ρ} {r : ρ}, evs ops S K = some r ->
 ∃ S', Keeps S S' /\ K S' = some r /\ ∀ N : Lv.St -> Prop, N (S'.fg R) -> opsK Runs (ops.map fun p => (p.1, p.2.er)) (S.fg R) N
 | [], S, K, r, h => ⟨S, Keeps.refl _, h, fun N hN => hN⟩
 | (g, o) :: ops, S, K, r, h => by
  have h' : evg g o S (fun S' => evs ops S' K) = some r := by
   simp only [evs] at h; split at h
   ·exact h
   ·simpa only [force_eq] using h
  obtain ⟨S1, h1, h2, h3⟩ := evg_ok h'; obtain ⟨S2, h4, h5, h6⟩ := evs_ok h2; exact ⟨S2, h1.trans h4, h5, fun N hN => h3 _ (h6 N hN)⟩
theorem wr_er (o : YOp R) : o.er.wr = o.wr.map (YO.er R) := by cases o <;> rfl
theorem apartL_fg (l : Leaf) : ∀ (ks : List PK) (es : List En), Lv.apartL (Leaf.fg R l) (ks.map PK.md) (es.map (En.fg R)) = apartL l ks es
 | [], es => by cases es <;> rfl
 | k :: ks, [] => rfl
 | k :: ks, e :: es => by
  simp only [List.map_cons, Lv.apartL, apartL, writes_md, En.fg, List.all_map, Function.comp_def, shareL_fg, apartL_fg l ks es]
theorem firm_fg {S : St} {l : Leaf} (h : S.firm l = true) : (S.fg R).firm (Leaf.fg R l) = true := by
 unfold St.firm at h; split at h
 ·simp only [Leaf.fg, Lv.St.firm, fg_bx, Option.isSome_map]; exact h
 ·rfl
 ·rename_i s cs; cases cs <;> simp_all [Leaf.fg, Lv.St.firm]
 ·simp only [Leaf.fg, Lv.St.firm, at_fg]; split at h
  ·rename_i x hx; rw [hx]; simp only [Option.map_some, Leaf.fg, isTop_fg]; exact h
  ·cases h
 ·rfl
 ·rfl
 ·cases h
theorem callee_none {o : YOp R} {S : Lv.St} (h1 : ∀ d g fs hf args, o ≠ .call d g fs hf args) (h2 : ∀ d x ms args, o ≠ .callv d x ms args) : Lv.callee? o.er S = none := by
 cases o <;> first | rfl | (exact (h1 _ _ _ _ _ rfl).elim) | (exact (h2 _ _ _ _ rfl).elim)
theorem safeL_fg {o : YOp R} {S : St} {l : Leaf} (h : safeL o S l = true) : Lv.safeL o.er (S.fg R) (Leaf.fg R l) = true := by
 unfold safeL at h; simp only [Bool.and_eq_true] at h; obtain ⟨h1, h2⟩ := h; unfold Lv.safeL; rw [firm_fg h1, Bool.true_and]; have hr2 : (Leaf.fg R l).root? = l.root? := root_fg l; have gen : (∀ d g fs hf args, o ≠ .call d g fs hf args) -> (∀ d x ms args, o ≠ .callv d x ms args) ->
  (match o.wr with | some y => (match S.one y with | some lt => l.root?.isNone || !(match l.root? with | some r => isR lt.root? r | none => lt.root?.isNone) | none => false) | none => true) = true ->
  (match Lv.callee? o.er (S.fg R) with
  | some (_, f, es) => Lv.apartL (Leaf.fg R l) (modes f) es
  | none => match o.er.wr with
   | some y => (match (S.fg R).one y with | some lt => (Leaf.fg R l).root?.isNone || decide ((Leaf.fg R l).root? ≠ lt.root?) | none => true)
   | none => true) = true := by
  intro n1 n2 h; rw [callee_none n1 n2, wr_er]; cases hy : o.wr with
  | none => rfl
  | some y =>
   rw [hy] at h; dsimp only at h; cases ho : S.one y with
   | none => rw [ho] at h; cases h
   | some lt =>
    rw [ho] at h; dsimp only at h ⊢; simp only [Option.map_some, one_fg ho]; rw [hr2, root_fg, decide_not, <- rootEq]; exact h
 cases o with
 | st n x v =>
  dsimp only at h2; have h4 : Lv.names (Leaf.fg R l) = names l := names_fg l; generalize Leaf.fg R l = L at h4 hr2 ⊢; cases ho : S.one x with
  | none => rw [ho] at h2; cases h2
  | some lp =>
   rw [ho] at h2; have h3 := one_fg (R := R) ho; simp only [YOp.er, h3]; cases lp with
   | bp id o =>
    dsimp only at h2; show (!(Lv.names L).contains id) = true; rw [h4, List.contains_eq_mem, <- mem_dec]; exact h2
   | ep r0 i j =>
    dsimp only at h2; show decide (L.root? ≠ some r0) = true; rw [hr2]; rw [isR_eq] at h2; simpa using h2
   | _ => cases h2
 | call d g fs hf args =>
  dsimp only at h2; cases hr : S.rds args with
  | none => rw [hr] at h2; cases h2
  | some es =>
   rw [hr] at h2; have h3 := apartL_fg (R := R) l g.ps es; generalize Leaf.fg R l = L at h3 ⊢; simp only [YOp.er, Lv.callee?, rds_fg hr, g.ms]; rw [h3]; exact h2
 | callv d x ms args =>
  dsimp only at h2; split at h2
  ·rename_i n caps es h4 h5; split at h2
   ·rename_i g h6; split at h2
    ·rename_i h7; have hx : xr R n = g.x := by unfold xr; rw [h6]
     have h8 := apartL_fg (R := R) l g.ps (es ++ caps.map fun l => ⟨.one, [l.leaf]⟩); rw [List.map_append, List.map_map] at h8; rw [show (En.fg R ∘ fun l => (⟨.one, [l.leaf]⟩ : En)) = ((fun l => (⟨Sh.one, [l]⟩ : Lv.Ent)) ∘ Cap.fg) from by funext c; simp only [Function.comp, En.fg, List.map_cons, List.map_nil, cap_leaf_fg], <- List.map_map] at h8; have h9 := one_fg (R := R) h4; simp only [Leaf.fg, hx] at h9; generalize Leaf.fg R l = L at h8 ⊢; simp only [YOp.er, Lv.callee?, h9, rds_fg h5]; rw [if_pos (by rw [g.ms, h7])]; dsimp only; rw [g.ms, h8]; exact h2
    ·cases h2
   ·cases h2
  ·cases h2
 | _ => exact gen (by intros; simp) (by intros; simp) h2
theorem safeK_fg {o : YOp R} {S : St} : ∀ {sf : List Nat}, safeK o S sf = true -> Lv.safeK o.er (S.fg R) sf = true
 | [], h => rfl
 | s :: sf, h => by
  simp only [safeK, Bool.and_eq_true] at h; obtain ⟨h1, h2⟩ := h; simp only [Lv.safeK, Bool.and_eq_true]; refine ⟨?_, safeK_fg h2⟩; split at h1
  ·rename_i l hl; have := one_fg (R := R) hl; simp only [YO.er] at this; rw [this]; exact safeL_fg h1
  ·cases h1
theorem eqOs_eq : ∀ {a b : List (Option Nat)}, eqOs a b = true -> a = b
 | [], [], _ => rfl
 | none :: r, none :: r', h => by simp only [eqOs] at h; rw [eqOs_eq h]
 | some a :: r, some b :: r', h => by simp only [eqOs, Bool.and_eq_true] at h; rw [beq_true h.1, eqOs_eq h.2]
 | [], _ :: _, h => by cases h
 | none :: _, [], h => by cases h
 | some _ :: _, [], h => by cases h
 | none :: _, some _ :: _, h => by cases h
 | some _ :: _, none :: _, h => by cases h
theorem eqSh_eq {a b : Sh} (h : eqSh a b = true) : a = b := by
 cases a <;> cases b <;> first | rfl | (cases h; done) | (simp only [eqSh] at h; first | rw [eqOs_eq h] | rw [beq_true h])
theorem eqSub_eq : ∀ {a b : Option (Nat × Nat)}, eqSub a b = true -> a = b
 | none, none, _ => rfl
 | some (a, b), some (a', b'), h => by simp only [eqSub, Bool.and_eq_true] at h; rw [beq_true h.1, beq_true h.2]
 | none, some _, h => by cases h
 | some _, none, h => by cases h
theorem rootIs_eq : ∀ {a b : Root}, Root.is a b = true -> a = b
 | .tmp s c, .tmp s' c', h => by
  simp only [Root.is] at h; split at h
  ·rename_i h1; rw [beq_true h1, beq_true h]
  ·cases h
 | .cell s c, .cell s' c', h => by
  simp only [Root.is] at h; split at h
  ·rename_i h1; rw [beq_true h1, beq_true h]
  ·cases h
 | .tmp _ _, .cell _ _, h => by cases h
 | .cell _ _, .tmp _ _, h => by cases h
theorem eqSrc_eq {a b : Src} (h : eqSrc a b = true) : a = b := by
 cases a <;> cases b <;> simp only [eqSrc, Bool.and_eq_true] at h <;> first | (cases h; done) | rw [rootIs_eq h.1, eqSub_eq h.2] | rw [beq_true h]
theorem eqPs_eq : ∀ {a b : List (Nat × Nat)}, eqPs a b = true -> a = b
 | [], [], _ => rfl
 | (a, b) :: r, (a', b') :: r', h => by simp only [eqPs, Bool.and_eq_true] at h; rw [beq_true h.1.1, beq_true h.1.2, eqPs_eq h.2]
 | [], _ :: _, h => by cases h
 | _ :: _, [], h => by cases h
theorem ifB_ok {γ : Type} {b : Bool} {x : Option γ} {r : γ} (h : ifB b x = some r) : b = true /\ x = some r := by
 cases b with
 | true => exact ⟨rfl, h⟩
 | false => cases h
theorem agU_ok {x y : U} {X : Option ρ} {r : ρ} (h : agU x y X = some r) : x = y /\ X = some r := by
 cases x <;> cases y <;> simp only [agU] at h <;> first | (cases h; done) | exact ⟨rfl, h⟩ | skip
 ·split at h
  ·rename_i hk; obtain ⟨rfl, h1⟩ := eqv_ok h; subst hk; exact ⟨rfl, h1⟩
  ·cases h
 ·obtain ⟨rfl, h1⟩ := eqv_ok h; exact ⟨rfl, h1⟩
 ·obtain ⟨rfl, h1⟩ := eqv_ok h; exact ⟨rfl, h1⟩
 ·obtain ⟨rfl, h1⟩ := eqv_ok h; exact ⟨rfl, h1⟩
 ·split at h
  ·rename_i hk; subst hk; obtain ⟨rfl, h1⟩ := eqv_ok h; exact ⟨rfl, h1⟩
  ·cases h
 ·obtain ⟨rfl, h1⟩ := eqv_ok h; exact ⟨rfl, h1⟩
theorem agUs_ok : ∀ {x y : List U} {X : Option ρ} {r : ρ}, agUs x y X = some r -> x = y /\ X = some r
 | [], [], X, r, h => ⟨rfl, h⟩
 | a :: x, b :: y, X, r, h => by
  obtain ⟨rfl, h1⟩ := agU_ok h; obtain ⟨rfl, h2⟩ := agUs_ok h1; exact ⟨rfl, h2⟩
 | [], _ :: _, _, _, h => by cases h
 | _ :: _, [], _, _, h => by cases h
theorem agD_ok {c c' : C} {xs : List c.D} {ys : List c'.D} {X : Option ρ} {r : ρ} (h : (if h : c' = c then eqv xs (h ▸ ys) X else none) = some r) : (⟨c, xs⟩ : (c : C) × List c.D) = ⟨c', ys⟩ /\ X = some r := by
 split at h
 ·rename_i hk; subst hk; obtain ⟨rfl, h1⟩ := eqv_ok h; exact ⟨rfl, h1⟩
 ·cases h
theorem agLf_ok : ∀ {x y : Leaf} {X : Option ρ} {r : ρ}, agLf x y X = some r -> x = y /\ X = some r
 | .t x, .t y, X, r, h => by obtain ⟨rfl, h1⟩ := agU_ok h; exact ⟨rfl, h1⟩
 | .und, .und, X, r, h => ⟨rfl, h⟩
 | .ow x, .ow y, X, r, h => by obtain ⟨rfl, h1⟩ := agU_ok h; exact ⟨rfl, h1⟩
 | .owh c xs hs, .owh c' ys hs', X, r, h => by
  obtain ⟨h1, h3⟩ := ifB_ok h; obtain ⟨h2, h4⟩ := agD_ok h3; cases h2; rw [eqPs_eq h1]; exact ⟨rfl, h4⟩
 | .al r0 s, .al r' s', X, r, h => by
  obtain ⟨h1, h⟩ := ifB_ok h; simp only [Bool.and_eq_true] at h1; rw [rootIs_eq h1.1, eqSub_eq h1.2]; exact ⟨rfl, h⟩
 | .ep r0 i j, .ep r' i' j', X, r, h => by
  obtain ⟨h1, h⟩ := ifB_ok h; simp only [Bool.and_eq_true] at h1; obtain ⟨rfl, h4⟩ := eqv_ok h; rw [rootIs_eq h1.1, beq_true h1.2]; exact ⟨rfl, h4⟩
 | .vw s c xs, .vw s' c' ys, X, r, h => by
  obtain ⟨h1, h3⟩ := ifB_ok h; obtain ⟨h2, h4⟩ := agD_ok h3; cases h2; rw [eqSrc_eq h1]; exact ⟨rfl, h4⟩
 | .vp s cs, .vp s' cs', X, r, h => by
  obtain ⟨h1, h⟩ := ifB_ok h; obtain ⟨rfl, h4⟩ := agUs_ok h; rw [eqSrc_eq h1]; exact ⟨rfl, h4⟩
 | .bp a o, .bp a' o', X, r, h => by
  obtain ⟨h1, h⟩ := ifB_ok h; simp only [Bool.and_eq_true] at h1; rw [beq_true h1.1, beq_true h1.2]; exact ⟨rfl, h⟩
 | .fn _ _, .fn _ _, _, _, h => by cases h
 | .t _, .und, _, _, h => by cases h
 | .t _, .ow _, _, _, h => by cases h
 | .t _, .owh _ _ _, _, _, h => by cases h
 | .t _, .al _ _, _, _, h => by cases h
 | .t _, .ep _ _ _, _, _, h => by cases h
 | .t _, .vw _ _ _, _, _, h => by cases h
 | .t _, .vp _ _, _, _, h => by cases h
 | .t _, .bp _ _, _, _, h => by cases h
 | .t _, .fn _ _, _, _, h => by cases h
 | .und, .t _, _, _, h => by cases h
 | .und, .ow _, _, _, h => by cases h
 | .und, .owh _ _ _, _, _, h => by cases h
 | .und, .al _ _, _, _, h => by cases h
 | .und, .ep _ _ _, _, _, h => by cases h
 | .und, .vw _ _ _, _, _, h => by cases h
 | .und, .vp _ _, _, _, h => by cases h
 | .und, .bp _ _, _, _, h => by cases h
 | .und, .fn _ _, _, _, h => by cases h
 | .ow _, .t _, _, _, h => by cases h
 | .ow _, .und, _, _, h => by cases h
 | .ow _, .owh _ _ _, _, _, h => by cases h
 | .ow _, .al _ _, _, _, h => by cases h
 | .ow _, .ep _ _ _, _, _, h => by cases h
 | .ow _, .vw _ _ _, _, _, h => by cases h
 | .ow _, .vp _ _, _, _, h => by cases h
 | .ow _, .bp _ _, _, _, h => by cases h
 | .ow _, .fn _ _, _, _, h => by cases h
 | .owh _ _ _, .t _, _, _, h => by cases h
 | .owh _ _ _, .und, _, _, h => by cases h
 | .owh _ _ _, .ow _, _, _, h => by cases h
 | .owh _ _ _, .al _ _, _, _, h => by cases h
 | .owh _ _ _, .ep _ _ _, _, _, h => by cases h
 | .owh _ _ _, .vw _ _ _, _, _, h => by cases h
 | .owh _ _ _, .vp _ _, _, _, h => by cases h
 | .owh _ _ _, .bp _ _, _, _, h => by cases h
 | .owh _ _ _, .fn _ _, _, _, h => by cases h
 | .al _ _, .t _, _, _, h => by cases h
 | .al _ _, .und, _, _, h => by cases h
 | .al _ _, .ow _, _, _, h => by cases h
 | .al _ _, .owh _ _ _, _, _, h => by cases h
 | .al _ _, .ep _ _ _, _, _, h => by cases h
 | .al _ _, .vw _ _ _, _, _, h => by cases h
 | .al _ _, .vp _ _, _, _, h => by cases h
 | .al _ _, .bp _ _, _, _, h => by cases h
 | .al _ _, .fn _ _, _, _, h => by cases h
 | .ep _ _ _, .t _, _, _, h => by cases h
 | .ep _ _ _, .und, _, _, h => by cases h
 | .ep _ _ _, .ow _, _, _, h => by cases h
 | .ep _ _ _, .owh _ _ _, _, _, h => by cases h
 | .ep _ _ _, .al _ _, _, _, h => by cases h
 | .ep _ _ _, .vw _ _ _, _, _, h => by cases h
 | .ep _ _ _, .vp _ _, _, _, h => by cases h
 | .ep _ _ _, .bp _ _, _, _, h => by cases h
 | .ep _ _ _, .fn _ _, _, _, h => by cases h
 | .vw _ _ _, .t _, _, _, h => by cases h
 | .vw _ _ _, .und, _, _, h => by cases h
 | .vw _ _ _, .ow _, _, _, h => by cases h
 | .vw _ _ _, .owh _ _ _, _, _, h => by cases h
 | .vw _ _ _, .al _ _, _, _, h => by cases h
 | .vw _ _ _, .ep _ _ _, _, _, h => by cases h
 | .vw _ _ _, .vp _ _, _, _, h => by cases h
 | .vw _ _ _, .bp _ _, _, _, h => by cases h
 | .vw _ _ _, .fn _ _, _, _, h => by cases h
 | .vp _ _, .t _, _, _, h => by cases h
 | .vp _ _, .und, _, _, h => by cases h
 | .vp _ _, .ow _, _, _, h => by cases h
 | .vp _ _, .owh _ _ _, _, _, h => by cases h
 | .vp _ _, .al _ _, _, _, h => by cases h
 | .vp _ _, .ep _ _ _, _, _, h => by cases h
 | .vp _ _, .vw _ _ _, _, _, h => by cases h
 | .vp _ _, .bp _ _, _, _, h => by cases h
 | .vp _ _, .fn _ _, _, _, h => by cases h
 | .bp _ _, .t _, _, _, h => by cases h
 | .bp _ _, .und, _, _, h => by cases h
 | .bp _ _, .ow _, _, _, h => by cases h
 | .bp _ _, .owh _ _ _, _, _, h => by cases h
 | .bp _ _, .al _ _, _, _, h => by cases h
 | .bp _ _, .ep _ _ _, _, _, h => by cases h
 | .bp _ _, .vw _ _ _, _, _, h => by cases h
 | .bp _ _, .vp _ _, _, _, h => by cases h
 | .bp _ _, .fn _ _, _, _, h => by cases h
 | .fn _ _, .t _, _, _, h => by cases h
 | .fn _ _, .und, _, _, h => by cases h
 | .fn _ _, .ow _, _, _, h => by cases h
 | .fn _ _, .owh _ _ _, _, _, h => by cases h
 | .fn _ _, .al _ _, _, _, h => by cases h
 | .fn _ _, .ep _ _ _, _, _, h => by cases h
 | .fn _ _, .vw _ _ _, _, _, h => by cases h
 | .fn _ _, .vp _ _, _, _, h => by cases h
 | .fn _ _, .bp _ _, _, _, h => by cases h
theorem agLs_ok : ∀ {x y : List Leaf} {X : Option ρ} {r : ρ}, agLs x y X = some r -> x = y /\ X = some r
 | [], [], X, r, h => ⟨rfl, h⟩
 | a :: x, b :: y, X, r, h => by
  obtain ⟨rfl, h1⟩ := agLf_ok h; obtain ⟨rfl, h2⟩ := agLs_ok h1; exact ⟨rfl, h2⟩
 | [], _ :: _, _, _, h => by cases h
 | _ :: _, [], _, _, h => by cases h
theorem blt_ltK {a b : Nat} (h : Nat.blt a b = true) : a < b := by simp [Nat.blt] at h; omega
theorem agE_ok {v : Nat} {P : Nat -> Ent -> Prop} (hP : ∀ k e e', P k e -> P k e' -> e = e') : ∀ {x y : List (Nat × Ent)} {X : Option ρ} {r : ρ}, (∀ k e, (k, e) ∈ x -> e.ver < v -> P k e) -> (∀ k e, (k, e) ∈ y -> e.ver < v -> P k e) -> agE v x y X = some r -> fgE R x = fgE R y /\ X = some r
 | [], [], X, r, _, _, h => ⟨rfl, h⟩
 | (k, e) :: x, (k', e') :: y, X, r, hx, hy, h => by
  simp only [agE] at h; split at h
  ·rename_i hk; have := beq_true hk; subst this; split at h
   ·rename_i hv; simp only [Bool.and_eq_true] at hv; have := hP k e e' (hx k e (List.mem_cons_self ..) (blt_ltK hv.1)) (hy k e' (List.mem_cons_self ..) (blt_ltK hv.2)); subst this; obtain ⟨h1, h2⟩ := agE_ok hP (fun k e hm => hx k e (List.mem_cons_of_mem _ hm)) (fun k e hm => hy k e (List.mem_cons_of_mem _ hm)) h; exact ⟨by unfold fgE at h1 ⊢; rw [List.map_cons, List.map_cons, h1], h2⟩
   ·obtain ⟨h3, h⟩ := ifB_ok h; obtain ⟨h4, h⟩ := agLs_ok h; obtain ⟨h1, h2⟩ := agE_ok hP (fun k e hm => hx k e (List.mem_cons_of_mem _ hm)) (fun k e hm => hy k e (List.mem_cons_of_mem _ hm)) h; exact ⟨by unfold fgE at h1 ⊢; rw [List.map_cons, List.map_cons, h1]; simp only [Ent.fg, eqSh_eq h3, h4], h2⟩
  ·cases h
 | [], _ :: _, _, _, _, _, h => by cases h
 | _ :: _, [], _, _, _, _, h => by cases h
theorem agB_ok {v : Nat} {P : Nat -> Bx -> Prop} (hP : ∀ k e e', P k e -> P k e' -> e = e') : ∀ {x y : List (Nat × Bx)} {X : Option ρ} {r : ρ}, (∀ k e, (k, e) ∈ x -> e.ver < v -> P k e) -> (∀ k e, (k, e) ∈ y -> e.ver < v -> P k e) -> agB v x y X = some r -> fgB R x = fgB R y /\ X = some r
 | [], [], X, r, _, _, h => ⟨rfl, h⟩
 | (k, e) :: x, (k', e') :: y, X, r, hx, hy, h => by
  simp only [agB] at h; split at h
  ·rename_i hk; have := beq_true hk; subst this; split at h
   ·rename_i hv; simp only [Bool.and_eq_true] at hv; have := hP k e e' (hx k e (List.mem_cons_self ..) (blt_ltK hv.1)) (hy k e' (List.mem_cons_self ..) (blt_ltK hv.2)); subst this; obtain ⟨h1, h2⟩ := agB_ok hP (fun k e hm => hx k e (List.mem_cons_of_mem _ hm)) (fun k e hm => hy k e (List.mem_cons_of_mem _ hm)) h; exact ⟨by unfold fgB at h1 ⊢; rw [List.map_cons, List.map_cons, h1], h2⟩
   ·obtain ⟨h4, h⟩ := agLs_ok h; obtain ⟨h1, h2⟩ := agB_ok hP (fun k e hm => hx k e (List.mem_cons_of_mem _ hm)) (fun k e hm => hy k e (List.mem_cons_of_mem _ hm)) h; exact ⟨by unfold fgB at h1 ⊢; rw [List.map_cons, List.map_cons, h1, h4], h2⟩
  ·cases h
 | [], _ :: _, _, _, _, _, h => by cases h
 | _ :: _, [], _, _, _, _, h => by cases h
theorem keyIn_of {α : Type} {k : Nat} {e : α} : ∀ {l : List (Nat × α)}, (k, e) ∈ l -> keyIn k l = true
 | (j, x) :: l, h => by
  simp only [keyIn]; cases hb : Nat.beq j k with
  | true => rfl
  | false =>
   rcases List.mem_cons.1 h with h | h
   ·cases h; rw [Nat.beq_refl] at hb; cases hb
   ·exact keyIn_of h
theorem noDup_get {α : Type} {k : Nat} {e : α} : ∀ {l : List (Nat × α)}, noDup l = true -> (k, e) ∈ l -> get l k = some e
 | (j, x) :: l, hd, h => by
  simp only [noDup, Bool.and_eq_true, Bool.not_eq_true'] at hd; simp only [get]; rcases List.mem_cons.1 h with h | h
  ·cases h; rw [Nat.beq_refl]
  ·cases hb : Nat.beq j k with
   | true => rw [beq_true hb, keyIn_of h] at hd; cases hd.1
   | false => exact noDup_get hd.2 h
theorem agS_ok {S A B : St} {X : Option ρ} {r : ρ} (hA : Keeps S A) (hB : Keeps S B) (h : agS S.nv A B X = some r) : A.fg R = B.fg R /\ X = some r := by
 obtain ⟨h1, h⟩ := ifB_ok h; simp only [Bool.and_eq_true] at h1; obtain ⟨⟨⟨n1, n2⟩, n3⟩, n4⟩ := h1; obtain ⟨e1, h⟩ := agE_ok (R := R) (P := fun k e => get S.tm k = some e) (fun k e e' h h' => by rw [h] at h'; exact Option.some.inj h') (fun k e hm hv => hA.tm k e (noDup_get n1 hm) hv) (fun k e hm hv => hB.tm k e (noDup_get n2 hm) hv) h; obtain ⟨e2, h⟩ := agB_ok (R := R) (P := fun k e => get S.bx k = some e) (fun k e e' h h' => by rw [h] at h'; exact Option.some.inj h') (fun k e hm hv => hA.bx k e (noDup_get n3 hm) hv) (fun k e hm hv => hB.bx k e (noDup_get n4 hm) hv) h; exact ⟨by simp only [St.fg, e1, e2, hA.pin, hB.pin], h⟩
theorem evr_ok : ∀ {x : YRun R} {S : St} {K : St -> Option ρ} {r : ρ}, evr x S K = some r ->
 ∃ S', Keeps S S' /\ K S' = some r /\ ∀ N : Lv.St -> Prop, N (S'.fg R) -> runK Runs x.er (S.fg R) N
 | .nil, S, K, r, h => ⟨S, Keeps.refl _, h, fun N hN => hN⟩
 | .dr ds x, S, K, r, h => by
  obtain ⟨S', h1, h2, h3⟩ := evr_ok (x := x) h; refine ⟨S', (Keeps.dropS _ _).trans h1, h2, fun N hN => ?_⟩; have := h3 N hN; rw [dropS_fg] at this; exact this
 | .nl ns x, S, K, r, h => by
  obtain ⟨S', h1, h2, h3⟩ := evr_ok (x := x) h; refine ⟨S', (Keeps.nilS _ _).trans h1, h2, fun N hN => ?_⟩; have := h3 N hN; rw [nilS_fg] at this; exact this
 | .both n a b, S, K, r, h => by
  have h : evr a S (fun A => evr b S fun B => agS S.nv A B (K A)) = some r := by
   cases n with
   | zero => exact h
   | succ n => simpa only [evr, alt_def] using h
  obtain ⟨A, a1, a2, a3⟩ := evr_ok (x := a) (K := fun A => evr b S fun B => agS S.nv A B (K A)) h; obtain ⟨B, b1, b2, b3⟩ := evr_ok (x := b) (K := fun B => agS S.nv A B (K A)) a2; obtain ⟨e, h2⟩ := agS_ok (R := R) a1 b1 b2; exact ⟨A, a1, h2, fun N hN => ⟨a3 N hN, b3 N (e ▸ hN)⟩⟩
 | .op i g sf o x, S, K, r, h => by
  have safe : ∀ {S : St}, (if safeK o S sf = true then ev o S fun S' => S'.force fun S' => evr x S' K else none) = some r ->
   ∃ S', Keeps S S' /\ evr x S' K = some r /\ ∀ N : Lv.St -> Prop, N (S'.fg R) -> (Lv.safeK o.er (S.fg R) sf = true /\ opK Runs o.er (S.fg R) N) := by
   intro S h; split at h
   ·rename_i hs; obtain ⟨S', h1, h2, h3⟩ := ev_ok h; rw [force_eq] at h2; exact ⟨S', h1, h2, fun N hN => ⟨safeK_fg hs, h3 N hN⟩⟩
   ·cases h
  have key : ∃ S', Keeps S S' /\ evr x S' K = some r /\ ∀ N : Lv.St -> Prop, N (S'.fg R) -> ∃ b, Lv.wanted (S.fg R) g = some b /\ ((b = true /\ Lv.safeK o.er (S.fg R) sf = true /\ opK Runs o.er (S.fg R) N) ∨ (b = false /\ ∃ S', Lv.skipO o.er (S.fg R) = some S' /\ N S')) := by
   simp only [evr, ifB_eq] at h; split at h
   ·obtain ⟨S', h1, h2, h3⟩ := safe h; exact ⟨S', h1, h2, fun N hN => ⟨true, rfl, .inl ⟨rfl, h3 N hN⟩⟩⟩
   ·rename_i s w; split at h
    ·rename_i b v hg; rcases br_eq h with ⟨rfl, h'⟩ | ⟨rfl, h'⟩
     ·refine branch_ok (K := fun S' => evr x S' K) (P := fun S N => Lv.safeK o.er S sf = true /\ opK Runs o.er S N) hg w (by cases w <;> rfl) (f := if safeK o (S.lit s true) sf = true then ev o (S.lit s true) fun S' => S'.force fun S' => evr x S' K else none) ?_ fun hf => safe hf
      simpa only [force_eq] using h'
     ·refine branch_ok (K := fun S' => evr x S' K) (P := fun S N => Lv.safeK o.er S sf = true /\ opK Runs o.er S N) hg (!w) (by cases w <;> rfl) (f := if safeK o (S.lit s false) sf = true then ev o (S.lit s false) fun S' => S'.force fun S' => evr x S' K else none) ?_ fun hf => safe hf
      simpa only [force_eq] using h'
    ·rename_i v hg; simp only [force_eq] at h; obtain ⟨S', h1, h2, h3⟩ := skipO_ok (R := R) h; exact ⟨S', h2, h3, fun N hN => ⟨false, want_und hg, .inr ⟨rfl, _, h1, hN⟩⟩⟩
    ·cases h
  obtain ⟨S1, h1, h2, h3⟩ := key; obtain ⟨S2, h4, h5, h6⟩ := evr_ok (x := x) h2; exact ⟨S2, h1.trans h4, h5, fun N hN => h3 _ (h6 N hN)⟩
end
end Y
end Lv
namespace Lv
open Go (IntKind BinOp UnOp)
namespace Y
section
variable {R : List GF} {ρ : Type}
theorem leafU_eq {s : Option Src} {l : Leaf} {x : U} (h : leafU s l = some x) : leafS s x = l := by
 unfold leafU at h; split at h
 ·cases h
 ·cases h
 ·cases h
 ·rename_i h1 h2 h3; cases h; cases s <;> cases x <;> first | rfl | (exact (h1 _ _ rfl).elim) | (exact (h2 rfl).elim) | (exact (h3 _ rfl).elim)
 ·split at h
  ·cases h; rfl
  ·cases h
 ·split at h
  ·cases h; rfl
  ·cases h
 ·split at h
  ·cases h
  ·split at h
   ·rename_i hq; subst hq; cases h; rfl
   ·cases h
 ·cases h
theorem leafUs_eq {s : Option Src} : ∀ {ls : List Leaf} {us : List U}, leafUs s ls = some us -> us.map (leafS s) = ls
 | [], us, h => by cases h; rfl
 | l :: ls, us, h => by
  simp only [leafUs] at h; split at h
  ·rename_i x xs h1 h2; cases h; rw [List.map_cons, leafU_eq h1, leafUs_eq h2]
  ·cases h
theorem un_eq {a : AL} {ls : List Leaf} {x : a.D} (h : a.un ls = some x) : a.leaf x = ls := by
 cases a with
 | val c s =>
  simp only [AL.un] at h; split at h
  ·rename_i us hu; simp only [AL.leaf]; rw [ofC_cells h, leafUs_eq hu]
  ·cases h
 | num k =>
  simp only [AL.un] at h; split at h
  ·split at h
   ·rename_i hk; subst hk; cases h; rfl
   ·cases h
  ·cases h
 | al r =>
  simp only [AL.un] at h; split at h
  ·split at h
   ·rename_i hk; subst hk; rfl
   ·cases h
  ·cases h
theorem unls_eq : ∀ {as : List AL} {ls : List Leaf} {x : TA as}, unls as ls = some x -> leafs as x = ls
 | [], ls, x, h => by
  cases ls with
  | nil => rfl
  | cons l ls => cases h
 | [a], ls, x, h => un_eq h
 | a :: a' :: as, ls, x, h => by
  simp only [unls] at h; split at h
  ·rename_i y z h1 h2; cases h; show a.leaf y ++ leafs (a' :: as) z = ls; rw [un_eq h1, unls_eq h2, List.take_append_drop]
  ·cases h
theorem look_none {b : Bool} {k : Nat} : ∀ {c : Cut} {ls : List Leaf}, vkey b k c = false -> look b k (seg c ls) = none
 | [], ls, h => rfl
 | (b', d, sh, as) :: c, ls, h => by
  simp only [vkey] at h; simp only [seg, look]; split at h
  ·cases h
  ·exact look_none h
theorem gather_tm {S : St} {k : Nat} : ∀ {c : Cut} {ls : List Leaf}, gather S c = some ls -> vkey false k c = true -> ∃ e, get S.tm k = some e /\ look false k (seg c ls) = some (e.sh, e.cs)
 | [], ls, h, hv => by cases hv
 | (false, d, sh, as) :: c, ls, h, hv => by
  simp only [gather] at h; split at h
  ·rename_i e ls' h1 h2; split at h
   ·rename_i hc; cases h; simp only [vkey] at hv; simp only [seg, look]; split at hv
    ·rename_i hm; have hd : d = k := by simpa [beq_dec] using hm
     subst hd; refine ⟨e, h1, ?_⟩; rw [List.take_left' hc.2, shEq_eq hc.1]
    ·rename_i hm; rw [List.drop_left' hc.2]; exact gather_tm h2 hv
   ·cases h
  ·cases h
 | (true, d, sh, as) :: c, ls, h, hv => by
  simp only [gather] at h; split at h
  ·rename_i e ls' h1 h2; split at h
   ·rename_i hc; cases h; have ht : ((true : Bool) == false) = false := rfl; simp only [vkey, ht, Bool.false_and] at hv; simp only [seg, look, ht, Bool.false_and]; rw [List.drop_left' hc]; exact gather_tm h2 hv
   ·cases h
  ·cases h
theorem gather_bx {S : St} {k : Nat} : ∀ {c : Cut} {ls : List Leaf}, gather S c = some ls -> vkey true k c = true -> ∃ e sh, get S.bx k = some e /\ look true k (seg c ls) = some (sh, e.cs)
 | [], ls, h, hv => by cases hv
 | (true, d, sh, as) :: c, ls, h, hv => by
  simp only [gather] at h; split at h
  ·rename_i e ls' h1 h2; split at h
   ·rename_i hc; cases h; simp only [vkey] at hv; simp only [seg, look]; split at hv
    ·rename_i hm; have hd : d = k := by simpa [beq_dec] using hm
     subst hd; refine ⟨e, sh, h1, ?_⟩; rw [List.take_left' hc]
    ·rename_i hm; rw [List.drop_left' hc]; exact gather_bx h2 hv
   ·cases h
  ·cases h
 | (false, d, sh, as) :: c, ls, h, hv => by
  simp only [gather] at h; split at h
  ·rename_i e ls' h1 h2; split at h
   ·rename_i hc; cases h; have ht : ((false : Bool) == true) = false := rfl; simp only [vkey, ht, Bool.false_and] at hv; simp only [seg, look, ht, Bool.false_and]; rw [List.drop_left' hc.2]; exact gather_bx h2 hv
   ·cases h
  ·cases h
theorem rebE_fg {q : List (Bool × Nat × Sh × List Leaf)} {a : List (Nat × Ent)} {v : Nat} : ∀ {l : List (Nat × Ent)}, (∀ k e, (k, e) ∈ l -> look false k q = some (e.sh, e.cs) ∨ (look false k q = none /\ get a k = some e)) -> fgE R (rebE q a v l) = fgE R l
 | [], _ => rfl
 | (k, e) :: l, h => by
  have ih := rebE_fg (v := v) (l := l) (fun k e hm => h k e (List.mem_cons_of_mem _ hm)); simp only [fgE, rebE, List.map_cons] at ih ⊢; rw [ih]; rcases h k e (by simp) with h1 | ⟨h1, h2⟩
  ·rw [h1]; rfl
  ·rw [h1, h2]
theorem rebB_fg {q : List (Bool × Nat × Sh × List Leaf)} {a : List (Nat × Bx)} {v : Nat} : ∀ {l : List (Nat × Bx)}, (∀ k e, (k, e) ∈ l -> (∃ sh, look true k q = some (sh, e.cs)) ∨ (look true k q = none /\ get a k = some e)) -> fgB R (rebB q a v l) = fgB R l
 | [], _ => rfl
 | (k, e) :: l, h => by
  have ih := rebB_fg (v := v) (l := l) (fun k e hm => h k e (List.mem_cons_of_mem _ hm)); simp only [fgB, rebB, List.map_cons] at ih ⊢; rw [ih]; rcases h k e (by simp) with ⟨sh, h1⟩ | ⟨h1, h2⟩
  ·rw [h1]
  ·rw [h1, h2]
theorem keyIn_mem {α : Type} {k : Nat} {e : α} : ∀ {l : List (Nat × α)}, (k, e) ∈ l -> keyIn k l = true
 | (j, x) :: l, h => by
  simp only [keyIn]; cases hb : Nat.beq j k with
  | true => rfl
  | false =>
   rcases List.mem_cons.1 h with h | h
   ·cases h; exact (beq_false hb rfl).elim
   ·exact keyIn_mem h
theorem sameE_mem {c : Cut} {a : List (Nat × Ent)} : ∀ {l : List (Nat × Ent)} {k : Nat} {e : Ent}, sameE c a l = true -> (k, e) ∈ l -> get l k = some e /\ (vkey false k c = true ∨ (vkey false k c = false /\ ∃ e', get a k = some e' /\ e.ver = e'.ver))
 | (j, x) :: l, k, e, h, hm => by
  simp only [sameE, Bool.and_eq_true, Bool.not_eq_true'] at h; obtain ⟨⟨h1, h2⟩, h3⟩ := h; rcases List.mem_cons.1 hm with hm | hm
  ·obtain ⟨rfl, rfl⟩ := Prod.mk.injEq _ _ _ _ ▸ hm; refine ⟨by simp only [get]; rw [show Nat.beq k k = true from by simp [beq_dec]], ?_⟩; cases hv : vkey false k c with
   | true => exact .inl rfl
   | false =>
    rw [hv] at h1; dsimp only at h1; split at h1
    ·rename_i e' he; exact .inr ⟨rfl, e', he, beq_true h1⟩
    ·cases h1
  ·obtain ⟨h4, h5⟩ := sameE_mem h3 hm; refine ⟨?_, h5⟩; simp only [get]; cases hb : Nat.beq j k with
   | true => rw [beq_true hb, keyIn_mem hm] at h2; cases h2
   | false => exact h4
theorem sameB_mem {c : Cut} {a : List (Nat × Bx)} : ∀ {l : List (Nat × Bx)} {k : Nat} {e : Bx}, sameB c a l = true -> (k, e) ∈ l -> get l k = some e /\ (vkey true k c = true ∨ (vkey true k c = false /\ ∃ e', get a k = some e' /\ e.ver = e'.ver))
 | (j, x) :: l, k, e, h, hm => by
  simp only [sameB, Bool.and_eq_true, Bool.not_eq_true'] at h; obtain ⟨⟨h1, h2⟩, h3⟩ := h; rcases List.mem_cons.1 hm with hm | hm
  ·obtain ⟨rfl, rfl⟩ := Prod.mk.injEq _ _ _ _ ▸ hm; refine ⟨by simp only [get]; rw [show Nat.beq k k = true from by simp [beq_dec]], ?_⟩; cases hv : vkey true k c with
   | true => exact .inl rfl
   | false =>
    rw [hv] at h1; dsimp only at h1; split at h1
    ·rename_i e' he; exact .inr ⟨rfl, e', he, beq_true h1⟩
    ·cases h1
  ·obtain ⟨h4, h5⟩ := sameB_mem h3 hm; refine ⟨?_, h5⟩; simp only [get]; cases hb : Nat.beq j k with
   | true => rw [beq_true hb, keyIn_mem hm] at h2; cases h2
   | false => exact h4
theorem blt_lt {a b : Nat} (h : Nat.blt a b = true) : a < b := Nat.le_of_ble_eq_true h
theorem wfE_get {v : Nat} : ∀ {l : List (Nat × Ent)} {k : Nat} {e : Ent}, wfE v l = true -> get l k = some e -> e.ver < v
 | (j, x) :: l, k, e, h, hg => by
  simp only [wfE, Bool.and_eq_true] at h; simp only [get] at hg; split at hg
  ·cases hg; exact blt_lt h.1
  ·exact wfE_get h.2 hg
theorem wfB_get {v : Nat} : ∀ {l : List (Nat × Bx)} {k : Nat} {e : Bx}, wfB v l = true -> get l k = some e -> e.ver < v
 | (j, x) :: l, k, e, h, hg => by
  simp only [wfB, Bool.and_eq_true] at h; simp only [get] at hg; split at hg
  ·cases hg; exact blt_lt h.1
  ·exact wfB_get h.2 hg
structure Held (c : Cut) (S S' : St) : Prop where
 tm : ∀ k e, vkey false k c = false -> get S'.tm k = some e -> e.ver < S.nv -> get S.tm k = some e
 bx : ∀ k e, vkey true k c = false -> get S'.bx k = some e -> e.ver < S.nv -> get S.bx k = some e
 pin : S'.pin = S.pin
theorem Held.of {c : Cut} {S S' : St} (h : Keeps S S') : Held c S S' := ⟨fun k e _ => h.tm k e, fun k e _ => h.bx k e, h.pin⟩
theorem fit_fg {c : Cut} {S S' : St} {x : TA c.as} (h : c.fit S S' = some x) (hh : Held c S S') :
 (c.st S S' x).fg R = S'.fg R /\
 (∀ k e, (k, e) ∈ S'.tm -> look false k (seg c (leafs c.as x)) = some (e.sh, e.cs) ∨ (look false k (seg c (leafs c.as x)) = none /\ get S.tm k = some e)) /\
 (∀ k e, (k, e) ∈ S'.bx -> (∃ sh, look true k (seg c (leafs c.as x)) = some (sh, e.cs)) ∨ (look true k (seg c (leafs c.as x)) = none /\ get S.bx k = some e)) := by
 unfold Cut.fit at h; split at h
 ·rename_i hc; obtain ⟨w1, w2, s1, s2⟩ := hc; split at h
  ·rename_i ls hg; rw [unls_eq h]; have hE : ∀ k e, (k, e) ∈ S'.tm -> look false k (seg c ls) = some (e.sh, e.cs) ∨ (look false k (seg c ls) = none /\ get S.tm k = some e) := by
    intro k e hm; obtain ⟨h1, h2⟩ := sameE_mem s1 hm; rcases h2 with h2 | ⟨h2, e', h3, h4⟩
    ·obtain ⟨e2, h5, h6⟩ := gather_tm hg h2; rw [h1] at h5; cases h5; exact .inl h6
    ·exact .inr ⟨look_none h2, hh.tm k e h2 h1 (by rw [h4]; exact wfE_get w1 h3)⟩
   have hB : ∀ k e, (k, e) ∈ S'.bx -> (∃ sh, look true k (seg c ls) = some (sh, e.cs)) ∨ (look true k (seg c ls) = none /\ get S.bx k = some e) := by
    intro k e hm; obtain ⟨h1, h2⟩ := sameB_mem s2 hm; rcases h2 with h2 | ⟨h2, e', h3, h4⟩
    ·obtain ⟨e2, sh, h5, h6⟩ := gather_bx hg h2; rw [h1] at h5; cases h5; exact .inl ⟨sh, h6⟩
    ·exact .inr ⟨look_none h2, hh.bx k e h2 h1 (by rw [h4]; exact wfB_get w2 h3)⟩
   refine ⟨?_, hE, hB⟩; simp only [St.fg, Cut.st, unls_eq h]; rw [rebE_fg hE, rebB_fg hB, hh.pin]
  ·cases h
 ·cases h
theorem rebE_same {q : List (Bool × Nat × Sh × List Leaf)} {a : List (Nat × Ent)} {v : Nat} : ∀ {l l' : List (Nat × Ent)}, sameK l l' = true -> (∀ k e, (k, e) ∈ l' -> look false k q = some (e.sh, e.cs) ∨ (look false k q = none /\ get a k = some e)) -> rebE q a v l = rebE q a v l'
 | [], [], _, _ => rfl
 | [], _ :: _, h, _ => by cases h
 | _ :: _, [], h, _ => by cases h
 | (k, e) :: l, (k', e') :: l', h, hl => by
  simp only [sameK, Bool.and_eq_true] at h; obtain ⟨h1, h2⟩ := h; have := beq_true h1; subst this; have ih := rebE_same (v := v) h2 (fun k e hm => hl k e (List.mem_cons_of_mem _ hm)); simp only [rebE]; rw [ih]; rcases hl k e' (by simp) with h3 | ⟨h3, h4⟩
  ·rw [h3]
  ·rw [h3, h4]
theorem rebB_same {q : List (Bool × Nat × Sh × List Leaf)} {a : List (Nat × Bx)} {v : Nat} : ∀ {l l' : List (Nat × Bx)}, sameK l l' = true -> (∀ k e, (k, e) ∈ l' -> (∃ sh, look true k q = some (sh, e.cs)) ∨ (look true k q = none /\ get a k = some e)) -> rebB q a v l = rebB q a v l'
 | [], [], _, _ => rfl
 | [], _ :: _, h, _ => by cases h
 | _ :: _, [], h, _ => by cases h
 | (k, e) :: l, (k', e') :: l', h, hl => by
  simp only [sameK, Bool.and_eq_true] at h; obtain ⟨h1, h2⟩ := h; have := beq_true h1; subst this; have ih := rebB_same (v := v) h2 (fun k e hm => hl k e (List.mem_cons_of_mem _ hm)); simp only [rebB]; rw [ih]; rcases hl k e' (by simp) with ⟨sh, h3⟩ | ⟨h3, h4⟩
  ·rw [h3]
  ·rw [h3, h4]
theorem get_rebE {q : List (Bool × Nat × Sh × List Leaf)} {a : List (Nat × Ent)} {v k : Nat} (hq : look false k q = none) : ∀ {l : List (Nat × Ent)} {y : Ent}, get (rebE q a v l) k = some y -> ∃ e, get l k = some e /\ y = (match get a k with | some e' => e' | none => e)
 | (j, x) :: l, y, h => by
  simp only [rebE, get] at h ⊢; cases hb : Nat.beq j k with
  | true =>
   rw [hb] at h; have := beq_true hb; subst this; rw [hq] at h; exact ⟨x, rfl, (Option.some.inj h).symm⟩
  | false => rw [hb] at h; exact get_rebE hq h
theorem get_rebB {q : List (Bool × Nat × Sh × List Leaf)} {a : List (Nat × Bx)} {v k : Nat} (hq : look true k q = none) : ∀ {l : List (Nat × Bx)} {y : Bx}, get (rebB q a v l) k = some y -> ∃ e, get l k = some e /\ y = (match get a k with | some e' => e' | none => e)
 | (j, x) :: l, y, h => by
  simp only [rebB, get] at h ⊢; cases hb : Nat.beq j k with
  | true =>
   rw [hb] at h; have := beq_true hb; subst this; rw [hq] at h; exact ⟨x, rfl, (Option.some.inj h).symm⟩
  | false => rw [hb] at h; exact get_rebB hq h
theorem Held.round {c : Cut} {S S' : St} {x : TA c.as} (h : Keeps (c.st S S x) S') : Held c S S' := by
 refine ⟨fun k e hv hg hlt => ?_, fun k e hv hg hlt => ?_, h.pin⟩
 ·have h1 := h.tm k e hg (Nat.lt_succ_of_lt hlt); obtain ⟨e', h2, h3⟩ := get_rebE (look_none hv) h1; rw [h2] at h3; subst h3; exact h2
 ·have h1 := h.bx k e hg (Nat.lt_succ_of_lt hlt); obtain ⟨e', h2, h3⟩ := get_rebB (look_none hv) h1; rw [h2] at h3; subst h3; exact h2
theorem fit_round {c : Cut} {S S' : St} {y : TA c.as} (h : c.fit S S' = some y) (hh : Held c S S') (h1 : sameK S.tm S'.tm = true) (h2 : sameK S.bx S'.bx = true) : (c.st S S y).fg R = S'.fg R := by
 obtain ⟨h3, h4, h5⟩ := fit_fg (R := R) h hh; rw [<- h3]; simp only [St.fg, Cut.st]; rw [rebE_same h1 h4, rebB_same h2 h5]
theorem look_some {b : Bool} {k : Nat} : ∀ {c : Cut} {ls : List Leaf}, vkey b k c = true -> ∃ p, look b k (seg c ls) = some p
 | (b', d, sh, as) :: c, ls, h => by
  simp only [vkey] at h; simp only [seg, look]; split at h
  ·exact ⟨_, rfl⟩
  ·exact look_some h
theorem rebE_ver {q : List (Bool × Nat × Sh × List Leaf)} {a : List (Nat × Ent)} {v k : Nat} {p : Sh × List Leaf} (hp : look false k q = some p) : ∀ {l : List (Nat × Ent)} {y : Ent}, get (rebE q a v l) k = some y -> v <= y.ver
 | (j, z) :: l, y, h => by
  simp only [rebE, get] at h; cases hb : Nat.beq j k with
  | true =>
   rw [hb] at h; have := beq_true hb; subst this; rw [hp] at h; cases h; exact Nat.le_refl _
  | false => rw [hb] at h; exact rebE_ver hp h
theorem rebB_ver {q : List (Bool × Nat × Sh × List Leaf)} {a : List (Nat × Bx)} {v k : Nat} {p : Sh × List Leaf} (hp : look true k q = some p) : ∀ {l : List (Nat × Bx)} {y : Bx}, get (rebB q a v l) k = some y -> v <= y.ver
 | (j, z) :: l, y, h => by
  simp only [rebB, get] at h; cases hb : Nat.beq j k with
  | true =>
   rw [hb] at h; have := beq_true hb; subst this; rw [hp] at h; cases h; exact Nat.le_refl _
  | false => rw [hb] at h; exact rebB_ver hp h
theorem Keeps.st {c : Cut} {S S' : St} {x : TA c.as} (hk : Keeps S S') : Keeps S (c.st S S' x) := by
 refine ⟨by simp [Cut.st], fun k e he hv => ?_, fun k e he hv => ?_, rfl⟩
 ·cases hvk : vkey false k c with
  | false =>
   obtain ⟨e', h4, h5⟩ := get_rebE (look_none hvk) he; cases hg : get S.tm k with
   | some e2 => rw [hg] at h5; subst h5; rfl
   | none =>
    rw [hg] at h5; subst h5; have := hk.tm k _ h4 hv; rw [hg] at this; cases this
  | true =>
   obtain ⟨p, hp⟩ := look_some (ls := leafs c.as x) hvk; exact absurd hv (Nat.not_lt.2 (rebE_ver hp he))
 ·cases hvk : vkey true k c with
  | false =>
   obtain ⟨e', h4, h5⟩ := get_rebB (look_none hvk) he; cases hg : get S.bx k with
   | some e2 => rw [hg] at h5; subst h5; rfl
   | none =>
    rw [hg] at h5; subst h5; have := hk.bx k _ h4 hv; rw [hg] at this; cases this
  | true =>
   obtain ⟨p, hp⟩ := look_some (ls := leafs c.as x) hvk; exact absurd hv (Nat.not_lt.2 (rebB_ver hp he))
theorem code_ok : ∀ {x : YCode R} {S : St} {K : Ex -> St -> Option ρ} {r : ρ} {Q : Ex -> Lv.St -> Prop}, ycode x S K = some r -> (∀ e S', Keeps S S' -> K e S' = some r -> Q e (S'.fg R)) -> wp Runs x.er (S.fg R) Q
 | .skip, S, K, r, Q, h, hQ => hQ _ _ (Keeps.refl _) h
 | .region ops keep, S, K, r, Q, h, hQ => by
  obtain ⟨S', h1, h2, h3⟩ := evs_ok (show evs ops S _ = some r from h); rw [force_eq] at h2; refine h3 _ ⟨S'.clo 6 (S'.pin ++ keep), ?_⟩; rw [<- clean_fg]; exact hQ _ _ (h1.trans (Keeps.clean _ _)) h2
 | .dreg x keep, S, K, r, Q, h, hQ => by
  obtain ⟨S', h1, h2, h3⟩ := evr_ok (show evr x S _ = some r from h); rw [force_eq] at h2; refine h3 _ ⟨S'.clo 6 (S'.pin ++ keep), ?_⟩; rw [<- clean_fg]; exact hQ _ _ (h1.trans (Keeps.clean _ _)) h2
 | .seq a b, S, K, r, Q, h, hQ => by
  refine code_ok (x := a) (show ycode a S _ = some r from h) fun e S' hk h' => ?_
  cases e with
  | n => exact code_ok (x := b) h' fun e S2 hk2 h2 => hQ _ _ (hk.trans hk2) h2
  | x i => exact hQ _ _ hk h'
  | r => exact hQ _ _ hk h'
 | .join c a b, S, K, r, Q, h, hQ => by
  refine code_ok (x := a) (show ycode a S _ = some r from h) fun e S' hk h' => ?_
  cases e with
  | n =>
   dsimp only at h' ⊢; split at h'
   ·rename_i x hx; have h' : (c.st S S' x).force (fun S => ycode b S K) = some r := by rw [<- jn_def (fun x => (c.st S S' x).force fun S => ycode b S K) x]; exact h'
    rw [force_eq] at h'; obtain ⟨h3, _, _⟩ := fit_fg (R := R) hx (Held.of hk); rw [<- h3]; refine code_ok (x := b) h' fun e S2 hk2 h2 => hQ _ _ ?_ h2
    exact (Keeps.st hk).trans hk2
   ·cases h'
  | x i => exact hQ _ _ hk h'
  | r => exact hQ _ _ hk h'
 | .cond c kt ke t e, S, K, r, Q, h, hQ => by
  simp only [ycode] at h; split at h
  ·rename_i b hb; have hs := sc_fg (R := R) hb; simp only [YO.er, U.fg] at hs; rcases br_eq h with ⟨rfl, h'⟩ | ⟨rfl, h'⟩
   ·rw [force_eq] at h'; refine ⟨true, hs, S.clo 6 (S.pin ++ kt), ?_⟩; rw [if_pos rfl, <- clean_fg]; exact code_ok (x := t) h' fun e S2 hk2 h2 => hQ _ _ ((Keeps.clean _ _).trans hk2) h2
   ·rw [force_eq] at h'; refine ⟨false, hs, S.clo 6 (S.pin ++ ke), ?_⟩; rw [if_neg (by simp), <- clean_fg]; exact code_ok (x := e) h' fun e S2 hk2 h2 => hQ _ _ ((Keeps.clean _ _).trans hk2) h2
  ·cases h
 | .block id b, S, K, r, Q, h, hQ => by
  refine code_ok (x := b) (show ycode b S _ = some r from h) fun e S' hk h' => ?_
  cases e with
  | n => exact hQ _ _ hk h'
  | x i =>
   dsimp only at h' ⊢; split at h'
   ·rename_i hi; rw [if_pos hi]; exact hQ _ _ hk h'
   ·rename_i hi; rw [if_neg hi]; exact hQ _ _ hk h'
  | r => exact hQ _ _ hk h'
 | .loop c b, S, K, r, Q, h, hQ => by
  simp only [ycode] at h; split at h
  ·rename_i x0 hx0; have key : ∀ (n : Nat) (x : TA c.as), loopN (fun L x => (c.st S S x).force fun S1 => ycode b S1 fun e S' => match e with
    | .n => if sameK S.tm S'.tm = true /\ sameK S.bx S'.bx = true then (match c.fit S S' with | some y => L y | none => none) else none
    | .x i => K (.x i) S'
    | .r => K .r S') n x = some r -> loopK (wp Runs b.er) n ((c.st S S x).fg R) Q := by
    intro n
    induction n with
    | zero => intro x h; rw [loopN_z] at h; cases h
    | succ n ih =>
     intro x h; rw [loopN_s] at h; rw [force_eq] at h; refine code_ok (x := b) h fun e S' hk h' => ?_
     have hS : Keeps S (c.st S S x) := Keeps.st (Keeps.refl S); cases e with
     | n =>
      dsimp only at h' ⊢; split at h'
      ·rename_i hsk; split at h'
       ·rename_i y hy; rw [<- fit_round hy (Held.round hk) hsk.1 hsk.2]; exact ih y h'
       ·cases h'
      ·cases h'
     | x i => exact hQ _ _ (hS.trans hk) h'
     | r => exact hQ _ _ (hS.trans hk) h'
   refine ⟨big, ?_⟩; obtain ⟨h3, _, _⟩ := fit_fg (R := R) hx0 (Held.of (Keeps.refl S)); rw [<- h3]; exact key big x0 h
  ·cases h
 | .exit id, S, K, r, Q, h, hQ => hQ _ _ (Keeps.refl _) h
 | .ret, S, K, r, Q, h, hQ => hQ _ _ (Keeps.refl _) h
 | .scope b, S, K, r, Q, h, hQ => code_ok (x := b) (show ycode b S K = some r from h) hQ
end
end Y
end Lv
namespace Lv
open Go (IntKind BinOp UnOp)
namespace Y
section
variable {R : List GF} {ρ : Type}
def isStC : C -> Bool
 | .st _ => true
 | _ => false
def capOk : List (Bool × C) -> Bool
 | [] => true
 | (true, _) :: r => capOk r
 | (false, c) :: r => (!isStC c && decide (c ≠ .m)) && capOk r
def psOk : List PK -> Bool
 | [] => true
 | .f _ l :: r => capOk l && psOk r
 | _ :: r => psOk r
theorem capL_fg (i : Nat) : ∀ (l : List (Bool × C)) (x : CapD l), capOk l = true -> Lv.capL i (capsV l x) = some ((capL i l x).map Cap.fg)
 | [], x, h => rfl
 | (true, c) :: l, x, h => by
  have ih := capL_fg i l x.2 h; simp only [capsV, Lv.capL, capL, List.map_cons, Cap.fg]; rw [ih, enc_cells]; rfl
 | (false, c) :: l, x, h => by
  simp only [capOk, Bool.and_eq_true, Bool.not_eq_true', decide_eq_true_eq] at h; have ih := capL_fg i l x.2 h.2; cases c with
  | st n => cases h.1.1
  | m => exact (h.1.2 rfl).elim
  | _ =>
   simp only [capsV, enc, Lv.capL, capL, cells, List.map_cons, ih]; rfl
theorem shOk_enc (c : C) (x : c.D) : shOk (shC c) (enc c x).length = true := by
 rw [enc_len]; cases c <;> rfl
theorem initK_fg : ∀ (ks : List PK) (i : Nat) (fs : List Nat) (a : A ks) (S : St), psOk ks = true -> fs.map (fun n => (R[n]?).map GF.x) = (fX ks).map some ->
 Lv.initK i (ks.map PK.md) (aVs ks a) (S.fg R) = some ((initK i fs ks a S).fg R)
 | [], i, fs, a, S, _, _ => rfl
 | k :: ks, i, fs, a, S, hp, hf => by
  obtain ⟨a1, a2⟩ := a; cases k with
  | v c =>
   have hE : enc c a1 = (cells c a1).map U.fg := enc_cells c a1; have ih := initK_fg ks (i + 1) fs a2 (S.putT i (shC c) ((cells c a1).map (leafV i))) hp hf; rw [putT_fg, map_leafV, <- hE] at ih; exact ih
  | p c =>
   have hE : enc c a1 = (cells c a1).map U.fg := enc_cells c a1; have ih := initK_fg ks (i + 1) fs a2 (S.putT i .one [.vp (.old i) (cells c a1)]) hp hf; rw [putT_fg] at ih; simp only [List.map_cons, List.map_nil, Leaf.fg] at ih; rw [<- hE] at ih; exact ih
  | b c =>
   have hE : enc c a1 = (cells c a1).map U.fg := enc_cells c a1; have ih := initK_fg ks (i + 1) fs a2 (let S1 := (S.putT i .one [.bp i 0]).putB i ((cells c a1).map (leafV i)); ⟨S1.tm, S1.bx, i :: S1.pin, S1.nv⟩) hp hf; have e : (let S1 := (S.putT i .one [.bp i 0]).putB i ((cells c a1).map (leafV i)); (⟨S1.tm, S1.bx, i :: S1.pin, S1.nv⟩ : St)).fg R = { S.fg R with tm := Lv.put (S.fg R).tm i ⟨.one, [.bp i 0]⟩, bx := Lv.put (S.fg R).bx i ((enc c a1).map (Lv.leafV i)), pin := i :: (S.fg R).pin } := by
    have h1 := putB_fg (R := R) (S.putT i .one [.bp i 0]) i ((cells c a1).map (leafV i)); rw [putT_fg, map_leafV, <- hE] at h1; have h2 := congrArg Lv.St.tm h1; have h3 := congrArg Lv.St.bx h1; simp only [St.fg] at h2 h3 ⊢; rw [h2, h3]; rfl
   rw [e] at ih; exact ih
  | o c =>
   have hE : enc c a1 = (cells c a1).map U.fg := enc_cells c a1; have ih := initK_fg ks (i + 1) fs a2 (S.putT i (shC c) ((cells c a1).map leafO)) hp hf; rw [putT_fg, map_leafO, <- hE] at ih; exact ih
  | m c =>
   have hE : enc c a1 = (cells c a1).map U.fg := enc_cells c a1; have ih := initK_fg ks (i + 1) fs a2 (let S1 := S.putT i (shC c) ((cells c a1).map leafO); ⟨S1.tm, S1.bx, i :: S1.pin, S1.nv⟩) hp hf; have e : (let S1 := S.putT i (shC c) ((cells c a1).map leafO); (⟨S1.tm, S1.bx, i :: S1.pin, S1.nv⟩ : St)).fg R = { S.fg R with tm := Lv.put (S.fg R).tm i ⟨shC c, (enc c a1).map Lv.leafO⟩, pin := i :: (S.fg R).pin } := by
    have h1 := putT_fg (R := R) S i (shC c) ((cells c a1).map leafO); rw [map_leafO, <- hE] at h1; have h2 := congrArg Lv.St.tm h1; simp only [St.fg] at h2 ⊢; rw [h2]; rfl
   rw [e] at ih; have hs : shOk (shC c) (enc c a1).length = true := shOk_enc c a1; show (if shOk (shC c) (enc c a1).length = true then _ else none) = _; rw [if_pos hs]; exact ih
  | f x l =>
   simp only [psOk, Bool.and_eq_true] at hp; cases fs with
   | nil => simp [fX] at hf
   | cons n fs =>
    simp only [fX, List.map_cons, List.cons.injEq] at hf; have hx : xr R n = x := by
     unfold xr; cases hr : R[n]? with
     | none => rw [hr] at hf; simp at hf
     | some g => rw [hr] at hf; simpa using hf.1
    have ih := initK_fg ks (i + 1) fs a2 (S.putT i .one [.fn n (capL i l a1)]) hp.2 hf.2; rw [putT_fg] at ih; have hc : Lv.capL i (capsV l a1) = some ((capL i l a1).map Cap.fg) := capL_fg i l a1 hp.1; show (match Lv.capL i (capsV l a1) with | some ls => Lv.initK (i + 1) _ _ _ | none => none) = _; rw [hc]; simp only [List.map_cons, List.map_nil, Leaf.fg, hx] at ih; exact ih
theorem resL_ok : ∀ {rs : List XRes} {S : St} {K : List (Option Nat) -> List Leaf -> Option ρ} {r : ρ}, resL rs S K = some r -> ∃ ns ls, Lv.resL rs (S.fg R) = some (ns, ls.map (Leaf.fg R)) /\ K ns ls = some r
 | [], S, K, r, h => ⟨[], [], rfl, h⟩
 | .tmp t :: rs, S, K, r, h => by
  simp only [resL] at h; split at h
  ·rename_i e he; split at h
   ·rename_i hs; obtain ⟨ns, ls, h1, h2⟩ := resL_ok h; refine ⟨_, _, ?_, h2⟩; have := rd_fg (R := R) he; simp only [YO.er] at this; simp only [Lv.resL, this, h1, En.fg, List.length_map, hs, if_true, List.map_append]; rfl
   ·cases h
  ·cases h
 | .cell t n :: rs, S, K, r, h => by
  simp only [resL] at h; split at h
  ·rename_i id o he; obtain ⟨ls', h1, h⟩ := load_ok (R := R) h; obtain ⟨ns, ls, h2, h3⟩ := resL_ok h; refine ⟨_, _, ?_, h3⟩; have := one_fg (R := R) he; simp only [YO.er, Leaf.fg] at this h1; simp only [Lv.resL, this, h1, h2, List.map_append]
  ·cases h
 | .bx _ :: rs, S, K, r, h => by cases h
 | .vw _ _ :: rs, S, K, r, h => by cases h
theorem resS_ok {rk : RK} {rs : List XRes} {S : St} {K : St -> List U -> Option ρ} {r : ρ} (h : resS rk rs S K = some r) : ∃ S' us, Lv.resS rs (S.fg R) = some (S'.fg R, rk.sh, us.map U.fg) /\ K S' us = some r := by
 unfold resS at h; split at h
 ·rename_i k c t; split at h
  ·rename_i id he; have h1 := one_fg (R := R) he; simp only [YO.er, Leaf.fg] at h1; split at h
   ·rename_i ls hl; split at h
    ·cases h
    ·rename_i hp; split at h
     ·rename_i hk; split at h
      ·rename_i us hu; subst hk; refine ⟨S, us, ?_, h⟩; have hp' : id ∉ (S.fg R).pin := fun hh => hp (mem_iff.2 hh)
       simp only [Lv.resS, h1, fg_bx, hl, Option.map_some, labelOf_fg, bareTs_fg hu]; rw [if_neg hp']; rfl
      ·cases h
     ·cases h
   ·cases h
  ·cases h
 ·rename_i k c t k'; split at h
  ·rename_i hk; subst hk; split at h
   ·rename_i k'' c' xs he; have h1 := one_fg (R := R) he; simp only [YO.er, Leaf.fg] at h1; split at h
    ·rename_i hk; subst hk; exact ⟨S, _, by simp only [Lv.resS, h1, if_true]; rfl, h⟩
    ·cases h
   ·rename_i q sub he; have h1 := one_fg (R := R) he; simp only [YO.er, Leaf.fg] at h1; split at h
    ·rename_i x hx; refine ⟨_, _, ?_, h⟩; simp only [Lv.resS, h1, at_fg, hx, Option.map_some, Leaf.fg, out_fg, List.map_cons, List.map_nil, subU_fg]; rfl
    ·cases h
   ·cases h
  ·cases h
 ·rename_i cs; obtain ⟨ns, ls, h1, h⟩ := resL_ok (R := R) h; split at h
  ·rename_i hn; split at h
   ·rename_i S' us hu; obtain ⟨h2, _⟩ := ownK_fg (R := R) hu; refine ⟨S', us, ?_, h⟩; have : Lv.resS rs (S.fg R) = match Lv.resL rs (S.fg R) with
     | some (ns, ls) => (match Lv.ownK (S.fg R) ls with | some (S', cs) => some (S', shOf ns, cs) | none => none)
     | none => none := by
     rcases rs with _ | ⟨a, _ | ⟨b, rs⟩⟩
     ·rfl
     ·cases a <;> first | rfl | (simp [Lv.resL] at h1)
     ·cases a <;> rfl
    rw [this, h1]; dsimp only; rw [h2, hn]; rfl
   ·cases h
  ·cases h
 ·cases h
theorem owT_fg {l : Leaf} {u : U} (h : owT l = some u) : Lv.owT (Leaf.fg R l) = some u.fg := by
 cases l with
 | ow x => cases h; rfl
 | t x =>
  simp only [owT] at h; simp only [Leaf.fg, Lv.owT, isTop_fg]; split at h
  ·cases h
  ·rename_i hc; cases h; rw [if_neg hc]
 | _ => cases h
theorem owTs_fg : ∀ {ls : List Leaf} {us : List U}, owTs ls = some us -> Lv.owTs (ls.map (Leaf.fg R)) = some (us.map U.fg) /\ us.length = ls.length
 | [], us, h => by cases h; exact ⟨rfl, rfl⟩
 | l :: ls, us, h => by
  simp only [owTs] at h; split at h
  ·rename_i x xs h1 h2; cases h; obtain ⟨h3, h4⟩ := owTs_fg h2; simp only [List.map_cons, Lv.owTs, owT_fg h1, h3, List.length_cons, h4]; exact ⟨trivial, trivial⟩
  ·cases h
theorem bareTs_len {k : Nat} : ∀ {ls : List Leaf} {us : List U}, bareTs k ls = some us -> us.length = ls.length
 | [], us, h => by cases h; rfl
 | l :: ls, us, h => by
  simp only [bareTs] at h; split at h
  ·rename_i x xs h1 h2; cases h; simp only [List.length_cons, bareTs_len h2]
  ·cases h
def chunks : List C -> List U -> List (List U)
 | [], _ => []
 | c :: cs, us => us.take c.size :: chunks cs (us.drop c.size)
theorem chunks_len : ∀ (cs : List C) (us : List U), (chunks cs us).length = cs.length
 | [], _ => rfl
 | c :: cs, us => by simp only [chunks, List.length_cons, chunks_len cs]
theorem chunks_flat : ∀ (cs : List C) (us : List U), us.length = sizes cs -> (chunks cs us).flatten = us
 | [], us, h => by cases us with | nil => rfl | cons u us => cases h
 | c :: cs, us, h => by
  simp only [sizes] at h; simp only [chunks, List.flatten_cons]; rw [chunks_flat cs _ (by rw [List.length_drop]; omega), List.take_append_drop]
theorem chunks_app : ∀ (cs ds : List C) (us os : List U), us.length = sizes cs -> chunks (cs ++ ds) (us ++ os) = chunks cs us ++ chunks ds os
 | [], ds, us, os, h => by cases us with | nil => rfl | cons u us => cases h
 | c :: cs, ds, us, os, h => by
  simp only [sizes] at h; simp only [List.cons_append, chunks]; rw [List.take_append_of_le_length (by omega), List.drop_append_of_le_length (by omega), chunks_app cs ds _ os (by rw [List.length_drop]; omega)]
theorem ofT_chunks : ∀ {cs : List C} {us : List U} {x : Tu cs}, ofT cs us = some x -> encT cs x = (chunks cs us).map (List.map U.fg)
 | [], us, x, h => rfl
 | [c], us, x, h => by
  have h' : ofC c us = some x := h; show [enc c x] = _; rw [ofC_enc h']; simp only [chunks, List.map_cons, List.map_nil]; rw [List.take_of_length_le (by rw [ofC_len h']; exact Nat.le_refl _)]
 | c :: c' :: cs, us, x, h => by
  simp only [ofT] at h; split at h
  ·rename_i a b h1 h2; cases h; show enc c a :: encT (c' :: cs) b = _; rw [ofC_enc h1, ofT_chunks h2]; rfl
  ·cases h
theorem outsOf_fg {S : St} : ∀ {ks : List PK} {i : Nat} {os : List U}, outsOf i ks S = some os -> Lv.outsOf i (ks.map PK.md) (S.fg R) = some ((chunks (outC ks) os).map (List.map U.fg)) /\ os.length = sizes (outC ks)
 | [], i, os, h => by cases h; exact ⟨rfl, rfl⟩
 | .b c :: ks, i, os, h => by
  simp only [outsOf] at h; split at h
  ·rename_i ls os' h1 h2; obtain ⟨h3, h4⟩ := outsOf_fg (ks := ks) h2; split at h
   ·rename_i hc; split at h
    ·rename_i us hu; cases h; have hl : us.length = c.size := by rw [bareTs_len hu, hc.2]
     have hp : i ∈ (S.fg R).pin := mem_iff.1 hc.1; refine ⟨?_, by simp only [List.length_append, outC, sizes, hl, h4]⟩; simp only [List.map_cons, PK.md, Lv.outsOf, fg_bx, h1, Option.map_some, h3, outC, chunks]; rw [if_pos hp, bareTs_fg hu, List.take_left' hl, List.drop_left' hl]; rfl
    ·cases h
   ·cases h
  ·cases h
 | .m c :: ks, i, os, h => by
  simp only [outsOf] at h; split at h
  ·rename_i e os' h1 h2; obtain ⟨h3, h4⟩ := outsOf_fg (ks := ks) h2; split at h
   ·rename_i hc; split at h
    ·rename_i us hu; cases h; obtain ⟨h5, h6⟩ := owTs_fg (R := R) hu; have hl : us.length = c.size := by rw [h6, hc.2.2]
     have hp : i ∈ (S.fg R).pin := mem_iff.1 hc.1; refine ⟨?_, by simp only [List.length_append, outC, sizes, hl, h4]⟩; simp only [List.map_cons, PK.md, Lv.outsOf, fg_tm, h1, Option.map_some, h3, outC, chunks, Ent.fg, List.length_map]; rw [if_pos ⟨hp, hc.2.1⟩, h5, List.take_left' hl, List.drop_left' hl]; rfl
    ·cases h
   ·cases h
  ·cases h
 | .v c :: ks, i, os, h => outsOf_fg (ks := ks) h
 | .p c :: ks, i, os, h => outsOf_fg (ks := ks) h
 | .o c :: ks, i, os, h => outsOf_fg (ks := ks) h
 | .f x l :: ks, i, os, h => outsOf_fg (ks := ks) h
theorem encT_len : ∀ (cs : List C) (x : Tu cs), (encT cs x).map List.length = cs.map C.size
 | [], x => rfl
 | [c], x => congrArg (fun n => [n]) (enc_len c x)
 | c :: c' :: cs, x => by
  obtain ⟨a, b⟩ := x; show (enc c a).length :: (encT (c' :: cs) b).map List.length = _; rw [encT_len (c' :: cs) b, enc_len]; rfl
theorem outLen_ok : ∀ (ks : List PK) (a : A ks) (os : List (List T)), os.map List.length = (outC ks).map C.size -> Lv.outLen (ks.map PK.md) (aVs ks a) os = true
 | [], a, [], h => rfl
 | [], a, o :: os, h => by cases h
 | .b c :: ks, a, [], h => by cases h
 | .b c :: ks, a, o :: os, h => by
  obtain ⟨a1, a2⟩ := a; simp only [outC, List.map_cons, List.cons.injEq] at h; have hl : (enc c a1).length = c.size := enc_len c a1; show (o.length == (enc c a1).length && Lv.outLen (ks.map PK.md) (aVs ks a2) os) = true; rw [hl, h.1, outLen_ok ks a2 os h.2]; simp
 | .m c :: ks, a, [], h => by cases h
 | .m c :: ks, a, o :: os, h => by
  simp only [outC, List.map_cons, List.cons.injEq] at h; exact outLen_ok ks a.2 os h.2
 | .v c :: ks, a, os, h => outLen_ok ks a.2 os h
 | .p c :: ks, a, os, h => outLen_ok ks a.2 os h
 | .o c :: ks, a, os, h => outLen_ok ks a.2 os h
 | .f x l :: ks, a, os, h => outLen_ok ks a.2 os h
end
def YF.er (f : YF) : XFunc := .mk (f.ps.map PK.md) f.rs f.body.er
theorem fin_ok {f : YF} {S : St} {r : Tu (f.rk.cs ++ outC f.ps)} (h : fin f.ps f.rk f.rs S = some r) :
 Lv.fin (f.ps.map PK.md) f.rs (S.fg f.R) f.rk.sh ((encT _ r).take f.rk.cs.length).flatten ((encT _ r).drop f.rk.cs.length) := by
 unfold fin at h; obtain ⟨S', us, h1, h⟩ := resS_ok (R := f.R) h; split at h
 ·rename_i os ho; split at h
  ·rename_i hl; obtain ⟨h2, h3⟩ := outsOf_fg (R := f.R) ho; have h4 := ofT_chunks h; rw [chunks_app _ _ _ _ hl, List.map_append] at h4; have hlen : ((chunks f.rk.cs us).map (List.map U.fg)).length = f.rk.cs.length := by rw [List.length_map, chunks_len]
   rw [h4, List.take_left' hlen, List.drop_left' hlen]; refine ⟨S'.fg f.R, ?_, h2⟩; rw [h1, <- List.map_flatten, chunks_flat _ _ hl]
  ·cases h
 ·cases h
theorem YF.sound {f : YF} (hp : psOk f.ps = true) (hf : f.fs.map (fun n => (f.R[n]?).map GF.x) = (fX f.ps).map some) {a : A f.ps} {r : Tu (f.rk.cs ++ outC f.ps)} (h : f.run a = some r) :
 Runs f.er (aVs f.ps a) f.rk.sh ((encT _ r).take f.rk.cs.length).flatten ((encT _ r).drop f.rk.cs.length) := by
 unfold YF.run at h; rw [force_eq] at h; refine .intro ⟨_, initK_fg (R := f.R) f.ps 0 f.fs a ⟨[], [], [], 0⟩ hp hf, ?_, ?_⟩
 ·refine code_ok h fun e S' _ h' => ?_
  cases e with
  | n => exact fin_ok h'
  | x i => cases h'
  | r => exact fin_ok h'
 ·refine outLen_ok _ _ _ ?_; have := encT_len (f.rk.cs ++ outC f.ps) r; rw [List.map_drop, this, List.map_append, List.drop_left' (by rw [List.length_map])]
def YF.gf (f : YF) (hp : psOk f.ps = true) (hf : f.fs.map (fun n => (f.R[n]?).map GF.x) = (fX f.ps).map some) (d : A f.ps -> Option (Tu (f.rk.cs ++ outC f.ps))) (hd : ∀ a, f.run a = d a) : GF :=
 ⟨f.er, f.ps, f.rk, d, rfl, fun a r h => YF.sound hp hf ((hd a).trans h)⟩
end Y
end Lv
namespace Lv
open Go (IntKind BinOp UnOp)
noncomputable def vGArea {γ : Type} (x y : GArea) (X : Option γ) : Option γ := eqv x.Data y.Data (eqv x.Safe y.Safe X)
theorem vGArea_self {γ : Type} (x : GArea) (X : Option γ) : vGArea x x X = X := by unfold vGArea; simp only [eqv_self]
noncomputable def vGEntry {γ : Type} (x y : GEntry) (X : Option γ) : Option γ := eqv x.Level y.Level (eqv x.Turn y.Turn (eqv x.Id y.Id (eqv x.Size y.Size X)))
theorem vGEntry_self {γ : Type} (x : GEntry) (X : Option γ) : vGEntry x x X = X := by unfold vGEntry; simp only [eqv_self]
noncomputable def vGReq {γ : Type} (x y : GReq) (X : Option γ) : Option γ := eqv x.Kind y.Kind (eqv x.Id y.Id (eqv x.Cabin y.Cabin (eqv x.From y.From (eqv x.Size y.Size (eqv x.Tier y.Tier X)))))
theorem vGReq_self {γ : Type} (x : GReq) (X : Option γ) : vGReq x x X = X := by unfold vGReq; simp only [eqv_self]
noncomputable def vGStore {γ : Type} (x y : GStore) (X : Option γ) : Option γ := eqv x.Log.Data y.Log.Data (eqv x.Log.Safe y.Log.Safe (eqv x.Even.Data y.Even.Data (eqv x.Even.Safe y.Even.Safe (eqv x.Odd.Data y.Odd.Data (eqv x.Odd.Safe y.Odd.Safe X)))))
theorem vGStore_self {γ : Type} (x : GStore) (X : Option γ) : vGStore x x X = X := by unfold vGStore; simp only [eqv_self]
noncomputable def vGRules {γ : Type} (x y : GRules) (X : Option γ) : Option γ := eqv x.Seats y.Seats (eqv x.Tiers y.Tiers (eqv x.Room y.Room (eqv x.Size y.Size (eqv x.Period y.Period (eqv x.Window y.Window (eqv x.Rest y.Rest (eqv x.Tries y.Tries (eqv x.Crew y.Crew X))))))))
theorem vGRules_self {γ : Type} (x : GRules) (X : Option γ) : vGRules x x X = X := by unfold vGRules; simp only [eqv_self]
noncomputable def vGHouse {γ : Type} (x y : GHouse) (X : Option γ) : Option γ := eqv x.Rules.Seats y.Rules.Seats (eqv x.Rules.Tiers y.Rules.Tiers (eqv x.Rules.Room y.Rules.Room (eqv x.Rules.Size y.Rules.Size (eqv x.Rules.Period y.Rules.Period (eqv x.Rules.Window y.Rules.Window (eqv x.Rules.Rest y.Rules.Rest (eqv x.Rules.Tries y.Rules.Tries (eqv x.Rules.Crew y.Rules.Crew (eqv x.Now y.Now (eqv x.Turn y.Turn (eqv x.Parties y.Parties (eqv x.Cabins y.Cabins (eqv x.Todo y.Todo (eqv x.Jobs y.Jobs X))))))))))))))
theorem vGHouse_self {γ : Type} (x : GHouse) (X : Option γ) : vGHouse x x X = X := by unfold vGHouse; simp only [eqv_self]
noncomputable def vGEngine {γ : Type} (x y : GEngine) (X : Option γ) : Option γ := eqv x.House.Rules.Seats y.House.Rules.Seats (eqv x.House.Rules.Tiers y.House.Rules.Tiers (eqv x.House.Rules.Room y.House.Rules.Room (eqv x.House.Rules.Size y.House.Rules.Size (eqv x.House.Rules.Period y.House.Rules.Period (eqv x.House.Rules.Window y.House.Rules.Window (eqv x.House.Rules.Rest y.House.Rules.Rest (eqv x.House.Rules.Tries y.House.Rules.Tries (eqv x.House.Rules.Crew y.House.Rules.Crew (eqv x.House.Now y.House.Now (eqv x.House.Turn y.House.Turn (eqv x.House.Parties y.House.Parties (eqv x.House.Cabins y.House.Cabins (eqv x.House.Todo y.House.Todo (eqv x.House.Jobs y.House.Jobs (eqv x.Store.Log.Data y.Store.Log.Data (eqv x.Store.Log.Safe y.Store.Log.Safe (eqv x.Store.Even.Data y.Store.Even.Data (eqv x.Store.Even.Safe y.Store.Even.Safe (eqv x.Store.Odd.Data y.Store.Odd.Data (eqv x.Store.Odd.Safe y.Store.Odd.Safe (eqv x.Seq y.Seq (eqv x.Laid y.Laid X))))))))))))))))))))))
theorem vGEngine_self {γ : Type} (x : GEngine) (X : Option γ) : vGEngine x x X = X := by unfold vGEngine; simp only [eqv_self]
def zGEngine : List U := [.nil, .int .i64 0, .int .i64 0, .int .i64 0, .int .i64 0, .int .i64 0, .int .i64 0, .int .i64 0, .int .i64 0, .int .i64 0, .int .i64 0, .nil, .nil, .nil, .nil, .str [], .int .i64 0, .str [], .int .i64 0, .str [], .int .i64 0, .int .i64 0, .nil]
def zGHouse : List U := [.nil, .int .i64 0, .int .i64 0, .int .i64 0, .int .i64 0, .int .i64 0, .int .i64 0, .int .i64 0, .int .i64 0, .int .i64 0, .int .i64 0, .nil, .nil, .nil, .nil]
def zGParty : List U := [.int .i64 0, .int .i64 0, .int .i64 0, .int .i64 0, .int .i64 0, .int .i64 0, .int .i64 0, .int .i64 0, .int .i64 0, .int .i64 0]
def zGRules : List U := [.nil, .int .i64 0, .int .i64 0, .int .i64 0, .int .i64 0, .int .i64 0, .int .i64 0, .int .i64 0, .int .i64 0]
def zGReq : List U := [.int .i64 0, .int .i64 0, .int .i64 0, .int .i64 0, .int .i64 0, .int .i64 0]
def zGCabin : List U := [.int .i64 0, .int .i64 0, .int .i64 0, .int .i64 0, .int .i64 0, .nil, .nil]
def zGStore : List U := [.str [], .int .i64 0, .str [], .int .i64 0, .str [], .int .i64 0]
def zGLedger : List U := [.int .i64 0, .int .i64 0, .int .i64 0, .int .i64 0, .int .i64 0]
def zGEntry : List U := [.int .i64 0, .int .i64 0, .int .i64 0, .int .i64 0]
noncomputable def ev2 {α0 α1 γ : Type} (a0 : α0) (a1 : α1) (X : Option γ) : Option γ := eqv a0 a0 (eqv a1 a1 X)
theorem ev2_eq {α0 α1 γ : Type} (a0 : α0) (a1 : α1) (X : Option γ) : ev2 a0 a1 X = X := by unfold ev2; simp only [eqv_self]
noncomputable def ev3 {α0 α1 α2 γ : Type} (a0 : α0) (a1 : α1) (a2 : α2) (X : Option γ) : Option γ := eqv a0 a0 (eqv a1 a1 (eqv a2 a2 X))
theorem ev3_eq {α0 α1 α2 γ : Type} (a0 : α0) (a1 : α1) (a2 : α2) (X : Option γ) : ev3 a0 a1 a2 X = X := by unfold ev3; simp only [eqv_self]
noncomputable def ev4 {α0 α1 α2 α3 γ : Type} (a0 : α0) (a1 : α1) (a2 : α2) (a3 : α3) (X : Option γ) : Option γ := eqv a0 a0 (eqv a1 a1 (eqv a2 a2 (eqv a3 a3 X)))
theorem ev4_eq {α0 α1 α2 α3 γ : Type} (a0 : α0) (a1 : α1) (a2 : α2) (a3 : α3) (X : Option γ) : ev4 a0 a1 a2 a3 X = X := by unfold ev4; simp only [eqv_self]
noncomputable def ev5 {α0 α1 α2 α3 α4 γ : Type} (a0 : α0) (a1 : α1) (a2 : α2) (a3 : α3) (a4 : α4) (X : Option γ) : Option γ := eqv a0 a0 (eqv a1 a1 (eqv a2 a2 (eqv a3 a3 (eqv a4 a4 X))))
theorem ev5_eq {α0 α1 α2 α3 α4 γ : Type} (a0 : α0) (a1 : α1) (a2 : α2) (a3 : α3) (a4 : α4) (X : Option γ) : ev5 a0 a1 a2 a3 a4 X = X := by unfold ev5; simp only [eqv_self]
noncomputable def ev6 {α0 α1 α2 α3 α4 α5 γ : Type} (a0 : α0) (a1 : α1) (a2 : α2) (a3 : α3) (a4 : α4) (a5 : α5) (X : Option γ) : Option γ := eqv a0 a0 (eqv a1 a1 (eqv a2 a2 (eqv a3 a3 (eqv a4 a4 (eqv a5 a5 X)))))
theorem ev6_eq {α0 α1 α2 α3 α4 α5 γ : Type} (a0 : α0) (a1 : α1) (a2 : α2) (a3 : α3) (a4 : α4) (a5 : α5) (X : Option γ) : ev6 a0 a1 a2 a3 a4 a5 X = X := by unfold ev6; simp only [eqv_self]
noncomputable def ev7 {α0 α1 α2 α3 α4 α5 α6 γ : Type} (a0 : α0) (a1 : α1) (a2 : α2) (a3 : α3) (a4 : α4) (a5 : α5) (a6 : α6) (X : Option γ) : Option γ := eqv a0 a0 (eqv a1 a1 (eqv a2 a2 (eqv a3 a3 (eqv a4 a4 (eqv a5 a5 (eqv a6 a6 X))))))
theorem ev7_eq {α0 α1 α2 α3 α4 α5 α6 γ : Type} (a0 : α0) (a1 : α1) (a2 : α2) (a3 : α3) (a4 : α4) (a5 : α5) (a6 : α6) (X : Option γ) : ev7 a0 a1 a2 a3 a4 a5 a6 X = X := by unfold ev7; simp only [eqv_self]
noncomputable def ev8 {α0 α1 α2 α3 α4 α5 α6 α7 γ : Type} (a0 : α0) (a1 : α1) (a2 : α2) (a3 : α3) (a4 : α4) (a5 : α5) (a6 : α6) (a7 : α7) (X : Option γ) : Option γ := eqv a0 a0 (eqv a1 a1 (eqv a2 a2 (eqv a3 a3 (eqv a4 a4 (eqv a5 a5 (eqv a6 a6 (eqv a7 a7 X)))))))
theorem ev8_eq {α0 α1 α2 α3 α4 α5 α6 α7 γ : Type} (a0 : α0) (a1 : α1) (a2 : α2) (a3 : α3) (a4 : α4) (a5 : α5) (a6 : α6) (a7 : α7) (X : Option γ) : ev8 a0 a1 a2 a3 a4 a5 a6 a7 X = X := by unfold ev8; simp only [eqv_self]
namespace Y
section
variable {R : List GF}
def qn (l : List (YOp R)) : List (Option (Nat × Bool) × YOp R) := l.map fun o => (none, o)
def qf (g : Nat) (l : List (YOp R)) : List (Option (Nat × Bool) × YOp R) := l.map fun o => (some (g, false), o)
def qt (g : Nat) (l : List (YOp R)) : List (Option (Nat × Bool) × YOp R) := l.map fun o => (some (g, true), o)
def qr (l : List (List (Option (Nat × Bool) × YOp R))) (keep : List Nat) : YCode R := .region l.flatten keep
def q1 (l : List (YOp R)) (keep : List Nat) : YCode R := .region (qn l) keep
def qdl (r : YRun R) : Nat -> List (Option (Nat × Bool) × YOp R) -> YRun R
 | _, [] => r
 | i, o :: l => .op i o.1 [] o.2 (qdl r (i + 1) l)
def qd (i : Nat) (l : List (List (Option (Nat × Bool) × YOp R))) (r : YRun R) : YRun R := qdl r i l.flatten
def qm (d s : Nat) : YOp R := .mv d (.tmp s)
def qa (d s : Nat) : YOp R := .as d (.tmp s)
def qo (d o s : Nat) : YOp R := .fa d o (.tmp s)
def ql (d s : Nat) : YOp R := .ld d none (.tmp s)
def qL (d n s : Nat) : YOp R := .ld d (some n) (.tmp s)
def qb (d : Nat) (o : BinOp) (x y : Nat) : YOp R := .bin d .num o (.tmp x) (.tmp y)
def qi (d : Nat) (o : BinOp) (x : Nat) (n : Int) : YOp R := .bin d .num o (.tmp x) (.k (.int .i64 n))
def qx (d s : Nat) : YOp R := .un d .not (.tmp s)
def qp (d c x : Nat) : YOp R := .pick d (.tmp c) (.k (.bool true)) (.tmp x)
def qq (d c x : Nat) : YOp R := .pick d (.tmp c) (.tmp x) (.k (.bool false))
def qc (d : Nat) (g : GF) (hf : ([] : List Nat).map (fun n => (R[n]?).map GF.x) = (fX g.ps).map some) (l : List Nat) : YOp R := .call d g [] hf (l.map .tmp)
def qz (d s : Nat) : YOp R := .len d (.tmp s)
def qe (d : Nat) (c : C) (x i : Nat) : YOp R := .ia d c (.tmp x) (.tmp i)
def qk (d : Nat) (n : Int) : YOp R := .mv d (.k (.int .i64 n))
def qK (d : Nat) (n : Int) : YOp R := .as d (.k (.int .i64 n))
def qB (d : Nat) (b : Bool) : YOp R := .as d (.k (.bool b))
def qw (n x v : Nat) : YOp R := .st n (.tmp x) (.tmp v)
def qu (d s : Nat) : YOp R := .box d (.tmp s)
def qj (n : Int) : YO := .k (.int .i64 n)
instance (n : Nat) : OfNat YO n := ⟨.tmp n⟩
def kpF : Nat -> Nat -> Nat -> List Nat
 | 0, _, _ => []
 | f + 1, i, n => match Nat.beq n 0 with | true => [] | false => match Nat.testBit n 0 with | true => i :: kpF f (i + 1) (n / 2) | false => kpF f (i + 1) (n / 2)
def wU : Nat -> List (Nat -> Nat -> YOp R) -> List (YOp R)
 | _, [] => []
 | 0, f :: l => f 0 0 :: wU 1 l
 | k + 1, f :: l => f (k + 1) k :: wU (k + 2) l
def wn (d : Nat) (l : List (Nat -> Nat -> YOp R)) : List (Option (Nat × Bool) × YOp R) := qn (wU d l)
def wf (g d : Nat) (l : List (Nat -> Nat -> YOp R)) : List (Option (Nat × Bool) × YOp R) := qf g (wU d l)
def wt (g d : Nat) (l : List (Nat -> Nat -> YOp R)) : List (Option (Nat × Bool) × YOp R) := qt g (wU d l)
def w1 (d : Nat) (l : List (Nat -> Nat -> YOp R)) (keep : List Nat) : YCode R := q1 (wU d l) keep
def sw (d : Nat) (l : List (Nat -> Nat -> YOp R)) (keep : List Nat) (b : YCode R) : YCode R := .seq (q1 (wU d l) keep) b
def sq (l : List (YOp R)) (keep : List Nat) (b : YCode R) : YCode R := .seq (q1 l keep) b
def sr (l : List (List (Option (Nat × Bool) × YOp R))) (keep : List Nat) (b : YCode R) : YCode R := .seq (qr l keep) b
def wm (s d _p : Nat) : YOp R := .mv d (.tmp s)
def wM (d p : Nat) : YOp R := .mv d (.tmp p)
def wo (o s d _p : Nat) : YOp R := .fa d o (.tmp s)
def wO (o d p : Nat) : YOp R := .fa d o (.tmp p)
def wl (s d _p : Nat) : YOp R := .ld d none (.tmp s)
def wL (d p : Nat) : YOp R := .ld d none (.tmp p)
def wk (n s d _p : Nat) : YOp R := .ld d (some n) (.tmp s)
def wK (n d p : Nat) : YOp R := .ld d (some n) (.tmp p)
def wz (s d _p : Nat) : YOp R := .len d (.tmp s)
def wZ (d p : Nat) : YOp R := .len d (.tmp p)
def wx (s d _p : Nat) : YOp R := .un d .not (.tmp s)
def wX (d p : Nat) : YOp R := .un d .not (.tmp p)
def wb (o : BinOp) (x y d _p : Nat) : YOp R := .bin d .num o (.tmp x) (.tmp y)
def wB (o : BinOp) (x d p : Nat) : YOp R := .bin d .num o (.tmp x) (.tmp p)
def wi (o : BinOp) (x : Nat) (n : Int) (d _p : Nat) : YOp R := .bin d .num o (.tmp x) (.k (.int .i64 n))
def wI (o : BinOp) (n : Int) (d p : Nat) : YOp R := .bin d .num o (.tmp p) (.k (.int .i64 n))
def wr (c x d _p : Nat) : YOp R := .pick d (.tmp c) (.k (.bool true)) (.tmp x)
def wR (c d p : Nat) : YOp R := .pick d (.tmp c) (.k (.bool true)) (.tmp p)
def wq (c x d _p : Nat) : YOp R := .pick d (.tmp c) (.tmp x) (.k (.bool false))
def wQ (c d p : Nat) : YOp R := .pick d (.tmp c) (.tmp p) (.k (.bool false))
def we (c : C) (x i d _p : Nat) : YOp R := .ia d c (.tmp x) (.tmp i)
def wE (c : C) (x d p : Nat) : YOp R := .ia d c (.tmp x) (.tmp p)
def wc (g : GF) (hf : ([] : List Nat).map (fun n => (R[n]?).map GF.x) = (fX g.ps).map some) (l : List YO) (d _p : Nat) : YOp R := .call d g [] hf l
def wY (g : GF) (hf : ([] : List Nat).map (fun n => (R[n]?).map GF.x) = (fX g.ps).map some) (d p : Nat) : YOp R := .call d g [] hf [.tmp p]
def wj (n : Int) (d _p : Nat) : YOp R := .mv d (.k (.int .i64 n))
def wh (f : Nat -> YOp R) (d _p : Nat) : YOp R := f d
def Kp (n : Nat) : List Nat := kpF 300 0 n
def cv (n : Nat) (c : C) : Bool × Nat × Sh × List AL := (false, n, .one, [.val c none])
def ca (n : Nat) (c : C) : Bool × Nat × Sh × List AL := (false, n, .agg, [.val c none])
def cx (n : Nat) (c : C) : Bool × Nat × Sh × List AL := (true, n, .one, [.val c none])
def cn (c : Nat) (ke : List Nat) (t : YCode R) : YCode R := .cond c [] ke t .skip
def ce (c : Nat) (kt ke : List Nat) (id : Nat) : YCode R := .cond c kt ke .skip (.exit id)
def bl (id : Nat) (c : Cut) (b : YCode R) : YCode R := .block id (.loop c b)
end
end Y
end Lv
