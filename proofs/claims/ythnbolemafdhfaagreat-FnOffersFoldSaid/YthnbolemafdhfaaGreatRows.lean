/-
  No cell of these rows narrows 'for every input' (looked for: loops, veiled, ifaces, maps, wideKeys, modest, calm, conditions, laid).
  DERIVED. THE GIVEN ROWS OF THIS SEAT. 2 by the template 'for every input the law returns true; each argument reads behind the call as it read before'; 0 by the template 'total and deterministic' (their statements: YthnbolemafdhfaaGreatTotals.lean).
  GIVEN WITH THE SEED: the statements are not yours to turn. If you find one false, say at which input.
  Laid BY PROGRAM, IN A SANDBOX (cutbox-rows.mjs): the forced cells as the released guide's own fill.sh prints them over the translation 76f97a8caf7b7878… (all of the seat's roots in one cut). By AI agents, Wed Nov 11 2026. No macro, syntax, notation, axiom, sorry.
-/
import Derived.Test.YthnbolemafdhfaaGreatChecked
import GoSem.Claim
import GoSem.ClaimJoined
import GoSem.ClaimMapViews
import Derived.JoinedTies
import Derived.KernelRfl
namespace Go.Proofs.YthnbolemafdhfaaGreat
/- THE CELL 'sum', in the pinned program and in every row, IS THE sha256 OF THE DUMP (.gsa) THAT YthnbolemafdhfaaGreatProg.lean LOADS. Nothing in Lean hashes anything: it is a label: what it is worth is what the hold of that sum in a sandbox is worth. -/
noncomputable def Tryz.pinned : Pinned := { name := "ythnbolemafdhfaagreat", sum := "76f97a8caf7b787880331de2f2b57a7cdb8cafda81a37a39d798c50ff49468ba", checked := Tryz.checked }
namespace Rows
def none {H : Type} : Left H := { results := [], args := [] }

/-- 'laws.FnTicksFold': WHATEVER THE INPUT: true; the input reads as it did. -/
def fnTicksFoldSpec : ChangeSpec := { name := "fnTicksFold", fn := fun _ => fun
  | [d] => { results := [.lit (.bool true)], args := [d] }
  | _ => none }
def fnTicksFoldRow : OpenClaim := { program := "ythnbolemafdhfaagreat", sum := "76f97a8caf7b787880331de2f2b57a7cdb8cafda81a37a39d798c50ff49468ba", func := "loop.example/g00494/laws.FnTicksFold", spec := "fnTicksFold", apart := false }
def FnTicksFoldSaid : Prop := fnTicksFoldRow.holds Tryz.pinned (OpenSpec.ofChange fnTicksFoldSpec)

/-- ITS FALSE NEIGHBOUR: 'it returns false'. Refute it at one input. -/
def fnTicksFoldWrong : ChangeSpec := { name := "fnTicksFold", fn := fun _ => fun
  | [d] => { results := [.lit (.bool false)], args := [d] }
  | _ => none }
def FnTicksFoldWrongFalsely : Prop := fnTicksFoldRow.holds Tryz.pinned (OpenSpec.ofChange fnTicksFoldWrong)

/-- 'laws.FnOffersFold': WHATEVER THE INPUT: true; the input reads as it did. -/
def fnOffersFoldSpec : ChangeSpec := { name := "fnOffersFold", fn := fun _ => fun
  | [d] => { results := [.lit (.bool true)], args := [d] }
  | _ => none }
def fnOffersFoldRow : OpenClaim := { program := "ythnbolemafdhfaagreat", sum := "76f97a8caf7b787880331de2f2b57a7cdb8cafda81a37a39d798c50ff49468ba", func := "loop.example/g00494/laws.FnOffersFold", spec := "fnOffersFold", apart := false }
def FnOffersFoldSaid : Prop := fnOffersFoldRow.holds Tryz.pinned (OpenSpec.ofChange fnOffersFoldSpec)

/-- ITS FALSE NEIGHBOUR: 'it returns false'. Refute it at one input. -/
def fnOffersFoldWrong : ChangeSpec := { name := "fnOffersFold", fn := fun _ => fun
  | [d] => { results := [.lit (.bool false)], args := [d] }
  | _ => none }
def FnOffersFoldWrongFalsely : Prop := fnOffersFoldRow.holds Tryz.pinned (OpenSpec.ofChange fnOffersFoldWrong)

/- THE SECOND FORM. 'bulk': how many values and letters a reading holds, each counted each time it is reached (what is shared counts as often as it is met; a slice's spare places count too). A statement '..UptoSaid' is the law's where the arguments, and the package variables that the reading takes, are together of bulk at most 1048576: NARROWER than '..Said'. Prove '..Said' where nothing that the law and all that it calls make is longer than what came in: it says more and counts as full. Else prove '..UptoSaid'. A law counts once. -/
mutual
def uptoBulk {H : Type} : DataW H → Nat
  | .lit (.string bytes) => bytes.length + 1
  | .lit _ => 1
  | .nil => 1
  | .ptr d => uptoBulk d + 1
  | .slice elems spare => uptoBulkAll elems + uptoBulkAll spare + 1
  | .agg parts => uptoBulkAll parts + 1
  | .iface _ d => uptoBulk d + 1
  | .map entries => uptoBulkEntries entries + 1
  | .held _ => 1
def uptoBulkAll {H : Type} : List (DataW H) → Nat
  | [] => 0
  | d :: r => uptoBulk d + uptoBulkAll r
def uptoBulkEntries {H : Type} : List (Lit × DataW H) → Nat
  | [] => 0
  | x :: r => uptoBulkEntry x + uptoBulkEntries r
def uptoBulkEntry {H : Type} : Lit × DataW H → Nat
  | (.string bytes, d) => bytes.length + uptoBulk d + 1
  | (_, d) => uptoBulk d + 1
 end
def uptoSmall : (H : Type) → List (DataW H) → Bool := fun _ ds => decide (uptoBulkAll ds ≤ 1048576)
def OpenSpec.upto (s : _root_.Go.ChangeSpec) : _root_.Go.OpenSpec := { _root_.Go.OpenSpec.ofChange s with cond := some uptoSmall }

/-- 'laws.FnTicksFold', WHERE WHAT IT READS IS OF BULK AT MOST 1048576: true; the input reads as it did. -/
def fnTicksFoldUptoRow : OpenClaim := { program := "ythnbolemafdhfaagreat", sum := "76f97a8caf7b787880331de2f2b57a7cdb8cafda81a37a39d798c50ff49468ba", func := "loop.example/g00494/laws.FnTicksFold", spec := "fnTicksFold", apart := false, narrowed := true }
def FnTicksFoldUptoSaid : Prop := fnTicksFoldUptoRow.holds Tryz.pinned (OpenSpec.upto fnTicksFoldSpec)

/-- 'laws.FnOffersFold', WHERE WHAT IT READS IS OF BULK AT MOST 1048576: true; the input reads as it did. -/
def fnOffersFoldUptoRow : OpenClaim := { program := "ythnbolemafdhfaagreat", sum := "76f97a8caf7b787880331de2f2b57a7cdb8cafda81a37a39d798c50ff49468ba", func := "loop.example/g00494/laws.FnOffersFold", spec := "fnOffersFold", apart := false, narrowed := true }
def FnOffersFoldUptoSaid : Prop := fnOffersFoldUptoRow.holds Tryz.pinned (OpenSpec.upto fnOffersFoldSpec)

end Rows
end Go.Proofs.YthnbolemafdhfaaGreat
