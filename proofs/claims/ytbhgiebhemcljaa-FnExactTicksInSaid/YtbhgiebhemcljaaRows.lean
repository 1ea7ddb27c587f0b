/-
  No cell of these rows narrows 'for every input' (looked for: loops, veiled, ifaces, maps, wideKeys, modest, calm, conditions, laid).
  DERIVED. THE GIVEN ROWS OF THIS SEAT. 6 by the template 'for every input the law returns true; each argument reads behind the call as it read before'; 0 by the template 'total and deterministic' (their statements: YtbhgiebhemcljaaTotals.lean).
  GIVEN WITH THE SEED: the statements are not yours to turn. If you find one false, say at which input.
  Laid BY PROGRAM, IN A SANDBOX (cutbox-rows.mjs): the forced cells as the released guide's own fill.sh prints them over the translation 8df39157f9905d57… (all of the seat's roots in one cut). By AI agents, Wed Nov 11 2026. No macro, syntax, notation, axiom, sorry.
-/
import Derived.Test.YtbhgiebhemcljaaChecked
import GoSem.Claim
import GoSem.ClaimJoined
import GoSem.ClaimMapViews
import Derived.JoinedTies
import Derived.KernelRfl
namespace Go.Proofs.Ytbhgiebhemcljaa
/- THE CELL 'sum', in the pinned program and in every row, IS THE sha256 OF THE DUMP (.gsa) THAT YtbhgiebhemcljaaProg.lean LOADS. Nothing in Lean hashes anything: it is a label: what it is worth is what the hold of that sum in a sandbox is worth. -/
noncomputable def Try.pinned : Pinned := { name := "ytbhgiebhemcljaa", sum := "8df39157f9905d5739fbe1af3f59dfb26d7f93bf9d3b37b7bea833e531e5815f", checked := Try.checked }
namespace Rows
def none {H : Type} : Left H := { results := [], args := [] }

/-- 'laws.FnExactOffersTo': WHATEVER THE INPUT: true; the input reads as it did. -/
def fnExactOffersToSpec : ChangeSpec := { name := "fnExactOffersTo", fn := fun _ => fun
  | [d1, d2] => { results := [.lit (.bool true)], args := [d1, d2] }
  | _ => none }
def fnExactOffersToRow : OpenClaim := { program := "ytbhgiebhemcljaa", sum := "8df39157f9905d5739fbe1af3f59dfb26d7f93bf9d3b37b7bea833e531e5815f", func := "loop.example/g00494/laws.FnExactOffersTo", spec := "fnExactOffersTo", apart := false }
def FnExactOffersToSaid : Prop := fnExactOffersToRow.holds Try.pinned (OpenSpec.ofChange fnExactOffersToSpec)

/-- ITS FALSE NEIGHBOUR: 'it returns false'. Refute it at one input. -/
def fnExactOffersToWrong : ChangeSpec := { name := "fnExactOffersTo", fn := fun _ => fun
  | [d1, d2] => { results := [.lit (.bool false)], args := [d1, d2] }
  | _ => none }
def FnExactOffersToWrongFalsely : Prop := fnExactOffersToRow.holds Try.pinned (OpenSpec.ofChange fnExactOffersToWrong)

/-- 'laws.FnExactTicksIn': WHATEVER THE INPUT: true; the input reads as it did. -/
def fnExactTicksInSpec : ChangeSpec := { name := "fnExactTicksIn", fn := fun _ => fun
  | [d1, d2] => { results := [.lit (.bool true)], args := [d1, d2] }
  | _ => none }
def fnExactTicksInRow : OpenClaim := { program := "ytbhgiebhemcljaa", sum := "8df39157f9905d5739fbe1af3f59dfb26d7f93bf9d3b37b7bea833e531e5815f", func := "loop.example/g00494/laws.FnExactTicksIn", spec := "fnExactTicksIn", apart := false }
def FnExactTicksInSaid : Prop := fnExactTicksInRow.holds Try.pinned (OpenSpec.ofChange fnExactTicksInSpec)

/-- ITS FALSE NEIGHBOUR: 'it returns false'. Refute it at one input. -/
def fnExactTicksInWrong : ChangeSpec := { name := "fnExactTicksIn", fn := fun _ => fun
  | [d1, d2] => { results := [.lit (.bool false)], args := [d1, d2] }
  | _ => none }
def FnExactTicksInWrongFalsely : Prop := fnExactTicksInRow.holds Try.pinned (OpenSpec.ofChange fnExactTicksInWrong)

/-- 'laws.FnExactFreedBy': WHATEVER THE INPUT: true; the input reads as it did. -/
def fnExactFreedBySpec : ChangeSpec := { name := "fnExactFreedBy", fn := fun _ => fun
  | [d1, d2, d3] => { results := [.lit (.bool true)], args := [d1, d2, d3] }
  | _ => none }
def fnExactFreedByRow : OpenClaim := { program := "ytbhgiebhemcljaa", sum := "8df39157f9905d5739fbe1af3f59dfb26d7f93bf9d3b37b7bea833e531e5815f", func := "loop.example/g00494/laws.FnExactFreedBy", spec := "fnExactFreedBy", apart := false }
def FnExactFreedBySaid : Prop := fnExactFreedByRow.holds Try.pinned (OpenSpec.ofChange fnExactFreedBySpec)

/-- ITS FALSE NEIGHBOUR: 'it returns false'. Refute it at one input. -/
def fnExactFreedByWrong : ChangeSpec := { name := "fnExactFreedBy", fn := fun _ => fun
  | [d1, d2, d3] => { results := [.lit (.bool false)], args := [d1, d2, d3] }
  | _ => none }
def FnExactFreedByWrongFalsely : Prop := fnExactFreedByRow.holds Try.pinned (OpenSpec.ofChange fnExactFreedByWrong)

/-- 'laws.FnExactJoinOf': WHATEVER THE INPUT: true; the input reads as it did. -/
def fnExactJoinOfSpec : ChangeSpec := { name := "fnExactJoinOf", fn := fun _ => fun
  | [d1, d2, d3, d4] => { results := [.lit (.bool true)], args := [d1, d2, d3, d4] }
  | _ => none }
def fnExactJoinOfRow : OpenClaim := { program := "ytbhgiebhemcljaa", sum := "8df39157f9905d5739fbe1af3f59dfb26d7f93bf9d3b37b7bea833e531e5815f", func := "loop.example/g00494/laws.FnExactJoinOf", spec := "fnExactJoinOf", apart := false }
def FnExactJoinOfSaid : Prop := fnExactJoinOfRow.holds Try.pinned (OpenSpec.ofChange fnExactJoinOfSpec)

/-- ITS FALSE NEIGHBOUR: 'it returns false'. Refute it at one input. -/
def fnExactJoinOfWrong : ChangeSpec := { name := "fnExactJoinOf", fn := fun _ => fun
  | [d1, d2, d3, d4] => { results := [.lit (.bool false)], args := [d1, d2, d3, d4] }
  | _ => none }
def FnExactJoinOfWrongFalsely : Prop := fnExactJoinOfRow.holds Try.pinned (OpenSpec.ofChange fnExactJoinOfWrong)

/-- 'laws.FnExactMovedFrom': WHATEVER THE INPUT: true; the input reads as it did. -/
def fnExactMovedFromSpec : ChangeSpec := { name := "fnExactMovedFrom", fn := fun _ => fun
  | [d1, d2, d3] => { results := [.lit (.bool true)], args := [d1, d2, d3] }
  | _ => none }
def fnExactMovedFromRow : OpenClaim := { program := "ytbhgiebhemcljaa", sum := "8df39157f9905d5739fbe1af3f59dfb26d7f93bf9d3b37b7bea833e531e5815f", func := "loop.example/g00494/laws.FnExactMovedFrom", spec := "fnExactMovedFrom", unfollowed := true, recurses := true, apart := false }
def FnExactMovedFromSaid : Prop := fnExactMovedFromRow.holds Try.pinned (OpenSpec.ofChange fnExactMovedFromSpec)

/-- ITS FALSE NEIGHBOUR: 'it returns false'. Refute it at one input. -/
def fnExactMovedFromWrong : ChangeSpec := { name := "fnExactMovedFrom", fn := fun _ => fun
  | [d1, d2, d3] => { results := [.lit (.bool false)], args := [d1, d2, d3] }
  | _ => none }
def FnExactMovedFromWrongFalsely : Prop := fnExactMovedFromRow.holds Try.pinned (OpenSpec.ofChange fnExactMovedFromWrong)

/-- 'laws.FnExactSoldBy': WHATEVER THE INPUT: true; the input reads as it did. -/
def fnExactSoldBySpec : ChangeSpec := { name := "fnExactSoldBy", fn := fun _ => fun
  | [d1, d2, d3] => { results := [.lit (.bool true)], args := [d1, d2, d3] }
  | _ => none }
def fnExactSoldByRow : OpenClaim := { program := "ytbhgiebhemcljaa", sum := "8df39157f9905d5739fbe1af3f59dfb26d7f93bf9d3b37b7bea833e531e5815f", func := "loop.example/g00494/laws.FnExactSoldBy", spec := "fnExactSoldBy", unfollowed := true, recurses := true, apart := false }
def FnExactSoldBySaid : Prop := fnExactSoldByRow.holds Try.pinned (OpenSpec.ofChange fnExactSoldBySpec)

/-- ITS FALSE NEIGHBOUR: 'it returns false'. Refute it at one input. -/
def fnExactSoldByWrong : ChangeSpec := { name := "fnExactSoldBy", fn := fun _ => fun
  | [d1, d2, d3] => { results := [.lit (.bool false)], args := [d1, d2, d3] }
  | _ => none }
def FnExactSoldByWrongFalsely : Prop := fnExactSoldByRow.holds Try.pinned (OpenSpec.ofChange fnExactSoldByWrong)

/- THE SECOND FORM. 'bulk': how many values and letters a reading holds, each counted each time it is reached (what is shared counts as often as it is met; a slice's spare places count too). A statement '..UptoSaid' is the law's where the arguments, and the package variables that the reading takes, are together of bulk at most 1048576: NARROWER than '..Said'. Prove '..Said' where nothing that the law and all that it calls make is longer than what came in: it says more and counts as full. Else prove '..UptoSaid'. A law counts once. -/
mutual
def uptoBulk {H : Type} : DataW H → Nat
  | .lit (.string bytes) => bytes.length + 1
  | .lit _ => 1
  | .nil => 1
  | .ptr d => uptoBulk d + 1
  | .slice elems spare => uptoBulkAll elems + uptoBulkAll spare + 1
  | .agg parts => uptoBulkAll parts + 1
  | .iface _ d => uptoBulk d + 1
  | .map entries => uptoBulkEntries entries + 1
  | .held _ => 1
def uptoBulkAll {H : Type} : List (DataW H) → Nat
  | [] => 0
  | d :: r => uptoBulk d + uptoBulkAll r
def uptoBulkEntries {H : Type} : List (Lit × DataW H) → Nat
  | [] => 0
  | x :: r => uptoBulkEntry x + uptoBulkEntries r
def uptoBulkEntry {H : Type} : Lit × DataW H → Nat
  | (.string bytes, d) => bytes.length + uptoBulk d + 1
  | (_, d) => uptoBulk d + 1
 end
def uptoSmall : (H : Type) → List (DataW H) → Bool := fun _ ds => decide (uptoBulkAll ds ≤ 1048576)
def OpenSpec.upto (s : _root_.Go.ChangeSpec) : _root_.Go.OpenSpec := { _root_.Go.OpenSpec.ofChange s with cond := some uptoSmall }

/-- 'laws.FnExactOffersTo', WHERE WHAT IT READS IS OF BULK AT MOST 1048576: true; the input reads as it did. -/
def fnExactOffersToUptoRow : OpenClaim := { program := "ytbhgiebhemcljaa", sum := "8df39157f9905d5739fbe1af3f59dfb26d7f93bf9d3b37b7bea833e531e5815f", func := "loop.example/g00494/laws.FnExactOffersTo", spec := "fnExactOffersTo", apart := false, narrowed := true }
def FnExactOffersToUptoSaid : Prop := fnExactOffersToUptoRow.holds Try.pinned (OpenSpec.upto fnExactOffersToSpec)

/-- 'laws.FnExactTicksIn', WHERE WHAT IT READS IS OF BULK AT MOST 1048576: true; the input reads as it did. -/
def fnExactTicksInUptoRow : OpenClaim := { program := "ytbhgiebhemcljaa", sum := "8df39157f9905d5739fbe1af3f59dfb26d7f93bf9d3b37b7bea833e531e5815f", func := "loop.example/g00494/laws.FnExactTicksIn", spec := "fnExactTicksIn", apart := false, narrowed := true }
def FnExactTicksInUptoSaid : Prop := fnExactTicksInUptoRow.holds Try.pinned (OpenSpec.upto fnExactTicksInSpec)

/-- 'laws.FnExactFreedBy', WHERE WHAT IT READS IS OF BULK AT MOST 1048576: true; the input reads as it did. -/
def fnExactFreedByUptoRow : OpenClaim := { program := "ytbhgiebhemcljaa", sum := "8df39157f9905d5739fbe1af3f59dfb26d7f93bf9d3b37b7bea833e531e5815f", func := "loop.example/g00494/laws.FnExactFreedBy", spec := "fnExactFreedBy", apart := false, narrowed := true }
def FnExactFreedByUptoSaid : Prop := fnExactFreedByUptoRow.holds Try.pinned (OpenSpec.upto fnExactFreedBySpec)

/-- 'laws.FnExactJoinOf', WHERE WHAT IT READS IS OF BULK AT MOST 1048576: true; the input reads as it did. -/
def fnExactJoinOfUptoRow : OpenClaim := { program := "ytbhgiebhemcljaa", sum := "8df39157f9905d5739fbe1af3f59dfb26d7f93bf9d3b37b7bea833e531e5815f", func := "loop.example/g00494/laws.FnExactJoinOf", spec := "fnExactJoinOf", apart := false, narrowed := true }
def FnExactJoinOfUptoSaid : Prop := fnExactJoinOfUptoRow.holds Try.pinned (OpenSpec.upto fnExactJoinOfSpec)

/-- 'laws.FnExactMovedFrom', WHERE WHAT IT READS IS OF BULK AT MOST 1048576: true; the input reads as it did. -/
def fnExactMovedFromUptoRow : OpenClaim := { program := "ytbhgiebhemcljaa", sum := "8df39157f9905d5739fbe1af3f59dfb26d7f93bf9d3b37b7bea833e531e5815f", func := "loop.example/g00494/laws.FnExactMovedFrom", spec := "fnExactMovedFrom", unfollowed := true, recurses := true, apart := false, narrowed := true }
def FnExactMovedFromUptoSaid : Prop := fnExactMovedFromUptoRow.holds Try.pinned (OpenSpec.upto fnExactMovedFromSpec)

/-- 'laws.FnExactSoldBy', WHERE WHAT IT READS IS OF BULK AT MOST 1048576: true; the input reads as it did. -/
def fnExactSoldByUptoRow : OpenClaim := { program := "ytbhgiebhemcljaa", sum := "8df39157f9905d5739fbe1af3f59dfb26d7f93bf9d3b37b7bea833e531e5815f", func := "loop.example/g00494/laws.FnExactSoldBy", spec := "fnExactSoldBy", unfollowed := true, recurses := true, apart := false, narrowed := true }
def FnExactSoldByUptoSaid : Prop := fnExactSoldByUptoRow.holds Try.pinned (OpenSpec.upto fnExactSoldBySpec)

end Rows
end Go.Proofs.Ytbhgiebhemcljaa
