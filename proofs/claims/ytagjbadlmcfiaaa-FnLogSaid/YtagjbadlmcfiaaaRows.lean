/-
  No cell of these rows narrows 'for every input' (looked for: loops, veiled, ifaces, maps, wideKeys, modest, calm, conditions, laid).
  DERIVED. THE GIVEN ROWS OF THIS SEAT. 8 by the template 'for every input the law returns true; each argument reads behind the call as it read before'; 0 by the template 'total and deterministic' (their statements: YtagjbadlmcfiaaaTotals.lean).
  GIVEN WITH THE SEED: the statements are not yours to turn. If you find one false, say at which input.
  Laid BY PROGRAM, IN A SANDBOX (cutbox-rows.mjs): the forced cells as the released guide's own fill.sh prints them over the translation 724b3992b03ee831… (all of the seat's roots in one cut). By AI agents, Wed Nov 11 2026. No macro, syntax, notation, axiom, sorry.
-/
import Derived.Test.YtagjbadlmcfiaaaChecked
import GoSem.Claim
import GoSem.ClaimJoined
import GoSem.ClaimMapViews
import Derived.JoinedTies
import Derived.KernelRfl
namespace Go.Proofs.Ytagjbadlmcfiaaa
/- THE CELL 'sum', in the pinned program and in every row, IS THE sha256 OF THE DUMP (.gsa) THAT YtagjbadlmcfiaaaProg.lean LOADS. Nothing in Lean hashes anything: it is a label: what it is worth is what the hold of that sum in a sandbox is worth. -/
noncomputable def Try.pinned : Pinned := { name := "ytagjbadlmcfiaaa", sum := "724b3992b03ee83119aaeb3ba0cc8e0ac28e87799f12d151bf66777f7759cda5", checked := Try.checked }
namespace Rows
def none {H : Type} : Left H := { results := [], args := [] }

/-- 'laws.FnExactReqRead': WHATEVER THE INPUT: true; the input reads as it did. -/
def fnExactReqReadSpec : ChangeSpec := { name := "fnExactReqRead", fn := fun _ => fun
  | [d] => { results := [.lit (.bool true)], args := [d] }
  | _ => none }
def fnExactReqReadRow : OpenClaim := { program := "ytagjbadlmcfiaaa", sum := "724b3992b03ee83119aaeb3ba0cc8e0ac28e87799f12d151bf66777f7759cda5", func := "loop.example/g00494/laws.FnExactReqRead", spec := "fnExactReqRead", unfollowed := true, recurses := true, apart := false }
def FnExactReqReadSaid : Prop := fnExactReqReadRow.holds Try.pinned (OpenSpec.ofChange fnExactReqReadSpec)

/-- ITS FALSE NEIGHBOUR: 'it returns false'. Refute it at one input. -/
def fnExactReqReadWrong : ChangeSpec := { name := "fnExactReqRead", fn := fun _ => fun
  | [d] => { results := [.lit (.bool false)], args := [d] }
  | _ => none }
def FnExactReqReadWrongFalsely : Prop := fnExactReqReadRow.holds Try.pinned (OpenSpec.ofChange fnExactReqReadWrong)

/-- 'laws.FnExactLogUpTo': WHATEVER THE INPUT: true; the input reads as it did. -/
def fnExactLogUpToSpec : ChangeSpec := { name := "fnExactLogUpTo", fn := fun _ => fun
  | [d1, d2] => { results := [.lit (.bool true)], args := [d1, d2] }
  | _ => none }
def fnExactLogUpToRow : OpenClaim := { program := "ytagjbadlmcfiaaa", sum := "724b3992b03ee83119aaeb3ba0cc8e0ac28e87799f12d151bf66777f7759cda5", func := "loop.example/g00494/laws.FnExactLogUpTo", spec := "fnExactLogUpTo", apart := false }
def FnExactLogUpToSaid : Prop := fnExactLogUpToRow.holds Try.pinned (OpenSpec.ofChange fnExactLogUpToSpec)

/-- ITS FALSE NEIGHBOUR: 'it returns false'. Refute it at one input. -/
def fnExactLogUpToWrong : ChangeSpec := { name := "fnExactLogUpTo", fn := fun _ => fun
  | [d1, d2] => { results := [.lit (.bool false)], args := [d1, d2] }
  | _ => none }
def FnExactLogUpToWrongFalsely : Prop := fnExactLogUpToRow.holds Try.pinned (OpenSpec.ofChange fnExactLogUpToWrong)

/-- 'laws.FnExactLogOf': WHATEVER THE INPUT: true; the input reads as it did. -/
def fnExactLogOfSpec : ChangeSpec := { name := "fnExactLogOf", fn := fun _ => fun
  | [d1, d2] => { results := [.lit (.bool true)], args := [d1, d2] }
  | _ => none }
def fnExactLogOfRow : OpenClaim := { program := "ytagjbadlmcfiaaa", sum := "724b3992b03ee83119aaeb3ba0cc8e0ac28e87799f12d151bf66777f7759cda5", func := "loop.example/g00494/laws.FnExactLogOf", spec := "fnExactLogOf", unfollowed := true, recurses := true, apart := false }
def FnExactLogOfSaid : Prop := fnExactLogOfRow.holds Try.pinned (OpenSpec.ofChange fnExactLogOfSpec)

/-- ITS FALSE NEIGHBOUR: 'it returns false'. Refute it at one input. -/
def fnExactLogOfWrong : ChangeSpec := { name := "fnExactLogOf", fn := fun _ => fun
  | [d1, d2] => { results := [.lit (.bool false)], args := [d1, d2] }
  | _ => none }
def FnExactLogOfWrongFalsely : Prop := fnExactLogOfRow.holds Try.pinned (OpenSpec.ofChange fnExactLogOfWrong)

/-- 'laws.FnExactNotesIn': WHATEVER THE INPUT: true; the input reads as it did. -/
def fnExactNotesInSpec : ChangeSpec := { name := "fnExactNotesIn", fn := fun _ => fun
  | [d] => { results := [.lit (.bool true)], args := [d] }
  | _ => none }
def fnExactNotesInRow : OpenClaim := { program := "ytagjbadlmcfiaaa", sum := "724b3992b03ee83119aaeb3ba0cc8e0ac28e87799f12d151bf66777f7759cda5", func := "loop.example/g00494/laws.FnExactNotesIn", spec := "fnExactNotesIn", unfollowed := true, recurses := true, apart := false }
def FnExactNotesInSaid : Prop := fnExactNotesInRow.holds Try.pinned (OpenSpec.ofChange fnExactNotesInSpec)

/-- ITS FALSE NEIGHBOUR: 'it returns false'. Refute it at one input. -/
def fnExactNotesInWrong : ChangeSpec := { name := "fnExactNotesIn", fn := fun _ => fun
  | [d] => { results := [.lit (.bool false)], args := [d] }
  | _ => none }
def FnExactNotesInWrongFalsely : Prop := fnExactNotesInRow.holds Try.pinned (OpenSpec.ofChange fnExactNotesInWrong)

/-- 'laws.FnReqBytes': WHATEVER THE INPUT: true; the input reads as it did. -/
def fnReqBytesSpec : ChangeSpec := { name := "fnReqBytes", fn := fun _ => fun
  | [d] => { results := [.lit (.bool true)], args := [d] }
  | _ => none }
def fnReqBytesRow : OpenClaim := { program := "ytagjbadlmcfiaaa", sum := "724b3992b03ee83119aaeb3ba0cc8e0ac28e87799f12d151bf66777f7759cda5", func := "loop.example/g00494/laws.FnReqBytes", spec := "fnReqBytes", unfollowed := true, recurses := true, apart := false }
def FnReqBytesSaid : Prop := fnReqBytesRow.holds Try.pinned (OpenSpec.ofChange fnReqBytesSpec)

/-- ITS FALSE NEIGHBOUR: 'it returns false'. Refute it at one input. -/
def fnReqBytesWrong : ChangeSpec := { name := "fnReqBytes", fn := fun _ => fun
  | [d] => { results := [.lit (.bool false)], args := [d] }
  | _ => none }
def FnReqBytesWrongFalsely : Prop := fnReqBytesRow.holds Try.pinned (OpenSpec.ofChange fnReqBytesWrong)

/-- 'laws.FnFrames': WHATEVER THE INPUT: true; the input reads as it did. -/
def fnFramesSpec : ChangeSpec := { name := "fnFrames", fn := fun _ => fun
  | [d] => { results := [.lit (.bool true)], args := [d] }
  | _ => none }
def fnFramesRow : OpenClaim := { program := "ytagjbadlmcfiaaa", sum := "724b3992b03ee83119aaeb3ba0cc8e0ac28e87799f12d151bf66777f7759cda5", func := "loop.example/g00494/laws.FnFrames", spec := "fnFrames", apart := false }
def FnFramesSaid : Prop := fnFramesRow.holds Try.pinned (OpenSpec.ofChange fnFramesSpec)

/-- ITS FALSE NEIGHBOUR: 'it returns false'. Refute it at one input. -/
def fnFramesWrong : ChangeSpec := { name := "fnFrames", fn := fun _ => fun
  | [d] => { results := [.lit (.bool false)], args := [d] }
  | _ => none }
def FnFramesWrongFalsely : Prop := fnFramesRow.holds Try.pinned (OpenSpec.ofChange fnFramesWrong)

/-- 'laws.FnReqRead': WHATEVER THE INPUT: true; the input reads as it did. -/
def fnReqReadSpec : ChangeSpec := { name := "fnReqRead", fn := fun _ => fun
  | [d] => { results := [.lit (.bool true)], args := [d] }
  | _ => none }
def fnReqReadRow : OpenClaim := { program := "ytagjbadlmcfiaaa", sum := "724b3992b03ee83119aaeb3ba0cc8e0ac28e87799f12d151bf66777f7759cda5", func := "loop.example/g00494/laws.FnReqRead", spec := "fnReqRead", unfollowed := true, recurses := true, apart := false }
def FnReqReadSaid : Prop := fnReqReadRow.holds Try.pinned (OpenSpec.ofChange fnReqReadSpec)

/-- ITS FALSE NEIGHBOUR: 'it returns false'. Refute it at one input. -/
def fnReqReadWrong : ChangeSpec := { name := "fnReqRead", fn := fun _ => fun
  | [d] => { results := [.lit (.bool false)], args := [d] }
  | _ => none }
def FnReqReadWrongFalsely : Prop := fnReqReadRow.holds Try.pinned (OpenSpec.ofChange fnReqReadWrong)

/-- 'laws.FnLog': WHATEVER THE INPUT: true; the input reads as it did. -/
def fnLogSpec : ChangeSpec := { name := "fnLog", fn := fun _ => fun
  | [d] => { results := [.lit (.bool true)], args := [d] }
  | _ => none }
def fnLogRow : OpenClaim := { program := "ytagjbadlmcfiaaa", sum := "724b3992b03ee83119aaeb3ba0cc8e0ac28e87799f12d151bf66777f7759cda5", func := "loop.example/g00494/laws.FnLog", spec := "fnLog", unfollowed := true, recurses := true, apart := false }
def FnLogSaid : Prop := fnLogRow.holds Try.pinned (OpenSpec.ofChange fnLogSpec)

/-- ITS FALSE NEIGHBOUR: 'it returns false'. Refute it at one input. -/
def fnLogWrong : ChangeSpec := { name := "fnLog", fn := fun _ => fun
  | [d] => { results := [.lit (.bool false)], args := [d] }
  | _ => none }
def FnLogWrongFalsely : Prop := fnLogRow.holds Try.pinned (OpenSpec.ofChange fnLogWrong)

/- THE SECOND FORM. 'bulk': how many values and letters a reading holds, each counted each time it is reached (what is shared counts as often as it is met; a slice's spare places count too). A statement '..UptoSaid' is the law's where the arguments, and the package variables that the reading takes, are together of bulk at most 1048576: NARROWER than '..Said'. Prove '..Said' where nothing that the law and all that it calls make is longer than what came in: it says more and counts as full. Else prove '..UptoSaid'. A law counts once. -/
mutual
def uptoBulk {H : Type} : DataW H → Nat
  | .lit (.string bytes) => bytes.length + 1
  | .lit _ => 1
  | .nil => 1
  | .ptr d => uptoBulk d + 1
  | .slice elems spare => uptoBulkAll elems + uptoBulkAll spare + 1
  | .agg parts => uptoBulkAll parts + 1
  | .iface _ d => uptoBulk d + 1
  | .map entries => uptoBulkEntries entries + 1
  | .held _ => 1
def uptoBulkAll {H : Type} : List (DataW H) → Nat
  | [] => 0
  | d :: r => uptoBulk d + uptoBulkAll r
def uptoBulkEntries {H : Type} : List (Lit × DataW H) → Nat
  | [] => 0
  | x :: r => uptoBulkEntry x + uptoBulkEntries r
def uptoBulkEntry {H : Type} : Lit × DataW H → Nat
  | (.string bytes, d) => bytes.length + uptoBulk d + 1
  | (_, d) => uptoBulk d + 1
 end
def uptoSmall : (H : Type) → List (DataW H) → Bool := fun _ ds => decide (uptoBulkAll ds ≤ 1048576)
def OpenSpec.upto (s : _root_.Go.ChangeSpec) : _root_.Go.OpenSpec := { _root_.Go.OpenSpec.ofChange s with cond := some uptoSmall }

/-- 'laws.FnExactReqRead', WHERE WHAT IT READS IS OF BULK AT MOST 1048576: true; the input reads as it did. -/
def fnExactReqReadUptoRow : OpenClaim := { program := "ytagjbadlmcfiaaa", sum := "724b3992b03ee83119aaeb3ba0cc8e0ac28e87799f12d151bf66777f7759cda5", func := "loop.example/g00494/laws.FnExactReqRead", spec := "fnExactReqRead", unfollowed := true, recurses := true, apart := false, narrowed := true }
def FnExactReqReadUptoSaid : Prop := fnExactReqReadUptoRow.holds Try.pinned (OpenSpec.upto fnExactReqReadSpec)

/-- 'laws.FnExactLogUpTo', WHERE WHAT IT READS IS OF BULK AT MOST 1048576: true; the input reads as it did. -/
def fnExactLogUpToUptoRow : OpenClaim := { program := "ytagjbadlmcfiaaa", sum := "724b3992b03ee83119aaeb3ba0cc8e0ac28e87799f12d151bf66777f7759cda5", func := "loop.example/g00494/laws.FnExactLogUpTo", spec := "fnExactLogUpTo", apart := false, narrowed := true }
def FnExactLogUpToUptoSaid : Prop := fnExactLogUpToUptoRow.holds Try.pinned (OpenSpec.upto fnExactLogUpToSpec)

/-- 'laws.FnExactLogOf', WHERE WHAT IT READS IS OF BULK AT MOST 1048576: true; the input reads as it did. -/
def fnExactLogOfUptoRow : OpenClaim := { program := "ytagjbadlmcfiaaa", sum := "724b3992b03ee83119aaeb3ba0cc8e0ac28e87799f12d151bf66777f7759cda5", func := "loop.example/g00494/laws.FnExactLogOf", spec := "fnExactLogOf", unfollowed := true, recurses := true, apart := false, narrowed := true }
def FnExactLogOfUptoSaid : Prop := fnExactLogOfUptoRow.holds Try.pinned (OpenSpec.upto fnExactLogOfSpec)

/-- 'laws.FnExactNotesIn', WHERE WHAT IT READS IS OF BULK AT MOST 1048576: true; the input reads as it did. -/
def fnExactNotesInUptoRow : OpenClaim := { program := "ytagjbadlmcfiaaa", sum := "724b3992b03ee83119aaeb3ba0cc8e0ac28e87799f12d151bf66777f7759cda5", func := "loop.example/g00494/laws.FnExactNotesIn", spec := "fnExactNotesIn", unfollowed := true, recurses := true, apart := false, narrowed := true }
def FnExactNotesInUptoSaid : Prop := fnExactNotesInUptoRow.holds Try.pinned (OpenSpec.upto fnExactNotesInSpec)

/-- 'laws.FnReqBytes', WHERE WHAT IT READS IS OF BULK AT MOST 1048576: true; the input reads as it did. -/
def fnReqBytesUptoRow : OpenClaim := { program := "ytagjbadlmcfiaaa", sum := "724b3992b03ee83119aaeb3ba0cc8e0ac28e87799f12d151bf66777f7759cda5", func := "loop.example/g00494/laws.FnReqBytes", spec := "fnReqBytes", unfollowed := true, recurses := true, apart := false, narrowed := true }
def FnReqBytesUptoSaid : Prop := fnReqBytesUptoRow.holds Try.pinned (OpenSpec.upto fnReqBytesSpec)

/-- 'laws.FnFrames', WHERE WHAT IT READS IS OF BULK AT MOST 1048576: true; the input reads as it did. -/
def fnFramesUptoRow : OpenClaim := { program := "ytagjbadlmcfiaaa", sum := "724b3992b03ee83119aaeb3ba0cc8e0ac28e87799f12d151bf66777f7759cda5", func := "loop.example/g00494/laws.FnFrames", spec := "fnFrames", apart := false, narrowed := true }
def FnFramesUptoSaid : Prop := fnFramesUptoRow.holds Try.pinned (OpenSpec.upto fnFramesSpec)

/-- 'laws.FnReqRead', WHERE WHAT IT READS IS OF BULK AT MOST 1048576: true; the input reads as it did. -/
def fnReqReadUptoRow : OpenClaim := { program := "ytagjbadlmcfiaaa", sum := "724b3992b03ee83119aaeb3ba0cc8e0ac28e87799f12d151bf66777f7759cda5", func := "loop.example/g00494/laws.FnReqRead", spec := "fnReqRead", unfollowed := true, recurses := true, apart := false, narrowed := true }
def FnReqReadUptoSaid : Prop := fnReqReadUptoRow.holds Try.pinned (OpenSpec.upto fnReqReadSpec)

/-- 'laws.FnLog', WHERE WHAT IT READS IS OF BULK AT MOST 1048576: true; the input reads as it did. -/
def fnLogUptoRow : OpenClaim := { program := "ytagjbadlmcfiaaa", sum := "724b3992b03ee83119aaeb3ba0cc8e0ac28e87799f12d151bf66777f7759cda5", func := "loop.example/g00494/laws.FnLog", spec := "fnLog", unfollowed := true, recurses := true, apart := false, narrowed := true }
def FnLogUptoSaid : Prop := fnLogUptoRow.holds Try.pinned (OpenSpec.upto fnLogSpec)

end Rows
end Go.Proofs.Ytagjbadlmcfiaaa
