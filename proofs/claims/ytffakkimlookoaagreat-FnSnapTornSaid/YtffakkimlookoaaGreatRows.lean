/-
  No cell of these rows narrows 'for every input' (looked for: loops, veiled, ifaces, maps, wideKeys, modest, calm, conditions, laid).
  DERIVED. THE GIVEN ROWS OF THIS SEAT. 7 by the template 'for every input the law returns true; each argument reads behind the call as it read before'; 0 by the template 'total and deterministic' (their statements: YtffakkimlookoaaGreatTotals.lean).
  GIVEN WITH THE SEED: the statements are not yours to turn. If you find one false, say at which input.
  Laid BY PROGRAM, IN A SANDBOX (cutbox-rows.mjs): the forced cells as the released guide's own fill.sh prints them over the translation d4f8440e062c617c… (all of the seat's roots in one cut). By AI agents, Wed Nov 11 2026. No macro, syntax, notation, axiom, sorry.
-/
import Derived.Test.YtffakkimlookoaaGreatChecked
import GoSem.Claim
import GoSem.ClaimJoined
import GoSem.ClaimMapViews
import Derived.JoinedTies
import Derived.KernelRfl
namespace Go.Proofs.YtffakkimlookoaaGreat
/- THE CELL 'sum', in the pinned program and in every row, IS THE sha256 OF THE DUMP (.gsa) THAT YtffakkimlookoaaGreatProg.lean LOADS. Nothing in Lean hashes anything: it is a label: what it is worth is what the hold of that sum in a sandbox is worth. -/
noncomputable def Tryz.pinned : Pinned := { name := "ytffakkimlookoaagreat", sum := "d4f8440e062c617c45ccbfed62d22e882cc09cdf5e36fe536b18558a96472b0f", checked := Tryz.checked }
namespace Rows
def none {H : Type} : Left H := { results := [], args := [] }

/-- 'laws.FnNums': WHATEVER THE INPUT: true; the input reads as it did. -/
def fnNumsSpec : ChangeSpec := { name := "fnNums", fn := fun _ => fun
  | [d] => { results := [.lit (.bool true)], args := [d] }
  | _ => none }
def fnNumsRow : OpenClaim := { program := "ytffakkimlookoaagreat", sum := "d4f8440e062c617c45ccbfed62d22e882cc09cdf5e36fe536b18558a96472b0f", func := "loop.example/g00494/laws.FnNums", spec := "fnNums", inPlace := ["slices.overlaps[loop.example/g00494/impl.Pin]"], unfollowed := true, recurses := true, apart := false }
def FnNumsSaid : Prop := fnNumsRow.holds Tryz.pinned (OpenSpec.ofChange fnNumsSpec)

/-- ITS FALSE NEIGHBOUR: 'it returns false'. Refute it at one input. -/
def fnNumsWrong : ChangeSpec := { name := "fnNums", fn := fun _ => fun
  | [d] => { results := [.lit (.bool false)], args := [d] }
  | _ => none }
def FnNumsWrongFalsely : Prop := fnNumsRow.holds Tryz.pinned (OpenSpec.ofChange fnNumsWrong)

/-- 'laws.FnExactNewer': WHATEVER THE INPUT: true; the input reads as it did. -/
def fnExactNewerSpec : ChangeSpec := { name := "fnExactNewer", fn := fun _ => fun
  | [d] => { results := [.lit (.bool true)], args := [d] }
  | _ => none }
def fnExactNewerRow : OpenClaim := { program := "ytffakkimlookoaagreat", sum := "d4f8440e062c617c45ccbfed62d22e882cc09cdf5e36fe536b18558a96472b0f", func := "loop.example/g00494/laws.FnExactNewer", spec := "fnExactNewer", inPlace := ["slices.overlaps[loop.example/g00494/impl.Pin]"], unfollowed := true, recurses := true, apart := false }
def FnExactNewerSaid : Prop := fnExactNewerRow.holds Tryz.pinned (OpenSpec.ofChange fnExactNewerSpec)

/-- ITS FALSE NEIGHBOUR: 'it returns false'. Refute it at one input. -/
def fnExactNewerWrong : ChangeSpec := { name := "fnExactNewer", fn := fun _ => fun
  | [d] => { results := [.lit (.bool false)], args := [d] }
  | _ => none }
def FnExactNewerWrongFalsely : Prop := fnExactNewerRow.holds Tryz.pinned (OpenSpec.ofChange fnExactNewerWrong)

/-- 'laws.FnSnapTorn': WHATEVER THE INPUT: true; the input reads as it did. -/
def fnSnapTornSpec : ChangeSpec := { name := "fnSnapTorn", fn := fun _ => fun
  | [d] => { results := [.lit (.bool true)], args := [d] }
  | _ => none }
def fnSnapTornRow : OpenClaim := { program := "ytffakkimlookoaagreat", sum := "d4f8440e062c617c45ccbfed62d22e882cc09cdf5e36fe536b18558a96472b0f", func := "loop.example/g00494/laws.FnSnapTorn", spec := "fnSnapTorn", inPlace := ["slices.overlaps[loop.example/g00494/impl.Pin]"], unfollowed := true, recurses := true, apart := false }
def FnSnapTornSaid : Prop := fnSnapTornRow.holds Tryz.pinned (OpenSpec.ofChange fnSnapTornSpec)

/-- ITS FALSE NEIGHBOUR: 'it returns false'. Refute it at one input. -/
def fnSnapTornWrong : ChangeSpec := { name := "fnSnapTorn", fn := fun _ => fun
  | [d] => { results := [.lit (.bool false)], args := [d] }
  | _ => none }
def FnSnapTornWrongFalsely : Prop := fnSnapTornRow.holds Tryz.pinned (OpenSpec.ofChange fnSnapTornWrong)

/-- 'laws.FnSnap': WHATEVER THE INPUT: true; the input reads as it did. -/
def fnSnapSpec : ChangeSpec := { name := "fnSnap", fn := fun _ => fun
  | [d] => { results := [.lit (.bool true)], args := [d] }
  | _ => none }
def fnSnapRow : OpenClaim := { program := "ytffakkimlookoaagreat", sum := "d4f8440e062c617c45ccbfed62d22e882cc09cdf5e36fe536b18558a96472b0f", func := "loop.example/g00494/laws.FnSnap", spec := "fnSnap", inPlace := ["slices.overlaps[loop.example/g00494/impl.Pin]"], unfollowed := true, recurses := true, apart := false }
def FnSnapSaid : Prop := fnSnapRow.holds Tryz.pinned (OpenSpec.ofChange fnSnapSpec)

/-- ITS FALSE NEIGHBOUR: 'it returns false'. Refute it at one input. -/
def fnSnapWrong : ChangeSpec := { name := "fnSnap", fn := fun _ => fun
  | [d] => { results := [.lit (.bool false)], args := [d] }
  | _ => none }
def FnSnapWrongFalsely : Prop := fnSnapRow.holds Tryz.pinned (OpenSpec.ofChange fnSnapWrong)

/-- 'laws.FnExactHouseIn': WHATEVER THE INPUT: true; the input reads as it did. -/
def fnExactHouseInSpec : ChangeSpec := { name := "fnExactHouseIn", fn := fun _ => fun
  | [d] => { results := [.lit (.bool true)], args := [d] }
  | _ => none }
def fnExactHouseInRow : OpenClaim := { program := "ytffakkimlookoaagreat", sum := "d4f8440e062c617c45ccbfed62d22e882cc09cdf5e36fe536b18558a96472b0f", func := "loop.example/g00494/laws.FnExactHouseIn", spec := "fnExactHouseIn", inPlace := ["slices.overlaps[loop.example/g00494/impl.Pin]"], unfollowed := true, recurses := true, apart := false }
def FnExactHouseInSaid : Prop := fnExactHouseInRow.holds Tryz.pinned (OpenSpec.ofChange fnExactHouseInSpec)

/-- ITS FALSE NEIGHBOUR: 'it returns false'. Refute it at one input. -/
def fnExactHouseInWrong : ChangeSpec := { name := "fnExactHouseIn", fn := fun _ => fun
  | [d] => { results := [.lit (.bool false)], args := [d] }
  | _ => none }
def FnExactHouseInWrongFalsely : Prop := fnExactHouseInRow.holds Tryz.pinned (OpenSpec.ofChange fnExactHouseInWrong)

/-- 'laws.FnExactSnapRead': WHATEVER THE INPUT: true; the input reads as it did. -/
def fnExactSnapReadSpec : ChangeSpec := { name := "fnExactSnapRead", fn := fun _ => fun
  | [d] => { results := [.lit (.bool true)], args := [d] }
  | _ => none }
def fnExactSnapReadRow : OpenClaim := { program := "ytffakkimlookoaagreat", sum := "d4f8440e062c617c45ccbfed62d22e882cc09cdf5e36fe536b18558a96472b0f", func := "loop.example/g00494/laws.FnExactSnapRead", spec := "fnExactSnapRead", inPlace := ["slices.overlaps[loop.example/g00494/impl.Pin]"], unfollowed := true, recurses := true, apart := false }
def FnExactSnapReadSaid : Prop := fnExactSnapReadRow.holds Tryz.pinned (OpenSpec.ofChange fnExactSnapReadSpec)

/-- ITS FALSE NEIGHBOUR: 'it returns false'. Refute it at one input. -/
def fnExactSnapReadWrong : ChangeSpec := { name := "fnExactSnapRead", fn := fun _ => fun
  | [d] => { results := [.lit (.bool false)], args := [d] }
  | _ => none }
def FnExactSnapReadWrongFalsely : Prop := fnExactSnapReadRow.holds Tryz.pinned (OpenSpec.ofChange fnExactSnapReadWrong)

/-- 'laws.FnExactSlotRead': WHATEVER THE INPUT: true; the input reads as it did. -/
def fnExactSlotReadSpec : ChangeSpec := { name := "fnExactSlotRead", fn := fun _ => fun
  | [d1, d2] => { results := [.lit (.bool true)], args := [d1, d2] }
  | _ => none }
def fnExactSlotReadRow : OpenClaim := { program := "ytffakkimlookoaagreat", sum := "d4f8440e062c617c45ccbfed62d22e882cc09cdf5e36fe536b18558a96472b0f", func := "loop.example/g00494/laws.FnExactSlotRead", spec := "fnExactSlotRead", inPlace := ["slices.overlaps[loop.example/g00494/impl.Pin]"], unfollowed := true, recurses := true, apart := false }
def FnExactSlotReadSaid : Prop := fnExactSlotReadRow.holds Tryz.pinned (OpenSpec.ofChange fnExactSlotReadSpec)

/-- ITS FALSE NEIGHBOUR: 'it returns false'. Refute it at one input. -/
def fnExactSlotReadWrong : ChangeSpec := { name := "fnExactSlotRead", fn := fun _ => fun
  | [d1, d2] => { results := [.lit (.bool false)], args := [d1, d2] }
  | _ => none }
def FnExactSlotReadWrongFalsely : Prop := fnExactSlotReadRow.holds Tryz.pinned (OpenSpec.ofChange fnExactSlotReadWrong)

/- THE SECOND FORM. 'bulk': how many values and letters a reading holds, each counted each time it is reached (what is shared counts as often as it is met; a slice's spare places count too). A statement '..UptoSaid' is the law's where the arguments, and the package variables that the reading takes, are together of bulk at most 1048576: NARROWER than '..Said'. Prove '..Said' where nothing that the law and all that it calls make is longer than what came in: it says more and counts as full. Else prove '..UptoSaid'. A law counts once. -/
mutual
def uptoBulk {H : Type} : DataW H → Nat
  | .lit (.string bytes) => bytes.length + 1
  | .lit _ => 1
  | .nil => 1
  | .ptr d => uptoBulk d + 1
  | .slice elems spare => uptoBulkAll elems + uptoBulkAll spare + 1
  | .agg parts => uptoBulkAll parts + 1
  | .iface _ d => uptoBulk d + 1
  | .map entries => uptoBulkEntries entries + 1
  | .held _ => 1
def uptoBulkAll {H : Type} : List (DataW H) → Nat
  | [] => 0
  | d :: r => uptoBulk d + uptoBulkAll r
def uptoBulkEntries {H : Type} : List (Lit × DataW H) → Nat
  | [] => 0
  | x :: r => uptoBulkEntry x + uptoBulkEntries r
def uptoBulkEntry {H : Type} : Lit × DataW H → Nat
  | (.string bytes, d) => bytes.length + uptoBulk d + 1
  | (_, d) => uptoBulk d + 1
 end
def uptoSmall : (H : Type) → List (DataW H) → Bool := fun _ ds => decide (uptoBulkAll ds ≤ 1048576)
def OpenSpec.upto (s : _root_.Go.ChangeSpec) : _root_.Go.OpenSpec := { _root_.Go.OpenSpec.ofChange s with cond := some uptoSmall }

/-- 'laws.FnNums', WHERE WHAT IT READS IS OF BULK AT MOST 1048576: true; the input reads as it did. -/
def fnNumsUptoRow : OpenClaim := { program := "ytffakkimlookoaagreat", sum := "d4f8440e062c617c45ccbfed62d22e882cc09cdf5e36fe536b18558a96472b0f", func := "loop.example/g00494/laws.FnNums", spec := "fnNums", inPlace := ["slices.overlaps[loop.example/g00494/impl.Pin]"], unfollowed := true, recurses := true, apart := false, narrowed := true }
def FnNumsUptoSaid : Prop := fnNumsUptoRow.holds Tryz.pinned (OpenSpec.upto fnNumsSpec)

/-- 'laws.FnExactNewer', WHERE WHAT IT READS IS OF BULK AT MOST 1048576: true; the input reads as it did. -/
def fnExactNewerUptoRow : OpenClaim := { program := "ytffakkimlookoaagreat", sum := "d4f8440e062c617c45ccbfed62d22e882cc09cdf5e36fe536b18558a96472b0f", func := "loop.example/g00494/laws.FnExactNewer", spec := "fnExactNewer", inPlace := ["slices.overlaps[loop.example/g00494/impl.Pin]"], unfollowed := true, recurses := true, apart := false, narrowed := true }
def FnExactNewerUptoSaid : Prop := fnExactNewerUptoRow.holds Tryz.pinned (OpenSpec.upto fnExactNewerSpec)

/-- 'laws.FnSnapTorn', WHERE WHAT IT READS IS OF BULK AT MOST 1048576: true; the input reads as it did. -/
def fnSnapTornUptoRow : OpenClaim := { program := "ytffakkimlookoaagreat", sum := "d4f8440e062c617c45ccbfed62d22e882cc09cdf5e36fe536b18558a96472b0f", func := "loop.example/g00494/laws.FnSnapTorn", spec := "fnSnapTorn", inPlace := ["slices.overlaps[loop.example/g00494/impl.Pin]"], unfollowed := true, recurses := true, apart := false, narrowed := true }
def FnSnapTornUptoSaid : Prop := fnSnapTornUptoRow.holds Tryz.pinned (OpenSpec.upto fnSnapTornSpec)

/-- 'laws.FnSnap', WHERE WHAT IT READS IS OF BULK AT MOST 1048576: true; the input reads as it did. -/
def fnSnapUptoRow : OpenClaim := { program := "ytffakkimlookoaagreat", sum := "d4f8440e062c617c45ccbfed62d22e882cc09cdf5e36fe536b18558a96472b0f", func := "loop.example/g00494/laws.FnSnap", spec := "fnSnap", inPlace := ["slices.overlaps[loop.example/g00494/impl.Pin]"], unfollowed := true, recurses := true, apart := false, narrowed := true }
def FnSnapUptoSaid : Prop := fnSnapUptoRow.holds Tryz.pinned (OpenSpec.upto fnSnapSpec)

/-- 'laws.FnExactHouseIn', WHERE WHAT IT READS IS OF BULK AT MOST 1048576: true; the input reads as it did. -/
def fnExactHouseInUptoRow : OpenClaim := { program := "ytffakkimlookoaagreat", sum := "d4f8440e062c617c45ccbfed62d22e882cc09cdf5e36fe536b18558a96472b0f", func := "loop.example/g00494/laws.FnExactHouseIn", spec := "fnExactHouseIn", inPlace := ["slices.overlaps[loop.example/g00494/impl.Pin]"], unfollowed := true, recurses := true, apart := false, narrowed := true }
def FnExactHouseInUptoSaid : Prop := fnExactHouseInUptoRow.holds Tryz.pinned (OpenSpec.upto fnExactHouseInSpec)

/-- 'laws.FnExactSnapRead', WHERE WHAT IT READS IS OF BULK AT MOST 1048576: true; the input reads as it did. -/
def fnExactSnapReadUptoRow : OpenClaim := { program := "ytffakkimlookoaagreat", sum := "d4f8440e062c617c45ccbfed62d22e882cc09cdf5e36fe536b18558a96472b0f", func := "loop.example/g00494/laws.FnExactSnapRead", spec := "fnExactSnapRead", inPlace := ["slices.overlaps[loop.example/g00494/impl.Pin]"], unfollowed := true, recurses := true, apart := false, narrowed := true }
def FnExactSnapReadUptoSaid : Prop := fnExactSnapReadUptoRow.holds Tryz.pinned (OpenSpec.upto fnExactSnapReadSpec)

/-- 'laws.FnExactSlotRead', WHERE WHAT IT READS IS OF BULK AT MOST 1048576: true; the input reads as it did. -/
def fnExactSlotReadUptoRow : OpenClaim := { program := "ytffakkimlookoaagreat", sum := "d4f8440e062c617c45ccbfed62d22e882cc09cdf5e36fe536b18558a96472b0f", func := "loop.example/g00494/laws.FnExactSlotRead", spec := "fnExactSlotRead", inPlace := ["slices.overlaps[loop.example/g00494/impl.Pin]"], unfollowed := true, recurses := true, apart := false, narrowed := true }
def FnExactSlotReadUptoSaid : Prop := fnExactSlotReadUptoRow.holds Tryz.pinned (OpenSpec.upto fnExactSlotReadSpec)

end Rows
end Go.Proofs.YtffakkimlookoaaGreat
