/-
  No cell of these rows narrows 'for every input' (looked for: loops, veiled, ifaces, maps, wideKeys, modest, calm, conditions, laid).
  DERIVED. THE GIVEN ROWS OF THIS SEAT. 5 by the template 'for every input the law returns true; each argument reads behind the call as it read before'; 0 by the template 'total and deterministic' (their statements: YtifcpnfmfagidaaGreatTotals.lean).
  GIVEN WITH THE SEED: the statements are not yours to turn. If you find one false, say at which input.
  Laid BY PROGRAM, IN A SANDBOX (cutbox-rows.mjs): the forced cells as the released guide's own fill.sh prints them over the translation 00caea12e5e242a7… (all of the seat's roots in one cut). By AI agents, Wed Nov 11 2026. No macro, syntax, notation, axiom, sorry.
-/
import Derived.Test.YtifcpnfmfagidaaGreatChecked
import GoSem.Claim
import GoSem.ClaimJoined
import GoSem.ClaimMapViews
import Derived.JoinedTies
import Derived.KernelRfl
namespace Go.Proofs.YtifcpnfmfagidaaGreat
/- THE CELL 'sum', in the pinned program and in every row, IS THE sha256 OF THE DUMP (.gsa) THAT YtifcpnfmfagidaaGreatProg.lean LOADS. Nothing in Lean hashes anything: it is a label: what it is worth is what the hold of that sum in a sandbox is worth. -/
noncomputable def Tryz.pinned : Pinned := { name := "ytifcpnfmfagidaagreat", sum := "00caea12e5e242a787af2e6d88d65c131a9fe403b1ba6cbad141b4ba40bc3e8d", checked := Tryz.checked }
namespace Rows
def none {H : Type} : Left H := { results := [], args := [] }

/-- 'laws.FnExactSnapText': WHATEVER THE INPUT: true; the input reads as it did. -/
def fnExactSnapTextSpec : ChangeSpec := { name := "fnExactSnapText", fn := fun _ => fun
  | [d1, d2] => { results := [.lit (.bool true)], args := [d1, d2] }
  | _ => none }
def fnExactSnapTextRow : OpenClaim := { program := "ytifcpnfmfagidaagreat", sum := "00caea12e5e242a787af2e6d88d65c131a9fe403b1ba6cbad141b4ba40bc3e8d", func := "loop.example/g00494/laws.FnExactSnapText", spec := "fnExactSnapText", unfollowed := true, recurses := true, apart := false }
def FnExactSnapTextSaid : Prop := fnExactSnapTextRow.holds Tryz.pinned (OpenSpec.ofChange fnExactSnapTextSpec)

/-- ITS FALSE NEIGHBOUR: 'it returns false'. Refute it at one input. -/
def fnExactSnapTextWrong : ChangeSpec := { name := "fnExactSnapText", fn := fun _ => fun
  | [d1, d2] => { results := [.lit (.bool false)], args := [d1, d2] }
  | _ => none }
def FnExactSnapTextWrongFalsely : Prop := fnExactSnapTextRow.holds Tryz.pinned (OpenSpec.ofChange fnExactSnapTextWrong)

/-- 'laws.FnExactHouseNums': WHATEVER THE INPUT: true; the input reads as it did. -/
def fnExactHouseNumsSpec : ChangeSpec := { name := "fnExactHouseNums", fn := fun _ => fun
  | [d] => { results := [.lit (.bool true)], args := [d] }
  | _ => none }
def fnExactHouseNumsRow : OpenClaim := { program := "ytifcpnfmfagidaagreat", sum := "00caea12e5e242a787af2e6d88d65c131a9fe403b1ba6cbad141b4ba40bc3e8d", func := "loop.example/g00494/laws.FnExactHouseNums", spec := "fnExactHouseNums", unfollowed := true, recurses := true, apart := false }
def FnExactHouseNumsSaid : Prop := fnExactHouseNumsRow.holds Tryz.pinned (OpenSpec.ofChange fnExactHouseNumsSpec)

/-- ITS FALSE NEIGHBOUR: 'it returns false'. Refute it at one input. -/
def fnExactHouseNumsWrong : ChangeSpec := { name := "fnExactHouseNums", fn := fun _ => fun
  | [d] => { results := [.lit (.bool false)], args := [d] }
  | _ => none }
def FnExactHouseNumsWrongFalsely : Prop := fnExactHouseNumsRow.holds Tryz.pinned (OpenSpec.ofChange fnExactHouseNumsWrong)

/-- 'laws.FnExactEngineNew': WHATEVER THE INPUT: true; the input reads as it did. -/
def fnExactEngineNewSpec : ChangeSpec := { name := "fnExactEngineNew", fn := fun _ => fun
  | [d] => { results := [.lit (.bool true)], args := [d] }
  | _ => none }
def fnExactEngineNewRow : OpenClaim := { program := "ytifcpnfmfagidaagreat", sum := "00caea12e5e242a787af2e6d88d65c131a9fe403b1ba6cbad141b4ba40bc3e8d", func := "loop.example/g00494/laws.FnExactEngineNew", spec := "fnExactEngineNew", unfollowed := true, recurses := true, apart := false }
def FnExactEngineNewSaid : Prop := fnExactEngineNewRow.holds Tryz.pinned (OpenSpec.ofChange fnExactEngineNewSpec)

/-- ITS FALSE NEIGHBOUR: 'it returns false'. Refute it at one input. -/
def fnExactEngineNewWrong : ChangeSpec := { name := "fnExactEngineNew", fn := fun _ => fun
  | [d] => { results := [.lit (.bool false)], args := [d] }
  | _ => none }
def FnExactEngineNewWrongFalsely : Prop := fnExactEngineNewRow.holds Tryz.pinned (OpenSpec.ofChange fnExactEngineNewWrong)

/-- 'laws.FnExactWorldNew': WHATEVER THE INPUT: true; the input reads as it did. -/
def fnExactWorldNewSpec : ChangeSpec := { name := "fnExactWorldNew", fn := fun _ => fun
  | [d] => { results := [.lit (.bool true)], args := [d] }
  | _ => none }
def fnExactWorldNewRow : OpenClaim := { program := "ytifcpnfmfagidaagreat", sum := "00caea12e5e242a787af2e6d88d65c131a9fe403b1ba6cbad141b4ba40bc3e8d", func := "loop.example/g00494/laws.FnExactWorldNew", spec := "fnExactWorldNew", unfollowed := true, recurses := true, apart := false }
def FnExactWorldNewSaid : Prop := fnExactWorldNewRow.holds Tryz.pinned (OpenSpec.ofChange fnExactWorldNewSpec)

/-- ITS FALSE NEIGHBOUR: 'it returns false'. Refute it at one input. -/
def fnExactWorldNewWrong : ChangeSpec := { name := "fnExactWorldNew", fn := fun _ => fun
  | [d] => { results := [.lit (.bool false)], args := [d] }
  | _ => none }
def FnExactWorldNewWrongFalsely : Prop := fnExactWorldNewRow.holds Tryz.pinned (OpenSpec.ofChange fnExactWorldNewWrong)

/-- 'laws.FnExactLay': WHATEVER THE INPUT: true; the input reads as it did. -/
def fnExactLaySpec : ChangeSpec := { name := "fnExactLay", fn := fun _ => fun
  | [d1, d2] => { results := [.lit (.bool true)], args := [d1, d2] }
  | _ => none }
def fnExactLayRow : OpenClaim := { program := "ytifcpnfmfagidaagreat", sum := "00caea12e5e242a787af2e6d88d65c131a9fe403b1ba6cbad141b4ba40bc3e8d", func := "loop.example/g00494/laws.FnExactLay", spec := "fnExactLay", unfollowed := true, recurses := true, apart := false }
def FnExactLaySaid : Prop := fnExactLayRow.holds Tryz.pinned (OpenSpec.ofChange fnExactLaySpec)

/-- ITS FALSE NEIGHBOUR: 'it returns false'. Refute it at one input. -/
def fnExactLayWrong : ChangeSpec := { name := "fnExactLay", fn := fun _ => fun
  | [d1, d2] => { results := [.lit (.bool false)], args := [d1, d2] }
  | _ => none }
def FnExactLayWrongFalsely : Prop := fnExactLayRow.holds Tryz.pinned (OpenSpec.ofChange fnExactLayWrong)

/- THE SECOND FORM. 'bulk': how many values and letters a reading holds, each counted each time it is reached (what is shared counts as often as it is met; a slice's spare places count too). A statement '..UptoSaid' is the law's where the arguments, and the package variables that the reading takes, are together of bulk at most 1048576: NARROWER than '..Said'. Prove '..Said' where nothing that the law and all that it calls make is longer than what came in: it says more and counts as full. Else prove '..UptoSaid'. A law counts once. -/
mutual
def uptoBulk {H : Type} : DataW H → Nat
  | .lit (.string bytes) => bytes.length + 1
  | .lit _ => 1
  | .nil => 1
  | .ptr d => uptoBulk d + 1
  | .slice elems spare => uptoBulkAll elems + uptoBulkAll spare + 1
  | .agg parts => uptoBulkAll parts + 1
  | .iface _ d => uptoBulk d + 1
  | .map entries => uptoBulkEntries entries + 1
  | .held _ => 1
def uptoBulkAll {H : Type} : List (DataW H) → Nat
  | [] => 0
  | d :: r => uptoBulk d + uptoBulkAll r
def uptoBulkEntries {H : Type} : List (Lit × DataW H) → Nat
  | [] => 0
  | x :: r => uptoBulkEntry x + uptoBulkEntries r
def uptoBulkEntry {H : Type} : Lit × DataW H → Nat
  | (.string bytes, d) => bytes.length + uptoBulk d + 1
  | (_, d) => uptoBulk d + 1
 end
def uptoSmall : (H : Type) → List (DataW H) → Bool := fun _ ds => decide (uptoBulkAll ds ≤ 1048576)
def OpenSpec.upto (s : _root_.Go.ChangeSpec) : _root_.Go.OpenSpec := { _root_.Go.OpenSpec.ofChange s with cond := some uptoSmall }

/-- 'laws.FnExactSnapText', WHERE WHAT IT READS IS OF BULK AT MOST 1048576: true; the input reads as it did. -/
def fnExactSnapTextUptoRow : OpenClaim := { program := "ytifcpnfmfagidaagreat", sum := "00caea12e5e242a787af2e6d88d65c131a9fe403b1ba6cbad141b4ba40bc3e8d", func := "loop.example/g00494/laws.FnExactSnapText", spec := "fnExactSnapText", unfollowed := true, recurses := true, apart := false, narrowed := true }
def FnExactSnapTextUptoSaid : Prop := fnExactSnapTextUptoRow.holds Tryz.pinned (OpenSpec.upto fnExactSnapTextSpec)

/-- 'laws.FnExactHouseNums', WHERE WHAT IT READS IS OF BULK AT MOST 1048576: true; the input reads as it did. -/
def fnExactHouseNumsUptoRow : OpenClaim := { program := "ytifcpnfmfagidaagreat", sum := "00caea12e5e242a787af2e6d88d65c131a9fe403b1ba6cbad141b4ba40bc3e8d", func := "loop.example/g00494/laws.FnExactHouseNums", spec := "fnExactHouseNums", unfollowed := true, recurses := true, apart := false, narrowed := true }
def FnExactHouseNumsUptoSaid : Prop := fnExactHouseNumsUptoRow.holds Tryz.pinned (OpenSpec.upto fnExactHouseNumsSpec)

/-- 'laws.FnExactEngineNew', WHERE WHAT IT READS IS OF BULK AT MOST 1048576: true; the input reads as it did. -/
def fnExactEngineNewUptoRow : OpenClaim := { program := "ytifcpnfmfagidaagreat", sum := "00caea12e5e242a787af2e6d88d65c131a9fe403b1ba6cbad141b4ba40bc3e8d", func := "loop.example/g00494/laws.FnExactEngineNew", spec := "fnExactEngineNew", unfollowed := true, recurses := true, apart := false, narrowed := true }
def FnExactEngineNewUptoSaid : Prop := fnExactEngineNewUptoRow.holds Tryz.pinned (OpenSpec.upto fnExactEngineNewSpec)

/-- 'laws.FnExactWorldNew', WHERE WHAT IT READS IS OF BULK AT MOST 1048576: true; the input reads as it did. -/
def fnExactWorldNewUptoRow : OpenClaim := { program := "ytifcpnfmfagidaagreat", sum := "00caea12e5e242a787af2e6d88d65c131a9fe403b1ba6cbad141b4ba40bc3e8d", func := "loop.example/g00494/laws.FnExactWorldNew", spec := "fnExactWorldNew", unfollowed := true, recurses := true, apart := false, narrowed := true }
def FnExactWorldNewUptoSaid : Prop := fnExactWorldNewUptoRow.holds Tryz.pinned (OpenSpec.upto fnExactWorldNewSpec)

/-- 'laws.FnExactLay', WHERE WHAT IT READS IS OF BULK AT MOST 1048576: true; the input reads as it did. -/
def fnExactLayUptoRow : OpenClaim := { program := "ytifcpnfmfagidaagreat", sum := "00caea12e5e242a787af2e6d88d65c131a9fe403b1ba6cbad141b4ba40bc3e8d", func := "loop.example/g00494/laws.FnExactLay", spec := "fnExactLay", unfollowed := true, recurses := true, apart := false, narrowed := true }
def FnExactLayUptoSaid : Prop := fnExactLayUptoRow.holds Tryz.pinned (OpenSpec.upto fnExactLaySpec)

end Rows
end Go.Proofs.YtifcpnfmfagidaaGreat
