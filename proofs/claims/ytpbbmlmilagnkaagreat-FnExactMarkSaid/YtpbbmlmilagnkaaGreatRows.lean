/-
  No cell of these rows narrows 'for every input' (looked for: loops, veiled, ifaces, maps, wideKeys, modest, calm, conditions, laid).
  DERIVED. THE GIVEN ROWS OF THIS SEAT. 4 by the template 'for every input the law returns true; each argument reads behind the call as it read before'; 0 by the template 'total and deterministic' (their statements: YtpbbmlmilagnkaaGreatTotals.lean).
  GIVEN WITH THE SEED: the statements are not yours to turn. If you find one false, say at which input.
  Laid BY PROGRAM, IN A SANDBOX (cutbox-rows.mjs): the forced cells as the released guide's own fill.sh prints them over the translation 265f7d58e519f524… (all of the seat's roots in one cut). By AI agents, Wed Nov 11 2026. No macro, syntax, notation, axiom, sorry.
-/
import Derived.Test.YtpbbmlmilagnkaaGreatChecked
import GoSem.Claim
import GoSem.ClaimJoined
import GoSem.ClaimMapViews
import Derived.JoinedTies
import Derived.KernelRfl
namespace Go.Proofs.YtpbbmlmilagnkaaGreat
/- THE CELL 'sum', in the pinned program and in every row, IS THE sha256 OF THE DUMP (.gsa) THAT YtpbbmlmilagnkaaGreatProg.lean LOADS. Nothing in Lean hashes anything: it is a label: what it is worth is what the hold of that sum in a sandbox is worth. -/
noncomputable def Tryz.pinned : Pinned := { name := "ytpbbmlmilagnkaagreat", sum := "265f7d58e519f52462e23f0947bee8973266d9879a8627c317e5de80e1fc5ab4", checked := Tryz.checked }
namespace Rows
def none {H : Type} : Left H := { results := [], args := [] }

/-- 'laws.FnExactMarkStep': WHATEVER THE INPUT: true; the input reads as it did. -/
def fnExactMarkStepSpec : ChangeSpec := { name := "fnExactMarkStep", fn := fun _ => fun
  | [d1, d2] => { results := [.lit (.bool true)], args := [d1, d2] }
  | _ => none }
def fnExactMarkStepRow : OpenClaim := { program := "ytpbbmlmilagnkaagreat", sum := "265f7d58e519f52462e23f0947bee8973266d9879a8627c317e5de80e1fc5ab4", func := "loop.example/g00494/laws.FnExactMarkStep", spec := "fnExactMarkStep", inPlace := ["slices.overlaps[loop.example/g00494/impl.Pin]"], unfollowed := true, recurses := true, apart := false }
def FnExactMarkStepSaid : Prop := fnExactMarkStepRow.holds Tryz.pinned (OpenSpec.ofChange fnExactMarkStepSpec)

/-- ITS FALSE NEIGHBOUR: 'it returns false'. Refute it at one input. -/
def fnExactMarkStepWrong : ChangeSpec := { name := "fnExactMarkStep", fn := fun _ => fun
  | [d1, d2] => { results := [.lit (.bool false)], args := [d1, d2] }
  | _ => none }
def FnExactMarkStepWrongFalsely : Prop := fnExactMarkStepRow.holds Tryz.pinned (OpenSpec.ofChange fnExactMarkStepWrong)

/-- 'laws.FnExactMark': WHATEVER THE INPUT: true; the input reads as it did. -/
def fnExactMarkSpec : ChangeSpec := { name := "fnExactMark", fn := fun _ => fun
  | [d1, d2] => { results := [.lit (.bool true)], args := [d1, d2] }
  | _ => none }
def fnExactMarkRow : OpenClaim := { program := "ytpbbmlmilagnkaagreat", sum := "265f7d58e519f52462e23f0947bee8973266d9879a8627c317e5de80e1fc5ab4", func := "loop.example/g00494/laws.FnExactMark", spec := "fnExactMark", inPlace := ["slices.overlaps[loop.example/g00494/impl.Pin]"], unfollowed := true, recurses := true, apart := false }
def FnExactMarkSaid : Prop := fnExactMarkRow.holds Tryz.pinned (OpenSpec.ofChange fnExactMarkSpec)

/-- ITS FALSE NEIGHBOUR: 'it returns false'. Refute it at one input. -/
def fnExactMarkWrong : ChangeSpec := { name := "fnExactMark", fn := fun _ => fun
  | [d1, d2] => { results := [.lit (.bool false)], args := [d1, d2] }
  | _ => none }
def FnExactMarkWrongFalsely : Prop := fnExactMarkRow.holds Tryz.pinned (OpenSpec.ofChange fnExactMarkWrong)

/-- 'laws.FnExactStays': WHATEVER THE INPUT: true; the input reads as it did. -/
def fnExactStaysSpec : ChangeSpec := { name := "fnExactStays", fn := fun _ => fun
  | [d] => { results := [.lit (.bool true)], args := [d] }
  | _ => none }
def fnExactStaysRow : OpenClaim := { program := "ytpbbmlmilagnkaagreat", sum := "265f7d58e519f52462e23f0947bee8973266d9879a8627c317e5de80e1fc5ab4", func := "loop.example/g00494/laws.FnExactStays", spec := "fnExactStays", inPlace := ["slices.overlaps[loop.example/g00494/impl.Party]", "slices.overlaps[loop.example/g00494/impl.Entry]", "slices.overlaps[loop.example/g00494/impl.Pin]"], unfollowed := true, recurses := true, apart := false }
def FnExactStaysSaid : Prop := fnExactStaysRow.holds Tryz.pinned (OpenSpec.ofChange fnExactStaysSpec)

/-- ITS FALSE NEIGHBOUR: 'it returns false'. Refute it at one input. -/
def fnExactStaysWrong : ChangeSpec := { name := "fnExactStays", fn := fun _ => fun
  | [d] => { results := [.lit (.bool false)], args := [d] }
  | _ => none }
def FnExactStaysWrongFalsely : Prop := fnExactStaysRow.holds Tryz.pinned (OpenSpec.ofChange fnExactStaysWrong)

/-- 'laws.FnExactSeal': WHATEVER THE INPUT: true; the input reads as it did. -/
def fnExactSealSpec : ChangeSpec := { name := "fnExactSeal", fn := fun _ => fun
  | [d] => { results := [.lit (.bool true)], args := [d] }
  | _ => none }
def fnExactSealRow : OpenClaim := { program := "ytpbbmlmilagnkaagreat", sum := "265f7d58e519f52462e23f0947bee8973266d9879a8627c317e5de80e1fc5ab4", func := "loop.example/g00494/laws.FnExactSeal", spec := "fnExactSeal", inPlace := ["slices.overlaps[loop.example/g00494/impl.Party]", "slices.overlaps[loop.example/g00494/impl.Entry]", "slices.overlaps[loop.example/g00494/impl.Pin]"], unfollowed := true, recurses := true, apart := false }
def FnExactSealSaid : Prop := fnExactSealRow.holds Tryz.pinned (OpenSpec.ofChange fnExactSealSpec)

/-- ITS FALSE NEIGHBOUR: 'it returns false'. Refute it at one input. -/
def fnExactSealWrong : ChangeSpec := { name := "fnExactSeal", fn := fun _ => fun
  | [d] => { results := [.lit (.bool false)], args := [d] }
  | _ => none }
def FnExactSealWrongFalsely : Prop := fnExactSealRow.holds Tryz.pinned (OpenSpec.ofChange fnExactSealWrong)

/- THE SECOND FORM. 'bulk': how many values and letters a reading holds, each counted each time it is reached (what is shared counts as often as it is met; a slice's spare places count too). A statement '..UptoSaid' is the law's where the arguments, and the package variables that the reading takes, are together of bulk at most 1048576: NARROWER than '..Said'. Prove '..Said' where nothing that the law and all that it calls make is longer than what came in: it says more and counts as full. Else prove '..UptoSaid'. A law counts once. -/
mutual
def uptoBulk {H : Type} : DataW H → Nat
  | .lit (.string bytes) => bytes.length + 1
  | .lit _ => 1
  | .nil => 1
  | .ptr d => uptoBulk d + 1
  | .slice elems spare => uptoBulkAll elems + uptoBulkAll spare + 1
  | .agg parts => uptoBulkAll parts + 1
  | .iface _ d => uptoBulk d + 1
  | .map entries => uptoBulkEntries entries + 1
  | .held _ => 1
def uptoBulkAll {H : Type} : List (DataW H) → Nat
  | [] => 0
  | d :: r => uptoBulk d + uptoBulkAll r
def uptoBulkEntries {H : Type} : List (Lit × DataW H) → Nat
  | [] => 0
  | x :: r => uptoBulkEntry x + uptoBulkEntries r
def uptoBulkEntry {H : Type} : Lit × DataW H → Nat
  | (.string bytes, d) => bytes.length + uptoBulk d + 1
  | (_, d) => uptoBulk d + 1
 end
def uptoSmall : (H : Type) → List (DataW H) → Bool := fun _ ds => decide (uptoBulkAll ds ≤ 1048576)
def OpenSpec.upto (s : _root_.Go.ChangeSpec) : _root_.Go.OpenSpec := { _root_.Go.OpenSpec.ofChange s with cond := some uptoSmall }

/-- 'laws.FnExactMarkStep', WHERE WHAT IT READS IS OF BULK AT MOST 1048576: true; the input reads as it did. -/
def fnExactMarkStepUptoRow : OpenClaim := { program := "ytpbbmlmilagnkaagreat", sum := "265f7d58e519f52462e23f0947bee8973266d9879a8627c317e5de80e1fc5ab4", func := "loop.example/g00494/laws.FnExactMarkStep", spec := "fnExactMarkStep", inPlace := ["slices.overlaps[loop.example/g00494/impl.Pin]"], unfollowed := true, recurses := true, apart := false, narrowed := true }
def FnExactMarkStepUptoSaid : Prop := fnExactMarkStepUptoRow.holds Tryz.pinned (OpenSpec.upto fnExactMarkStepSpec)

/-- 'laws.FnExactMark', WHERE WHAT IT READS IS OF BULK AT MOST 1048576: true; the input reads as it did. -/
def fnExactMarkUptoRow : OpenClaim := { program := "ytpbbmlmilagnkaagreat", sum := "265f7d58e519f52462e23f0947bee8973266d9879a8627c317e5de80e1fc5ab4", func := "loop.example/g00494/laws.FnExactMark", spec := "fnExactMark", inPlace := ["slices.overlaps[loop.example/g00494/impl.Pin]"], unfollowed := true, recurses := true, apart := false, narrowed := true }
def FnExactMarkUptoSaid : Prop := fnExactMarkUptoRow.holds Tryz.pinned (OpenSpec.upto fnExactMarkSpec)

/-- 'laws.FnExactStays', WHERE WHAT IT READS IS OF BULK AT MOST 1048576: true; the input reads as it did. -/
def fnExactStaysUptoRow : OpenClaim := { program := "ytpbbmlmilagnkaagreat", sum := "265f7d58e519f52462e23f0947bee8973266d9879a8627c317e5de80e1fc5ab4", func := "loop.example/g00494/laws.FnExactStays", spec := "fnExactStays", inPlace := ["slices.overlaps[loop.example/g00494/impl.Party]", "slices.overlaps[loop.example/g00494/impl.Entry]", "slices.overlaps[loop.example/g00494/impl.Pin]"], unfollowed := true, recurses := true, apart := false, narrowed := true }
def FnExactStaysUptoSaid : Prop := fnExactStaysUptoRow.holds Tryz.pinned (OpenSpec.upto fnExactStaysSpec)

/-- 'laws.FnExactSeal', WHERE WHAT IT READS IS OF BULK AT MOST 1048576: true; the input reads as it did. -/
def fnExactSealUptoRow : OpenClaim := { program := "ytpbbmlmilagnkaagreat", sum := "265f7d58e519f52462e23f0947bee8973266d9879a8627c317e5de80e1fc5ab4", func := "loop.example/g00494/laws.FnExactSeal", spec := "fnExactSeal", inPlace := ["slices.overlaps[loop.example/g00494/impl.Party]", "slices.overlaps[loop.example/g00494/impl.Entry]", "slices.overlaps[loop.example/g00494/impl.Pin]"], unfollowed := true, recurses := true, apart := false, narrowed := true }
def FnExactSealUptoSaid : Prop := fnExactSealUptoRow.holds Tryz.pinned (OpenSpec.upto fnExactSealSpec)

end Rows
end Go.Proofs.YtpbbmlmilagnkaaGreat
