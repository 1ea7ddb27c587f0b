/-
  No cell of these rows narrows 'for every input' (looked for: loops, veiled, ifaces, maps, wideKeys, modest, calm, conditions, laid).
  DERIVED. THE GIVEN ROWS OF THIS SEAT. 9 by the template 'for every input the law returns true; each argument reads behind the call as it read before'; 0 by the template 'total and deterministic' (their statements: YtdmpkjjlnjchkaaGreatTotals.lean).
  GIVEN WITH THE SEED: the statements are not yours to turn. If you find one false, say at which input.
  Laid BY PROGRAM, IN A SANDBOX (cutbox-rows.mjs): the forced cells as the released guide's own fill.sh prints them over the translation b6391abbc66a8e5f… (all of the seat's roots in one cut). By AI agents, Wed Nov 11 2026. No macro, syntax, notation, axiom, sorry.
-/
import Derived.Test.YtdmpkjjlnjchkaaGreatChecked
import GoSem.Claim
import GoSem.ClaimJoined
import GoSem.ClaimMapViews
import Derived.JoinedTies
import Derived.KernelRfl
namespace Go.Proofs.YtdmpkjjlnjchkaaGreat
/- THE CELL 'sum', in the pinned program and in every row, IS THE sha256 OF THE DUMP (.gsa) THAT YtdmpkjjlnjchkaaGreatProg.lean LOADS. Nothing in Lean hashes anything: it is a label: what it is worth is what the hold of that sum in a sandbox is worth. -/
noncomputable def Tryz.pinned : Pinned := { name := "ytdmpkjjlnjchkaagreat", sum := "b6391abbc66a8e5fd856e06498086c66619e32cff78fc6e080e23d0a5753e202", checked := Tryz.checked }
namespace Rows
def none {H : Type} : Left H := { results := [], args := [] }

/-- 'laws.FnNewEngine': WHATEVER THE INPUT: true; the input reads as it did. -/
def fnNewEngineSpec : ChangeSpec := { name := "fnNewEngine", fn := fun _ => fun
  | [d] => { results := [.lit (.bool true)], args := [d] }
  | _ => none }
def fnNewEngineRow : OpenClaim := { program := "ytdmpkjjlnjchkaagreat", sum := "b6391abbc66a8e5fd856e06498086c66619e32cff78fc6e080e23d0a5753e202", func := "loop.example/g00494/laws.FnNewEngine", spec := "fnNewEngine", inPlace := ["slices.overlaps[loop.example/g00494/impl.Pin]", "slices.overlaps[loop.example/g00494/impl.Party]", "slices.overlaps[loop.example/g00494/impl.Entry]"], unfollowed := true, recurses := true, apart := false }
def FnNewEngineSaid : Prop := fnNewEngineRow.holds Tryz.pinned (OpenSpec.ofChange fnNewEngineSpec)

/-- ITS FALSE NEIGHBOUR: 'it returns false'. Refute it at one input. -/
def fnNewEngineWrong : ChangeSpec := { name := "fnNewEngine", fn := fun _ => fun
  | [d] => { results := [.lit (.bool false)], args := [d] }
  | _ => none }
def FnNewEngineWrongFalsely : Prop := fnNewEngineRow.holds Tryz.pinned (OpenSpec.ofChange fnNewEngineWrong)

/-- 'laws.FnExactUsed': WHATEVER THE INPUT: true; the input reads as it did. -/
def fnExactUsedSpec : ChangeSpec := { name := "fnExactUsed", fn := fun _ => fun
  | [d] => { results := [.lit (.bool true)], args := [d] }
  | _ => none }
def fnExactUsedRow : OpenClaim := { program := "ytdmpkjjlnjchkaagreat", sum := "b6391abbc66a8e5fd856e06498086c66619e32cff78fc6e080e23d0a5753e202", func := "loop.example/g00494/laws.FnExactUsed", spec := "fnExactUsed", inPlace := ["slices.overlaps[loop.example/g00494/impl.Pin]", "slices.overlaps[loop.example/g00494/impl.Party]", "slices.overlaps[loop.example/g00494/impl.Entry]"], unfollowed := true, recurses := true, apart := false }
def FnExactUsedSaid : Prop := fnExactUsedRow.holds Tryz.pinned (OpenSpec.ofChange fnExactUsedSpec)

/-- ITS FALSE NEIGHBOUR: 'it returns false'. Refute it at one input. -/
def fnExactUsedWrong : ChangeSpec := { name := "fnExactUsed", fn := fun _ => fun
  | [d] => { results := [.lit (.bool false)], args := [d] }
  | _ => none }
def FnExactUsedWrongFalsely : Prop := fnExactUsedRow.holds Tryz.pinned (OpenSpec.ofChange fnExactUsedWrong)

/-- 'laws.FnNewer': WHATEVER THE INPUT: true; the input reads as it did. -/
def fnNewerSpec : ChangeSpec := { name := "fnNewer", fn := fun _ => fun
  | [d] => { results := [.lit (.bool true)], args := [d] }
  | _ => none }
def fnNewerRow : OpenClaim := { program := "ytdmpkjjlnjchkaagreat", sum := "b6391abbc66a8e5fd856e06498086c66619e32cff78fc6e080e23d0a5753e202", func := "loop.example/g00494/laws.FnNewer", spec := "fnNewer", inPlace := ["slices.overlaps[loop.example/g00494/impl.Pin]"], unfollowed := true, recurses := true, apart := false }
def FnNewerSaid : Prop := fnNewerRow.holds Tryz.pinned (OpenSpec.ofChange fnNewerSpec)

/-- ITS FALSE NEIGHBOUR: 'it returns false'. Refute it at one input. -/
def fnNewerWrong : ChangeSpec := { name := "fnNewer", fn := fun _ => fun
  | [d] => { results := [.lit (.bool false)], args := [d] }
  | _ => none }
def FnNewerWrongFalsely : Prop := fnNewerRow.holds Tryz.pinned (OpenSpec.ofChange fnNewerWrong)

/-- 'laws.FnLay': WHATEVER THE INPUT: true; the input reads as it did. -/
def fnLaySpec : ChangeSpec := { name := "fnLay", fn := fun _ => fun
  | [d] => { results := [.lit (.bool true)], args := [d] }
  | _ => none }
def fnLayRow : OpenClaim := { program := "ytdmpkjjlnjchkaagreat", sum := "b6391abbc66a8e5fd856e06498086c66619e32cff78fc6e080e23d0a5753e202", func := "loop.example/g00494/laws.FnLay", spec := "fnLay", unfollowed := true, recurses := true, apart := false }
def FnLaySaid : Prop := fnLayRow.holds Tryz.pinned (OpenSpec.ofChange fnLaySpec)

/-- ITS FALSE NEIGHBOUR: 'it returns false'. Refute it at one input. -/
def fnLayWrong : ChangeSpec := { name := "fnLay", fn := fun _ => fun
  | [d] => { results := [.lit (.bool false)], args := [d] }
  | _ => none }
def FnLayWrongFalsely : Prop := fnLayRow.holds Tryz.pinned (OpenSpec.ofChange fnLayWrong)

/-- 'laws.FnExactCall': WHATEVER THE INPUT: true; the input reads as it did. -/
def fnExactCallSpec : ChangeSpec := { name := "fnExactCall", fn := fun _ => fun
  | [d1, d2] => { results := [.lit (.bool true)], args := [d1, d2] }
  | _ => none }
def fnExactCallRow : OpenClaim := { program := "ytdmpkjjlnjchkaagreat", sum := "b6391abbc66a8e5fd856e06498086c66619e32cff78fc6e080e23d0a5753e202", func := "loop.example/g00494/laws.FnExactCall", spec := "fnExactCall", inPlace := ["slices.overlaps[loop.example/g00494/impl.Party]", "slices.overlaps[loop.example/g00494/impl.Entry]", "slices.overlaps[loop.example/g00494/impl.Pin]"], unfollowed := true, recurses := true, apart := false }
def FnExactCallSaid : Prop := fnExactCallRow.holds Tryz.pinned (OpenSpec.ofChange fnExactCallSpec)

/-- ITS FALSE NEIGHBOUR: 'it returns false'. Refute it at one input. -/
def fnExactCallWrong : ChangeSpec := { name := "fnExactCall", fn := fun _ => fun
  | [d1, d2] => { results := [.lit (.bool false)], args := [d1, d2] }
  | _ => none }
def FnExactCallWrongFalsely : Prop := fnExactCallRow.holds Tryz.pinned (OpenSpec.ofChange fnExactCallWrong)

/-- 'laws.FnExactRecovered': WHATEVER THE INPUT: true; the input reads as it did. -/
def fnExactRecoveredSpec : ChangeSpec := { name := "fnExactRecovered", fn := fun _ => fun
  | [d] => { results := [.lit (.bool true)], args := [d] }
  | _ => none }
def fnExactRecoveredRow : OpenClaim := { program := "ytdmpkjjlnjchkaagreat", sum := "b6391abbc66a8e5fd856e06498086c66619e32cff78fc6e080e23d0a5753e202", func := "loop.example/g00494/laws.FnExactRecovered", spec := "fnExactRecovered", inPlace := ["slices.overlaps[loop.example/g00494/impl.Pin]", "slices.overlaps[loop.example/g00494/impl.Party]", "slices.overlaps[loop.example/g00494/impl.Entry]"], unfollowed := true, recurses := true, apart := false }
def FnExactRecoveredSaid : Prop := fnExactRecoveredRow.holds Tryz.pinned (OpenSpec.ofChange fnExactRecoveredSpec)

/-- ITS FALSE NEIGHBOUR: 'it returns false'. Refute it at one input. -/
def fnExactRecoveredWrong : ChangeSpec := { name := "fnExactRecovered", fn := fun _ => fun
  | [d] => { results := [.lit (.bool false)], args := [d] }
  | _ => none }
def FnExactRecoveredWrongFalsely : Prop := fnExactRecoveredRow.holds Tryz.pinned (OpenSpec.ofChange fnExactRecoveredWrong)

/-- 'laws.FnExactBoot': WHATEVER THE INPUT: true; the input reads as it did. -/
def fnExactBootSpec : ChangeSpec := { name := "fnExactBoot", fn := fun _ => fun
  | [d] => { results := [.lit (.bool true)], args := [d] }
  | _ => none }
def fnExactBootRow : OpenClaim := { program := "ytdmpkjjlnjchkaagreat", sum := "b6391abbc66a8e5fd856e06498086c66619e32cff78fc6e080e23d0a5753e202", func := "loop.example/g00494/laws.FnExactBoot", spec := "fnExactBoot", inPlace := ["slices.overlaps[loop.example/g00494/impl.Pin]", "slices.overlaps[loop.example/g00494/impl.Party]", "slices.overlaps[loop.example/g00494/impl.Entry]"], unfollowed := true, recurses := true, apart := false }
def FnExactBootSaid : Prop := fnExactBootRow.holds Tryz.pinned (OpenSpec.ofChange fnExactBootSpec)

/-- ITS FALSE NEIGHBOUR: 'it returns false'. Refute it at one input. -/
def fnExactBootWrong : ChangeSpec := { name := "fnExactBoot", fn := fun _ => fun
  | [d] => { results := [.lit (.bool false)], args := [d] }
  | _ => none }
def FnExactBootWrongFalsely : Prop := fnExactBootRow.holds Tryz.pinned (OpenSpec.ofChange fnExactBootWrong)

/-- 'laws.FnExactSound': WHATEVER THE INPUT: true; the input reads as it did. -/
def fnExactSoundSpec : ChangeSpec := { name := "fnExactSound", fn := fun _ => fun
  | [d] => { results := [.lit (.bool true)], args := [d] }
  | _ => none }
def fnExactSoundRow : OpenClaim := { program := "ytdmpkjjlnjchkaagreat", sum := "b6391abbc66a8e5fd856e06498086c66619e32cff78fc6e080e23d0a5753e202", func := "loop.example/g00494/laws.FnExactSound", spec := "fnExactSound", inPlace := ["slices.overlaps[loop.example/g00494/impl.Pin]", "slices.overlaps[loop.example/g00494/impl.Party]", "slices.overlaps[loop.example/g00494/impl.Entry]"], unfollowed := true, recurses := true, apart := false }
def FnExactSoundSaid : Prop := fnExactSoundRow.holds Tryz.pinned (OpenSpec.ofChange fnExactSoundSpec)

/-- ITS FALSE NEIGHBOUR: 'it returns false'. Refute it at one input. -/
def fnExactSoundWrong : ChangeSpec := { name := "fnExactSound", fn := fun _ => fun
  | [d] => { results := [.lit (.bool false)], args := [d] }
  | _ => none }
def FnExactSoundWrongFalsely : Prop := fnExactSoundRow.holds Tryz.pinned (OpenSpec.ofChange fnExactSoundWrong)

/-- 'laws.FnExactSurvive': WHATEVER THE INPUT: true; the input reads as it did. -/
def fnExactSurviveSpec : ChangeSpec := { name := "fnExactSurvive", fn := fun _ => fun
  | [d1, d2] => { results := [.lit (.bool true)], args := [d1, d2] }
  | _ => none }
def fnExactSurviveRow : OpenClaim := { program := "ytdmpkjjlnjchkaagreat", sum := "b6391abbc66a8e5fd856e06498086c66619e32cff78fc6e080e23d0a5753e202", func := "loop.example/g00494/laws.FnExactSurvive", spec := "fnExactSurvive", inPlace := ["slices.overlaps[loop.example/g00494/impl.Pin]", "slices.overlaps[loop.example/g00494/impl.Party]", "slices.overlaps[loop.example/g00494/impl.Entry]"], unfollowed := true, recurses := true, apart := false }
def FnExactSurviveSaid : Prop := fnExactSurviveRow.holds Tryz.pinned (OpenSpec.ofChange fnExactSurviveSpec)

/-- ITS FALSE NEIGHBOUR: 'it returns false'. Refute it at one input. -/
def fnExactSurviveWrong : ChangeSpec := { name := "fnExactSurvive", fn := fun _ => fun
  | [d1, d2] => { results := [.lit (.bool false)], args := [d1, d2] }
  | _ => none }
def FnExactSurviveWrongFalsely : Prop := fnExactSurviveRow.holds Tryz.pinned (OpenSpec.ofChange fnExactSurviveWrong)

/- THE SECOND FORM. 'bulk': how many values and letters a reading holds, each counted each time it is reached (what is shared counts as often as it is met; a slice's spare places count too). A statement '..UptoSaid' is the law's where the arguments, and the package variables that the reading takes, are together of bulk at most 1048576: NARROWER than '..Said'. Prove '..Said' where nothing that the law and all that it calls make is longer than what came in: it says more and counts as full. Else prove '..UptoSaid'. A law counts once. -/
mutual
def uptoBulk {H : Type} : DataW H → Nat
  | .lit (.string bytes) => bytes.length + 1
  | .lit _ => 1
  | .nil => 1
  | .ptr d => uptoBulk d + 1
  | .slice elems spare => uptoBulkAll elems + uptoBulkAll spare + 1
  | .agg parts => uptoBulkAll parts + 1
  | .iface _ d => uptoBulk d + 1
  | .map entries => uptoBulkEntries entries + 1
  | .held _ => 1
def uptoBulkAll {H : Type} : List (DataW H) → Nat
  | [] => 0
  | d :: r => uptoBulk d + uptoBulkAll r
def uptoBulkEntries {H : Type} : List (Lit × DataW H) → Nat
  | [] => 0
  | x :: r => uptoBulkEntry x + uptoBulkEntries r
def uptoBulkEntry {H : Type} : Lit × DataW H → Nat
  | (.string bytes, d) => bytes.length + uptoBulk d + 1
  | (_, d) => uptoBulk d + 1
 end
def uptoSmall : (H : Type) → List (DataW H) → Bool := fun _ ds => decide (uptoBulkAll ds ≤ 1048576)
def OpenSpec.upto (s : _root_.Go.ChangeSpec) : _root_.Go.OpenSpec := { _root_.Go.OpenSpec.ofChange s with cond := some uptoSmall }

/-- 'laws.FnNewEngine', WHERE WHAT IT READS IS OF BULK AT MOST 1048576: true; the input reads as it did. -/
def fnNewEngineUptoRow : OpenClaim := { program := "ytdmpkjjlnjchkaagreat", sum := "b6391abbc66a8e5fd856e06498086c66619e32cff78fc6e080e23d0a5753e202", func := "loop.example/g00494/laws.FnNewEngine", spec := "fnNewEngine", inPlace := ["slices.overlaps[loop.example/g00494/impl.Pin]", "slices.overlaps[loop.example/g00494/impl.Party]", "slices.overlaps[loop.example/g00494/impl.Entry]"], unfollowed := true, recurses := true, apart := false, narrowed := true }
def FnNewEngineUptoSaid : Prop := fnNewEngineUptoRow.holds Tryz.pinned (OpenSpec.upto fnNewEngineSpec)

/-- 'laws.FnExactUsed', WHERE WHAT IT READS IS OF BULK AT MOST 1048576: true; the input reads as it did. -/
def fnExactUsedUptoRow : OpenClaim := { program := "ytdmpkjjlnjchkaagreat", sum := "b6391abbc66a8e5fd856e06498086c66619e32cff78fc6e080e23d0a5753e202", func := "loop.example/g00494/laws.FnExactUsed", spec := "fnExactUsed", inPlace := ["slices.overlaps[loop.example/g00494/impl.Pin]", "slices.overlaps[loop.example/g00494/impl.Party]", "slices.overlaps[loop.example/g00494/impl.Entry]"], unfollowed := true, recurses := true, apart := false, narrowed := true }
def FnExactUsedUptoSaid : Prop := fnExactUsedUptoRow.holds Tryz.pinned (OpenSpec.upto fnExactUsedSpec)

/-- 'laws.FnNewer', WHERE WHAT IT READS IS OF BULK AT MOST 1048576: true; the input reads as it did. -/
def fnNewerUptoRow : OpenClaim := { program := "ytdmpkjjlnjchkaagreat", sum := "b6391abbc66a8e5fd856e06498086c66619e32cff78fc6e080e23d0a5753e202", func := "loop.example/g00494/laws.FnNewer", spec := "fnNewer", inPlace := ["slices.overlaps[loop.example/g00494/impl.Pin]"], unfollowed := true, recurses := true, apart := false, narrowed := true }
def FnNewerUptoSaid : Prop := fnNewerUptoRow.holds Tryz.pinned (OpenSpec.upto fnNewerSpec)

/-- 'laws.FnLay', WHERE WHAT IT READS IS OF BULK AT MOST 1048576: true; the input reads as it did. -/
def fnLayUptoRow : OpenClaim := { program := "ytdmpkjjlnjchkaagreat", sum := "b6391abbc66a8e5fd856e06498086c66619e32cff78fc6e080e23d0a5753e202", func := "loop.example/g00494/laws.FnLay", spec := "fnLay", unfollowed := true, recurses := true, apart := false, narrowed := true }
def FnLayUptoSaid : Prop := fnLayUptoRow.holds Tryz.pinned (OpenSpec.upto fnLaySpec)

/-- 'laws.FnExactCall', WHERE WHAT IT READS IS OF BULK AT MOST 1048576: true; the input reads as it did. -/
def fnExactCallUptoRow : OpenClaim := { program := "ytdmpkjjlnjchkaagreat", sum := "b6391abbc66a8e5fd856e06498086c66619e32cff78fc6e080e23d0a5753e202", func := "loop.example/g00494/laws.FnExactCall", spec := "fnExactCall", inPlace := ["slices.overlaps[loop.example/g00494/impl.Party]", "slices.overlaps[loop.example/g00494/impl.Entry]", "slices.overlaps[loop.example/g00494/impl.Pin]"], unfollowed := true, recurses := true, apart := false, narrowed := true }
def FnExactCallUptoSaid : Prop := fnExactCallUptoRow.holds Tryz.pinned (OpenSpec.upto fnExactCallSpec)

/-- 'laws.FnExactRecovered', WHERE WHAT IT READS IS OF BULK AT MOST 1048576: true; the input reads as it did. -/
def fnExactRecoveredUptoRow : OpenClaim := { program := "ytdmpkjjlnjchkaagreat", sum := "b6391abbc66a8e5fd856e06498086c66619e32cff78fc6e080e23d0a5753e202", func := "loop.example/g00494/laws.FnExactRecovered", spec := "fnExactRecovered", inPlace := ["slices.overlaps[loop.example/g00494/impl.Pin]", "slices.overlaps[loop.example/g00494/impl.Party]", "slices.overlaps[loop.example/g00494/impl.Entry]"], unfollowed := true, recurses := true, apart := false, narrowed := true }
def FnExactRecoveredUptoSaid : Prop := fnExactRecoveredUptoRow.holds Tryz.pinned (OpenSpec.upto fnExactRecoveredSpec)

/-- 'laws.FnExactBoot', WHERE WHAT IT READS IS OF BULK AT MOST 1048576: true; the input reads as it did. -/
def fnExactBootUptoRow : OpenClaim := { program := "ytdmpkjjlnjchkaagreat", sum := "b6391abbc66a8e5fd856e06498086c66619e32cff78fc6e080e23d0a5753e202", func := "loop.example/g00494/laws.FnExactBoot", spec := "fnExactBoot", inPlace := ["slices.overlaps[loop.example/g00494/impl.Pin]", "slices.overlaps[loop.example/g00494/impl.Party]", "slices.overlaps[loop.example/g00494/impl.Entry]"], unfollowed := true, recurses := true, apart := false, narrowed := true }
def FnExactBootUptoSaid : Prop := fnExactBootUptoRow.holds Tryz.pinned (OpenSpec.upto fnExactBootSpec)

/-- 'laws.FnExactSound', WHERE WHAT IT READS IS OF BULK AT MOST 1048576: true; the input reads as it did. -/
def fnExactSoundUptoRow : OpenClaim := { program := "ytdmpkjjlnjchkaagreat", sum := "b6391abbc66a8e5fd856e06498086c66619e32cff78fc6e080e23d0a5753e202", func := "loop.example/g00494/laws.FnExactSound", spec := "fnExactSound", inPlace := ["slices.overlaps[loop.example/g00494/impl.Pin]", "slices.overlaps[loop.example/g00494/impl.Party]", "slices.overlaps[loop.example/g00494/impl.Entry]"], unfollowed := true, recurses := true, apart := false, narrowed := true }
def FnExactSoundUptoSaid : Prop := fnExactSoundUptoRow.holds Tryz.pinned (OpenSpec.upto fnExactSoundSpec)

/-- 'laws.FnExactSurvive', WHERE WHAT IT READS IS OF BULK AT MOST 1048576: true; the input reads as it did. -/
def fnExactSurviveUptoRow : OpenClaim := { program := "ytdmpkjjlnjchkaagreat", sum := "b6391abbc66a8e5fd856e06498086c66619e32cff78fc6e080e23d0a5753e202", func := "loop.example/g00494/laws.FnExactSurvive", spec := "fnExactSurvive", inPlace := ["slices.overlaps[loop.example/g00494/impl.Pin]", "slices.overlaps[loop.example/g00494/impl.Party]", "slices.overlaps[loop.example/g00494/impl.Entry]"], unfollowed := true, recurses := true, apart := false, narrowed := true }
def FnExactSurviveUptoSaid : Prop := fnExactSurviveUptoRow.holds Tryz.pinned (OpenSpec.upto fnExactSurviveSpec)

end Rows
end Go.Proofs.YtdmpkjjlnjchkaaGreat
