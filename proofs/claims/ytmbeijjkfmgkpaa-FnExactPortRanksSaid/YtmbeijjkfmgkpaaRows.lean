/-
  No cell of these rows narrows 'for every input' (looked for: loops, veiled, ifaces, maps, wideKeys, modest, calm, conditions, laid).
  DERIVED. THE GIVEN ROWS OF THIS SEAT. 9 by the template 'for every input the law returns true; each argument reads behind the call as it read before'; 0 by the template 'total and deterministic' (their statements: YtmbeijjkfmgkpaaTotals.lean).
  GIVEN WITH THE SEED: the statements are not yours to turn. If you find one false, say at which input.
  Laid BY PROGRAM, IN A SANDBOX (cutbox-rows.mjs): the forced cells as the released guide's own fill.sh prints them over the translation 7eefabd5e8cedf68… (all of the seat's roots in one cut). By AI agents, Wed Nov 11 2026. No macro, syntax, notation, axiom, sorry.
-/
import Derived.Test.YtmbeijjkfmgkpaaChecked
import GoSem.Claim
import GoSem.ClaimJoined
import GoSem.ClaimMapViews
import Derived.JoinedTies
import Derived.KernelRfl
namespace Go.Proofs.Ytmbeijjkfmgkpaa
/- THE CELL 'sum', in the pinned program and in every row, IS THE sha256 OF THE DUMP (.gsa) THAT YtmbeijjkfmgkpaaProg.lean LOADS. Nothing in Lean hashes anything: it is a label: what it is worth is what the hold of that sum in a sandbox is worth. -/
noncomputable def Try.pinned : Pinned := { name := "ytmbeijjkfmgkpaa", sum := "7eefabd5e8cedf68c504a198e6400e40d22a69dacb59a42b7fc1b46c7653b511", checked := Try.checked }
namespace Rows
def none {H : Type} : Left H := { results := [], args := [] }

/-- 'laws.FnExactBestSequence': WHATEVER THE INPUT: true; the input reads as it did. -/
def fnExactBestSequenceSpec : ChangeSpec := { name := "fnExactBestSequence", fn := fun _ => fun
  | [d] => { results := [.lit (.bool true)], args := [d] }
  | _ => none }
def fnExactBestSequenceRow : OpenClaim := { program := "ytmbeijjkfmgkpaa", sum := "7eefabd5e8cedf68c504a198e6400e40d22a69dacb59a42b7fc1b46c7653b511", func := "loop.example/g01117/laws.FnExactBestSequence", spec := "fnExactBestSequence", unfollowed := true, recurses := true, apart := false }
def FnExactBestSequenceSaid : Prop := fnExactBestSequenceRow.holds Try.pinned (OpenSpec.ofChange fnExactBestSequenceSpec)

/-- ITS FALSE NEIGHBOUR: 'it returns false'. Refute it at one input. -/
def fnExactBestSequenceWrong : ChangeSpec := { name := "fnExactBestSequence", fn := fun _ => fun
  | [d] => { results := [.lit (.bool false)], args := [d] }
  | _ => none }
def FnExactBestSequenceWrongFalsely : Prop := fnExactBestSequenceRow.holds Try.pinned (OpenSpec.ofChange fnExactBestSequenceWrong)

/-- 'laws.FnSequences': WHATEVER THE INPUT: true; the input reads as it did. -/
def fnSequencesSpec : ChangeSpec := { name := "fnSequences", fn := fun _ => fun
  | [d1, d2] => { results := [.lit (.bool true)], args := [d1, d2] }
  | _ => none }
def fnSequencesRow : OpenClaim := { program := "ytmbeijjkfmgkpaa", sum := "7eefabd5e8cedf68c504a198e6400e40d22a69dacb59a42b7fc1b46c7653b511", func := "loop.example/g01117/laws.FnSequences", spec := "fnSequences", unfollowed := true, recurses := true, apart := false }
def FnSequencesSaid : Prop := fnSequencesRow.holds Try.pinned (OpenSpec.ofChange fnSequencesSpec)

/-- ITS FALSE NEIGHBOUR: 'it returns false'. Refute it at one input. -/
def fnSequencesWrong : ChangeSpec := { name := "fnSequences", fn := fun _ => fun
  | [d1, d2] => { results := [.lit (.bool false)], args := [d1, d2] }
  | _ => none }
def FnSequencesWrongFalsely : Prop := fnSequencesRow.holds Try.pinned (OpenSpec.ofChange fnSequencesWrong)

/-- 'laws.FnThresholdPorts': WHATEVER THE INPUT: true; the input reads as it did. -/
def fnThresholdPortsSpec : ChangeSpec := { name := "fnThresholdPorts", fn := fun _ => fun
  | [d] => { results := [.lit (.bool true)], args := [d] }
  | _ => none }
def fnThresholdPortsRow : OpenClaim := { program := "ytmbeijjkfmgkpaa", sum := "7eefabd5e8cedf68c504a198e6400e40d22a69dacb59a42b7fc1b46c7653b511", func := "loop.example/g01117/laws.FnThresholdPorts", spec := "fnThresholdPorts", unfollowed := true, recurses := true, apart := false }
def FnThresholdPortsSaid : Prop := fnThresholdPortsRow.holds Try.pinned (OpenSpec.ofChange fnThresholdPortsSpec)

/-- ITS FALSE NEIGHBOUR: 'it returns false'. Refute it at one input. -/
def fnThresholdPortsWrong : ChangeSpec := { name := "fnThresholdPorts", fn := fun _ => fun
  | [d] => { results := [.lit (.bool false)], args := [d] }
  | _ => none }
def FnThresholdPortsWrongFalsely : Prop := fnThresholdPortsRow.holds Try.pinned (OpenSpec.ofChange fnThresholdPortsWrong)

/-- 'laws.FnExactRanksFamily': WHATEVER THE INPUT: true; the input reads as it did. -/
def fnExactRanksFamilySpec : ChangeSpec := { name := "fnExactRanksFamily", fn := fun _ => fun
  | [d1, d2] => { results := [.lit (.bool true)], args := [d1, d2] }
  | _ => none }
def fnExactRanksFamilyRow : OpenClaim := { program := "ytmbeijjkfmgkpaa", sum := "7eefabd5e8cedf68c504a198e6400e40d22a69dacb59a42b7fc1b46c7653b511", func := "loop.example/g01117/laws.FnExactRanksFamily", spec := "fnExactRanksFamily", unfollowed := true, recurses := true, apart := false }
def FnExactRanksFamilySaid : Prop := fnExactRanksFamilyRow.holds Try.pinned (OpenSpec.ofChange fnExactRanksFamilySpec)

/-- ITS FALSE NEIGHBOUR: 'it returns false'. Refute it at one input. -/
def fnExactRanksFamilyWrong : ChangeSpec := { name := "fnExactRanksFamily", fn := fun _ => fun
  | [d1, d2] => { results := [.lit (.bool false)], args := [d1, d2] }
  | _ => none }
def FnExactRanksFamilyWrongFalsely : Prop := fnExactRanksFamilyRow.holds Try.pinned (OpenSpec.ofChange fnExactRanksFamilyWrong)

/-- 'laws.FnExactIsPort': WHATEVER THE INPUT: true; the input reads as it did. -/
def fnExactIsPortSpec : ChangeSpec := { name := "fnExactIsPort", fn := fun _ => fun
  | [d] => { results := [.lit (.bool true)], args := [d] }
  | _ => none }
def fnExactIsPortRow : OpenClaim := { program := "ytmbeijjkfmgkpaa", sum := "7eefabd5e8cedf68c504a198e6400e40d22a69dacb59a42b7fc1b46c7653b511", func := "loop.example/g01117/laws.FnExactIsPort", spec := "fnExactIsPort", unfollowed := true, recurses := true, apart := false }
def FnExactIsPortSaid : Prop := fnExactIsPortRow.holds Try.pinned (OpenSpec.ofChange fnExactIsPortSpec)

/-- ITS FALSE NEIGHBOUR: 'it returns false'. Refute it at one input. -/
def fnExactIsPortWrong : ChangeSpec := { name := "fnExactIsPort", fn := fun _ => fun
  | [d] => { results := [.lit (.bool false)], args := [d] }
  | _ => none }
def FnExactIsPortWrongFalsely : Prop := fnExactIsPortRow.holds Try.pinned (OpenSpec.ofChange fnExactIsPortWrong)

/-- 'laws.FnExactCircuitsOf': WHATEVER THE INPUT: true; the input reads as it did. -/
def fnExactCircuitsOfSpec : ChangeSpec := { name := "fnExactCircuitsOf", fn := fun _ => fun
  | [d] => { results := [.lit (.bool true)], args := [d] }
  | _ => none }
def fnExactCircuitsOfRow : OpenClaim := { program := "ytmbeijjkfmgkpaa", sum := "7eefabd5e8cedf68c504a198e6400e40d22a69dacb59a42b7fc1b46c7653b511", func := "loop.example/g01117/laws.FnExactCircuitsOf", spec := "fnExactCircuitsOf", unfollowed := true, recurses := true, apart := false }
def FnExactCircuitsOfSaid : Prop := fnExactCircuitsOfRow.holds Try.pinned (OpenSpec.ofChange fnExactCircuitsOfSpec)

/-- ITS FALSE NEIGHBOUR: 'it returns false'. Refute it at one input. -/
def fnExactCircuitsOfWrong : ChangeSpec := { name := "fnExactCircuitsOf", fn := fun _ => fun
  | [d] => { results := [.lit (.bool false)], args := [d] }
  | _ => none }
def FnExactCircuitsOfWrongFalsely : Prop := fnExactCircuitsOfRow.holds Try.pinned (OpenSpec.ofChange fnExactCircuitsOfWrong)

/-- 'laws.FnExactPortRanks': WHATEVER THE INPUT: true; the input reads as it did. -/
def fnExactPortRanksSpec : ChangeSpec := { name := "fnExactPortRanks", fn := fun _ => fun
  | [d] => { results := [.lit (.bool true)], args := [d] }
  | _ => none }
def fnExactPortRanksRow : OpenClaim := { program := "ytmbeijjkfmgkpaa", sum := "7eefabd5e8cedf68c504a198e6400e40d22a69dacb59a42b7fc1b46c7653b511", func := "loop.example/g01117/laws.FnExactPortRanks", spec := "fnExactPortRanks", unfollowed := true, recurses := true, apart := false }
def FnExactPortRanksSaid : Prop := fnExactPortRanksRow.holds Try.pinned (OpenSpec.ofChange fnExactPortRanksSpec)

/-- ITS FALSE NEIGHBOUR: 'it returns false'. Refute it at one input. -/
def fnExactPortRanksWrong : ChangeSpec := { name := "fnExactPortRanks", fn := fun _ => fun
  | [d] => { results := [.lit (.bool false)], args := [d] }
  | _ => none }
def FnExactPortRanksWrongFalsely : Prop := fnExactPortRanksRow.holds Try.pinned (OpenSpec.ofChange fnExactPortRanksWrong)

/-- 'laws.FnTerms': WHATEVER THE INPUT: true; the input reads as it did. -/
def fnTermsSpec : ChangeSpec := { name := "fnTerms", fn := fun _ => fun
  | [d1, d2] => { results := [.lit (.bool true)], args := [d1, d2] }
  | _ => none }
def fnTermsRow : OpenClaim := { program := "ytmbeijjkfmgkpaa", sum := "7eefabd5e8cedf68c504a198e6400e40d22a69dacb59a42b7fc1b46c7653b511", func := "loop.example/g01117/laws.FnTerms", spec := "fnTerms", unfollowed := true, recurses := true, apart := false }
def FnTermsSaid : Prop := fnTermsRow.holds Try.pinned (OpenSpec.ofChange fnTermsSpec)

/-- ITS FALSE NEIGHBOUR: 'it returns false'. Refute it at one input. -/
def fnTermsWrong : ChangeSpec := { name := "fnTerms", fn := fun _ => fun
  | [d1, d2] => { results := [.lit (.bool false)], args := [d1, d2] }
  | _ => none }
def FnTermsWrongFalsely : Prop := fnTermsRow.holds Try.pinned (OpenSpec.ofChange fnTermsWrong)

/-- 'laws.FnCutRanks': WHATEVER THE INPUT: true; the input reads as it did. -/
def fnCutRanksSpec : ChangeSpec := { name := "fnCutRanks", fn := fun _ => fun
  | [d1, d2] => { results := [.lit (.bool true)], args := [d1, d2] }
  | _ => none }
def fnCutRanksRow : OpenClaim := { program := "ytmbeijjkfmgkpaa", sum := "7eefabd5e8cedf68c504a198e6400e40d22a69dacb59a42b7fc1b46c7653b511", func := "loop.example/g01117/laws.FnCutRanks", spec := "fnCutRanks", unfollowed := true, recurses := true, apart := false }
def FnCutRanksSaid : Prop := fnCutRanksRow.holds Try.pinned (OpenSpec.ofChange fnCutRanksSpec)

/-- ITS FALSE NEIGHBOUR: 'it returns false'. Refute it at one input. -/
def fnCutRanksWrong : ChangeSpec := { name := "fnCutRanks", fn := fun _ => fun
  | [d1, d2] => { results := [.lit (.bool false)], args := [d1, d2] }
  | _ => none }
def FnCutRanksWrongFalsely : Prop := fnCutRanksRow.holds Try.pinned (OpenSpec.ofChange fnCutRanksWrong)

/- THE SECOND FORM. 'bulk': how many values and letters a reading holds, each counted each time it is reached (what is shared counts as often as it is met; a slice's spare places count too). A statement '..UptoSaid' is the law's where the arguments, and the package variables that the reading takes, are together of bulk at most 1048576: NARROWER than '..Said'. Prove '..Said' where nothing that the law and all that it calls make is longer than what came in: it says more and counts as full. Else prove '..UptoSaid'. A law counts once. -/
mutual
def uptoBulk {H : Type} : DataW H → Nat
  | .lit (.string bytes) => bytes.length + 1
  | .lit _ => 1
  | .nil => 1
  | .ptr d => uptoBulk d + 1
  | .slice elems spare => uptoBulkAll elems + uptoBulkAll spare + 1
  | .agg parts => uptoBulkAll parts + 1
  | .iface _ d => uptoBulk d + 1
  | .map entries => uptoBulkEntries entries + 1
  | .held _ => 1
def uptoBulkAll {H : Type} : List (DataW H) → Nat
  | [] => 0
  | d :: r => uptoBulk d + uptoBulkAll r
def uptoBulkEntries {H : Type} : List (Lit × DataW H) → Nat
  | [] => 0
  | x :: r => uptoBulkEntry x + uptoBulkEntries r
def uptoBulkEntry {H : Type} : Lit × DataW H → Nat
  | (.string bytes, d) => bytes.length + uptoBulk d + 1
  | (_, d) => uptoBulk d + 1
 end
def uptoSmall : (H : Type) → List (DataW H) → Bool := fun _ ds => decide (uptoBulkAll ds ≤ 1048576)
def OpenSpec.upto (s : _root_.Go.ChangeSpec) : _root_.Go.OpenSpec := { _root_.Go.OpenSpec.ofChange s with cond := some uptoSmall }

/-- 'laws.FnExactBestSequence', WHERE WHAT IT READS IS OF BULK AT MOST 1048576: true; the input reads as it did. -/
def fnExactBestSequenceUptoRow : OpenClaim := { program := "ytmbeijjkfmgkpaa", sum := "7eefabd5e8cedf68c504a198e6400e40d22a69dacb59a42b7fc1b46c7653b511", func := "loop.example/g01117/laws.FnExactBestSequence", spec := "fnExactBestSequence", unfollowed := true, recurses := true, apart := false, narrowed := true }
def FnExactBestSequenceUptoSaid : Prop := fnExactBestSequenceUptoRow.holds Try.pinned (OpenSpec.upto fnExactBestSequenceSpec)

/-- 'laws.FnSequences', WHERE WHAT IT READS IS OF BULK AT MOST 1048576: true; the input reads as it did. -/
def fnSequencesUptoRow : OpenClaim := { program := "ytmbeijjkfmgkpaa", sum := "7eefabd5e8cedf68c504a198e6400e40d22a69dacb59a42b7fc1b46c7653b511", func := "loop.example/g01117/laws.FnSequences", spec := "fnSequences", unfollowed := true, recurses := true, apart := false, narrowed := true }
def FnSequencesUptoSaid : Prop := fnSequencesUptoRow.holds Try.pinned (OpenSpec.upto fnSequencesSpec)

/-- 'laws.FnThresholdPorts', WHERE WHAT IT READS IS OF BULK AT MOST 1048576: true; the input reads as it did. -/
def fnThresholdPortsUptoRow : OpenClaim := { program := "ytmbeijjkfmgkpaa", sum := "7eefabd5e8cedf68c504a198e6400e40d22a69dacb59a42b7fc1b46c7653b511", func := "loop.example/g01117/laws.FnThresholdPorts", spec := "fnThresholdPorts", unfollowed := true, recurses := true, apart := false, narrowed := true }
def FnThresholdPortsUptoSaid : Prop := fnThresholdPortsUptoRow.holds Try.pinned (OpenSpec.upto fnThresholdPortsSpec)

/-- 'laws.FnExactRanksFamily', WHERE WHAT IT READS IS OF BULK AT MOST 1048576: true; the input reads as it did. -/
def fnExactRanksFamilyUptoRow : OpenClaim := { program := "ytmbeijjkfmgkpaa", sum := "7eefabd5e8cedf68c504a198e6400e40d22a69dacb59a42b7fc1b46c7653b511", func := "loop.example/g01117/laws.FnExactRanksFamily", spec := "fnExactRanksFamily", unfollowed := true, recurses := true, apart := false, narrowed := true }
def FnExactRanksFamilyUptoSaid : Prop := fnExactRanksFamilyUptoRow.holds Try.pinned (OpenSpec.upto fnExactRanksFamilySpec)

/-- 'laws.FnExactIsPort', WHERE WHAT IT READS IS OF BULK AT MOST 1048576: true; the input reads as it did. -/
def fnExactIsPortUptoRow : OpenClaim := { program := "ytmbeijjkfmgkpaa", sum := "7eefabd5e8cedf68c504a198e6400e40d22a69dacb59a42b7fc1b46c7653b511", func := "loop.example/g01117/laws.FnExactIsPort", spec := "fnExactIsPort", unfollowed := true, recurses := true, apart := false, narrowed := true }
def FnExactIsPortUptoSaid : Prop := fnExactIsPortUptoRow.holds Try.pinned (OpenSpec.upto fnExactIsPortSpec)

/-- 'laws.FnExactCircuitsOf', WHERE WHAT IT READS IS OF BULK AT MOST 1048576: true; the input reads as it did. -/
def fnExactCircuitsOfUptoRow : OpenClaim := { program := "ytmbeijjkfmgkpaa", sum := "7eefabd5e8cedf68c504a198e6400e40d22a69dacb59a42b7fc1b46c7653b511", func := "loop.example/g01117/laws.FnExactCircuitsOf", spec := "fnExactCircuitsOf", unfollowed := true, recurses := true, apart := false, narrowed := true }
def FnExactCircuitsOfUptoSaid : Prop := fnExactCircuitsOfUptoRow.holds Try.pinned (OpenSpec.upto fnExactCircuitsOfSpec)

/-- 'laws.FnExactPortRanks', WHERE WHAT IT READS IS OF BULK AT MOST 1048576: true; the input reads as it did. -/
def fnExactPortRanksUptoRow : OpenClaim := { program := "ytmbeijjkfmgkpaa", sum := "7eefabd5e8cedf68c504a198e6400e40d22a69dacb59a42b7fc1b46c7653b511", func := "loop.example/g01117/laws.FnExactPortRanks", spec := "fnExactPortRanks", unfollowed := true, recurses := true, apart := false, narrowed := true }
def FnExactPortRanksUptoSaid : Prop := fnExactPortRanksUptoRow.holds Try.pinned (OpenSpec.upto fnExactPortRanksSpec)

/-- 'laws.FnTerms', WHERE WHAT IT READS IS OF BULK AT MOST 1048576: true; the input reads as it did. -/
def fnTermsUptoRow : OpenClaim := { program := "ytmbeijjkfmgkpaa", sum := "7eefabd5e8cedf68c504a198e6400e40d22a69dacb59a42b7fc1b46c7653b511", func := "loop.example/g01117/laws.FnTerms", spec := "fnTerms", unfollowed := true, recurses := true, apart := false, narrowed := true }
def FnTermsUptoSaid : Prop := fnTermsUptoRow.holds Try.pinned (OpenSpec.upto fnTermsSpec)

/-- 'laws.FnCutRanks', WHERE WHAT IT READS IS OF BULK AT MOST 1048576: true; the input reads as it did. -/
def fnCutRanksUptoRow : OpenClaim := { program := "ytmbeijjkfmgkpaa", sum := "7eefabd5e8cedf68c504a198e6400e40d22a69dacb59a42b7fc1b46c7653b511", func := "loop.example/g01117/laws.FnCutRanks", spec := "fnCutRanks", unfollowed := true, recurses := true, apart := false, narrowed := true }
def FnCutRanksUptoSaid : Prop := fnCutRanksUptoRow.holds Try.pinned (OpenSpec.upto fnCutRanksSpec)

end Rows
end Go.Proofs.Ytmbeijjkfmgkpaa
