/-
  No cell of these rows narrows 'for every input' (looked for: loops, veiled, ifaces, maps, wideKeys, modest, calm, conditions, laid).
  DERIVED. THE GIVEN ROWS OF THIS SEAT. 9 by the template 'for every input the law returns true; each argument reads behind the call as it read before'; 0 by the template 'total and deterministic' (their statements: YtfjfjabdgemalaaTotals.lean).
  GIVEN WITH THE SEED: the statements are not yours to turn. If you find one false, say at which input.
  Laid BY PROGRAM, IN A SANDBOX (cutbox-rows.mjs): the forced cells as the released guide's own fill.sh prints them over the translation b9631e008f273f38… (all of the seat's roots in one cut). By AI agents, Wed Nov 11 2026. No macro, syntax, notation, axiom, sorry.
-/
import Derived.Test.YtfjfjabdgemalaaChecked
import GoSem.Claim
import GoSem.ClaimJoined
import GoSem.ClaimMapViews
import Derived.JoinedTies
import Derived.KernelRfl
namespace Go.Proofs.Ytfjfjabdgemalaa
/- THE CELL 'sum', in the pinned program and in every row, IS THE sha256 OF THE DUMP (.gsa) THAT YtfjfjabdgemalaaProg.lean LOADS. Nothing in Lean hashes anything: it is a label: what it is worth is what the hold of that sum in a sandbox is worth. -/
noncomputable def Try.pinned : Pinned := { name := "ytfjfjabdgemalaa", sum := "b9631e008f273f3867f8990517c4f83acec13ff79d3ae7252b43ff408da5be61", checked := Try.checked }
namespace Rows
def none {H : Type} : Left H := { results := [], args := [] }

/-- 'laws.FnSureSign': WHATEVER THE INPUT: true; the input reads as it did. -/
def fnSureSignSpec : ChangeSpec := { name := "fnSureSign", fn := fun _ => fun
  | [d1, d2] => { results := [.lit (.bool true)], args := [d1, d2] }
  | _ => none }
def fnSureSignRow : OpenClaim := { program := "ytfjfjabdgemalaa", sum := "b9631e008f273f3867f8990517c4f83acec13ff79d3ae7252b43ff408da5be61", func := "loop.example/alidade/laws.FnSureSign", spec := "fnSureSign", apart := false }
def FnSureSignSaid : Prop := fnSureSignRow.holds Try.pinned (OpenSpec.ofChange fnSureSignSpec)

/-- ITS FALSE NEIGHBOUR: 'it returns false'. Refute it at one input. -/
def fnSureSignWrong : ChangeSpec := { name := "fnSureSign", fn := fun _ => fun
  | [d1, d2] => { results := [.lit (.bool false)], args := [d1, d2] }
  | _ => none }
def FnSureSignWrongFalsely : Prop := fnSureSignRow.holds Try.pinned (OpenSpec.ofChange fnSureSignWrong)

/-- 'laws.FnAngDiff': WHATEVER THE INPUT: true; the input reads as it did. -/
def fnAngDiffSpec : ChangeSpec := { name := "fnAngDiff", fn := fun _ => fun
  | [d] => { results := [.lit (.bool true)], args := [d] }
  | _ => none }
def fnAngDiffRow : OpenClaim := { program := "ytfjfjabdgemalaa", sum := "b9631e008f273f3867f8990517c4f83acec13ff79d3ae7252b43ff408da5be61", func := "loop.example/alidade/laws.FnAngDiff", spec := "fnAngDiff", apart := false }
def FnAngDiffSaid : Prop := fnAngDiffRow.holds Try.pinned (OpenSpec.ofChange fnAngDiffSpec)

/-- ITS FALSE NEIGHBOUR: 'it returns false'. Refute it at one input. -/
def fnAngDiffWrong : ChangeSpec := { name := "fnAngDiff", fn := fun _ => fun
  | [d] => { results := [.lit (.bool false)], args := [d] }
  | _ => none }
def FnAngDiffWrongFalsely : Prop := fnAngDiffRow.holds Try.pinned (OpenSpec.ofChange fnAngDiffWrong)

/-- 'laws.FnAngDiffTurn': WHATEVER THE INPUT: true; the input reads as it did. -/
def fnAngDiffTurnSpec : ChangeSpec := { name := "fnAngDiffTurn", fn := fun _ => fun
  | [d] => { results := [.lit (.bool true)], args := [d] }
  | _ => none }
def fnAngDiffTurnRow : OpenClaim := { program := "ytfjfjabdgemalaa", sum := "b9631e008f273f3867f8990517c4f83acec13ff79d3ae7252b43ff408da5be61", func := "loop.example/alidade/laws.FnAngDiffTurn", spec := "fnAngDiffTurn", apart := false }
def FnAngDiffTurnSaid : Prop := fnAngDiffTurnRow.holds Try.pinned (OpenSpec.ofChange fnAngDiffTurnSpec)

/-- ITS FALSE NEIGHBOUR: 'it returns false'. Refute it at one input. -/
def fnAngDiffTurnWrong : ChangeSpec := { name := "fnAngDiffTurn", fn := fun _ => fun
  | [d] => { results := [.lit (.bool false)], args := [d] }
  | _ => none }
def FnAngDiffTurnWrongFalsely : Prop := fnAngDiffTurnRow.holds Try.pinned (OpenSpec.ofChange fnAngDiffTurnWrong)

/-- 'laws.FnAngThree': WHATEVER THE INPUT: true; the input reads as it did. -/
def fnAngThreeSpec : ChangeSpec := { name := "fnAngThree", fn := fun _ => fun
  | [d1, d2] => { results := [.lit (.bool true)], args := [d1, d2] }
  | _ => none }
def fnAngThreeRow : OpenClaim := { program := "ytfjfjabdgemalaa", sum := "b9631e008f273f3867f8990517c4f83acec13ff79d3ae7252b43ff408da5be61", func := "loop.example/alidade/laws.FnAngThree", spec := "fnAngThree", apart := false }
def FnAngThreeSaid : Prop := fnAngThreeRow.holds Try.pinned (OpenSpec.ofChange fnAngThreeSpec)

/-- ITS FALSE NEIGHBOUR: 'it returns false'. Refute it at one input. -/
def fnAngThreeWrong : ChangeSpec := { name := "fnAngThree", fn := fun _ => fun
  | [d1, d2] => { results := [.lit (.bool false)], args := [d1, d2] }
  | _ => none }
def FnAngThreeWrongFalsely : Prop := fnAngThreeRow.holds Try.pinned (OpenSpec.ofChange fnAngThreeWrong)

/-- 'laws.FnAngOf': WHATEVER THE INPUT: true; the input reads as it did. -/
def fnAngOfSpec : ChangeSpec := { name := "fnAngOf", fn := fun _ => fun
  | [d] => { results := [.lit (.bool true)], args := [d] }
  | _ => none }
def fnAngOfRow : OpenClaim := { program := "ytfjfjabdgemalaa", sum := "b9631e008f273f3867f8990517c4f83acec13ff79d3ae7252b43ff408da5be61", func := "loop.example/alidade/laws.FnAngOf", spec := "fnAngOf", apart := false }
def FnAngOfSaid : Prop := fnAngOfRow.holds Try.pinned (OpenSpec.ofChange fnAngOfSpec)

/-- ITS FALSE NEIGHBOUR: 'it returns false'. Refute it at one input. -/
def fnAngOfWrong : ChangeSpec := { name := "fnAngOf", fn := fun _ => fun
  | [d] => { results := [.lit (.bool false)], args := [d] }
  | _ => none }
def FnAngOfWrongFalsely : Prop := fnAngOfRow.holds Try.pinned (OpenSpec.ofChange fnAngOfWrong)

/-- 'laws.FnArcSum': WHATEVER THE INPUT: true; the input reads as it did. -/
def fnArcSumSpec : ChangeSpec := { name := "fnArcSum", fn := fun _ => fun
  | [d1, d2] => { results := [.lit (.bool true)], args := [d1, d2] }
  | _ => none }
def fnArcSumRow : OpenClaim := { program := "ytfjfjabdgemalaa", sum := "b9631e008f273f3867f8990517c4f83acec13ff79d3ae7252b43ff408da5be61", func := "loop.example/alidade/laws.FnArcSum", spec := "fnArcSum", apart := false }
def FnArcSumSaid : Prop := fnArcSumRow.holds Try.pinned (OpenSpec.ofChange fnArcSumSpec)

/-- ITS FALSE NEIGHBOUR: 'it returns false'. Refute it at one input. -/
def fnArcSumWrong : ChangeSpec := { name := "fnArcSum", fn := fun _ => fun
  | [d1, d2] => { results := [.lit (.bool false)], args := [d1, d2] }
  | _ => none }
def FnArcSumWrongFalsely : Prop := fnArcSumRow.holds Try.pinned (OpenSpec.ofChange fnArcSumWrong)

/-- 'laws.FnFanRound': WHATEVER THE INPUT: true; the input reads as it did. -/
def fnFanRoundSpec : ChangeSpec := { name := "fnFanRound", fn := fun _ => fun
  | [d1, d2] => { results := [.lit (.bool true)], args := [d1, d2] }
  | _ => none }
def fnFanRoundRow : OpenClaim := { program := "ytfjfjabdgemalaa", sum := "b9631e008f273f3867f8990517c4f83acec13ff79d3ae7252b43ff408da5be61", func := "loop.example/alidade/laws.FnFanRound", spec := "fnFanRound", apart := false }
def FnFanRoundSaid : Prop := fnFanRoundRow.holds Try.pinned (OpenSpec.ofChange fnFanRoundSpec)

/-- ITS FALSE NEIGHBOUR: 'it returns false'. Refute it at one input. -/
def fnFanRoundWrong : ChangeSpec := { name := "fnFanRound", fn := fun _ => fun
  | [d1, d2] => { results := [.lit (.bool false)], args := [d1, d2] }
  | _ => none }
def FnFanRoundWrongFalsely : Prop := fnFanRoundRow.holds Try.pinned (OpenSpec.ofChange fnFanRoundWrong)

/-- 'laws.FnSureNot': WHATEVER THE INPUT: true; the input reads as it did. -/
def fnSureNotSpec : ChangeSpec := { name := "fnSureNot", fn := fun _ => fun
  | [d] => { results := [.lit (.bool true)], args := [d] }
  | _ => none }
def fnSureNotRow : OpenClaim := { program := "ytfjfjabdgemalaa", sum := "b9631e008f273f3867f8990517c4f83acec13ff79d3ae7252b43ff408da5be61", func := "loop.example/alidade/laws.FnSureNot", spec := "fnSureNot", apart := false }
def FnSureNotSaid : Prop := fnSureNotRow.holds Try.pinned (OpenSpec.ofChange fnSureNotSpec)

/-- ITS FALSE NEIGHBOUR: 'it returns false'. Refute it at one input. -/
def fnSureNotWrong : ChangeSpec := { name := "fnSureNot", fn := fun _ => fun
  | [d] => { results := [.lit (.bool false)], args := [d] }
  | _ => none }
def FnSureNotWrongFalsely : Prop := fnSureNotRow.holds Try.pinned (OpenSpec.ofChange fnSureNotWrong)

/-- 'laws.FnSureRound': WHATEVER THE INPUT: true; the input reads as it did. -/
def fnSureRoundSpec : ChangeSpec := { name := "fnSureRound", fn := fun _ => fun
  | [d1, d2] => { results := [.lit (.bool true)], args := [d1, d2] }
  | _ => none }
def fnSureRoundRow : OpenClaim := { program := "ytfjfjabdgemalaa", sum := "b9631e008f273f3867f8990517c4f83acec13ff79d3ae7252b43ff408da5be61", func := "loop.example/alidade/laws.FnSureRound", spec := "fnSureRound", apart := false }
def FnSureRoundSaid : Prop := fnSureRoundRow.holds Try.pinned (OpenSpec.ofChange fnSureRoundSpec)

/-- ITS FALSE NEIGHBOUR: 'it returns false'. Refute it at one input. -/
def fnSureRoundWrong : ChangeSpec := { name := "fnSureRound", fn := fun _ => fun
  | [d1, d2] => { results := [.lit (.bool false)], args := [d1, d2] }
  | _ => none }
def FnSureRoundWrongFalsely : Prop := fnSureRoundRow.holds Try.pinned (OpenSpec.ofChange fnSureRoundWrong)

/- THE SECOND FORM. 'bulk': how many values and letters a reading holds, each counted each time it is reached (what is shared counts as often as it is met; a slice's spare places count too). A statement '..UptoSaid' is the law's where the arguments, and the package variables that the reading takes, are together of bulk at most 1048576: NARROWER than '..Said'. Prove '..Said' where nothing that the law and all that it calls make is longer than what came in: it says more and counts as full. Else prove '..UptoSaid'. A law counts once. -/
mutual
def uptoBulk {H : Type} : DataW H → Nat
  | .lit (.string bytes) => bytes.length + 1
  | .lit _ => 1
  | .nil => 1
  | .ptr d => uptoBulk d + 1
  | .slice elems spare => uptoBulkAll elems + uptoBulkAll spare + 1
  | .agg parts => uptoBulkAll parts + 1
  | .iface _ d => uptoBulk d + 1
  | .map entries => uptoBulkEntries entries + 1
  | .held _ => 1
def uptoBulkAll {H : Type} : List (DataW H) → Nat
  | [] => 0
  | d :: r => uptoBulk d + uptoBulkAll r
def uptoBulkEntries {H : Type} : List (Lit × DataW H) → Nat
  | [] => 0
  | x :: r => uptoBulkEntry x + uptoBulkEntries r
def uptoBulkEntry {H : Type} : Lit × DataW H → Nat
  | (.string bytes, d) => bytes.length + uptoBulk d + 1
  | (_, d) => uptoBulk d + 1
 end
def uptoSmall : (H : Type) → List (DataW H) → Bool := fun _ ds => decide (uptoBulkAll ds ≤ 1048576)
def OpenSpec.upto (s : _root_.Go.ChangeSpec) : _root_.Go.OpenSpec := { _root_.Go.OpenSpec.ofChange s with cond := some uptoSmall }

/-- 'laws.FnSureSign', WHERE WHAT IT READS IS OF BULK AT MOST 1048576: true; the input reads as it did. -/
def fnSureSignUptoRow : OpenClaim := { program := "ytfjfjabdgemalaa", sum := "b9631e008f273f3867f8990517c4f83acec13ff79d3ae7252b43ff408da5be61", func := "loop.example/alidade/laws.FnSureSign", spec := "fnSureSign", apart := false, narrowed := true }
def FnSureSignUptoSaid : Prop := fnSureSignUptoRow.holds Try.pinned (OpenSpec.upto fnSureSignSpec)

/-- 'laws.FnAngDiff', WHERE WHAT IT READS IS OF BULK AT MOST 1048576: true; the input reads as it did. -/
def fnAngDiffUptoRow : OpenClaim := { program := "ytfjfjabdgemalaa", sum := "b9631e008f273f3867f8990517c4f83acec13ff79d3ae7252b43ff408da5be61", func := "loop.example/alidade/laws.FnAngDiff", spec := "fnAngDiff", apart := false, narrowed := true }
def FnAngDiffUptoSaid : Prop := fnAngDiffUptoRow.holds Try.pinned (OpenSpec.upto fnAngDiffSpec)

/-- 'laws.FnAngDiffTurn', WHERE WHAT IT READS IS OF BULK AT MOST 1048576: true; the input reads as it did. -/
def fnAngDiffTurnUptoRow : OpenClaim := { program := "ytfjfjabdgemalaa", sum := "b9631e008f273f3867f8990517c4f83acec13ff79d3ae7252b43ff408da5be61", func := "loop.example/alidade/laws.FnAngDiffTurn", spec := "fnAngDiffTurn", apart := false, narrowed := true }
def FnAngDiffTurnUptoSaid : Prop := fnAngDiffTurnUptoRow.holds Try.pinned (OpenSpec.upto fnAngDiffTurnSpec)

/-- 'laws.FnAngThree', WHERE WHAT IT READS IS OF BULK AT MOST 1048576: true; the input reads as it did. -/
def fnAngThreeUptoRow : OpenClaim := { program := "ytfjfjabdgemalaa", sum := "b9631e008f273f3867f8990517c4f83acec13ff79d3ae7252b43ff408da5be61", func := "loop.example/alidade/laws.FnAngThree", spec := "fnAngThree", apart := false, narrowed := true }
def FnAngThreeUptoSaid : Prop := fnAngThreeUptoRow.holds Try.pinned (OpenSpec.upto fnAngThreeSpec)

/-- 'laws.FnAngOf', WHERE WHAT IT READS IS OF BULK AT MOST 1048576: true; the input reads as it did. -/
def fnAngOfUptoRow : OpenClaim := { program := "ytfjfjabdgemalaa", sum := "b9631e008f273f3867f8990517c4f83acec13ff79d3ae7252b43ff408da5be61", func := "loop.example/alidade/laws.FnAngOf", spec := "fnAngOf", apart := false, narrowed := true }
def FnAngOfUptoSaid : Prop := fnAngOfUptoRow.holds Try.pinned (OpenSpec.upto fnAngOfSpec)

/-- 'laws.FnArcSum', WHERE WHAT IT READS IS OF BULK AT MOST 1048576: true; the input reads as it did. -/
def fnArcSumUptoRow : OpenClaim := { program := "ytfjfjabdgemalaa", sum := "b9631e008f273f3867f8990517c4f83acec13ff79d3ae7252b43ff408da5be61", func := "loop.example/alidade/laws.FnArcSum", spec := "fnArcSum", apart := false, narrowed := true }
def FnArcSumUptoSaid : Prop := fnArcSumUptoRow.holds Try.pinned (OpenSpec.upto fnArcSumSpec)

/-- 'laws.FnFanRound', WHERE WHAT IT READS IS OF BULK AT MOST 1048576: true; the input reads as it did. -/
def fnFanRoundUptoRow : OpenClaim := { program := "ytfjfjabdgemalaa", sum := "b9631e008f273f3867f8990517c4f83acec13ff79d3ae7252b43ff408da5be61", func := "loop.example/alidade/laws.FnFanRound", spec := "fnFanRound", apart := false, narrowed := true }
def FnFanRoundUptoSaid : Prop := fnFanRoundUptoRow.holds Try.pinned (OpenSpec.upto fnFanRoundSpec)

/-- 'laws.FnSureNot', WHERE WHAT IT READS IS OF BULK AT MOST 1048576: true; the input reads as it did. -/
def fnSureNotUptoRow : OpenClaim := { program := "ytfjfjabdgemalaa", sum := "b9631e008f273f3867f8990517c4f83acec13ff79d3ae7252b43ff408da5be61", func := "loop.example/alidade/laws.FnSureNot", spec := "fnSureNot", apart := false, narrowed := true }
def FnSureNotUptoSaid : Prop := fnSureNotUptoRow.holds Try.pinned (OpenSpec.upto fnSureNotSpec)

/-- 'laws.FnSureRound', WHERE WHAT IT READS IS OF BULK AT MOST 1048576: true; the input reads as it did. -/
def fnSureRoundUptoRow : OpenClaim := { program := "ytfjfjabdgemalaa", sum := "b9631e008f273f3867f8990517c4f83acec13ff79d3ae7252b43ff408da5be61", func := "loop.example/alidade/laws.FnSureRound", spec := "fnSureRound", apart := false, narrowed := true }
def FnSureRoundUptoSaid : Prop := fnSureRoundUptoRow.holds Try.pinned (OpenSpec.upto fnSureRoundSpec)

end Rows
end Go.Proofs.Ytfjfjabdgemalaa
