/-
  No cell of these rows narrows 'for every input' (looked for: loops, veiled, ifaces, maps, wideKeys, modest, calm, conditions, laid).
  DERIVED. THE GIVEN ROWS OF THIS SEAT. 12 by the template 'for every input the law returns true; each argument reads behind the call as it read before'; 0 by the template 'total and deterministic' (their statements: YtdjlmfcnopbljaaTotals.lean).
  GIVEN WITH THE SEED: the statements are not yours to turn. If you find one false, say at which input.
  Laid BY PROGRAM, IN A SANDBOX (cutbox-rows.mjs): the forced cells as the released guide's own fill.sh prints them over the translation 700a67bcfa47d8c1… (all of the seat's roots in one cut). By AI agents, Wed Nov 11 2026. No macro, syntax, notation, axiom, sorry.
-/
import Derived.Test.YtdjlmfcnopbljaaChecked
import GoSem.Claim
import GoSem.ClaimJoined
import GoSem.ClaimMapViews
import Derived.JoinedTies
import Derived.KernelRfl
namespace Go.Proofs.Ytdjlmfcnopbljaa
/- THE CELL 'sum', in the pinned program and in every row, IS THE sha256 OF THE DUMP (.gsa) THAT YtdjlmfcnopbljaaProg.lean LOADS. Nothing in Lean hashes anything: it is a label: what it is worth is what the hold of that sum in a sandbox is worth. -/
noncomputable def Try.pinned : Pinned := { name := "ytdjlmfcnopbljaa", sum := "700a67bcfa47d8c1008b6ed45a3ff827b13675b7981fc736c8e63fbc6b5f4e83", checked := Try.checked }
namespace Rows
def none {H : Type} : Left H := { results := [], args := [] }

/-- 'laws.FnExactFanHas': WHATEVER THE INPUT: true; the input reads as it did. -/
def fnExactFanHasSpec : ChangeSpec := { name := "fnExactFanHas", fn := fun _ => fun
  | [d1, d2] => { results := [.lit (.bool true)], args := [d1, d2] }
  | _ => none }
def fnExactFanHasRow : OpenClaim := { program := "ytdjlmfcnopbljaa", sum := "700a67bcfa47d8c1008b6ed45a3ff827b13675b7981fc736c8e63fbc6b5f4e83", func := "loop.example/alidade/laws.FnExactFanHas", spec := "fnExactFanHas", apart := false }
def FnExactFanHasSaid : Prop := fnExactFanHasRow.holds Try.pinned (OpenSpec.ofChange fnExactFanHasSpec)

/-- ITS FALSE NEIGHBOUR: 'it returns false'. Refute it at one input. -/
def fnExactFanHasWrong : ChangeSpec := { name := "fnExactFanHas", fn := fun _ => fun
  | [d1, d2] => { results := [.lit (.bool false)], args := [d1, d2] }
  | _ => none }
def FnExactFanHasWrongFalsely : Prop := fnExactFanHasRow.holds Try.pinned (OpenSpec.ofChange fnExactFanHasWrong)

/-- 'laws.FnExactAngNorm': WHATEVER THE INPUT: true; the input reads as it did. -/
def fnExactAngNormSpec : ChangeSpec := { name := "fnExactAngNorm", fn := fun _ => fun
  | [d] => { results := [.lit (.bool true)], args := [d] }
  | _ => none }
def fnExactAngNormRow : OpenClaim := { program := "ytdjlmfcnopbljaa", sum := "700a67bcfa47d8c1008b6ed45a3ff827b13675b7981fc736c8e63fbc6b5f4e83", func := "loop.example/alidade/laws.FnExactAngNorm", spec := "fnExactAngNorm", apart := false }
def FnExactAngNormSaid : Prop := fnExactAngNormRow.holds Try.pinned (OpenSpec.ofChange fnExactAngNormSpec)

/-- ITS FALSE NEIGHBOUR: 'it returns false'. Refute it at one input. -/
def fnExactAngNormWrong : ChangeSpec := { name := "fnExactAngNorm", fn := fun _ => fun
  | [d] => { results := [.lit (.bool false)], args := [d] }
  | _ => none }
def FnExactAngNormWrongFalsely : Prop := fnExactAngNormRow.holds Try.pinned (OpenSpec.ofChange fnExactAngNormWrong)

/-- 'laws.FnExactAngOf': WHATEVER THE INPUT: true; the input reads as it did. -/
def fnExactAngOfSpec : ChangeSpec := { name := "fnExactAngOf", fn := fun _ => fun
  | [d] => { results := [.lit (.bool true)], args := [d] }
  | _ => none }
def fnExactAngOfRow : OpenClaim := { program := "ytdjlmfcnopbljaa", sum := "700a67bcfa47d8c1008b6ed45a3ff827b13675b7981fc736c8e63fbc6b5f4e83", func := "loop.example/alidade/laws.FnExactAngOf", spec := "fnExactAngOf", apart := false }
def FnExactAngOfSaid : Prop := fnExactAngOfRow.holds Try.pinned (OpenSpec.ofChange fnExactAngOfSpec)

/-- ITS FALSE NEIGHBOUR: 'it returns false'. Refute it at one input. -/
def fnExactAngOfWrong : ChangeSpec := { name := "fnExactAngOf", fn := fun _ => fun
  | [d] => { results := [.lit (.bool false)], args := [d] }
  | _ => none }
def FnExactAngOfWrongFalsely : Prop := fnExactAngOfRow.holds Try.pinned (OpenSpec.ofChange fnExactAngOfWrong)

/-- 'laws.FnExactAngParts': WHATEVER THE INPUT: true; the input reads as it did. -/
def fnExactAngPartsSpec : ChangeSpec := { name := "fnExactAngParts", fn := fun _ => fun
  | [d] => { results := [.lit (.bool true)], args := [d] }
  | _ => none }
def fnExactAngPartsRow : OpenClaim := { program := "ytdjlmfcnopbljaa", sum := "700a67bcfa47d8c1008b6ed45a3ff827b13675b7981fc736c8e63fbc6b5f4e83", func := "loop.example/alidade/laws.FnExactAngParts", spec := "fnExactAngParts", apart := false }
def FnExactAngPartsSaid : Prop := fnExactAngPartsRow.holds Try.pinned (OpenSpec.ofChange fnExactAngPartsSpec)

/-- ITS FALSE NEIGHBOUR: 'it returns false'. Refute it at one input. -/
def fnExactAngPartsWrong : ChangeSpec := { name := "fnExactAngParts", fn := fun _ => fun
  | [d] => { results := [.lit (.bool false)], args := [d] }
  | _ => none }
def FnExactAngPartsWrongFalsely : Prop := fnExactAngPartsRow.holds Try.pinned (OpenSpec.ofChange fnExactAngPartsWrong)

/-- 'laws.FnExactAngDiff': WHATEVER THE INPUT: true; the input reads as it did. -/
def fnExactAngDiffSpec : ChangeSpec := { name := "fnExactAngDiff", fn := fun _ => fun
  | [d1, d2] => { results := [.lit (.bool true)], args := [d1, d2] }
  | _ => none }
def fnExactAngDiffRow : OpenClaim := { program := "ytdjlmfcnopbljaa", sum := "700a67bcfa47d8c1008b6ed45a3ff827b13675b7981fc736c8e63fbc6b5f4e83", func := "loop.example/alidade/laws.FnExactAngDiff", spec := "fnExactAngDiff", apart := false }
def FnExactAngDiffSaid : Prop := fnExactAngDiffRow.holds Try.pinned (OpenSpec.ofChange fnExactAngDiffSpec)

/-- ITS FALSE NEIGHBOUR: 'it returns false'. Refute it at one input. -/
def fnExactAngDiffWrong : ChangeSpec := { name := "fnExactAngDiff", fn := fun _ => fun
  | [d1, d2] => { results := [.lit (.bool false)], args := [d1, d2] }
  | _ => none }
def FnExactAngDiffWrongFalsely : Prop := fnExactAngDiffRow.holds Try.pinned (OpenSpec.ofChange fnExactAngDiffWrong)

/-- 'laws.FnExactArcOf': WHATEVER THE INPUT: true; the input reads as it did. -/
def fnExactArcOfSpec : ChangeSpec := { name := "fnExactArcOf", fn := fun _ => fun
  | [d] => { results := [.lit (.bool true)], args := [d] }
  | _ => none }
def fnExactArcOfRow : OpenClaim := { program := "ytdjlmfcnopbljaa", sum := "700a67bcfa47d8c1008b6ed45a3ff827b13675b7981fc736c8e63fbc6b5f4e83", func := "loop.example/alidade/laws.FnExactArcOf", spec := "fnExactArcOf", apart := false }
def FnExactArcOfSaid : Prop := fnExactArcOfRow.holds Try.pinned (OpenSpec.ofChange fnExactArcOfSpec)

/-- ITS FALSE NEIGHBOUR: 'it returns false'. Refute it at one input. -/
def fnExactArcOfWrong : ChangeSpec := { name := "fnExactArcOf", fn := fun _ => fun
  | [d] => { results := [.lit (.bool false)], args := [d] }
  | _ => none }
def FnExactArcOfWrongFalsely : Prop := fnExactArcOfRow.holds Try.pinned (OpenSpec.ofChange fnExactArcOfWrong)

/-- 'laws.FnFanHas': WHATEVER THE INPUT: true; the input reads as it did. -/
def fnFanHasSpec : ChangeSpec := { name := "fnFanHas", fn := fun _ => fun
  | [d] => { results := [.lit (.bool true)], args := [d] }
  | _ => none }
def fnFanHasRow : OpenClaim := { program := "ytdjlmfcnopbljaa", sum := "700a67bcfa47d8c1008b6ed45a3ff827b13675b7981fc736c8e63fbc6b5f4e83", func := "loop.example/alidade/laws.FnFanHas", spec := "fnFanHas", apart := false }
def FnFanHasSaid : Prop := fnFanHasRow.holds Try.pinned (OpenSpec.ofChange fnFanHasSpec)

/-- ITS FALSE NEIGHBOUR: 'it returns false'. Refute it at one input. -/
def fnFanHasWrong : ChangeSpec := { name := "fnFanHas", fn := fun _ => fun
  | [d] => { results := [.lit (.bool false)], args := [d] }
  | _ => none }
def FnFanHasWrongFalsely : Prop := fnFanHasRow.holds Try.pinned (OpenSpec.ofChange fnFanHasWrong)

/-- 'laws.FnExactFanRound': WHATEVER THE INPUT: true; the input reads as it did. -/
def fnExactFanRoundSpec : ChangeSpec := { name := "fnExactFanRound", fn := fun _ => fun
  | [d1, d2, d3] => { results := [.lit (.bool true)], args := [d1, d2, d3] }
  | _ => none }
def fnExactFanRoundRow : OpenClaim := { program := "ytdjlmfcnopbljaa", sum := "700a67bcfa47d8c1008b6ed45a3ff827b13675b7981fc736c8e63fbc6b5f4e83", func := "loop.example/alidade/laws.FnExactFanRound", spec := "fnExactFanRound", apart := false }
def FnExactFanRoundSaid : Prop := fnExactFanRoundRow.holds Try.pinned (OpenSpec.ofChange fnExactFanRoundSpec)

/-- ITS FALSE NEIGHBOUR: 'it returns false'. Refute it at one input. -/
def fnExactFanRoundWrong : ChangeSpec := { name := "fnExactFanRound", fn := fun _ => fun
  | [d1, d2, d3] => { results := [.lit (.bool false)], args := [d1, d2, d3] }
  | _ => none }
def FnExactFanRoundWrongFalsely : Prop := fnExactFanRoundRow.holds Try.pinned (OpenSpec.ofChange fnExactFanRoundWrong)

/-- 'laws.FnAngNorm': WHATEVER THE INPUT: true; the input reads as it did. -/
def fnAngNormSpec : ChangeSpec := { name := "fnAngNorm", fn := fun _ => fun
  | [d1, d2] => { results := [.lit (.bool true)], args := [d1, d2] }
  | _ => none }
def fnAngNormRow : OpenClaim := { program := "ytdjlmfcnopbljaa", sum := "700a67bcfa47d8c1008b6ed45a3ff827b13675b7981fc736c8e63fbc6b5f4e83", func := "loop.example/alidade/laws.FnAngNorm", spec := "fnAngNorm", apart := false }
def FnAngNormSaid : Prop := fnAngNormRow.holds Try.pinned (OpenSpec.ofChange fnAngNormSpec)

/-- ITS FALSE NEIGHBOUR: 'it returns false'. Refute it at one input. -/
def fnAngNormWrong : ChangeSpec := { name := "fnAngNorm", fn := fun _ => fun
  | [d1, d2] => { results := [.lit (.bool false)], args := [d1, d2] }
  | _ => none }
def FnAngNormWrongFalsely : Prop := fnAngNormRow.holds Try.pinned (OpenSpec.ofChange fnAngNormWrong)

/-- 'laws.FnExactSureRound': WHATEVER THE INPUT: true; the input reads as it did. -/
def fnExactSureRoundSpec : ChangeSpec := { name := "fnExactSureRound", fn := fun _ => fun
  | [d1, d2, d3] => { results := [.lit (.bool true)], args := [d1, d2, d3] }
  | _ => none }
def fnExactSureRoundRow : OpenClaim := { program := "ytdjlmfcnopbljaa", sum := "700a67bcfa47d8c1008b6ed45a3ff827b13675b7981fc736c8e63fbc6b5f4e83", func := "loop.example/alidade/laws.FnExactSureRound", spec := "fnExactSureRound", apart := false }
def FnExactSureRoundSaid : Prop := fnExactSureRoundRow.holds Try.pinned (OpenSpec.ofChange fnExactSureRoundSpec)

/-- ITS FALSE NEIGHBOUR: 'it returns false'. Refute it at one input. -/
def fnExactSureRoundWrong : ChangeSpec := { name := "fnExactSureRound", fn := fun _ => fun
  | [d1, d2, d3] => { results := [.lit (.bool false)], args := [d1, d2, d3] }
  | _ => none }
def FnExactSureRoundWrongFalsely : Prop := fnExactSureRoundRow.holds Try.pinned (OpenSpec.ofChange fnExactSureRoundWrong)

/-- 'laws.FnAngParts': WHATEVER THE INPUT: true; the input reads as it did. -/
def fnAngPartsSpec : ChangeSpec := { name := "fnAngParts", fn := fun _ => fun
  | [d] => { results := [.lit (.bool true)], args := [d] }
  | _ => none }
def fnAngPartsRow : OpenClaim := { program := "ytdjlmfcnopbljaa", sum := "700a67bcfa47d8c1008b6ed45a3ff827b13675b7981fc736c8e63fbc6b5f4e83", func := "loop.example/alidade/laws.FnAngParts", spec := "fnAngParts", apart := false }
def FnAngPartsSaid : Prop := fnAngPartsRow.holds Try.pinned (OpenSpec.ofChange fnAngPartsSpec)

/-- ITS FALSE NEIGHBOUR: 'it returns false'. Refute it at one input. -/
def fnAngPartsWrong : ChangeSpec := { name := "fnAngParts", fn := fun _ => fun
  | [d] => { results := [.lit (.bool false)], args := [d] }
  | _ => none }
def FnAngPartsWrongFalsely : Prop := fnAngPartsRow.holds Try.pinned (OpenSpec.ofChange fnAngPartsWrong)

/-- 'laws.FnSureLess': WHATEVER THE INPUT: true; the input reads as it did. -/
def fnSureLessSpec : ChangeSpec := { name := "fnSureLess", fn := fun _ => fun
  | [d1, d2] => { results := [.lit (.bool true)], args := [d1, d2] }
  | _ => none }
def fnSureLessRow : OpenClaim := { program := "ytdjlmfcnopbljaa", sum := "700a67bcfa47d8c1008b6ed45a3ff827b13675b7981fc736c8e63fbc6b5f4e83", func := "loop.example/alidade/laws.FnSureLess", spec := "fnSureLess", apart := false }
def FnSureLessSaid : Prop := fnSureLessRow.holds Try.pinned (OpenSpec.ofChange fnSureLessSpec)

/-- ITS FALSE NEIGHBOUR: 'it returns false'. Refute it at one input. -/
def fnSureLessWrong : ChangeSpec := { name := "fnSureLess", fn := fun _ => fun
  | [d1, d2] => { results := [.lit (.bool false)], args := [d1, d2] }
  | _ => none }
def FnSureLessWrongFalsely : Prop := fnSureLessRow.holds Try.pinned (OpenSpec.ofChange fnSureLessWrong)

/- THE SECOND FORM. 'bulk': how many values and letters a reading holds, each counted each time it is reached (what is shared counts as often as it is met; a slice's spare places count too). A statement '..UptoSaid' is the law's where the arguments, and the package variables that the reading takes, are together of bulk at most 1048576: NARROWER than '..Said'. Prove '..Said' where nothing that the law and all that it calls make is longer than what came in: it says more and counts as full. Else prove '..UptoSaid'. A law counts once. -/
mutual
def uptoBulk {H : Type} : DataW H → Nat
  | .lit (.string bytes) => bytes.length + 1
  | .lit _ => 1
  | .nil => 1
  | .ptr d => uptoBulk d + 1
  | .slice elems spare => uptoBulkAll elems + uptoBulkAll spare + 1
  | .agg parts => uptoBulkAll parts + 1
  | .iface _ d => uptoBulk d + 1
  | .map entries => uptoBulkEntries entries + 1
  | .held _ => 1
def uptoBulkAll {H : Type} : List (DataW H) → Nat
  | [] => 0
  | d :: r => uptoBulk d + uptoBulkAll r
def uptoBulkEntries {H : Type} : List (Lit × DataW H) → Nat
  | [] => 0
  | x :: r => uptoBulkEntry x + uptoBulkEntries r
def uptoBulkEntry {H : Type} : Lit × DataW H → Nat
  | (.string bytes, d) => bytes.length + uptoBulk d + 1
  | (_, d) => uptoBulk d + 1
 end
def uptoSmall : (H : Type) → List (DataW H) → Bool := fun _ ds => decide (uptoBulkAll ds ≤ 1048576)
def OpenSpec.upto (s : _root_.Go.ChangeSpec) : _root_.Go.OpenSpec := { _root_.Go.OpenSpec.ofChange s with cond := some uptoSmall }

/-- 'laws.FnExactFanHas', WHERE WHAT IT READS IS OF BULK AT MOST 1048576: true; the input reads as it did. -/
def fnExactFanHasUptoRow : OpenClaim := { program := "ytdjlmfcnopbljaa", sum := "700a67bcfa47d8c1008b6ed45a3ff827b13675b7981fc736c8e63fbc6b5f4e83", func := "loop.example/alidade/laws.FnExactFanHas", spec := "fnExactFanHas", apart := false, narrowed := true }
def FnExactFanHasUptoSaid : Prop := fnExactFanHasUptoRow.holds Try.pinned (OpenSpec.upto fnExactFanHasSpec)

/-- 'laws.FnExactAngNorm', WHERE WHAT IT READS IS OF BULK AT MOST 1048576: true; the input reads as it did. -/
def fnExactAngNormUptoRow : OpenClaim := { program := "ytdjlmfcnopbljaa", sum := "700a67bcfa47d8c1008b6ed45a3ff827b13675b7981fc736c8e63fbc6b5f4e83", func := "loop.example/alidade/laws.FnExactAngNorm", spec := "fnExactAngNorm", apart := false, narrowed := true }
def FnExactAngNormUptoSaid : Prop := fnExactAngNormUptoRow.holds Try.pinned (OpenSpec.upto fnExactAngNormSpec)

/-- 'laws.FnExactAngOf', WHERE WHAT IT READS IS OF BULK AT MOST 1048576: true; the input reads as it did. -/
def fnExactAngOfUptoRow : OpenClaim := { program := "ytdjlmfcnopbljaa", sum := "700a67bcfa47d8c1008b6ed45a3ff827b13675b7981fc736c8e63fbc6b5f4e83", func := "loop.example/alidade/laws.FnExactAngOf", spec := "fnExactAngOf", apart := false, narrowed := true }
def FnExactAngOfUptoSaid : Prop := fnExactAngOfUptoRow.holds Try.pinned (OpenSpec.upto fnExactAngOfSpec)

/-- 'laws.FnExactAngParts', WHERE WHAT IT READS IS OF BULK AT MOST 1048576: true; the input reads as it did. -/
def fnExactAngPartsUptoRow : OpenClaim := { program := "ytdjlmfcnopbljaa", sum := "700a67bcfa47d8c1008b6ed45a3ff827b13675b7981fc736c8e63fbc6b5f4e83", func := "loop.example/alidade/laws.FnExactAngParts", spec := "fnExactAngParts", apart := false, narrowed := true }
def FnExactAngPartsUptoSaid : Prop := fnExactAngPartsUptoRow.holds Try.pinned (OpenSpec.upto fnExactAngPartsSpec)

/-- 'laws.FnExactAngDiff', WHERE WHAT IT READS IS OF BULK AT MOST 1048576: true; the input reads as it did. -/
def fnExactAngDiffUptoRow : OpenClaim := { program := "ytdjlmfcnopbljaa", sum := "700a67bcfa47d8c1008b6ed45a3ff827b13675b7981fc736c8e63fbc6b5f4e83", func := "loop.example/alidade/laws.FnExactAngDiff", spec := "fnExactAngDiff", apart := false, narrowed := true }
def FnExactAngDiffUptoSaid : Prop := fnExactAngDiffUptoRow.holds Try.pinned (OpenSpec.upto fnExactAngDiffSpec)

/-- 'laws.FnExactArcOf', WHERE WHAT IT READS IS OF BULK AT MOST 1048576: true; the input reads as it did. -/
def fnExactArcOfUptoRow : OpenClaim := { program := "ytdjlmfcnopbljaa", sum := "700a67bcfa47d8c1008b6ed45a3ff827b13675b7981fc736c8e63fbc6b5f4e83", func := "loop.example/alidade/laws.FnExactArcOf", spec := "fnExactArcOf", apart := false, narrowed := true }
def FnExactArcOfUptoSaid : Prop := fnExactArcOfUptoRow.holds Try.pinned (OpenSpec.upto fnExactArcOfSpec)

/-- 'laws.FnFanHas', WHERE WHAT IT READS IS OF BULK AT MOST 1048576: true; the input reads as it did. -/
def fnFanHasUptoRow : OpenClaim := { program := "ytdjlmfcnopbljaa", sum := "700a67bcfa47d8c1008b6ed45a3ff827b13675b7981fc736c8e63fbc6b5f4e83", func := "loop.example/alidade/laws.FnFanHas", spec := "fnFanHas", apart := false, narrowed := true }
def FnFanHasUptoSaid : Prop := fnFanHasUptoRow.holds Try.pinned (OpenSpec.upto fnFanHasSpec)

/-- 'laws.FnExactFanRound', WHERE WHAT IT READS IS OF BULK AT MOST 1048576: true; the input reads as it did. -/
def fnExactFanRoundUptoRow : OpenClaim := { program := "ytdjlmfcnopbljaa", sum := "700a67bcfa47d8c1008b6ed45a3ff827b13675b7981fc736c8e63fbc6b5f4e83", func := "loop.example/alidade/laws.FnExactFanRound", spec := "fnExactFanRound", apart := false, narrowed := true }
def FnExactFanRoundUptoSaid : Prop := fnExactFanRoundUptoRow.holds Try.pinned (OpenSpec.upto fnExactFanRoundSpec)

/-- 'laws.FnAngNorm', WHERE WHAT IT READS IS OF BULK AT MOST 1048576: true; the input reads as it did. -/
def fnAngNormUptoRow : OpenClaim := { program := "ytdjlmfcnopbljaa", sum := "700a67bcfa47d8c1008b6ed45a3ff827b13675b7981fc736c8e63fbc6b5f4e83", func := "loop.example/alidade/laws.FnAngNorm", spec := "fnAngNorm", apart := false, narrowed := true }
def FnAngNormUptoSaid : Prop := fnAngNormUptoRow.holds Try.pinned (OpenSpec.upto fnAngNormSpec)

/-- 'laws.FnExactSureRound', WHERE WHAT IT READS IS OF BULK AT MOST 1048576: true; the input reads as it did. -/
def fnExactSureRoundUptoRow : OpenClaim := { program := "ytdjlmfcnopbljaa", sum := "700a67bcfa47d8c1008b6ed45a3ff827b13675b7981fc736c8e63fbc6b5f4e83", func := "loop.example/alidade/laws.FnExactSureRound", spec := "fnExactSureRound", apart := false, narrowed := true }
def FnExactSureRoundUptoSaid : Prop := fnExactSureRoundUptoRow.holds Try.pinned (OpenSpec.upto fnExactSureRoundSpec)

/-- 'laws.FnAngParts', WHERE WHAT IT READS IS OF BULK AT MOST 1048576: true; the input reads as it did. -/
def fnAngPartsUptoRow : OpenClaim := { program := "ytdjlmfcnopbljaa", sum := "700a67bcfa47d8c1008b6ed45a3ff827b13675b7981fc736c8e63fbc6b5f4e83", func := "loop.example/alidade/laws.FnAngParts", spec := "fnAngParts", apart := false, narrowed := true }
def FnAngPartsUptoSaid : Prop := fnAngPartsUptoRow.holds Try.pinned (OpenSpec.upto fnAngPartsSpec)

/-- 'laws.FnSureLess', WHERE WHAT IT READS IS OF BULK AT MOST 1048576: true; the input reads as it did. -/
def fnSureLessUptoRow : OpenClaim := { program := "ytdjlmfcnopbljaa", sum := "700a67bcfa47d8c1008b6ed45a3ff827b13675b7981fc736c8e63fbc6b5f4e83", func := "loop.example/alidade/laws.FnSureLess", spec := "fnSureLess", apart := false, narrowed := true }
def FnSureLessUptoSaid : Prop := fnSureLessUptoRow.holds Try.pinned (OpenSpec.upto fnSureLessSpec)

end Rows
end Go.Proofs.Ytdjlmfcnopbljaa
