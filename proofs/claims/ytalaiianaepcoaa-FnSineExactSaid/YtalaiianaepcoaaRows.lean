/-
  No cell of these rows narrows 'for every input' (looked for: loops, veiled, ifaces, maps, wideKeys, modest, calm, conditions, laid).
  DERIVED. THE GIVEN ROWS OF THIS SEAT. 12 by the template 'for every input the law returns true; each argument reads behind the call as it read before'; 0 by the template 'total and deterministic' (their statements: YtalaiianaepcoaaTotals.lean).
  GIVEN WITH THE SEED: the statements are not yours to turn. If you find one false, say at which input.
  Laid BY PROGRAM, IN A SANDBOX (cutbox-rows.mjs): the forced cells as the released guide's own fill.sh prints them over the translation 94e8cbe07525ae4e… (all of the seat's roots in one cut). By AI agents, Wed Nov 11 2026. No macro, syntax, notation, axiom, sorry.
-/
import Derived.Test.YtalaiianaepcoaaChecked
import GoSem.Claim
import GoSem.ClaimJoined
import GoSem.ClaimMapViews
import Derived.JoinedTies
import Derived.KernelRfl
namespace Go.Proofs.Ytalaiianaepcoaa
/- THE CELL 'sum', in the pinned program and in every row, IS THE sha256 OF THE DUMP (.gsa) THAT YtalaiianaepcoaaProg.lean LOADS. Nothing in Lean hashes anything: it is a label: what it is worth is what the hold of that sum in a sandbox is worth. -/
noncomputable def Try.pinned : Pinned := { name := "ytalaiianaepcoaa", sum := "94e8cbe07525ae4e3f3be818903019dba4aae3befc2bb2865b614c594ea30ae7", checked := Try.checked }
namespace Rows
def none {H : Type} : Left H := { results := [], args := [] }

/-- 'laws.FnHalfOf': WHATEVER THE INPUT: true; the input reads as it did. -/
def fnHalfOfSpec : ChangeSpec := { name := "fnHalfOf", fn := fun _ => fun
  | [d] => { results := [.lit (.bool true)], args := [d] }
  | _ => none }
def fnHalfOfRow : OpenClaim := { program := "ytalaiianaepcoaa", sum := "94e8cbe07525ae4e3f3be818903019dba4aae3befc2bb2865b614c594ea30ae7", func := "loop.example/alidade/laws.FnHalfOf", spec := "fnHalfOf", recurses := true, apart := false }
def FnHalfOfSaid : Prop := fnHalfOfRow.holds Try.pinned (OpenSpec.ofChange fnHalfOfSpec)

/-- ITS FALSE NEIGHBOUR: 'it returns false'. Refute it at one input. -/
def fnHalfOfWrong : ChangeSpec := { name := "fnHalfOf", fn := fun _ => fun
  | [d] => { results := [.lit (.bool false)], args := [d] }
  | _ => none }
def FnHalfOfWrongFalsely : Prop := fnHalfOfRow.holds Try.pinned (OpenSpec.ofChange fnHalfOfWrong)

/-- 'laws.FnTanTurn': WHATEVER THE INPUT: true; the input reads as it did. -/
def fnTanTurnSpec : ChangeSpec := { name := "fnTanTurn", fn := fun _ => fun
  | [d] => { results := [.lit (.bool true)], args := [d] }
  | _ => none }
def fnTanTurnRow : OpenClaim := { program := "ytalaiianaepcoaa", sum := "94e8cbe07525ae4e3f3be818903019dba4aae3befc2bb2865b614c594ea30ae7", func := "loop.example/alidade/laws.FnTanTurn", spec := "fnTanTurn", recurses := true, apart := false }
def FnTanTurnSaid : Prop := fnTanTurnRow.holds Try.pinned (OpenSpec.ofChange fnTanTurnSpec)

/-- ITS FALSE NEIGHBOUR: 'it returns false'. Refute it at one input. -/
def fnTanTurnWrong : ChangeSpec := { name := "fnTanTurn", fn := fun _ => fun
  | [d] => { results := [.lit (.bool false)], args := [d] }
  | _ => none }
def FnTanTurnWrongFalsely : Prop := fnTanTurnRow.holds Try.pinned (OpenSpec.ofChange fnTanTurnWrong)

/-- 'laws.FnTanOf': WHATEVER THE INPUT: true; the input reads as it did. -/
def fnTanOfSpec : ChangeSpec := { name := "fnTanOf", fn := fun _ => fun
  | [d] => { results := [.lit (.bool true)], args := [d] }
  | _ => none }
def fnTanOfRow : OpenClaim := { program := "ytalaiianaepcoaa", sum := "94e8cbe07525ae4e3f3be818903019dba4aae3befc2bb2865b614c594ea30ae7", func := "loop.example/alidade/laws.FnTanOf", spec := "fnTanOf", recurses := true, apart := false }
def FnTanOfSaid : Prop := fnTanOfRow.holds Try.pinned (OpenSpec.ofChange fnTanOfSpec)

/-- ITS FALSE NEIGHBOUR: 'it returns false'. Refute it at one input. -/
def fnTanOfWrong : ChangeSpec := { name := "fnTanOf", fn := fun _ => fun
  | [d] => { results := [.lit (.bool false)], args := [d] }
  | _ => none }
def FnTanOfWrongFalsely : Prop := fnTanOfRow.holds Try.pinned (OpenSpec.ofChange fnTanOfWrong)

/-- 'laws.FnArcOf': WHATEVER THE INPUT: true; the input reads as it did. -/
def fnArcOfSpec : ChangeSpec := { name := "fnArcOf", fn := fun _ => fun
  | [d] => { results := [.lit (.bool true)], args := [d] }
  | _ => none }
def fnArcOfRow : OpenClaim := { program := "ytalaiianaepcoaa", sum := "94e8cbe07525ae4e3f3be818903019dba4aae3befc2bb2865b614c594ea30ae7", func := "loop.example/alidade/laws.FnArcOf", spec := "fnArcOf", recurses := true, apart := false }
def FnArcOfSaid : Prop := fnArcOfRow.holds Try.pinned (OpenSpec.ofChange fnArcOfSpec)

/-- ITS FALSE NEIGHBOUR: 'it returns false'. Refute it at one input. -/
def fnArcOfWrong : ChangeSpec := { name := "fnArcOf", fn := fun _ => fun
  | [d] => { results := [.lit (.bool false)], args := [d] }
  | _ => none }
def FnArcOfWrongFalsely : Prop := fnArcOfRow.holds Try.pinned (OpenSpec.ofChange fnArcOfWrong)

/-- 'laws.FnSineExact': WHATEVER THE INPUT: true; the input reads as it did. -/
def fnSineExactSpec : ChangeSpec := { name := "fnSineExact", fn := fun _ => fun
  | [d] => { results := [.lit (.bool true)], args := [d] }
  | _ => none }
def fnSineExactRow : OpenClaim := { program := "ytalaiianaepcoaa", sum := "94e8cbe07525ae4e3f3be818903019dba4aae3befc2bb2865b614c594ea30ae7", func := "loop.example/alidade/laws.FnSineExact", spec := "fnSineExact", recurses := true, apart := false }
def FnSineExactSaid : Prop := fnSineExactRow.holds Try.pinned (OpenSpec.ofChange fnSineExactSpec)

/-- ITS FALSE NEIGHBOUR: 'it returns false'. Refute it at one input. -/
def fnSineExactWrong : ChangeSpec := { name := "fnSineExact", fn := fun _ => fun
  | [d] => { results := [.lit (.bool false)], args := [d] }
  | _ => none }
def FnSineExactWrongFalsely : Prop := fnSineExactRow.holds Try.pinned (OpenSpec.ofChange fnSineExactWrong)

/-- 'laws.FnSineHalf': WHATEVER THE INPUT: true; the input reads as it did. -/
def fnSineHalfSpec : ChangeSpec := { name := "fnSineHalf", fn := fun _ => fun
  | [d] => { results := [.lit (.bool true)], args := [d] }
  | _ => none }
def fnSineHalfRow : OpenClaim := { program := "ytalaiianaepcoaa", sum := "94e8cbe07525ae4e3f3be818903019dba4aae3befc2bb2865b614c594ea30ae7", func := "loop.example/alidade/laws.FnSineHalf", spec := "fnSineHalf", recurses := true, apart := false }
def FnSineHalfSaid : Prop := fnSineHalfRow.holds Try.pinned (OpenSpec.ofChange fnSineHalfSpec)

/-- ITS FALSE NEIGHBOUR: 'it returns false'. Refute it at one input. -/
def fnSineHalfWrong : ChangeSpec := { name := "fnSineHalf", fn := fun _ => fun
  | [d] => { results := [.lit (.bool false)], args := [d] }
  | _ => none }
def FnSineHalfWrongFalsely : Prop := fnSineHalfRow.holds Try.pinned (OpenSpec.ofChange fnSineHalfWrong)

/-- 'laws.FnSineTurn': WHATEVER THE INPUT: true; the input reads as it did. -/
def fnSineTurnSpec : ChangeSpec := { name := "fnSineTurn", fn := fun _ => fun
  | [d] => { results := [.lit (.bool true)], args := [d] }
  | _ => none }
def fnSineTurnRow : OpenClaim := { program := "ytalaiianaepcoaa", sum := "94e8cbe07525ae4e3f3be818903019dba4aae3befc2bb2865b614c594ea30ae7", func := "loop.example/alidade/laws.FnSineTurn", spec := "fnSineTurn", recurses := true, apart := false }
def FnSineTurnSaid : Prop := fnSineTurnRow.holds Try.pinned (OpenSpec.ofChange fnSineTurnSpec)

/-- ITS FALSE NEIGHBOUR: 'it returns false'. Refute it at one input. -/
def fnSineTurnWrong : ChangeSpec := { name := "fnSineTurn", fn := fun _ => fun
  | [d] => { results := [.lit (.bool false)], args := [d] }
  | _ => none }
def FnSineTurnWrongFalsely : Prop := fnSineTurnRow.holds Try.pinned (OpenSpec.ofChange fnSineTurnWrong)

/-- 'laws.FnCosOf': WHATEVER THE INPUT: true; the input reads as it did. -/
def fnCosOfSpec : ChangeSpec := { name := "fnCosOf", fn := fun _ => fun
  | [d] => { results := [.lit (.bool true)], args := [d] }
  | _ => none }
def fnCosOfRow : OpenClaim := { program := "ytalaiianaepcoaa", sum := "94e8cbe07525ae4e3f3be818903019dba4aae3befc2bb2865b614c594ea30ae7", func := "loop.example/alidade/laws.FnCosOf", spec := "fnCosOf", recurses := true, apart := false }
def FnCosOfSaid : Prop := fnCosOfRow.holds Try.pinned (OpenSpec.ofChange fnCosOfSpec)

/-- ITS FALSE NEIGHBOUR: 'it returns false'. Refute it at one input. -/
def fnCosOfWrong : ChangeSpec := { name := "fnCosOf", fn := fun _ => fun
  | [d] => { results := [.lit (.bool false)], args := [d] }
  | _ => none }
def FnCosOfWrongFalsely : Prop := fnCosOfRow.holds Try.pinned (OpenSpec.ofChange fnCosOfWrong)

/-- 'laws.FnSineMore': WHATEVER THE INPUT: true; the input reads as it did. -/
def fnSineMoreSpec : ChangeSpec := { name := "fnSineMore", fn := fun _ => fun
  | [d1, d2] => { results := [.lit (.bool true)], args := [d1, d2] }
  | _ => none }
def fnSineMoreRow : OpenClaim := { program := "ytalaiianaepcoaa", sum := "94e8cbe07525ae4e3f3be818903019dba4aae3befc2bb2865b614c594ea30ae7", func := "loop.example/alidade/laws.FnSineMore", spec := "fnSineMore", recurses := true, apart := false }
def FnSineMoreSaid : Prop := fnSineMoreRow.holds Try.pinned (OpenSpec.ofChange fnSineMoreSpec)

/-- ITS FALSE NEIGHBOUR: 'it returns false'. Refute it at one input. -/
def fnSineMoreWrong : ChangeSpec := { name := "fnSineMore", fn := fun _ => fun
  | [d1, d2] => { results := [.lit (.bool false)], args := [d1, d2] }
  | _ => none }
def FnSineMoreWrongFalsely : Prop := fnSineMoreRow.holds Try.pinned (OpenSpec.ofChange fnSineMoreWrong)

/-- 'laws.FnSineSum': WHATEVER THE INPUT: true; the input reads as it did. -/
def fnSineSumSpec : ChangeSpec := { name := "fnSineSum", fn := fun _ => fun
  | [d1, d2] => { results := [.lit (.bool true)], args := [d1, d2] }
  | _ => none }
def fnSineSumRow : OpenClaim := { program := "ytalaiianaepcoaa", sum := "94e8cbe07525ae4e3f3be818903019dba4aae3befc2bb2865b614c594ea30ae7", func := "loop.example/alidade/laws.FnSineSum", spec := "fnSineSum", recurses := true, apart := false }
def FnSineSumSaid : Prop := fnSineSumRow.holds Try.pinned (OpenSpec.ofChange fnSineSumSpec)

/-- ITS FALSE NEIGHBOUR: 'it returns false'. Refute it at one input. -/
def fnSineSumWrong : ChangeSpec := { name := "fnSineSum", fn := fun _ => fun
  | [d1, d2] => { results := [.lit (.bool false)], args := [d1, d2] }
  | _ => none }
def FnSineSumWrongFalsely : Prop := fnSineSumRow.holds Try.pinned (OpenSpec.ofChange fnSineSumWrong)

/-- 'laws.FnCosSum': WHATEVER THE INPUT: true; the input reads as it did. -/
def fnCosSumSpec : ChangeSpec := { name := "fnCosSum", fn := fun _ => fun
  | [d1, d2] => { results := [.lit (.bool true)], args := [d1, d2] }
  | _ => none }
def fnCosSumRow : OpenClaim := { program := "ytalaiianaepcoaa", sum := "94e8cbe07525ae4e3f3be818903019dba4aae3befc2bb2865b614c594ea30ae7", func := "loop.example/alidade/laws.FnCosSum", spec := "fnCosSum", recurses := true, apart := false }
def FnCosSumSaid : Prop := fnCosSumRow.holds Try.pinned (OpenSpec.ofChange fnCosSumSpec)

/-- ITS FALSE NEIGHBOUR: 'it returns false'. Refute it at one input. -/
def fnCosSumWrong : ChangeSpec := { name := "fnCosSum", fn := fun _ => fun
  | [d1, d2] => { results := [.lit (.bool false)], args := [d1, d2] }
  | _ => none }
def FnCosSumWrongFalsely : Prop := fnCosSumRow.holds Try.pinned (OpenSpec.ofChange fnCosSumWrong)

/-- 'laws.FnSineSquares': WHATEVER THE INPUT: true; the input reads as it did. -/
def fnSineSquaresSpec : ChangeSpec := { name := "fnSineSquares", fn := fun _ => fun
  | [d] => { results := [.lit (.bool true)], args := [d] }
  | _ => none }
def fnSineSquaresRow : OpenClaim := { program := "ytalaiianaepcoaa", sum := "94e8cbe07525ae4e3f3be818903019dba4aae3befc2bb2865b614c594ea30ae7", func := "loop.example/alidade/laws.FnSineSquares", spec := "fnSineSquares", recurses := true, apart := false }
def FnSineSquaresSaid : Prop := fnSineSquaresRow.holds Try.pinned (OpenSpec.ofChange fnSineSquaresSpec)

/-- ITS FALSE NEIGHBOUR: 'it returns false'. Refute it at one input. -/
def fnSineSquaresWrong : ChangeSpec := { name := "fnSineSquares", fn := fun _ => fun
  | [d] => { results := [.lit (.bool false)], args := [d] }
  | _ => none }
def FnSineSquaresWrongFalsely : Prop := fnSineSquaresRow.holds Try.pinned (OpenSpec.ofChange fnSineSquaresWrong)

/- THE SECOND FORM. 'bulk': how many values and letters a reading holds, each counted each time it is reached (what is shared counts as often as it is met; a slice's spare places count too). A statement '..UptoSaid' is the law's where the arguments, and the package variables that the reading takes, are together of bulk at most 1048576: NARROWER than '..Said'. Prove '..Said' where nothing that the law and all that it calls make is longer than what came in: it says more and counts as full. Else prove '..UptoSaid'. A law counts once. -/
mutual
def uptoBulk {H : Type} : DataW H → Nat
  | .lit (.string bytes) => bytes.length + 1
  | .lit _ => 1
  | .nil => 1
  | .ptr d => uptoBulk d + 1
  | .slice elems spare => uptoBulkAll elems + uptoBulkAll spare + 1
  | .agg parts => uptoBulkAll parts + 1
  | .iface _ d => uptoBulk d + 1
  | .map entries => uptoBulkEntries entries + 1
  | .held _ => 1
def uptoBulkAll {H : Type} : List (DataW H) → Nat
  | [] => 0
  | d :: r => uptoBulk d + uptoBulkAll r
def uptoBulkEntries {H : Type} : List (Lit × DataW H) → Nat
  | [] => 0
  | x :: r => uptoBulkEntry x + uptoBulkEntries r
def uptoBulkEntry {H : Type} : Lit × DataW H → Nat
  | (.string bytes, d) => bytes.length + uptoBulk d + 1
  | (_, d) => uptoBulk d + 1
 end
def uptoSmall : (H : Type) → List (DataW H) → Bool := fun _ ds => decide (uptoBulkAll ds ≤ 1048576)
def OpenSpec.upto (s : _root_.Go.ChangeSpec) : _root_.Go.OpenSpec := { _root_.Go.OpenSpec.ofChange s with cond := some uptoSmall }

/-- 'laws.FnHalfOf', WHERE WHAT IT READS IS OF BULK AT MOST 1048576: true; the input reads as it did. -/
def fnHalfOfUptoRow : OpenClaim := { program := "ytalaiianaepcoaa", sum := "94e8cbe07525ae4e3f3be818903019dba4aae3befc2bb2865b614c594ea30ae7", func := "loop.example/alidade/laws.FnHalfOf", spec := "fnHalfOf", recurses := true, apart := false, narrowed := true }
def FnHalfOfUptoSaid : Prop := fnHalfOfUptoRow.holds Try.pinned (OpenSpec.upto fnHalfOfSpec)

/-- 'laws.FnTanTurn', WHERE WHAT IT READS IS OF BULK AT MOST 1048576: true; the input reads as it did. -/
def fnTanTurnUptoRow : OpenClaim := { program := "ytalaiianaepcoaa", sum := "94e8cbe07525ae4e3f3be818903019dba4aae3befc2bb2865b614c594ea30ae7", func := "loop.example/alidade/laws.FnTanTurn", spec := "fnTanTurn", recurses := true, apart := false, narrowed := true }
def FnTanTurnUptoSaid : Prop := fnTanTurnUptoRow.holds Try.pinned (OpenSpec.upto fnTanTurnSpec)

/-- 'laws.FnTanOf', WHERE WHAT IT READS IS OF BULK AT MOST 1048576: true; the input reads as it did. -/
def fnTanOfUptoRow : OpenClaim := { program := "ytalaiianaepcoaa", sum := "94e8cbe07525ae4e3f3be818903019dba4aae3befc2bb2865b614c594ea30ae7", func := "loop.example/alidade/laws.FnTanOf", spec := "fnTanOf", recurses := true, apart := false, narrowed := true }
def FnTanOfUptoSaid : Prop := fnTanOfUptoRow.holds Try.pinned (OpenSpec.upto fnTanOfSpec)

/-- 'laws.FnArcOf', WHERE WHAT IT READS IS OF BULK AT MOST 1048576: true; the input reads as it did. -/
def fnArcOfUptoRow : OpenClaim := { program := "ytalaiianaepcoaa", sum := "94e8cbe07525ae4e3f3be818903019dba4aae3befc2bb2865b614c594ea30ae7", func := "loop.example/alidade/laws.FnArcOf", spec := "fnArcOf", recurses := true, apart := false, narrowed := true }
def FnArcOfUptoSaid : Prop := fnArcOfUptoRow.holds Try.pinned (OpenSpec.upto fnArcOfSpec)

/-- 'laws.FnSineExact', WHERE WHAT IT READS IS OF BULK AT MOST 1048576: true; the input reads as it did. -/
def fnSineExactUptoRow : OpenClaim := { program := "ytalaiianaepcoaa", sum := "94e8cbe07525ae4e3f3be818903019dba4aae3befc2bb2865b614c594ea30ae7", func := "loop.example/alidade/laws.FnSineExact", spec := "fnSineExact", recurses := true, apart := false, narrowed := true }
def FnSineExactUptoSaid : Prop := fnSineExactUptoRow.holds Try.pinned (OpenSpec.upto fnSineExactSpec)

/-- 'laws.FnSineHalf', WHERE WHAT IT READS IS OF BULK AT MOST 1048576: true; the input reads as it did. -/
def fnSineHalfUptoRow : OpenClaim := { program := "ytalaiianaepcoaa", sum := "94e8cbe07525ae4e3f3be818903019dba4aae3befc2bb2865b614c594ea30ae7", func := "loop.example/alidade/laws.FnSineHalf", spec := "fnSineHalf", recurses := true, apart := false, narrowed := true }
def FnSineHalfUptoSaid : Prop := fnSineHalfUptoRow.holds Try.pinned (OpenSpec.upto fnSineHalfSpec)

/-- 'laws.FnSineTurn', WHERE WHAT IT READS IS OF BULK AT MOST 1048576: true; the input reads as it did. -/
def fnSineTurnUptoRow : OpenClaim := { program := "ytalaiianaepcoaa", sum := "94e8cbe07525ae4e3f3be818903019dba4aae3befc2bb2865b614c594ea30ae7", func := "loop.example/alidade/laws.FnSineTurn", spec := "fnSineTurn", recurses := true, apart := false, narrowed := true }
def FnSineTurnUptoSaid : Prop := fnSineTurnUptoRow.holds Try.pinned (OpenSpec.upto fnSineTurnSpec)

/-- 'laws.FnCosOf', WHERE WHAT IT READS IS OF BULK AT MOST 1048576: true; the input reads as it did. -/
def fnCosOfUptoRow : OpenClaim := { program := "ytalaiianaepcoaa", sum := "94e8cbe07525ae4e3f3be818903019dba4aae3befc2bb2865b614c594ea30ae7", func := "loop.example/alidade/laws.FnCosOf", spec := "fnCosOf", recurses := true, apart := false, narrowed := true }
def FnCosOfUptoSaid : Prop := fnCosOfUptoRow.holds Try.pinned (OpenSpec.upto fnCosOfSpec)

/-- 'laws.FnSineMore', WHERE WHAT IT READS IS OF BULK AT MOST 1048576: true; the input reads as it did. -/
def fnSineMoreUptoRow : OpenClaim := { program := "ytalaiianaepcoaa", sum := "94e8cbe07525ae4e3f3be818903019dba4aae3befc2bb2865b614c594ea30ae7", func := "loop.example/alidade/laws.FnSineMore", spec := "fnSineMore", recurses := true, apart := false, narrowed := true }
def FnSineMoreUptoSaid : Prop := fnSineMoreUptoRow.holds Try.pinned (OpenSpec.upto fnSineMoreSpec)

/-- 'laws.FnSineSum', WHERE WHAT IT READS IS OF BULK AT MOST 1048576: true; the input reads as it did. -/
def fnSineSumUptoRow : OpenClaim := { program := "ytalaiianaepcoaa", sum := "94e8cbe07525ae4e3f3be818903019dba4aae3befc2bb2865b614c594ea30ae7", func := "loop.example/alidade/laws.FnSineSum", spec := "fnSineSum", recurses := true, apart := false, narrowed := true }
def FnSineSumUptoSaid : Prop := fnSineSumUptoRow.holds Try.pinned (OpenSpec.upto fnSineSumSpec)

/-- 'laws.FnCosSum', WHERE WHAT IT READS IS OF BULK AT MOST 1048576: true; the input reads as it did. -/
def fnCosSumUptoRow : OpenClaim := { program := "ytalaiianaepcoaa", sum := "94e8cbe07525ae4e3f3be818903019dba4aae3befc2bb2865b614c594ea30ae7", func := "loop.example/alidade/laws.FnCosSum", spec := "fnCosSum", recurses := true, apart := false, narrowed := true }
def FnCosSumUptoSaid : Prop := fnCosSumUptoRow.holds Try.pinned (OpenSpec.upto fnCosSumSpec)

/-- 'laws.FnSineSquares', WHERE WHAT IT READS IS OF BULK AT MOST 1048576: true; the input reads as it did. -/
def fnSineSquaresUptoRow : OpenClaim := { program := "ytalaiianaepcoaa", sum := "94e8cbe07525ae4e3f3be818903019dba4aae3befc2bb2865b614c594ea30ae7", func := "loop.example/alidade/laws.FnSineSquares", spec := "fnSineSquares", recurses := true, apart := false, narrowed := true }
def FnSineSquaresUptoSaid : Prop := fnSineSquaresUptoRow.holds Try.pinned (OpenSpec.upto fnSineSquaresSpec)

end Rows
end Go.Proofs.Ytalaiianaepcoaa
