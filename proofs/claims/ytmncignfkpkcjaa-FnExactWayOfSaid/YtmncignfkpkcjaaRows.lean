/-
  No cell of these rows narrows 'for every input' (looked for: loops, veiled, ifaces, maps, wideKeys, modest, calm, conditions, laid).
  DERIVED. THE GIVEN ROWS OF THIS SEAT. 10 by the template 'for every input the law returns true; each argument reads behind the call as it read before'; 0 by the template 'total and deterministic' (their statements: YtmncignfkpkcjaaTotals.lean).
  GIVEN WITH THE SEED: the statements are not yours to turn. If you find one false, say at which input.
  Laid BY PROGRAM, IN A SANDBOX (cutbox-rows.mjs): the forced cells as the released guide's own fill.sh prints them over the translation bf9b280770547c1d… (all of the seat's roots in one cut). By AI agents, Wed Nov 11 2026. No macro, syntax, notation, axiom, sorry.
-/
import Derived.Test.YtmncignfkpkcjaaChecked
import GoSem.Claim
import GoSem.ClaimJoined
import GoSem.ClaimMapViews
import Derived.JoinedTies
import Derived.KernelRfl
namespace Go.Proofs.Ytmncignfkpkcjaa
/- THE CELL 'sum', in the pinned program and in every row, IS THE sha256 OF THE DUMP (.gsa) THAT YtmncignfkpkcjaaProg.lean LOADS. Nothing in Lean hashes anything: it is a label: what it is worth is what the hold of that sum in a sandbox is worth. -/
noncomputable def Try.pinned : Pinned := { name := "ytmncignfkpkcjaa", sum := "bf9b280770547c1d37504ad509d767269128f5e3a7b086411aac5931b08ebbf4", checked := Try.checked }
namespace Rows
def none {H : Type} : Left H := { results := [], args := [] }

/-- 'laws.FnExactHalfOf': WHATEVER THE INPUT: true; the input reads as it did. -/
def fnExactHalfOfSpec : ChangeSpec := { name := "fnExactHalfOf", fn := fun _ => fun
  | [d] => { results := [.lit (.bool true)], args := [d] }
  | _ => none }
def fnExactHalfOfRow : OpenClaim := { program := "ytmncignfkpkcjaa", sum := "bf9b280770547c1d37504ad509d767269128f5e3a7b086411aac5931b08ebbf4", func := "loop.example/alidade/laws.FnExactHalfOf", spec := "fnExactHalfOf", recurses := true, apart := false }
def FnExactHalfOfSaid : Prop := fnExactHalfOfRow.holds Try.pinned (OpenSpec.ofChange fnExactHalfOfSpec)

/-- ITS FALSE NEIGHBOUR: 'it returns false'. Refute it at one input. -/
def fnExactHalfOfWrong : ChangeSpec := { name := "fnExactHalfOf", fn := fun _ => fun
  | [d] => { results := [.lit (.bool false)], args := [d] }
  | _ => none }
def FnExactHalfOfWrongFalsely : Prop := fnExactHalfOfRow.holds Try.pinned (OpenSpec.ofChange fnExactHalfOfWrong)

/-- 'laws.FnExactSineOf': WHATEVER THE INPUT: true; the input reads as it did. -/
def fnExactSineOfSpec : ChangeSpec := { name := "fnExactSineOf", fn := fun _ => fun
  | [d] => { results := [.lit (.bool true)], args := [d] }
  | _ => none }
def fnExactSineOfRow : OpenClaim := { program := "ytmncignfkpkcjaa", sum := "bf9b280770547c1d37504ad509d767269128f5e3a7b086411aac5931b08ebbf4", func := "loop.example/alidade/laws.FnExactSineOf", spec := "fnExactSineOf", recurses := true, apart := false }
def FnExactSineOfSaid : Prop := fnExactSineOfRow.holds Try.pinned (OpenSpec.ofChange fnExactSineOfSpec)

/-- ITS FALSE NEIGHBOUR: 'it returns false'. Refute it at one input. -/
def fnExactSineOfWrong : ChangeSpec := { name := "fnExactSineOf", fn := fun _ => fun
  | [d] => { results := [.lit (.bool false)], args := [d] }
  | _ => none }
def FnExactSineOfWrongFalsely : Prop := fnExactSineOfRow.holds Try.pinned (OpenSpec.ofChange fnExactSineOfWrong)

/-- 'laws.FnExactCosOf': WHATEVER THE INPUT: true; the input reads as it did. -/
def fnExactCosOfSpec : ChangeSpec := { name := "fnExactCosOf", fn := fun _ => fun
  | [d] => { results := [.lit (.bool true)], args := [d] }
  | _ => none }
def fnExactCosOfRow : OpenClaim := { program := "ytmncignfkpkcjaa", sum := "bf9b280770547c1d37504ad509d767269128f5e3a7b086411aac5931b08ebbf4", func := "loop.example/alidade/laws.FnExactCosOf", spec := "fnExactCosOf", recurses := true, apart := false }
def FnExactCosOfSaid : Prop := fnExactCosOfRow.holds Try.pinned (OpenSpec.ofChange fnExactCosOfSpec)

/-- ITS FALSE NEIGHBOUR: 'it returns false'. Refute it at one input. -/
def fnExactCosOfWrong : ChangeSpec := { name := "fnExactCosOf", fn := fun _ => fun
  | [d] => { results := [.lit (.bool false)], args := [d] }
  | _ => none }
def FnExactCosOfWrongFalsely : Prop := fnExactCosOfRow.holds Try.pinned (OpenSpec.ofChange fnExactCosOfWrong)

/-- 'laws.FnExactTanOf': WHATEVER THE INPUT: true; the input reads as it did. -/
def fnExactTanOfSpec : ChangeSpec := { name := "fnExactTanOf", fn := fun _ => fun
  | [d] => { results := [.lit (.bool true)], args := [d] }
  | _ => none }
def fnExactTanOfRow : OpenClaim := { program := "ytmncignfkpkcjaa", sum := "bf9b280770547c1d37504ad509d767269128f5e3a7b086411aac5931b08ebbf4", func := "loop.example/alidade/laws.FnExactTanOf", spec := "fnExactTanOf", recurses := true, apart := false }
def FnExactTanOfSaid : Prop := fnExactTanOfRow.holds Try.pinned (OpenSpec.ofChange fnExactTanOfSpec)

/-- ITS FALSE NEIGHBOUR: 'it returns false'. Refute it at one input. -/
def fnExactTanOfWrong : ChangeSpec := { name := "fnExactTanOf", fn := fun _ => fun
  | [d] => { results := [.lit (.bool false)], args := [d] }
  | _ => none }
def FnExactTanOfWrongFalsely : Prop := fnExactTanOfRow.holds Try.pinned (OpenSpec.ofChange fnExactTanOfWrong)

/-- 'laws.FnExactSineBack': WHATEVER THE INPUT: true; the input reads as it did. -/
def fnExactSineBackSpec : ChangeSpec := { name := "fnExactSineBack", fn := fun _ => fun
  | [d] => { results := [.lit (.bool true)], args := [d] }
  | _ => none }
def fnExactSineBackRow : OpenClaim := { program := "ytmncignfkpkcjaa", sum := "bf9b280770547c1d37504ad509d767269128f5e3a7b086411aac5931b08ebbf4", func := "loop.example/alidade/laws.FnExactSineBack", spec := "fnExactSineBack", unfollowed := true, recurses := true, apart := false }
def FnExactSineBackSaid : Prop := fnExactSineBackRow.holds Try.pinned (OpenSpec.ofChange fnExactSineBackSpec)

/-- ITS FALSE NEIGHBOUR: 'it returns false'. Refute it at one input. -/
def fnExactSineBackWrong : ChangeSpec := { name := "fnExactSineBack", fn := fun _ => fun
  | [d] => { results := [.lit (.bool false)], args := [d] }
  | _ => none }
def FnExactSineBackWrongFalsely : Prop := fnExactSineBackRow.holds Try.pinned (OpenSpec.ofChange fnExactSineBackWrong)

/-- 'laws.FnExactCosBack': WHATEVER THE INPUT: true; the input reads as it did. -/
def fnExactCosBackSpec : ChangeSpec := { name := "fnExactCosBack", fn := fun _ => fun
  | [d] => { results := [.lit (.bool true)], args := [d] }
  | _ => none }
def fnExactCosBackRow : OpenClaim := { program := "ytmncignfkpkcjaa", sum := "bf9b280770547c1d37504ad509d767269128f5e3a7b086411aac5931b08ebbf4", func := "loop.example/alidade/laws.FnExactCosBack", spec := "fnExactCosBack", unfollowed := true, recurses := true, apart := false }
def FnExactCosBackSaid : Prop := fnExactCosBackRow.holds Try.pinned (OpenSpec.ofChange fnExactCosBackSpec)

/-- ITS FALSE NEIGHBOUR: 'it returns false'. Refute it at one input. -/
def fnExactCosBackWrong : ChangeSpec := { name := "fnExactCosBack", fn := fun _ => fun
  | [d] => { results := [.lit (.bool false)], args := [d] }
  | _ => none }
def FnExactCosBackWrongFalsely : Prop := fnExactCosBackRow.holds Try.pinned (OpenSpec.ofChange fnExactCosBackWrong)

/-- 'laws.FnExactWayOf': WHATEVER THE INPUT: true; the input reads as it did. -/
def fnExactWayOfSpec : ChangeSpec := { name := "fnExactWayOf", fn := fun _ => fun
  | [d1, d2] => { results := [.lit (.bool true)], args := [d1, d2] }
  | _ => none }
def fnExactWayOfRow : OpenClaim := { program := "ytmncignfkpkcjaa", sum := "bf9b280770547c1d37504ad509d767269128f5e3a7b086411aac5931b08ebbf4", func := "loop.example/alidade/laws.FnExactWayOf", spec := "fnExactWayOf", unfollowed := true, recurses := true, apart := false }
def FnExactWayOfSaid : Prop := fnExactWayOfRow.holds Try.pinned (OpenSpec.ofChange fnExactWayOfSpec)

/-- ITS FALSE NEIGHBOUR: 'it returns false'. Refute it at one input. -/
def fnExactWayOfWrong : ChangeSpec := { name := "fnExactWayOf", fn := fun _ => fun
  | [d1, d2] => { results := [.lit (.bool false)], args := [d1, d2] }
  | _ => none }
def FnExactWayOfWrongFalsely : Prop := fnExactWayOfRow.holds Try.pinned (OpenSpec.ofChange fnExactWayOfWrong)

/-- 'laws.FnSineBackOf': WHATEVER THE INPUT: true; the input reads as it did. -/
def fnSineBackOfSpec : ChangeSpec := { name := "fnSineBackOf", fn := fun _ => fun
  | [d] => { results := [.lit (.bool true)], args := [d] }
  | _ => none }
def fnSineBackOfRow : OpenClaim := { program := "ytmncignfkpkcjaa", sum := "bf9b280770547c1d37504ad509d767269128f5e3a7b086411aac5931b08ebbf4", func := "loop.example/alidade/laws.FnSineBackOf", spec := "fnSineBackOf", unfollowed := true, recurses := true, apart := false }
def FnSineBackOfSaid : Prop := fnSineBackOfRow.holds Try.pinned (OpenSpec.ofChange fnSineBackOfSpec)

/-- ITS FALSE NEIGHBOUR: 'it returns false'. Refute it at one input. -/
def fnSineBackOfWrong : ChangeSpec := { name := "fnSineBackOf", fn := fun _ => fun
  | [d] => { results := [.lit (.bool false)], args := [d] }
  | _ => none }
def FnSineBackOfWrongFalsely : Prop := fnSineBackOfRow.holds Try.pinned (OpenSpec.ofChange fnSineBackOfWrong)

/-- 'laws.FnSineBackMore': WHATEVER THE INPUT: true; the input reads as it did. -/
def fnSineBackMoreSpec : ChangeSpec := { name := "fnSineBackMore", fn := fun _ => fun
  | [d1, d2] => { results := [.lit (.bool true)], args := [d1, d2] }
  | _ => none }
def fnSineBackMoreRow : OpenClaim := { program := "ytmncignfkpkcjaa", sum := "bf9b280770547c1d37504ad509d767269128f5e3a7b086411aac5931b08ebbf4", func := "loop.example/alidade/laws.FnSineBackMore", spec := "fnSineBackMore", unfollowed := true, recurses := true, apart := false }
def FnSineBackMoreSaid : Prop := fnSineBackMoreRow.holds Try.pinned (OpenSpec.ofChange fnSineBackMoreSpec)

/-- ITS FALSE NEIGHBOUR: 'it returns false'. Refute it at one input. -/
def fnSineBackMoreWrong : ChangeSpec := { name := "fnSineBackMore", fn := fun _ => fun
  | [d1, d2] => { results := [.lit (.bool false)], args := [d1, d2] }
  | _ => none }
def FnSineBackMoreWrongFalsely : Prop := fnSineBackMoreRow.holds Try.pinned (OpenSpec.ofChange fnSineBackMoreWrong)

/-- 'laws.FnSineOf': WHATEVER THE INPUT: true; the input reads as it did. -/
def fnSineOfSpec : ChangeSpec := { name := "fnSineOf", fn := fun _ => fun
  | [d] => { results := [.lit (.bool true)], args := [d] }
  | _ => none }
def fnSineOfRow : OpenClaim := { program := "ytmncignfkpkcjaa", sum := "bf9b280770547c1d37504ad509d767269128f5e3a7b086411aac5931b08ebbf4", func := "loop.example/alidade/laws.FnSineOf", spec := "fnSineOf", recurses := true, apart := false }
def FnSineOfSaid : Prop := fnSineOfRow.holds Try.pinned (OpenSpec.ofChange fnSineOfSpec)

/-- ITS FALSE NEIGHBOUR: 'it returns false'. Refute it at one input. -/
def fnSineOfWrong : ChangeSpec := { name := "fnSineOf", fn := fun _ => fun
  | [d] => { results := [.lit (.bool false)], args := [d] }
  | _ => none }
def FnSineOfWrongFalsely : Prop := fnSineOfRow.holds Try.pinned (OpenSpec.ofChange fnSineOfWrong)

/- THE SECOND FORM. 'bulk': how many values and letters a reading holds, each counted each time it is reached (what is shared counts as often as it is met; a slice's spare places count too). A statement '..UptoSaid' is the law's where the arguments, and the package variables that the reading takes, are together of bulk at most 1048576: NARROWER than '..Said'. Prove '..Said' where nothing that the law and all that it calls make is longer than what came in: it says more and counts as full. Else prove '..UptoSaid'. A law counts once. -/
mutual
def uptoBulk {H : Type} : DataW H → Nat
  | .lit (.string bytes) => bytes.length + 1
  | .lit _ => 1
  | .nil => 1
  | .ptr d => uptoBulk d + 1
  | .slice elems spare => uptoBulkAll elems + uptoBulkAll spare + 1
  | .agg parts => uptoBulkAll parts + 1
  | .iface _ d => uptoBulk d + 1
  | .map entries => uptoBulkEntries entries + 1
  | .held _ => 1
def uptoBulkAll {H : Type} : List (DataW H) → Nat
  | [] => 0
  | d :: r => uptoBulk d + uptoBulkAll r
def uptoBulkEntries {H : Type} : List (Lit × DataW H) → Nat
  | [] => 0
  | x :: r => uptoBulkEntry x + uptoBulkEntries r
def uptoBulkEntry {H : Type} : Lit × DataW H → Nat
  | (.string bytes, d) => bytes.length + uptoBulk d + 1
  | (_, d) => uptoBulk d + 1
 end
def uptoSmall : (H : Type) → List (DataW H) → Bool := fun _ ds => decide (uptoBulkAll ds ≤ 1048576)
def OpenSpec.upto (s : _root_.Go.ChangeSpec) : _root_.Go.OpenSpec := { _root_.Go.OpenSpec.ofChange s with cond := some uptoSmall }

/-- 'laws.FnExactHalfOf', WHERE WHAT IT READS IS OF BULK AT MOST 1048576: true; the input reads as it did. -/
def fnExactHalfOfUptoRow : OpenClaim := { program := "ytmncignfkpkcjaa", sum := "bf9b280770547c1d37504ad509d767269128f5e3a7b086411aac5931b08ebbf4", func := "loop.example/alidade/laws.FnExactHalfOf", spec := "fnExactHalfOf", recurses := true, apart := false, narrowed := true }
def FnExactHalfOfUptoSaid : Prop := fnExactHalfOfUptoRow.holds Try.pinned (OpenSpec.upto fnExactHalfOfSpec)

/-- 'laws.FnExactSineOf', WHERE WHAT IT READS IS OF BULK AT MOST 1048576: true; the input reads as it did. -/
def fnExactSineOfUptoRow : OpenClaim := { program := "ytmncignfkpkcjaa", sum := "bf9b280770547c1d37504ad509d767269128f5e3a7b086411aac5931b08ebbf4", func := "loop.example/alidade/laws.FnExactSineOf", spec := "fnExactSineOf", recurses := true, apart := false, narrowed := true }
def FnExactSineOfUptoSaid : Prop := fnExactSineOfUptoRow.holds Try.pinned (OpenSpec.upto fnExactSineOfSpec)

/-- 'laws.FnExactCosOf', WHERE WHAT IT READS IS OF BULK AT MOST 1048576: true; the input reads as it did. -/
def fnExactCosOfUptoRow : OpenClaim := { program := "ytmncignfkpkcjaa", sum := "bf9b280770547c1d37504ad509d767269128f5e3a7b086411aac5931b08ebbf4", func := "loop.example/alidade/laws.FnExactCosOf", spec := "fnExactCosOf", recurses := true, apart := false, narrowed := true }
def FnExactCosOfUptoSaid : Prop := fnExactCosOfUptoRow.holds Try.pinned (OpenSpec.upto fnExactCosOfSpec)

/-- 'laws.FnExactTanOf', WHERE WHAT IT READS IS OF BULK AT MOST 1048576: true; the input reads as it did. -/
def fnExactTanOfUptoRow : OpenClaim := { program := "ytmncignfkpkcjaa", sum := "bf9b280770547c1d37504ad509d767269128f5e3a7b086411aac5931b08ebbf4", func := "loop.example/alidade/laws.FnExactTanOf", spec := "fnExactTanOf", recurses := true, apart := false, narrowed := true }
def FnExactTanOfUptoSaid : Prop := fnExactTanOfUptoRow.holds Try.pinned (OpenSpec.upto fnExactTanOfSpec)

/-- 'laws.FnExactSineBack', WHERE WHAT IT READS IS OF BULK AT MOST 1048576: true; the input reads as it did. -/
def fnExactSineBackUptoRow : OpenClaim := { program := "ytmncignfkpkcjaa", sum := "bf9b280770547c1d37504ad509d767269128f5e3a7b086411aac5931b08ebbf4", func := "loop.example/alidade/laws.FnExactSineBack", spec := "fnExactSineBack", unfollowed := true, recurses := true, apart := false, narrowed := true }
def FnExactSineBackUptoSaid : Prop := fnExactSineBackUptoRow.holds Try.pinned (OpenSpec.upto fnExactSineBackSpec)

/-- 'laws.FnExactCosBack', WHERE WHAT IT READS IS OF BULK AT MOST 1048576: true; the input reads as it did. -/
def fnExactCosBackUptoRow : OpenClaim := { program := "ytmncignfkpkcjaa", sum := "bf9b280770547c1d37504ad509d767269128f5e3a7b086411aac5931b08ebbf4", func := "loop.example/alidade/laws.FnExactCosBack", spec := "fnExactCosBack", unfollowed := true, recurses := true, apart := false, narrowed := true }
def FnExactCosBackUptoSaid : Prop := fnExactCosBackUptoRow.holds Try.pinned (OpenSpec.upto fnExactCosBackSpec)

/-- 'laws.FnExactWayOf', WHERE WHAT IT READS IS OF BULK AT MOST 1048576: true; the input reads as it did. -/
def fnExactWayOfUptoRow : OpenClaim := { program := "ytmncignfkpkcjaa", sum := "bf9b280770547c1d37504ad509d767269128f5e3a7b086411aac5931b08ebbf4", func := "loop.example/alidade/laws.FnExactWayOf", spec := "fnExactWayOf", unfollowed := true, recurses := true, apart := false, narrowed := true }
def FnExactWayOfUptoSaid : Prop := fnExactWayOfUptoRow.holds Try.pinned (OpenSpec.upto fnExactWayOfSpec)

/-- 'laws.FnSineBackOf', WHERE WHAT IT READS IS OF BULK AT MOST 1048576: true; the input reads as it did. -/
def fnSineBackOfUptoRow : OpenClaim := { program := "ytmncignfkpkcjaa", sum := "bf9b280770547c1d37504ad509d767269128f5e3a7b086411aac5931b08ebbf4", func := "loop.example/alidade/laws.FnSineBackOf", spec := "fnSineBackOf", unfollowed := true, recurses := true, apart := false, narrowed := true }
def FnSineBackOfUptoSaid : Prop := fnSineBackOfUptoRow.holds Try.pinned (OpenSpec.upto fnSineBackOfSpec)

/-- 'laws.FnSineBackMore', WHERE WHAT IT READS IS OF BULK AT MOST 1048576: true; the input reads as it did. -/
def fnSineBackMoreUptoRow : OpenClaim := { program := "ytmncignfkpkcjaa", sum := "bf9b280770547c1d37504ad509d767269128f5e3a7b086411aac5931b08ebbf4", func := "loop.example/alidade/laws.FnSineBackMore", spec := "fnSineBackMore", unfollowed := true, recurses := true, apart := false, narrowed := true }
def FnSineBackMoreUptoSaid : Prop := fnSineBackMoreUptoRow.holds Try.pinned (OpenSpec.upto fnSineBackMoreSpec)

/-- 'laws.FnSineOf', WHERE WHAT IT READS IS OF BULK AT MOST 1048576: true; the input reads as it did. -/
def fnSineOfUptoRow : OpenClaim := { program := "ytmncignfkpkcjaa", sum := "bf9b280770547c1d37504ad509d767269128f5e3a7b086411aac5931b08ebbf4", func := "loop.example/alidade/laws.FnSineOf", spec := "fnSineOf", recurses := true, apart := false, narrowed := true }
def FnSineOfUptoSaid : Prop := fnSineOfUptoRow.holds Try.pinned (OpenSpec.upto fnSineOfSpec)

end Rows
end Go.Proofs.Ytmncignfkpkcjaa
