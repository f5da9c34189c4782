/- Small words for the contracts of this seat, without conditions. Written by the print program of the kit, parted anew by this session. -/
import Derived.Test.YtmncignfkpkcjaaProg
import Derived.Below
import Derived.Deep.Draws
import Derived.Deep.AppendLies
import Derived.Maps.AppendAt
import Derived.OwnWalk
import Derived.Laws.BytesArg
import Derived.Laws.MakeOwn
import Derived.Laws.OwnMore
import Derived.Deep.OwnRows
import Derived.Tactics
import Derived.Lib.ConvBytes
import Derived.Laws.Slices
import Derived.WalkKit
import Derived.KernelRfl
import Derived.RowKit3
import Derived.Deep.LoopGhost
import Derived.Deep.QuietTactic
import Derived.BigQuiet
import Derived.WideLaws
import Derived.Deep.DeepCutAuto
import Derived.Deep.CutBlock
import Derived.Deep.RegionHeld3
import Derived.Laws.Rows
import Derived.Lib.AppendStr
import Derived.ArgAppend
import Derived.Laws.IdiomCopy
import Derived.OrdersHeld
import Derived.Laws.BitsLemmas
import Derived.RowKit
import Derived.Test.YtmncignfkpkcjaaWWords
import Derived.Test.YtmncignfkpkcjaaWLast
import Derived.Test.YtmncignfkpkcjaaWTab
import Derived.Test.YtmncignfkpkcjaaWFour
import Derived.Test.YtmncignfkpkcjaaWQPut
import Derived.Test.YtmncignfkpkcjaaWApart
import Derived.Test.YtmncignfkpkcjaaWArr
import Derived.Test.YtmncignfkpkcjaaWZeros
import Derived.Test.YtmncignfkpkcjaaWFoot
import Derived.Test.YtmncignfkpkcjaaWKept
import Derived.Test.YtmncignfkpkcjaaWShare
import Derived.Test.YtmncignfkpkcjaaWN
import Derived.Test.YtmncignfkpkcjaaWFootNe
import Derived.Test.YtmncignfkpkcjaaWAt
import Derived.Test.YtmncignfkpkcjaaWEqStruct
import Derived.Test.YtmncignfkpkcjaaWRepsOne
import Derived.Test.YtmncignfkpkcjaaWInv
import Derived.Test.YtmncignfkpkcjaaWInvWords
import Derived.Test.YtmncignfkpkcjaaWGuard
import Derived.Test.YtmncignfkpkcjaaWNEv
import Derived.Test.YtmncignfkpkcjaaWMore
namespace Go.Proofs.Ytmncignfkpkcjaa.S
open Go.RowKit Go.Proofs.YtmncignfkpkcjaaW.PrintWords Go.Proofs.YtmncignfkpkcjaaW.PrintLast Go.Proofs.YtmncignfkpkcjaaW.PrintMore
attribute [local go_sem] max2_int min2_int max_two min_two max_three min_three max_four min_four   -- for this text's walks alone
set_option linter.unusedVariables false
set_option linter.unusedSimpArgs false



def errW : Option Int → Value
  | none => .nilIface
  | some c => .iface 0 (.int .i64 c)
theorem errW_none : errW none = .nilIface := rfl
theorem errW_some (c : Int) : errW (some c) = .iface 0 (.int .i64 c) := rfl

theorem info3 : (Try.prog.info? 3).map (fun i => (i.zero, i.size, i.bytes)) = some (some (.int .i64 0), 1, 8) := by kernel_rfl
theorem info5 : (Try.prog.info? 5).map (fun i => (i.zero, i.size, i.bytes)) = some (some (.int .u8 0), 1, 1) := by kernel_rfl
-- the values' own types


theorem eqA23 (d : Nat) (w : World) (x0 y0 : Int) (x1 y1 : Int) :
    (Op.equalIn (d + 2) 23 (.agg #[.int .i64 x0, .int .i64 x1]) (.agg #[.int .i64 y0, .int .i64 y1])).run Try.prog w = .ok (x0 == y0 && (x1 == y1)) w := by
  refine eqA_of Try.underlying23 (by kernel_rfl) ?_
  refine eqf_cons (by rfl) (by go_simp; rfl) (by go_simp; rfl) (by go_simp) ?_
  exact eqf_last (by rfl) (by go_simp; rfl) (by go_simp; rfl) (by go_simp)

-- NOT PRINTED: function 67 (impl_halve)


-- NOT PRINTED: function 43 (impl_sineBack)


-- NOT PRINTED: function 26 (impl_CosBack)


-- NOT PRINTED: function 8 (laws_FnExactCosBack)


-- NOT PRINTED: function 23 (impl_SineBack)


-- NOT PRINTED: function 7 (laws_FnExactSineBack)


-- NOT PRINTED: function 45 (impl_wayOf)


-- NOT PRINTED: function 28 (impl_WayOf)


-- NOT PRINTED: function 9 (laws_FnExactWayOf)


-- NOT PRINTED: function 11 (laws_FnSineBackMore)


-- NOT PRINTED: function 10 (laws_FnSineBackOf)

end Go.Proofs.Ytmncignfkpkcjaa.S
