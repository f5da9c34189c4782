/- Small words for the contracts of this seat, without conditions. Written by the print program of the kit, parted anew by this session. -/
import Derived.Test.YtdjlmfcnopbljaaProg
import Derived.Below
import Derived.Deep.Draws
import Derived.Deep.AppendLies
import Derived.Maps.AppendAt
import Derived.OwnWalk
import Derived.Laws.BytesArg
import Derived.Laws.MakeOwn
import Derived.Laws.OwnMore
import Derived.Deep.OwnRows
import Derived.Tactics
import Derived.Lib.ConvBytes
import Derived.Laws.Slices
import Derived.WalkKit
import Derived.KernelRfl
import Derived.RowKit3
import Derived.Deep.LoopGhost
import Derived.Deep.QuietTactic
import Derived.BigQuiet
import Derived.WideLaws
import Derived.Deep.DeepCutAuto
import Derived.Deep.CutBlock
import Derived.Deep.RegionHeld3
import Derived.Laws.Rows
import Derived.Lib.AppendStr
import Derived.ArgAppend
import Derived.Laws.IdiomCopy
import Derived.OrdersHeld
import Derived.Laws.BitsLemmas
import Derived.RowKit
import Derived.Test.YtdjlmfcnopbljaaWWords
import Derived.Test.YtdjlmfcnopbljaaWLast
import Derived.Test.YtdjlmfcnopbljaaWTab
import Derived.Test.YtdjlmfcnopbljaaWFour
import Derived.Test.YtdjlmfcnopbljaaWQPut
import Derived.Test.YtdjlmfcnopbljaaWApart
import Derived.Test.YtdjlmfcnopbljaaWArr
import Derived.Test.YtdjlmfcnopbljaaWZeros
import Derived.Test.YtdjlmfcnopbljaaWFoot
import Derived.Test.YtdjlmfcnopbljaaWKept
import Derived.Test.YtdjlmfcnopbljaaWShare
import Derived.Test.YtdjlmfcnopbljaaWN
import Derived.Test.YtdjlmfcnopbljaaWFootNe
import Derived.Test.YtdjlmfcnopbljaaWAt
import Derived.Test.YtdjlmfcnopbljaaWEqStruct
import Derived.Test.YtdjlmfcnopbljaaWRepsOne
import Derived.Test.YtdjlmfcnopbljaaWInv
import Derived.Test.YtdjlmfcnopbljaaWInvWords
import Derived.Test.YtdjlmfcnopbljaaWGuard
import Derived.Test.YtdjlmfcnopbljaaWNEv
import Derived.Test.YtdjlmfcnopbljaaWMore
namespace Go.Proofs.Ytdjlmfcnopbljaa.S
open Go.RowKit Go.Proofs.YtdjlmfcnopbljaaW.PrintWords Go.Proofs.YtdjlmfcnopbljaaW.PrintLast Go.Proofs.YtdjlmfcnopbljaaW.PrintMore
attribute [local go_sem] max2_int min2_int max_two min_two max_three min_three max_four min_four   -- for this text's walks alone
set_option linter.unusedVariables false
set_option linter.unusedSimpArgs false



def errW : Option Int → Value
  | none => .nilIface
  | some c => .iface 0 (.int .i64 c)
theorem errW_none : errW none = .nilIface := rfl
theorem errW_some (c : Int) : errW (some c) = .iface 0 (.int .i64 c) := rfl

theorem info3 : (Try.prog.info? 3).map (fun i => (i.zero, i.size, i.bytes)) = some (some (.int .i64 0), 1, 8) := by kernel_rfl
theorem info5 : (Try.prog.info? 5).map (fun i => (i.zero, i.size, i.bytes)) = some (some (.int .u8 0), 1, 1) := by kernel_rfl
-- the values' own types


theorem eqA34 (d : Nat) (w : World) (x0 y0 : Bool) (x1 y1 : Int) (x2 y2 : Int) (x3 y3 : Int) (x4 y4 : Int) :
    (Op.equalIn (d + 2) 34 (.agg #[.bool x0, .int .i64 x1, .int .i64 x2, .int .i64 x3, .int .i64 x4]) (.agg #[.bool y0, .int .i64 y1, .int .i64 y2, .int .i64 y3, .int .i64 y4])).run Try.prog w = .ok (x0 == y0 && (x1 == y1 && (x2 == y2 && (x3 == y3 && (x4 == y4))))) w := by
  refine eqA_of Try.underlying34 (by kernel_rfl) ?_
  refine eqf_cons (by rfl) (by go_simp; rfl) (by go_simp; rfl) (by go_simp) ?_
  refine eqf_cons (by rfl) (by go_simp; rfl) (by go_simp; rfl) (by go_simp) ?_
  refine eqf_cons (by rfl) (by go_simp; rfl) (by go_simp; rfl) (by go_simp) ?_
  refine eqf_cons (by rfl) (by go_simp; rfl) (by go_simp; rfl) (by go_simp) ?_
  exact eqf_last (by rfl) (by go_simp; rfl) (by go_simp; rfl) (by go_simp)
end Go.Proofs.Ytdjlmfcnopbljaa.S
