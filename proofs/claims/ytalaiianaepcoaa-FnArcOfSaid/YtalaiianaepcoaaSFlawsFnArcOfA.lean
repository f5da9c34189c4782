/- What the Go functions laws_FnArcOf compute: for each a Lean function with the same answers, and the contract that the Go code comes to them; under the condition that the Lean function answers. The text was written by the print program of the kit, parted and joined anew, and turned in places by a small program of this session. -/
import Derived.Test.YtalaiianaepcoaaSBase
import Derived.Test.YtalaiianaepcoaaSB
import Derived.Test.YtalaiianaepcoaaSFimplSineOf
import Derived.Test.YtalaiianaepcoaaSFimplTanOf
import Derived.Test.YtalaiianaepcoaaSFspecDrawArcOf
import Derived.Test.YtalaiianaepcoaaSFspecArcOf
import Derived.Test.YtalaiianaepcoaaSFimplArcOf
namespace Go.Proofs.Ytalaiianaepcoaa.S
open Go.RowKit Go.Proofs.YtalaiianaepcoaaW.PrintWords Go.Proofs.YtalaiianaepcoaaW.PrintLast Go.Proofs.YtalaiianaepcoaaW.PrintMore
attribute [local go_sem] max2_int min2_int max_two min_two max_three min_three max_four min_four   -- for this text's walks alone
set_option linter.unusedVariables false
set_option linter.unusedSimpArgs false

attribute [local go_sem high] eqA25
/-! ### laws_FnArcOf: function 6 -/
def laws_FnArcOf.j0 : Nat → Int → Bool → Bool → Bool → Int → Int → Int → Int → Option (Bool)
  | 0, _, _, _, _, _, _, _, _ => none
  | k + 1, x3, x5, x7, x44, x262000, x262001, x266000, x266001 => if x44 = true then (if (x7 == x5) = true then (some (x266000 == x262000 && (x266001 == x262001))) else (some false)) else ((impl_SineOf.f k x3).bind fun bt266 => ((impl_TanOf.f k x3).bind fun bt270 => ((impl_ArcOf.f (wrap64 (-x3))).bind fun bt274 => (if bt266.1 ≤ x266001 then (if bt270.2.2 = true then (if x266000 ≤ bt270.2.1 then ((impl_SpanNeg.f x266000 x266001).bind fun bt278 => (if (bt274.1 == bt278.1 && (bt274.2.1 == bt278.2)) = true then (some (decide ((wrap64 (x266001 - x266000)) ≤ 2))) else (some false))) else (some false)) else ((impl_SpanNeg.f x266000 x266001).bind fun bt280 => (if (bt274.1 == bt280.1 && (bt274.2.1 == bt280.2)) = true then (some (decide ((wrap64 (x266001 - x266000)) ≤ 2))) else (some false)))) else (some false)))))
def laws_FnArcOf.f (k : Nat) (l0 : List Int) : Option (Bool) := if (l0.length : Int) > 1048576 then (some true) else ((spec_DrawArcOf.f k l0).bind fun t257 => ((spec_ArcOf.f t257).bind fun bt258 => ((impl_ArcOf.f t257).bind fun bt262 => (if (bt262.2.2 != bt258.2.2) = true then (laws_FnArcOf.j0 k t257 bt258.2.2 bt262.2.2 true bt258.1 bt258.2.1 bt262.1 bt262.2.1) else (if (!(bt262.1 == bt258.1) || (!(bt262.2.1 == bt258.2.1))) = true then (laws_FnArcOf.j0 k t257 bt258.2.2 bt262.2.2 true bt258.1 bt258.2.1 bt262.1 bt262.2.1) else (if bt262.2.2 = true then (laws_FnArcOf.j0 k t257 bt258.2.2 bt262.2.2 (decide (t257 < 0)) bt258.1 bt258.2.1 bt262.1 bt262.2.1) else (laws_FnArcOf.j0 k t257 bt258.2.2 bt262.2.2 true bt258.1 bt258.2.1 bt262.1 bt262.2.1)))))))
theorem laws_FnArcOf.mono_l : ∀ k, (∀ y0 y1 y2 y3 y4 y5 y6 y7, LeO (laws_FnArcOf.j0 k y0 y1 y2 y3 y4 y5 y6 y7) (laws_FnArcOf.j0 (k + 1) y0 y1 y2 y3 y4 y5 y6 y7))
  | 0 => fun _ _ _ _ _ _ _ _ r h => by simp [laws_FnArcOf.j0] at h
  | k + 1 => by
    have ih0 := laws_FnArcOf.mono_l k
    · intro y0 y1 y2 y3 y4 y5 y6 y7
      unfold laws_FnArcOf.j0
      repeat' first
      | (with_reducible exact ih0 _ _ _ _ _ _ _ _)
      | (with_reducible exact impl_SineOf.mono _ _)
      | (with_reducible exact impl_TanOf.mono _ _)
      | (with_reducible exact spec_DrawArcOf.mono _ _)
      | (with_reducible exact LeO.refl _)
      | (with_reducible exact LeO.none _)
      | (with_reducible refine LeO.ite ?_ ?_)
      | (with_reducible refine LeO.bind ?_ (fun _ => ?_))
      | exact ih0 _ _ _ _ _ _ _ _
      | exact impl_SineOf.mono _ _
      | exact impl_TanOf.mono _ _
      | exact spec_DrawArcOf.mono _ _
      | exact LeO.none _
      | refine LeO.ite ?_ ?_
      | refine LeO.bind ?_ (fun _ => ?_)
theorem laws_FnArcOf.mono : ∀ a0 k, LeO (laws_FnArcOf.f k a0) (laws_FnArcOf.f (k + 1) a0) := by
  intro a0 k
  have ih0 := laws_FnArcOf.mono_l k
  unfold laws_FnArcOf.f
  repeat' first
      | (with_reducible exact ih0 _ _ _ _ _ _ _ _)
      | (with_reducible exact impl_SineOf.mono _ _)
      | (with_reducible exact impl_TanOf.mono _ _)
      | (with_reducible exact spec_DrawArcOf.mono _ _)
      | (with_reducible exact LeO.refl _)
      | (with_reducible exact LeO.none _)
      | (with_reducible refine LeO.ite ?_ ?_)
      | (with_reducible refine LeO.bind ?_ (fun _ => ?_))
      | exact ih0 _ _ _ _ _ _ _ _
      | exact impl_SineOf.mono _ _
      | exact impl_TanOf.mono _ _
      | exact spec_DrawArcOf.mono _ _
      | exact LeO.none _
      | refine LeO.ite ?_ ?_
      | refine LeO.bind ?_ (fun _ => ?_)
def laws_FnArcOf.T11 : Bool × List (List Nat × List Nat) := (true, [([], []), ([0], [0]), ([], []), ([2], [2]), ([1, 3], [1, 3]), ([4], [4]), ([5], [5]), ([6, 5], [5, 6]), ([7, 5, 5], [5, 7]), ([8], [8]), ([9, 8], [8, 9]), ([8], [8]), ([11, 8], [8, 11]), ([10, 12, 8], [8, 10, 12]), ([8, 13, 5], [5, 8, 13]), ([5, 14], [5, 14]), ([15, 8], [15]), ([16], [16]), ([16], [16]), ([18, 16, 16], [16, 18]), ([17, 19, 16], [16, 17, 19]), ([16, 20], [16, 20]), ([21, 19], [21]), ([22], [22]), ([23, 22], [22, 23]), ([22], [22]), ([25, 22], [22, 25]), ([24, 26, 22], [22, 24, 26]), ([27, 22], [22, 27]), ([22, 28], [22, 28]), ([29, 22, 0, 1, 2, 3, 4, 5, 6, 7, 8, 9, 10, 11, 12, 13, 14, 15, 16, 17, 18, 19, 20, 21, 22, 23, 24, 25, 26, 27, 28, 29], [29])])
def laws_FnArcOf.B11 : List Nat := [0, 1, 0, 4, 15, 31, 63, 127, 255, 511, 1023, 511, 2559, 8191, 16383, 32767, 65535, 131071, 131071, 393215, 1048575, 2097151, 4194303, 8388607, 16777215, 8388607, 41943039, 134217727, 268435455, 536870911, 1073741823]
theorem laws_FnArcOf.tab11 : rtab .any (opsOf Try.f6 11) = laws_FnArcOf.T11 := by kernel_rfl
theorem laws_FnArcOf.bits11 : waitsOk laws_FnArcOf.T11.2 laws_FnArcOf.B11 = true := by kernel_rfl
def laws_FnArcOf.Pure : Prop := ∀ (l0 : List Int), l0.length ≤ maxLen → l0.length * 1 ≤ 140737488351232 → (∀ x ∈ l0, (Lit.int .u8 x).wf = true) → ∃ k, laws_FnArcOf.f k l0 = some true
end Go.Proofs.Ytalaiianaepcoaa.S
