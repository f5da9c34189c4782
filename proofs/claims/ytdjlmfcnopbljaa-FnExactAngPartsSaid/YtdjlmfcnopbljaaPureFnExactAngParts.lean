/- The statement FnExactAngParts holds of what the Go functions compute. -/
import Derived.Test.YtdjlmfcnopbljaaAlA
import Derived.Test.YtdjlmfcnopbljaaSA
import Derived.Test.YtdjlmfcnopbljaaSFspecAngParts
import Derived.Test.YtdjlmfcnopbljaaSB
import Derived.Test.YtdjlmfcnopbljaaSFimplaTurn
import Derived.Test.YtdjlmfcnopbljaaSFimplAngParts
import Derived.Test.YtdjlmfcnopbljaaSFlawseqAng
import Derived.Test.YtdjlmfcnopbljaaSFlawsFnExactAngParts
namespace Go.Proofs.Ytdjlmfcnopbljaa.PureFnExactAngParts
open Go.RowKit AlMath Go.Proofs.Ytdjlmfcnopbljaa.S Go.Proofs.YtdjlmfcnopbljaaW.PrintWords Go.Proofs.YtdjlmfcnopbljaaW.PrintLast
theorem w64 {x : Int} (h : -9223372036854775808 ≤ x ∧ x ≤ 9223372036854775807) : wrap64 x = x := by unfold wrap64; omega
theorem wf64 {x : Int} (h : (Lit.int .i64 x).wf = true) : -9223372036854775808 ≤ x ∧ x ≤ 9223372036854775807 := by
  simp [Lit.wf, IntKind.min, IntKind.max, IntKind.signed, IntKind.bits] at h; omega
theorem wf8 {x : Int} (h : (Lit.int .u8 x).wf = true) : 0 ≤ x ∧ x ≤ 255 := by
  simp [Lit.wf, IntKind.min, IntKind.max, IntKind.signed, IntKind.bits] at h; omega
theorem mx_eq (a b : Int) : mx a b = max a b := by unfold mx; omega
theorem mn_eq (a b : Int) : mn a b = min a b := by unfold mn; omega
theorem spec_l6In_eq (a l h : Int) : spec_l6In.f a l h = some (decide (l ≤ a ∧ a ≤ h)) := by
  unfold spec_l6In.f
  split
  · exact congrArg some (decide_eq_decide.2 (by omega))
  · exact congrArg some (decide_eq_false (by omega)).symm
theorem spec_AngParts_eq (a : Int) : spec_AngParts.f a = some (partsP a) := by
  unfold spec_AngParts.f
  rw [spec_l6In_eq]
  simp only [Option.bind_some, decide_eq_true_eq]
  by_cases h : -129600000 ≤ a ∧ a ≤ 129600000
  · rw [if_pos h, partsP_yes a h]
    by_cases c : a < 0
    · rw [if_pos c, if_pos c, w64 (x := -a) (by omega)]
      have m0 := Int.emod_nonneg (-a) (show (360000 : Int) ≠ 0 by decide)
      have m1 := Int.emod_nonneg (-a) (show (6000 : Int) ≠ 0 by decide)
      rw [Int.tmod_eq_emod_of_nonneg (by omega), Int.tmod_eq_emod_of_nonneg (by omega), Int.tmod_eq_emod_of_nonneg (by omega), Int.tdiv_eq_ediv_of_nonneg (by omega), Int.tdiv_eq_ediv_of_nonneg m0, Int.tdiv_eq_ediv_of_nonneg m1, w64 (x := -a / 360000) (by omega), w64 (x := -a % 360000 / 6000) (by omega), w64 (x := -a % 6000 / 100) (by omega)]
    · rw [if_neg c, if_neg c]
      have m0 := Int.emod_nonneg a (show (360000 : Int) ≠ 0 by decide)
      have m1 := Int.emod_nonneg a (show (6000 : Int) ≠ 0 by decide)
      rw [Int.tmod_eq_emod_of_nonneg (by omega), Int.tmod_eq_emod_of_nonneg (by omega), Int.tmod_eq_emod_of_nonneg (by omega), Int.tdiv_eq_ediv_of_nonneg (by omega), Int.tdiv_eq_ediv_of_nonneg m0, Int.tdiv_eq_ediv_of_nonneg m1, w64 (x := a / 360000) (by omega), w64 (x := a % 360000 / 6000) (by omega), w64 (x := a % 6000 / 100) (by omega)]
  · rw [if_neg h, partsP_no a h]
theorem impl_in_eq (a l h : Int) : impl_in.f a l h = some (decide (l ≤ a ∧ a ≤ h)) := by
  unfold impl_in.f
  split
  · exact congrArg some (decide_eq_decide.2 (by omega))
  · exact congrArg some (decide_eq_false (by omega)).symm
theorem impl_aTurn_eq (a : Int) : impl_aTurn.f a = some (decide (-129600000 ≤ a ∧ a ≤ 129600000)) := by
  unfold impl_aTurn.f; rw [impl_in_eq]; rfl
theorem impl_AngParts_eq (a : Int) : impl_AngParts.f a = some (partsP a) := by
  unfold impl_AngParts.f
  rw [impl_aTurn_eq]
  simp only [Option.bind_some, decide_eq_true_eq]
  by_cases h : -129600000 ≤ a ∧ a ≤ 129600000
  · rw [if_pos h, partsP_yes a h, w64 (x := -a) (by omega)]
    have e : mx a (-a) = if a < 0 then -a else a := by simp only [mx_eq]; split <;> omega
    rw [e]
    have n0 : 0 ≤ (if a < 0 then -a else a) := by split <;> omega
    have n1 : (if a < 0 then -a else a) ≤ 129600000 := by split <;> omega
    generalize (if a < 0 then -a else a) = n at *
    rw [Int.tdiv_eq_ediv_of_nonneg n0, Int.tdiv_eq_ediv_of_nonneg n0, Int.tdiv_eq_ediv_of_nonneg n0, w64 (x := n / 360000) (by omega), w64 (x := n / 6000) (by omega), w64 (x := n / 100) (by omega), Int.tmod_eq_emod_of_nonneg (by omega), Int.tmod_eq_emod_of_nonneg (by omega), Int.tmod_eq_emod_of_nonneg n0, show n / 6000 % 60 = n % 360000 / 6000 by omega, show n / 100 % 60 = n % 6000 / 100 by omega]
  · rw [if_neg h, partsP_no a h]
theorem FnExactAngParts : laws_FnExactAngParts.Pure := by
  intro a _
  unfold laws_FnExactAngParts.f
  rw [spec_AngParts_eq, impl_AngParts_eq]
  simp only [Option.bind_some]
  unfold laws_eqAng.f
  simp
end Go.Proofs.Ytdjlmfcnopbljaa.PureFnExactAngParts
