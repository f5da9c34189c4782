/- The statement FnExactFanHas holds of what the Go functions compute. -/
import Derived.Test.YtdjlmfcnopbljaaAlA
import Derived.Test.YtdjlmfcnopbljaaSA
import Derived.Test.YtdjlmfcnopbljaaSFspecl13Ok
import Derived.Test.YtdjlmfcnopbljaaSFspecFanHas
import Derived.Test.YtdjlmfcnopbljaaSB
import Derived.Test.YtdjlmfcnopbljaaSFimplaTurn
import Derived.Test.YtdjlmfcnopbljaaSFimplfanOk
import Derived.Test.YtdjlmfcnopbljaaSFimplFanHas
import Derived.Test.YtdjlmfcnopbljaaSFlawsFnExactFanHas
namespace Go.Proofs.Ytdjlmfcnopbljaa.PureFnExactFanHas
open Go.RowKit AlMath Go.Proofs.Ytdjlmfcnopbljaa.S Go.Proofs.YtdjlmfcnopbljaaW.PrintWords Go.Proofs.YtdjlmfcnopbljaaW.PrintLast
theorem w64 {x : Int} (h : -9223372036854775808 ≤ x ∧ x ≤ 9223372036854775807) : wrap64 x = x := by unfold wrap64; omega
theorem wf64 {x : Int} (h : (Lit.int .i64 x).wf = true) : -9223372036854775808 ≤ x ∧ x ≤ 9223372036854775807 := by
  simp [Lit.wf, IntKind.min, IntKind.max, IntKind.signed, IntKind.bits] at h; omega
theorem wf8 {x : Int} (h : (Lit.int .u8 x).wf = true) : 0 ≤ x ∧ x ≤ 255 := by
  simp [Lit.wf, IntKind.min, IntKind.max, IntKind.signed, IntKind.bits] at h; omega
theorem mx_eq (a b : Int) : mx a b = max a b := by unfold mx; omega
theorem mn_eq (a b : Int) : mn a b = min a b := by unfold mn; omega
theorem laws_toFan_eq (a b : Int) : laws_toFan.f a b = some (a, b) := rfl
theorem spec_l6In_eq (a l h : Int) : spec_l6In.f a l h = some (decide (l ≤ a ∧ a ≤ h)) := by
  unfold spec_l6In.f
  split
  · exact congrArg some (decide_eq_decide.2 (by omega))
  · exact congrArg some (decide_eq_false (by omega)).symm
theorem spec_l13Ok_eq (a b : Int) : spec_l13Ok.f a b = some (decide (FanOk a b)) := by
  unfold spec_l13Ok.f
  rw [spec_l6In_eq, spec_l6In_eq]
  simp only [Option.bind_some, decide_eq_true_eq]
  by_cases h1 : -129600000 ≤ a ∧ a ≤ 129600000
  · rw [if_pos h1]; exact congrArg some (decide_eq_decide.2 (by unfold FanOk; omega))
  · rw [if_neg h1]; exact congrArg some (decide_eq_false (by unfold FanOk; omega)).symm
theorem spec_FanHas_eq (a b c : Int) : spec_FanHas.f a b c = some (decide (FanOk a b ∧ a ≤ c ∧ c ≤ b)) := by
  unfold spec_FanHas.f
  rw [spec_l13Ok_eq, spec_l6In_eq]
  simp only [Option.bind_some, decide_eq_true_eq]
  by_cases h : FanOk a b
  · rw [if_pos h]; exact congrArg some (decide_eq_decide.2 (by simp [h]))
  · rw [if_neg h]; exact congrArg some (decide_eq_false (fun x => h x.1)).symm
theorem impl_in_eq (a l h : Int) : impl_in.f a l h = some (decide (l ≤ a ∧ a ≤ h)) := by
  unfold impl_in.f
  split
  · exact congrArg some (decide_eq_decide.2 (by omega))
  · exact congrArg some (decide_eq_false (by omega)).symm
theorem impl_aTurn_eq (a : Int) : impl_aTurn.f a = some (decide (-129600000 ≤ a ∧ a ≤ 129600000)) := by
  unfold impl_aTurn.f; rw [impl_in_eq]; rfl
theorem impl_fanOk_eq (a b : Int) : impl_fanOk.f a b = some (decide (FanOk a b)) := by
  unfold impl_fanOk.f
  rw [impl_aTurn_eq, impl_aTurn_eq]
  simp only [Option.bind_some, decide_eq_true_eq]
  by_cases h1 : -129600000 ≤ a ∧ a ≤ 129600000
  · by_cases h2 : -129600000 ≤ b ∧ b ≤ 129600000
    · rw [if_pos h1, if_pos h2]; exact congrArg some (decide_eq_decide.2 (by unfold FanOk; omega))
    · rw [if_pos h1, if_neg h2]; exact congrArg some (decide_eq_false (by unfold FanOk; omega)).symm
  · rw [if_neg h1]; exact congrArg some (decide_eq_false (by unfold FanOk; omega)).symm
theorem impl_FanHas_eq (a b c : Int) : impl_FanHas.f a b c = some (decide (FanOk a b ∧ a ≤ c ∧ c ≤ b)) := by
  unfold impl_FanHas.f
  rw [impl_fanOk_eq, impl_in_eq]
  simp only [Option.bind_some, decide_eq_true_eq]
  by_cases h : FanOk a b
  · rw [if_pos h]; exact congrArg some (decide_eq_decide.2 (by simp [h]))
  · rw [if_neg h]; exact congrArg some (decide_eq_false (fun x => h x.1)).symm
theorem FnExactFanHas (a b c : Int) (_ : (Lit.int .i64 a).wf = true) (_ : (Lit.int .i64 b).wf = true) (_ : (Lit.int .i64 c).wf = true) : laws_FnExactFanHas.f a b c = some true := by
  unfold laws_FnExactFanHas.f
  rw [laws_toFan_eq]
  simp only [Option.bind_some]
  rw [spec_FanHas_eq, impl_FanHas_eq]
  simp
end Go.Proofs.Ytdjlmfcnopbljaa.PureFnExactFanHas
