/- The statement FnExactArcOf holds of the printed functions. -/
import Derived.Test.YtdjlmfcnopbljaaAlA
import Derived.Test.YtdjlmfcnopbljaaPFnExactArcOfx1
namespace Go.Proofs.Ytdjlmfcnopbljaa.Pure
open Go.RowKit AlMath Go.Proofs.Ytdjlmfcnopbljaa.PFnExactArcOf Go.Proofs.YtdjlmfcnopbljaaW.PrintWords Go.Proofs.YtdjlmfcnopbljaaW.PrintLast
theorem w64 {x : Int} (h : -9223372036854775808 ≤ x ∧ x ≤ 9223372036854775807) : wrap64 x = x := by unfold wrap64; omega
theorem wf64 {x : Int} (h : (Lit.int .i64 x).wf = true) : -9223372036854775808 ≤ x ∧ x ≤ 9223372036854775807 := by
  simp [Lit.wf, IntKind.min, IntKind.max, IntKind.signed, IntKind.bits] at h; omega
theorem wf8 {x : Int} (h : (Lit.int .u8 x).wf = true) : 0 ≤ x ∧ x ≤ 255 := by
  simp [Lit.wf, IntKind.min, IntKind.max, IntKind.signed, IntKind.bits] at h; omega
theorem mx_eq (a b : Int) : mx a b = max a b := by unfold mx; omega
theorem mn_eq (a b : Int) : mn a b = min a b := by unfold mn; omega
theorem spec_l6In_eq (a l h : Int) : spec_l6In.f a l h = some (decide (l ≤ a ∧ a ≤ h)) := by
  unfold spec_l6In.f
  split
  · exact congrArg some (decide_eq_decide.2 (by omega))
  · exact congrArg some (decide_eq_false (by omega)).symm
theorem spec_SpanOk_eq (a b : Int) : spec_SpanOk.f a b = some (decide (Okay a b)) := by
  unfold spec_SpanOk.f
  rw [spec_l6In_eq, spec_l6In_eq]
  simp only [Option.bind_some, decide_eq_true_eq]
  by_cases h1 : -1073000000 ≤ a ∧ a ≤ 1073000000
  · rw [if_pos h1]; exact congrArg some (decide_eq_decide.2 (by unfold Okay; omega))
  · rw [if_neg h1]; exact congrArg some (decide_eq_false (by unfold Okay; omega)).symm
theorem spec_SpanNeg_eq (a b : Int) : spec_SpanNeg.f a b = if Okay a b then some (-b, -a) else some (0, 0) := by
  unfold spec_SpanNeg.f
  rw [spec_SpanOk_eq]
  simp only [Option.bind_some, decide_eq_true_eq]
  by_cases h : Okay a b
  · rw [if_pos h, if_pos h]; unfold Okay at h; rw [w64 (by omega), w64 (by omega)]
  · rw [if_neg h, if_neg h]
theorem spec_l1Down_eq (a b : Int) (hb : 0 < b) (hb2 : b ≤ 4000000000000000000) (h1 : -4611686018427387904 ≤ a) (h2 : a ≤ 4611686018427387904) : spec_l1Down.f a b = some (a / b) := by
  unfold spec_l1Down.f
  have f := AlMath.fl_bound a b 4611686018427387904 hb h1 h2
  split
  · rename_i h
    rw [if_neg (by omega), Int.tdiv_eq_ediv_of_nonneg h, w64 (by omega)]
  · have k := AlMath.down_spec a b (by omega) hb
    rw [if_neg (by omega), w64 (x := -a) (by omega), w64 (x := -a + b) (by omega), w64 (x := -a + b - 1) (by omega)]
    rw [w64 (x := Int.tdiv (-a + b - 1) b) (by omega), w64 (by omega), k]
theorem spec_l1Up_eq (a b : Int) (hb : 0 < b) (hb2 : b ≤ 4000000000000000000) (h1 : -4611686018427387904 ≤ a) (h2 : a ≤ 4611686018427387904) : spec_l1Up.f a b = some (-(-a / b)) := by
  have t := AlMath.fl_bound (-a) b 4611686018427387904 hb (by omega) (by omega)
  unfold spec_l1Up.f
  rw [w64 (x := -a) (by omega), spec_l1Down_eq _ _ hb hb2 (by omega) (by omega)]
  simp only [Option.bind_some]
  rw [w64 (by omega)]
theorem spec_l12Arc_eq (h : Int) (h0 : 0 ≤ h) (h1 : h ≤ 1000000000) : spec_l12Arc.f h = some (arcP h) := by
  unfold spec_l12Arc.f
  rw [w64 (x := h * 785398163) (by omega), w64 (x := h * 785398164) (by omega), spec_l1Down_eq _ _ (by omega) (by omega) (by omega) (by omega), spec_l1Up_eq _ _ (by omega) (by omega) (by omega) (by omega)]
  rfl
theorem spec_ArcOf_eq (a : Int) : spec_ArcOf.f a = some (arcOfP a) := by
  unfold spec_ArcOf.f arcOfP
  rw [spec_l6In_eq]
  simp only [Option.bind_some, decide_eq_true_eq]
  by_cases h : -16200000 ≤ a ∧ a ≤ 16200000
  · rw [if_pos h, if_pos h]
    by_cases c : a < 0
    · rw [if_pos c, if_pos c, w64 (x := -2 * a) (by omega), spec_l12Arc_eq _ (by omega) (by omega)]
      simp only [Option.bind_some]
      rw [spec_SpanNeg_eq, if_pos (arc_ok _ (by omega) (by omega))]; rfl
    · rw [if_neg c, if_neg c, w64 (x := 2 * a) (by omega), spec_l12Arc_eq _ (by omega) (by omega)]; rfl
  · rw [if_neg h, if_neg h]
theorem impl_in_eq (a l h : Int) : impl_in.f a l h = some (decide (l ≤ a ∧ a ≤ h)) := by
  unfold impl_in.f
  split
  · exact congrArg some (decide_eq_decide.2 (by omega))
  · exact congrArg some (decide_eq_false (by omega)).symm
theorem impl_SpanOk_eq (a b : Int) : impl_SpanOk.f a b = some (decide (Okay a b)) := by
  unfold impl_SpanOk.f
  rw [impl_in_eq, impl_in_eq]
  simp only [Option.bind_some, decide_eq_true_eq]
  by_cases h1 : -1073000000 ≤ a ∧ a ≤ 1073000000
  · by_cases h2 : -1073000000 ≤ b ∧ b ≤ 1073000000
    · rw [if_pos h1, if_pos h2]; exact congrArg some (decide_eq_decide.2 (by unfold Okay; omega))
    · rw [if_pos h1, if_neg h2]; exact congrArg some (decide_eq_false (by unfold Okay; omega)).symm
  · rw [if_neg h1]; exact congrArg some (decide_eq_false (by unfold Okay; omega)).symm
theorem impl_SpanNeg_eq (a b : Int) : impl_SpanNeg.f a b = if Okay a b then some (-b, -a) else some (0, 0) := by
  unfold impl_SpanNeg.f
  rw [impl_SpanOk_eq]
  simp only [Option.bind_some, decide_eq_true_eq]
  by_cases h : Okay a b
  · rw [if_pos h, if_pos h]; unfold Okay at h; rw [w64 (by omega), w64 (by omega)]
  · rw [if_neg h, if_neg h]
theorem impl_down_eq (a b : Int) (hb : 0 < b) (h1 : -4611686018427387904 ≤ a) (h2 : a ≤ 4611686018427387904) : impl_down.f a b = some (a / b) := by
  have t := AlMath.tdiv_bound a b 4611686018427387904 hb h1 h2
  unfold impl_down.f
  rw [if_neg (by omega), w64 (x := Int.tdiv a b) (by omega), w64 (x := Int.tdiv a b - 1) (by omega), ← AlMath.down_go a b hb]
  split <;> rfl
theorem impl_up_eq (a b : Int) (hb : 0 < b) (h1 : -4611686018427387904 ≤ a) (h2 : a ≤ 4611686018427387904) : impl_up.f a b = some (-(-a / b)) := by
  have t := AlMath.fl_bound (-a) b 4611686018427387904 hb (by omega) (by omega)
  unfold impl_up.f
  rw [w64 (x := -a) (by omega), impl_down_eq _ _ hb (by omega) (by omega)]
  simp only [Option.bind_some]
  rw [w64 (by omega)]
theorem impl_arc_eq (h : Int) (h0 : 0 ≤ h) (h1 : h ≤ 1000000000) : impl_arc.f h = some (arcP h) := by
  unfold impl_arc.f
  rw [w64 (x := h * 785398163) (by omega), w64 (x := h * 785398164) (by omega), impl_down_eq _ _ (by omega) (by omega) (by omega), impl_up_eq _ _ (by omega) (by omega) (by omega)]
  rfl
theorem impl_ArcOf_eq (a : Int) : impl_ArcOf.f a = some (arcOfP a) := by
  unfold impl_ArcOf.f arcOfP
  rw [impl_in_eq]
  simp only [Option.bind_some, decide_eq_true_eq]
  by_cases h : -16200000 ≤ a ∧ a ≤ 16200000
  · rw [if_pos h, if_pos h]
    by_cases c : a < 0
    · rw [if_pos c, if_pos c, w64 (x := -2 * a) (by omega), impl_arc_eq _ (by omega) (by omega)]
      simp only [Option.bind_some]
      rw [impl_SpanNeg_eq, if_pos (arc_ok _ (by omega) (by omega))]; rfl
    · rw [if_neg c, if_neg c, w64 (x := 2 * a) (by omega), impl_arc_eq _ (by omega) (by omega)]; rfl
  · rw [if_neg h, if_neg h]
theorem laws_eqSpan_eq (a b : Int) : laws_eqSpan.f a b a b = some true := by unfold laws_eqSpan.f; simp
theorem FnExactArcOf : laws_FnExactArcOf.Pure := by
  intro a _
  unfold laws_FnExactArcOf.f
  rw [spec_ArcOf_eq, impl_ArcOf_eq]
  simp only [Option.bind_some]
  rw [laws_eqSpan_eq]
  simp
end Go.Proofs.Ytdjlmfcnopbljaa.Pure
