/- The statement FnExactAngDiff holds of the printed functions. -/
import Derived.Test.YtdjlmfcnopbljaaAlA
import Derived.Test.YtdjlmfcnopbljaaPFnExactAngDiffx1
namespace Go.Proofs.Ytdjlmfcnopbljaa.Pure
open Go.RowKit AlMath Go.Proofs.Ytdjlmfcnopbljaa.PFnExactAngDiff Go.Proofs.YtdjlmfcnopbljaaW.PrintWords Go.Proofs.YtdjlmfcnopbljaaW.PrintLast
theorem w64 {x : Int} (h : -9223372036854775808 ≤ x ∧ x ≤ 9223372036854775807) : wrap64 x = x := by unfold wrap64; omega
theorem wf64 {x : Int} (h : (Lit.int .i64 x).wf = true) : -9223372036854775808 ≤ x ∧ x ≤ 9223372036854775807 := by
  simp [Lit.wf, IntKind.min, IntKind.max, IntKind.signed, IntKind.bits] at h; omega
theorem wf8 {x : Int} (h : (Lit.int .u8 x).wf = true) : 0 ≤ x ∧ x ≤ 255 := by
  simp [Lit.wf, IntKind.min, IntKind.max, IntKind.signed, IntKind.bits] at h; omega
theorem mx_eq (a b : Int) : mx a b = max a b := by unfold mx; omega
theorem mn_eq (a b : Int) : mn a b = min a b := by unfold mn; omega
theorem spec_l6In_eq (a l h : Int) : spec_l6In.f a l h = some (decide (l ≤ a ∧ a ≤ h)) := by
  unfold spec_l6In.f
  split
  · exact congrArg some (decide_eq_decide.2 (by omega))
  · exact congrArg some (decide_eq_false (by omega)).symm
theorem spec_l11Ok_eq (a : Int) : spec_l11Ok.f a = some (decide (-1000000000000 ≤ a ∧ a ≤ 1000000000000)) := by
  unfold spec_l11Ok.f; rw [spec_l6In_eq]; rfl
theorem spec_l1Down_eq (a b : Int) (hb : 0 < b) (hb2 : b ≤ 4000000000000000000) (h1 : -4611686018427387904 ≤ a) (h2 : a ≤ 4611686018427387904) : spec_l1Down.f a b = some (a / b) := by
  unfold spec_l1Down.f
  have f := AlMath.fl_bound a b 4611686018427387904 hb h1 h2
  split
  · rename_i h
    rw [if_neg (by omega), Int.tdiv_eq_ediv_of_nonneg h, w64 (by omega)]
  · have k := AlMath.down_spec a b (by omega) hb
    rw [if_neg (by omega), w64 (x := -a) (by omega), w64 (x := -a + b) (by omega), w64 (x := -a + b - 1) (by omega)]
    rw [w64 (x := Int.tdiv (-a + b - 1) b) (by omega), w64 (by omega), k]
theorem spec_l11Norm_eq (a : Int) (h1 : -1152921504606846976 ≤ a) (h2 : a ≤ 1152921504606846976) : spec_l11Norm.f a = some (a % 129600000) := by
  unfold spec_l11Norm.f
  rw [spec_l1Down_eq _ _ (by omega) (by omega) (by omega) (by omega)]
  simp only [Option.bind_some]
  rw [w64 (x := a / 129600000 * 129600000) (by omega), w64 (by omega)]
  congr 1; omega
theorem spec_l11Diff_eq (a b : Int) (h1 : -1000000000000 ≤ a ∧ a ≤ 1000000000000) (h2 : -1000000000000 ≤ b ∧ b ≤ 1000000000000) :
    spec_l11Diff.f a b = some (if (b - a) % 129600000 > 64800000 then (b - a) % 129600000 - 129600000 else (b - a) % 129600000) := by
  unfold spec_l11Diff.f
  rw [w64 (x := b - a) (by omega), spec_l11Norm_eq _ (by omega) (by omega)]
  simp only [Option.bind_some]
  rw [w64 (by omega)]
  split <;> rfl
theorem spec_AngDiff_eq (a b : Int) : spec_AngDiff.f a b = if (-1000000000000 ≤ a ∧ a ≤ 1000000000000) ∧ (-1000000000000 ≤ b ∧ b ≤ 1000000000000) then some (diffP a b, true) else some (0, false) := by
  unfold spec_AngDiff.f
  rw [spec_l11Ok_eq, spec_l11Ok_eq]
  simp only [Option.bind_some, decide_eq_true_eq]
  by_cases h1 : -1000000000000 ≤ a ∧ a ≤ 1000000000000
  · by_cases h2 : -1000000000000 ≤ b ∧ b ≤ 1000000000000
    · rw [if_pos h1, if_pos h2, if_pos ⟨h1, h2⟩, spec_l11Diff_eq a b h1 h2]; rfl
    · rw [if_pos h1, if_neg h2, if_neg (fun h => h2 h.2)]
  · rw [if_neg h1, if_neg (fun h => h1 h.1)]
theorem impl_in_eq (a l h : Int) : impl_in.f a l h = some (decide (l ≤ a ∧ a ≤ h)) := by
  unfold impl_in.f
  split
  · exact congrArg some (decide_eq_decide.2 (by omega))
  · exact congrArg some (decide_eq_false (by omega)).symm
theorem impl_isAngle_eq (a : Int) : impl_isAngle.f a = some (decide (-1000000000000 ≤ a ∧ a ≤ 1000000000000)) := by
  unfold impl_isAngle.f; rw [impl_in_eq]; rfl
theorem impl_down_eq (a b : Int) (hb : 0 < b) (h1 : -4611686018427387904 ≤ a) (h2 : a ≤ 4611686018427387904) : impl_down.f a b = some (a / b) := by
  have t := AlMath.tdiv_bound a b 4611686018427387904 hb h1 h2
  unfold impl_down.f
  rw [if_neg (by omega), w64 (x := Int.tdiv a b) (by omega), w64 (x := Int.tdiv a b - 1) (by omega), ← AlMath.down_go a b hb]
  split <;> rfl
theorem impl_modulo_eq (a b : Int) (hb : 0 < b) (h1 : -1152921504606846976 ≤ a) (h2 : a ≤ 1152921504606846976) (hb2 : b ≤ 1152921504606846976) : impl_modulo.f a b = some (a % b) := by
  unfold impl_modulo.f
  rw [impl_down_eq _ _ hb (by omega) (by omega)]
  simp only [Option.bind_some]
  have e := Int.mul_ediv_add_emod a b
  have r0 := Int.emod_nonneg a (by omega : b ≠ 0)
  have r1 := Int.emod_lt_of_pos a hb
  rw [Int.mul_comm b] at e
  rw [w64 (x := a / b * b) (by omega), w64 (by omega)]
  congr 1; omega
theorem impl_AngDiff_eq (k : Nat) (a b : Int) (hk : 1 ≤ k) : impl_AngDiff.f k a b = if (-1000000000000 ≤ a ∧ a ≤ 1000000000000) ∧ (-1000000000000 ≤ b ∧ b ≤ 1000000000000) then some (diffP a b, true) else some (0, false) := by
  obtain ⟨k, rfl⟩ : ∃ m, k = m + 1 := ⟨k - 1, by omega⟩
  unfold impl_AngDiff.f
  rw [impl_isAngle_eq, impl_isAngle_eq]
  simp only [Option.bind_some, decide_eq_true_eq, impl_AngDiff.j0]
  by_cases h1 : -1000000000000 ≤ a ∧ a ≤ 1000000000000
  · by_cases h2 : -1000000000000 ≤ b ∧ b ≤ 1000000000000
    · rw [if_pos h1, if_neg (by simp [h2]), if_pos ⟨h1, h2⟩, w64 (x := b - a) (by omega), impl_modulo_eq _ _ (by omega) (by omega) (by omega) (by omega)]
      simp only [Option.bind_some]
      rw [w64 (by omega)]
      unfold diffP
      split <;> rfl
    · rw [if_pos h1, if_pos (by simp; omega), if_neg (fun h => h2 h.2)]
  · rw [if_neg h1, if_pos trivial, if_neg (fun h => h1 h.1)]
theorem FnExactAngDiff : laws_FnExactAngDiff.Pure := by
  intro a b _ _
  refine ⟨5, ?_⟩
  unfold laws_FnExactAngDiff.f
  rw [spec_AngDiff_eq, impl_AngDiff_eq _ _ _ (by omega)]
  split <;> simp
end Go.Proofs.Ytdjlmfcnopbljaa.Pure
