/- The statement FnExactAngOf holds of what the Go functions compute. -/
import Derived.Test.YtdjlmfcnopbljaaAlA
import Derived.Test.YtdjlmfcnopbljaaSA
import Derived.Test.YtdjlmfcnopbljaaSFspecl11Whole
import Derived.Test.YtdjlmfcnopbljaaSFspecAngOf
import Derived.Test.YtdjlmfcnopbljaaSB
import Derived.Test.YtdjlmfcnopbljaaSFimplAngOf
import Derived.Test.YtdjlmfcnopbljaaSFlawsFnExactAngOf
namespace Go.Proofs.Ytdjlmfcnopbljaa.PureFnExactAngOf
open Go.RowKit AlMath Go.Proofs.Ytdjlmfcnopbljaa.S Go.Proofs.YtdjlmfcnopbljaaW.PrintWords Go.Proofs.YtdjlmfcnopbljaaW.PrintLast
theorem w64 {x : Int} (h : -9223372036854775808 ≤ x ∧ x ≤ 9223372036854775807) : wrap64 x = x := by unfold wrap64; omega
theorem wf64 {x : Int} (h : (Lit.int .i64 x).wf = true) : -9223372036854775808 ≤ x ∧ x ≤ 9223372036854775807 := by
  simp [Lit.wf, IntKind.min, IntKind.max, IntKind.signed, IntKind.bits] at h; omega
theorem wf8 {x : Int} (h : (Lit.int .u8 x).wf = true) : 0 ≤ x ∧ x ≤ 255 := by
  simp [Lit.wf, IntKind.min, IntKind.max, IntKind.signed, IntKind.bits] at h; omega
theorem mx_eq (a b : Int) : mx a b = max a b := by unfold mx; omega
theorem mn_eq (a b : Int) : mn a b = min a b := by unfold mn; omega
theorem laws_toAng_eq (a : Bool) (b c d e : Int) : laws_toAng.f a b c d e = some (a, b, c, d, e) := rfl
theorem spec_l11Whole_eq (s : Bool) (d m p c : Int) (h1 : 0 ≤ d ∧ d ≤ 360) (h2 : 0 ≤ m ∧ m ≤ 59) (h3 : 0 ≤ p ∧ p ≤ 59) (h4 : 0 ≤ c ∧ c ≤ 99) : spec_l11Whole.f s d m p c = some (d * 360000 + m * 6000 + p * 100 + c) := by
  unfold spec_l11Whole.f
  rw [w64 (x := d * 360000) (by omega), w64 (x := m * 6000) (by omega), w64 (x := p * 100) (by omega), w64 (x := d * 360000 + m * 6000) (by omega), w64 (x := d * 360000 + m * 6000 + p * 100) (by omega), w64 (x := d * 360000 + m * 6000 + p * 100 + c) (by omega)]
theorem spec_l6In_eq (a l h : Int) : spec_l6In.f a l h = some (decide (l ≤ a ∧ a ≤ h)) := by
  unfold spec_l6In.f
  split
  · exact congrArg some (decide_eq_decide.2 (by omega))
  · exact congrArg some (decide_eq_false (by omega)).symm
theorem spec_AngOf_eq (k : Nat) (hk : 2 ≤ k) (s : Bool) (d m p c : Int) : spec_AngOf.f k s d m p c = some (angOfP s d m p c) := by
  obtain ⟨k, rfl⟩ : ∃ n, k = n + 1 + 1 := ⟨k - 2, by omega⟩
  unfold spec_AngOf.f
  rw [spec_l6In_eq, spec_l6In_eq, spec_l6In_eq, spec_l6In_eq]
  simp only [Option.bind_some, decide_eq_true_eq]
  have bad : ¬ angOk s d m p c → spec_AngOf.j0 (k + 1 + 1) true s d m p c = some (angOfP s d m p c) := by
    intro h
    unfold angOfP
    rw [if_neg h]
    simp only [spec_AngOf.j0, if_true]
  by_cases h1 : 0 ≤ d ∧ d ≤ 360
  · rw [if_pos h1]
    by_cases h2 : 0 ≤ m ∧ m ≤ 59
    · rw [if_pos h2]
      by_cases h3 : 0 ≤ p ∧ p ≤ 59
      · rw [if_pos h3]
        by_cases h4 : 0 ≤ c ∧ c ≤ 99
        · rw [decide_eq_true h4]
          simp only [spec_AngOf.j0, spec_AngOf.j1, Bool.not_true, Bool.false_eq_true, if_false]
          rw [spec_l11Whole_eq s d m p c h1 h2 h3 h4]
          simp only [Option.bind_some]
          by_cases h5 : d * 360000 + m * 6000 + p * 100 + c > 129600000
          · rw [if_pos h5, angOfP_no _ _ _ _ _ (fun h => absurd h.2.2.2.2.1 (by omega))]
            simp only [if_true]
          · rw [if_neg h5]
            have q0 : 0 ≤ d * 360000 + m * 6000 + p * 100 + c := by omega
            have q1 : d * 360000 + m * 6000 + p * 100 + c ≤ 129600000 := by omega
            rw [w64 (x := -(d * 360000 + m * 6000 + p * 100 + c)) (by omega)]
            cases s with
            | false =>
              rw [angOfP_pos _ _ _ _ ⟨h1, h2, h3, h4, q1, fun h => absurd h.1 (by decide)⟩]
              simp only [Bool.false_eq_true, if_false]
            | true =>
              by_cases h6 : d * 360000 + m * 6000 + p * 100 + c = 0
              · rw [angOfP_no _ _ _ _ _ (fun h => h.2.2.2.2.2 ⟨rfl, h6⟩)]
                simp [h6]
              · rw [angOfP_neg _ _ _ _ ⟨h1, h2, h3, h4, q1, fun h => h6 h.2⟩]
                simp [h6]
        · rw [decide_eq_false h4]
          exact bad (fun h => h4 h.2.2.2.1)
      · rw [if_neg h3]; exact bad (fun h => h3 h.2.2.1)
    · rw [if_neg h2]; exact bad (fun h => h2 h.2.1)
  · rw [if_neg h1]; exact bad (fun h => h1 h.1)
theorem impl_in_eq (a l h : Int) : impl_in.f a l h = some (decide (l ≤ a ∧ a ≤ h)) := by
  unfold impl_in.f
  split
  · exact congrArg some (decide_eq_decide.2 (by omega))
  · exact congrArg some (decide_eq_false (by omega)).symm
theorem impl_AngOf_eq (k : Nat) (hk : 2 ≤ k) (s : Bool) (d m p c : Int) : impl_AngOf.f k s d m p c = some (angOfP s d m p c) := by
  obtain ⟨k, rfl⟩ : ∃ n, k = n + 1 + 1 := ⟨k - 2, by omega⟩
  unfold impl_AngOf.f
  rw [impl_in_eq, impl_in_eq, impl_in_eq, impl_in_eq]
  simp only [Option.bind_some, decide_eq_true_eq]
  have bad : ¬ angOk s d m p c → impl_AngOf.j0 (k + 1 + 1) true s d m p c = some (angOfP s d m p c) := by
    intro h
    unfold angOfP
    rw [if_neg h]
    simp only [impl_AngOf.j0, if_true]
  by_cases h1 : 0 ≤ d ∧ d ≤ 360
  · rw [if_pos h1]
    by_cases h2 : 0 ≤ m ∧ m ≤ 59
    · rw [if_pos h2]
      by_cases h3 : 0 ≤ p ∧ p ≤ 59
      · rw [if_pos h3]
        by_cases h4 : 0 ≤ c ∧ c ≤ 99
        · rw [decide_eq_true h4]
          simp only [impl_AngOf.j0, impl_AngOf.j1, Bool.not_true, Bool.false_eq_true, if_false]
          rw [w64 (x := d * 360000) (by omega), w64 (x := m * 6000) (by omega), w64 (x := p * 100) (by omega), w64 (x := d * 360000 + m * 6000) (by omega), w64 (x := d * 360000 + m * 6000 + p * 100) (by omega), w64 (x := d * 360000 + m * 6000 + p * 100 + c) (by omega)]
          by_cases h5 : d * 360000 + m * 6000 + p * 100 + c > 129600000
          · rw [if_pos h5, angOfP_no _ _ _ _ _ (fun h => absurd h.2.2.2.2.1 (by omega))]
            simp only [if_true]
          · rw [if_neg h5]
            have q0 : 0 ≤ d * 360000 + m * 6000 + p * 100 + c := by omega
            have q1 : d * 360000 + m * 6000 + p * 100 + c ≤ 129600000 := by omega
            rw [w64 (x := -(d * 360000 + m * 6000 + p * 100 + c)) (by omega)]
            cases s with
            | false =>
              rw [angOfP_pos _ _ _ _ ⟨h1, h2, h3, h4, q1, fun h => absurd h.1 (by decide)⟩]
              simp only [Bool.false_eq_true, if_false, ite_self]
            | true =>
              by_cases h6 : d * 360000 + m * 6000 + p * 100 + c = 0
              · rw [angOfP_no _ _ _ _ _ (fun h => h.2.2.2.2.2 ⟨rfl, h6⟩)]
                simp [h6]
              · rw [angOfP_neg _ _ _ _ ⟨h1, h2, h3, h4, q1, fun h => h6 h.2⟩]
                simp [h6]
        · rw [decide_eq_false h4]
          exact bad (fun h => h4 h.2.2.2.1)
      · rw [if_neg h3]; exact bad (fun h => h3 h.2.2.1)
    · rw [if_neg h2]; exact bad (fun h => h2 h.2.1)
  · rw [if_neg h1]; exact bad (fun h => h1 h.1)
theorem FnExactAngOf (s : Bool) (a b c d : Int) (_ : (Lit.int .i64 a).wf = true) (_ : (Lit.int .i64 b).wf = true) (_ : (Lit.int .i64 c).wf = true) (_ : (Lit.int .i64 d).wf = true) : ∃ k, laws_FnExactAngOf.f k s a b c d = some true := by
  refine ⟨100, ?_⟩
  unfold laws_FnExactAngOf.f
  rw [laws_toAng_eq]
  simp only [Option.bind_some]
  rw [spec_AngOf_eq _ (by omega), impl_AngOf_eq _ (by omega)]
  simp
end Go.Proofs.Ytdjlmfcnopbljaa.PureFnExactAngOf
