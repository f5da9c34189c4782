/- The statement FnExactSureRound holds of what the Go functions compute. -/
import Derived.Test.YtdjlmfcnopbljaaAlA
import Derived.Test.YtdjlmfcnopbljaaSA
import Derived.Test.YtdjlmfcnopbljaaSFspecl1Even
import Derived.Test.YtdjlmfcnopbljaaSFspecl1Round
import Derived.Test.YtdjlmfcnopbljaaSFspecSureRound
import Derived.Test.YtdjlmfcnopbljaaSB
import Derived.Test.YtdjlmfcnopbljaaSFimpldivides
import Derived.Test.YtdjlmfcnopbljaaSFimplround
import Derived.Test.YtdjlmfcnopbljaaSFimplNumRound
import Derived.Test.YtdjlmfcnopbljaaSFimplsame
import Derived.Test.YtdjlmfcnopbljaaSFimplSureRound
import Derived.Test.YtdjlmfcnopbljaaSFlawsFnExactSureRound
namespace Go.Proofs.Ytdjlmfcnopbljaa.PureFnExactSureRound
open Go.RowKit AlMath Go.Proofs.Ytdjlmfcnopbljaa.S Go.Proofs.YtdjlmfcnopbljaaW.PrintWords Go.Proofs.YtdjlmfcnopbljaaW.PrintLast
theorem w64 {x : Int} (h : -9223372036854775808 ≤ x ∧ x ≤ 9223372036854775807) : wrap64 x = x := by unfold wrap64; omega
theorem wf64 {x : Int} (h : (Lit.int .i64 x).wf = true) : -9223372036854775808 ≤ x ∧ x ≤ 9223372036854775807 := by
  simp [Lit.wf, IntKind.min, IntKind.max, IntKind.signed, IntKind.bits] at h; omega
theorem wf8 {x : Int} (h : (Lit.int .u8 x).wf = true) : 0 ≤ x ∧ x ≤ 255 := by
  simp [Lit.wf, IntKind.min, IntKind.max, IntKind.signed, IntKind.bits] at h; omega
theorem mx_eq (a b : Int) : mx a b = max a b := by unfold mx; omega
theorem mn_eq (a b : Int) : mn a b = min a b := by unfold mn; omega
theorem laws_toSpan_eq (a b : Int) : laws_toSpan.f a b = some (a, b) := rfl
theorem spec_l1Down_eq (a b : Int) (hb : 0 < b) (hb2 : b ≤ 4000000000000000000) (h1 : -4611686018427387904 ≤ a) (h2 : a ≤ 4611686018427387904) : spec_l1Down.f a b = some (a / b) := by
  unfold spec_l1Down.f
  have f := AlMath.fl_bound a b 4611686018427387904 hb h1 h2
  split
  · rename_i h
    rw [if_neg (by omega), Int.tdiv_eq_ediv_of_nonneg h, w64 (by omega)]
  · have k := AlMath.down_spec a b (by omega) hb
    rw [if_neg (by omega), w64 (x := -a) (by omega), w64 (x := -a + b) (by omega), w64 (x := -a + b - 1) (by omega)]
    rw [w64 (x := Int.tdiv (-a + b - 1) b) (by omega), w64 (by omega), k]
theorem spec_l1Up_eq (a b : Int) (hb : 0 < b) (hb2 : b ≤ 4000000000000000000) (h1 : -4611686018427387904 ≤ a) (h2 : a ≤ 4611686018427387904) : spec_l1Up.f a b = some (-(-a / b)) := by
  have t := AlMath.fl_bound (-a) b 4611686018427387904 hb (by omega) (by omega)
  unfold spec_l1Up.f
  rw [w64 (x := -a) (by omega), spec_l1Down_eq _ _ hb hb2 (by omega) (by omega)]
  simp only [Option.bind_some]
  rw [w64 (by omega)]
theorem spec_l1Even_eq (a b : Int) (ha : -1152921504606846976 ≤ a ∧ a ≤ 1152921504606846976) (hb : 1 ≤ b ∧ b ≤ 1152921504606846976) : spec_l1Even.f a b = some (roundP a b 4) := by
  have f := fl_bound a b 1152921504606846976 (by omega) ha.1 ha.2
  have l := fl_le a b (by omega)
  have e : (a / b + 1) * b = a / b * b + b := by rw [Int.add_mul]; omega
  rw [e] at l
  unfold spec_l1Even.f roundP
  rw [spec_l1Down_eq a b (by omega) (by omega) (by omega) (by omega)]
  simp only [Option.bind_some]
  rw [if_neg (by decide : ¬ (4 : Int) = 1), if_neg (by decide : ¬ (4 : Int) = 2), if_neg (by decide : ¬ (4 : Int) = 3)]
  rw [w64 (x := a / b * b) (by omega), w64 (x := a - a / b * b) (by omega), w64 (x := b - (a - a / b * b)) (by omega), w64 (x := a / b + 1) (by omega)]
  simp only [tmod_two]
  split
  · rfl
  · split
    · split <;> rfl
    · rfl
theorem spec_l1Round_eq (a b way : Int) (ha : -1152921504606846976 ≤ a ∧ a ≤ 1152921504606846976) (hb : 1 ≤ b ∧ b ≤ 1152921504606846976) (hw : 1 ≤ way ∧ way ≤ 4) : spec_l1Round.f a b way = some (roundP a b way) := by
  unfold spec_l1Round.f
  rw [spec_l1Down_eq a b (by omega) (by omega) (by omega) (by omega), spec_l1Up_eq a b (by omega) (by omega) (by omega) (by omega), spec_l1Even_eq a b ha hb]
  simp only [Option.bind_some]
  have hw' : way = 1 ∨ way = 2 ∨ way = 3 ∨ way = 4 := by omega
  rcases hw' with rfl | rfl | rfl | rfl
  · simp [roundP]
  · simp [roundP]
  · unfold roundP
    simp only [if_neg (by decide : ¬ (3 : Int) = 2), if_neg (by decide : ¬ (3 : Int) = 1), if_true]
    split <;> rfl
  · simp only [if_neg (by decide : ¬ (4 : Int) = 2), if_neg (by decide : ¬ (4 : Int) = 3), if_neg (by decide : ¬ (4 : Int) = 1)]
theorem spec_l6In_eq (a l h : Int) : spec_l6In.f a l h = some (decide (l ≤ a ∧ a ≤ h)) := by
  unfold spec_l6In.f
  split
  · exact congrArg some (decide_eq_decide.2 (by omega))
  · exact congrArg some (decide_eq_false (by omega)).symm
theorem spec_SpanOk_eq (a b : Int) : spec_SpanOk.f a b = some (decide (Okay a b)) := by
  unfold spec_SpanOk.f
  rw [spec_l6In_eq, spec_l6In_eq]
  simp only [Option.bind_some, decide_eq_true_eq]
  by_cases h1 : -1073000000 ≤ a ∧ a ≤ 1073000000
  · rw [if_pos h1]; exact congrArg some (decide_eq_decide.2 (by unfold Okay; omega))
  · rw [if_neg h1]; exact congrArg some (decide_eq_false (by unfold Okay; omega)).symm
theorem spec_SureRound_eq (k : Nat) (a b parts way : Int) (hk : 1 ≤ k) : spec_SureRound.f k a b parts way = some (sureP (decide (Okay a b)) a b parts 1000000000 way) := by
  obtain ⟨k, rfl⟩ : ∃ m, k = m + 1 := ⟨k - 1, by omega⟩
  unfold spec_SureRound.f sureP
  rw [spec_SpanOk_eq, spec_l6In_eq, spec_l6In_eq]
  simp only [Option.bind_some, decide_eq_true_eq, spec_SureRound.j0]
  by_cases h : Okay a b
  · by_cases g : 1 ≤ parts ∧ parts ≤ 1000000000
    · have h' := h
      unfold Okay at h'
      rw [if_pos h, if_pos g]
      by_cases w : 1 ≤ way ∧ way ≤ 4
      · rw [if_neg (by simp [w]), spec_l1Round_eq _ _ _ (by omega) (by omega) w, spec_l1Round_eq _ _ _ (by omega) (by omega) w]
        simp only [Option.bind_some]
        by_cases e : roundP a parts way = roundP b parts way
        · rw [if_pos e, if_pos (c := Okay a b ∧ (1 ≤ parts ∧ parts ≤ 1000000000) ∧ (1 ≤ way ∧ way ≤ 4) ∧ roundP a parts way = roundP b parts way) ⟨h, g, w, e⟩]
        · rw [if_neg e, if_neg (c := Okay a b ∧ (1 ≤ parts ∧ parts ≤ 1000000000) ∧ (1 ≤ way ∧ way ≤ 4) ∧ roundP a parts way = roundP b parts way) (fun x => e x.2.2.2)]
      · rw [if_pos (by simp; omega), if_neg (c := Okay a b ∧ (1 ≤ parts ∧ parts ≤ 1000000000) ∧ (1 ≤ way ∧ way ≤ 4) ∧ roundP a parts way = roundP b parts way) (fun x => w x.2.2.1)]
    · rw [if_pos h, if_neg g, if_pos trivial, if_neg (c := Okay a b ∧ (1 ≤ parts ∧ parts ≤ 1000000000) ∧ (1 ≤ way ∧ way ≤ 4) ∧ roundP a parts way = roundP b parts way) (fun x => g x.2.1)]
  · rw [if_neg h, if_pos trivial, if_neg (c := Okay a b ∧ (1 ≤ parts ∧ parts ≤ 1000000000) ∧ (1 ≤ way ∧ way ≤ 4) ∧ roundP a parts way = roundP b parts way) (fun x => h x.1)]
theorem impl_in_eq (a l h : Int) : impl_in.f a l h = some (decide (l ≤ a ∧ a ≤ h)) := by
  unfold impl_in.f
  split
  · exact congrArg some (decide_eq_decide.2 (by omega))
  · exact congrArg some (decide_eq_false (by omega)).symm
theorem impl_SpanOk_eq (a b : Int) : impl_SpanOk.f a b = some (decide (Okay a b)) := by
  unfold impl_SpanOk.f
  rw [impl_in_eq, impl_in_eq]
  simp only [Option.bind_some, decide_eq_true_eq]
  by_cases h1 : -1073000000 ≤ a ∧ a ≤ 1073000000
  · by_cases h2 : -1073000000 ≤ b ∧ b ≤ 1073000000
    · rw [if_pos h1, if_pos h2]; exact congrArg some (decide_eq_decide.2 (by unfold Okay; omega))
    · rw [if_pos h1, if_neg h2]; exact congrArg some (decide_eq_false (by unfold Okay; omega)).symm
  · rw [if_neg h1]; exact congrArg some (decide_eq_false (by unfold Okay; omega)).symm
theorem impl_divides_eq (a b : Int) : impl_divides.f a b = some (decide ((-1152921504606846976 ≤ a ∧ a ≤ 1152921504606846976) ∧ 1 ≤ b ∧ b ≤ 1152921504606846976)) := by
  unfold impl_divides.f
  rw [impl_in_eq, impl_in_eq]
  simp only [Option.bind_some, decide_eq_true_eq]
  by_cases h : -1152921504606846976 ≤ a ∧ a ≤ 1152921504606846976
  · rw [if_pos h]; exact congrArg some (decide_eq_decide.2 (by omega))
  · rw [if_neg h]; exact congrArg some (decide_eq_false (by omega)).symm
theorem impl_down_eq (a b : Int) (hb : 0 < b) (h1 : -4611686018427387904 ≤ a) (h2 : a ≤ 4611686018427387904) : impl_down.f a b = some (a / b) := by
  have t := AlMath.tdiv_bound a b 4611686018427387904 hb h1 h2
  unfold impl_down.f
  rw [if_neg (by omega), w64 (x := Int.tdiv a b) (by omega), w64 (x := Int.tdiv a b - 1) (by omega), ← AlMath.down_go a b hb]
  split <;> rfl
theorem impl_up_eq (a b : Int) (hb : 0 < b) (h1 : -4611686018427387904 ≤ a) (h2 : a ≤ 4611686018427387904) : impl_up.f a b = some (-(-a / b)) := by
  have t := AlMath.fl_bound (-a) b 4611686018427387904 hb (by omega) (by omega)
  unfold impl_up.f
  rw [w64 (x := -a) (by omega), impl_down_eq _ _ hb (by omega) (by omega)]
  simp only [Option.bind_some]
  rw [w64 (by omega)]
theorem impl_round_eq (a b way : Int) (ha : -1152921504606846976 ≤ a ∧ a ≤ 1152921504606846976) (hb : 1 ≤ b ∧ b ≤ 1152921504606846976) (hw : 1 ≤ way ∧ way ≤ 4) : impl_round.f a b way = some (roundP a b way) := by
  have f := fl_bound a b 1152921504606846976 (by omega) ha.1 ha.2
  have l := fl_le a b (by omega)
  have e : (a / b + 1) * b = a / b * b + b := by rw [Int.add_mul]; omega
  rw [e] at l
  unfold impl_round.f roundP
  rw [impl_down_eq a b (by omega) (by omega) (by omega), impl_up_eq a b (by omega) (by omega) (by omega)]
  simp only [Option.bind_some]
  have hw' : way = 1 ∨ way = 2 ∨ way = 3 ∨ way = 4 := by omega
  rcases hw' with rfl | rfl | rfl | rfl
  · simp
  · simp
  · have t := tdiv_bound a b 1152921504606846976 (by omega) ha.1 ha.2
    simp only [if_neg (by decide : ¬ (3 : Int) = 2), if_neg (by decide : ¬ (3 : Int) = 1), if_neg (show ¬ b = 0 by omega), if_true]
    rw [w64 (by omega), tdiv_zero]
  · simp only [if_neg (by decide : ¬ (4 : Int) = 2), if_neg (by decide : ¬ (4 : Int) = 3), if_neg (by decide : ¬ (4 : Int) = 1), if_true]
    rw [w64 (x := a / b * b) (by omega), w64 (x := a - a / b * b) (by omega), w64 (x := b - (a - a / b * b)) (by omega), w64 (x := a / b + 1) (by omega)]
    simp only [tmod_two]
    split
    · rfl
    · split
      · split <;> rfl
      · rfl
theorem impl_NumRound_eq (a b way : Int) : impl_NumRound.f a b way = some (if ((-1152921504606846976 ≤ a ∧ a ≤ 1152921504606846976) ∧ 1 ≤ b ∧ b ≤ 1152921504606846976) ∧ 1 ≤ way ∧ way ≤ 4 then (roundP a b way, true) else (0, false)) := by
  unfold impl_NumRound.f
  rw [impl_divides_eq, impl_in_eq]
  simp only [Option.bind_some, decide_eq_true_eq]
  by_cases h : (-1152921504606846976 ≤ a ∧ a ≤ 1152921504606846976) ∧ 1 ≤ b ∧ b ≤ 1152921504606846976
  · by_cases g : 1 ≤ way ∧ way ≤ 4
    · rw [if_pos h, if_pos g, if_pos ⟨h, g⟩, impl_round_eq _ _ _ h.1 h.2 g]; rfl
    · rw [if_pos h, if_neg g, if_neg (fun x => g x.2)]
  · rw [if_neg h, if_neg (fun x => h x.1)]
theorem impl_NumRound_yes (a b way : Int) (ha : -1152921504606846976 ≤ a ∧ a ≤ 1152921504606846976) (hb : 1 ≤ b ∧ b ≤ 1152921504606846976) (hw : 1 ≤ way ∧ way ≤ 4) : impl_NumRound.f a b way = some (roundP a b way, true) := by
  rw [impl_NumRound_eq, if_pos ⟨⟨ha, hb⟩, hw⟩]
theorem impl_NumRound_no (a b way : Int) (hw : ¬ ((1 ≤ b ∧ b ≤ 1152921504606846976) ∧ 1 ≤ way ∧ way ≤ 4)) : impl_NumRound.f a b way = some (0, false) := by
  rw [impl_NumRound_eq, if_neg (fun x => hw ⟨x.1.2, x.2⟩)]
theorem impl_same_eq (a b parts way : Int) (ha : -1152921504606846976 ≤ a ∧ a ≤ 1152921504606846976) (hb : -1152921504606846976 ≤ b ∧ b ≤ 1152921504606846976) (hp : 1 ≤ parts ∧ parts ≤ 1152921504606846976) :
    impl_same.f a b parts way = some (if (1 ≤ way ∧ way ≤ 4) ∧ roundP a parts way = roundP b parts way then (roundP a parts way, true) else (0, false)) := by
  unfold impl_same.f
  by_cases g : 1 ≤ way ∧ way ≤ 4
  · rw [impl_NumRound_yes a parts way ha hp g, impl_NumRound_yes b parts way hb hp g]
    simp only [Option.bind_some, if_true]
    by_cases e : roundP a parts way = roundP b parts way
    · rw [if_pos e, if_pos (c := (1 ≤ way ∧ way ≤ 4) ∧ roundP a parts way = roundP b parts way) ⟨g, e⟩]
    · rw [if_neg e, if_neg (c := (1 ≤ way ∧ way ≤ 4) ∧ roundP a parts way = roundP b parts way) (fun x => e x.2)]
  · rw [impl_NumRound_no a parts way (fun x => g x.2), impl_NumRound_no b parts way (fun x => g x.2), if_neg (c := (1 ≤ way ∧ way ≤ 4) ∧ roundP a parts way = roundP b parts way) (fun x => g x.1)]
    simp
theorem impl_SureRound_eq (a b parts way : Int) : impl_SureRound.f a b parts way = some (sureP (decide (Okay a b)) a b parts 1000000000 way) := by
  unfold impl_SureRound.f sureP
  rw [impl_SpanOk_eq, impl_in_eq]
  simp only [Option.bind_some, decide_eq_true_eq]
  by_cases h : Okay a b
  · by_cases g : 1 ≤ parts ∧ parts ≤ 1000000000
    · have h' := h
      unfold Okay at h'
      rw [if_pos h, if_pos g, impl_same_eq _ _ _ _ (by omega) (by omega) (by omega)]
      simp only [Option.bind_some]
      by_cases w : (1 ≤ way ∧ way ≤ 4) ∧ roundP a parts way = roundP b parts way
      · rw [if_pos w, if_pos (c := Okay a b ∧ (1 ≤ parts ∧ parts ≤ 1000000000) ∧ (1 ≤ way ∧ way ≤ 4) ∧ roundP a parts way = roundP b parts way) ⟨h, g, w.1, w.2⟩]
      · rw [if_neg w, if_neg (c := Okay a b ∧ (1 ≤ parts ∧ parts ≤ 1000000000) ∧ (1 ≤ way ∧ way ≤ 4) ∧ roundP a parts way = roundP b parts way) (fun x => w x.2.2)]
    · rw [if_pos h, if_neg g, if_neg (c := Okay a b ∧ (1 ≤ parts ∧ parts ≤ 1000000000) ∧ (1 ≤ way ∧ way ≤ 4) ∧ roundP a parts way = roundP b parts way) (fun x => g x.2.1)]
  · rw [if_neg h, if_neg (c := Okay a b ∧ (1 ≤ parts ∧ parts ≤ 1000000000) ∧ (1 ≤ way ∧ way ≤ 4) ∧ roundP a parts way = roundP b parts way) (fun x => h x.1)]
theorem FnExactSureRound (a b c d : Int) (_ : (Lit.int .i64 a).wf = true) (_ : (Lit.int .i64 b).wf = true) (_ : (Lit.int .i64 c).wf = true) (_ : (Lit.int .i64 d).wf = true) : ∃ k, laws_FnExactSureRound.f k a b c d = some true := by
  refine ⟨100, ?_⟩
  unfold laws_FnExactSureRound.f
  rw [laws_toSpan_eq]
  simp only [Option.bind_some]
  rw [spec_SureRound_eq _ _ _ _ _ (by omega), impl_SureRound_eq]
  simp
end Go.Proofs.Ytdjlmfcnopbljaa.PureFnExactSureRound
