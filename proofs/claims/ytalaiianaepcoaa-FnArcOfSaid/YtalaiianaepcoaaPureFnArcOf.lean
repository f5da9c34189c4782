/- The statement FnArcOf holds of what the Go functions compute. -/
import Derived.Test.YtalaiianaepcoaaAlB
import Derived.Test.YtalaiianaepcoaaSB
import Derived.Test.YtalaiianaepcoaaSE
import Derived.Test.YtalaiianaepcoaaSFimplSineOf
import Derived.Test.YtalaiianaepcoaaSFimplSpanDiv
import Derived.Test.YtalaiianaepcoaaSFimplTanOf
import Derived.Test.YtalaiianaepcoaaSFimplArcOf
import Derived.Test.YtalaiianaepcoaaSC
import Derived.Test.YtalaiianaepcoaaSFspecDrawArcOf
import Derived.Test.YtalaiianaepcoaaSA
import Derived.Test.YtalaiianaepcoaaSFspecArcOf
import Derived.Test.YtalaiianaepcoaaSFlawsFnArcOfA
namespace Go.Proofs.Ytalaiianaepcoaa.PureFnArcOf
open Go.RowKit AlMath Go.Proofs.Ytalaiianaepcoaa.S Go.Proofs.YtalaiianaepcoaaW.PrintWords Go.Proofs.YtalaiianaepcoaaW.PrintLast
theorem w64 {x : Int} (h : -9223372036854775808 ≤ x ∧ x ≤ 9223372036854775807) : wrap64 x = x := by unfold wrap64; omega
theorem wf64 {x : Int} (h : (Lit.int .i64 x).wf = true) : -9223372036854775808 ≤ x ∧ x ≤ 9223372036854775807 := by
  simp [Lit.wf, IntKind.min, IntKind.max, IntKind.signed, IntKind.bits] at h; omega
theorem wf8 {x : Int} (h : (Lit.int .u8 x).wf = true) : 0 ≤ x ∧ x ≤ 255 := by
  simp [Lit.wf, IntKind.min, IntKind.max, IntKind.signed, IntKind.bits] at h; omega
theorem mx_eq (a b : Int) : mx a b = max a b := by unfold mx; omega
theorem mn_eq (a b : Int) : mn a b = min a b := by unfold mn; omega
theorem impl_in_eq (a l h : Int) : impl_in.f a l h = some (decide (l ≤ a ∧ a ≤ h)) := by
  unfold impl_in.f
  split
  · exact congrArg some (decide_eq_decide.2 (by omega))
  · exact congrArg some (decide_eq_false (by omega)).symm
theorem impl_isAngle_eq (a : Int) : impl_isAngle.f a = some (decide (-1000000000000 ≤ a ∧ a ≤ 1000000000000)) := by
  unfold impl_isAngle.f; rw [impl_in_eq]; rfl
theorem impl_down_eq (a b : Int) (hb : 0 < b) (h1 : -4611686018427387904 ≤ a) (h2 : a ≤ 4611686018427387904) : impl_down.f a b = some (a / b) := by
  have t := AlMath.tdiv_bound a b 4611686018427387904 hb h1 h2
  unfold impl_down.f
  rw [if_neg (by omega), w64 (x := Int.tdiv a b) (by omega), w64 (x := Int.tdiv a b - 1) (by omega), ← AlMath.down_go a b hb]
  split <;> rfl
theorem impl_modulo_eq (a b : Int) (hb : 0 < b) (h1 : -1152921504606846976 ≤ a) (h2 : a ≤ 1152921504606846976) (hb2 : b ≤ 1152921504606846976) : impl_modulo.f a b = some (a % b) := by
  unfold impl_modulo.f
  rw [impl_down_eq _ _ hb (by omega) (by omega)]
  simp only [Option.bind_some]
  have e := Int.mul_ediv_add_emod a b
  have r0 := Int.emod_nonneg a (by omega : b ≠ 0)
  have r1 := Int.emod_lt_of_pos a hb
  rw [Int.mul_comm b] at e
  rw [w64 (x := a / b * b) (by omega), w64 (by omega)]
  congr 1; omega
theorem impl_SpanOk_eq (a b : Int) : impl_SpanOk.f a b = some (decide (Okay a b)) := by
  unfold impl_SpanOk.f
  rw [impl_in_eq, impl_in_eq]
  simp only [Option.bind_some, decide_eq_true_eq]
  by_cases h1 : -1073000000 ≤ a ∧ a ≤ 1073000000
  · by_cases h2 : -1073000000 ≤ b ∧ b ≤ 1073000000
    · rw [if_pos h1, if_pos h2]; exact congrArg some (decide_eq_decide.2 (by unfold Okay; omega))
    · rw [if_pos h1, if_neg h2]; exact congrArg some (decide_eq_false (by unfold Okay; omega)).symm
  · rw [if_neg h1]; exact congrArg some (decide_eq_false (by unfold Okay; omega)).symm
theorem impl_SpanNeg_eq (a b : Int) : impl_SpanNeg.f a b = if Okay a b then some (-b, -a) else some (0, 0) := by
  unfold impl_SpanNeg.f
  rw [impl_SpanOk_eq]
  simp only [Option.bind_some, decide_eq_true_eq]
  by_cases h : Okay a b
  · rw [if_pos h, if_pos h]; unfold Okay at h; rw [w64 (by omega), w64 (by omega)]
  · rw [if_neg h, if_neg h]
theorem impl_up_eq (a b : Int) (hb : 0 < b) (h1 : -4611686018427387904 ≤ a) (h2 : a ≤ 4611686018427387904) : impl_up.f a b = some (-(-a / b)) := by
  have t := AlMath.fl_bound (-a) b 4611686018427387904 hb (by omega) (by omega)
  unfold impl_up.f
  rw [w64 (x := -a) (by omega), impl_down_eq _ _ hb (by omega) (by omega)]
  simp only [Option.bind_some]
  rw [w64 (by omega)]
theorem impl_arc_eq (h : Int) (h0 : 0 ≤ h) (h1 : h ≤ 1000000000) : impl_arc.f h = some (arcP h) := by
  unfold impl_arc.f
  rw [w64 (x := h * 785398163) (by omega), w64 (x := h * 785398164) (by omega), impl_down_eq _ _ (by omega) (by omega) (by omega), impl_up_eq _ _ (by omega) (by omega) (by omega)]
  rfl
theorem impl_row_l0 (lo hi : Int) (lo0 : 0 ≤ lo) (lo1 : lo ≤ 1000000000) (hi0 : 0 ≤ hi) (hi1 : hi ≤ 1000000000) (d : Nat) :
    ∀ (k : Nat) (tk : Bool) (sl sh tl th n : Int), 3 * d + 3 ≤ k → 40 ≤ n + 2 * (d : Int) → 1 ≤ n → n + 2 * (d : Int) ≤ 60 → 0 ≤ tl → tl ≤ 1000000000 → 0 ≤ th → th ≤ 1000000000 →
      -1000000000000 + (d : Int) * 1000000000 ≤ sl → sl ≤ 1000000000000 - (d : Int) * 1000000000 → -1000000000000 + (d : Int) * 1000000000 ≤ sh → sh ≤ 1000000000000 - (d : Int) * 1000000000 →
      impl_row.l0 k n lo hi tk sl sh tl th = some (rowL lo hi d tk sl sh tl th n) := by
  induction d with
  | zero =>
    intro k tk sl sh tl th n hk h1 h2 h3 _ _ _ _ _ _ _ _
    obtain ⟨k, rfl⟩ : ∃ m, k = m + 2 := ⟨k - 2, by omega⟩
    simp only [impl_row.l0, impl_row.j1, rowL]
    by_cases e : th = 0
    · rw [if_pos e]; simp
    · rw [if_neg e, if_neg (by simp; omega)]
  | succ d ih =>
    intro k tk sl sh tl th n hk h1 h2 h3 tl0 tl1 th0 th1 s1 s2 s3 s4
    obtain ⟨k, rfl⟩ : ∃ m, k = m + 3 := ⟨k - 3, by omega⟩
    simp only [impl_row.l0, impl_row.j1, impl_row.j2, rowL]
    by_cases e : th = 0
    · rw [if_pos e, if_neg (by simp), if_neg (by simp [e])]
    · rw [if_neg e]
      by_cases c : n < 40
      · have m0 := Int.mul_nonneg tl0 lo0
        have m1 := Int.mul_le_mul tl1 lo1 lo0 (by omega)
        have m2 := Int.mul_nonneg th0 hi0
        have m3 := Int.mul_le_mul th1 hi1 hi0 (by omega)
        have q0 := Int.mul_le_mul (show n ≤ 60 by omega) (show n + 1 ≤ 61 by omega) (by omega) (by omega)
        have q1 := Int.mul_pos (show 0 < n by omega) (show 0 < n + 1 by omega)
        have B1 := tdn_bounds tl lo n tl0 lo0 lo1 h2
        have B2 := tup_bounds th hi n th0 hi0 hi1 h2
        rw [if_pos (decide_eq_true c), if_pos ⟨e, c⟩, w64 (x := n + 1) (by omega), w64 (x := n * (n + 1)) (by omega), w64 (x := tl * lo) (by omega), w64 (x := th * hi) (by omega)]
        rw [impl_down_eq _ _ (by omega) (by omega) (by omega), impl_up_eq _ _ (by omega) (by omega) (by omega)]
        simp only [Option.bind_some]
        have F1 := fl_bound (tl * lo) 1000000000 1000000000000000000 (by omega) (by omega) (by omega)
        have F2 := fl_bound (-(th * hi)) 1000000000 1000000000000000000 (by omega) (by omega) (by omega)
        rw [impl_down_eq _ _ q1 (by omega) (by omega), impl_up_eq _ _ q1 (by omega) (by omega)]
        simp only [Option.bind_some]
        change (if tup th hi n = 1 then _ else _) = _
        have ea : tl * lo / 1000000000 / (n * (n + 1)) = tdn tl lo n := rfl
        have eb : -(-(-(-(th * hi) / 1000000000)) / (n * (n + 1))) = tup th hi n := rfl
        rw [ea, eb]
        have cont : (if tk = true then impl_row.l0 k (wrap64 (n + 2)) lo hi (!tk) (wrap64 (sl - tup th hi n)) (wrap64 (sh - tdn tl lo n)) (tdn tl lo n) (tup th hi n)
            else impl_row.l0 k (wrap64 (n + 2)) lo hi (!tk) (wrap64 (sl + tdn tl lo n)) (wrap64 (sh + tup th hi n)) (tdn tl lo n) (tup th hi n)) =
            some (if tk = true then rowL lo hi d false (sl - tup th hi n) (sh - tdn tl lo n) (tdn tl lo n) (tup th hi n) (n + 2)
              else rowL lo hi d true (sl + tdn tl lo n) (sh + tup th hi n) (tdn tl lo n) (tup th hi n) (n + 2)) := by
          rw [w64 (x := n + 2) (by omega), w64 (x := sl - tup th hi n) (by omega), w64 (x := sh - tdn tl lo n) (by omega), w64 (x := sl + tdn tl lo n) (by omega), w64 (x := sh + tup th hi n) (by omega)]
          cases tk with
          | true => exact ih k false _ _ _ _ _ (by omega) (by omega) (by omega) (by omega) B1.1 (by omega) B2.1 (by omega) (by omega) (by omega) (by omega) (by omega)
          | false => exact ih k true _ _ _ _ _ (by omega) (by omega) (by omega) (by omega) B1.1 (by omega) B2.1 (by omega) (by omega) (by omega) (by omega) (by omega)
        by_cases x : tup th hi n = 1
        · rw [if_pos x]
          by_cases y : tdn tl lo n = 0
          · rw [if_pos (by simp [y]), if_pos ⟨x, y⟩, w64 (by omega), w64 (by omega)]
          · rw [if_neg (by simp [y]), if_neg (c := tup th hi n = 1 ∧ tdn tl lo n = 0) (fun z => y z.2)]; exact cont
        · rw [if_neg x, if_neg (by decide), if_neg (c := tup th hi n = 1 ∧ tdn tl lo n = 0) (fun z => x z.1)]; exact cont
      · rw [if_neg (by simp; omega), if_neg (fun z => c z.2)]
theorem impl_row_eq (k : Nat) (first x n : Int) (hk : 70 ≤ k) (f0 : 0 ≤ first) (f1 : first ≤ 1000000000) (x0 : 0 ≤ x) (x1 : x ≤ 900000000) (hn : n = 1 ∨ n = 2) :
    impl_row.f k first x n = some (rowP first x n) := by
  unfold impl_row.f rowP
  have m0 := Int.mul_nonneg x0 x0
  have m1 := Int.mul_le_mul x1 x1 x0 (by omega)
  rw [w64 (x := x * x) (by omega), impl_down_eq _ _ (by omega) (by omega) (by omega), impl_up_eq _ _ (by omega) (by omega) (by omega)]
  simp only [Option.bind_some]
  exact impl_row_l0 _ _ (by omega) (by omega) (by omega) (by omega) 21 k true _ _ _ _ _ (by omega) (by omega) (by omega) (by omega) f0 f1 f0 f1 (by omega) (by omega) (by omega) (by omega)
theorem arc_in' (h : Int) (h0 : 0 ≤ h) (h1 : h ≤ 32400000) : (0 ≤ (arcP h).1 ∧ (arcP h).1 ≤ 900000000) ∧ 0 ≤ (arcP h).2 ∧ (arcP h).2 ≤ 900000000 := by
  unfold arcP; simp only; omega
theorem impl_sine_quart (k : Nat) (h : Int) (hk : 71 ≤ k) (h0 : 0 ≤ h) (h1 : h ≤ 64800000) : impl_sine.f k h = some (quartP h) := by
  obtain ⟨k, rfl⟩ : ∃ m, k = m + 1 := ⟨k - 1, by omega⟩
  simp only [impl_sine.f]
  rw [impl_modulo_eq _ _ (by omega) (by omega) (by omega) (by omega), show h % 259200000 = h by omega]
  simp only [Option.bind_some]
  rw [if_neg (by omega), if_neg (by omega)]
  unfold quartP
  by_cases c0 : h = 0
  · rw [if_pos c0, if_pos c0]
  · rw [if_neg c0, if_neg c0]
    by_cases c1 : h = 21600000
    · rw [if_pos c1, if_pos c1]
    · rw [if_neg c1, if_neg c1]
      by_cases c2 : h = 64800000
      · rw [if_pos c2, if_pos c2]
      · rw [if_neg c2, if_neg c2]
        by_cases c3 : h ≤ 32400000
        · obtain ⟨a, b⟩ := arc_in' h h0 c3
          rw [if_pos c3, if_pos c3, impl_arc_eq h h0 (by omega)]
          simp only [Option.bind_some]
          rw [impl_row_eq _ _ _ _ (by omega) a.1 (by omega) a.1 a.2 (.inr rfl), impl_row_eq _ _ _ _ (by omega) b.1 (by omega) b.1 b.2 (.inr rfl)]
          simp only [Option.bind_some]
          rw [mx_eq, smallP_def]
        · obtain ⟨a, b⟩ := arc_in' (64800000 - h) (by omega) (by omega)
          rw [if_neg c3, if_neg c3, w64 (by omega), impl_arc_eq _ (by omega) (by omega)]
          simp only [Option.bind_some]
          rw [impl_row_eq _ _ _ _ (by omega) (by omega) (by omega) b.1 b.2 (.inl rfl), impl_row_eq _ _ _ _ (by omega) (by omega) (by omega) a.1 a.2 (.inl rfl)]
          simp only [Option.bind_some]
          rw [mn_eq, nearP_def]
theorem impl_sine_half (k : Nat) (h : Int) (hk : 72 ≤ k) (h0 : 0 ≤ h) (h1 : h < 129600000) : impl_sine.f k h = some (halfP h) := by
  unfold halfP
  by_cases c : h > 64800000
  · obtain ⟨k, rfl⟩ : ∃ m, k = m + 1 := ⟨k - 1, by omega⟩
    simp only [impl_sine.f]
    rw [impl_modulo_eq _ _ (by omega) (by omega) (by omega) (by omega), show h % 259200000 = h by omega]
    simp only [Option.bind_some]
    rw [if_neg (by omega), if_pos c, if_pos c, w64 (by omega), impl_sine_quart k _ (by omega) (by omega) (by omega)]; rfl
  · rw [if_neg c, impl_sine_quart k _ (by omega) h0 (by omega)]
theorem impl_sine_eq (k : Nat) (h : Int) (hk : 73 ≤ k) (h0 : -1152921504606846976 ≤ h) (h1 : h ≤ 1152921504606846976) : impl_sine.f k h = some (sineP h) := by
  unfold sineP
  have m := impl_modulo_eq h 259200000 (by omega) h0 h1 (by omega)
  have r0 : 0 ≤ h % 259200000 := by omega
  have r1 : h % 259200000 < 259200000 := by omega
  by_cases c : h % 259200000 ≥ 129600000
  · obtain ⟨k, rfl⟩ : ∃ m, k = m + 1 := ⟨k - 1, by omega⟩
    have o := halfP_ok (h % 259200000 - 129600000) (by omega) (by omega)
    simp only [impl_sine.f]
    rw [m]
    simp only [Option.bind_some]
    rw [if_pos c, if_pos c, w64 (by omega), impl_sine_half k _ (by omega) (by omega) (by omega)]
    simp only [Option.bind_some]
    rw [impl_SpanNeg_eq, if_pos (by unfold Okay; omega)]
    rfl
  · rw [if_neg c]
    have e := impl_sine_half k (h % 259200000) (by omega) (by omega) (by omega)
    rw [← e]
    obtain ⟨k, rfl⟩ : ∃ m, k = m + 1 := ⟨k - 1, by omega⟩
    simp only [impl_sine.f]
    rw [m, impl_modulo_eq (h % 259200000) _ (by omega) (by omega) (by omega) (by omega), show h % 259200000 % 259200000 = h % 259200000 by omega]
theorem impl_SineOf_eq (k : Nat) (a : Int) (hk : 73 ≤ k) : impl_SineOf.f k a = some (toldP (AngIn a) (sineP (2 * a))) := by
  unfold impl_SineOf.f
  rw [impl_isAngle_eq]
  simp only [Option.bind_some, decide_eq_true_eq]
  by_cases h : -1000000000000 ≤ a ∧ a ≤ 1000000000000
  · rw [if_pos h, toldP_pos (AngIn a) _ h, w64 (by omega), impl_sine_eq k _ hk (by omega) (by omega)]; rfl
  · rw [if_neg h, toldP_neg (AngIn a) _ h]
theorem impl_cosine_eq (k : Nat) (a : Int) (hk : 73 ≤ k) (h : -3000000000000 ≤ a ∧ a ≤ 3000000000000) : impl_cosine.f k a = some (sineP (2 * a + 64800000)) := by
  unfold impl_cosine.f
  rw [w64 (x := a + 32400000) (by omega), w64 (by omega), impl_sine_eq k _ hk (by omega) (by omega), show 2 * (a + 32400000) = 2 * a + 64800000 by omega]
  rfl
theorem impl_told_eq (a b : Int) : impl_told.f a b = some (toldP (Okay a b) (a, b)) := by
  unfold impl_told.f
  rw [impl_SpanOk_eq]
  simp only [Option.bind_some, decide_eq_true_eq]
  by_cases h : Okay a b
  · rw [if_pos h, toldP_pos _ _ h]
  · rw [if_neg h, toldP_neg _ _ h]
theorem impl_SpanDiv_j1 (k : Nat) (a b c d : Int) (h : Okay a b) (g : Okay c d) (g0 : 0 < c) : impl_SpanDiv.j1 (k + 1) a b c d = some (toldP (Okay (divS a b c d).1 (divS a b c d).2) (divS a b c d)) := by
  unfold Okay at h g
  simp only [impl_SpanDiv.j1]
  rw [w64 (x := a * 1000000000) (by omega), w64 (x := b * 1000000000) (by omega)]
  rw [impl_down_eq _ _ (by omega) (by omega) (by omega), impl_down_eq _ _ (by omega) (by omega) (by omega), impl_up_eq _ _ (by omega) (by omega) (by omega), impl_up_eq _ _ (by omega) (by omega) (by omega)]
  simp only [Option.bind_some, mn_eq, mx_eq]
  rw [impl_told_eq]
  rfl
theorem impl_SpanDiv_eq0 (k : Nat) (a b c d : Int) (hk : 2 ≤ k) (h : Okay a b) (g : Okay c d) : impl_SpanDiv.f k a b c d = some (toldP (divOk (a, b) (c, d)) (divP (a, b) (c, d))) := by
  obtain ⟨k, rfl⟩ : ∃ m, k = m + 1 + 1 := ⟨k - 2, by omega⟩
  unfold impl_SpanDiv.f
  rw [impl_SpanOk_eq, impl_SpanOk_eq, decide_eq_true h, decide_eq_true g, impl_in_eq]
  simp only [Option.bind_some, if_true]
  have h' := h
  have g' := g
  unfold Okay at h' g'
  by_cases z : c ≤ 0 ∧ 0 ≤ d
  · rw [decide_eq_true z, toldP_neg (divOk (a, b) (c, d)) _ (fun q => q.1 z)]
    simp only [impl_SpanDiv.j0, if_true]
  · rw [decide_eq_false z]
    simp only [impl_SpanDiv.j0, Bool.false_eq_true, if_false]
    by_cases n : d < 0
    · rw [if_pos n, impl_SpanNeg_eq, impl_SpanNeg_eq, if_pos h, if_pos g]
      simp only [Option.bind_some]
      rw [impl_SpanDiv_j1 _ _ _ _ _ (by unfold Okay; omega) (by unfold Okay; omega) (by omega)]
      have e : divP (a, b) (c, d) = divS (-b) (-a) (-d) (-c) := if_pos n
      by_cases o : Okay (divS (-b) (-a) (-d) (-c)).1 (divS (-b) (-a) (-d) (-c)).2
      · rw [toldP_pos _ _ o, toldP_pos (divOk (a, b) (c, d)) _ ⟨z, by rw [e]; exact o⟩, e]
      · rw [toldP_neg _ _ o, toldP_neg (divOk (a, b) (c, d)) _ (fun q => o (by have x := q.2; rw [e] at x; exact x))]
    · rw [if_neg n, impl_SpanDiv_j1 _ _ _ _ _ h g (by omega)]
      have e : divP (a, b) (c, d) = divS a b c d := if_neg n
      by_cases o : Okay (divS a b c d).1 (divS a b c d).2
      · rw [toldP_pos _ _ o, toldP_pos (divOk (a, b) (c, d)) _ ⟨z, by rw [e]; exact o⟩, e]
      · rw [toldP_neg _ _ o, toldP_neg (divOk (a, b) (c, d)) _ (fun q => o (by have x := q.2; rw [e] at x; exact x))]
theorem impl_SpanDiv_eq (k : Nat) (s t : Int × Int) (hk : 2 ≤ k) (h : Okay s.1 s.2) (g : Okay t.1 t.2) : impl_SpanDiv.f k s.1 s.2 t.1 t.2 = some (toldP (divOk s t) (divP s t)) := by
  obtain ⟨a, b⟩ := s
  obtain ⟨c, d⟩ := t
  exact impl_SpanDiv_eq0 k a b c d hk h g
theorem impl_TanOf_eq (k : Nat) (a : Int) (hk : 73 ≤ k) : impl_TanOf.f k a = some (toldP (tanOk a) (tanP a)) := by
  unfold impl_TanOf.f
  rw [impl_isAngle_eq]
  simp only [Option.bind_some, decide_eq_true_eq]
  by_cases h : -1000000000000 ≤ a ∧ a ≤ 1000000000000
  · rw [if_pos h, w64 (by omega), impl_sine_eq k _ hk (by omega) (by omega), impl_cosine_eq k _ hk (by omega)]
    simp only [Option.bind_some]
    rw [impl_SpanDiv_eq k _ _ (by omega) (sine_okay0 _) (sine_okay0 _), tanP_def]
    by_cases o : divOk (sineP (2 * a)) (sineP (2 * a + 64800000))
    · rw [toldP_pos _ _ o, toldP_pos (tanOk a) _ ⟨h, o⟩]; rfl
    · rw [toldP_neg _ _ o, toldP_neg (tanOk a) _ (fun q => o q.2)]; rfl
  · rw [if_neg h, toldP_neg (tanOk a) _ (fun q => h q.1)]
theorem impl_ArcOf_eq (a : Int) : impl_ArcOf.f a = some (arcOfP a) := by
  unfold impl_ArcOf.f arcOfP
  rw [impl_in_eq]
  simp only [Option.bind_some, decide_eq_true_eq]
  by_cases h : -16200000 ≤ a ∧ a ≤ 16200000
  · rw [if_pos h, if_pos h]
    by_cases c : a < 0
    · rw [if_pos c, if_pos c, w64 (x := -2 * a) (by omega), impl_arc_eq _ (by omega) (by omega)]
      simp only [Option.bind_some]
      rw [impl_SpanNeg_eq, if_pos (arc_ok _ (by omega) (by omega))]; rfl
    · rw [if_neg c, if_neg c, w64 (x := 2 * a) (by omega), impl_arc_eq _ (by omega) (by omega)]; rfl
  · rw [if_neg h, if_neg h]
/-- what a reader reads. -/
def Rdr (l : List Int) : Prop := (∀ x ∈ l, 0 ≤ x ∧ x ≤ 255) ∧ l.length ≤ 2000
theorem Rdr.at_ {l : List Int} (h : Rdr l) (i : Int) : 0 ≤ rd l i ∧ rd l i ≤ 255 := by
  unfold rd
  rw [List.getD_eq_getElem?_getD]
  cases e : l[i.toNat]? with
  | none => simp
  | some v => simp; exact h.1 v (List.mem_of_getElem? e)
theorem spec_l6Open_ex (l : List Int) (h : ∀ x ∈ l, (Lit.int .u8 x).wf = true) : ∃ s, spec_l6Open.f l = some (s, 0) ∧ Rdr s := by
  unfold spec_l6Open.f
  split
  · rw [if_pos (by omega)]
    exact ⟨_, rfl, fun x hx => wf8 (h x (List.mem_of_mem_take hx)), by simp; omega⟩
  · exact ⟨_, rfl, fun x hx => wf8 (h x hx), by omega⟩
theorem xor_nonneg (a b : Int) (ha : 0 ≤ a) (ha1 : a < 1099511627776) (hb : 0 ≤ b) (hb1 : b < 1099511627776) : 0 ≤ Go.bits .xor .i64 a b := by
  obtain ⟨n, rfl⟩ := Int.eq_ofNat_of_zero_le ha
  obtain ⟨m, rfl⟩ := Int.eq_ofNat_of_zero_le hb
  have e1 : n % 2 ^ IntKind.i64.bits = n := Nat.mod_eq_of_lt (show n < 2 ^ 64 by omega)
  have e2 : m % 2 ^ IntKind.i64.bits = m := Nat.mod_eq_of_lt (show m < 2 ^ 64 by omega)
  have x := Nat.xor_lt_two_pow (n := 40) (x := n) (y := m) (by omega) (by omega)
  have e : Go.bits .xor .i64 (n : Int) (m : Int) = IntKind.i64.wrap ((n ^^^ m : Nat) : Int) := by
    simp only [Go.bits, BitVec.ofInt_natCast, BitVec.toNat_xor, BitVec.toNat_ofNat, e1, e2]
  rw [e, IntKind.wrap_i64]
  omega
theorem pick_ex (k : Nat) (l : List Int) (p n : Int) (hk : 1 ≤ k) (h : Rdr l) (h0 : 0 ≤ p) (h1 : p ≤ 100000) (hn : 1 ≤ n) (hn1 : n ≤ 4611686018427387904) :
    ∃ v, spec_l6Rd_pick.f k l p n = some (v, p + 1) ∧ 0 ≤ v ∧ v < n := by
  obtain ⟨k, rfl⟩ : ∃ m, k = m + 1 := ⟨k - 1, by omega⟩
  unfold spec_l6Rd_pick.f
  rw [if_neg (by omega), w64 (x := p + 1) (by omega)]
  simp only [spec_l6Rd_pick.j0]
  have hl := h.2
  rw [w64 (x := p + 1 - 1) (by omega), show p + 1 - 1 = p by omega]
  by_cases e : (l.length : Int) = 0
  · rw [if_pos (by simpa using e)]
    exact ⟨0, rfl, by omega, by omega⟩
  · rw [if_neg (by simpa using e)]
    by_cases hp : p < (l.length : Int)
    · have r := h.at_ p
      rw [if_pos hp, if_pos h0, if_neg (by omega), w64 (x := rd l p) (by omega), Int.tmod_eq_emod_of_nonneg r.1]
      exact ⟨_, rfl, Int.emod_nonneg _ (by omega), Int.emod_lt_of_pos _ (by omega)⟩
    · have hL : 0 < (l.length : Int) := by omega
      have m1 := Int.emod_nonneg p (by omega : (l.length : Int) ≠ 0)
      have m2 := Int.emod_lt_of_pos p hL
      have m3 := Int.emod_nonneg (p * 7 + 3) (by omega : (l.length : Int) ≠ 0)
      have m4 := Int.emod_lt_of_pos (p * 7 + 3) hL
      have d := AlMath.fl_bound p l.length 100000 hL (by omega) (by omega)
      have d0 := Int.ediv_nonneg h0 (by omega : 0 ≤ (l.length : Int))
      rw [if_neg hp, if_neg e, w64 (x := p * 7) (by omega), w64 (x := p * 7 + 3) (by omega), Int.tmod_eq_emod_of_nonneg (b := (l.length : Int)) h0, Int.tmod_eq_emod_of_nonneg (b := (l.length : Int)) (show 0 ≤ p * 7 + 3 by omega), Int.tdiv_eq_ediv_of_nonneg (b := (l.length : Int)) h0]
      rw [if_pos m1, if_pos m2, if_pos m3, if_pos m4, if_neg (by omega)]
      have r1 := h.at_ (p % l.length)
      have r2 := h.at_ ((p * 7 + 3) % l.length)
      generalize rd l (p % l.length) = u at *
      generalize rd l ((p * 7 + 3) % l.length) = v at *
      generalize p / l.length = w at *
      rw [w64 (x := u) (by omega), w64 (x := v) (by omega), w64 (x := u * 131) (by omega), w64 (x := v * 1117) (by omega), w64 (x := u * 131 + v * 1117) (by omega), w64 (x := p * 29) (by omega), w64 (x := u * 131 + v * 1117 + p * 29) (by omega), w64 (x := w) (by omega), w64 (x := w * 53) (by omega), w64 (x := u * 131 + v * 1117 + p * 29 + w * 53) (by omega)]
      rw [Int.tdiv_eq_ediv_of_nonneg (by omega), w64 (x := (u * 131 + v * 1117 + p * 29 + w * 53) / 64) (by omega)]
      have x0 := xor_nonneg (u * 131 + v * 1117 + p * 29 + w * 53) ((u * 131 + v * 1117 + p * 29 + w * 53) / 64) (by omega) (by omega) (by omega) (by omega)
      rw [Int.tmod_eq_emod_of_nonneg x0]
      exact ⟨_, rfl, Int.emod_nonneg _ (by omega), Int.emod_lt_of_pos _ (by omega)⟩
theorem big_j1 (k : Nat) (l : List Int) (m x p : Int) (hk : 2 ≤ k) (h : Rdr l) (h0 : 0 ≤ p) (h1 : p ≤ 100000) (hm : 3 ≤ m) (hm1 : m ≤ 1152921504606846976) (hx : -3 ≤ x) (hx1 : x ≤ 1152921504606846976) :
    ∃ v p', spec_l71Big.j1 k m x l p = some (v, p') ∧ p ≤ p' ∧ p' ≤ p + 1 ∧ -m ≤ v ∧ v ≤ m := by
  obtain ⟨k, rfl⟩ : ∃ m, k = m + 1 := ⟨k - 1, by omega⟩
  simp only [spec_l71Big.j1]
  by_cases c : x < 0
  · rw [if_pos c]; exact ⟨x, p, rfl, by omega, by omega, by omega, by omega⟩
  · obtain ⟨v, e, v0, v1⟩ := pick_ex k l p 2 (by omega) h h0 h1 (by omega) (by omega)
    have r0 := Int.emod_nonneg x (by omega : m + 1 ≠ 0)
    have r1 := Int.emod_lt_of_pos x (show 0 < m + 1 by omega)
    rw [if_neg c, w64 (x := m + 1) (by omega), if_neg (by omega), e, Int.tmod_eq_emod_of_nonneg (by omega)]
    simp only [Option.bind_some]
    split
    · rw [w64 (by omega)]; exact ⟨_, _, rfl, by omega, by omega, by omega, by omega⟩
    · exact ⟨_, _, rfl, by omega, by omega, by omega, by omega⟩
theorem big_l0 (d : Nat) : ∀ (k : Nat) (l : List Int) (m x i p : Int), d + 3 ≤ k → Rdr l → 0 ≤ p → p + d ≤ 90000 → 3 ≤ m → m ≤ 1152921504606846976 → i + d = 4 → 0 ≤ i → 0 ≤ x → x * 32768 ^ d ≤ 1152921504606846976 - 32768 ^ d →
    ∃ v p', spec_l71Big.l0 k m x i l p = some (v, p') ∧ p ≤ p' ∧ p' ≤ p + d + 1 ∧ -m ≤ v ∧ v ≤ m := by
  induction d with
  | zero =>
    intro k l m x i p hk h h0 h1 hm hm1 hi i0 hx hx1
    obtain ⟨k, rfl⟩ : ∃ m, k = m + 1 := ⟨k - 1, by omega⟩
    simp only [spec_l71Big.l0]
    rw [if_neg (by omega)]
    obtain ⟨v, p', e, a, b, c, d⟩ := big_j1 k l m x p (by omega) h h0 (by omega) hm hm1 (by omega) (by omega)
    exact ⟨v, p', e, a, by omega, c, d⟩
  | succ d ih =>
    intro k l m x i p hk h h0 h1 hm hm1 hi i0 hx hx1
    obtain ⟨k, rfl⟩ : ∃ m, k = m + 1 := ⟨k - 1, by omega⟩
    simp only [spec_l71Big.l0]
    obtain ⟨v, e, v0, v1⟩ := pick_ex k l p 32768 (by omega) h h0 (by omega) (by omega) (by omega)
    have pw : (1 : Int) ≤ 32768 ^ d := Int.pow_pos (by omega)
    have y1 : (x * 32768 + v) * 32768 ^ d ≤ 1152921504606846976 - 32768 ^ d := by
      have e1 : x * 32768 ^ (d + 1) = x * 32768 * 32768 ^ d := by rw [Int.pow_succ, Int.mul_comm (32768 ^ d), Int.mul_assoc]
      have e2 : (32768 : Int) ^ (d + 1) = 32768 * 32768 ^ d := by rw [Int.pow_succ, Int.mul_comm]
      have q := Int.mul_le_mul_of_nonneg_right (show v ≤ 32767 by omega) (show 0 ≤ (32768 : Int) ^ d by omega)
      rw [e1, e2] at hx1
      rw [Int.add_mul]
      omega
    have y2 : x * 32768 + v ≤ 1152921504606846976 := by
      have q := Int.mul_le_mul_of_nonneg_left pw (show 0 ≤ x * 32768 + v by omega)
      omega
    rw [if_pos (by omega), e]
    simp only [Option.bind_some]
    rw [w64 (x := x * 32768) (by omega), w64 (x := x * 32768 + v) (by omega), w64 (x := i + 1) (by omega)]
    obtain ⟨v', p', e', a, b, c, d'⟩ := ih k l m (x * 32768 + v) (i + 1) (p + 1) (by omega) h (by omega) (by omega) hm hm1 (by omega) (by omega) (by omega) y1
    exact ⟨v', p', e', by omega, by omega, c, d'⟩
theorem big_ex (k : Nat) (l : List Int) (p m : Int) (hk : 10 ≤ k) (h : Rdr l) (h0 : 0 ≤ p) (h1 : p ≤ 80000) (hm : 3 ≤ m) (hm1 : m ≤ 1152921504606846976) :
    ∃ v p', spec_l71Big.f k l p m = some (v, p') ∧ p ≤ p' ∧ p' ≤ p + 10 ∧ -m ≤ v ∧ v ≤ m := by
  unfold spec_l71Big.f
  obtain ⟨v, e, v0, v1⟩ := pick_ex k l p 6 (by omega) h h0 (by omega) (by omega) (by omega)
  rw [e]; simp only [Option.bind_some]
  split
  · obtain ⟨v, e, v0, v1⟩ := pick_ex k l (p + 1) 7 (by omega) h (by omega) (by omega) (by omega) (by omega)
    rw [e]; simp only [Option.bind_some]
    rw [w64 (by omega)]
    obtain ⟨v, p', e, a, b, c, d⟩ := big_j1 k l m (v - 3) (p + 1 + 1) (by omega) h (by omega) (by omega) hm hm1 (by omega) (by omega)
    exact ⟨v, p', e, by omega, by omega, c, d⟩
  · split
    · obtain ⟨v, e, v0, v1⟩ := pick_ex k l (p + 1) 3 (by omega) h (by omega) (by omega) (by omega) (by omega)
      rw [e]; simp only [Option.bind_some]
      rw [w64 (by omega)]
      obtain ⟨v, p', e, a, b, c, d⟩ := big_j1 k l m (m - v) (p + 1 + 1) (by omega) h (by omega) (by omega) hm hm1 (by omega) (by omega)
      exact ⟨v, p', e, by omega, by omega, c, d⟩
    · split
      · obtain ⟨v, e, v0, v1⟩ := pick_ex k l (p + 1) 1048576 (by omega) h (by omega) (by omega) (by omega) (by omega)
        rw [e]; simp only [Option.bind_some]
        obtain ⟨v, p', e, a, b, c, d⟩ := big_j1 k l m v (p + 1 + 1) (by omega) h (by omega) (by omega) hm hm1 (by omega) (by omega)
        exact ⟨v, p', e, by omega, by omega, c, d⟩
      · obtain ⟨v, p', e, a, b, c, d⟩ := big_l0 4 k l m 0 0 (p + 1) (by omega) h (by omega) (by omega) hm hm1 (by omega) (by omega) (by omega) (by decide)
        exact ⟨v, p', e, by omega, by omega, c, d⟩
theorem ang_ex (k : Nat) (l : List Int) (p : Int) (hk : 10 ≤ k) (h : Rdr l) (h0 : 0 ≤ p) (h1 : p ≤ 70000) :
    ∃ v p', spec_l71Ang.f k l p = some (v, p') ∧ p ≤ p' ∧ p' ≤ p + 15 ∧ -300000000 ≤ v ∧ v ≤ 300000000 := by
  unfold spec_l71Ang.f
  obtain ⟨v, e, v0, v1⟩ := pick_ex k l p 6 (by omega) h h0 (by omega) (by omega) (by omega)
  rw [e]; simp only [Option.bind_some]
  split
  · obtain ⟨v, e, v0, v1⟩ := pick_ex k l (p + 1) 49 (by omega) h (by omega) (by omega) (by omega) (by omega)
    rw [e]; simp only [Option.bind_some]
    rw [w64 (x := v - 24) (by omega), w64 (x := (v - 24) * 32400000) (by omega)]
    have := AlMath.tdiv_bound ((v - 24) * 32400000) 6 1000000000 (by omega) (by omega) (by omega)
    have t : Int.tdiv ((v - 24) * 32400000) 6 = (v - 24) * 5400000 := by
      rw [show (v - 24) * 32400000 = (v - 24) * 5400000 * 6 by omega]; exact Int.mul_tdiv_cancel _ (by omega)
    rw [t, w64 (by omega)]
    exact ⟨_, _, rfl, by omega, by omega, by omega, by omega⟩
  · split
    · obtain ⟨v, e, v0, v1⟩ := pick_ex k l (p + 1) 721 (by omega) h (by omega) (by omega) (by omega) (by omega)
      rw [e]; simp only [Option.bind_some]
      rw [w64 (x := v - 360) (by omega), w64 (by omega)]
      exact ⟨_, _, rfl, by omega, by omega, by omega, by omega⟩
    · split
      · obtain ⟨v, e, v0, v1⟩ := pick_ex k l (p + 1) 13 (by omega) h (by omega) (by omega) (by omega) (by omega)
        rw [e]; simp only [Option.bind_some]
        obtain ⟨u, e, u0, u1⟩ := pick_ex k l (p + 1 + 1) 5 (by omega) h (by omega) (by omega) (by omega) (by omega)
        rw [e]; simp only [Option.bind_some]
        rw [w64 (x := v - 6) (by omega), w64 (x := (v - 6) * 32400000) (by omega), w64 (x := (v - 6) * 32400000 + u) (by omega), w64 (by omega)]
        exact ⟨_, _, rfl, by omega, by omega, by omega, by omega⟩
      · obtain ⟨v, p', e, a, b, c, d⟩ := big_ex k l (p + 1) 129600000 (by omega) h (by omega) (by omega) (by omega) (by omega)
        rw [e]; simp only [Option.bind_some]
        exact ⟨_, _, rfl, by omega, by omega, by omega, by omega⟩
theorem wide_ex (k : Nat) (l : List Int) (p : Int) (hk : 10 ≤ k) (h : Rdr l) (h0 : 0 ≤ p) (h1 : p ≤ 60000) :
    ∃ v p', spec_l71Wide.f k l p = some (v, p') ∧ p ≤ p' ∧ p' ≤ p + 20 ∧ -1000000000001 ≤ v ∧ v ≤ 1000000000001 := by
  unfold spec_l71Wide.f
  obtain ⟨v, e, v0, v1⟩ := pick_ex k l p 16 (by omega) h h0 (by omega) (by omega) (by omega)
  rw [e]; simp only [Option.bind_some]
  split
  · obtain ⟨v, p', e, a, b, c, d⟩ := big_ex k l (p + 1) 1000000000000 (by omega) h (by omega) (by omega) (by omega) (by omega)
    rw [e]; simp only [Option.bind_some]
    exact ⟨_, _, rfl, by omega, by omega, by omega, by omega⟩
  · split
    · obtain ⟨v, e, v0, v1⟩ := pick_ex k l (p + 1) 3 (by omega) h (by omega) (by omega) (by omega) (by omega)
      rw [e]; simp only [Option.bind_some]
      rw [if_pos v0, if_pos (by simp; omega)]
      refine ⟨_, _, rfl, by omega, by omega, ?_⟩
      have hv : v = 0 ∨ v = 1 ∨ v = 2 := by omega
      rcases hv with rfl | rfl | rfl <;> decide
    · obtain ⟨v, p', e, a, b, c, d⟩ := ang_ex k l (p + 1) hk h (by omega) (by omega)
      rw [e]; simp only [Option.bind_some]
      exact ⟨_, _, rfl, by omega, by omega, by omega, by omega⟩
theorem DrawArcOf_ex (k : Nat) (l : List Int) (hk : 10 ≤ k) (h : ∀ x ∈ l, (Lit.int .u8 x).wf = true) : ∃ v, spec_DrawArcOf.f k l = some v ∧ -1000000000001 ≤ v ∧ v ≤ 1000000000001 := by
  unfold spec_DrawArcOf.f
  obtain ⟨s, e, hs⟩ := spec_l6Open_ex l h
  rw [e]; simp only [Option.bind_some]
  obtain ⟨u, e, u0, u1⟩ := pick_ex k s 0 8 (by omega) hs (by omega) (by omega) (by omega) (by omega)
  rw [e]; simp only [Option.bind_some]
  split
  · obtain ⟨v, p', e, _, _, c, d⟩ := wide_ex k s (0 + 1) hk hs (by omega) (by omega)
    rw [e]; exact ⟨_, rfl, c, d⟩
  · obtain ⟨v, p', e, _, _, c, d⟩ := big_ex k s (0 + 1) 16200000 hk hs (by omega) (by omega) (by omega) (by omega)
    rw [e]; exact ⟨_, rfl, by omega, by omega⟩
theorem spec_l6In_eq (a l h : Int) : spec_l6In.f a l h = some (decide (l ≤ a ∧ a ≤ h)) := by
  unfold spec_l6In.f
  split
  · exact congrArg some (decide_eq_decide.2 (by omega))
  · exact congrArg some (decide_eq_false (by omega)).symm
theorem spec_l1Down_eq (a b : Int) (hb : 0 < b) (hb2 : b ≤ 4000000000000000000) (h1 : -4611686018427387904 ≤ a) (h2 : a ≤ 4611686018427387904) : spec_l1Down.f a b = some (a / b) := by
  unfold spec_l1Down.f
  have f := AlMath.fl_bound a b 4611686018427387904 hb h1 h2
  split
  · rename_i h
    rw [if_neg (by omega), Int.tdiv_eq_ediv_of_nonneg h, w64 (by omega)]
  · have k := AlMath.down_spec a b (by omega) hb
    rw [if_neg (by omega), w64 (x := -a) (by omega), w64 (x := -a + b) (by omega), w64 (x := -a + b - 1) (by omega)]
    rw [w64 (x := Int.tdiv (-a + b - 1) b) (by omega), w64 (by omega), k]
theorem spec_l1Up_eq (a b : Int) (hb : 0 < b) (hb2 : b ≤ 4000000000000000000) (h1 : -4611686018427387904 ≤ a) (h2 : a ≤ 4611686018427387904) : spec_l1Up.f a b = some (-(-a / b)) := by
  have t := AlMath.fl_bound (-a) b 4611686018427387904 hb (by omega) (by omega)
  unfold spec_l1Up.f
  rw [w64 (x := -a) (by omega), spec_l1Down_eq _ _ hb hb2 (by omega) (by omega)]
  simp only [Option.bind_some]
  rw [w64 (by omega)]
theorem spec_l12Arc_eq (h : Int) (h0 : 0 ≤ h) (h1 : h ≤ 1000000000) : spec_l12Arc.f h = some (arcP h) := by
  unfold spec_l12Arc.f
  rw [w64 (x := h * 785398163) (by omega), w64 (x := h * 785398164) (by omega), spec_l1Down_eq _ _ (by omega) (by omega) (by omega) (by omega), spec_l1Up_eq _ _ (by omega) (by omega) (by omega) (by omega)]
  rfl
theorem spec_SpanOk_eq (a b : Int) : spec_SpanOk.f a b = some (decide (Okay a b)) := by
  unfold spec_SpanOk.f
  rw [spec_l6In_eq, spec_l6In_eq]
  simp only [Option.bind_some, decide_eq_true_eq]
  by_cases h1 : -1073000000 ≤ a ∧ a ≤ 1073000000
  · rw [if_pos h1]; exact congrArg some (decide_eq_decide.2 (by unfold Okay; omega))
  · rw [if_neg h1]; exact congrArg some (decide_eq_false (by unfold Okay; omega)).symm
theorem spec_SpanNeg_eq (a b : Int) : spec_SpanNeg.f a b = if Okay a b then some (-b, -a) else some (0, 0) := by
  unfold spec_SpanNeg.f
  rw [spec_SpanOk_eq]
  simp only [Option.bind_some, decide_eq_true_eq]
  by_cases h : Okay a b
  · rw [if_pos h, if_pos h]; unfold Okay at h; rw [w64 (by omega), w64 (by omega)]
  · rw [if_neg h, if_neg h]
theorem spec_ArcOf_eq (a : Int) : spec_ArcOf.f a = some (arcOfP a) := by
  unfold spec_ArcOf.f arcOfP
  rw [spec_l6In_eq]
  simp only [Option.bind_some, decide_eq_true_eq]
  by_cases h : -16200000 ≤ a ∧ a ≤ 16200000
  · rw [if_pos h, if_pos h]
    by_cases c : a < 0
    · rw [if_pos c, if_pos c, w64 (x := -2 * a) (by omega), spec_l12Arc_eq _ (by omega) (by omega)]
      simp only [Option.bind_some]
      rw [spec_SpanNeg_eq, if_pos (arc_ok _ (by omega) (by omega))]; rfl
    · rw [if_neg c, if_neg c, w64 (x := 2 * a) (by omega), spec_l12Arc_eq _ (by omega) (by omega)]; rfl
  · rw [if_neg h, if_neg h]
--MATH
theorem FnArcOf : laws_FnArcOf.Pure := by
  intro l0 _ _ h0
  refine ⟨100, ?_⟩
  unfold laws_FnArcOf.f
  split
  · rfl
  · obtain ⟨v, e, v0, v1⟩ := DrawArcOf_ex 100 l0 (by omega) h0
    rw [e]; simp only [Option.bind_some]
    rw [spec_ArcOf_eq, impl_ArcOf_eq, show (100 : Nat) = 99 + 1 from rfl]
    by_cases o : -16200000 ≤ v ∧ v ≤ 16200000
    · by_cases n : v < 0
      · have q : arcOfP v = (-(arcP (-2 * v)).2, -(arcP (-2 * v)).1, true) := by unfold arcOfP; rw [if_pos o, if_pos n]
        rw [q]
        simp [laws_FnArcOf.j0, n]
      · have q : arcOfP v = ((arcP (2 * v)).1, (arcP (2 * v)).2, true) := by unfold arcOfP; rw [if_pos o, if_neg n]
        have ang : AngIn v := by unfold AngIn; omega
        have k := arc_ok (2 * v) (by omega) (by omega)
        have k' := k
        unfold Okay at k'
        have wd := arc_wide (2 * v) (by omega) (by omega)
        have q2 : arcOfP (-v) = (-(arcP (2 * v)).2, -(arcP (2 * v)).1, true) := by
          unfold arcOfP
          by_cases z : v = 0
          · subst z; decide +kernel
          · rw [if_pos (by omega), if_pos (by omega), show -2 * -v = 2 * v by omega]
        have L : (sineP (2 * v)).1 ≤ (arcP (2 * v)).2 ∧ (tanOk v → (arcP (2 * v)).1 ≤ (tanP v).2) := by
          by_cases z : v = 0
          · subst z; exact ⟨by decide +kernel, fun _ => by decide +kernel⟩
          · have l := arc_law (2 * v) (by omega) (by omega)
            exact ⟨l.1, fun h => l.2 h.2⟩
        rw [q]
        simp only [Option.bind_some, bne_self_eq_false, beq_self_eq_true, Bool.not_true, Bool.or_self, Bool.false_eq_true, if_false, if_true, decide_eq_false n, laws_FnArcOf.j0]
        rw [impl_SineOf_eq _ _ (by omega), toldP_pos _ _ ang, impl_TanOf_eq _ _ (by omega), w64 (x := -v) (by omega), impl_ArcOf_eq, q2, impl_SpanNeg_eq, if_pos k]
        simp only [Option.bind_some]
        rw [if_pos L.1, w64 (x := (arcP (2 * v)).2 - (arcP (2 * v)).1) (by omega), decide_eq_true wd.1]
        by_cases f : tanOk v
        · rw [toldP_pos _ _ f]
          simp only [if_true]
          rw [if_pos (L.2 f)]
          simp
        · rw [toldP_neg _ _ f]
          simp
    · have q : arcOfP v = (0, 0, false) := by unfold arcOfP; rw [if_neg o]
      rw [q]
      simp [laws_FnArcOf.j0]
end Go.Proofs.Ytalaiianaepcoaa.PureFnArcOf
