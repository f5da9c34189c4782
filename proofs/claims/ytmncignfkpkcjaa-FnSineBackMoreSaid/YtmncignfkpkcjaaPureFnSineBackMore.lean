/- The statement FnSineBackMore holds of what the Go functions compute. -/
import Derived.Test.YtmncignfkpkcjaaAlB
import Derived.Test.YtmncignfkpkcjaaSA
import Derived.Test.YtmncignfkpkcjaaSD
import Derived.Test.YtmncignfkpkcjaaSFspecl13Side
import Derived.Test.YtmncignfkpkcjaaSFspecl13Askless
import Derived.Test.YtmncignfkpkcjaaSFspecl13Askhalf
import Derived.Test.YtmncignfkpkcjaaSFspecSineBack
import Derived.Test.YtmncignfkpkcjaaSB
import Derived.Test.YtmncignfkpkcjaaSE
import Derived.Test.YtmncignfkpkcjaaSFimplisPart
import Derived.Test.YtmncignfkpkcjaaSC
import Derived.Test.YtmncignfkpkcjaaSFspecl71Sine
import Derived.Test.YtmncignfkpkcjaaSFspecDrawSineBack
import Derived.Test.YtmncignfkpkcjaaSBack
import Derived.Test.YtmncignfkpkcjaaSLawM
namespace Go.Proofs.Ytmncignfkpkcjaa.PureFnSineBackMore
open Go.RowKit AlMath Go.Proofs.Ytmncignfkpkcjaa.S Go.Proofs.YtmncignfkpkcjaaW.PrintWords Go.Proofs.YtmncignfkpkcjaaW.PrintLast
theorem w64 {x : Int} (h : -9223372036854775808 ≤ x ∧ x ≤ 9223372036854775807) : wrap64 x = x := by unfold wrap64; omega
theorem wf64 {x : Int} (h : (Lit.int .i64 x).wf = true) : -9223372036854775808 ≤ x ∧ x ≤ 9223372036854775807 := by
  simp [Lit.wf, IntKind.min, IntKind.max, IntKind.signed, IntKind.bits] at h; omega
theorem wf8 {x : Int} (h : (Lit.int .u8 x).wf = true) : 0 ≤ x ∧ x ≤ 255 := by
  simp [Lit.wf, IntKind.min, IntKind.max, IntKind.signed, IntKind.bits] at h; omega
theorem mx_eq (a b : Int) : mx a b = max a b := by unfold mx; omega
theorem mn_eq (a b : Int) : mn a b = min a b := by unfold mn; omega
theorem spec_l6In_eq (a l h : Int) : spec_l6In.f a l h = some (decide (l ≤ a ∧ a ≤ h)) := by
  unfold spec_l6In.f
  split
  · exact congrArg some (decide_eq_decide.2 (by omega))
  · exact congrArg some (decide_eq_false (by omega)).symm
theorem spec_l1Down_eq (a b : Int) (hb : 0 < b) (hb2 : b ≤ 4000000000000000000) (h1 : -4611686018427387904 ≤ a) (h2 : a ≤ 4611686018427387904) : spec_l1Down.f a b = some (a / b) := by
  unfold spec_l1Down.f
  have f := AlMath.fl_bound a b 4611686018427387904 hb h1 h2
  split
  · rename_i h
    rw [if_neg (by omega), Int.tdiv_eq_ediv_of_nonneg h, w64 (by omega)]
  · have k := AlMath.down_spec a b (by omega) hb
    rw [if_neg (by omega), w64 (x := -a) (by omega), w64 (x := -a + b) (by omega), w64 (x := -a + b - 1) (by omega)]
    rw [w64 (x := Int.tdiv (-a + b - 1) b) (by omega), w64 (by omega), k]
theorem spec_SpanOk_eq (a b : Int) : spec_SpanOk.f a b = some (decide (Okay a b)) := by
  unfold spec_SpanOk.f
  rw [spec_l6In_eq, spec_l6In_eq]
  simp only [Option.bind_some, decide_eq_true_eq]
  by_cases h1 : -1073000000 ≤ a ∧ a ≤ 1073000000
  · rw [if_pos h1]; exact congrArg some (decide_eq_decide.2 (by unfold Okay; omega))
  · rw [if_neg h1]; exact congrArg some (decide_eq_false (by unfold Okay; omega)).symm
theorem spec_SpanNeg_eq (a b : Int) : spec_SpanNeg.f a b = if Okay a b then some (-b, -a) else some (0, 0) := by
  unfold spec_SpanNeg.f
  rw [spec_SpanOk_eq]
  simp only [Option.bind_some, decide_eq_true_eq]
  by_cases h : Okay a b
  · rw [if_pos h, if_pos h]; unfold Okay at h; rw [w64 (by omega), w64 (by omega)]
  · rw [if_neg h, if_neg h]
theorem spec_l1Up_eq (a b : Int) (hb : 0 < b) (hb2 : b ≤ 4000000000000000000) (h1 : -4611686018427387904 ≤ a) (h2 : a ≤ 4611686018427387904) : spec_l1Up.f a b = some (-(-a / b)) := by
  have t := AlMath.fl_bound (-a) b 4611686018427387904 hb (by omega) (by omega)
  unfold spec_l1Up.f
  rw [w64 (x := -a) (by omega), spec_l1Down_eq _ _ hb hb2 (by omega) (by omega)]
  simp only [Option.bind_some]
  rw [w64 (by omega)]
theorem spec_l12Arc_eq (h : Int) (h0 : 0 ≤ h) (h1 : h ≤ 1000000000) : spec_l12Arc.f h = some (arcP h) := by
  unfold spec_l12Arc.f
  rw [w64 (x := h * 785398163) (by omega), w64 (x := h * 785398164) (by omega), spec_l1Down_eq _ _ (by omega) (by omega) (by omega) (by omega), spec_l1Up_eq _ _ (by omega) (by omega) (by omega) (by omega)]
  rfl
theorem spec_l12Times_eq (a b : Int) (up : Bool) (h0 : 0 ≤ a * b) (h1 : a * b ≤ 4000000000000000000) : spec_l12Times.f a b up = some (if up = true then -(-(a * b) / 1000000000) else a * b / 1000000000) := by
  unfold spec_l12Times.f
  rw [w64 (x := a * b) (by omega), spec_l1Up_eq _ _ (by omega) (by omega) (by omega) (by omega), spec_l1Down_eq _ _ (by omega) (by omega) (by omega) (by omega)]
  cases up <;> rfl
theorem spec_l12Over_eq (a b : Int) (up : Bool) (hb : 0 < b) (hb1 : b ≤ 1000000) (h0 : -4000000000000000000 ≤ a) (h1 : a ≤ 4000000000000000000) : spec_l12Over.f a b up = some (if up = true then -(-a / b) else a / b) := by
  unfold spec_l12Over.f
  rw [spec_l1Up_eq _ _ hb (by omega) (by omega) (by omega), spec_l1Down_eq _ _ hb (by omega) (by omega) (by omega)]
  cases up <;> rfl
theorem spec_l12Row_l0 (x lo hi : Int) (xx0 : 0 ≤ x * x) (xx1 : x * x ≤ 1000000000000000000) (elo : x * x / 1000000000 = lo) (ehi : -(-(x * x) / 1000000000) = hi) (d : Nat) :
    ∀ (k : Nat) (tk : Bool) (sl sh tl th n : Int), 3 * d + 3 ≤ k → 40 ≤ n + 2 * (d : Int) → 1 ≤ n → n + 2 * (d : Int) ≤ 60 → 0 ≤ tl → tl ≤ 1000000000 → 0 ≤ th → th ≤ 1000000000 →
      -1000000000000 + (d : Int) * 1000000000 ≤ sl → sl ≤ 1000000000000 - (d : Int) * 1000000000 → -1000000000000 + (d : Int) * 1000000000 ≤ sh → sh ≤ 1000000000000 - (d : Int) * 1000000000 →
      spec_l12Row.l0 k x n sl sh tl th tk = some (rowL lo hi d tk sl sh tl th n) := by
  have lo0 : 0 ≤ lo := by omega
  have lo1 : lo ≤ 1000000000 := by omega
  have hi0 : 0 ≤ hi := by omega
  have hi1 : hi ≤ 1000000000 := by omega
  induction d with
  | zero =>
    intro k tk sl sh tl th n hk h1 h2 h3 _ _ _ _ _ _ _ _
    obtain ⟨k, rfl⟩ : ∃ m, k = m + 2 := ⟨k - 2, by omega⟩
    simp only [spec_l12Row.l0, spec_l12Row.j1, rowL]
    by_cases e : th > 0
    · rw [if_pos e, if_neg (by simp; omega)]
    · rw [if_neg e]; simp
  | succ d ih =>
    intro k tk sl sh tl th n hk h1 h2 h3 tl0 tl1 th0 th1 s1 s2 s3 s4
    obtain ⟨k, rfl⟩ : ∃ m, k = m + 3 := ⟨k - 3, by omega⟩
    simp only [spec_l12Row.l0, spec_l12Row.j1, spec_l12Row.j2, rowL]
    by_cases e : th = 0
    · rw [if_neg (by omega), if_neg (by simp), if_neg (by simp [e])]
    · rw [if_pos (show th > 0 by omega)]
      by_cases c : n < 40
      · have m0 := Int.mul_nonneg tl0 lo0
        have m1 := Int.mul_le_mul tl1 lo1 lo0 (by omega)
        have m2 := Int.mul_nonneg th0 hi0
        have m3 := Int.mul_le_mul th1 hi1 hi0 (by omega)
        have q0 := Int.mul_le_mul (show n ≤ 60 by omega) (show n + 1 ≤ 61 by omega) (by omega) (by omega)
        have q1 := Int.mul_pos (show 0 < n by omega) (show 0 < n + 1 by omega)
        have B1 := tdn_bounds tl lo n tl0 lo0 lo1 h2
        have B2 := tup_bounds th hi n th0 hi0 hi1 h2
        have F1 := fl_bound (tl * lo) 1000000000 1000000000000000000 (by omega) (by omega) (by omega)
        have F2 := fl_bound (-(th * hi)) 1000000000 1000000000000000000 (by omega) (by omega) (by omega)
        rw [if_pos (decide_eq_true c), if_pos ⟨e, c⟩, w64 (x := n + 1) (by omega), w64 (x := n * (n + 1)) (by omega)]
        rw [spec_l12Times_eq x x false xx0 (by omega), spec_l12Times_eq x x true xx0 (by omega)]
        simp only [Option.bind_some, if_true, Bool.false_eq_true, if_false, elo, ehi]
        rw [spec_l12Times_eq tl lo false m0 (by omega), spec_l12Times_eq th hi true m2 (by omega)]
        simp only [Option.bind_some, if_true, Bool.false_eq_true, if_false]
        rw [spec_l12Over_eq _ _ false q1 (by omega) (by omega) (by omega), spec_l12Over_eq _ _ true q1 (by omega) (by omega) (by omega)]
        simp only [Option.bind_some, if_true, Bool.false_eq_true, if_false]
        have ea : tl * lo / 1000000000 / (n * (n + 1)) = tdn tl lo n := rfl
        have eb : -(-(-(-(th * hi) / 1000000000)) / (n * (n + 1))) = tup th hi n := rfl
        rw [ea, eb]
        have cont : (if tk = true then spec_l12Row.l0 k x (wrap64 (n + 2)) (wrap64 (sl - tup th hi n)) (wrap64 (sh - tdn tl lo n)) (tdn tl lo n) (tup th hi n) (!tk)
            else spec_l12Row.l0 k x (wrap64 (n + 2)) (wrap64 (sl + tdn tl lo n)) (wrap64 (sh + tup th hi n)) (tdn tl lo n) (tup th hi n) (!tk)) =
            some (if tk = true then rowL lo hi d false (sl - tup th hi n) (sh - tdn tl lo n) (tdn tl lo n) (tup th hi n) (n + 2)
              else rowL lo hi d true (sl + tdn tl lo n) (sh + tup th hi n) (tdn tl lo n) (tup th hi n) (n + 2)) := by
          rw [w64 (x := n + 2) (by omega), w64 (x := sl - tup th hi n) (by omega), w64 (x := sh - tdn tl lo n) (by omega), w64 (x := sl + tdn tl lo n) (by omega), w64 (x := sh + tup th hi n) (by omega)]
          cases tk with
          | true => exact ih k false _ _ _ _ _ (by omega) (by omega) (by omega) (by omega) B1.1 (by omega) B2.1 (by omega) (by omega) (by omega) (by omega) (by omega)
          | false => exact ih k true _ _ _ _ _ (by omega) (by omega) (by omega) (by omega) B1.1 (by omega) B2.1 (by omega) (by omega) (by omega) (by omega) (by omega)
        by_cases u : tup th hi n = 1
        · rw [if_pos u]
          by_cases y : tdn tl lo n = 0
          · rw [if_pos (by simp [y]), if_pos ⟨u, y⟩, w64 (by omega), w64 (by omega)]
          · rw [if_neg (by simp [y]), if_neg (c := tup th hi n = 1 ∧ tdn tl lo n = 0) (fun z => y z.2)]; exact cont
        · rw [if_neg u, if_neg (c := tup th hi n = 1 ∧ tdn tl lo n = 0) (fun z => u z.1)]; exact cont
      · rw [if_neg (by simp; omega), if_neg (fun z => c z.2)]
theorem spec_l12Row_eq (k : Nat) (first x n : Int) (hk : 70 ≤ k) (f0 : 0 ≤ first) (f1 : first ≤ 1000000000) (x0 : 0 ≤ x) (x1 : x ≤ 900000000) (hn : n = 1 ∨ n = 2) :
    spec_l12Row.f k first x n = some (rowP first x n) := by
  unfold spec_l12Row.f rowP
  have m0 := Int.mul_nonneg x0 x0
  have m1 := Int.mul_le_mul x1 x1 x0 (by omega)
  exact spec_l12Row_l0 x _ _ m0 (by omega) rfl rfl 21 k true _ _ _ _ _ (by omega) (by omega) (by omega) (by omega) f0 f1 f0 f1 (by omega) (by omega) (by omega) (by omega)
theorem arc_in (h : Int) (h0 : 0 ≤ h) (h1 : h ≤ 32400000) : (0 ≤ (arcP h).1 ∧ (arcP h).1 ≤ 900000000) ∧ 0 ≤ (arcP h).2 ∧ (arcP h).2 ≤ 900000000 := by
  unfold arcP; simp only; omega
theorem spec_l12Small_eq (k : Nat) (h : Int) (hk : 70 ≤ k) (h0 : 0 ≤ h) (h1 : h ≤ 32400000) : spec_l12Small.f k h = some (smallP h) := by
  obtain ⟨a, b⟩ := arc_in h h0 h1
  unfold spec_l12Small.f
  rw [spec_l12Arc_eq h h0 (by omega)]
  simp only [Option.bind_some]
  rw [spec_l12Row_eq _ _ _ _ hk a.1 (by omega) a.1 a.2 (.inr rfl), spec_l12Row_eq _ _ _ _ hk b.1 (by omega) b.1 b.2 (.inr rfl)]
  simp only [Option.bind_some]
  rw [mx_eq, Int.max_comm, smallP_def]
theorem spec_l12Near_eq (k : Nat) (h : Int) (hk : 70 ≤ k) (h0 : 0 ≤ h) (h1 : h ≤ 32400000) : spec_l12Near.f k h = some (nearP h) := by
  obtain ⟨a, b⟩ := arc_in h h0 h1
  unfold spec_l12Near.f
  rw [spec_l12Arc_eq h h0 (by omega)]
  simp only [Option.bind_some]
  rw [spec_l12Row_eq _ _ _ _ hk (by omega) (by omega) a.1 a.2 (.inl rfl), spec_l12Row_eq _ _ _ _ hk (by omega) (by omega) b.1 b.2 (.inl rfl)]
  simp only [Option.bind_some]
  rw [mn_eq, Int.min_comm, nearP_def]
theorem spec_l12Quart_eq (k : Nat) (h : Int) (hk : 70 ≤ k) (h0 : 0 ≤ h) (h1 : h ≤ 64800000) : spec_l12Quart.f k h = some (quartP h) := by
  unfold spec_l12Quart.f quartP
  by_cases c0 : h = 0
  · rw [if_pos c0, if_pos c0]
  · rw [if_neg c0, if_neg c0]
    by_cases c1 : h = 21600000
    · rw [if_pos c1, if_pos c1]
    · rw [if_neg c1, if_neg c1]
      by_cases c2 : h = 64800000
      · rw [if_pos c2, if_pos c2]
      · rw [if_neg c2, if_neg c2]
        by_cases c3 : h ≤ 32400000
        · rw [if_pos c3, if_pos c3, spec_l12Small_eq k h hk h0 c3]; rfl
        · rw [if_neg c3, if_neg c3, w64 (by omega), spec_l12Near_eq k _ hk (by omega) (by omega)]; rfl
theorem spec_l12Sine_half (k : Nat) (h : Int) (hk : 71 ≤ k) (h0 : 0 ≤ h) (h1 : h < 129600000) : spec_l12Sine.f k h = some (halfP h) := by
  obtain ⟨k, rfl⟩ : ∃ m, k = m + 1 := ⟨k - 1, by omega⟩
  simp only [spec_l12Sine.f]
  rw [spec_l1Down_eq _ _ (by omega) (by omega) (by omega) (by omega)]
  simp only [Option.bind_some]
  rw [w64 (x := h / 259200000 * 259200000) (by omega), w64 (x := h - h / 259200000 * 259200000) (by omega), show h - h / 259200000 * 259200000 = h by omega, if_neg (by omega)]
  unfold halfP
  by_cases c : h > 64800000
  · rw [if_pos c, if_pos c, w64 (by omega), spec_l12Quart_eq k _ (by omega) (by omega) (by omega)]; rfl
  · rw [if_neg c, if_neg c, spec_l12Quart_eq k _ (by omega) h0 (by omega)]; rfl
theorem spec_l12Sine_eq (k : Nat) (h : Int) (hk : 72 ≤ k) (h0 : -1152921504606846976 ≤ h) (h1 : h ≤ 1152921504606846976) : spec_l12Sine.f k h = some (sineP h) := by
  obtain ⟨k, rfl⟩ : ∃ m, k = m + 1 := ⟨k - 1, by omega⟩
  simp only [spec_l12Sine.f]
  rw [spec_l1Down_eq _ _ (by omega) (by omega) (by omega) (by omega)]
  simp only [Option.bind_some]
  rw [w64 (x := h / 259200000 * 259200000) (by omega), w64 (x := h - h / 259200000 * 259200000) (by omega), show h - h / 259200000 * 259200000 = h % 259200000 by omega]
  unfold sineP
  have r0 : 0 ≤ h % 259200000 := by omega
  have r1 : h % 259200000 < 259200000 := by omega
  generalize h % 259200000 = r at *
  by_cases c : r ≥ 129600000
  · have o := halfP_ok (r - 129600000) (by omega) (by omega)
    rw [if_pos c, if_pos c, w64 (by omega), spec_l12Sine_half k _ (by omega) (by omega) (by omega)]
    simp only [Option.bind_some]
    rw [spec_SpanNeg_eq, if_pos (by unfold Okay; omega)]
    rfl
  · rw [if_neg c, if_neg c]
    unfold halfP
    by_cases d : r > 64800000
    · rw [if_pos d, if_pos d, w64 (by omega), spec_l12Quart_eq k _ (by omega) (by omega) (by omega)]; rfl
    · rw [if_neg d, if_neg d, spec_l12Quart_eq k _ (by omega) (by omega) (by omega)]; rfl
theorem prod_small (u c : Int) (u0 : 0 ≤ u) (u1 : u ≤ 1000000000) (c0 : -1000000000 ≤ c) (c1 : c ≤ 1000000000) : -1000000000000000000 ≤ u * c ∧ u * c ≤ 1000000000000000000 := by
  have a := Int.mul_nonneg u0 (show 0 ≤ 1000000000 - c by omega)
  have b := Int.mul_nonneg u0 (show 0 ≤ 1000000000 + c by omega)
  rw [Int.mul_sub] at a
  rw [Int.mul_add] at b
  omega
theorem spec_l13Side_eq (k : Nat) (u v a : Int) (hk : 73 ≤ k) (u0 : 0 ≤ u) (u1 : u ≤ 1000000000) (v0 : 0 ≤ v) (v1 : v ≤ 1000000000) (a0 : -32400000 ≤ a) (a1 : a ≤ 32400000) :
    spec_l13Side.f k u v a = some (if wrap64 (wayM1 u a - wayM2 v a) ≥ 0 then 1 else if wrap64 (wayM3 u a - wayM4 v a) ≤ 0 then -1 else 0) := by
  have s := sineP_ok (2 * a)
  have c := sineP_ok (2 * a + 64800000)
  have p1 := prod_small u (sineP (2 * a + 64800000)).1 u0 u1 (by omega) (by omega)
  have p2 := prod_small v (sineP (2 * a)).2 v0 v1 (by omega) (by omega)
  have p3 := prod_small u (sineP (2 * a + 64800000)).2 u0 u1 (by omega) (by omega)
  have p4 := prod_small v (sineP (2 * a)).1 v0 v1 (by omega) (by omega)
  unfold spec_l13Side.f
  rw [w64 (x := 2 * a) (by omega), w64 (x := 2 * a + 64800000) (by omega), spec_l12Sine_eq k _ (by omega) (by omega) (by omega), spec_l12Sine_eq k _ (by omega) (by omega) (by omega)]
  simp only [Option.bind_some]
  rw [w64 (x := u * (sineP (2 * a + 64800000)).1) (by omega), w64 (x := v * (sineP (2 * a)).2) (by omega), w64 (x := u * (sineP (2 * a + 64800000)).2) (by omega), w64 (x := v * (sineP (2 * a)).1) (by omega)]
  rw [spec_l1Down_eq _ _ (by decide) (by decide) (by omega) (by omega), spec_l1Up_eq _ _ (by decide) (by decide) (by omega) (by omega), spec_l1Up_eq _ _ (by decide) (by decide) (by omega) (by omega), spec_l1Down_eq _ _ (by decide) (by decide) (by omega) (by omega)]
  simp only [Option.bind_some]
  unfold wayM1 wayM2 wayM3 wayM4
  split
  · rfl
  · split <;> rfl
theorem spec_l13Ask_less_low (k : Nat) (num a : Int) (hk : 73 ≤ k) (a0 : -32400000 ≤ a) (a1 : a ≤ 32400000) : spec_l13Ask_less.f k true num 0 0 false a = some (decide ((sineP (2 * a)).2 ≤ num)) := by
  unfold spec_l13Ask_less.f
  rw [if_pos rfl, w64 (x := 2 * a) (by omega), spec_l12Sine_eq k _ (by omega) (by omega) (by omega)]
  rfl
theorem spec_l13Ask_less_high (k : Nat) (num a : Int) (hk : 73 ≤ k) (a0 : -32400000 ≤ a) (a1 : a ≤ 32400000) : spec_l13Ask_less.f k true num 0 0 true a = some (decide ((sineP (2 * a)).1 < num)) := by
  unfold spec_l13Ask_less.f
  rw [if_pos rfl, w64 (x := 2 * a) (by omega), spec_l12Sine_eq k _ (by omega) (by omega) (by omega)]
  rfl
theorem spec_l13Ask_less_q (k : Nat) (u v a : Int) (hk : 73 ≤ k) (u0 : 0 ≤ u) (u1 : u ≤ 1000000000) (v0 : 0 ≤ v) (v1 : v ≤ 1000000000) (a0 : -32400000 ≤ a) (a1 : a ≤ 32400000) :
    spec_l13Ask_less.f k false 0 u v false a = some (decide (0 ≤ wrap64 (wayM1 u a - wayM2 v a))) := by
  unfold spec_l13Ask_less.f
  rw [if_neg (by decide), spec_l13Side_eq k u v a hk u0 u1 v0 v1 a0 a1]
  simp only [Option.bind_some]
  by_cases q : wrap64 (wayM1 u a - wayM2 v a) ≥ 0
  · rw [if_pos q, decide_eq_true (show 0 ≤ wrap64 (wayM1 u a - wayM2 v a) from q)]; rfl
  · rw [if_neg q, decide_eq_false (show ¬ 0 ≤ wrap64 (wayM1 u a - wayM2 v a) from q)]
    by_cases r : wrap64 (wayM3 u a - wayM4 v a) ≤ 0
    · rw [if_pos r]; rfl
    · rw [if_neg r]; rfl
theorem spec_l13Ask_less_r (k : Nat) (u v a : Int) (hk : 73 ≤ k) (u0 : 0 ≤ u) (u1 : u ≤ 1000000000) (v0 : 0 ≤ v) (v1 : v ≤ 1000000000) (a0 : -32400000 ≤ a) (a1 : a ≤ 32400000) :
    spec_l13Ask_less.f k false 0 u v true a = some (!(!decide (0 ≤ wrap64 (wayM1 u a - wayM2 v a)) && decide (wrap64 (wayM3 u a - wayM4 v a) ≤ 0))) := by
  unfold spec_l13Ask_less.f
  rw [if_neg (by decide), spec_l13Side_eq k u v a hk u0 u1 v0 v1 a0 a1]
  simp only [Option.bind_some]
  by_cases q : wrap64 (wayM1 u a - wayM2 v a) ≥ 0
  · rw [if_pos q, decide_eq_true (show 0 ≤ wrap64 (wayM1 u a - wayM2 v a) from q)]; rfl
  · rw [if_neg q, decide_eq_false (show ¬ 0 ≤ wrap64 (wayM1 u a - wayM2 v a) from q)]
    by_cases r : wrap64 (wayM3 u a - wayM4 v a) ≤ 0
    · rw [if_pos r, decide_eq_true r]; rfl
    · rw [if_neg r, decide_eq_false r]; rfl
theorem half_l0 (s : Bool) (num u v : Int) (small : Bool) (q : Int → Bool) (hq : ∀ k a, 73 ≤ k → -32400000 ≤ a → a ≤ 32400000 → spec_l13Ask_less.f k s num u v small a = some (q a)) :
    ∀ n k lo hi, 74 + n ≤ k → -32400000 ≤ lo → lo ≤ hi → hi ≤ 32400000 → hi - lo ≤ 2 ^ n → spec_l13Ask_half.l0 k lo hi s num u v small = some (halveL q n lo hi) := by
  intro n
  induction n with
  | zero =>
    intro k lo hi hk h0 h1 h2 hw
    obtain ⟨k, rfl⟩ : ∃ m, k = m + 1 := ⟨k - 1, by omega⟩
    rw [Int.pow_zero] at hw
    simp only [spec_l13Ask_half.l0]
    rw [w64 (x := hi - lo) (by omega), if_neg (by omega), halveL_end _ _ _ _ (by omega)]
  | succ n ih =>
    intro k lo hi hk h0 h1 h2 hw
    obtain ⟨k, rfl⟩ : ∃ m, k = m + 1 := ⟨k - 1, by omega⟩
    rw [Int.pow_succ] at hw
    simp only [spec_l13Ask_half.l0]
    rw [w64 (x := hi - lo) (by omega)]
    by_cases c : hi - lo > 1
    · rw [if_pos c, w64 (x := lo + hi) (by omega), spec_l1Down_eq _ _ (by decide) (by decide) (by omega) (by omega), halveL_go q n lo hi c]
      simp only [Option.bind_some]
      rw [hq k _ (by omega) (by omega) (by omega)]
      simp only [Option.bind_some]
      generalize (2 : Int) ^ n = P at *
      cases q ((lo + hi) / 2) with
      | true => rw [if_pos rfl, if_pos rfl]; exact ih k _ _ (by omega) (by omega) (by omega) h2 (by omega)
      | false => rw [if_neg (by decide), if_neg (by decide)]; exact ih k _ _ (by omega) h0 (by omega) (by omega) (by omega)
    · rw [if_neg c, halveL_end _ _ _ _ c]
/-- the rounds of the halving. -/
theorem rounds26 : (64800000 : Int) ≤ 2 ^ 26 := by decide
theorem spec_SineBack_yes (num : Int) (h : -1000000000 ≤ num ∧ num ≤ 1000000000) : spec_SineBack.f 200 num = some (backLow 26 num, backHigh 26 num, true) := by
  unfold spec_SineBack.f
  rw [spec_l6In_eq, decide_eq_true h]
  simp only [Option.bind_some, if_true]
  unfold spec_l13Ask_half.f
  rw [half_l0 true num 0 0 false _ (fun k a hk a0 a1 => spec_l13Ask_less_low k num a hk a0 a1) 26 200 _ _ (by decide) (by decide) (by decide) (by decide) (by decide)]
  rw [half_l0 true num 0 0 true _ (fun k a hk a0 a1 => spec_l13Ask_less_high k num a hk a0 a1) 26 200 _ _ (by decide) (by decide) (by decide) (by decide) (by decide)]
  rfl
theorem spec_SineBack_no (num : Int) (h : ¬ (-1000000000 ≤ num ∧ num ≤ 1000000000)) : spec_SineBack.f 200 num = some (0, 0, false) := by
  unfold spec_SineBack.f
  rw [spec_l6In_eq, decide_eq_false h]
  simp only [Option.bind_some, Bool.false_eq_true, if_false]
theorem impl_down_eq (a b : Int) (hb : 0 < b) (h1 : -4611686018427387904 ≤ a) (h2 : a ≤ 4611686018427387904) : impl_down.f a b = some (a / b) := by
  have t := AlMath.tdiv_bound a b 4611686018427387904 hb h1 h2
  unfold impl_down.f
  rw [if_neg (by omega), w64 (x := Int.tdiv a b) (by omega), w64 (x := Int.tdiv a b - 1) (by omega), ← AlMath.down_go a b hb]
  split <;> rfl
theorem impl_modulo_eq (a b : Int) (hb : 0 < b) (h1 : -1152921504606846976 ≤ a) (h2 : a ≤ 1152921504606846976) (hb2 : b ≤ 1152921504606846976) : impl_modulo.f a b = some (a % b) := by
  unfold impl_modulo.f
  rw [impl_down_eq _ _ hb (by omega) (by omega)]
  simp only [Option.bind_some]
  have e := Int.mul_ediv_add_emod a b
  have r0 := Int.emod_nonneg a (by omega : b ≠ 0)
  have r1 := Int.emod_lt_of_pos a hb
  rw [Int.mul_comm b] at e
  rw [w64 (x := a / b * b) (by omega), w64 (by omega)]
  congr 1; omega
theorem impl_in_eq (a l h : Int) : impl_in.f a l h = some (decide (l ≤ a ∧ a ≤ h)) := by
  unfold impl_in.f
  split
  · exact congrArg some (decide_eq_decide.2 (by omega))
  · exact congrArg some (decide_eq_false (by omega)).symm
theorem impl_SpanOk_eq (a b : Int) : impl_SpanOk.f a b = some (decide (Okay a b)) := by
  unfold impl_SpanOk.f
  rw [impl_in_eq, impl_in_eq]
  simp only [Option.bind_some, decide_eq_true_eq]
  by_cases h1 : -1073000000 ≤ a ∧ a ≤ 1073000000
  · by_cases h2 : -1073000000 ≤ b ∧ b ≤ 1073000000
    · rw [if_pos h1, if_pos h2]; exact congrArg some (decide_eq_decide.2 (by unfold Okay; omega))
    · rw [if_pos h1, if_neg h2]; exact congrArg some (decide_eq_false (by unfold Okay; omega)).symm
  · rw [if_neg h1]; exact congrArg some (decide_eq_false (by unfold Okay; omega)).symm
theorem impl_SpanNeg_eq (a b : Int) : impl_SpanNeg.f a b = if Okay a b then some (-b, -a) else some (0, 0) := by
  unfold impl_SpanNeg.f
  rw [impl_SpanOk_eq]
  simp only [Option.bind_some, decide_eq_true_eq]
  by_cases h : Okay a b
  · rw [if_pos h, if_pos h]; unfold Okay at h; rw [w64 (by omega), w64 (by omega)]
  · rw [if_neg h, if_neg h]
theorem impl_up_eq (a b : Int) (hb : 0 < b) (h1 : -4611686018427387904 ≤ a) (h2 : a ≤ 4611686018427387904) : impl_up.f a b = some (-(-a / b)) := by
  have t := AlMath.fl_bound (-a) b 4611686018427387904 hb (by omega) (by omega)
  unfold impl_up.f
  rw [w64 (x := -a) (by omega), impl_down_eq _ _ hb (by omega) (by omega)]
  simp only [Option.bind_some]
  rw [w64 (by omega)]
theorem impl_arc_eq (h : Int) (h0 : 0 ≤ h) (h1 : h ≤ 1000000000) : impl_arc.f h = some (arcP h) := by
  unfold impl_arc.f
  rw [w64 (x := h * 785398163) (by omega), w64 (x := h * 785398164) (by omega), impl_down_eq _ _ (by omega) (by omega) (by omega), impl_up_eq _ _ (by omega) (by omega) (by omega)]
  rfl
theorem impl_row_l0 (lo hi : Int) (lo0 : 0 ≤ lo) (lo1 : lo ≤ 1000000000) (hi0 : 0 ≤ hi) (hi1 : hi ≤ 1000000000) (d : Nat) :
    ∀ (k : Nat) (tk : Bool) (sl sh tl th n : Int), 3 * d + 3 ≤ k → 40 ≤ n + 2 * (d : Int) → 1 ≤ n → n + 2 * (d : Int) ≤ 60 → 0 ≤ tl → tl ≤ 1000000000 → 0 ≤ th → th ≤ 1000000000 →
      -1000000000000 + (d : Int) * 1000000000 ≤ sl → sl ≤ 1000000000000 - (d : Int) * 1000000000 → -1000000000000 + (d : Int) * 1000000000 ≤ sh → sh ≤ 1000000000000 - (d : Int) * 1000000000 →
      impl_row.l0 k n lo hi tk sl sh tl th = some (rowL lo hi d tk sl sh tl th n) := by
  induction d with
  | zero =>
    intro k tk sl sh tl th n hk h1 h2 h3 _ _ _ _ _ _ _ _
    obtain ⟨k, rfl⟩ : ∃ m, k = m + 2 := ⟨k - 2, by omega⟩
    simp only [impl_row.l0, impl_row.j1, rowL]
    by_cases e : th = 0
    · rw [if_pos e]; simp
    · rw [if_neg e, if_neg (by simp; omega)]
  | succ d ih =>
    intro k tk sl sh tl th n hk h1 h2 h3 tl0 tl1 th0 th1 s1 s2 s3 s4
    obtain ⟨k, rfl⟩ : ∃ m, k = m + 3 := ⟨k - 3, by omega⟩
    simp only [impl_row.l0, impl_row.j1, impl_row.j2, rowL]
    by_cases e : th = 0
    · rw [if_pos e, if_neg (by simp), if_neg (by simp [e])]
    · rw [if_neg e]
      by_cases c : n < 40
      · have m0 := Int.mul_nonneg tl0 lo0
        have m1 := Int.mul_le_mul tl1 lo1 lo0 (by omega)
        have m2 := Int.mul_nonneg th0 hi0
        have m3 := Int.mul_le_mul th1 hi1 hi0 (by omega)
        have q0 := Int.mul_le_mul (show n ≤ 60 by omega) (show n + 1 ≤ 61 by omega) (by omega) (by omega)
        have q1 := Int.mul_pos (show 0 < n by omega) (show 0 < n + 1 by omega)
        have B1 := tdn_bounds tl lo n tl0 lo0 lo1 h2
        have B2 := tup_bounds th hi n th0 hi0 hi1 h2
        rw [if_pos (decide_eq_true c), if_pos ⟨e, c⟩, w64 (x := n + 1) (by omega), w64 (x := n * (n + 1)) (by omega), w64 (x := tl * lo) (by omega), w64 (x := th * hi) (by omega)]
        rw [impl_down_eq _ _ (by omega) (by omega) (by omega), impl_up_eq _ _ (by omega) (by omega) (by omega)]
        simp only [Option.bind_some]
        have F1 := fl_bound (tl * lo) 1000000000 1000000000000000000 (by omega) (by omega) (by omega)
        have F2 := fl_bound (-(th * hi)) 1000000000 1000000000000000000 (by omega) (by omega) (by omega)
        rw [impl_down_eq _ _ q1 (by omega) (by omega), impl_up_eq _ _ q1 (by omega) (by omega)]
        simp only [Option.bind_some]
        change (if tup th hi n = 1 then _ else _) = _
        have ea : tl * lo / 1000000000 / (n * (n + 1)) = tdn tl lo n := rfl
        have eb : -(-(-(-(th * hi) / 1000000000)) / (n * (n + 1))) = tup th hi n := rfl
        rw [ea, eb]
        have cont : (if tk = true then impl_row.l0 k (wrap64 (n + 2)) lo hi (!tk) (wrap64 (sl - tup th hi n)) (wrap64 (sh - tdn tl lo n)) (tdn tl lo n) (tup th hi n)
            else impl_row.l0 k (wrap64 (n + 2)) lo hi (!tk) (wrap64 (sl + tdn tl lo n)) (wrap64 (sh + tup th hi n)) (tdn tl lo n) (tup th hi n)) =
            some (if tk = true then rowL lo hi d false (sl - tup th hi n) (sh - tdn tl lo n) (tdn tl lo n) (tup th hi n) (n + 2)
              else rowL lo hi d true (sl + tdn tl lo n) (sh + tup th hi n) (tdn tl lo n) (tup th hi n) (n + 2)) := by
          rw [w64 (x := n + 2) (by omega), w64 (x := sl - tup th hi n) (by omega), w64 (x := sh - tdn tl lo n) (by omega), w64 (x := sl + tdn tl lo n) (by omega), w64 (x := sh + tup th hi n) (by omega)]
          cases tk with
          | true => exact ih k false _ _ _ _ _ (by omega) (by omega) (by omega) (by omega) B1.1 (by omega) B2.1 (by omega) (by omega) (by omega) (by omega) (by omega)
          | false => exact ih k true _ _ _ _ _ (by omega) (by omega) (by omega) (by omega) B1.1 (by omega) B2.1 (by omega) (by omega) (by omega) (by omega) (by omega)
        by_cases x : tup th hi n = 1
        · rw [if_pos x]
          by_cases y : tdn tl lo n = 0
          · rw [if_pos (by simp [y]), if_pos ⟨x, y⟩, w64 (by omega), w64 (by omega)]
          · rw [if_neg (by simp [y]), if_neg (c := tup th hi n = 1 ∧ tdn tl lo n = 0) (fun z => y z.2)]; exact cont
        · rw [if_neg x, if_neg (by decide), if_neg (c := tup th hi n = 1 ∧ tdn tl lo n = 0) (fun z => x z.1)]; exact cont
      · rw [if_neg (by simp; omega), if_neg (fun z => c z.2)]
theorem impl_row_eq (k : Nat) (first x n : Int) (hk : 70 ≤ k) (f0 : 0 ≤ first) (f1 : first ≤ 1000000000) (x0 : 0 ≤ x) (x1 : x ≤ 900000000) (hn : n = 1 ∨ n = 2) :
    impl_row.f k first x n = some (rowP first x n) := by
  unfold impl_row.f rowP
  have m0 := Int.mul_nonneg x0 x0
  have m1 := Int.mul_le_mul x1 x1 x0 (by omega)
  rw [w64 (x := x * x) (by omega), impl_down_eq _ _ (by omega) (by omega) (by omega), impl_up_eq _ _ (by omega) (by omega) (by omega)]
  simp only [Option.bind_some]
  exact impl_row_l0 _ _ (by omega) (by omega) (by omega) (by omega) 21 k true _ _ _ _ _ (by omega) (by omega) (by omega) (by omega) f0 f1 f0 f1 (by omega) (by omega) (by omega) (by omega)
theorem arc_in' (h : Int) (h0 : 0 ≤ h) (h1 : h ≤ 32400000) : (0 ≤ (arcP h).1 ∧ (arcP h).1 ≤ 900000000) ∧ 0 ≤ (arcP h).2 ∧ (arcP h).2 ≤ 900000000 := by
  unfold arcP; simp only; omega
theorem impl_sine_quart (k : Nat) (h : Int) (hk : 71 ≤ k) (h0 : 0 ≤ h) (h1 : h ≤ 64800000) : impl_sine.f k h = some (quartP h) := by
  obtain ⟨k, rfl⟩ : ∃ m, k = m + 1 := ⟨k - 1, by omega⟩
  simp only [impl_sine.f]
  rw [impl_modulo_eq _ _ (by omega) (by omega) (by omega) (by omega), show h % 259200000 = h by omega]
  simp only [Option.bind_some]
  rw [if_neg (by omega), if_neg (by omega)]
  unfold quartP
  by_cases c0 : h = 0
  · rw [if_pos c0, if_pos c0]
  · rw [if_neg c0, if_neg c0]
    by_cases c1 : h = 21600000
    · rw [if_pos c1, if_pos c1]
    · rw [if_neg c1, if_neg c1]
      by_cases c2 : h = 64800000
      · rw [if_pos c2, if_pos c2]
      · rw [if_neg c2, if_neg c2]
        by_cases c3 : h ≤ 32400000
        · obtain ⟨a, b⟩ := arc_in' h h0 c3
          rw [if_pos c3, if_pos c3, impl_arc_eq h h0 (by omega)]
          simp only [Option.bind_some]
          rw [impl_row_eq _ _ _ _ (by omega) a.1 (by omega) a.1 a.2 (.inr rfl), impl_row_eq _ _ _ _ (by omega) b.1 (by omega) b.1 b.2 (.inr rfl)]
          simp only [Option.bind_some]
          rw [mx_eq, smallP_def]
        · obtain ⟨a, b⟩ := arc_in' (64800000 - h) (by omega) (by omega)
          rw [if_neg c3, if_neg c3, w64 (by omega), impl_arc_eq _ (by omega) (by omega)]
          simp only [Option.bind_some]
          rw [impl_row_eq _ _ _ _ (by omega) (by omega) (by omega) b.1 b.2 (.inl rfl), impl_row_eq _ _ _ _ (by omega) (by omega) (by omega) a.1 a.2 (.inl rfl)]
          simp only [Option.bind_some]
          rw [mn_eq, nearP_def]
theorem impl_sine_half (k : Nat) (h : Int) (hk : 72 ≤ k) (h0 : 0 ≤ h) (h1 : h < 129600000) : impl_sine.f k h = some (halfP h) := by
  unfold halfP
  by_cases c : h > 64800000
  · obtain ⟨k, rfl⟩ : ∃ m, k = m + 1 := ⟨k - 1, by omega⟩
    simp only [impl_sine.f]
    rw [impl_modulo_eq _ _ (by omega) (by omega) (by omega) (by omega), show h % 259200000 = h by omega]
    simp only [Option.bind_some]
    rw [if_neg (by omega), if_pos c, if_pos c, w64 (by omega), impl_sine_quart k _ (by omega) (by omega) (by omega)]; rfl
  · rw [if_neg c, impl_sine_quart k _ (by omega) h0 (by omega)]
theorem impl_sine_eq (k : Nat) (h : Int) (hk : 73 ≤ k) (h0 : -1152921504606846976 ≤ h) (h1 : h ≤ 1152921504606846976) : impl_sine.f k h = some (sineP h) := by
  unfold sineP
  have m := impl_modulo_eq h 259200000 (by omega) h0 h1 (by omega)
  have r0 : 0 ≤ h % 259200000 := by omega
  have r1 : h % 259200000 < 259200000 := by omega
  by_cases c : h % 259200000 ≥ 129600000
  · obtain ⟨k, rfl⟩ : ∃ m, k = m + 1 := ⟨k - 1, by omega⟩
    have o := halfP_ok (h % 259200000 - 129600000) (by omega) (by omega)
    simp only [impl_sine.f]
    rw [m]
    simp only [Option.bind_some]
    rw [if_pos c, if_pos c, w64 (by omega), impl_sine_half k _ (by omega) (by omega) (by omega)]
    simp only [Option.bind_some]
    rw [impl_SpanNeg_eq, if_pos (by unfold Okay; omega)]
    rfl
  · rw [if_neg c]
    have e := impl_sine_half k (h % 259200000) (by omega) (by omega) (by omega)
    rw [← e]
    obtain ⟨k, rfl⟩ : ∃ m, k = m + 1 := ⟨k - 1, by omega⟩
    simp only [impl_sine.f]
    rw [m, impl_modulo_eq (h % 259200000) _ (by omega) (by omega) (by omega) (by omega), show h % 259200000 % 259200000 = h % 259200000 by omega]
theorem impl_isPart_eq (a : Int) : impl_isPart.f a = some (decide (-1000000000 ≤ a ∧ a ≤ 1000000000)) := by
  unfold impl_isPart.f; rw [impl_in_eq]; rfl
/-- what a reader reads. -/
def Rdr (l : List Int) : Prop := (∀ x ∈ l, 0 ≤ x ∧ x ≤ 255) ∧ l.length ≤ 2000
theorem Rdr.at_ {l : List Int} (h : Rdr l) (i : Int) : 0 ≤ rd l i ∧ rd l i ≤ 255 := by
  unfold rd
  rw [List.getD_eq_getElem?_getD]
  cases e : l[i.toNat]? with
  | none => simp
  | some v => simp; exact h.1 v (List.mem_of_getElem? e)
theorem spec_l6Open_ex (l : List Int) (h : ∀ x ∈ l, (Lit.int .u8 x).wf = true) : ∃ s, spec_l6Open.f l = some (s, 0) ∧ Rdr s := by
  unfold spec_l6Open.f
  split
  · rw [if_pos (by omega)]
    exact ⟨_, rfl, fun x hx => wf8 (h x (List.mem_of_mem_take hx)), by simp; omega⟩
  · exact ⟨_, rfl, fun x hx => wf8 (h x hx), by omega⟩
theorem xor_nonneg (a b : Int) (ha : 0 ≤ a) (ha1 : a < 1099511627776) (hb : 0 ≤ b) (hb1 : b < 1099511627776) : 0 ≤ Go.bits .xor .i64 a b := by
  obtain ⟨n, rfl⟩ := Int.eq_ofNat_of_zero_le ha
  obtain ⟨m, rfl⟩ := Int.eq_ofNat_of_zero_le hb
  have e1 : n % 2 ^ IntKind.i64.bits = n := Nat.mod_eq_of_lt (show n < 2 ^ 64 by omega)
  have e2 : m % 2 ^ IntKind.i64.bits = m := Nat.mod_eq_of_lt (show m < 2 ^ 64 by omega)
  have x := Nat.xor_lt_two_pow (n := 40) (x := n) (y := m) (by omega) (by omega)
  have e : Go.bits .xor .i64 (n : Int) (m : Int) = IntKind.i64.wrap ((n ^^^ m : Nat) : Int) := by
    simp only [Go.bits, BitVec.ofInt_natCast, BitVec.toNat_xor, BitVec.toNat_ofNat, e1, e2]
  rw [e, IntKind.wrap_i64]
  omega
theorem pick_ex (k : Nat) (l : List Int) (p n : Int) (hk : 1 ≤ k) (h : Rdr l) (h0 : 0 ≤ p) (h1 : p ≤ 100000) (hn : 1 ≤ n) (hn1 : n ≤ 4611686018427387904) :
    ∃ v, spec_l6Rd_pick.f k l p n = some (v, p + 1) ∧ 0 ≤ v ∧ v < n := by
  obtain ⟨k, rfl⟩ : ∃ m, k = m + 1 := ⟨k - 1, by omega⟩
  unfold spec_l6Rd_pick.f
  rw [if_neg (by omega), w64 (x := p + 1) (by omega)]
  simp only [spec_l6Rd_pick.j0]
  have hl := h.2
  rw [w64 (x := p + 1 - 1) (by omega), show p + 1 - 1 = p by omega]
  by_cases e : (l.length : Int) = 0
  · rw [if_pos (by simpa using e)]
    exact ⟨0, rfl, by omega, by omega⟩
  · rw [if_neg (by simpa using e)]
    by_cases hp : p < (l.length : Int)
    · have r := h.at_ p
      rw [if_pos hp, if_pos h0, if_neg (by omega), w64 (x := rd l p) (by omega), Int.tmod_eq_emod_of_nonneg r.1]
      exact ⟨_, rfl, Int.emod_nonneg _ (by omega), Int.emod_lt_of_pos _ (by omega)⟩
    · have hL : 0 < (l.length : Int) := by omega
      have m1 := Int.emod_nonneg p (by omega : (l.length : Int) ≠ 0)
      have m2 := Int.emod_lt_of_pos p hL
      have m3 := Int.emod_nonneg (p * 7 + 3) (by omega : (l.length : Int) ≠ 0)
      have m4 := Int.emod_lt_of_pos (p * 7 + 3) hL
      have d := AlMath.fl_bound p l.length 100000 hL (by omega) (by omega)
      have d0 := Int.ediv_nonneg h0 (by omega : 0 ≤ (l.length : Int))
      rw [if_neg hp, if_neg e, w64 (x := p * 7) (by omega), w64 (x := p * 7 + 3) (by omega), Int.tmod_eq_emod_of_nonneg (b := (l.length : Int)) h0, Int.tmod_eq_emod_of_nonneg (b := (l.length : Int)) (show 0 ≤ p * 7 + 3 by omega), Int.tdiv_eq_ediv_of_nonneg (b := (l.length : Int)) h0]
      rw [if_pos m1, if_pos m2, if_pos m3, if_pos m4, if_neg (by omega)]
      have r1 := h.at_ (p % l.length)
      have r2 := h.at_ ((p * 7 + 3) % l.length)
      generalize rd l (p % l.length) = u at *
      generalize rd l ((p * 7 + 3) % l.length) = v at *
      generalize p / l.length = w at *
      rw [w64 (x := u) (by omega), w64 (x := v) (by omega), w64 (x := u * 131) (by omega), w64 (x := v * 1117) (by omega), w64 (x := u * 131 + v * 1117) (by omega), w64 (x := p * 29) (by omega), w64 (x := u * 131 + v * 1117 + p * 29) (by omega), w64 (x := w) (by omega), w64 (x := w * 53) (by omega), w64 (x := u * 131 + v * 1117 + p * 29 + w * 53) (by omega)]
      rw [Int.tdiv_eq_ediv_of_nonneg (by omega), w64 (x := (u * 131 + v * 1117 + p * 29 + w * 53) / 64) (by omega)]
      have x0 := xor_nonneg (u * 131 + v * 1117 + p * 29 + w * 53) ((u * 131 + v * 1117 + p * 29 + w * 53) / 64) (by omega) (by omega) (by omega) (by omega)
      rw [Int.tmod_eq_emod_of_nonneg x0]
      exact ⟨_, rfl, Int.emod_nonneg _ (by omega), Int.emod_lt_of_pos _ (by omega)⟩
theorem big_j1 (k : Nat) (l : List Int) (m x p : Int) (hk : 2 ≤ k) (h : Rdr l) (h0 : 0 ≤ p) (h1 : p ≤ 100000) (hm : 3 ≤ m) (hm1 : m ≤ 1152921504606846976) (hx : -3 ≤ x) (hx1 : x ≤ 1152921504606846976) :
    ∃ v p', spec_l71Big.j1 k m x l p = some (v, p') ∧ p ≤ p' ∧ p' ≤ p + 1 ∧ -m ≤ v ∧ v ≤ m := by
  obtain ⟨k, rfl⟩ : ∃ m, k = m + 1 := ⟨k - 1, by omega⟩
  simp only [spec_l71Big.j1]
  by_cases c : x < 0
  · rw [if_pos c]; exact ⟨x, p, rfl, by omega, by omega, by omega, by omega⟩
  · obtain ⟨v, e, v0, v1⟩ := pick_ex k l p 2 (by omega) h h0 h1 (by omega) (by omega)
    have r0 := Int.emod_nonneg x (by omega : m + 1 ≠ 0)
    have r1 := Int.emod_lt_of_pos x (show 0 < m + 1 by omega)
    rw [if_neg c, w64 (x := m + 1) (by omega), if_neg (by omega), e, Int.tmod_eq_emod_of_nonneg (by omega)]
    simp only [Option.bind_some]
    split
    · rw [w64 (by omega)]; exact ⟨_, _, rfl, by omega, by omega, by omega, by omega⟩
    · exact ⟨_, _, rfl, by omega, by omega, by omega, by omega⟩
theorem big_l0 (d : Nat) : ∀ (k : Nat) (l : List Int) (m x i p : Int), d + 3 ≤ k → Rdr l → 0 ≤ p → p + d ≤ 90000 → 3 ≤ m → m ≤ 1152921504606846976 → i + d = 4 → 0 ≤ i → 0 ≤ x → x * 32768 ^ d ≤ 1152921504606846976 - 32768 ^ d →
    ∃ v p', spec_l71Big.l0 k m x i l p = some (v, p') ∧ p ≤ p' ∧ p' ≤ p + d + 1 ∧ -m ≤ v ∧ v ≤ m := by
  induction d with
  | zero =>
    intro k l m x i p hk h h0 h1 hm hm1 hi i0 hx hx1
    obtain ⟨k, rfl⟩ : ∃ m, k = m + 1 := ⟨k - 1, by omega⟩
    simp only [spec_l71Big.l0]
    rw [if_neg (by omega)]
    obtain ⟨v, p', e, a, b, c, d⟩ := big_j1 k l m x p (by omega) h h0 (by omega) hm hm1 (by omega) (by omega)
    exact ⟨v, p', e, a, by omega, c, d⟩
  | succ d ih =>
    intro k l m x i p hk h h0 h1 hm hm1 hi i0 hx hx1
    obtain ⟨k, rfl⟩ : ∃ m, k = m + 1 := ⟨k - 1, by omega⟩
    simp only [spec_l71Big.l0]
    obtain ⟨v, e, v0, v1⟩ := pick_ex k l p 32768 (by omega) h h0 (by omega) (by omega) (by omega)
    have pw : (1 : Int) ≤ 32768 ^ d := Int.pow_pos (by omega)
    have y1 : (x * 32768 + v) * 32768 ^ d ≤ 1152921504606846976 - 32768 ^ d := by
      have e1 : x * 32768 ^ (d + 1) = x * 32768 * 32768 ^ d := by rw [Int.pow_succ, Int.mul_comm (32768 ^ d), Int.mul_assoc]
      have e2 : (32768 : Int) ^ (d + 1) = 32768 * 32768 ^ d := by rw [Int.pow_succ, Int.mul_comm]
      have q := Int.mul_le_mul_of_nonneg_right (show v ≤ 32767 by omega) (show 0 ≤ (32768 : Int) ^ d by omega)
      rw [e1, e2] at hx1
      rw [Int.add_mul]
      omega
    have y2 : x * 32768 + v ≤ 1152921504606846976 := by
      have q := Int.mul_le_mul_of_nonneg_left pw (show 0 ≤ x * 32768 + v by omega)
      omega
    rw [if_pos (by omega), e]
    simp only [Option.bind_some]
    rw [w64 (x := x * 32768) (by omega), w64 (x := x * 32768 + v) (by omega), w64 (x := i + 1) (by omega)]
    obtain ⟨v', p', e', a, b, c, d'⟩ := ih k l m (x * 32768 + v) (i + 1) (p + 1) (by omega) h (by omega) (by omega) hm hm1 (by omega) (by omega) (by omega) y1
    exact ⟨v', p', e', by omega, by omega, c, d'⟩
theorem big_ex (k : Nat) (l : List Int) (p m : Int) (hk : 10 ≤ k) (h : Rdr l) (h0 : 0 ≤ p) (h1 : p ≤ 80000) (hm : 3 ≤ m) (hm1 : m ≤ 1152921504606846976) :
    ∃ v p', spec_l71Big.f k l p m = some (v, p') ∧ p ≤ p' ∧ p' ≤ p + 10 ∧ -m ≤ v ∧ v ≤ m := by
  unfold spec_l71Big.f
  obtain ⟨v, e, v0, v1⟩ := pick_ex k l p 6 (by omega) h h0 (by omega) (by omega) (by omega)
  rw [e]; simp only [Option.bind_some]
  split
  · obtain ⟨v, e, v0, v1⟩ := pick_ex k l (p + 1) 7 (by omega) h (by omega) (by omega) (by omega) (by omega)
    rw [e]; simp only [Option.bind_some]
    rw [w64 (by omega)]
    obtain ⟨v, p', e, a, b, c, d⟩ := big_j1 k l m (v - 3) (p + 1 + 1) (by omega) h (by omega) (by omega) hm hm1 (by omega) (by omega)
    exact ⟨v, p', e, by omega, by omega, c, d⟩
  · split
    · obtain ⟨v, e, v0, v1⟩ := pick_ex k l (p + 1) 3 (by omega) h (by omega) (by omega) (by omega) (by omega)
      rw [e]; simp only [Option.bind_some]
      rw [w64 (by omega)]
      obtain ⟨v, p', e, a, b, c, d⟩ := big_j1 k l m (m - v) (p + 1 + 1) (by omega) h (by omega) (by omega) hm hm1 (by omega) (by omega)
      exact ⟨v, p', e, by omega, by omega, c, d⟩
    · split
      · obtain ⟨v, e, v0, v1⟩ := pick_ex k l (p + 1) 1048576 (by omega) h (by omega) (by omega) (by omega) (by omega)
        rw [e]; simp only [Option.bind_some]
        obtain ⟨v, p', e, a, b, c, d⟩ := big_j1 k l m v (p + 1 + 1) (by omega) h (by omega) (by omega) hm hm1 (by omega) (by omega)
        exact ⟨v, p', e, by omega, by omega, c, d⟩
      · obtain ⟨v, p', e, a, b, c, d⟩ := big_l0 4 k l m 0 0 (p + 1) (by omega) h (by omega) (by omega) hm hm1 (by omega) (by omega) (by omega) (by decide)
        exact ⟨v, p', e, by omega, by omega, c, d⟩
theorem lsine_ex (k : Nat) (l : List Int) (p : Int) (hk : 10 ≤ k) (h : Rdr l) (h0 : 0 ≤ p) (h1 : p ≤ 60000) : ∃ v p', spec_l71Sine.f k l p = some (v, p') := by
  unfold spec_l71Sine.f
  obtain ⟨v, e, v0, v1⟩ := pick_ex k l p 10 (by omega) h h0 (by omega) (by omega) (by omega)
  rw [e]; simp only [Option.bind_some]
  split
  · obtain ⟨v, e, v0, v1⟩ := pick_ex k l (p + 1) 7 (by omega) h (by omega) (by omega) (by omega) (by omega)
    rw [e]; simp only [Option.bind_some]
    rw [if_pos v0, if_pos (by simp; omega)]
    exact ⟨_, _, rfl⟩
  · split
    · obtain ⟨v, e, v0, v1⟩ := pick_ex k l (p + 1) 1000 (by omega) h (by omega) (by omega) (by omega) (by omega)
      rw [e]; simp only [Option.bind_some]
      exact ⟨_, _, rfl⟩
    · obtain ⟨v, p', e, a, b, c, d⟩ := big_ex k l (p + 1) 1000000000 (by omega) h (by omega) (by omega) (by omega) (by omega)
      rw [e]; simp only [Option.bind_some]
      exact ⟨_, _, rfl⟩
theorem DrawSineBack_ex (k : Nat) (l : List Int) (hk : 10 ≤ k) (h : ∀ x ∈ l, (Lit.int .u8 x).wf = true) : ∃ v, spec_DrawSineBack.f k l = some v := by
  unfold spec_DrawSineBack.f
  obtain ⟨s, e, hs⟩ := spec_l6Open_ex l h
  rw [e]; simp only [Option.bind_some]
  obtain ⟨v, p', e⟩ := lsine_ex k s 0 hk hs (by omega) (by omega)
  rw [e]; simp only [Option.bind_some]
  exact ⟨_, rfl⟩
--MATH
--ROOTS spec_SineBack impl_sine impl_down impl_isPart spec_DrawSineBack
--IMPORT SBack SLawM
theorem sine_back_calls (num : Int) (h : -1000000000 ≤ num ∧ num ≤ 1000000000) (w : World) : Calls Try.prog 23 #[.int .i64 num] w fun e w' => e = .returned (.tuple #[.agg #[.int .i64 (backLow 26 num), .int .i64 (backHigh 26 num)], .bool true]) ∧ Below w.heap.size w w' :=
  impl_SineBack.calls_yes num _ _ (by rw [impl_isPart_eq, decide_eq_true h]) (fun w => impl_sineBack.calls 200 num (fun a => sineP (2 * a)) (fun a a0 a1 => by rw [w64 (by omega), impl_sine_eq 200 _ (by omega) (by omega) (by omega)]) (fun a a0 a1 => impl_down_eq a 2 (by decide) (by omega) (by omega)) 26 rounds26 w) w
theorem sine_back_calls_no (num : Int) (h : ¬ (-1000000000 ≤ num ∧ num ≤ 1000000000)) (w : World) : Calls Try.prog 23 #[.int .i64 num] w fun e w' => e = .returned (.tuple #[.agg #[.int .i64 0, .int .i64 0], .bool false]) ∧ Below w.heap.size w w' :=
  impl_SineBack.calls_no num (by rw [impl_isPart_eq, decide_eq_false h]) w
theorem FnSineBackMore_walk (A0 : Option Addr) (c0 : Nat) (l0 : List Int) (h0 : ∀ x ∈ l0, (Lit.int .u8 x).wf = true) (A1 : Option Addr) (c1 : Nat) (l1 : List Int) (h1 : ∀ x ∈ l1, (Lit.int .u8 x).wf = true) (w : World) (hr0 : Kd.C (Kd.int .u8) w A0 l0.length l0) (hc0 : l0.length ≤ c0) (hr1 : Kd.C (Kd.int .u8) w A1 l1.length l1) (hc1 : l1.length ≤ c1) :
    Calls Try.prog 11 #[.slice A0 l0.length c0, .slice A1 l1.length c1] w fun e w' => e = .returned (.bool true) ∧ Below w.heap.size w w' := by
  by_cases big0 : (1048576 : Int) < (l0.length : Int)
  · exact laws_FnSineBackMore.calls_big0 200 A0 c0 l0 A1 c1 l1 w hr0 hc0 hr1 hc1 (decide_eq_true big0) (decide_eq_true (by omega))
  · have b := decide_eq_false big0
    have b' : decide (1048576 < l0.length) = false := decide_eq_false (by omega)
    by_cases big1 : (1048576 : Int) < (l1.length : Int)
    · exact laws_FnSineBackMore.calls_big1 200 A0 c0 l0 A1 c1 l1 w hr0 hc0 hr1 hc1 b b' (decide_eq_true big1) (decide_eq_true (by omega))
    · have d := decide_eq_false big1
      have d' : decide (1048576 < l1.length) = false := decide_eq_false (by omega)
      obtain ⟨x, e⟩ := DrawSineBack_ex 200 l0 (by omega) h0
      obtain ⟨y, f⟩ := DrawSineBack_ex 200 l1 (by omega) h1
      by_cases hx : -1000000000 ≤ x ∧ x ≤ 1000000000
      · have W := fun w => spec_SineBack.calls 200 x _ _ true w (spec_SineBack_yes x hx)
        have F := fun w => sine_back_calls x hx w
        by_cases hy : -1000000000 ≤ y ∧ y ≤ 1000000000
        · have G := fun w => sine_back_calls y hy w
          by_cases g : y < x
          · exact laws_FnSineBackMore.calls_gt 200 x y _ _ _ _ A0 c0 l0 A1 c1 l1 w hr0 hc0 hr1 hc1 b b' d d' e f W F G (decide_eq_true g)
          · exact laws_FnSineBackMore.calls_yes 200 x y _ _ _ _ A0 c0 l0 A1 c1 l1 w hr0 hc0 hr1 hc1 b b' d d' e f W F G (decide_eq_false g) (decide_eq_true (back_more 26 x y (by omega)))
        · exact laws_FnSineBackMore.calls_no2 200 x y _ _ _ _ A0 c0 l0 A1 c1 l1 w hr0 hc0 hr1 hc1 b b' d d' e f W F (fun w => sine_back_calls_no y hy w)
      · have W := fun w => spec_SineBack.calls 200 x _ _ false w (spec_SineBack_no x hx)
        have F := fun w => sine_back_calls_no x hx w
        by_cases hy : -1000000000 ≤ y ∧ y ≤ 1000000000
        · exact laws_FnSineBackMore.calls_no 200 x y _ _ _ _ true A0 c0 l0 A1 c1 l1 w hr0 hc0 hr1 hc1 b b' d d' e f W F (fun w => sine_back_calls y hy w)
        · exact laws_FnSineBackMore.calls_no 200 x y _ _ _ _ false A0 c0 l0 A1 c1 l1 w hr0 hc0 hr1 hc1 b b' d d' e f W F (fun w => sine_back_calls_no y hy w)
theorem FnSineBackMore_row (a0 : Option Addr) (len0 cap0 : Nat) (z0 : List Int) (a1 : Option Addr) (len1 cap1 : Nat) (z1 : List Int) (w : World) (w0 : (a0 = none ∧ len0 = 0 ∧ cap0 = 0 ∧ z0 = []) ∨ ∃ x, a0 = some x ∧ len0 ≤ cap0 ∧ cap0 ≤ maxLen ∧ z0.length = cap0 ∧ (∀ i, i < z0.length → w.cell? (x.add i) = some (.int .u8 (z0.getD i 0))) ∧ ∀ n ∈ z0, (Lit.int .u8 n).wf = true)
    (w1 : (a1 = none ∧ len1 = 0 ∧ cap1 = 0 ∧ z1 = []) ∨ ∃ x, a1 = some x ∧ len1 ≤ cap1 ∧ cap1 ≤ maxLen ∧ z1.length = cap1 ∧ (∀ i, i < z1.length → w.cell? (x.add i) = some (.int .u8 (z1.getD i 0))) ∧ ∀ n ∈ z1, (Lit.int .u8 n).wf = true) :
    Calls Try.prog 11 #[.slice a0 len0 cap0, .slice a1 len1 cap1] w fun e w' => e = .returned (.bool true) ∧ Below w.heap.size w w' := by
  obtain ⟨l0, rfl, hr0, hm0, hw0, hc0⟩ := ReadsInt.ofRowC w0
  obtain ⟨l1, rfl, hr1, hm1, hw1, hc1⟩ := ReadsInt.ofRowC w1
  exact FnSineBackMore_walk _ _ l0 hw0 _ _ l1 hw1 w (Kd.C_of_reads (d := (0 : Int)) (h1 := fun _ => rfl) hr0) hc0 (Kd.C_of_reads (d := (0 : Int)) (h1 := fun _ => rfl) hr1) hc1
end Go.Proofs.Ytmncignfkpkcjaa.PureFnSineBackMore
