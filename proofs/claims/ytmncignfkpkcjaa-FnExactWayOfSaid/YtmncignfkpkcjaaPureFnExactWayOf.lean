/- The statement FnExactWayOf holds of what the Go functions compute. -/
import Derived.Test.YtmncignfkpkcjaaAlB
import Derived.Test.YtmncignfkpkcjaaSA
import Derived.Test.YtmncignfkpkcjaaSD
import Derived.Test.YtmncignfkpkcjaaSFspecl13Side
import Derived.Test.YtmncignfkpkcjaaSFspecl13Askless
import Derived.Test.YtmncignfkpkcjaaSFspecl13Askhalf
import Derived.Test.YtmncignfkpkcjaaSFspecl13Quart
import Derived.Test.YtmncignfkpkcjaaSFspecWayOf
import Derived.Test.YtmncignfkpkcjaaSB
import Derived.Test.YtmncignfkpkcjaaSE
import Derived.Test.YtmncignfkpkcjaaSFimplisPart
import Derived.Test.YtmncignfkpkcjaaSWay
import Derived.Test.YtmncignfkpkcjaaSLawE
namespace Go.Proofs.Ytmncignfkpkcjaa.PureFnExactWayOf
open Go.RowKit AlMath Go.Proofs.Ytmncignfkpkcjaa.S Go.Proofs.YtmncignfkpkcjaaW.PrintWords Go.Proofs.YtmncignfkpkcjaaW.PrintLast
theorem w64 {x : Int} (h : -9223372036854775808 ≤ x ∧ x ≤ 9223372036854775807) : wrap64 x = x := by unfold wrap64; omega
theorem wf64 {x : Int} (h : (Lit.int .i64 x).wf = true) : -9223372036854775808 ≤ x ∧ x ≤ 9223372036854775807 := by
  simp [Lit.wf, IntKind.min, IntKind.max, IntKind.signed, IntKind.bits] at h; omega
theorem wf8 {x : Int} (h : (Lit.int .u8 x).wf = true) : 0 ≤ x ∧ x ≤ 255 := by
  simp [Lit.wf, IntKind.min, IntKind.max, IntKind.signed, IntKind.bits] at h; omega
theorem mx_eq (a b : Int) : mx a b = max a b := by unfold mx; omega
theorem mn_eq (a b : Int) : mn a b = min a b := by unfold mn; omega
theorem spec_l1Down_eq (a b : Int) (hb : 0 < b) (hb2 : b ≤ 4000000000000000000) (h1 : -4611686018427387904 ≤ a) (h2 : a ≤ 4611686018427387904) : spec_l1Down.f a b = some (a / b) := by
  unfold spec_l1Down.f
  have f := AlMath.fl_bound a b 4611686018427387904 hb h1 h2
  split
  · rename_i h
    rw [if_neg (by omega), Int.tdiv_eq_ediv_of_nonneg h, w64 (by omega)]
  · have k := AlMath.down_spec a b (by omega) hb
    rw [if_neg (by omega), w64 (x := -a) (by omega), w64 (x := -a + b) (by omega), w64 (x := -a + b - 1) (by omega)]
    rw [w64 (x := Int.tdiv (-a + b - 1) b) (by omega), w64 (by omega), k]
theorem spec_l6In_eq (a l h : Int) : spec_l6In.f a l h = some (decide (l ≤ a ∧ a ≤ h)) := by
  unfold spec_l6In.f
  split
  · exact congrArg some (decide_eq_decide.2 (by omega))
  · exact congrArg some (decide_eq_false (by omega)).symm
theorem spec_SpanOk_eq (a b : Int) : spec_SpanOk.f a b = some (decide (Okay a b)) := by
  unfold spec_SpanOk.f
  rw [spec_l6In_eq, spec_l6In_eq]
  simp only [Option.bind_some, decide_eq_true_eq]
  by_cases h1 : -1073000000 ≤ a ∧ a ≤ 1073000000
  · rw [if_pos h1]; exact congrArg some (decide_eq_decide.2 (by unfold Okay; omega))
  · rw [if_neg h1]; exact congrArg some (decide_eq_false (by unfold Okay; omega)).symm
theorem spec_SpanNeg_eq (a b : Int) : spec_SpanNeg.f a b = if Okay a b then some (-b, -a) else some (0, 0) := by
  unfold spec_SpanNeg.f
  rw [spec_SpanOk_eq]
  simp only [Option.bind_some, decide_eq_true_eq]
  by_cases h : Okay a b
  · rw [if_pos h, if_pos h]; unfold Okay at h; rw [w64 (by omega), w64 (by omega)]
  · rw [if_neg h, if_neg h]
theorem spec_l1Up_eq (a b : Int) (hb : 0 < b) (hb2 : b ≤ 4000000000000000000) (h1 : -4611686018427387904 ≤ a) (h2 : a ≤ 4611686018427387904) : spec_l1Up.f a b = some (-(-a / b)) := by
  have t := AlMath.fl_bound (-a) b 4611686018427387904 hb (by omega) (by omega)
  unfold spec_l1Up.f
  rw [w64 (x := -a) (by omega), spec_l1Down_eq _ _ hb hb2 (by omega) (by omega)]
  simp only [Option.bind_some]
  rw [w64 (by omega)]
theorem spec_l12Arc_eq (h : Int) (h0 : 0 ≤ h) (h1 : h ≤ 1000000000) : spec_l12Arc.f h = some (arcP h) := by
  unfold spec_l12Arc.f
  rw [w64 (x := h * 785398163) (by omega), w64 (x := h * 785398164) (by omega), spec_l1Down_eq _ _ (by omega) (by omega) (by omega) (by omega), spec_l1Up_eq _ _ (by omega) (by omega) (by omega) (by omega)]
  rfl
theorem spec_l12Times_eq (a b : Int) (up : Bool) (h0 : 0 ≤ a * b) (h1 : a * b ≤ 4000000000000000000) : spec_l12Times.f a b up = some (if up = true then -(-(a * b) / 1000000000) else a * b / 1000000000) := by
  unfold spec_l12Times.f
  rw [w64 (x := a * b) (by omega), spec_l1Up_eq _ _ (by omega) (by omega) (by omega) (by omega), spec_l1Down_eq _ _ (by omega) (by omega) (by omega) (by omega)]
  cases up <;> rfl
theorem spec_l12Over_eq (a b : Int) (up : Bool) (hb : 0 < b) (hb1 : b ≤ 1000000) (h0 : -4000000000000000000 ≤ a) (h1 : a ≤ 4000000000000000000) : spec_l12Over.f a b up = some (if up = true then -(-a / b) else a / b) := by
  unfold spec_l12Over.f
  rw [spec_l1Up_eq _ _ hb (by omega) (by omega) (by omega), spec_l1Down_eq _ _ hb (by omega) (by omega) (by omega)]
  cases up <;> rfl
theorem spec_l12Row_l0 (x lo hi : Int) (xx0 : 0 ≤ x * x) (xx1 : x * x ≤ 1000000000000000000) (elo : x * x / 1000000000 = lo) (ehi : -(-(x * x) / 1000000000) = hi) (d : Nat) :
    ∀ (k : Nat) (tk : Bool) (sl sh tl th n : Int), 3 * d + 3 ≤ k → 40 ≤ n + 2 * (d : Int) → 1 ≤ n → n + 2 * (d : Int) ≤ 60 → 0 ≤ tl → tl ≤ 1000000000 → 0 ≤ th → th ≤ 1000000000 →
      -1000000000000 + (d : Int) * 1000000000 ≤ sl → sl ≤ 1000000000000 - (d : Int) * 1000000000 → -1000000000000 + (d : Int) * 1000000000 ≤ sh → sh ≤ 1000000000000 - (d : Int) * 1000000000 →
      spec_l12Row.l0 k x n sl sh tl th tk = some (rowL lo hi d tk sl sh tl th n) := by
  have lo0 : 0 ≤ lo := by omega
  have lo1 : lo ≤ 1000000000 := by omega
  have hi0 : 0 ≤ hi := by omega
  have hi1 : hi ≤ 1000000000 := by omega
  induction d with
  | zero =>
    intro k tk sl sh tl th n hk h1 h2 h3 _ _ _ _ _ _ _ _
    obtain ⟨k, rfl⟩ : ∃ m, k = m + 2 := ⟨k - 2, by omega⟩
    simp only [spec_l12Row.l0, spec_l12Row.j1, rowL]
    by_cases e : th > 0
    · rw [if_pos e, if_neg (by simp; omega)]
    · rw [if_neg e]; simp
  | succ d ih =>
    intro k tk sl sh tl th n hk h1 h2 h3 tl0 tl1 th0 th1 s1 s2 s3 s4
    obtain ⟨k, rfl⟩ : ∃ m, k = m + 3 := ⟨k - 3, by omega⟩
    simp only [spec_l12Row.l0, spec_l12Row.j1, spec_l12Row.j2, rowL]
    by_cases e : th = 0
    · rw [if_neg (by omega), if_neg (by simp), if_neg (by simp [e])]
    · rw [if_pos (show th > 0 by omega)]
      by_cases c : n < 40
      · have m0 := Int.mul_nonneg tl0 lo0
        have m1 := Int.mul_le_mul tl1 lo1 lo0 (by omega)
        have m2 := Int.mul_nonneg th0 hi0
        have m3 := Int.mul_le_mul th1 hi1 hi0 (by omega)
        have q0 := Int.mul_le_mul (show n ≤ 60 by omega) (show n + 1 ≤ 61 by omega) (by omega) (by omega)
        have q1 := Int.mul_pos (show 0 < n by omega) (show 0 < n + 1 by omega)
        have B1 := tdn_bounds tl lo n tl0 lo0 lo1 h2
        have B2 := tup_bounds th hi n th0 hi0 hi1 h2
        have F1 := fl_bound (tl * lo) 1000000000 1000000000000000000 (by omega) (by omega) (by omega)
        have F2 := fl_bound (-(th * hi)) 1000000000 1000000000000000000 (by omega) (by omega) (by omega)
        rw [if_pos (decide_eq_true c), if_pos ⟨e, c⟩, w64 (x := n + 1) (by omega), w64 (x := n * (n + 1)) (by omega)]
        rw [spec_l12Times_eq x x false xx0 (by omega), spec_l12Times_eq x x true xx0 (by omega)]
        simp only [Option.bind_some, if_true, Bool.false_eq_true, if_false, elo, ehi]
        rw [spec_l12Times_eq tl lo false m0 (by omega), spec_l12Times_eq th hi true m2 (by omega)]
        simp only [Option.bind_some, if_true, Bool.false_eq_true, if_false]
        rw [spec_l12Over_eq _ _ false q1 (by omega) (by omega) (by omega), spec_l12Over_eq _ _ true q1 (by omega) (by omega) (by omega)]
        simp only [Option.bind_some, if_true, Bool.false_eq_true, if_false]
        have ea : tl * lo / 1000000000 / (n * (n + 1)) = tdn tl lo n := rfl
        have eb : -(-(-(-(th * hi) / 1000000000)) / (n * (n + 1))) = tup th hi n := rfl
        rw [ea, eb]
        have cont : (if tk = true then spec_l12Row.l0 k x (wrap64 (n + 2)) (wrap64 (sl - tup th hi n)) (wrap64 (sh - tdn tl lo n)) (tdn tl lo n) (tup th hi n) (!tk)
            else spec_l12Row.l0 k x (wrap64 (n + 2)) (wrap64 (sl + tdn tl lo n)) (wrap64 (sh + tup th hi n)) (tdn tl lo n) (tup th hi n) (!tk)) =
            some (if tk = true then rowL lo hi d false (sl - tup th hi n) (sh - tdn tl lo n) (tdn tl lo n) (tup th hi n) (n + 2)
              else rowL lo hi d true (sl + tdn tl lo n) (sh + tup th hi n) (tdn tl lo n) (tup th hi n) (n + 2)) := by
          rw [w64 (x := n + 2) (by omega), w64 (x := sl - tup th hi n) (by omega), w64 (x := sh - tdn tl lo n) (by omega), w64 (x := sl + tdn tl lo n) (by omega), w64 (x := sh + tup th hi n) (by omega)]
          cases tk with
          | true => exact ih k false _ _ _ _ _ (by omega) (by omega) (by omega) (by omega) B1.1 (by omega) B2.1 (by omega) (by omega) (by omega) (by omega) (by omega)
          | false => exact ih k true _ _ _ _ _ (by omega) (by omega) (by omega) (by omega) B1.1 (by omega) B2.1 (by omega) (by omega) (by omega) (by omega) (by omega)
        by_cases u : tup th hi n = 1
        · rw [if_pos u]
          by_cases y : tdn tl lo n = 0
          · rw [if_pos (by simp [y]), if_pos ⟨u, y⟩, w64 (by omega), w64 (by omega)]
          · rw [if_neg (by simp [y]), if_neg (c := tup th hi n = 1 ∧ tdn tl lo n = 0) (fun z => y z.2)]; exact cont
        · rw [if_neg u, if_neg (c := tup th hi n = 1 ∧ tdn tl lo n = 0) (fun z => u z.1)]; exact cont
      · rw [if_neg (by simp; omega), if_neg (fun z => c z.2)]
theorem spec_l12Row_eq (k : Nat) (first x n : Int) (hk : 70 ≤ k) (f0 : 0 ≤ first) (f1 : first ≤ 1000000000) (x0 : 0 ≤ x) (x1 : x ≤ 900000000) (hn : n = 1 ∨ n = 2) :
    spec_l12Row.f k first x n = some (rowP first x n) := by
  unfold spec_l12Row.f rowP
  have m0 := Int.mul_nonneg x0 x0
  have m1 := Int.mul_le_mul x1 x1 x0 (by omega)
  exact spec_l12Row_l0 x _ _ m0 (by omega) rfl rfl 21 k true _ _ _ _ _ (by omega) (by omega) (by omega) (by omega) f0 f1 f0 f1 (by omega) (by omega) (by omega) (by omega)
theorem arc_in (h : Int) (h0 : 0 ≤ h) (h1 : h ≤ 32400000) : (0 ≤ (arcP h).1 ∧ (arcP h).1 ≤ 900000000) ∧ 0 ≤ (arcP h).2 ∧ (arcP h).2 ≤ 900000000 := by
  unfold arcP; simp only; omega
theorem spec_l12Small_eq (k : Nat) (h : Int) (hk : 70 ≤ k) (h0 : 0 ≤ h) (h1 : h ≤ 32400000) : spec_l12Small.f k h = some (smallP h) := by
  obtain ⟨a, b⟩ := arc_in h h0 h1
  unfold spec_l12Small.f
  rw [spec_l12Arc_eq h h0 (by omega)]
  simp only [Option.bind_some]
  rw [spec_l12Row_eq _ _ _ _ hk a.1 (by omega) a.1 a.2 (.inr rfl), spec_l12Row_eq _ _ _ _ hk b.1 (by omega) b.1 b.2 (.inr rfl)]
  simp only [Option.bind_some]
  rw [mx_eq, Int.max_comm, smallP_def]
theorem spec_l12Near_eq (k : Nat) (h : Int) (hk : 70 ≤ k) (h0 : 0 ≤ h) (h1 : h ≤ 32400000) : spec_l12Near.f k h = some (nearP h) := by
  obtain ⟨a, b⟩ := arc_in h h0 h1
  unfold spec_l12Near.f
  rw [spec_l12Arc_eq h h0 (by omega)]
  simp only [Option.bind_some]
  rw [spec_l12Row_eq _ _ _ _ hk (by omega) (by omega) a.1 a.2 (.inl rfl), spec_l12Row_eq _ _ _ _ hk (by omega) (by omega) b.1 b.2 (.inl rfl)]
  simp only [Option.bind_some]
  rw [mn_eq, Int.min_comm, nearP_def]
theorem spec_l12Quart_eq (k : Nat) (h : Int) (hk : 70 ≤ k) (h0 : 0 ≤ h) (h1 : h ≤ 64800000) : spec_l12Quart.f k h = some (quartP h) := by
  unfold spec_l12Quart.f quartP
  by_cases c0 : h = 0
  · rw [if_pos c0, if_pos c0]
  · rw [if_neg c0, if_neg c0]
    by_cases c1 : h = 21600000
    · rw [if_pos c1, if_pos c1]
    · rw [if_neg c1, if_neg c1]
      by_cases c2 : h = 64800000
      · rw [if_pos c2, if_pos c2]
      · rw [if_neg c2, if_neg c2]
        by_cases c3 : h ≤ 32400000
        · rw [if_pos c3, if_pos c3, spec_l12Small_eq k h hk h0 c3]; rfl
        · rw [if_neg c3, if_neg c3, w64 (by omega), spec_l12Near_eq k _ hk (by omega) (by omega)]; rfl
theorem spec_l12Sine_half (k : Nat) (h : Int) (hk : 71 ≤ k) (h0 : 0 ≤ h) (h1 : h < 129600000) : spec_l12Sine.f k h = some (halfP h) := by
  obtain ⟨k, rfl⟩ : ∃ m, k = m + 1 := ⟨k - 1, by omega⟩
  simp only [spec_l12Sine.f]
  rw [spec_l1Down_eq _ _ (by omega) (by omega) (by omega) (by omega)]
  simp only [Option.bind_some]
  rw [w64 (x := h / 259200000 * 259200000) (by omega), w64 (x := h - h / 259200000 * 259200000) (by omega), show h - h / 259200000 * 259200000 = h by omega, if_neg (by omega)]
  unfold halfP
  by_cases c : h > 64800000
  · rw [if_pos c, if_pos c, w64 (by omega), spec_l12Quart_eq k _ (by omega) (by omega) (by omega)]; rfl
  · rw [if_neg c, if_neg c, spec_l12Quart_eq k _ (by omega) h0 (by omega)]; rfl
theorem spec_l12Sine_eq (k : Nat) (h : Int) (hk : 72 ≤ k) (h0 : -1152921504606846976 ≤ h) (h1 : h ≤ 1152921504606846976) : spec_l12Sine.f k h = some (sineP h) := by
  obtain ⟨k, rfl⟩ : ∃ m, k = m + 1 := ⟨k - 1, by omega⟩
  simp only [spec_l12Sine.f]
  rw [spec_l1Down_eq _ _ (by omega) (by omega) (by omega) (by omega)]
  simp only [Option.bind_some]
  rw [w64 (x := h / 259200000 * 259200000) (by omega), w64 (x := h - h / 259200000 * 259200000) (by omega), show h - h / 259200000 * 259200000 = h % 259200000 by omega]
  unfold sineP
  have r0 : 0 ≤ h % 259200000 := by omega
  have r1 : h % 259200000 < 259200000 := by omega
  generalize h % 259200000 = r at *
  by_cases c : r ≥ 129600000
  · have o := halfP_ok (r - 129600000) (by omega) (by omega)
    rw [if_pos c, if_pos c, w64 (by omega), spec_l12Sine_half k _ (by omega) (by omega) (by omega)]
    simp only [Option.bind_some]
    rw [spec_SpanNeg_eq, if_pos (by unfold Okay; omega)]
    rfl
  · rw [if_neg c, if_neg c]
    unfold halfP
    by_cases d : r > 64800000
    · rw [if_pos d, if_pos d, w64 (by omega), spec_l12Quart_eq k _ (by omega) (by omega) (by omega)]; rfl
    · rw [if_neg d, if_neg d, spec_l12Quart_eq k _ (by omega) (by omega) (by omega)]; rfl
theorem prod_small (u c : Int) (u0 : 0 ≤ u) (u1 : u ≤ 1000000000) (c0 : -1000000000 ≤ c) (c1 : c ≤ 1000000000) : -1000000000000000000 ≤ u * c ∧ u * c ≤ 1000000000000000000 := by
  have a := Int.mul_nonneg u0 (show 0 ≤ 1000000000 - c by omega)
  have b := Int.mul_nonneg u0 (show 0 ≤ 1000000000 + c by omega)
  rw [Int.mul_sub] at a
  rw [Int.mul_add] at b
  omega
theorem spec_l13Side_eq (k : Nat) (u v a : Int) (hk : 73 ≤ k) (u0 : 0 ≤ u) (u1 : u ≤ 1000000000) (v0 : 0 ≤ v) (v1 : v ≤ 1000000000) (a0 : -32400000 ≤ a) (a1 : a ≤ 32400000) :
    spec_l13Side.f k u v a = some (if wrap64 (wayM1 u a - wayM2 v a) ≥ 0 then 1 else if wrap64 (wayM3 u a - wayM4 v a) ≤ 0 then -1 else 0) := by
  have s := sineP_ok (2 * a)
  have c := sineP_ok (2 * a + 64800000)
  have p1 := prod_small u (sineP (2 * a + 64800000)).1 u0 u1 (by omega) (by omega)
  have p2 := prod_small v (sineP (2 * a)).2 v0 v1 (by omega) (by omega)
  have p3 := prod_small u (sineP (2 * a + 64800000)).2 u0 u1 (by omega) (by omega)
  have p4 := prod_small v (sineP (2 * a)).1 v0 v1 (by omega) (by omega)
  unfold spec_l13Side.f
  rw [w64 (x := 2 * a) (by omega), w64 (x := 2 * a + 64800000) (by omega), spec_l12Sine_eq k _ (by omega) (by omega) (by omega), spec_l12Sine_eq k _ (by omega) (by omega) (by omega)]
  simp only [Option.bind_some]
  rw [w64 (x := u * (sineP (2 * a + 64800000)).1) (by omega), w64 (x := v * (sineP (2 * a)).2) (by omega), w64 (x := u * (sineP (2 * a + 64800000)).2) (by omega), w64 (x := v * (sineP (2 * a)).1) (by omega)]
  rw [spec_l1Down_eq _ _ (by decide) (by decide) (by omega) (by omega), spec_l1Up_eq _ _ (by decide) (by decide) (by omega) (by omega), spec_l1Up_eq _ _ (by decide) (by decide) (by omega) (by omega), spec_l1Down_eq _ _ (by decide) (by decide) (by omega) (by omega)]
  simp only [Option.bind_some]
  unfold wayM1 wayM2 wayM3 wayM4
  split
  · rfl
  · split <;> rfl
theorem spec_l13Ask_less_low (k : Nat) (num a : Int) (hk : 73 ≤ k) (a0 : -32400000 ≤ a) (a1 : a ≤ 32400000) : spec_l13Ask_less.f k true num 0 0 false a = some (decide ((sineP (2 * a)).2 ≤ num)) := by
  unfold spec_l13Ask_less.f
  rw [if_pos rfl, w64 (x := 2 * a) (by omega), spec_l12Sine_eq k _ (by omega) (by omega) (by omega)]
  rfl
theorem spec_l13Ask_less_high (k : Nat) (num a : Int) (hk : 73 ≤ k) (a0 : -32400000 ≤ a) (a1 : a ≤ 32400000) : spec_l13Ask_less.f k true num 0 0 true a = some (decide ((sineP (2 * a)).1 < num)) := by
  unfold spec_l13Ask_less.f
  rw [if_pos rfl, w64 (x := 2 * a) (by omega), spec_l12Sine_eq k _ (by omega) (by omega) (by omega)]
  rfl
theorem spec_l13Ask_less_q (k : Nat) (u v a : Int) (hk : 73 ≤ k) (u0 : 0 ≤ u) (u1 : u ≤ 1000000000) (v0 : 0 ≤ v) (v1 : v ≤ 1000000000) (a0 : -32400000 ≤ a) (a1 : a ≤ 32400000) :
    spec_l13Ask_less.f k false 0 u v false a = some (decide (0 ≤ wrap64 (wayM1 u a - wayM2 v a))) := by
  unfold spec_l13Ask_less.f
  rw [if_neg (by decide), spec_l13Side_eq k u v a hk u0 u1 v0 v1 a0 a1]
  simp only [Option.bind_some]
  by_cases q : wrap64 (wayM1 u a - wayM2 v a) ≥ 0
  · rw [if_pos q, decide_eq_true (show 0 ≤ wrap64 (wayM1 u a - wayM2 v a) from q)]; rfl
  · rw [if_neg q, decide_eq_false (show ¬ 0 ≤ wrap64 (wayM1 u a - wayM2 v a) from q)]
    by_cases r : wrap64 (wayM3 u a - wayM4 v a) ≤ 0
    · rw [if_pos r]; rfl
    · rw [if_neg r]; rfl
theorem spec_l13Ask_less_r (k : Nat) (u v a : Int) (hk : 73 ≤ k) (u0 : 0 ≤ u) (u1 : u ≤ 1000000000) (v0 : 0 ≤ v) (v1 : v ≤ 1000000000) (a0 : -32400000 ≤ a) (a1 : a ≤ 32400000) :
    spec_l13Ask_less.f k false 0 u v true a = some (!(!decide (0 ≤ wrap64 (wayM1 u a - wayM2 v a)) && decide (wrap64 (wayM3 u a - wayM4 v a) ≤ 0))) := by
  unfold spec_l13Ask_less.f
  rw [if_neg (by decide), spec_l13Side_eq k u v a hk u0 u1 v0 v1 a0 a1]
  simp only [Option.bind_some]
  by_cases q : wrap64 (wayM1 u a - wayM2 v a) ≥ 0
  · rw [if_pos q, decide_eq_true (show 0 ≤ wrap64 (wayM1 u a - wayM2 v a) from q)]; rfl
  · rw [if_neg q, decide_eq_false (show ¬ 0 ≤ wrap64 (wayM1 u a - wayM2 v a) from q)]
    by_cases r : wrap64 (wayM3 u a - wayM4 v a) ≤ 0
    · rw [if_pos r, decide_eq_true r]; rfl
    · rw [if_neg r, decide_eq_false r]; rfl
theorem half_l0 (s : Bool) (num u v : Int) (small : Bool) (q : Int → Bool) (hq : ∀ k a, 73 ≤ k → -32400000 ≤ a → a ≤ 32400000 → spec_l13Ask_less.f k s num u v small a = some (q a)) :
    ∀ n k lo hi, 74 + n ≤ k → -32400000 ≤ lo → lo ≤ hi → hi ≤ 32400000 → hi - lo ≤ 2 ^ n → spec_l13Ask_half.l0 k lo hi s num u v small = some (halveL q n lo hi) := by
  intro n
  induction n with
  | zero =>
    intro k lo hi hk h0 h1 h2 hw
    obtain ⟨k, rfl⟩ : ∃ m, k = m + 1 := ⟨k - 1, by omega⟩
    rw [Int.pow_zero] at hw
    simp only [spec_l13Ask_half.l0]
    rw [w64 (x := hi - lo) (by omega), if_neg (by omega), halveL_end _ _ _ _ (by omega)]
  | succ n ih =>
    intro k lo hi hk h0 h1 h2 hw
    obtain ⟨k, rfl⟩ : ∃ m, k = m + 1 := ⟨k - 1, by omega⟩
    rw [Int.pow_succ] at hw
    simp only [spec_l13Ask_half.l0]
    rw [w64 (x := hi - lo) (by omega)]
    by_cases c : hi - lo > 1
    · rw [if_pos c, w64 (x := lo + hi) (by omega), spec_l1Down_eq _ _ (by decide) (by decide) (by omega) (by omega), halveL_go q n lo hi c]
      simp only [Option.bind_some]
      rw [hq k _ (by omega) (by omega) (by omega)]
      simp only [Option.bind_some]
      generalize (2 : Int) ^ n = P at *
      cases q ((lo + hi) / 2) with
      | true => rw [if_pos rfl, if_pos rfl]; exact ih k _ _ (by omega) (by omega) (by omega) h2 (by omega)
      | false => rw [if_neg (by decide), if_neg (by decide)]; exact ih k _ _ (by omega) h0 (by omega) (by omega) (by omega)
    · rw [if_neg c, halveL_end _ _ _ _ c]
theorem spec_l13Quart_eq (k : Nat) (u v : Int) (hk : 190 ≤ k) (u0 : 0 ≤ u) (u1 : u ≤ 1000000000) (v0 : 0 ≤ v) (v1 : v ≤ 1000000000) :
    spec_l13Quart.f k u v = some ((halveL (wayQ (wayM1 u) (wayM2 v)) 26 0 32400000).1, (halveL (wayR (wayM1 u) (wayM2 v) (wayM3 u) (wayM4 v)) 26 0 32400000).2) := by
  unfold spec_l13Quart.f
  unfold spec_l13Ask_half.f
  rw [half_l0 false 0 u v false (wayQ (wayM1 u) (wayM2 v)) (fun k a hk a0 a1 => spec_l13Ask_less_q k u v a hk u0 u1 v0 v1 a0 a1) 26 k _ _ (by omega) (by decide) (by decide) (by decide) (by decide)]
  rw [half_l0 false 0 u v true (wayR (wayM1 u) (wayM2 v) (wayM3 u) (wayM4 v)) (fun k a hk a0 a1 => spec_l13Ask_less_r k u v a hk u0 u1 v0 v1 a0 a1) 26 k _ _ (by omega) (by decide) (by decide) (by decide) (by decide)]
  rfl
/-- the fan of a place, out of that of its quarter. -/
def wayFan (x y p q : Int) : Int × Int := if y < 0 then (if x < 0 then (wrap64 (-(wrap64 (64800000 - p))), wrap64 (-(wrap64 (64800000 - q)))) else (wrap64 (64800000 - q), wrap64 (64800000 - p))) else (if x < 0 then (wrap64 (-q), wrap64 (-p)) else (p, q))
/-- both ends of the halvings of a quarter. -/
def wayP (u v : Int) : Int := (halveL (wayQ (wayM1 u) (wayM2 v)) 26 0 32400000).1
def wayS (u v : Int) : Int := (halveL (wayR (wayM1 u) (wayM2 v) (wayM3 u) (wayM4 v)) 26 0 32400000).2
theorem abs_part (x : Int) (h : -1000000000 ≤ x ∧ x ≤ 1000000000) : 0 ≤ mx x (wrap64 (-x)) ∧ mx x (wrap64 (-x)) ≤ 1000000000 := by
  rw [w64 (x := -x) (by omega), mx_eq]; omega
theorem spec_WayOf_j0 (k : Nat) (x y : Int) (hk : 191 ≤ k) (hx : -1000000000 ≤ x ∧ x ≤ 1000000000) (hy : -1000000000 ≤ y ∧ y ≤ 1000000000) :
    spec_WayOf.j0 k x y false = some ((wayFan x y (wayP (mx x (wrap64 (-x))) (mx y (wrap64 (-y)))) (wayS (mx x (wrap64 (-x))) (mx y (wrap64 (-y))))).1, (wayFan x y (wayP (mx x (wrap64 (-x))) (mx y (wrap64 (-y)))) (wayS (mx x (wrap64 (-x))) (mx y (wrap64 (-y))))).2, true) := by
  obtain ⟨k, rfl⟩ : ∃ m, k = m + 1 := ⟨k - 1, by omega⟩
  have a := abs_part x hx
  have b := abs_part y hy
  simp only [spec_WayOf.j0, Bool.false_eq_true, if_false]
  rw [spec_l13Quart_eq k _ _ (by omega) a.1 a.2 b.1 b.2]
  simp only [Option.bind_some]
  unfold wayFan wayP wayS
  split
  · split <;> rfl
  · split <;> rfl
theorem spec_WayOf_yes (x y : Int) (hx : -1000000000 ≤ x ∧ x ≤ 1000000000) (hy : -1000000000 ≤ y ∧ y ≤ 1000000000) (z : ¬ (x = 0 ∧ y = 0)) :
    spec_WayOf.f 200 x y = some ((wayFan x y (wayP (mx x (wrap64 (-x))) (mx y (wrap64 (-y)))) (wayS (mx x (wrap64 (-x))) (mx y (wrap64 (-y))))).1, (wayFan x y (wayP (mx x (wrap64 (-x))) (mx y (wrap64 (-y)))) (wayS (mx x (wrap64 (-x))) (mx y (wrap64 (-y))))).2, true) := by
  unfold spec_WayOf.f
  rw [spec_l6In_eq, spec_l6In_eq, decide_eq_true hx, decide_eq_true hy]
  simp only [Option.bind_some, if_true]
  have e := spec_WayOf_j0 200 x y (by omega) hx hy
  by_cases c : x = 0
  · rw [if_pos c, show (y == 0) = false from beq_eq_false_iff_ne.2 (fun h => z ⟨c, h⟩)]; exact e
  · rw [if_neg c]; exact e
theorem spec_WayOf_no1 (x y : Int) (hx : ¬ (-1000000000 ≤ x ∧ x ≤ 1000000000)) : spec_WayOf.f 200 x y = some (0, 0, false) := by
  unfold spec_WayOf.f
  rw [spec_l6In_eq, decide_eq_false hx]
  simp only [Option.bind_some, Bool.false_eq_true, if_false]
  rw [show (200 : Nat) = 199 + 1 from rfl]
  simp only [spec_WayOf.j0, if_true]
theorem spec_WayOf_no2 (x y : Int) (hx : -1000000000 ≤ x ∧ x ≤ 1000000000) (hy : ¬ (-1000000000 ≤ y ∧ y ≤ 1000000000)) : spec_WayOf.f 200 x y = some (0, 0, false) := by
  unfold spec_WayOf.f
  rw [spec_l6In_eq, spec_l6In_eq, decide_eq_true hx, decide_eq_false hy]
  simp only [Option.bind_some, if_true, Bool.false_eq_true, if_false]
  rw [show (200 : Nat) = 199 + 1 from rfl]
  simp only [spec_WayOf.j0, if_true]
theorem spec_WayOf_no3 : spec_WayOf.f 200 0 0 = some (0, 0, false) := by
  unfold spec_WayOf.f
  rw [spec_l6In_eq, decide_eq_true (by decide)]
  simp only [Option.bind_some, if_true]
  rw [show (200 : Nat) = 199 + 1 from rfl, show ((0 : Int) == 0) = true from rfl]
  simp only [spec_WayOf.j0, if_true]
theorem impl_down_eq (a b : Int) (hb : 0 < b) (h1 : -4611686018427387904 ≤ a) (h2 : a ≤ 4611686018427387904) : impl_down.f a b = some (a / b) := by
  have t := AlMath.tdiv_bound a b 4611686018427387904 hb h1 h2
  unfold impl_down.f
  rw [if_neg (by omega), w64 (x := Int.tdiv a b) (by omega), w64 (x := Int.tdiv a b - 1) (by omega), ← AlMath.down_go a b hb]
  split <;> rfl
theorem impl_modulo_eq (a b : Int) (hb : 0 < b) (h1 : -1152921504606846976 ≤ a) (h2 : a ≤ 1152921504606846976) (hb2 : b ≤ 1152921504606846976) : impl_modulo.f a b = some (a % b) := by
  unfold impl_modulo.f
  rw [impl_down_eq _ _ hb (by omega) (by omega)]
  simp only [Option.bind_some]
  have e := Int.mul_ediv_add_emod a b
  have r0 := Int.emod_nonneg a (by omega : b ≠ 0)
  have r1 := Int.emod_lt_of_pos a hb
  rw [Int.mul_comm b] at e
  rw [w64 (x := a / b * b) (by omega), w64 (by omega)]
  congr 1; omega
theorem impl_in_eq (a l h : Int) : impl_in.f a l h = some (decide (l ≤ a ∧ a ≤ h)) := by
  unfold impl_in.f
  split
  · exact congrArg some (decide_eq_decide.2 (by omega))
  · exact congrArg some (decide_eq_false (by omega)).symm
theorem impl_SpanOk_eq (a b : Int) : impl_SpanOk.f a b = some (decide (Okay a b)) := by
  unfold impl_SpanOk.f
  rw [impl_in_eq, impl_in_eq]
  simp only [Option.bind_some, decide_eq_true_eq]
  by_cases h1 : -1073000000 ≤ a ∧ a ≤ 1073000000
  · by_cases h2 : -1073000000 ≤ b ∧ b ≤ 1073000000
    · rw [if_pos h1, if_pos h2]; exact congrArg some (decide_eq_decide.2 (by unfold Okay; omega))
    · rw [if_pos h1, if_neg h2]; exact congrArg some (decide_eq_false (by unfold Okay; omega)).symm
  · rw [if_neg h1]; exact congrArg some (decide_eq_false (by unfold Okay; omega)).symm
theorem impl_SpanNeg_eq (a b : Int) : impl_SpanNeg.f a b = if Okay a b then some (-b, -a) else some (0, 0) := by
  unfold impl_SpanNeg.f
  rw [impl_SpanOk_eq]
  simp only [Option.bind_some, decide_eq_true_eq]
  by_cases h : Okay a b
  · rw [if_pos h, if_pos h]; unfold Okay at h; rw [w64 (by omega), w64 (by omega)]
  · rw [if_neg h, if_neg h]
theorem impl_up_eq (a b : Int) (hb : 0 < b) (h1 : -4611686018427387904 ≤ a) (h2 : a ≤ 4611686018427387904) : impl_up.f a b = some (-(-a / b)) := by
  have t := AlMath.fl_bound (-a) b 4611686018427387904 hb (by omega) (by omega)
  unfold impl_up.f
  rw [w64 (x := -a) (by omega), impl_down_eq _ _ hb (by omega) (by omega)]
  simp only [Option.bind_some]
  rw [w64 (by omega)]
theorem impl_arc_eq (h : Int) (h0 : 0 ≤ h) (h1 : h ≤ 1000000000) : impl_arc.f h = some (arcP h) := by
  unfold impl_arc.f
  rw [w64 (x := h * 785398163) (by omega), w64 (x := h * 785398164) (by omega), impl_down_eq _ _ (by omega) (by omega) (by omega), impl_up_eq _ _ (by omega) (by omega) (by omega)]
  rfl
theorem impl_row_l0 (lo hi : Int) (lo0 : 0 ≤ lo) (lo1 : lo ≤ 1000000000) (hi0 : 0 ≤ hi) (hi1 : hi ≤ 1000000000) (d : Nat) :
    ∀ (k : Nat) (tk : Bool) (sl sh tl th n : Int), 3 * d + 3 ≤ k → 40 ≤ n + 2 * (d : Int) → 1 ≤ n → n + 2 * (d : Int) ≤ 60 → 0 ≤ tl → tl ≤ 1000000000 → 0 ≤ th → th ≤ 1000000000 →
      -1000000000000 + (d : Int) * 1000000000 ≤ sl → sl ≤ 1000000000000 - (d : Int) * 1000000000 → -1000000000000 + (d : Int) * 1000000000 ≤ sh → sh ≤ 1000000000000 - (d : Int) * 1000000000 →
      impl_row.l0 k n lo hi tk sl sh tl th = some (rowL lo hi d tk sl sh tl th n) := by
  induction d with
  | zero =>
    intro k tk sl sh tl th n hk h1 h2 h3 _ _ _ _ _ _ _ _
    obtain ⟨k, rfl⟩ : ∃ m, k = m + 2 := ⟨k - 2, by omega⟩
    simp only [impl_row.l0, impl_row.j1, rowL]
    by_cases e : th = 0
    · rw [if_pos e]; simp
    · rw [if_neg e, if_neg (by simp; omega)]
  | succ d ih =>
    intro k tk sl sh tl th n hk h1 h2 h3 tl0 tl1 th0 th1 s1 s2 s3 s4
    obtain ⟨k, rfl⟩ : ∃ m, k = m + 3 := ⟨k - 3, by omega⟩
    simp only [impl_row.l0, impl_row.j1, impl_row.j2, rowL]
    by_cases e : th = 0
    · rw [if_pos e, if_neg (by simp), if_neg (by simp [e])]
    · rw [if_neg e]
      by_cases c : n < 40
      · have m0 := Int.mul_nonneg tl0 lo0
        have m1 := Int.mul_le_mul tl1 lo1 lo0 (by omega)
        have m2 := Int.mul_nonneg th0 hi0
        have m3 := Int.mul_le_mul th1 hi1 hi0 (by omega)
        have q0 := Int.mul_le_mul (show n ≤ 60 by omega) (show n + 1 ≤ 61 by omega) (by omega) (by omega)
        have q1 := Int.mul_pos (show 0 < n by omega) (show 0 < n + 1 by omega)
        have B1 := tdn_bounds tl lo n tl0 lo0 lo1 h2
        have B2 := tup_bounds th hi n th0 hi0 hi1 h2
        rw [if_pos (decide_eq_true c), if_pos ⟨e, c⟩, w64 (x := n + 1) (by omega), w64 (x := n * (n + 1)) (by omega), w64 (x := tl * lo) (by omega), w64 (x := th * hi) (by omega)]
        rw [impl_down_eq _ _ (by omega) (by omega) (by omega), impl_up_eq _ _ (by omega) (by omega) (by omega)]
        simp only [Option.bind_some]
        have F1 := fl_bound (tl * lo) 1000000000 1000000000000000000 (by omega) (by omega) (by omega)
        have F2 := fl_bound (-(th * hi)) 1000000000 1000000000000000000 (by omega) (by omega) (by omega)
        rw [impl_down_eq _ _ q1 (by omega) (by omega), impl_up_eq _ _ q1 (by omega) (by omega)]
        simp only [Option.bind_some]
        change (if tup th hi n = 1 then _ else _) = _
        have ea : tl * lo / 1000000000 / (n * (n + 1)) = tdn tl lo n := rfl
        have eb : -(-(-(-(th * hi) / 1000000000)) / (n * (n + 1))) = tup th hi n := rfl
        rw [ea, eb]
        have cont : (if tk = true then impl_row.l0 k (wrap64 (n + 2)) lo hi (!tk) (wrap64 (sl - tup th hi n)) (wrap64 (sh - tdn tl lo n)) (tdn tl lo n) (tup th hi n)
            else impl_row.l0 k (wrap64 (n + 2)) lo hi (!tk) (wrap64 (sl + tdn tl lo n)) (wrap64 (sh + tup th hi n)) (tdn tl lo n) (tup th hi n)) =
            some (if tk = true then rowL lo hi d false (sl - tup th hi n) (sh - tdn tl lo n) (tdn tl lo n) (tup th hi n) (n + 2)
              else rowL lo hi d true (sl + tdn tl lo n) (sh + tup th hi n) (tdn tl lo n) (tup th hi n) (n + 2)) := by
          rw [w64 (x := n + 2) (by omega), w64 (x := sl - tup th hi n) (by omega), w64 (x := sh - tdn tl lo n) (by omega), w64 (x := sl + tdn tl lo n) (by omega), w64 (x := sh + tup th hi n) (by omega)]
          cases tk with
          | true => exact ih k false _ _ _ _ _ (by omega) (by omega) (by omega) (by omega) B1.1 (by omega) B2.1 (by omega) (by omega) (by omega) (by omega) (by omega)
          | false => exact ih k true _ _ _ _ _ (by omega) (by omega) (by omega) (by omega) B1.1 (by omega) B2.1 (by omega) (by omega) (by omega) (by omega) (by omega)
        by_cases x : tup th hi n = 1
        · rw [if_pos x]
          by_cases y : tdn tl lo n = 0
          · rw [if_pos (by simp [y]), if_pos ⟨x, y⟩, w64 (by omega), w64 (by omega)]
          · rw [if_neg (by simp [y]), if_neg (c := tup th hi n = 1 ∧ tdn tl lo n = 0) (fun z => y z.2)]; exact cont
        · rw [if_neg x, if_neg (by decide), if_neg (c := tup th hi n = 1 ∧ tdn tl lo n = 0) (fun z => x z.1)]; exact cont
      · rw [if_neg (by simp; omega), if_neg (fun z => c z.2)]
theorem impl_row_eq (k : Nat) (first x n : Int) (hk : 70 ≤ k) (f0 : 0 ≤ first) (f1 : first ≤ 1000000000) (x0 : 0 ≤ x) (x1 : x ≤ 900000000) (hn : n = 1 ∨ n = 2) :
    impl_row.f k first x n = some (rowP first x n) := by
  unfold impl_row.f rowP
  have m0 := Int.mul_nonneg x0 x0
  have m1 := Int.mul_le_mul x1 x1 x0 (by omega)
  rw [w64 (x := x * x) (by omega), impl_down_eq _ _ (by omega) (by omega) (by omega), impl_up_eq _ _ (by omega) (by omega) (by omega)]
  simp only [Option.bind_some]
  exact impl_row_l0 _ _ (by omega) (by omega) (by omega) (by omega) 21 k true _ _ _ _ _ (by omega) (by omega) (by omega) (by omega) f0 f1 f0 f1 (by omega) (by omega) (by omega) (by omega)
theorem arc_in' (h : Int) (h0 : 0 ≤ h) (h1 : h ≤ 32400000) : (0 ≤ (arcP h).1 ∧ (arcP h).1 ≤ 900000000) ∧ 0 ≤ (arcP h).2 ∧ (arcP h).2 ≤ 900000000 := by
  unfold arcP; simp only; omega
theorem impl_sine_quart (k : Nat) (h : Int) (hk : 71 ≤ k) (h0 : 0 ≤ h) (h1 : h ≤ 64800000) : impl_sine.f k h = some (quartP h) := by
  obtain ⟨k, rfl⟩ : ∃ m, k = m + 1 := ⟨k - 1, by omega⟩
  simp only [impl_sine.f]
  rw [impl_modulo_eq _ _ (by omega) (by omega) (by omega) (by omega), show h % 259200000 = h by omega]
  simp only [Option.bind_some]
  rw [if_neg (by omega), if_neg (by omega)]
  unfold quartP
  by_cases c0 : h = 0
  · rw [if_pos c0, if_pos c0]
  · rw [if_neg c0, if_neg c0]
    by_cases c1 : h = 21600000
    · rw [if_pos c1, if_pos c1]
    · rw [if_neg c1, if_neg c1]
      by_cases c2 : h = 64800000
      · rw [if_pos c2, if_pos c2]
      · rw [if_neg c2, if_neg c2]
        by_cases c3 : h ≤ 32400000
        · obtain ⟨a, b⟩ := arc_in' h h0 c3
          rw [if_pos c3, if_pos c3, impl_arc_eq h h0 (by omega)]
          simp only [Option.bind_some]
          rw [impl_row_eq _ _ _ _ (by omega) a.1 (by omega) a.1 a.2 (.inr rfl), impl_row_eq _ _ _ _ (by omega) b.1 (by omega) b.1 b.2 (.inr rfl)]
          simp only [Option.bind_some]
          rw [mx_eq, smallP_def]
        · obtain ⟨a, b⟩ := arc_in' (64800000 - h) (by omega) (by omega)
          rw [if_neg c3, if_neg c3, w64 (by omega), impl_arc_eq _ (by omega) (by omega)]
          simp only [Option.bind_some]
          rw [impl_row_eq _ _ _ _ (by omega) (by omega) (by omega) b.1 b.2 (.inl rfl), impl_row_eq _ _ _ _ (by omega) (by omega) (by omega) a.1 a.2 (.inl rfl)]
          simp only [Option.bind_some]
          rw [mn_eq, nearP_def]
theorem impl_sine_half (k : Nat) (h : Int) (hk : 72 ≤ k) (h0 : 0 ≤ h) (h1 : h < 129600000) : impl_sine.f k h = some (halfP h) := by
  unfold halfP
  by_cases c : h > 64800000
  · obtain ⟨k, rfl⟩ : ∃ m, k = m + 1 := ⟨k - 1, by omega⟩
    simp only [impl_sine.f]
    rw [impl_modulo_eq _ _ (by omega) (by omega) (by omega) (by omega), show h % 259200000 = h by omega]
    simp only [Option.bind_some]
    rw [if_neg (by omega), if_pos c, if_pos c, w64 (by omega), impl_sine_quart k _ (by omega) (by omega) (by omega)]; rfl
  · rw [if_neg c, impl_sine_quart k _ (by omega) h0 (by omega)]
theorem impl_sine_eq (k : Nat) (h : Int) (hk : 73 ≤ k) (h0 : -1152921504606846976 ≤ h) (h1 : h ≤ 1152921504606846976) : impl_sine.f k h = some (sineP h) := by
  unfold sineP
  have m := impl_modulo_eq h 259200000 (by omega) h0 h1 (by omega)
  have r0 : 0 ≤ h % 259200000 := by omega
  have r1 : h % 259200000 < 259200000 := by omega
  by_cases c : h % 259200000 ≥ 129600000
  · obtain ⟨k, rfl⟩ : ∃ m, k = m + 1 := ⟨k - 1, by omega⟩
    have o := halfP_ok (h % 259200000 - 129600000) (by omega) (by omega)
    simp only [impl_sine.f]
    rw [m]
    simp only [Option.bind_some]
    rw [if_pos c, if_pos c, w64 (by omega), impl_sine_half k _ (by omega) (by omega) (by omega)]
    simp only [Option.bind_some]
    rw [impl_SpanNeg_eq, if_pos (by unfold Okay; omega)]
    rfl
  · rw [if_neg c]
    have e := impl_sine_half k (h % 259200000) (by omega) (by omega) (by omega)
    rw [← e]
    obtain ⟨k, rfl⟩ : ∃ m, k = m + 1 := ⟨k - 1, by omega⟩
    simp only [impl_sine.f]
    rw [m, impl_modulo_eq (h % 259200000) _ (by omega) (by omega) (by omega) (by omega), show h % 259200000 % 259200000 = h % 259200000 by omega]
theorem impl_cosine_eq (k : Nat) (a : Int) (hk : 73 ≤ k) (h : -3000000000000 ≤ a ∧ a ≤ 3000000000000) : impl_cosine.f k a = some (sineP (2 * a + 64800000)) := by
  unfold impl_cosine.f
  rw [w64 (x := a + 32400000) (by omega), w64 (by omega), impl_sine_eq k _ hk (by omega) (by omega), show 2 * (a + 32400000) = 2 * a + 64800000 by omega]
  rfl
theorem impl_isPart_eq (a : Int) : impl_isPart.f a = some (decide (-1000000000 ≤ a ∧ a ≤ 1000000000)) := by
  unfold impl_isPart.f; rw [impl_in_eq]; rfl
theorem laws_eqFan_eq (a b : Int) : laws_eqFan.f a b a b = some true := by unfold laws_eqFan.f; simp
--MATH
--ROOTS spec_WayOf impl_cosine impl_sine impl_down impl_up impl_isPart laws_eqFan
--IMPORT SWay SLawE
theorem sides (u v a : Int) (u0 : 0 ≤ u) (u1 : u ≤ 1000000000) (v0 : 0 ≤ v) (v1 : v ≤ 1000000000) (a0 : -32400000 ≤ a) (a1 : a ≤ 32400000) :
    Sides 200 u v a (sineP (2 * a)).1 (sineP (2 * a)).2 (sineP (2 * a + 64800000)).1 (sineP (2 * a + 64800000)).2 (wayM1 u a) (wayM2 v a) (wayM3 u a) (wayM4 v a) := by
  have s := sineP_ok (2 * a)
  have c := sineP_ok (2 * a + 64800000)
  have p1 := prod_small u (sineP (2 * a + 64800000)).1 u0 u1 (by omega) (by omega)
  have p2 := prod_small v (sineP (2 * a)).2 v0 v1 (by omega) (by omega)
  have p3 := prod_small u (sineP (2 * a + 64800000)).2 u0 u1 (by omega) (by omega)
  have p4 := prod_small v (sineP (2 * a)).1 v0 v1 (by omega) (by omega)
  refine ⟨?_, ?_, ?_, ?_, ?_, ?_⟩
  · rw [w64 (by omega), impl_sine_eq 200 _ (by omega) (by omega) (by omega)]
  · rw [impl_cosine_eq 200 a (by omega) (by omega)]
  · rw [w64 (by omega), impl_down_eq _ _ (by decide) (by omega) (by omega)]; rfl
  · rw [w64 (by omega), impl_up_eq _ _ (by decide) (by omega) (by omega)]; rfl
  · rw [w64 (by omega), impl_up_eq _ _ (by decide) (by omega) (by omega)]; rfl
  · rw [w64 (by omega), impl_down_eq _ _ (by decide) (by omega) (by omega)]; rfl
theorem down_two (a : Int) (h0 : -64800000 ≤ a) (h1 : a ≤ 64800000) : impl_down.f a 2 = some (a / 2) := impl_down_eq a 2 (by decide) (by omega) (by omega)
theorem way_calls (x y : Int) (hx : -1000000000 ≤ x ∧ x ≤ 1000000000) (hy : -1000000000 ≤ y ∧ y ≤ 1000000000) (w : World) :
    Calls Try.prog 45 #[.int .i64 x, .int .i64 y] w fun e w' => e = .returned (.agg #[.int .i64 (wayFan x y (wayP (mx x (wrap64 (-x))) (mx y (wrap64 (-y)))) (wayS (mx x (wrap64 (-x))) (mx y (wrap64 (-y))))).1, .int .i64 (wayFan x y (wayP (mx x (wrap64 (-x))) (mx y (wrap64 (-y)))) (wayS (mx x (wrap64 (-x))) (mx y (wrap64 (-y))))).2]) ∧ Below w.heap.size w w' := by
  have a := abs_part x hx
  have b := abs_part y hy
  have h70 := fun w B D hb hd => halved70 200 (mx x (wrap64 (-x))) (mx y (wrap64 (-y))) _ _ _ _ _ _ _ _ (fun c c0 c1 => sides _ _ c a.1 a.2 b.1 b.2 c0 c1) down_two 26 (by decide) w B D hb hd
  have h72 := fun w B D E F hb hd he hf => halved72 200 (mx x (wrap64 (-x))) (mx y (wrap64 (-y))) _ _ _ _ _ _ _ _ (fun c c0 c1 => sides _ _ c a.1 a.2 b.1 b.2 c0 c1) down_two 26 (by decide) w B D E F hb hd he hf
  unfold wayFan wayP wayS
  by_cases cy : y < 0
  · rw [if_pos cy]
    by_cases cx : x < 0
    · rw [if_pos cx]
      exact impl_wayOf.calls_c11 x y _ _ _ _ (decide_eq_true cy) (decide_eq_true cx) h70 h72 w
    · rw [if_neg cx]
      exact impl_wayOf.calls_c10 x y _ _ _ _ (decide_eq_true cy) (decide_eq_false cx) h70 h72 w
  · rw [if_neg cy]
    by_cases cx : x < 0
    · rw [if_pos cx]
      exact impl_wayOf.calls_c01 x y _ _ _ _ (decide_eq_false cy) (decide_eq_true cx) h70 h72 w
    · rw [if_neg cx]
      exact impl_wayOf.calls_c00 x y _ _ _ _ (decide_eq_false cy) (decide_eq_false cx) h70 h72 w
theorem FnExactWayOf_walk (x y : Int) (w : World) : Calls Try.prog 9 #[.int .i64 x, .int .i64 y] w fun e w' => e = .returned (.bool true) ∧ Below w.heap.size w w' := by
  by_cases hx : -1000000000 ≤ x ∧ x ≤ 1000000000
  · have px : impl_isPart.f x = some true := by rw [impl_isPart_eq, decide_eq_true hx]
    by_cases hy : -1000000000 ≤ y ∧ y ≤ 1000000000
    · have py : impl_isPart.f y = some true := by rw [impl_isPart_eq, decide_eq_true hy]
      by_cases zx : x = 0
      · by_cases zy : y = 0
        · subst zx zy
          exact laws_FnExactWayOf.calls 0 0 _ _ false (fun w => spec_WayOf.calls 200 0 0 _ _ false w spec_WayOf_no3) (fun w => impl_WayOf.calls_no3 0 0 px py rfl rfl w) (laws_eqFan_eq _ _) w
        · exact laws_FnExactWayOf.calls x y _ _ true (fun w => spec_WayOf.calls 200 x y _ _ true w (spec_WayOf_yes x y hx hy (fun h => zy h.2))) (fun w => impl_WayOf.calls_yes2 x y _ _ px py (beq_iff_eq.2 zx) (beq_eq_false_iff_ne.2 zy) (fun w => way_calls x y hx hy w) w) (laws_eqFan_eq _ _) w
      · exact laws_FnExactWayOf.calls x y _ _ true (fun w => spec_WayOf.calls 200 x y _ _ true w (spec_WayOf_yes x y hx hy (fun h => zx h.1))) (fun w => impl_WayOf.calls_yes1 x y _ _ px py (beq_eq_false_iff_ne.2 zx) (fun w => way_calls x y hx hy w) w) (laws_eqFan_eq _ _) w
    · exact laws_FnExactWayOf.calls x y _ _ false (fun w => spec_WayOf.calls 200 x y _ _ false w (spec_WayOf_no2 x y hx hy)) (fun w => impl_WayOf.calls_no2 x y px (by rw [impl_isPart_eq, decide_eq_false hy]) w) (laws_eqFan_eq _ _) w
  · exact laws_FnExactWayOf.calls x y _ _ false (fun w => spec_WayOf.calls 200 x y _ _ false w (spec_WayOf_no1 x y hx)) (fun w => impl_WayOf.calls_no1 x y (by rw [impl_isPart_eq, decide_eq_false hx]) w) (laws_eqFan_eq _ _) w
end Go.Proofs.Ytmncignfkpkcjaa.PureFnExactWayOf
