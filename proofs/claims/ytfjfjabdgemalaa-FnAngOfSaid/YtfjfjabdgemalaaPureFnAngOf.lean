/- The statement FnAngOf holds of what the Go functions compute. -/
import Derived.Test.YtfjfjabdgemalaaAlA
import Derived.Test.YtfjfjabdgemalaaSC
import Derived.Test.YtfjfjabdgemalaaSA
import Derived.Test.YtfjfjabdgemalaaSFspecAngParts
import Derived.Test.YtfjfjabdgemalaaSFspecDrawAngOf
import Derived.Test.YtfjfjabdgemalaaSFspecl11Whole
import Derived.Test.YtfjfjabdgemalaaSFspecAngOf
import Derived.Test.YtfjfjabdgemalaaSB
import Derived.Test.YtfjfjabdgemalaaSFimplAngOf
import Derived.Test.YtfjfjabdgemalaaSFimplaTurn
import Derived.Test.YtfjfjabdgemalaaSFimplAngParts
import Derived.Test.YtfjfjabdgemalaaSFlawsFnAngOf
namespace Go.Proofs.Ytfjfjabdgemalaa.PureFnAngOf
open Go.RowKit AlMath Go.Proofs.Ytfjfjabdgemalaa.S Go.Proofs.YtfjfjabdgemalaaW.PrintWords Go.Proofs.YtfjfjabdgemalaaW.PrintLast
theorem w64 {x : Int} (h : -9223372036854775808 ≤ x ∧ x ≤ 9223372036854775807) : wrap64 x = x := by unfold wrap64; omega
theorem wf64 {x : Int} (h : (Lit.int .i64 x).wf = true) : -9223372036854775808 ≤ x ∧ x ≤ 9223372036854775807 := by
  simp [Lit.wf, IntKind.min, IntKind.max, IntKind.signed, IntKind.bits] at h; omega
theorem wf8 {x : Int} (h : (Lit.int .u8 x).wf = true) : 0 ≤ x ∧ x ≤ 255 := by
  simp [Lit.wf, IntKind.min, IntKind.max, IntKind.signed, IntKind.bits] at h; omega
theorem mx_eq (a b : Int) : mx a b = max a b := by unfold mx; omega
theorem mn_eq (a b : Int) : mn a b = min a b := by unfold mn; omega
/-- what a reader reads. -/
def Rdr (l : List Int) : Prop := (∀ x ∈ l, 0 ≤ x ∧ x ≤ 255) ∧ l.length ≤ 2000
theorem Rdr.at_ {l : List Int} (h : Rdr l) (i : Int) : 0 ≤ rd l i ∧ rd l i ≤ 255 := by
  unfold rd
  rw [List.getD_eq_getElem?_getD]
  cases e : l[i.toNat]? with
  | none => simp
  | some v => simp; exact h.1 v (List.mem_of_getElem? e)
theorem spec_l6Open_ex (l : List Int) (h : ∀ x ∈ l, (Lit.int .u8 x).wf = true) : ∃ s, spec_l6Open.f l = some (s, 0) ∧ Rdr s := by
  unfold spec_l6Open.f
  split
  · rw [if_pos (by omega)]
    exact ⟨_, rfl, fun x hx => wf8 (h x (List.mem_of_mem_take hx)), by simp; omega⟩
  · exact ⟨_, rfl, fun x hx => wf8 (h x hx), by omega⟩
theorem xor_nonneg (a b : Int) (ha : 0 ≤ a) (ha1 : a < 1099511627776) (hb : 0 ≤ b) (hb1 : b < 1099511627776) : 0 ≤ Go.bits .xor .i64 a b := by
  obtain ⟨n, rfl⟩ := Int.eq_ofNat_of_zero_le ha
  obtain ⟨m, rfl⟩ := Int.eq_ofNat_of_zero_le hb
  have e1 : n % 2 ^ IntKind.i64.bits = n := Nat.mod_eq_of_lt (show n < 2 ^ 64 by omega)
  have e2 : m % 2 ^ IntKind.i64.bits = m := Nat.mod_eq_of_lt (show m < 2 ^ 64 by omega)
  have x := Nat.xor_lt_two_pow (n := 40) (x := n) (y := m) (by omega) (by omega)
  have e : Go.bits .xor .i64 (n : Int) (m : Int) = IntKind.i64.wrap ((n ^^^ m : Nat) : Int) := by
    simp only [Go.bits, BitVec.ofInt_natCast, BitVec.toNat_xor, BitVec.toNat_ofNat, e1, e2]
  rw [e, IntKind.wrap_i64]
  omega
theorem pick_ex (k : Nat) (l : List Int) (p n : Int) (hk : 1 ≤ k) (h : Rdr l) (h0 : 0 ≤ p) (h1 : p ≤ 100000) (hn : 1 ≤ n) (hn1 : n ≤ 4611686018427387904) :
    ∃ v, spec_l6Rd_pick.f k l p n = some (v, p + 1) ∧ 0 ≤ v ∧ v < n := by
  obtain ⟨k, rfl⟩ : ∃ m, k = m + 1 := ⟨k - 1, by omega⟩
  unfold spec_l6Rd_pick.f
  rw [if_neg (by omega), w64 (x := p + 1) (by omega)]
  simp only [spec_l6Rd_pick.j0]
  have hl := h.2
  rw [w64 (x := p + 1 - 1) (by omega), show p + 1 - 1 = p by omega]
  by_cases e : (l.length : Int) = 0
  · rw [if_pos (by simpa using e)]
    exact ⟨0, rfl, by omega, by omega⟩
  · rw [if_neg (by simpa using e)]
    by_cases hp : p < (l.length : Int)
    · have r := h.at_ p
      rw [if_pos hp, if_pos h0, if_neg (by omega), w64 (x := rd l p) (by omega), Int.tmod_eq_emod_of_nonneg r.1]
      exact ⟨_, rfl, Int.emod_nonneg _ (by omega), Int.emod_lt_of_pos _ (by omega)⟩
    · have hL : 0 < (l.length : Int) := by omega
      have m1 := Int.emod_nonneg p (by omega : (l.length : Int) ≠ 0)
      have m2 := Int.emod_lt_of_pos p hL
      have m3 := Int.emod_nonneg (p * 7 + 3) (by omega : (l.length : Int) ≠ 0)
      have m4 := Int.emod_lt_of_pos (p * 7 + 3) hL
      have d := AlMath.fl_bound p l.length 100000 hL (by omega) (by omega)
      have d0 := Int.ediv_nonneg h0 (by omega : 0 ≤ (l.length : Int))
      rw [if_neg hp, if_neg e, w64 (x := p * 7) (by omega), w64 (x := p * 7 + 3) (by omega), Int.tmod_eq_emod_of_nonneg (b := (l.length : Int)) h0, Int.tmod_eq_emod_of_nonneg (b := (l.length : Int)) (show 0 ≤ p * 7 + 3 by omega), Int.tdiv_eq_ediv_of_nonneg (b := (l.length : Int)) h0]
      rw [if_pos m1, if_pos m2, if_pos m3, if_pos m4, if_neg (by omega)]
      have r1 := h.at_ (p % l.length)
      have r2 := h.at_ ((p * 7 + 3) % l.length)
      generalize rd l (p % l.length) = u at *
      generalize rd l ((p * 7 + 3) % l.length) = v at *
      generalize p / l.length = w at *
      rw [w64 (x := u) (by omega), w64 (x := v) (by omega), w64 (x := u * 131) (by omega), w64 (x := v * 1117) (by omega), w64 (x := u * 131 + v * 1117) (by omega), w64 (x := p * 29) (by omega), w64 (x := u * 131 + v * 1117 + p * 29) (by omega), w64 (x := w) (by omega), w64 (x := w * 53) (by omega), w64 (x := u * 131 + v * 1117 + p * 29 + w * 53) (by omega)]
      rw [Int.tdiv_eq_ediv_of_nonneg (by omega), w64 (x := (u * 131 + v * 1117 + p * 29 + w * 53) / 64) (by omega)]
      have x0 := xor_nonneg (u * 131 + v * 1117 + p * 29 + w * 53) ((u * 131 + v * 1117 + p * 29 + w * 53) / 64) (by omega) (by omega) (by omega) (by omega)
      rw [Int.tmod_eq_emod_of_nonneg x0]
      exact ⟨_, rfl, Int.emod_nonneg _ (by omega), Int.emod_lt_of_pos _ (by omega)⟩
theorem big_j1 (k : Nat) (l : List Int) (m x p : Int) (hk : 2 ≤ k) (h : Rdr l) (h0 : 0 ≤ p) (h1 : p ≤ 100000) (hm : 3 ≤ m) (hm1 : m ≤ 1152921504606846976) (hx : -3 ≤ x) (hx1 : x ≤ 1152921504606846976) :
    ∃ v p', spec_l71Big.j1 k m x l p = some (v, p') ∧ p ≤ p' ∧ p' ≤ p + 1 ∧ -m ≤ v ∧ v ≤ m := by
  obtain ⟨k, rfl⟩ : ∃ m, k = m + 1 := ⟨k - 1, by omega⟩
  simp only [spec_l71Big.j1]
  by_cases c : x < 0
  · rw [if_pos c]; exact ⟨x, p, rfl, by omega, by omega, by omega, by omega⟩
  · obtain ⟨v, e, v0, v1⟩ := pick_ex k l p 2 (by omega) h h0 h1 (by omega) (by omega)
    have r0 := Int.emod_nonneg x (by omega : m + 1 ≠ 0)
    have r1 := Int.emod_lt_of_pos x (show 0 < m + 1 by omega)
    rw [if_neg c, w64 (x := m + 1) (by omega), if_neg (by omega), e, Int.tmod_eq_emod_of_nonneg (by omega)]
    simp only [Option.bind_some]
    split
    · rw [w64 (by omega)]; exact ⟨_, _, rfl, by omega, by omega, by omega, by omega⟩
    · exact ⟨_, _, rfl, by omega, by omega, by omega, by omega⟩
theorem big_l0 (d : Nat) : ∀ (k : Nat) (l : List Int) (m x i p : Int), d + 3 ≤ k → Rdr l → 0 ≤ p → p + d ≤ 90000 → 3 ≤ m → m ≤ 1152921504606846976 → i + d = 4 → 0 ≤ i → 0 ≤ x → x * 32768 ^ d ≤ 1152921504606846976 - 32768 ^ d →
    ∃ v p', spec_l71Big.l0 k m x i l p = some (v, p') ∧ p ≤ p' ∧ p' ≤ p + d + 1 ∧ -m ≤ v ∧ v ≤ m := by
  induction d with
  | zero =>
    intro k l m x i p hk h h0 h1 hm hm1 hi i0 hx hx1
    obtain ⟨k, rfl⟩ : ∃ m, k = m + 1 := ⟨k - 1, by omega⟩
    simp only [spec_l71Big.l0]
    rw [if_neg (by omega)]
    obtain ⟨v, p', e, a, b, c, d⟩ := big_j1 k l m x p (by omega) h h0 (by omega) hm hm1 (by omega) (by omega)
    exact ⟨v, p', e, a, by omega, c, d⟩
  | succ d ih =>
    intro k l m x i p hk h h0 h1 hm hm1 hi i0 hx hx1
    obtain ⟨k, rfl⟩ : ∃ m, k = m + 1 := ⟨k - 1, by omega⟩
    simp only [spec_l71Big.l0]
    obtain ⟨v, e, v0, v1⟩ := pick_ex k l p 32768 (by omega) h h0 (by omega) (by omega) (by omega)
    have pw : (1 : Int) ≤ 32768 ^ d := Int.pow_pos (by omega)
    have y1 : (x * 32768 + v) * 32768 ^ d ≤ 1152921504606846976 - 32768 ^ d := by
      have e1 : x * 32768 ^ (d + 1) = x * 32768 * 32768 ^ d := by rw [Int.pow_succ, Int.mul_comm (32768 ^ d), Int.mul_assoc]
      have e2 : (32768 : Int) ^ (d + 1) = 32768 * 32768 ^ d := by rw [Int.pow_succ, Int.mul_comm]
      have q := Int.mul_le_mul_of_nonneg_right (show v ≤ 32767 by omega) (show 0 ≤ (32768 : Int) ^ d by omega)
      rw [e1, e2] at hx1
      rw [Int.add_mul]
      omega
    have y2 : x * 32768 + v ≤ 1152921504606846976 := by
      have q := Int.mul_le_mul_of_nonneg_left pw (show 0 ≤ x * 32768 + v by omega)
      omega
    rw [if_pos (by omega), e]
    simp only [Option.bind_some]
    rw [w64 (x := x * 32768) (by omega), w64 (x := x * 32768 + v) (by omega), w64 (x := i + 1) (by omega)]
    obtain ⟨v', p', e', a, b, c, d'⟩ := ih k l m (x * 32768 + v) (i + 1) (p + 1) (by omega) h (by omega) (by omega) hm hm1 (by omega) (by omega) (by omega) y1
    exact ⟨v', p', e', by omega, by omega, c, d'⟩
theorem big_ex (k : Nat) (l : List Int) (p m : Int) (hk : 10 ≤ k) (h : Rdr l) (h0 : 0 ≤ p) (h1 : p ≤ 80000) (hm : 3 ≤ m) (hm1 : m ≤ 1152921504606846976) :
    ∃ v p', spec_l71Big.f k l p m = some (v, p') ∧ p ≤ p' ∧ p' ≤ p + 10 ∧ -m ≤ v ∧ v ≤ m := by
  unfold spec_l71Big.f
  obtain ⟨v, e, v0, v1⟩ := pick_ex k l p 6 (by omega) h h0 (by omega) (by omega) (by omega)
  rw [e]; simp only [Option.bind_some]
  split
  · obtain ⟨v, e, v0, v1⟩ := pick_ex k l (p + 1) 7 (by omega) h (by omega) (by omega) (by omega) (by omega)
    rw [e]; simp only [Option.bind_some]
    rw [w64 (by omega)]
    obtain ⟨v, p', e, a, b, c, d⟩ := big_j1 k l m (v - 3) (p + 1 + 1) (by omega) h (by omega) (by omega) hm hm1 (by omega) (by omega)
    exact ⟨v, p', e, by omega, by omega, c, d⟩
  · split
    · obtain ⟨v, e, v0, v1⟩ := pick_ex k l (p + 1) 3 (by omega) h (by omega) (by omega) (by omega) (by omega)
      rw [e]; simp only [Option.bind_some]
      rw [w64 (by omega)]
      obtain ⟨v, p', e, a, b, c, d⟩ := big_j1 k l m (m - v) (p + 1 + 1) (by omega) h (by omega) (by omega) hm hm1 (by omega) (by omega)
      exact ⟨v, p', e, by omega, by omega, c, d⟩
    · split
      · obtain ⟨v, e, v0, v1⟩ := pick_ex k l (p + 1) 1048576 (by omega) h (by omega) (by omega) (by omega) (by omega)
        rw [e]; simp only [Option.bind_some]
        obtain ⟨v, p', e, a, b, c, d⟩ := big_j1 k l m v (p + 1 + 1) (by omega) h (by omega) (by omega) hm hm1 (by omega) (by omega)
        exact ⟨v, p', e, by omega, by omega, c, d⟩
      · obtain ⟨v, p', e, a, b, c, d⟩ := big_l0 4 k l m 0 0 (p + 1) (by omega) h (by omega) (by omega) hm hm1 (by omega) (by omega) (by omega) (by decide)
        exact ⟨v, p', e, by omega, by omega, c, d⟩
theorem ang_ex (k : Nat) (l : List Int) (p : Int) (hk : 10 ≤ k) (h : Rdr l) (h0 : 0 ≤ p) (h1 : p ≤ 70000) :
    ∃ v p', spec_l71Ang.f k l p = some (v, p') ∧ p ≤ p' ∧ p' ≤ p + 15 ∧ -300000000 ≤ v ∧ v ≤ 300000000 := by
  unfold spec_l71Ang.f
  obtain ⟨v, e, v0, v1⟩ := pick_ex k l p 6 (by omega) h h0 (by omega) (by omega) (by omega)
  rw [e]; simp only [Option.bind_some]
  split
  · obtain ⟨v, e, v0, v1⟩ := pick_ex k l (p + 1) 49 (by omega) h (by omega) (by omega) (by omega) (by omega)
    rw [e]; simp only [Option.bind_some]
    rw [w64 (x := v - 24) (by omega), w64 (x := (v - 24) * 32400000) (by omega)]
    have := AlMath.tdiv_bound ((v - 24) * 32400000) 6 1000000000 (by omega) (by omega) (by omega)
    have t : Int.tdiv ((v - 24) * 32400000) 6 = (v - 24) * 5400000 := by
      rw [show (v - 24) * 32400000 = (v - 24) * 5400000 * 6 by omega]; exact Int.mul_tdiv_cancel _ (by omega)
    rw [t, w64 (by omega)]
    exact ⟨_, _, rfl, by omega, by omega, by omega, by omega⟩
  · split
    · obtain ⟨v, e, v0, v1⟩ := pick_ex k l (p + 1) 721 (by omega) h (by omega) (by omega) (by omega) (by omega)
      rw [e]; simp only [Option.bind_some]
      rw [w64 (x := v - 360) (by omega), w64 (by omega)]
      exact ⟨_, _, rfl, by omega, by omega, by omega, by omega⟩
    · split
      · obtain ⟨v, e, v0, v1⟩ := pick_ex k l (p + 1) 13 (by omega) h (by omega) (by omega) (by omega) (by omega)
        rw [e]; simp only [Option.bind_some]
        obtain ⟨u, e, u0, u1⟩ := pick_ex k l (p + 1 + 1) 5 (by omega) h (by omega) (by omega) (by omega) (by omega)
        rw [e]; simp only [Option.bind_some]
        rw [w64 (x := v - 6) (by omega), w64 (x := (v - 6) * 32400000) (by omega), w64 (x := (v - 6) * 32400000 + u) (by omega), w64 (by omega)]
        exact ⟨_, _, rfl, by omega, by omega, by omega, by omega⟩
      · obtain ⟨v, p', e, a, b, c, d⟩ := big_ex k l (p + 1) 129600000 (by omega) h (by omega) (by omega) (by omega) (by omega)
        rw [e]; simp only [Option.bind_some]
        exact ⟨_, _, rfl, by omega, by omega, by omega, by omega⟩
theorem spec_l6In_eq (a l h : Int) : spec_l6In.f a l h = some (decide (l ≤ a ∧ a ≤ h)) := by
  unfold spec_l6In.f
  split
  · exact congrArg some (decide_eq_decide.2 (by omega))
  · exact congrArg some (decide_eq_false (by omega)).symm
theorem spec_AngParts_eq (a : Int) : spec_AngParts.f a = some (partsP a) := by
  unfold spec_AngParts.f
  rw [spec_l6In_eq]
  simp only [Option.bind_some, decide_eq_true_eq]
  by_cases h : -129600000 ≤ a ∧ a ≤ 129600000
  · rw [if_pos h, partsP_yes a h]
    by_cases c : a < 0
    · rw [if_pos c, if_pos c, w64 (x := -a) (by omega)]
      have m0 := Int.emod_nonneg (-a) (show (360000 : Int) ≠ 0 by decide)
      have m1 := Int.emod_nonneg (-a) (show (6000 : Int) ≠ 0 by decide)
      rw [Int.tmod_eq_emod_of_nonneg (by omega), Int.tmod_eq_emod_of_nonneg (by omega), Int.tmod_eq_emod_of_nonneg (by omega), Int.tdiv_eq_ediv_of_nonneg (by omega), Int.tdiv_eq_ediv_of_nonneg m0, Int.tdiv_eq_ediv_of_nonneg m1, w64 (x := -a / 360000) (by omega), w64 (x := -a % 360000 / 6000) (by omega), w64 (x := -a % 6000 / 100) (by omega)]
    · rw [if_neg c, if_neg c]
      have m0 := Int.emod_nonneg a (show (360000 : Int) ≠ 0 by decide)
      have m1 := Int.emod_nonneg a (show (6000 : Int) ≠ 0 by decide)
      rw [Int.tmod_eq_emod_of_nonneg (by omega), Int.tmod_eq_emod_of_nonneg (by omega), Int.tmod_eq_emod_of_nonneg (by omega), Int.tdiv_eq_ediv_of_nonneg (by omega), Int.tdiv_eq_ediv_of_nonneg m0, Int.tdiv_eq_ediv_of_nonneg m1, w64 (x := a / 360000) (by omega), w64 (x := a % 360000 / 6000) (by omega), w64 (x := a % 6000 / 100) (by omega)]
  · rw [if_neg h, partsP_no a h]
theorem DrawAngOf_ex (k : Nat) (l : List Int) (hk : 10 ≤ k) (h : ∀ x ∈ l, (Lit.int .u8 x).wf = true) : ∃ v, spec_DrawAngOf.f k l = some v := by
  unfold spec_DrawAngOf.f
  obtain ⟨s, e, hs⟩ := spec_l6Open_ex l h
  rw [e]; simp only [Option.bind_some]
  obtain ⟨v, p', e, a, b, c, d⟩ := ang_ex k s 0 hk hs (by omega) (by omega)
  rw [e]; simp only [Option.bind_some]
  rw [spec_AngParts_eq]; simp only [Option.bind_some]
  obtain ⟨u, e, u0, u1⟩ := pick_ex k s p' 10 (by omega) hs (by omega) (by omega) (by omega) (by omega)
  rw [e]; simp only [Option.bind_some]
  obtain ⟨x, e, x0, x1⟩ := pick_ex k s (p' + 1) 3 (by omega) hs (by omega) (by omega) (by omega) (by omega)
  obtain ⟨y, e', y0, y1⟩ := pick_ex k s (p' + 1) 2 (by omega) hs (by omega) (by omega) (by omega) (by omega)
  rw [e, e']; simp only [Option.bind_some]
  rw [if_pos x0, if_pos (show x < (([(-1), 361, 360] : List Int).length : Int) from by simpa using x1), if_pos y0]
  repeat' split
  all_goals first | exact ⟨_, rfl⟩ | (exfalso; simp at *; omega)
theorem spec_l11Whole_eq (s : Bool) (d m p c : Int) (h1 : 0 ≤ d ∧ d ≤ 360) (h2 : 0 ≤ m ∧ m ≤ 59) (h3 : 0 ≤ p ∧ p ≤ 59) (h4 : 0 ≤ c ∧ c ≤ 99) : spec_l11Whole.f s d m p c = some (d * 360000 + m * 6000 + p * 100 + c) := by
  unfold spec_l11Whole.f
  rw [w64 (x := d * 360000) (by omega), w64 (x := m * 6000) (by omega), w64 (x := p * 100) (by omega), w64 (x := d * 360000 + m * 6000) (by omega), w64 (x := d * 360000 + m * 6000 + p * 100) (by omega), w64 (x := d * 360000 + m * 6000 + p * 100 + c) (by omega)]
theorem spec_AngOf_eq (k : Nat) (hk : 2 ≤ k) (s : Bool) (d m p c : Int) : spec_AngOf.f k s d m p c = some (angOfP s d m p c) := by
  obtain ⟨k, rfl⟩ : ∃ n, k = n + 1 + 1 := ⟨k - 2, by omega⟩
  unfold spec_AngOf.f
  rw [spec_l6In_eq, spec_l6In_eq, spec_l6In_eq, spec_l6In_eq]
  simp only [Option.bind_some, decide_eq_true_eq]
  have bad : ¬ angOk s d m p c → spec_AngOf.j0 (k + 1 + 1) true s d m p c = some (angOfP s d m p c) := by
    intro h
    unfold angOfP
    rw [if_neg h]
    simp only [spec_AngOf.j0, if_true]
  by_cases h1 : 0 ≤ d ∧ d ≤ 360
  · rw [if_pos h1]
    by_cases h2 : 0 ≤ m ∧ m ≤ 59
    · rw [if_pos h2]
      by_cases h3 : 0 ≤ p ∧ p ≤ 59
      · rw [if_pos h3]
        by_cases h4 : 0 ≤ c ∧ c ≤ 99
        · rw [decide_eq_true h4]
          simp only [spec_AngOf.j0, spec_AngOf.j1, Bool.not_true, Bool.false_eq_true, if_false]
          rw [spec_l11Whole_eq s d m p c h1 h2 h3 h4]
          simp only [Option.bind_some]
          by_cases h5 : d * 360000 + m * 6000 + p * 100 + c > 129600000
          · rw [if_pos h5, angOfP_no _ _ _ _ _ (fun h => absurd h.2.2.2.2.1 (by omega))]
            simp only [if_true]
          · rw [if_neg h5]
            have q0 : 0 ≤ d * 360000 + m * 6000 + p * 100 + c := by omega
            have q1 : d * 360000 + m * 6000 + p * 100 + c ≤ 129600000 := by omega
            rw [w64 (x := -(d * 360000 + m * 6000 + p * 100 + c)) (by omega)]
            cases s with
            | false =>
              rw [angOfP_pos _ _ _ _ ⟨h1, h2, h3, h4, q1, fun h => absurd h.1 (by decide)⟩]
              simp only [Bool.false_eq_true, if_false]
            | true =>
              by_cases h6 : d * 360000 + m * 6000 + p * 100 + c = 0
              · rw [angOfP_no _ _ _ _ _ (fun h => h.2.2.2.2.2 ⟨rfl, h6⟩)]
                simp [h6]
              · rw [angOfP_neg _ _ _ _ ⟨h1, h2, h3, h4, q1, fun h => h6 h.2⟩]
                simp [h6]
        · rw [decide_eq_false h4]
          exact bad (fun h => h4 h.2.2.2.1)
      · rw [if_neg h3]; exact bad (fun h => h3 h.2.2.1)
    · rw [if_neg h2]; exact bad (fun h => h2 h.2.1)
  · rw [if_neg h1]; exact bad (fun h => h1 h.1)
theorem impl_in_eq (a l h : Int) : impl_in.f a l h = some (decide (l ≤ a ∧ a ≤ h)) := by
  unfold impl_in.f
  split
  · exact congrArg some (decide_eq_decide.2 (by omega))
  · exact congrArg some (decide_eq_false (by omega)).symm
theorem impl_AngOf_eq (k : Nat) (hk : 2 ≤ k) (s : Bool) (d m p c : Int) : impl_AngOf.f k s d m p c = some (angOfP s d m p c) := by
  obtain ⟨k, rfl⟩ : ∃ n, k = n + 1 + 1 := ⟨k - 2, by omega⟩
  unfold impl_AngOf.f
  rw [impl_in_eq, impl_in_eq, impl_in_eq, impl_in_eq]
  simp only [Option.bind_some, decide_eq_true_eq]
  have bad : ¬ angOk s d m p c → impl_AngOf.j0 (k + 1 + 1) true s d m p c = some (angOfP s d m p c) := by
    intro h
    unfold angOfP
    rw [if_neg h]
    simp only [impl_AngOf.j0, if_true]
  by_cases h1 : 0 ≤ d ∧ d ≤ 360
  · rw [if_pos h1]
    by_cases h2 : 0 ≤ m ∧ m ≤ 59
    · rw [if_pos h2]
      by_cases h3 : 0 ≤ p ∧ p ≤ 59
      · rw [if_pos h3]
        by_cases h4 : 0 ≤ c ∧ c ≤ 99
        · rw [decide_eq_true h4]
          simp only [impl_AngOf.j0, impl_AngOf.j1, Bool.not_true, Bool.false_eq_true, if_false]
          rw [w64 (x := d * 360000) (by omega), w64 (x := m * 6000) (by omega), w64 (x := p * 100) (by omega), w64 (x := d * 360000 + m * 6000) (by omega), w64 (x := d * 360000 + m * 6000 + p * 100) (by omega), w64 (x := d * 360000 + m * 6000 + p * 100 + c) (by omega)]
          by_cases h5 : d * 360000 + m * 6000 + p * 100 + c > 129600000
          · rw [if_pos h5, angOfP_no _ _ _ _ _ (fun h => absurd h.2.2.2.2.1 (by omega))]
            simp only [if_true]
          · rw [if_neg h5]
            have q0 : 0 ≤ d * 360000 + m * 6000 + p * 100 + c := by omega
            have q1 : d * 360000 + m * 6000 + p * 100 + c ≤ 129600000 := by omega
            rw [w64 (x := -(d * 360000 + m * 6000 + p * 100 + c)) (by omega)]
            cases s with
            | false =>
              rw [angOfP_pos _ _ _ _ ⟨h1, h2, h3, h4, q1, fun h => absurd h.1 (by decide)⟩]
              simp only [Bool.false_eq_true, if_false, ite_self]
            | true =>
              by_cases h6 : d * 360000 + m * 6000 + p * 100 + c = 0
              · rw [angOfP_no _ _ _ _ _ (fun h => h.2.2.2.2.2 ⟨rfl, h6⟩)]
                simp [h6]
              · rw [angOfP_neg _ _ _ _ ⟨h1, h2, h3, h4, q1, fun h => h6 h.2⟩]
                simp [h6]
        · rw [decide_eq_false h4]
          exact bad (fun h => h4 h.2.2.2.1)
      · rw [if_neg h3]; exact bad (fun h => h3 h.2.2.1)
    · rw [if_neg h2]; exact bad (fun h => h2 h.2.1)
  · rw [if_neg h1]; exact bad (fun h => h1 h.1)
theorem impl_aTurn_eq (a : Int) : impl_aTurn.f a = some (decide (-129600000 ≤ a ∧ a ≤ 129600000)) := by
  unfold impl_aTurn.f; rw [impl_in_eq]; rfl
theorem impl_AngParts_eq (a : Int) : impl_AngParts.f a = some (partsP a) := by
  unfold impl_AngParts.f
  rw [impl_aTurn_eq]
  simp only [Option.bind_some, decide_eq_true_eq]
  by_cases h : -129600000 ≤ a ∧ a ≤ 129600000
  · rw [if_pos h, partsP_yes a h, w64 (x := -a) (by omega)]
    have e : mx a (-a) = if a < 0 then -a else a := by simp only [mx_eq]; split <;> omega
    rw [e]
    have n0 : 0 ≤ (if a < 0 then -a else a) := by split <;> omega
    have n1 : (if a < 0 then -a else a) ≤ 129600000 := by split <;> omega
    generalize (if a < 0 then -a else a) = n at *
    rw [Int.tdiv_eq_ediv_of_nonneg n0, Int.tdiv_eq_ediv_of_nonneg n0, Int.tdiv_eq_ediv_of_nonneg n0, w64 (x := n / 360000) (by omega), w64 (x := n / 6000) (by omega), w64 (x := n / 100) (by omega), Int.tmod_eq_emod_of_nonneg (by omega), Int.tmod_eq_emod_of_nonneg (by omega), Int.tmod_eq_emod_of_nonneg n0, show n / 6000 % 60 = n % 360000 / 6000 by omega, show n / 100 % 60 = n % 6000 / 100 by omega]
  · rw [if_neg h, partsP_no a h]
theorem ang_parts (s : Bool) (d m p c : Int) (h : angOk s d m p c) : partsP (angOfP s d m p c).1 = (s, d, m, p, c, true) ∧ -129600000 ≤ (angOfP s d m p c).1 ∧ (angOfP s d m p c).1 ≤ 129600000 := by
  obtain ⟨h1, h2, h3, h4, h5, h6⟩ := h
  cases s with
  | false =>
    rw [angOfP_pos _ _ _ _ ⟨h1, h2, h3, h4, h5, h6⟩]
    simp only
    refine ⟨?_, by omega, by omega⟩
    rw [partsP_yes _ (by omega), if_neg (by omega), decide_eq_false (by omega)]
    simp only [Prod.mk.injEq, true_and, and_true]
    omega
  | true =>
    have q : d * 360000 + m * 6000 + p * 100 + c ≠ 0 := fun h => h6 ⟨rfl, h⟩
    rw [angOfP_neg _ _ _ _ ⟨h1, h2, h3, h4, h5, h6⟩]
    simp only
    refine ⟨?_, by omega, by omega⟩
    rw [partsP_yes _ (by omega), if_pos (by omega), decide_eq_true (by omega)]
    simp only [Prod.mk.injEq, true_and, and_true]
    omega
theorem FnAngOf : laws_FnAngOf.Pure := by
  intro l0 _ _ h0
  refine ⟨100, ?_⟩
  unfold laws_FnAngOf.f
  split
  · rfl
  · obtain ⟨⟨s, d, m, p, c⟩, e⟩ := DrawAngOf_ex 100 l0 (by omega) h0
    rw [e]; simp only [Option.bind_some]
    rw [spec_AngOf_eq _ (by omega), impl_AngOf_eq _ (by omega)]
    simp only [Option.bind_some, bne_self_eq_false, beq_self_eq_true, Bool.false_eq_true, if_false, if_true]
    by_cases h : angOk s d m p c
    · have q := ang_parts s d m p c h
      rw [impl_AngParts_eq, q.1]
      simp only [Option.bind_some, beq_self_eq_true, Bool.and_self, if_true]
      rw [if_pos q.2.1, decide_eq_true q.2.2, ite_self]
    · rw [angOfP_no _ _ _ _ _ h]; simp
end Go.Proofs.Ytfjfjabdgemalaa.PureFnAngOf
