/- The statement FnArcSum holds of what the Go functions compute. -/
import Derived.Test.YtfjfjabdgemalaaAlA
import Derived.Test.YtfjfjabdgemalaaSC
import Derived.Test.YtfjfjabdgemalaaSFspecDrawArcOf
import Derived.Test.YtfjfjabdgemalaaSA
import Derived.Test.YtfjfjabdgemalaaSFspecArcOf
import Derived.Test.YtfjfjabdgemalaaSB
import Derived.Test.YtfjfjabdgemalaaSFimplArcOf
import Derived.Test.YtfjfjabdgemalaaSFlawsFnArcSum
namespace Go.Proofs.Ytfjfjabdgemalaa.PureFnArcSum
open Go.RowKit AlMath Go.Proofs.Ytfjfjabdgemalaa.S Go.Proofs.YtfjfjabdgemalaaW.PrintWords Go.Proofs.YtfjfjabdgemalaaW.PrintLast
theorem w64 {x : Int} (h : -9223372036854775808 ≤ x ∧ x ≤ 9223372036854775807) : wrap64 x = x := by unfold wrap64; omega
theorem wf64 {x : Int} (h : (Lit.int .i64 x).wf = true) : -9223372036854775808 ≤ x ∧ x ≤ 9223372036854775807 := by
  simp [Lit.wf, IntKind.min, IntKind.max, IntKind.signed, IntKind.bits] at h; omega
theorem wf8 {x : Int} (h : (Lit.int .u8 x).wf = true) : 0 ≤ x ∧ x ≤ 255 := by
  simp [Lit.wf, IntKind.min, IntKind.max, IntKind.signed, IntKind.bits] at h; omega
theorem mx_eq (a b : Int) : mx a b = max a b := by unfold mx; omega
theorem mn_eq (a b : Int) : mn a b = min a b := by unfold mn; omega
/-- what a reader reads. -/
def Rdr (l : List Int) : Prop := (∀ x ∈ l, 0 ≤ x ∧ x ≤ 255) ∧ l.length ≤ 2000
theorem Rdr.at_ {l : List Int} (h : Rdr l) (i : Int) : 0 ≤ rd l i ∧ rd l i ≤ 255 := by
  unfold rd
  rw [List.getD_eq_getElem?_getD]
  cases e : l[i.toNat]? with
  | none => simp
  | some v => simp; exact h.1 v (List.mem_of_getElem? e)
theorem spec_l6Open_ex (l : List Int) (h : ∀ x ∈ l, (Lit.int .u8 x).wf = true) : ∃ s, spec_l6Open.f l = some (s, 0) ∧ Rdr s := by
  unfold spec_l6Open.f
  split
  · rw [if_pos (by omega)]
    exact ⟨_, rfl, fun x hx => wf8 (h x (List.mem_of_mem_take hx)), by simp; omega⟩
  · exact ⟨_, rfl, fun x hx => wf8 (h x hx), by omega⟩
theorem xor_nonneg (a b : Int) (ha : 0 ≤ a) (ha1 : a < 1099511627776) (hb : 0 ≤ b) (hb1 : b < 1099511627776) : 0 ≤ Go.bits .xor .i64 a b := by
  obtain ⟨n, rfl⟩ := Int.eq_ofNat_of_zero_le ha
  obtain ⟨m, rfl⟩ := Int.eq_ofNat_of_zero_le hb
  have e1 : n % 2 ^ IntKind.i64.bits = n := Nat.mod_eq_of_lt (show n < 2 ^ 64 by omega)
  have e2 : m % 2 ^ IntKind.i64.bits = m := Nat.mod_eq_of_lt (show m < 2 ^ 64 by omega)
  have x := Nat.xor_lt_two_pow (n := 40) (x := n) (y := m) (by omega) (by omega)
  have e : Go.bits .xor .i64 (n : Int) (m : Int) = IntKind.i64.wrap ((n ^^^ m : Nat) : Int) := by
    simp only [Go.bits, BitVec.ofInt_natCast, BitVec.toNat_xor, BitVec.toNat_ofNat, e1, e2]
  rw [e, IntKind.wrap_i64]
  omega
theorem pick_ex (k : Nat) (l : List Int) (p n : Int) (hk : 1 ≤ k) (h : Rdr l) (h0 : 0 ≤ p) (h1 : p ≤ 100000) (hn : 1 ≤ n) (hn1 : n ≤ 4611686018427387904) :
    ∃ v, spec_l6Rd_pick.f k l p n = some (v, p + 1) ∧ 0 ≤ v ∧ v < n := by
  obtain ⟨k, rfl⟩ : ∃ m, k = m + 1 := ⟨k - 1, by omega⟩
  unfold spec_l6Rd_pick.f
  rw [if_neg (by omega), w64 (x := p + 1) (by omega)]
  simp only [spec_l6Rd_pick.j0]
  have hl := h.2
  rw [w64 (x := p + 1 - 1) (by omega), show p + 1 - 1 = p by omega]
  by_cases e : (l.length : Int) = 0
  · rw [if_pos (by simpa using e)]
    exact ⟨0, rfl, by omega, by omega⟩
  · rw [if_neg (by simpa using e)]
    by_cases hp : p < (l.length : Int)
    · have r := h.at_ p
      rw [if_pos hp, if_pos h0, if_neg (by omega), w64 (x := rd l p) (by omega), Int.tmod_eq_emod_of_nonneg r.1]
      exact ⟨_, rfl, Int.emod_nonneg _ (by omega), Int.emod_lt_of_pos _ (by omega)⟩
    · have hL : 0 < (l.length : Int) := by omega
      have m1 := Int.emod_nonneg p (by omega : (l.length : Int) ≠ 0)
      have m2 := Int.emod_lt_of_pos p hL
      have m3 := Int.emod_nonneg (p * 7 + 3) (by omega : (l.length : Int) ≠ 0)
      have m4 := Int.emod_lt_of_pos (p * 7 + 3) hL
      have d := AlMath.fl_bound p l.length 100000 hL (by omega) (by omega)
      have d0 := Int.ediv_nonneg h0 (by omega : 0 ≤ (l.length : Int))
      rw [if_neg hp, if_neg e, w64 (x := p * 7) (by omega), w64 (x := p * 7 + 3) (by omega), Int.tmod_eq_emod_of_nonneg (b := (l.length : Int)) h0, Int.tmod_eq_emod_of_nonneg (b := (l.length : Int)) (show 0 ≤ p * 7 + 3 by omega), Int.tdiv_eq_ediv_of_nonneg (b := (l.length : Int)) h0]
      rw [if_pos m1, if_pos m2, if_pos m3, if_pos m4, if_neg (by omega)]
      have r1 := h.at_ (p % l.length)
      have r2 := h.at_ ((p * 7 + 3) % l.length)
      generalize rd l (p % l.length) = u at *
      generalize rd l ((p * 7 + 3) % l.length) = v at *
      generalize p / l.length = w at *
      rw [w64 (x := u) (by omega), w64 (x := v) (by omega), w64 (x := u * 131) (by omega), w64 (x := v * 1117) (by omega), w64 (x := u * 131 + v * 1117) (by omega), w64 (x := p * 29) (by omega), w64 (x := u * 131 + v * 1117 + p * 29) (by omega), w64 (x := w) (by omega), w64 (x := w * 53) (by omega), w64 (x := u * 131 + v * 1117 + p * 29 + w * 53) (by omega)]
      rw [Int.tdiv_eq_ediv_of_nonneg (by omega), w64 (x := (u * 131 + v * 1117 + p * 29 + w * 53) / 64) (by omega)]
      have x0 := xor_nonneg (u * 131 + v * 1117 + p * 29 + w * 53) ((u * 131 + v * 1117 + p * 29 + w * 53) / 64) (by omega) (by omega) (by omega) (by omega)
      rw [Int.tmod_eq_emod_of_nonneg x0]
      exact ⟨_, rfl, Int.emod_nonneg _ (by omega), Int.emod_lt_of_pos _ (by omega)⟩
theorem big_j1 (k : Nat) (l : List Int) (m x p : Int) (hk : 2 ≤ k) (h : Rdr l) (h0 : 0 ≤ p) (h1 : p ≤ 100000) (hm : 3 ≤ m) (hm1 : m ≤ 1152921504606846976) (hx : -3 ≤ x) (hx1 : x ≤ 1152921504606846976) :
    ∃ v p', spec_l71Big.j1 k m x l p = some (v, p') ∧ p ≤ p' ∧ p' ≤ p + 1 ∧ -m ≤ v ∧ v ≤ m := by
  obtain ⟨k, rfl⟩ : ∃ m, k = m + 1 := ⟨k - 1, by omega⟩
  simp only [spec_l71Big.j1]
  by_cases c : x < 0
  · rw [if_pos c]; exact ⟨x, p, rfl, by omega, by omega, by omega, by omega⟩
  · obtain ⟨v, e, v0, v1⟩ := pick_ex k l p 2 (by omega) h h0 h1 (by omega) (by omega)
    have r0 := Int.emod_nonneg x (by omega : m + 1 ≠ 0)
    have r1 := Int.emod_lt_of_pos x (show 0 < m + 1 by omega)
    rw [if_neg c, w64 (x := m + 1) (by omega), if_neg (by omega), e, Int.tmod_eq_emod_of_nonneg (by omega)]
    simp only [Option.bind_some]
    split
    · rw [w64 (by omega)]; exact ⟨_, _, rfl, by omega, by omega, by omega, by omega⟩
    · exact ⟨_, _, rfl, by omega, by omega, by omega, by omega⟩
theorem big_l0 (d : Nat) : ∀ (k : Nat) (l : List Int) (m x i p : Int), d + 3 ≤ k → Rdr l → 0 ≤ p → p + d ≤ 90000 → 3 ≤ m → m ≤ 1152921504606846976 → i + d = 4 → 0 ≤ i → 0 ≤ x → x * 32768 ^ d ≤ 1152921504606846976 - 32768 ^ d →
    ∃ v p', spec_l71Big.l0 k m x i l p = some (v, p') ∧ p ≤ p' ∧ p' ≤ p + d + 1 ∧ -m ≤ v ∧ v ≤ m := by
  induction d with
  | zero =>
    intro k l m x i p hk h h0 h1 hm hm1 hi i0 hx hx1
    obtain ⟨k, rfl⟩ : ∃ m, k = m + 1 := ⟨k - 1, by omega⟩
    simp only [spec_l71Big.l0]
    rw [if_neg (by omega)]
    obtain ⟨v, p', e, a, b, c, d⟩ := big_j1 k l m x p (by omega) h h0 (by omega) hm hm1 (by omega) (by omega)
    exact ⟨v, p', e, a, by omega, c, d⟩
  | succ d ih =>
    intro k l m x i p hk h h0 h1 hm hm1 hi i0 hx hx1
    obtain ⟨k, rfl⟩ : ∃ m, k = m + 1 := ⟨k - 1, by omega⟩
    simp only [spec_l71Big.l0]
    obtain ⟨v, e, v0, v1⟩ := pick_ex k l p 32768 (by omega) h h0 (by omega) (by omega) (by omega)
    have pw : (1 : Int) ≤ 32768 ^ d := Int.pow_pos (by omega)
    have y1 : (x * 32768 + v) * 32768 ^ d ≤ 1152921504606846976 - 32768 ^ d := by
      have e1 : x * 32768 ^ (d + 1) = x * 32768 * 32768 ^ d := by rw [Int.pow_succ, Int.mul_comm (32768 ^ d), Int.mul_assoc]
      have e2 : (32768 : Int) ^ (d + 1) = 32768 * 32768 ^ d := by rw [Int.pow_succ, Int.mul_comm]
      have q := Int.mul_le_mul_of_nonneg_right (show v ≤ 32767 by omega) (show 0 ≤ (32768 : Int) ^ d by omega)
      rw [e1, e2] at hx1
      rw [Int.add_mul]
      omega
    have y2 : x * 32768 + v ≤ 1152921504606846976 := by
      have q := Int.mul_le_mul_of_nonneg_left pw (show 0 ≤ x * 32768 + v by omega)
      omega
    rw [if_pos (by omega), e]
    simp only [Option.bind_some]
    rw [w64 (x := x * 32768) (by omega), w64 (x := x * 32768 + v) (by omega), w64 (x := i + 1) (by omega)]
    obtain ⟨v', p', e', a, b, c, d'⟩ := ih k l m (x * 32768 + v) (i + 1) (p + 1) (by omega) h (by omega) (by omega) hm hm1 (by omega) (by omega) (by omega) y1
    exact ⟨v', p', e', by omega, by omega, c, d'⟩
theorem big_ex (k : Nat) (l : List Int) (p m : Int) (hk : 10 ≤ k) (h : Rdr l) (h0 : 0 ≤ p) (h1 : p ≤ 80000) (hm : 3 ≤ m) (hm1 : m ≤ 1152921504606846976) :
    ∃ v p', spec_l71Big.f k l p m = some (v, p') ∧ p ≤ p' ∧ p' ≤ p + 10 ∧ -m ≤ v ∧ v ≤ m := by
  unfold spec_l71Big.f
  obtain ⟨v, e, v0, v1⟩ := pick_ex k l p 6 (by omega) h h0 (by omega) (by omega) (by omega)
  rw [e]; simp only [Option.bind_some]
  split
  · obtain ⟨v, e, v0, v1⟩ := pick_ex k l (p + 1) 7 (by omega) h (by omega) (by omega) (by omega) (by omega)
    rw [e]; simp only [Option.bind_some]
    rw [w64 (by omega)]
    obtain ⟨v, p', e, a, b, c, d⟩ := big_j1 k l m (v - 3) (p + 1 + 1) (by omega) h (by omega) (by omega) hm hm1 (by omega) (by omega)
    exact ⟨v, p', e, by omega, by omega, c, d⟩
  · split
    · obtain ⟨v, e, v0, v1⟩ := pick_ex k l (p + 1) 3 (by omega) h (by omega) (by omega) (by omega) (by omega)
      rw [e]; simp only [Option.bind_some]
      rw [w64 (by omega)]
      obtain ⟨v, p', e, a, b, c, d⟩ := big_j1 k l m (m - v) (p + 1 + 1) (by omega) h (by omega) (by omega) hm hm1 (by omega) (by omega)
      exact ⟨v, p', e, by omega, by omega, c, d⟩
    · split
      · obtain ⟨v, e, v0, v1⟩ := pick_ex k l (p + 1) 1048576 (by omega) h (by omega) (by omega) (by omega) (by omega)
        rw [e]; simp only [Option.bind_some]
        obtain ⟨v, p', e, a, b, c, d⟩ := big_j1 k l m v (p + 1 + 1) (by omega) h (by omega) (by omega) hm hm1 (by omega) (by omega)
        exact ⟨v, p', e, by omega, by omega, c, d⟩
      · obtain ⟨v, p', e, a, b, c, d⟩ := big_l0 4 k l m 0 0 (p + 1) (by omega) h (by omega) (by omega) hm hm1 (by omega) (by omega) (by omega) (by decide)
        exact ⟨v, p', e, by omega, by omega, c, d⟩
theorem ang_ex (k : Nat) (l : List Int) (p : Int) (hk : 10 ≤ k) (h : Rdr l) (h0 : 0 ≤ p) (h1 : p ≤ 70000) :
    ∃ v p', spec_l71Ang.f k l p = some (v, p') ∧ p ≤ p' ∧ p' ≤ p + 15 ∧ -300000000 ≤ v ∧ v ≤ 300000000 := by
  unfold spec_l71Ang.f
  obtain ⟨v, e, v0, v1⟩ := pick_ex k l p 6 (by omega) h h0 (by omega) (by omega) (by omega)
  rw [e]; simp only [Option.bind_some]
  split
  · obtain ⟨v, e, v0, v1⟩ := pick_ex k l (p + 1) 49 (by omega) h (by omega) (by omega) (by omega) (by omega)
    rw [e]; simp only [Option.bind_some]
    rw [w64 (x := v - 24) (by omega), w64 (x := (v - 24) * 32400000) (by omega)]
    have := AlMath.tdiv_bound ((v - 24) * 32400000) 6 1000000000 (by omega) (by omega) (by omega)
    have t : Int.tdiv ((v - 24) * 32400000) 6 = (v - 24) * 5400000 := by
      rw [show (v - 24) * 32400000 = (v - 24) * 5400000 * 6 by omega]; exact Int.mul_tdiv_cancel _ (by omega)
    rw [t, w64 (by omega)]
    exact ⟨_, _, rfl, by omega, by omega, by omega, by omega⟩
  · split
    · obtain ⟨v, e, v0, v1⟩ := pick_ex k l (p + 1) 721 (by omega) h (by omega) (by omega) (by omega) (by omega)
      rw [e]; simp only [Option.bind_some]
      rw [w64 (x := v - 360) (by omega), w64 (by omega)]
      exact ⟨_, _, rfl, by omega, by omega, by omega, by omega⟩
    · split
      · obtain ⟨v, e, v0, v1⟩ := pick_ex k l (p + 1) 13 (by omega) h (by omega) (by omega) (by omega) (by omega)
        rw [e]; simp only [Option.bind_some]
        obtain ⟨u, e, u0, u1⟩ := pick_ex k l (p + 1 + 1) 5 (by omega) h (by omega) (by omega) (by omega) (by omega)
        rw [e]; simp only [Option.bind_some]
        rw [w64 (x := v - 6) (by omega), w64 (x := (v - 6) * 32400000) (by omega), w64 (x := (v - 6) * 32400000 + u) (by omega), w64 (by omega)]
        exact ⟨_, _, rfl, by omega, by omega, by omega, by omega⟩
      · obtain ⟨v, p', e, a, b, c, d⟩ := big_ex k l (p + 1) 129600000 (by omega) h (by omega) (by omega) (by omega) (by omega)
        rw [e]; simp only [Option.bind_some]
        exact ⟨_, _, rfl, by omega, by omega, by omega, by omega⟩
theorem wide_ex (k : Nat) (l : List Int) (p : Int) (hk : 10 ≤ k) (h : Rdr l) (h0 : 0 ≤ p) (h1 : p ≤ 60000) :
    ∃ v p', spec_l71Wide.f k l p = some (v, p') ∧ p ≤ p' ∧ p' ≤ p + 20 ∧ -1000000000001 ≤ v ∧ v ≤ 1000000000001 := by
  unfold spec_l71Wide.f
  obtain ⟨v, e, v0, v1⟩ := pick_ex k l p 16 (by omega) h h0 (by omega) (by omega) (by omega)
  rw [e]; simp only [Option.bind_some]
  split
  · obtain ⟨v, p', e, a, b, c, d⟩ := big_ex k l (p + 1) 1000000000000 (by omega) h (by omega) (by omega) (by omega) (by omega)
    rw [e]; simp only [Option.bind_some]
    exact ⟨_, _, rfl, by omega, by omega, by omega, by omega⟩
  · split
    · obtain ⟨v, e, v0, v1⟩ := pick_ex k l (p + 1) 3 (by omega) h (by omega) (by omega) (by omega) (by omega)
      rw [e]; simp only [Option.bind_some]
      rw [if_pos v0, if_pos (by simp; omega)]
      refine ⟨_, _, rfl, by omega, by omega, ?_⟩
      have hv : v = 0 ∨ v = 1 ∨ v = 2 := by omega
      rcases hv with rfl | rfl | rfl <;> decide
    · obtain ⟨v, p', e, a, b, c, d⟩ := ang_ex k l (p + 1) hk h (by omega) (by omega)
      rw [e]; simp only [Option.bind_some]
      exact ⟨_, _, rfl, by omega, by omega, by omega, by omega⟩
theorem DrawArcOf_ex (k : Nat) (l : List Int) (hk : 10 ≤ k) (h : ∀ x ∈ l, (Lit.int .u8 x).wf = true) : ∃ v, spec_DrawArcOf.f k l = some v ∧ -1000000000001 ≤ v ∧ v ≤ 1000000000001 := by
  unfold spec_DrawArcOf.f
  obtain ⟨s, e, hs⟩ := spec_l6Open_ex l h
  rw [e]; simp only [Option.bind_some]
  obtain ⟨u, e, u0, u1⟩ := pick_ex k s 0 8 (by omega) hs (by omega) (by omega) (by omega) (by omega)
  rw [e]; simp only [Option.bind_some]
  split
  · obtain ⟨v, p', e, _, _, c, d⟩ := wide_ex k s (0 + 1) hk hs (by omega) (by omega)
    rw [e]; exact ⟨_, rfl, c, d⟩
  · obtain ⟨v, p', e, _, _, c, d⟩ := big_ex k s (0 + 1) 16200000 hk hs (by omega) (by omega) (by omega) (by omega)
    rw [e]; exact ⟨_, rfl, by omega, by omega⟩
theorem spec_l6In_eq (a l h : Int) : spec_l6In.f a l h = some (decide (l ≤ a ∧ a ≤ h)) := by
  unfold spec_l6In.f
  split
  · exact congrArg some (decide_eq_decide.2 (by omega))
  · exact congrArg some (decide_eq_false (by omega)).symm
theorem spec_l1Down_eq (a b : Int) (hb : 0 < b) (hb2 : b ≤ 4000000000000000000) (h1 : -4611686018427387904 ≤ a) (h2 : a ≤ 4611686018427387904) : spec_l1Down.f a b = some (a / b) := by
  unfold spec_l1Down.f
  have f := AlMath.fl_bound a b 4611686018427387904 hb h1 h2
  split
  · rename_i h
    rw [if_neg (by omega), Int.tdiv_eq_ediv_of_nonneg h, w64 (by omega)]
  · have k := AlMath.down_spec a b (by omega) hb
    rw [if_neg (by omega), w64 (x := -a) (by omega), w64 (x := -a + b) (by omega), w64 (x := -a + b - 1) (by omega)]
    rw [w64 (x := Int.tdiv (-a + b - 1) b) (by omega), w64 (by omega), k]
theorem spec_l1Up_eq (a b : Int) (hb : 0 < b) (hb2 : b ≤ 4000000000000000000) (h1 : -4611686018427387904 ≤ a) (h2 : a ≤ 4611686018427387904) : spec_l1Up.f a b = some (-(-a / b)) := by
  have t := AlMath.fl_bound (-a) b 4611686018427387904 hb (by omega) (by omega)
  unfold spec_l1Up.f
  rw [w64 (x := -a) (by omega), spec_l1Down_eq _ _ hb hb2 (by omega) (by omega)]
  simp only [Option.bind_some]
  rw [w64 (by omega)]
theorem spec_l12Arc_eq (h : Int) (h0 : 0 ≤ h) (h1 : h ≤ 1000000000) : spec_l12Arc.f h = some (arcP h) := by
  unfold spec_l12Arc.f
  rw [w64 (x := h * 785398163) (by omega), w64 (x := h * 785398164) (by omega), spec_l1Down_eq _ _ (by omega) (by omega) (by omega) (by omega), spec_l1Up_eq _ _ (by omega) (by omega) (by omega) (by omega)]
  rfl
theorem spec_SpanOk_eq (a b : Int) : spec_SpanOk.f a b = some (decide (Okay a b)) := by
  unfold spec_SpanOk.f
  rw [spec_l6In_eq, spec_l6In_eq]
  simp only [Option.bind_some, decide_eq_true_eq]
  by_cases h1 : -1073000000 ≤ a ∧ a ≤ 1073000000
  · rw [if_pos h1]; exact congrArg some (decide_eq_decide.2 (by unfold Okay; omega))
  · rw [if_neg h1]; exact congrArg some (decide_eq_false (by unfold Okay; omega)).symm
theorem spec_SpanNeg_eq (a b : Int) : spec_SpanNeg.f a b = if Okay a b then some (-b, -a) else some (0, 0) := by
  unfold spec_SpanNeg.f
  rw [spec_SpanOk_eq]
  simp only [Option.bind_some, decide_eq_true_eq]
  by_cases h : Okay a b
  · rw [if_pos h, if_pos h]; unfold Okay at h; rw [w64 (by omega), w64 (by omega)]
  · rw [if_neg h, if_neg h]
theorem spec_ArcOf_eq (a : Int) : spec_ArcOf.f a = some (arcOfP a) := by
  unfold spec_ArcOf.f arcOfP
  rw [spec_l6In_eq]
  simp only [Option.bind_some, decide_eq_true_eq]
  by_cases h : -16200000 ≤ a ∧ a ≤ 16200000
  · rw [if_pos h, if_pos h]
    by_cases c : a < 0
    · rw [if_pos c, if_pos c, w64 (x := -2 * a) (by omega), spec_l12Arc_eq _ (by omega) (by omega)]
      simp only [Option.bind_some]
      rw [spec_SpanNeg_eq, if_pos (arc_ok _ (by omega) (by omega))]; rfl
    · rw [if_neg c, if_neg c, w64 (x := 2 * a) (by omega), spec_l12Arc_eq _ (by omega) (by omega)]; rfl
  · rw [if_neg h, if_neg h]
theorem impl_in_eq (a l h : Int) : impl_in.f a l h = some (decide (l ≤ a ∧ a ≤ h)) := by
  unfold impl_in.f
  split
  · exact congrArg some (decide_eq_decide.2 (by omega))
  · exact congrArg some (decide_eq_false (by omega)).symm
theorem impl_down_eq (a b : Int) (hb : 0 < b) (h1 : -4611686018427387904 ≤ a) (h2 : a ≤ 4611686018427387904) : impl_down.f a b = some (a / b) := by
  have t := AlMath.tdiv_bound a b 4611686018427387904 hb h1 h2
  unfold impl_down.f
  rw [if_neg (by omega), w64 (x := Int.tdiv a b) (by omega), w64 (x := Int.tdiv a b - 1) (by omega), ← AlMath.down_go a b hb]
  split <;> rfl
theorem impl_up_eq (a b : Int) (hb : 0 < b) (h1 : -4611686018427387904 ≤ a) (h2 : a ≤ 4611686018427387904) : impl_up.f a b = some (-(-a / b)) := by
  have t := AlMath.fl_bound (-a) b 4611686018427387904 hb (by omega) (by omega)
  unfold impl_up.f
  rw [w64 (x := -a) (by omega), impl_down_eq _ _ hb (by omega) (by omega)]
  simp only [Option.bind_some]
  rw [w64 (by omega)]
theorem impl_arc_eq (h : Int) (h0 : 0 ≤ h) (h1 : h ≤ 1000000000) : impl_arc.f h = some (arcP h) := by
  unfold impl_arc.f
  rw [w64 (x := h * 785398163) (by omega), w64 (x := h * 785398164) (by omega), impl_down_eq _ _ (by omega) (by omega) (by omega), impl_up_eq _ _ (by omega) (by omega) (by omega)]
  rfl
theorem impl_SpanOk_eq (a b : Int) : impl_SpanOk.f a b = some (decide (Okay a b)) := by
  unfold impl_SpanOk.f
  rw [impl_in_eq, impl_in_eq]
  simp only [Option.bind_some, decide_eq_true_eq]
  by_cases h1 : -1073000000 ≤ a ∧ a ≤ 1073000000
  · by_cases h2 : -1073000000 ≤ b ∧ b ≤ 1073000000
    · rw [if_pos h1, if_pos h2]; exact congrArg some (decide_eq_decide.2 (by unfold Okay; omega))
    · rw [if_pos h1, if_neg h2]; exact congrArg some (decide_eq_false (by unfold Okay; omega)).symm
  · rw [if_neg h1]; exact congrArg some (decide_eq_false (by unfold Okay; omega)).symm
theorem impl_SpanNeg_eq (a b : Int) : impl_SpanNeg.f a b = if Okay a b then some (-b, -a) else some (0, 0) := by
  unfold impl_SpanNeg.f
  rw [impl_SpanOk_eq]
  simp only [Option.bind_some, decide_eq_true_eq]
  by_cases h : Okay a b
  · rw [if_pos h, if_pos h]; unfold Okay at h; rw [w64 (by omega), w64 (by omega)]
  · rw [if_neg h, if_neg h]
theorem impl_ArcOf_eq (a : Int) : impl_ArcOf.f a = some (arcOfP a) := by
  unfold impl_ArcOf.f arcOfP
  rw [impl_in_eq]
  simp only [Option.bind_some, decide_eq_true_eq]
  by_cases h : -16200000 ≤ a ∧ a ≤ 16200000
  · rw [if_pos h, if_pos h]
    by_cases c : a < 0
    · rw [if_pos c, if_pos c, w64 (x := -2 * a) (by omega), impl_arc_eq _ (by omega) (by omega)]
      simp only [Option.bind_some]
      rw [impl_SpanNeg_eq, if_pos (arc_ok _ (by omega) (by omega))]; rfl
    · rw [if_neg c, if_neg c, w64 (x := 2 * a) (by omega), impl_arc_eq _ (by omega) (by omega)]; rfl
  · rw [if_neg h, if_neg h]
theorem lgMeet_eq (a b c d : Int) (h : a ≤ d) (g : c ≤ b) : laws_lgMeet.f a b c d = some true := by
  unfold laws_lgMeet.f
  rw [if_pos h, decide_eq_true g]
def ArcIn (a : Int) : Prop := -16200000 ≤ a ∧ a ≤ 16200000
instance (a : Int) : Decidable (ArcIn a) := inferInstanceAs (Decidable (_ ∧ _))
def arcS (a : Int) : Int × Int := if a < 0 then (-(arcP (-2 * a)).2, -(arcP (-2 * a)).1) else ((arcP (2 * a)).1, (arcP (2 * a)).2)
theorem arcOfP_told (a : Int) : arcOfP a = toldP (ArcIn a) (arcS a) := by
  unfold arcOfP
  by_cases h : -16200000 ≤ a ∧ a ≤ 16200000
  · rw [if_pos h, toldP_pos (ArcIn a) _ h]
    unfold arcS
    by_cases c : a < 0
    · rw [if_pos c, if_pos c]
    · rw [if_neg c, if_neg c]
  · rw [if_neg h, toldP_neg (ArcIn a) _ h]
theorem arcS_far (a : Int) (h : ArcIn a) : -1000000000 ≤ (arcS a).1 ∧ (arcS a).1 ≤ 1000000000 ∧ -1000000000 ≤ (arcS a).2 ∧ (arcS a).2 ≤ 1000000000 := by
  unfold ArcIn at h
  unfold arcS arcP
  by_cases c : a < 0
  · rw [if_pos c]; simp only; omega
  · rw [if_neg c]; simp only; omega
set_option maxHeartbeats 4000000 in
theorem arcS_sum (a b : Int) (ha : ArcIn a) (hb : ArcIn b) (hc : ArcIn (a + b)) : (arcS a).1 + (arcS b).1 ≤ (arcS (a + b)).2 ∧ (arcS (a + b)).1 ≤ (arcS a).2 + (arcS b).2 := by
  unfold ArcIn at ha hb hc
  unfold arcS arcP
  by_cases c : a < 0
  · by_cases d : b < 0
    · rw [if_pos c, if_pos d, if_pos (show a + b < 0 by omega)]; simp only; omega
    · by_cases e : a + b < 0
      · rw [if_pos c, if_neg d, if_pos e]; simp only; omega
      · rw [if_pos c, if_neg d, if_neg e]; simp only; omega
  · by_cases d : b < 0
    · by_cases e : a + b < 0
      · rw [if_neg c, if_pos d, if_pos e]; simp only; omega
      · rw [if_neg c, if_pos d, if_neg e]; simp only; omega
    · rw [if_neg c, if_neg d, if_neg (show ¬ a + b < 0 by omega)]; simp only; omega
theorem FnArcSum : laws_FnArcSum.Pure := by
  intro l0 l1 _ _ h0 _ _ h1
  refine ⟨101, ?_⟩
  unfold laws_FnArcSum.f
  have all : ∀ t, laws_FnArcSum.j0 101 l0 l1 t = some true := by
    intro t
    rw [show (101 : Nat) = 100 + 1 from rfl]
    simp only [laws_FnArcSum.j0]
    by_cases ht : t = true
    · rw [if_pos ht]
    · rw [if_neg ht]
      obtain ⟨a, e, a0, a1⟩ := DrawArcOf_ex 100 l0 (by omega) h0
      obtain ⟨b, e', b0, b1⟩ := DrawArcOf_ex 100 l1 (by omega) h1
      rw [e, e']; simp only [Option.bind_some]
      rw [spec_ArcOf_eq, impl_ArcOf_eq, impl_ArcOf_eq, w64 (x := a + b) (by omega), impl_ArcOf_eq, arcOfP_told, arcOfP_told, arcOfP_told]
      by_cases o : ArcIn a
      · rw [toldP_pos (ArcIn a) _ o]
        by_cases q : ArcIn b
        · rw [toldP_pos (ArcIn b) _ q]
          by_cases r : ArcIn (a + b)
          · rw [toldP_pos (ArcIn (a + b)) _ r]
            simp only [Option.bind_some, bne_self_eq_false, beq_self_eq_true, Bool.not_true, Bool.or_self, Bool.and_self, Bool.false_eq_true, if_false, if_true]
            have m := arcS_sum a b o q r
            have k := arcS_far a o
            have j := arcS_far b q
            rw [w64 (by omega), w64 (by omega), lgMeet_eq _ _ _ _ m.1 m.2]
            rfl
          · rw [toldP_neg (ArcIn (a + b)) _ r]; simp
        · rw [toldP_neg (ArcIn b) _ q]; simp
      · rw [toldP_neg (ArcIn a) _ o]; simp
  split <;> exact all _
end Go.Proofs.Ytfjfjabdgemalaa.PureFnArcSum
