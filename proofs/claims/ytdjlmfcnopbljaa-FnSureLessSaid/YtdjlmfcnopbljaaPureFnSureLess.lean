/- The statement FnSureLess holds of what the Go functions compute. -/
import Derived.Test.YtdjlmfcnopbljaaAlA
import Derived.Test.YtdjlmfcnopbljaaSC
import Derived.Test.YtdjlmfcnopbljaaSFspecl71Span
import Derived.Test.YtdjlmfcnopbljaaSFspecDrawSpanMeet
import Derived.Test.YtdjlmfcnopbljaaSFspecDrawSureLess
import Derived.Test.YtdjlmfcnopbljaaSB
import Derived.Test.YtdjlmfcnopbljaaSFimplSureLess
import Derived.Test.YtdjlmfcnopbljaaSA
import Derived.Test.YtdjlmfcnopbljaaSFspecSureLess
import Derived.Test.YtdjlmfcnopbljaaSFlawslgPick
import Derived.Test.YtdjlmfcnopbljaaSFlawsFnSureLess
namespace Go.Proofs.Ytdjlmfcnopbljaa.PureFnSureLess
open Go.RowKit AlMath Go.Proofs.Ytdjlmfcnopbljaa.S Go.Proofs.YtdjlmfcnopbljaaW.PrintWords Go.Proofs.YtdjlmfcnopbljaaW.PrintLast
theorem w64 {x : Int} (h : -9223372036854775808 ≤ x ∧ x ≤ 9223372036854775807) : wrap64 x = x := by unfold wrap64; omega
theorem wf64 {x : Int} (h : (Lit.int .i64 x).wf = true) : -9223372036854775808 ≤ x ∧ x ≤ 9223372036854775807 := by
  simp [Lit.wf, IntKind.min, IntKind.max, IntKind.signed, IntKind.bits] at h; omega
theorem wf8 {x : Int} (h : (Lit.int .u8 x).wf = true) : 0 ≤ x ∧ x ≤ 255 := by
  simp [Lit.wf, IntKind.min, IntKind.max, IntKind.signed, IntKind.bits] at h; omega
theorem mx_eq (a b : Int) : mx a b = max a b := by unfold mx; omega
theorem mn_eq (a b : Int) : mn a b = min a b := by unfold mn; omega
/-- what a reader reads. -/
def Rdr (l : List Int) : Prop := (∀ x ∈ l, 0 ≤ x ∧ x ≤ 255) ∧ l.length ≤ 2000
theorem Rdr.at_ {l : List Int} (h : Rdr l) (i : Int) : 0 ≤ rd l i ∧ rd l i ≤ 255 := by
  unfold rd
  rw [List.getD_eq_getElem?_getD]
  cases e : l[i.toNat]? with
  | none => simp
  | some v => simp; exact h.1 v (List.mem_of_getElem? e)
theorem spec_l6Open_ex (l : List Int) (h : ∀ x ∈ l, (Lit.int .u8 x).wf = true) : ∃ s, spec_l6Open.f l = some (s, 0) ∧ Rdr s := by
  unfold spec_l6Open.f
  split
  · rw [if_pos (by omega)]
    exact ⟨_, rfl, fun x hx => wf8 (h x (List.mem_of_mem_take hx)), by simp; omega⟩
  · exact ⟨_, rfl, fun x hx => wf8 (h x hx), by omega⟩
theorem xor_nonneg (a b : Int) (ha : 0 ≤ a) (ha1 : a < 1099511627776) (hb : 0 ≤ b) (hb1 : b < 1099511627776) : 0 ≤ Go.bits .xor .i64 a b := by
  obtain ⟨n, rfl⟩ := Int.eq_ofNat_of_zero_le ha
  obtain ⟨m, rfl⟩ := Int.eq_ofNat_of_zero_le hb
  have e1 : n % 2 ^ IntKind.i64.bits = n := Nat.mod_eq_of_lt (show n < 2 ^ 64 by omega)
  have e2 : m % 2 ^ IntKind.i64.bits = m := Nat.mod_eq_of_lt (show m < 2 ^ 64 by omega)
  have x := Nat.xor_lt_two_pow (n := 40) (x := n) (y := m) (by omega) (by omega)
  have e : Go.bits .xor .i64 (n : Int) (m : Int) = IntKind.i64.wrap ((n ^^^ m : Nat) : Int) := by
    simp only [Go.bits, BitVec.ofInt_natCast, BitVec.toNat_xor, BitVec.toNat_ofNat, e1, e2]
  rw [e, IntKind.wrap_i64]
  omega
theorem pick_ex (k : Nat) (l : List Int) (p n : Int) (hk : 1 ≤ k) (h : Rdr l) (h0 : 0 ≤ p) (h1 : p ≤ 100000) (hn : 1 ≤ n) (hn1 : n ≤ 4611686018427387904) :
    ∃ v, spec_l6Rd_pick.f k l p n = some (v, p + 1) ∧ 0 ≤ v ∧ v < n := by
  obtain ⟨k, rfl⟩ : ∃ m, k = m + 1 := ⟨k - 1, by omega⟩
  unfold spec_l6Rd_pick.f
  rw [if_neg (by omega), w64 (x := p + 1) (by omega)]
  simp only [spec_l6Rd_pick.j0]
  have hl := h.2
  rw [w64 (x := p + 1 - 1) (by omega), show p + 1 - 1 = p by omega]
  by_cases e : (l.length : Int) = 0
  · rw [if_pos (by simpa using e)]
    exact ⟨0, rfl, by omega, by omega⟩
  · rw [if_neg (by simpa using e)]
    by_cases hp : p < (l.length : Int)
    · have r := h.at_ p
      rw [if_pos hp, if_pos h0, if_neg (by omega), w64 (x := rd l p) (by omega), Int.tmod_eq_emod_of_nonneg r.1]
      exact ⟨_, rfl, Int.emod_nonneg _ (by omega), Int.emod_lt_of_pos _ (by omega)⟩
    · have hL : 0 < (l.length : Int) := by omega
      have m1 := Int.emod_nonneg p (by omega : (l.length : Int) ≠ 0)
      have m2 := Int.emod_lt_of_pos p hL
      have m3 := Int.emod_nonneg (p * 7 + 3) (by omega : (l.length : Int) ≠ 0)
      have m4 := Int.emod_lt_of_pos (p * 7 + 3) hL
      have d := AlMath.fl_bound p l.length 100000 hL (by omega) (by omega)
      have d0 := Int.ediv_nonneg h0 (by omega : 0 ≤ (l.length : Int))
      rw [if_neg hp, if_neg e, w64 (x := p * 7) (by omega), w64 (x := p * 7 + 3) (by omega), Int.tmod_eq_emod_of_nonneg (b := (l.length : Int)) h0, Int.tmod_eq_emod_of_nonneg (b := (l.length : Int)) (show 0 ≤ p * 7 + 3 by omega), Int.tdiv_eq_ediv_of_nonneg (b := (l.length : Int)) h0]
      rw [if_pos m1, if_pos m2, if_pos m3, if_pos m4, if_neg (by omega)]
      have r1 := h.at_ (p % l.length)
      have r2 := h.at_ ((p * 7 + 3) % l.length)
      generalize rd l (p % l.length) = u at *
      generalize rd l ((p * 7 + 3) % l.length) = v at *
      generalize p / l.length = w at *
      rw [w64 (x := u) (by omega), w64 (x := v) (by omega), w64 (x := u * 131) (by omega), w64 (x := v * 1117) (by omega), w64 (x := u * 131 + v * 1117) (by omega), w64 (x := p * 29) (by omega), w64 (x := u * 131 + v * 1117 + p * 29) (by omega), w64 (x := w) (by omega), w64 (x := w * 53) (by omega), w64 (x := u * 131 + v * 1117 + p * 29 + w * 53) (by omega)]
      rw [Int.tdiv_eq_ediv_of_nonneg (by omega), w64 (x := (u * 131 + v * 1117 + p * 29 + w * 53) / 64) (by omega)]
      have x0 := xor_nonneg (u * 131 + v * 1117 + p * 29 + w * 53) ((u * 131 + v * 1117 + p * 29 + w * 53) / 64) (by omega) (by omega) (by omega) (by omega)
      rw [Int.tmod_eq_emod_of_nonneg x0]
      exact ⟨_, rfl, Int.emod_nonneg _ (by omega), Int.emod_lt_of_pos _ (by omega)⟩
theorem big_j1 (k : Nat) (l : List Int) (m x p : Int) (hk : 2 ≤ k) (h : Rdr l) (h0 : 0 ≤ p) (h1 : p ≤ 100000) (hm : 3 ≤ m) (hm1 : m ≤ 1152921504606846976) (hx : -3 ≤ x) (hx1 : x ≤ 1152921504606846976) :
    ∃ v p', spec_l71Big.j1 k m x l p = some (v, p') ∧ p ≤ p' ∧ p' ≤ p + 1 ∧ -m ≤ v ∧ v ≤ m := by
  obtain ⟨k, rfl⟩ : ∃ m, k = m + 1 := ⟨k - 1, by omega⟩
  simp only [spec_l71Big.j1]
  by_cases c : x < 0
  · rw [if_pos c]; exact ⟨x, p, rfl, by omega, by omega, by omega, by omega⟩
  · obtain ⟨v, e, v0, v1⟩ := pick_ex k l p 2 (by omega) h h0 h1 (by omega) (by omega)
    have r0 := Int.emod_nonneg x (by omega : m + 1 ≠ 0)
    have r1 := Int.emod_lt_of_pos x (show 0 < m + 1 by omega)
    rw [if_neg c, w64 (x := m + 1) (by omega), if_neg (by omega), e, Int.tmod_eq_emod_of_nonneg (by omega)]
    simp only [Option.bind_some]
    split
    · rw [w64 (by omega)]; exact ⟨_, _, rfl, by omega, by omega, by omega, by omega⟩
    · exact ⟨_, _, rfl, by omega, by omega, by omega, by omega⟩
theorem big_l0 (d : Nat) : ∀ (k : Nat) (l : List Int) (m x i p : Int), d + 3 ≤ k → Rdr l → 0 ≤ p → p + d ≤ 90000 → 3 ≤ m → m ≤ 1152921504606846976 → i + d = 4 → 0 ≤ i → 0 ≤ x → x * 32768 ^ d ≤ 1152921504606846976 - 32768 ^ d →
    ∃ v p', spec_l71Big.l0 k m x i l p = some (v, p') ∧ p ≤ p' ∧ p' ≤ p + d + 1 ∧ -m ≤ v ∧ v ≤ m := by
  induction d with
  | zero =>
    intro k l m x i p hk h h0 h1 hm hm1 hi i0 hx hx1
    obtain ⟨k, rfl⟩ : ∃ m, k = m + 1 := ⟨k - 1, by omega⟩
    simp only [spec_l71Big.l0]
    rw [if_neg (by omega)]
    obtain ⟨v, p', e, a, b, c, d⟩ := big_j1 k l m x p (by omega) h h0 (by omega) hm hm1 (by omega) (by omega)
    exact ⟨v, p', e, a, by omega, c, d⟩
  | succ d ih =>
    intro k l m x i p hk h h0 h1 hm hm1 hi i0 hx hx1
    obtain ⟨k, rfl⟩ : ∃ m, k = m + 1 := ⟨k - 1, by omega⟩
    simp only [spec_l71Big.l0]
    obtain ⟨v, e, v0, v1⟩ := pick_ex k l p 32768 (by omega) h h0 (by omega) (by omega) (by omega)
    have pw : (1 : Int) ≤ 32768 ^ d := Int.pow_pos (by omega)
    have y1 : (x * 32768 + v) * 32768 ^ d ≤ 1152921504606846976 - 32768 ^ d := by
      have e1 : x * 32768 ^ (d + 1) = x * 32768 * 32768 ^ d := by rw [Int.pow_succ, Int.mul_comm (32768 ^ d), Int.mul_assoc]
      have e2 : (32768 : Int) ^ (d + 1) = 32768 * 32768 ^ d := by rw [Int.pow_succ, Int.mul_comm]
      have q := Int.mul_le_mul_of_nonneg_right (show v ≤ 32767 by omega) (show 0 ≤ (32768 : Int) ^ d by omega)
      rw [e1, e2] at hx1
      rw [Int.add_mul]
      omega
    have y2 : x * 32768 + v ≤ 1152921504606846976 := by
      have q := Int.mul_le_mul_of_nonneg_left pw (show 0 ≤ x * 32768 + v by omega)
      omega
    rw [if_pos (by omega), e]
    simp only [Option.bind_some]
    rw [w64 (x := x * 32768) (by omega), w64 (x := x * 32768 + v) (by omega), w64 (x := i + 1) (by omega)]
    obtain ⟨v', p', e', a, b, c, d'⟩ := ih k l m (x * 32768 + v) (i + 1) (p + 1) (by omega) h (by omega) (by omega) hm hm1 (by omega) (by omega) (by omega) y1
    exact ⟨v', p', e', by omega, by omega, c, d'⟩
theorem big_ex (k : Nat) (l : List Int) (p m : Int) (hk : 10 ≤ k) (h : Rdr l) (h0 : 0 ≤ p) (h1 : p ≤ 80000) (hm : 3 ≤ m) (hm1 : m ≤ 1152921504606846976) :
    ∃ v p', spec_l71Big.f k l p m = some (v, p') ∧ p ≤ p' ∧ p' ≤ p + 10 ∧ -m ≤ v ∧ v ≤ m := by
  unfold spec_l71Big.f
  obtain ⟨v, e, v0, v1⟩ := pick_ex k l p 6 (by omega) h h0 (by omega) (by omega) (by omega)
  rw [e]; simp only [Option.bind_some]
  split
  · obtain ⟨v, e, v0, v1⟩ := pick_ex k l (p + 1) 7 (by omega) h (by omega) (by omega) (by omega) (by omega)
    rw [e]; simp only [Option.bind_some]
    rw [w64 (by omega)]
    obtain ⟨v, p', e, a, b, c, d⟩ := big_j1 k l m (v - 3) (p + 1 + 1) (by omega) h (by omega) (by omega) hm hm1 (by omega) (by omega)
    exact ⟨v, p', e, by omega, by omega, c, d⟩
  · split
    · obtain ⟨v, e, v0, v1⟩ := pick_ex k l (p + 1) 3 (by omega) h (by omega) (by omega) (by omega) (by omega)
      rw [e]; simp only [Option.bind_some]
      rw [w64 (by omega)]
      obtain ⟨v, p', e, a, b, c, d⟩ := big_j1 k l m (m - v) (p + 1 + 1) (by omega) h (by omega) (by omega) hm hm1 (by omega) (by omega)
      exact ⟨v, p', e, by omega, by omega, c, d⟩
    · split
      · obtain ⟨v, e, v0, v1⟩ := pick_ex k l (p + 1) 1048576 (by omega) h (by omega) (by omega) (by omega) (by omega)
        rw [e]; simp only [Option.bind_some]
        obtain ⟨v, p', e, a, b, c, d⟩ := big_j1 k l m v (p + 1 + 1) (by omega) h (by omega) (by omega) hm hm1 (by omega) (by omega)
        exact ⟨v, p', e, by omega, by omega, c, d⟩
      · obtain ⟨v, p', e, a, b, c, d⟩ := big_l0 4 k l m 0 0 (p + 1) (by omega) h (by omega) (by omega) hm hm1 (by omega) (by omega) (by omega) (by decide)
        exact ⟨v, p', e, by omega, by omega, c, d⟩
theorem span_j0 (k : Nat) (l : List Int) (x y p : Int) (hk : 2 ≤ k) (h : Rdr l) (h0 : 0 ≤ p) (h1 : p ≤ 50000) (hx : -1073000000 ≤ x ∧ x ≤ 1073000100) (hy : -1073000000 ≤ y ∧ y ≤ 1073000100) :
    ∃ a b p', spec_l71Span.j0 k x y l p = some (a, b, p') ∧ p ≤ p' ∧ p' ≤ p + 2 ∧ -1073741824 ≤ a ∧ a ≤ 1073741824 ∧ -1073741824 ≤ b ∧ b ≤ 1073741824 := by
  obtain ⟨k, rfl⟩ : ∃ m, k = m + 1 := ⟨k - 1, by omega⟩
  simp only [spec_l71Span.j0]
  have m1 : mn x y ≤ x ∧ mn x y ≤ y ∧ (mn x y = x ∨ mn x y = y) := by unfold mn; split <;> omega
  have m2 : x ≤ mx x y ∧ y ≤ mx x y ∧ (mx x y = x ∨ mx x y = y) := by unfold mx; split <;> omega
  generalize mn x y = m at *
  generalize mx x y = M at *
  obtain ⟨v, e, v0, v1⟩ := pick_ex k l p 24 (by omega) h h0 (by omega) (by omega) (by omega)
  rw [e]; simp only [Option.bind_some]
  rw [w64 (x := m - 1) (by omega)]
  obtain ⟨u, e, u0, u1⟩ := pick_ex k l (p + 1) 2 (by omega) h (by omega) (by omega) (by omega) (by omega)
  rw [e]; simp only [Option.bind_some]
  repeat' split
  all_goals exact ⟨_, _, _, rfl, by omega, by omega, by omega, by omega, by omega, by omega⟩
theorem span_ex (k : Nat) (l : List Int) (p : Int) (hk : 10 ≤ k) (h : Rdr l) (h0 : 0 ≤ p) (h1 : p ≤ 40000) :
    ∃ a b p', spec_l71Span.f k l p = some (a, b, p') ∧ p ≤ p' ∧ p' ≤ p + 30 ∧ -1073741824 ≤ a ∧ a ≤ 1073741824 ∧ -1073741824 ≤ b ∧ b ≤ 1073741824 := by
  unfold spec_l71Span.f
  obtain ⟨v, p1, e, a, b, c, d⟩ := big_ex k l p 1073000000 hk h h0 (by omega) (by omega) (by omega)
  rw [e]; simp only [Option.bind_some]
  obtain ⟨v', p2, e, a', b', c', d'⟩ := big_ex k l p1 1073000000 hk h (by omega) (by omega) (by omega) (by omega)
  rw [e]; simp only [Option.bind_some]
  obtain ⟨u, e, u0, u1⟩ := pick_ex k l p2 5 (by omega) h (by omega) (by omega) (by omega) (by omega)
  rw [e]; simp only [Option.bind_some]
  obtain ⟨t, e, t0, t1⟩ := pick_ex k l (p2 + 1) 100 (by omega) h (by omega) (by omega) (by omega) (by omega)
  rw [e]; simp only [Option.bind_some]
  rw [w64 (by omega)]
  split
  · obtain ⟨a, b, p', e, i, j, r⟩ := span_j0 k l v v (p2 + 1) (by omega) h (by omega) (by omega) (by omega) (by omega)
    exact ⟨a, b, p', e, by omega, by omega, r⟩
  · split
    · obtain ⟨a, b, p', e, i, j, r⟩ := span_j0 k l v (v + t) (p2 + 1 + 1) (by omega) h (by omega) (by omega) (by omega) (by omega)
      exact ⟨a, b, p', e, by omega, by omega, r⟩
    · split
      · obtain ⟨a, b, p', e, i, j, r⟩ := span_j0 k l v (v + t) (p2 + 1 + 1) (by omega) h (by omega) (by omega) (by omega) (by omega)
        exact ⟨a, b, p', e, by omega, by omega, r⟩
      · obtain ⟨a, b, p', e, i, j, r⟩ := span_j0 k l v v' (p2 + 1) (by omega) h (by omega) (by omega) (by omega) (by omega)
        exact ⟨a, b, p', e, by omega, by omega, r⟩
theorem DrawSpanMeet_ex (k : Nat) (l : List Int) (hk : 10 ≤ k) (h : ∀ x ∈ l, (Lit.int .u8 x).wf = true) :
    ∃ a b c d, spec_DrawSpanMeet.f k l = some (a, b, c, d) := by
  unfold spec_DrawSpanMeet.f
  obtain ⟨s, e, hs⟩ := spec_l6Open_ex l h
  rw [e]; simp only [Option.bind_some]
  obtain ⟨a, b, p, e, p0, p1, _⟩ := span_ex k s 0 hk hs (by omega) (by omega)
  rw [e]; simp only [Option.bind_some]
  obtain ⟨u, e, u0, u1⟩ := pick_ex k s p 3 (by omega) hs (by omega) (by omega) (by omega) (by omega)
  rw [e]; simp only [Option.bind_some]
  split
  · obtain ⟨a, b, p', e, _⟩ := span_ex k s (p + 1) hk hs (by omega) (by omega)
    rw [e]; exact ⟨_, _, _, _, rfl⟩
  · obtain ⟨u, e, u0, u1⟩ := pick_ex k s (p + 1) 50 (by omega) hs (by omega) (by omega) (by omega) (by omega)
    rw [e]; simp only [Option.bind_some]
    obtain ⟨u, e, u0, u1⟩ := pick_ex k s (p + 1 + 1) 50 (by omega) hs (by omega) (by omega) (by omega) (by omega)
    rw [e]; exact ⟨_, _, _, _, rfl⟩
theorem DrawSureLess_ex (k : Nat) (l : List Int) (hk : 10 ≤ k) (h : ∀ x ∈ l, (Lit.int .u8 x).wf = true) :
    ∃ a b c d, spec_DrawSureLess.f k l = some (a, b, c, d) := by
  unfold spec_DrawSureLess.f
  obtain ⟨a, b, c, d, e⟩ := DrawSpanMeet_ex k l hk h
  rw [e]; exact ⟨_, _, _, _, rfl⟩
theorem impl_in_eq (a l h : Int) : impl_in.f a l h = some (decide (l ≤ a ∧ a ≤ h)) := by
  unfold impl_in.f
  split
  · exact congrArg some (decide_eq_decide.2 (by omega))
  · exact congrArg some (decide_eq_false (by omega)).symm
theorem impl_SpanOk_eq (a b : Int) : impl_SpanOk.f a b = some (decide (Okay a b)) := by
  unfold impl_SpanOk.f
  rw [impl_in_eq, impl_in_eq]
  simp only [Option.bind_some, decide_eq_true_eq]
  by_cases h1 : -1073000000 ≤ a ∧ a ≤ 1073000000
  · by_cases h2 : -1073000000 ≤ b ∧ b ≤ 1073000000
    · rw [if_pos h1, if_pos h2]; exact congrArg some (decide_eq_decide.2 (by unfold Okay; omega))
    · rw [if_pos h1, if_neg h2]; exact congrArg some (decide_eq_false (by unfold Okay; omega)).symm
  · rw [if_neg h1]; exact congrArg some (decide_eq_false (by unfold Okay; omega)).symm
theorem impl_SureLess_eq (k : Nat) (a b c d : Int) (hk : 1 ≤ k) : impl_SureLess.f k a b c d = some (if Okay a b ∧ Okay c d then (if b < c then 1 else if a ≥ d then 2 else 3) else 3) := by
  obtain ⟨k, rfl⟩ : ∃ m, k = m + 1 := ⟨k - 1, by omega⟩
  unfold impl_SureLess.f
  rw [impl_SpanOk_eq, impl_SpanOk_eq]
  simp only [Option.bind_some, decide_eq_true_eq, impl_SureLess.j0]
  by_cases h : Okay a b
  · by_cases g : Okay c d
    · rw [if_pos h, if_neg (by simp [g]), if_pos (c := Okay a b ∧ Okay c d) ⟨h, g⟩]
      split
      · rfl
      · split <;> rfl
    · rw [if_pos h, if_pos (by simp [g]), if_neg (c := Okay a b ∧ Okay c d) (fun x => g x.2)]
  · rw [if_neg h, if_pos trivial, if_neg (c := Okay a b ∧ Okay c d) (fun x => h x.1)]
theorem spec_l6In_eq (a l h : Int) : spec_l6In.f a l h = some (decide (l ≤ a ∧ a ≤ h)) := by
  unfold spec_l6In.f
  split
  · exact congrArg some (decide_eq_decide.2 (by omega))
  · exact congrArg some (decide_eq_false (by omega)).symm
theorem spec_SpanOk_eq (a b : Int) : spec_SpanOk.f a b = some (decide (Okay a b)) := by
  unfold spec_SpanOk.f
  rw [spec_l6In_eq, spec_l6In_eq]
  simp only [Option.bind_some, decide_eq_true_eq]
  by_cases h1 : -1073000000 ≤ a ∧ a ≤ 1073000000
  · rw [if_pos h1]; exact congrArg some (decide_eq_decide.2 (by unfold Okay; omega))
  · rw [if_neg h1]; exact congrArg some (decide_eq_false (by unfold Okay; omega)).symm
theorem spec_SureLess_eq (k : Nat) (a b c d : Int) (hk : 1 ≤ k) : spec_SureLess.f k a b c d = some (if Okay a b ∧ Okay c d then (if b < c then 1 else if a ≥ d then 2 else 3) else 3) := by
  obtain ⟨k, rfl⟩ : ∃ m, k = m + 1 := ⟨k - 1, by omega⟩
  unfold spec_SureLess.f
  rw [spec_SpanOk_eq, spec_SpanOk_eq]
  simp only [Option.bind_some, decide_eq_true_eq, spec_SureLess.j0]
  by_cases h : Okay a b
  · by_cases g : Okay c d
    · rw [if_pos h, if_neg (by simp [g]), if_pos (c := Okay a b ∧ Okay c d) ⟨h, g⟩]
      split
      · rfl
      · split <;> rfl
    · rw [if_pos h, if_pos (by simp [g]), if_neg (c := Okay a b ∧ Okay c d) (fun x => g x.2)]
  · rw [if_neg h, if_pos trivial, if_neg (c := Okay a b ∧ Okay c d) (fun x => h x.1)]
theorem lgPick_ex (a b : Int) (l : List Int) (h : -2000000000 ≤ a ∧ a ≤ b ∧ b ≤ 2000000000) : ∃ v, laws_lgPick.f a b l = some v ∧ a ≤ v ∧ v ≤ b := by
  unfold laws_lgPick.f
  have m0 := Int.emod_nonneg (l.length : Int) (by omega : b - a + 1 ≠ 0)
  have m1 := Int.emod_lt_of_pos (l.length : Int) (by omega : 0 < b - a + 1)
  rw [w64 (x := b - a) (by omega), w64 (x := b - a + 1) (by omega), if_neg (by omega), w64 (by omega)]
  exact ⟨_, rfl, by omega, by omega⟩
theorem FnSureLess : laws_FnSureLess.Pure := by
  intro l0 l1 _ _ h0 _ _ _
  refine ⟨30, ?_⟩
  unfold laws_FnSureLess.f
  have all : ∀ b, laws_FnSureLess.j0 30 l0 l1 b = some true := by
    intro t
    rw [show (30 : Nat) = 28 + 1 + 1 from rfl]
    simp only [laws_FnSureLess.j0, laws_FnSureLess.j1]
    by_cases ht : t = true
    · rw [if_pos ht]
    · rw [if_neg ht]
      obtain ⟨a, b, c, d, e⟩ := DrawSureLess_ex (28 + 1) l0 (by omega) h0
      rw [e]; simp only [Option.bind_some]
      rw [impl_SureLess_eq _ _ _ _ _ (by omega), spec_SureLess_eq _ _ _ _ _ (by omega), spec_SpanOk_eq, spec_SpanOk_eq]
      simp only [Option.bind_some, if_true, decide_eq_true_eq]
      by_cases h : Okay a b
      · by_cases g : Okay c d
        · rw [if_pos h, if_neg (by simp [g]), if_pos ⟨h, g⟩]
          have h' := h
          have g' := g
          unfold Okay at h' g'
          obtain ⟨u, e, u0, u1⟩ := lgPick_ex a b l1 (by omega)
          obtain ⟨v, e', v0, v1⟩ := lgPick_ex c d l1 (by omega)
          rw [e, e', impl_SureLess_eq _ _ _ _ _ (by omega), if_pos ⟨g, h⟩]
          simp only [Option.bind_some]
          by_cases k1 : b < c
          · have X : (if b < c then (1 : Int) else if a ≥ d then 2 else 3) = 1 := if_pos k1
            have Y : (if d < a then (1 : Int) else if c ≥ b then 2 else 3) = 2 := by rw [if_neg (by omega), if_pos (by omega)]
            rw [X, Y]
            simp; omega
          · by_cases k2 : a ≥ d
            · have X : (if b < c then (1 : Int) else if a ≥ d then 2 else 3) = 2 := by rw [if_neg k1, if_pos k2]
              rw [X]
              simp; omega
            · have X : (if b < c then (1 : Int) else if a ≥ d then 2 else 3) = 3 := by rw [if_neg k1, if_neg k2]
              rw [X]
              simp
        · have E : (if Okay a b ∧ Okay c d then (if b < c then (1 : Int) else if a ≥ d then 2 else 3) else 3) = 3 := if_neg (fun x => g x.2)
          rw [if_pos h, if_pos (by simp [g]), spec_SureLess_eq _ _ _ _ _ (by omega), E]
          simp
      · have E : (if Okay a b ∧ Okay c d then (if b < c then (1 : Int) else if a ≥ d then 2 else 3) else 3) = 3 := if_neg (fun x => h x.1)
        rw [if_neg h, spec_SureLess_eq _ _ _ _ _ (by omega), E]
        simp
  split <;> exact all _
end Go.Proofs.Ytdjlmfcnopbljaa.PureFnSureLess
