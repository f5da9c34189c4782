/- Plain facts on whole numbers, divided and rounded down; they hold of all whole numbers under the bounds that each names. -/
namespace AlMath

theorem fl_unique (a b q : Int) (hb : 0 < b) (h1 : q * b ≤ a) (h2 : a < (q + 1) * b) : a / b = q := by
  have e := Int.mul_ediv_add_emod a b
  have r0 := Int.emod_nonneg a (by omega : b ≠ 0)
  have r1 := Int.emod_lt_of_pos a hb
  have k1 : b * (a / b) < b * (q + 1) := by rw [Int.mul_comm b (q + 1)]; omega
  have k2 : b * q < b * (a / b + 1) := by rw [Int.mul_comm b q, Int.mul_add]; omega
  have l1 := Int.lt_of_mul_lt_mul_left k1 (by omega)
  have l2 := Int.lt_of_mul_lt_mul_left k2 (by omega)
  omega

theorem fl_le (a b : Int) (hb : 0 < b) : a / b * b ≤ a ∧ a < (a / b + 1) * b := by
  have e := Int.mul_ediv_add_emod a b
  have r0 := Int.emod_nonneg a (by omega : b ≠ 0)
  have r1 := Int.emod_lt_of_pos a hb
  rw [Int.mul_comm b] at e
  constructor
  · omega
  · rw [Int.add_mul]; omega

theorem fl_bound (a b c : Int) (hb : 0 < b) (h1 : -c ≤ a) (h2 : a ≤ c) : -c ≤ a / b ∧ a / b ≤ c := by
  have h := fl_le a b hb
  have hc : 0 ≤ c := by omega
  constructor
  · rcases Int.lt_or_le (a / b) (-c) with k | k
    · have := Int.mul_le_mul_of_nonneg_right (show a / b + 1 ≤ -c by omega) (show 0 ≤ b by omega)
      have := Int.mul_le_mul_of_nonneg_left (show 1 ≤ b by omega) hc
      rw [Int.neg_mul] at *; omega
    · exact k
  · rcases Int.lt_or_le c (a / b) with k | k
    · have := Int.mul_le_mul_of_nonneg_right (show c + 1 ≤ a / b by omega) (show 0 ≤ b by omega)
      have := Int.mul_le_mul_of_nonneg_left (show 1 ≤ b by omega) hc
      rw [Int.add_mul] at *; omega
    · exact k

/-- what Go's division and rest make of rounding down. -/
theorem tdiv_neg (a b : Int) (ha : a < 0) : Int.tdiv a b = -(-a / b) ∧ Int.tmod a b = -(-a % b) := by
  have e : a = -(-a) := by omega
  constructor
  · rw [e, Int.neg_tdiv, Int.tdiv_eq_ediv_of_nonneg (by omega)]; simp
  · rw [e, Int.neg_tmod, Int.tmod_eq_emod_of_nonneg (by omega)]; simp

theorem down_go (a b : Int) (hb : 0 < b) : (if Int.tmod a b < 0 then Int.tdiv a b - 1 else Int.tdiv a b) = a / b := by
  rcases Int.lt_or_le a 0 with ha | ha
  · obtain ⟨h1, h2⟩ := tdiv_neg a b ha
    rw [h1, h2]
    have e := Int.mul_ediv_add_emod (-a) b
    have r0 := Int.emod_nonneg (-a) (by omega : b ≠ 0)
    have r1 := Int.emod_lt_of_pos (-a) hb
    rw [Int.mul_comm b] at e
    symm
    split
    · apply fl_unique _ _ _ hb
      · rw [Int.sub_mul, Int.neg_mul]; omega
      · rw [show -(-a / b) - 1 + 1 = -(-a / b) by omega, Int.neg_mul]; omega
    · apply fl_unique _ _ _ hb
      · rw [Int.neg_mul]; omega
      · rw [Int.add_mul, Int.neg_mul]; omega
  · rw [Int.tmod_eq_emod_of_nonneg ha, Int.tdiv_eq_ediv_of_nonneg ha, if_neg]
    have := Int.emod_nonneg a (by omega : b ≠ 0)
    omega

theorem down_spec (a b : Int) (ha : a < 0) (hb : 0 < b) : -(Int.tdiv (-a + b - 1) b) = a / b := by
  rw [Int.tdiv_eq_ediv_of_nonneg (by omega)]
  have h := fl_le (-a + b - 1) b hb
  symm
  apply fl_unique _ _ _ hb
  · rw [Int.neg_mul]; rw [Int.add_mul] at h; omega
  · rw [Int.add_mul, Int.neg_mul]; omega

theorem tdiv_bound (a b c : Int) (hb : 0 < b) (h1 : -c ≤ a) (h2 : a ≤ c) : -c ≤ Int.tdiv a b ∧ Int.tdiv a b ≤ c := by
  rcases Int.lt_or_le a 0 with ha | ha
  · rw [(tdiv_neg a b ha).1]; have := fl_bound (-a) b c hb (by omega) (by omega); omega
  · rw [Int.tdiv_eq_ediv_of_nonneg ha]; exact fl_bound a b c hb h1 h2



/-- a span that is ok. -/
def Okay (a b : Int) : Prop := -1073000000 ≤ a ∧ a ≤ b ∧ b ≤ 1073000000
instance (a b : Int) : Decidable (Okay a b) := by unfold Okay; infer_instance

/-- the shorter way from a to b. -/
def diffP (a b : Int) : Int := if (b - a) % 129600000 > 64800000 then (b - a) % 129600000 - 129600000 else (b - a) % 129600000

/-- the arc of h halves of a part. -/
def arcP (h : Int) : Int × Int := (h * 785398163 / 32400000, -(-(h * 785398164) / 32400000))

/-- the arc of an angle. -/
def arcOfP (a : Int) : Int × Int × Bool := if -16200000 ≤ a ∧ a ≤ 16200000 then (if a < 0 then (-(arcP (-2 * a)).2, -(arcP (-2 * a)).1, true) else ((arcP (2 * a)).1, (arcP (2 * a)).2, true)) else (0, 0, false)

theorem arc_ok (h : Int) (h0 : 0 ≤ h) (h1 : h ≤ 40000000) : Okay (arcP h).1 (arcP h).2 := by
  unfold arcP Okay; simp only; omega

/-- a number divided and rounded some way (1 down, 2 up, 3 towards 0, 4 to the nearest, of two to the even one). -/
def roundP (a b way : Int) : Int :=
  if way = 1 then a / b
  else if way = 2 then -(-a / b)
  else if way = 3 then (if a < 0 then -(-a / b) else a / b)
  else if a - a / b * b > b - (a - a / b * b) then a / b + 1
  else if a - a / b * b = b - (a - a / b * b) then (if (a / b) % 2 = 0 then a / b else a / b + 1)
  else a / b

/-- both ends rounded, if that is the same. -/
def sureP (ok : Bool) (a b parts top way : Int) : Int × Bool :=
  if ok = true ∧ (1 ≤ parts ∧ parts ≤ top) ∧ (1 ≤ way ∧ way ≤ 4) ∧ roundP a parts way = roundP b parts way then (roundP a parts way, true) else (0, false)

/-- a fan that is ok. -/
def FanOk (a b : Int) : Prop := -129600000 ≤ a ∧ a ≤ b ∧ b ≤ 129600000
instance (a b : Int) : Decidable (FanOk a b) := by unfold FanOk; infer_instance

/-- the rest of a number divided: what Go's and the plain one have in common. -/
theorem tmod_two (q : Int) : (Int.tmod q 2 = 0) ↔ (q % 2 = 0) := by
  rcases Int.lt_or_le q 0 with h | h
  · rw [(tdiv_neg q 2 h).2]; omega
  · rw [Int.tmod_eq_emod_of_nonneg h]

/-- towards 0. -/
theorem tdiv_zero (a b : Int) : Int.tdiv a b = if a < 0 then -(-a / b) else a / b := by
  split
  · rename_i h; exact (tdiv_neg a b h).1
  · rw [Int.tdiv_eq_ediv_of_nonneg (by omega)]

/-- a number divided and rounded does not grow with its place: what is more is not rounded to less. -/
theorem fl_mono (a c b : Int) (hb : 0 < b) (h : a ≤ c) : a / b ≤ c / b := Int.ediv_le_ediv hb h

theorem round_between (a b way : Int) (hb : 0 < b) : a / b ≤ roundP a b way ∧ roundP a b way ≤ a / b + 1 ∧ (roundP a b way = a / b + 1 → a / b * b < a) := by
  have h := fl_le a b hb
  have u : -(-a / b) = a / b ∧ a / b * b = a ∨ -(-a / b) = a / b + 1 ∧ a / b * b < a := by
    have g := fl_le (-a) b hb
    rcases Int.lt_or_le (a / b * b) a with k | k
    · right
      refine ⟨?_, k⟩
      have : -a / b = -(a / b + 1) := by
        apply fl_unique _ _ _ hb
        · rw [Int.neg_mul]; omega
        · rw [show -(a / b + 1) + 1 = -(a / b) by omega, Int.neg_mul]; omega
      omega
    · left
      have : -a / b = -(a / b) := by
        apply fl_unique _ _ _ hb
        · rw [Int.neg_mul]; omega
        · rw [Int.add_mul, Int.neg_mul]; omega
      omega
  have e : (a / b + 1) * b = a / b * b + b := by rw [Int.add_mul]; omega
  rw [e] at h
  unfold roundP
  split
  · omega
  · split
    · omega
    · split
      · split <;> omega
      · split
        · omega
        · split
          · split <;> omega
          · omega

/-- what is more is not rounded to less. -/
theorem round_mono (a c b way : Int) (hb : 0 < b) (h : a ≤ c) : roundP a b way ≤ roundP c b way := by
  have h1 := round_between a b way hb
  have h2 := round_between c b way hb
  rcases Int.lt_or_le (a / b) (c / b) with k | k
  · omega
  · have e : a / b = c / b := by have := fl_mono a c b hb h; omega
    unfold roundP
    rw [e]
    have l1 := fl_le a b hb
    have l2 := fl_le c b hb
    rw [e] at l1
    have m := fl_mono (-c) (-a) b hb (by omega)
    have s1 : 0 ≤ c → 0 ≤ c / b := fun h => Int.ediv_nonneg h (by omega)
    have s2 : a < 0 → a / b < 0 := fun h => Int.ediv_neg_of_neg_of_pos h hb
    split
    · omega
    · split
      · omega
      · split
        · split <;> split <;> omega
        · generalize c / b * b = w at *
          split <;> split <;> (try split) <;> (try split) <;> omega

end AlMath
