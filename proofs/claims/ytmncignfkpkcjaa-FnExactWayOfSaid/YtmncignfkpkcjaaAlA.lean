/- Plain facts on whole numbers, divided and rounded down; they hold of all whole numbers under the bounds that each names. -/
namespace AlMath

theorem fl_unique (a b q : Int) (hb : 0 < b) (h1 : q * b ≤ a) (h2 : a < (q + 1) * b) : a / b = q := by
  have e := Int.mul_ediv_add_emod a b
  have r0 := Int.emod_nonneg a (by omega : b ≠ 0)
  have r1 := Int.emod_lt_of_pos a hb
  have k1 : b * (a / b) < b * (q + 1) := by rw [Int.mul_comm b (q + 1)]; omega
  have k2 : b * q < b * (a / b + 1) := by rw [Int.mul_comm b q, Int.mul_add]; omega
  have l1 := Int.lt_of_mul_lt_mul_left k1 (by omega)
  have l2 := Int.lt_of_mul_lt_mul_left k2 (by omega)
  omega

theorem fl_le (a b : Int) (hb : 0 < b) : a / b * b ≤ a ∧ a < (a / b + 1) * b := by
  have e := Int.mul_ediv_add_emod a b
  have r0 := Int.emod_nonneg a (by omega : b ≠ 0)
  have r1 := Int.emod_lt_of_pos a hb
  rw [Int.mul_comm b] at e
  constructor
  · omega
  · rw [Int.add_mul]; omega

theorem fl_bound (a b c : Int) (hb : 0 < b) (h1 : -c ≤ a) (h2 : a ≤ c) : -c ≤ a / b ∧ a / b ≤ c := by
  have h := fl_le a b hb
  have hc : 0 ≤ c := by omega
  constructor
  · rcases Int.lt_or_le (a / b) (-c) with k | k
    · have := Int.mul_le_mul_of_nonneg_right (show a / b + 1 ≤ -c by omega) (show 0 ≤ b by omega)
      have := Int.mul_le_mul_of_nonneg_left (show 1 ≤ b by omega) hc
      rw [Int.neg_mul] at *; omega
    · exact k
  · rcases Int.lt_or_le c (a / b) with k | k
    · have := Int.mul_le_mul_of_nonneg_right (show c + 1 ≤ a / b by omega) (show 0 ≤ b by omega)
      have := Int.mul_le_mul_of_nonneg_left (show 1 ≤ b by omega) hc
      rw [Int.add_mul] at *; omega
    · exact k

/-- what Go's division and rest make of rounding down. -/
theorem tdiv_neg (a b : Int) (ha : a < 0) : Int.tdiv a b = -(-a / b) ∧ Int.tmod a b = -(-a % b) := by
  have e : a = -(-a) := by omega
  constructor
  · rw [e, Int.neg_tdiv, Int.tdiv_eq_ediv_of_nonneg (by omega)]; simp
  · rw [e, Int.neg_tmod, Int.tmod_eq_emod_of_nonneg (by omega)]; simp

theorem down_go (a b : Int) (hb : 0 < b) : (if Int.tmod a b < 0 then Int.tdiv a b - 1 else Int.tdiv a b) = a / b := by
  rcases Int.lt_or_le a 0 with ha | ha
  · obtain ⟨h1, h2⟩ := tdiv_neg a b ha
    rw [h1, h2]
    have e := Int.mul_ediv_add_emod (-a) b
    have r0 := Int.emod_nonneg (-a) (by omega : b ≠ 0)
    have r1 := Int.emod_lt_of_pos (-a) hb
    rw [Int.mul_comm b] at e
    symm
    split
    · apply fl_unique _ _ _ hb
      · rw [Int.sub_mul, Int.neg_mul]; omega
      · rw [show -(-a / b) - 1 + 1 = -(-a / b) by omega, Int.neg_mul]; omega
    · apply fl_unique _ _ _ hb
      · rw [Int.neg_mul]; omega
      · rw [Int.add_mul, Int.neg_mul]; omega
  · rw [Int.tmod_eq_emod_of_nonneg ha, Int.tdiv_eq_ediv_of_nonneg ha, if_neg]
    have := Int.emod_nonneg a (by omega : b ≠ 0)
    omega

theorem down_spec (a b : Int) (ha : a < 0) (hb : 0 < b) : -(Int.tdiv (-a + b - 1) b) = a / b := by
  rw [Int.tdiv_eq_ediv_of_nonneg (by omega)]
  have h := fl_le (-a + b - 1) b hb
  symm
  apply fl_unique _ _ _ hb
  · rw [Int.neg_mul]; rw [Int.add_mul] at h; omega
  · rw [Int.add_mul, Int.neg_mul]; omega

theorem tdiv_bound (a b c : Int) (hb : 0 < b) (h1 : -c ≤ a) (h2 : a ≤ c) : -c ≤ Int.tdiv a b ∧ Int.tdiv a b ≤ c := by
  rcases Int.lt_or_le a 0 with ha | ha
  · rw [(tdiv_neg a b ha).1]; have := fl_bound (-a) b c hb (by omega) (by omega); omega
  · rw [Int.tdiv_eq_ediv_of_nonneg ha]; exact fl_bound a b c hb h1 h2



/-- a span that is ok. -/
def Okay (a b : Int) : Prop := -1073000000 ≤ a ∧ a ≤ b ∧ b ≤ 1073000000
instance (a b : Int) : Decidable (Okay a b) := by unfold Okay; infer_instance

/-- the shorter way from a to b. -/
def diffP (a b : Int) : Int := if (b - a) % 129600000 > 64800000 then (b - a) % 129600000 - 129600000 else (b - a) % 129600000

/-- the arc of h halves of a part. -/
def arcP (h : Int) : Int × Int := (h * 785398163 / 32400000, -(-(h * 785398164) / 32400000))

/-- the arc of an angle. -/
def arcOfP (a : Int) : Int × Int × Bool := if -16200000 ≤ a ∧ a ≤ 16200000 then (if a < 0 then (-(arcP (-2 * a)).2, -(arcP (-2 * a)).1, true) else ((arcP (2 * a)).1, (arcP (2 * a)).2, true)) else (0, 0, false)

theorem arc_ok (h : Int) (h0 : 0 ≤ h) (h1 : h ≤ 40000000) : Okay (arcP h).1 (arcP h).2 := by
  unfold arcP Okay; simp only; omega

/-- a number divided and rounded some way (1 down, 2 up, 3 towards 0, 4 to the nearest, of two to the even one). -/
def roundP (a b way : Int) : Int :=
  if way = 1 then a / b
  else if way = 2 then -(-a / b)
  else if way = 3 then (if a < 0 then -(-a / b) else a / b)
  else if a - a / b * b > b - (a - a / b * b) then a / b + 1
  else if a - a / b * b = b - (a - a / b * b) then (if (a / b) % 2 = 0 then a / b else a / b + 1)
  else a / b

/-- both ends rounded, if that is the same. -/
def sureP (ok : Bool) (a b parts top way : Int) : Int × Bool :=
  if ok = true ∧ (1 ≤ parts ∧ parts ≤ top) ∧ (1 ≤ way ∧ way ≤ 4) ∧ roundP a parts way = roundP b parts way then (roundP a parts way, true) else (0, false)

/-- a fan that is ok. -/
def FanOk (a b : Int) : Prop := -129600000 ≤ a ∧ a ≤ b ∧ b ≤ 129600000
instance (a b : Int) : Decidable (FanOk a b) := by unfold FanOk; infer_instance

/-- the rest of a number divided: what Go's and the plain one have in common. -/
theorem tmod_two (q : Int) : (Int.tmod q 2 = 0) ↔ (q % 2 = 0) := by
  rcases Int.lt_or_le q 0 with h | h
  · rw [(tdiv_neg q 2 h).2]; omega
  · rw [Int.tmod_eq_emod_of_nonneg h]

/-- towards 0. -/
theorem tdiv_zero (a b : Int) : Int.tdiv a b = if a < 0 then -(-a / b) else a / b := by
  split
  · rename_i h; exact (tdiv_neg a b h).1
  · rw [Int.tdiv_eq_ediv_of_nonneg (by omega)]

/-- a number divided and rounded does not grow with its place: what is more is not rounded to less. -/
theorem fl_mono (a c b : Int) (hb : 0 < b) (h : a ≤ c) : a / b ≤ c / b := Int.ediv_le_ediv hb h

theorem round_between (a b way : Int) (hb : 0 < b) : a / b ≤ roundP a b way ∧ roundP a b way ≤ a / b + 1 ∧ (roundP a b way = a / b + 1 → a / b * b < a) := by
  have h := fl_le a b hb
  have u : -(-a / b) = a / b ∧ a / b * b = a ∨ -(-a / b) = a / b + 1 ∧ a / b * b < a := by
    have g := fl_le (-a) b hb
    rcases Int.lt_or_le (a / b * b) a with k | k
    · right
      refine ⟨?_, k⟩
      have : -a / b = -(a / b + 1) := by
        apply fl_unique _ _ _ hb
        · rw [Int.neg_mul]; omega
        · rw [show -(a / b + 1) + 1 = -(a / b) by omega, Int.neg_mul]; omega
      omega
    · left
      have : -a / b = -(a / b) := by
        apply fl_unique _ _ _ hb
        · rw [Int.neg_mul]; omega
        · rw [Int.add_mul, Int.neg_mul]; omega
      omega
  have e : (a / b + 1) * b = a / b * b + b := by rw [Int.add_mul]; omega
  rw [e] at h
  unfold roundP
  split
  · omega
  · split
    · omega
    · split
      · split <;> omega
      · split
        · omega
        · split
          · split <;> omega
          · omega

/-- what is more is not rounded to less. -/
theorem round_mono (a c b way : Int) (hb : 0 < b) (h : a ≤ c) : roundP a b way ≤ roundP c b way := by
  have h1 := round_between a b way hb
  have h2 := round_between c b way hb
  rcases Int.lt_or_le (a / b) (c / b) with k | k
  · omega
  · have e : a / b = c / b := by have := fl_mono a c b hb h; omega
    unfold roundP
    rw [e]
    have l1 := fl_le a b hb
    have l2 := fl_le c b hb
    rw [e] at l1
    have m := fl_mono (-c) (-a) b hb (by omega)
    have s1 : 0 ≤ c → 0 ≤ c / b := fun h => Int.ediv_nonneg h (by omega)
    have s2 : a < 0 → a / b < 0 := fun h => Int.ediv_neg_of_neg_of_pos h hb
    split
    · omega
    · split
      · omega
      · split
        · split <;> split <;> omega
        · generalize c / b * b = w at *
          split <;> split <;> (try split) <;> (try split) <;> omega

/-- a term's lower and upper end, of those ahead of it. -/
def tdn (t q n : Int) : Int := t * q / 1000000000 / (n * (n + 1))
def tup (t q n : Int) : Int := -(-(-(-(t * q) / 1000000000)) / (n * (n + 1)))

/-- the row, from some term on; the first number bounds its rounds. -/
def rowL (lo hi : Int) : Nat → Bool → Int → Int → Int → Int → Int → Int × Int
  | 0, _, sl, sh, _, _, _ => (sl, sh)
  | k + 1, tk, sl, sh, tl, th, n =>
    if th ≠ 0 ∧ n < 40 then
      if tup th hi n = 1 ∧ tdn tl lo n = 0 then (sl - 1, sh + 1)
      else if tk = true then rowL lo hi k false (sl - tup th hi n) (sh - tdn tl lo n) (tdn tl lo n) (tup th hi n) (n + 2)
      else rowL lo hi k true (sl + tdn tl lo n) (sh + tup th hi n) (tdn tl lo n) (tup th hi n) (n + 2)
    else (sl, sh)

/-- the row of a first number, a number, and what is divided by. -/
def rowP (first x n : Int) : Int × Int := rowL (x * x / 1000000000) (-(-(x * x) / 1000000000)) 21 true first first first first n

def smallP (h : Int) : Int × Int := (max 0 (rowP (arcP h).1 (arcP h).1 2).1, (rowP (arcP h).2 (arcP h).2 2).2)
def nearP (h : Int) : Int × Int := ((rowP 1000000000 (arcP h).2 1).1, min 1000000000 (rowP 1000000000 (arcP h).1 1).2)
/-- the sine of halves of a part, up to a quarter. -/
def quartP (h : Int) : Int × Int :=
  if h = 0 then (0, 0) else if h = 21600000 then (500000000, 500000000) else if h = 64800000 then (1000000000, 1000000000)
  else if h ≤ 32400000 then smallP h else nearP (64800000 - h)
/-- up to half a turn. -/
def halfP (h : Int) : Int × Int := if h > 64800000 then quartP (129600000 - h) else quartP h
/-- the sine of halves of a part. -/
def sineP (h : Int) : Int × Int :=
  if h % 259200000 ≥ 129600000 then (-(halfP (h % 259200000 - 129600000)).2, -(halfP (h % 259200000 - 129600000)).1) else halfP (h % 259200000)

theorem tdn_bounds (t q n : Int) (ht : 0 ≤ t) (hq : 0 ≤ q) (hq1 : q ≤ 1000000000) (hn : 1 ≤ n) : 0 ≤ tdn t q n ∧ tdn t q n ≤ t := by
  unfold tdn
  have m0 := Int.mul_nonneg ht hq
  have m1 := Int.mul_le_mul_of_nonneg_left hq1 ht
  have n1 : 1 ≤ n * (n + 1) := by have := Int.mul_le_mul (show 1 ≤ n by omega) (show 1 ≤ n + 1 by omega) (by omega) (by omega); omega
  have a := fl_bound (t * q / 1000000000) (n * (n + 1)) t (by omega) (by omega) (by omega)
  exact ⟨Int.ediv_nonneg (by omega) (by omega), a.2⟩

theorem tup_bounds (t q n : Int) (ht : 0 ≤ t) (hq : 0 ≤ q) (hq1 : q ≤ 1000000000) (hn : 1 ≤ n) : 0 ≤ tup t q n ∧ tup t q n ≤ t := by
  unfold tup
  have m0 := Int.mul_nonneg ht hq
  have m1 := Int.mul_le_mul_of_nonneg_left hq1 ht
  have n1 : 1 ≤ n * (n + 1) := by have := Int.mul_le_mul (show 1 ≤ n by omega) (show 1 ≤ n + 1 by omega) (by omega) (by omega); omega
  have z0 : 0 ≤ -(-(t * q) / 1000000000) := by omega
  have z1 : -(-(t * q) / 1000000000) ≤ t := by omega
  generalize -(-(t * q) / 1000000000) = z at *
  have a := fl_bound (-z) (n * (n + 1)) t (by omega) (by omega) (by omega)
  have b : -z / (n * (n + 1)) ≤ 0 := by
    have := Int.ediv_le_ediv (show 0 < n * (n + 1) by omega) (show -z ≤ 0 by omega)
    simpa using this
  omega

/-- an angle that is ok. -/
def AngIn (a : Int) : Prop := -1000000000000 ≤ a ∧ a ≤ 1000000000000
instance (a : Int) : Decidable (AngIn a) := by unfold AngIn; infer_instance

/-- a span and true, if that is so. -/
def toldP (c : Prop) [Decidable c] (p : Int × Int) : Int × Int × Bool := if c then (p.1, p.2, true) else (0, 0, false)

theorem toldP_pos (c : Prop) [Decidable c] (p : Int × Int) (h : c) : toldP c p = (p.1, p.2, true) := by unfold toldP; rw [if_pos h]
theorem toldP_neg (c : Prop) [Decidable c] (p : Int × Int) (h : ¬ c) : toldP c p = (0, 0, false) := by unfold toldP; rw [if_neg h]

/-- the parts of an angle. -/
def partsP (a : Int) : Bool × Int × Int × Int × Int × Bool := if -129600000 ≤ a ∧ a ≤ 129600000 then (decide (a < 0), (if a < 0 then -a else a) / 360000, (if a < 0 then -a else a) % 360000 / 6000, (if a < 0 then -a else a) % 6000 / 100, (if a < 0 then -a else a) % 100, true) else (false, 0, 0, 0, 0, false)
theorem partsP_yes (a : Int) (h : -129600000 ≤ a ∧ a ≤ 129600000) : partsP a = (decide (a < 0), (if a < 0 then -a else a) / 360000, (if a < 0 then -a else a) % 360000 / 6000, (if a < 0 then -a else a) % 6000 / 100, (if a < 0 then -a else a) % 100, true) := if_pos h
theorem partsP_no (a : Int) (h : ¬ (-129600000 ≤ a ∧ a ≤ 129600000)) : partsP a = (false, 0, 0, 0, 0, false) := if_neg h
/-- the angle of its parts. -/
def angOk (s : Bool) (d m p c : Int) : Prop := (0 ≤ d ∧ d ≤ 360) ∧ (0 ≤ m ∧ m ≤ 59) ∧ (0 ≤ p ∧ p ≤ 59) ∧ (0 ≤ c ∧ c ≤ 99) ∧ d * 360000 + m * 6000 + p * 100 + c ≤ 129600000 ∧ ¬ (s = true ∧ d * 360000 + m * 6000 + p * 100 + c = 0)
instance (s : Bool) (d m p c : Int) : Decidable (angOk s d m p c) := inferInstanceAs (Decidable (_ ∧ _ ∧ _ ∧ _ ∧ _ ∧ _))
def angOfP (s : Bool) (d m p c : Int) : Int × Bool := if angOk s d m p c then ((if s = true then -(d * 360000 + m * 6000 + p * 100 + c) else d * 360000 + m * 6000 + p * 100 + c), true) else (0, false)
theorem angOfP_no (s : Bool) (d m p c : Int) (h : ¬ angOk s d m p c) : angOfP s d m p c = (0, false) := if_neg h
theorem angOfP_pos (d m p c : Int) (h : angOk false d m p c) : angOfP false d m p c = (d * 360000 + m * 6000 + p * 100 + c, true) := if_pos h
theorem angOfP_neg (d m p c : Int) (h : angOk true d m p c) : angOfP true d m p c = (-(d * 360000 + m * 6000 + p * 100 + c), true) := if_pos h
/-- a span divided by a span of numbers over 0. -/
def divS (a b c d : Int) : Int × Int := (min (a * 1000000000 / c) (a * 1000000000 / d), max (-(-(b * 1000000000) / c)) (-(-(b * 1000000000) / d)))
/-- a span divided by a span. -/
def divP (s t : Int × Int) : Int × Int := if t.2 < 0 then divS (-s.2) (-s.1) (-t.2) (-t.1) else divS s.1 s.2 t.1 t.2
def divOk (s t : Int × Int) : Prop := ¬ (t.1 ≤ 0 ∧ 0 ≤ t.2) ∧ Okay (divP s t).1 (divP s t).2
instance (s t : Int × Int) : Decidable (divOk s t) := inferInstanceAs (Decidable (_ ∧ _))
/-- halving by a question; the first number bounds the rounds. -/
def halveL (q : Int → Bool) : Nat → Int → Int → Int × Int
  | 0, lo, hi => (lo, hi)
  | k + 1, lo, hi => if hi - lo > 1 then (if q ((lo + hi) / 2) = true then halveL q k ((lo + hi) / 2) hi else halveL q k lo ((lo + hi) / 2)) else (lo, hi)
theorem halveL_go (q : Int → Bool) (k : Nat) (lo hi : Int) (h : hi - lo > 1) : halveL q (k + 1) lo hi = if q ((lo + hi) / 2) = true then halveL q k ((lo + hi) / 2) hi else halveL q k lo ((lo + hi) / 2) := if_pos h
theorem halveL_end (q : Int → Bool) (k : Nat) (lo hi : Int) (h : ¬ hi - lo > 1) : halveL q k lo hi = (lo, hi) := by
  cases k with
  | zero => rfl
  | succ k => exact if_neg h
/-- the ends between which the halving stops. -/
theorem halveL_inv (q : Int → Bool) (k : Nat) (lo hi : Int) (h : lo ≤ hi) :
    lo ≤ (halveL q k lo hi).1 ∧ (halveL q k lo hi).1 ≤ (halveL q k lo hi).2 ∧ (halveL q k lo hi).2 ≤ hi ∧
    ((halveL q k lo hi).1 = lo ∨ q (halveL q k lo hi).1 = true) ∧ ((halveL q k lo hi).2 = hi ∨ q (halveL q k lo hi).2 = false) := by
  induction k generalizing lo hi with
  | zero => exact ⟨Int.le_refl _, h, Int.le_refl _, .inl rfl, .inl rfl⟩
  | succ k ih =>
    by_cases c : hi - lo > 1
    · rw [halveL_go q k lo hi c]
      cases hq : q ((lo + hi) / 2) with
      | true =>
        rw [if_pos rfl]
        obtain ⟨i1, i2, i3, i4, i5⟩ := ih ((lo + hi) / 2) hi (by omega)
        refine ⟨by omega, i2, i3, ?_, i5⟩
        rcases i4 with e | e
        · right; rw [e]; exact hq
        · exact .inr e
      | false =>
        rw [if_neg (by decide)]
        obtain ⟨i1, i2, i3, i4, i5⟩ := ih lo ((lo + hi) / 2) (by omega)
        refine ⟨i1, i2, by omega, i4, ?_⟩
        rcases i5 with e | e
        · right; rw [e]; exact hq
        · exact .inr e
    · rw [halveL_end q (k + 1) lo hi c]
      exact ⟨Int.le_refl _, h, Int.le_refl _, .inl rfl, .inl rfl⟩
/-- the same answers: the same halving. -/
theorem halveL_same (p q : Int → Bool) (k : Nat) (lo hi : Int) (h : ∀ a, lo ≤ a → a ≤ hi → p a = q a) : halveL p k lo hi = halveL q k lo hi := by
  induction k generalizing lo hi with
  | zero => rfl
  | succ k ih =>
    by_cases c : hi - lo > 1
    · rw [halveL_go p k lo hi c, halveL_go q k lo hi c, h ((lo + hi) / 2) (by omega) (by omega), ih ((lo + hi) / 2) hi (fun a h0 h1 => h a (by omega) h1), ih lo ((lo + hi) / 2) (fun a h0 h1 => h a h0 (by omega))]
    · rw [halveL_end p (k + 1) lo hi c, halveL_end q (k + 1) lo hi c]
end AlMath
