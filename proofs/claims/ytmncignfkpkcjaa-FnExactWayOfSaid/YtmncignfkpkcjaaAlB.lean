/- Plain facts on a rotation by small steps over the rational numbers and on rows of terms; they hold under the bounds that each names. -/
import Derived.Test.YtmncignfkpkcjaaAlA
namespace AlMath

/-- n steps of a rotation: (cosine, sine), up to a factor that is very near to one. -/
def rot (t : Rat) : Nat → Rat × Rat
  | 0 => (1, 0)
  | n + 1 => ((rot t n).1 - t * (rot t n).2, (rot t n).2 + t * (rot t n).1)

theorem rot_zero (t : Rat) : rot t 0 = (1, 0) := rfl
theorem rot_fst (t : Rat) (n : Nat) : (rot t (n + 1)).1 = (rot t n).1 - t * (rot t n).2 := rfl
theorem rot_snd (t : Rat) (n : Nat) : (rot t (n + 1)).2 = (rot t n).2 + t * (rot t n).1 := rfl

theorem rot_add (t : Rat) (m n : Nat) :
    (rot t (m + n)).1 = (rot t m).1 * (rot t n).1 - (rot t m).2 * (rot t n).2 ∧
    (rot t (m + n)).2 = (rot t m).2 * (rot t n).1 + (rot t m).1 * (rot t n).2 := by
  induction n with
  | zero => simp only [Nat.add_zero, rot_zero]; grind
  | succ n ih =>
    obtain ⟨h1, h2⟩ := ih
    rw [← Nat.add_assoc, rot_fst, rot_snd, rot_fst, rot_snd, h1, h2]
    constructor <;> grind

theorem rot_norm (t : Rat) (n : Nat) : (rot t n).1 * (rot t n).1 + (rot t n).2 * (rot t n).2 = (1 + t * t) ^ n := by
  induction n with
  | zero => simp only [rot_zero, Rat.pow_zero]; grind
  | succ n ih => rw [rot_fst, rot_snd, Rat.pow_succ, ← ih]; grind

theorem pow_ge_one (t : Rat) (n : Nat) : 1 ≤ (1 + t * t) ^ n := by
  induction n with
  | zero => rw [Rat.pow_zero]; exact Rat.le_refl
  | succ n ih =>
    rw [Rat.pow_succ]
    have h0 : 0 ≤ t * t := by
      rcases Rat.le_total (a := 0) (b := t) with h | h
      · exact Rat.mul_nonneg h h
      · have := Rat.mul_nonneg (a := -t) (b := -t) (by grind) (by grind); grind
    have := Rat.mul_nonneg (a := (1 + t * t) ^ n - 1) (b := t * t) (by grind) h0
    grind

theorem pow_le (t : Rat) (ht : 0 ≤ t) (n : Nat) (h : 2 * ((n : Rat) * (t * t)) ≤ 1) : (1 + t * t) ^ n ≤ 1 + 2 * ((n : Rat) * (t * t)) := by
  induction n with
  | zero => rw [Rat.pow_zero]; grind
  | succ n ih =>
    have e : ((n + 1 : Nat) : Rat) = (n : Rat) + 1 := by simp
    rw [e] at h ⊢
    have h0 : 0 ≤ t * t := Rat.mul_nonneg ht ht
    have h1 := ih (by grind)
    rw [Rat.pow_succ]
    have h2 := Rat.mul_le_mul_of_nonneg_right h1 (c := 1 + t * t) (by grind)
    have h3 := Rat.mul_nonneg (a := 1 - 2 * ((n : Rat) * (t * t))) (b := t * t) (by grind) h0
    grind

/-- terms of the rows in steps: t^p times n over p. -/
def bn (t : Rat) : Nat → Nat → Rat
  | 0, _ => 1
  | _ + 1, 0 => 0
  | p + 1, n + 1 => bn t (p + 1) n + t * bn t p n

theorem bn_zero (t : Rat) (n : Nat) : bn t 0 n = 1 := by cases n <;> rfl
theorem bn_at0 (t : Rat) (p : Nat) : bn t (p + 1) 0 = 0 := rfl
theorem bn_step (t : Rat) (p n : Nat) : bn t (p + 1) (n + 1) = bn t (p + 1) n + t * bn t p n := rfl

theorem bn_nonneg (t : Rat) (ht : 0 ≤ t) (p n : Nat) : 0 ≤ bn t p n := by
  induction n generalizing p with
  | zero => cases p with
    | zero => rw [bn_zero]; decide
    | succ p => rw [bn_at0]; exact Rat.le_refl
  | succ n ih => cases p with
    | zero => rw [bn_zero]; decide
    | succ p => rw [bn_step]; have := ih (p + 1); have := Rat.mul_nonneg ht (ih p); grind

theorem bn_id (t : Rat) (p n : Nat) : ((p : Rat) + 1) * bn t (p + 1) n = ((n : Rat) * t - (p : Rat) * t) * bn t p n := by
  induction n generalizing p with
  | zero =>
    rw [bn_at0]
    cases p with
    | zero => rw [bn_zero]; grind
    | succ p => rw [bn_at0]; grind
  | succ n ih =>
    have e : ((n + 1 : Nat) : Rat) = (n : Rat) + 1 := by simp
    cases p with
    | zero =>
      have h := ih 0
      clear ih; simp only [bn_step, bn_zero, e] at h ⊢; grind
    | succ p =>
      have h := ih (p + 1)
      have h' := ih p
      have e' : ((p + 1 : Nat) : Rat) = (p : Rat) + 1 := by simp
      rw [bn_step t (p + 1), bn_step t p, e, e']; rw [e'] at h; grind

/-- terms of the rows: x^p over p factorial. -/
def mon (x : Rat) : Nat → Rat
  | 0 => 1
  | p + 1 => mon x p * x / ((p : Rat) + 1)

theorem mon_zero (x : Rat) : mon x 0 = 1 := rfl
theorem cast_pos (p : Nat) : (0 : Rat) < (p : Rat) + 1 := by have := Rat.natCast_nonneg (a := p); grind
theorem mon_step (x : Rat) (p : Nat) : ((p : Rat) + 1) * mon x (p + 1) = mon x p * x := by
  have h := cast_pos p
  have : mon x (p + 1) = mon x p * x / ((p : Rat) + 1) := rfl
  rw [this, Rat.mul_comm]; exact Rat.div_mul_cancel (by grind)

theorem mon_nonneg (x : Rat) (hx : 0 ≤ x) (p : Nat) : 0 ≤ mon x p := by
  induction p with
  | zero => rw [mon_zero]; decide
  | succ p ih =>
    have h := mon_step x p
    have hp := cast_pos p
    have := Rat.mul_nonneg ih hx
    exact Rat.le_of_mul_le_mul_left (c := (p : Rat) + 1) (by grind) hp

theorem mon_le (x : Rat) (hx : 0 ≤ x) (h1 : x ≤ 1) (p : Nat) : mon x (p + 1) ≤ mon x p := by
  have h := mon_step x p
  have hp := cast_pos p
  have h0 := mon_nonneg x hx p
  have h2 := Rat.mul_nonneg h0 (b := 1 - x) (by grind)
  have h3 := Rat.mul_nonneg (Rat.natCast_nonneg (a := p)) h0
  exact Rat.le_of_mul_le_mul_left (c := (p : Rat) + 1) (by grind) hp

theorem mon_le_one (x : Rat) (hx : 0 ≤ x) (h1 : x ≤ 1) (p : Nat) : mon x p ≤ 1 := by
  induction p with
  | zero => rw [mon_zero]; exact Rat.le_refl
  | succ p ih => have := mon_le x hx h1 p; grind

theorem bn_mon (t : Rat) (ht : 0 ≤ t) (n : Nat) (h1 : (n : Rat) * t ≤ 1) (p : Nat) :
    bn t p n ≤ mon ((n : Rat) * t) p ∧ mon ((n : Rat) * t) p ≤ bn t p n + 2 * t := by
  have hn : (0 : Rat) ≤ (n : Rat) * t := Rat.mul_nonneg Rat.natCast_nonneg ht
  induction p with
  | zero => rw [bn_zero, mon_zero]; grind
  | succ p ih =>
    obtain ⟨i1, i2⟩ := ih
    have hb := bn_id t p n
    have hm := mon_step ((n : Rat) * t) p
    have hp := cast_pos p
    have b0 := bn_nonneg t ht p n
    have m1 := mon_le_one _ hn h1 p
    have p0 : (0 : Rat) ≤ (p : Rat) := Rat.natCast_nonneg
    have pt := Rat.mul_nonneg p0 ht
    have k1 := Rat.mul_nonneg pt b0
    have k2 := Rat.mul_nonneg (a := mon ((n : Rat) * t) p - bn t p n) (by grind) hn
    have k3 := Rat.mul_nonneg (a := mon ((n : Rat) * t) p - bn t p n) (b := 1 - (n : Rat) * t) (by grind) (by grind)
    have k4 := Rat.mul_nonneg pt (b := 1 - bn t p n) (by grind)
    constructor
    · exact Rat.le_of_mul_le_mul_left (c := (p : Rat) + 1) (by grind) hp
    · exact Rat.le_of_mul_le_mul_left (c := (p : Rat) + 1) (by grind) hp



/-- one sum more of what is at most c times a term. -/
theorem sum_abs (t : Rat) (p : Nat) (c : Rat) (K : Nat) (f g : Nat → Rat) (h0 : f 0 = 0)
    (hs : ∀ n, n < K → f (n + 1) = f n + t * g n)
    (hg : ∀ n, n < K → -(c * bn t p n) ≤ g n ∧ g n ≤ c * bn t p n) (ht : 0 ≤ t) :
    ∀ n, n ≤ K → -(c * bn t (p + 1) n) ≤ f n ∧ f n ≤ c * bn t (p + 1) n := by
  intro n
  induction n with
  | zero => intro _; rw [h0, bn_at0]; grind
  | succ n ih =>
    intro hn
    obtain ⟨a, b⟩ := ih (by omega)
    obtain ⟨u, v⟩ := hg n (by omega)
    rw [hs n (by omega), bn_step]
    have h1 := Rat.mul_le_mul_of_nonneg_left u ht
    have h2 := Rat.mul_le_mul_of_nonneg_left v ht
    constructor <;> grind

/-- sums by turns of terms in steps: cosine (s = 0) and sine (s = 1). -/
def sb (t : Rat) (s : Nat) (n : Nat) : Nat → Rat
  | 0 => bn t s n
  | j + 1 => sb t s n j + (if j % 2 = 0 then -1 else 1) * bn t (2 * (j + 1) + s) n

theorem sb_one (t : Rat) (n j : Nat) : sb t 1 (n + 1) j = sb t 1 n j + t * sb t 0 n j := by
  induction j with
  | zero => simp only [sb, bn_step, bn_zero]
  | succ j ih =>
    have e : 2 * (j + 1) + 1 = (2 * (j + 1) + 0) + 1 := rfl
    simp only [sb]
    rw [ih, e, bn_step]
    split <;> grind

theorem sb_zero (t : Rat) (n j : Nat) : sb t 0 (n + 1) (j + 1) = sb t 0 n (j + 1) - t * sb t 1 n j := by
  induction j with
  | zero =>
    have e : 2 * (0 + 1) + 0 = 1 + 1 := rfl
    simp only [sb, bn_zero]
    rw [e, bn_step]; grind
  | succ j ih =>
    have e : 2 * (j + 1 + 1) + 0 = (2 * (j + 1) + 1) + 1 := rfl
    have x : sb t 0 (n + 1) (j + 1 + 1) = sb t 0 (n + 1) (j + 1) + (if (j + 1) % 2 = 0 then -1 else 1) * bn t (2 * (j + 1 + 1) + 0) (n + 1) := rfl
    have y : sb t 0 n (j + 1 + 1) = sb t 0 n (j + 1) + (if (j + 1) % 2 = 0 then -1 else 1) * bn t (2 * (j + 1 + 1) + 0) n := rfl
    have z : sb t 1 n (j + 1) = sb t 1 n j + (if j % 2 = 0 then -1 else 1) * bn t (2 * (j + 1) + 1) n := rfl
    rw [x, y, z, ih, e, bn_step]
    rcases Nat.mod_two_eq_zero_or_one j with h | h
    · have h' : (j + 1) % 2 = 1 := by omega
      rw [h, h']; simp only [if_true, Nat.one_ne_zero, if_false]; grind
    · have h' : (j + 1) % 2 = 0 := by omega
      rw [h, h']; simp only [if_true, Nat.one_ne_zero, if_false]; grind

theorem sb_at0 (t : Rat) (j : Nat) : sb t 0 0 j = 1 ∧ sb t 1 0 j = 0 := by
  induction j with
  | zero => exact ⟨bn_zero t 0, bn_at0 t 0⟩
  | succ j ih =>
    obtain ⟨a, b⟩ := ih
    have e0 : 2 * (j + 1) + 0 = (2 * j + 1) + 1 := rfl
    have e1 : 2 * (j + 1) + 1 = (2 * j + 1 + 1) + 1 := rfl
    simp only [sb]
    rw [a, b, e0, e1, bn_at0, bn_at0]; grind

/-- what is left of both rows. -/
theorem left_rows (t : Rat) (ht : 0 ≤ t) (c : Rat) (K : Nat)
    (hA : ∀ n, n ≤ K → -c ≤ (rot t n).1 ∧ (rot t n).1 ≤ c) (j : Nat) :
    (∀ n, n ≤ K → -(c * bn t (2 * j + 2) n) ≤ (rot t n).1 - sb t 0 n j ∧ (rot t n).1 - sb t 0 n j ≤ c * bn t (2 * j + 2) n) ∧
    (∀ n, n ≤ K → -(c * bn t (2 * j + 3) n) ≤ (rot t n).2 - sb t 1 n j ∧ (rot t n).2 - sb t 1 n j ≤ c * bn t (2 * j + 3) n) := by
  have up : ∀ j, (∀ n, n ≤ K → -(c * bn t (2 * j + 2) n) ≤ (rot t n).1 - sb t 0 n j ∧ (rot t n).1 - sb t 0 n j ≤ c * bn t (2 * j + 2) n) →
      (∀ n, n ≤ K → -(c * bn t (2 * j + 3) n) ≤ (rot t n).2 - sb t 1 n j ∧ (rot t n).2 - sb t 1 n j ≤ c * bn t (2 * j + 3) n) := by
    intro j h
    refine sum_abs t (2 * j + 2) c K (fun n => (rot t n).2 - sb t 1 n j) (fun n => (rot t n).1 - sb t 0 n j) ?_ ?_ ?_ ht
    · simp only [rot_zero, (sb_at0 t j).2]; grind
    · intro n _; simp only [rot_snd, sb_one]; grind
    · intro n hn; exact h n (by omega)
  induction j with
  | zero =>
    have one : ∀ n, n ≤ K → -(c * bn t (0 + 1) n) ≤ (rot t n).2 ∧ (rot t n).2 ≤ c * bn t (0 + 1) n := by
      refine sum_abs t 0 c K (fun n => (rot t n).2) (fun n => (rot t n).1) rfl ?_ ?_ ht
      · intro n _; exact rot_snd t n
      · intro n hn; rw [bn_zero]; have := hA n (by omega); grind
    have two : ∀ n, n ≤ K → -(c * bn t (2 * 0 + 2) n) ≤ (rot t n).1 - sb t 0 n 0 ∧ (rot t n).1 - sb t 0 n 0 ≤ c * bn t (2 * 0 + 2) n := by
      refine sum_abs t 1 c K (fun n => (rot t n).1 - sb t 0 n 0) (fun n => -(rot t n).2) ?_ ?_ ?_ ht
      · simp only [rot_zero, sb, bn_zero]; grind
      · intro n _; simp only [rot_fst, sb, bn_zero]; grind
      · intro n hn; have := one n (by omega); grind
    exact ⟨two, up 0 two⟩
  | succ j ih =>
    have two : ∀ n, n ≤ K → -(c * bn t (2 * (j + 1) + 2) n) ≤ (rot t n).1 - sb t 0 n (j + 1) ∧ (rot t n).1 - sb t 0 n (j + 1) ≤ c * bn t (2 * (j + 1) + 2) n := by
      refine sum_abs t (2 * j + 3) c K (fun n => (rot t n).1 - sb t 0 n (j + 1)) (fun n => -((rot t n).2 - sb t 1 n j)) ?_ ?_ ?_ ht
      · simp only [rot_zero, (sb_at0 t (j + 1)).1]; grind
      · intro n _; simp only [rot_fst, sb_zero]; grind
      · intro n hn; have := ih.2 n (by omega); grind
    exact ⟨two, up (j + 1) two⟩

/-- sums by turns of powers over factorials. -/
def sm (x : Rat) (s : Nat) : Nat → Rat
  | 0 => mon x s
  | j + 1 => sm x s j + (if j % 2 = 0 then -1 else 1) * mon x (2 * (j + 1) + s)

theorem sb_sm (t : Rat) (ht : 0 ≤ t) (n : Nat) (h1 : (n : Rat) * t ≤ 1) (s j : Nat) :
    sb t s n j - sm ((n : Rat) * t) s j ≤ 2 * t * ((j : Rat) + 1) ∧ sm ((n : Rat) * t) s j - sb t s n j ≤ 2 * t * ((j : Rat) + 1) := by
  induction j with
  | zero => have := bn_mon t ht n h1 s; simp only [sb, sm]; grind
  | succ j ih =>
    have := bn_mon t ht n h1 (2 * (j + 1) + s)
    have e : ((j + 1 : Nat) : Rat) = (j : Rat) + 1 := by simp
    simp only [sb, sm, e]
    split <;> grind

/-- a sum by turns of terms that do not grow lies between two that follow. -/
theorem turns (x : Rat) (hx : 0 ≤ x) (h1 : x ≤ 1) (s d : Nat) :
    (∀ j, j % 2 = 1 → sm x s j ≤ sm x s (j + d) ∧ sm x s (j + d) ≤ sm x s j + mon x (2 * (j + 1) + s)) ∧
    (∀ j, j % 2 = 0 → sm x s (j + d) ≤ sm x s j ∧ sm x s j - mon x (2 * (j + 1) + s) ≤ sm x s (j + d)) := by
  induction d with
  | zero =>
    constructor <;> intro j _ <;> have := mon_nonneg x hx (2 * (j + 1) + s) <;> rw [Nat.add_zero] <;> grind
  | succ d ih =>
    obtain ⟨o, e⟩ := ih
    have down : ∀ j, mon x (2 * (j + 1 + 1) + s) ≤ mon x (2 * (j + 1) + s) := by
      intro j
      have a := mon_le x hx h1 (2 * (j + 1) + s)
      have b := mon_le x hx h1 (2 * (j + 1) + s + 1)
      have e : 2 * (j + 1 + 1) + s = 2 * (j + 1) + s + 1 + 1 := by omega
      rw [e]; grind
    constructor
    · intro j hj
      have h := e (j + 1) (by omega)
      have w : sm x s (j + 1) = sm x s j + mon x (2 * (j + 1) + s) := by simp only [sm, hj]; simp
      have q : j + (d + 1) = j + 1 + d := by omega
      have := down j
      rw [q]; grind
    · intro j hj
      have h := o (j + 1) (by omega)
      have w : sm x s (j + 1) = sm x s j - mon x (2 * (j + 1) + s) := by simp only [sm, hj]; simp; grind
      have q : j + (d + 1) = j + 1 + d := by omega
      have := down j
      rw [q]; grind



/-- a step. -/
def tau : Rat := 1 / 100000000000000000000000000000000000000000000000000
/-- steps of half a part. -/
def mm : Nat := 2424068405547679967949570511789739879781767

theorem eval_eighth (n : Nat) (hn : n = 32400000 * mm) : (n : Rat) * tau ≤ 4 / 5 ∧ sm ((n : Rat) * tau) 0 13 - sm ((n : Rat) * tau) 1 13 ≤ 1 / 10 ^ 31 ∧ sm ((n : Rat) * tau) 1 13 - sm ((n : Rat) * tau) 0 13 ≤ 1 / 10 ^ 31 := by
  subst hn; decide +kernel

theorem eval_third (n : Nat) (hn : n = 21600000 * mm) : (n : Rat) * tau ≤ 4 / 5 ∧ sm ((n : Rat) * tau) 1 13 - 1 / 2 ≤ 1 / 10 ^ 36 ∧ 1 / 2 - sm ((n : Rat) * tau) 1 13 ≤ 1 / 10 ^ 36 := by
  subst hn; decide +kernel

theorem eval_last : mon (4 / 5) 28 ≤ 1 / (10 ^ 32) := by decide +kernel


theorem tau_pos : 0 < tau := by decide +kernel
theorem tau_small : tau ≤ 1 / 10 ^ 49 := by decide +kernel

theorem mul_self_nonneg (x : Rat) : 0 ≤ x * x := by
  rcases Rat.le_total (a := 0) (b := x) with h | h
  · exact Rat.mul_nonneg h h
  · have := Rat.mul_nonneg (a := -x) (b := -x) (by grind) (by grind); grind

/-- from squares to numbers. -/
theorem abs_of_sq (x c : Rat) (hc : 0 ≤ c) (h : x * x ≤ c * c) : -c ≤ x ∧ x ≤ c := by
  constructor
  · rcases Rat.le_total (a := -c) (b := x) with k | k
    · exact k
    · have h1 := Rat.mul_nonneg (a := -c - x) (b := -c - x) (by grind) (by grind)
      have h2 := Rat.mul_nonneg (a := -c - x) (b := c) (by grind) hc
      have h3 : (-c - x) * (-c - x) ≤ 0 := by grind
      have h4 : (-c - x) * (-c - x) = 0 := Rat.le_antisymm h3 h1
      have := (Rat.mul_eq_zero).1 h4
      grind
  · rcases Rat.le_total (a := x) (b := c) with k | k
    · exact k
    · have h1 := Rat.mul_nonneg (a := x - c) (b := x - c) (by grind) (by grind)
      have h2 := Rat.mul_nonneg (a := x - c) (b := c) (by grind) hc
      have h3 : (x - c) * (x - c) ≤ 0 := by grind
      have h4 : (x - c) * (x - c) = 0 := Rat.le_antisymm h3 h1
      have := (Rat.mul_eq_zero).1 h4
      grind

/-- cosine and sine of n steps. -/
def cs (n : Nat) : Rat := (rot tau n).1
def sn (n : Nat) : Rat := (rot tau n).2

theorem cs_zero : cs 0 = 1 := rfl
theorem sn_zero : sn 0 = 0 := rfl
theorem cs_succ (n : Nat) : cs (n + 1) = cs n - tau * sn n := rfl
theorem sn_succ (n : Nat) : sn (n + 1) = sn n + tau * cs n := rfl
theorem cs_add (m n : Nat) : cs (m + n) = cs m * cs n - sn m * sn n := (rot_add tau m n).1
theorem sn_add (m n : Nat) : sn (m + n) = sn m * cs n + cs m * sn n := (rot_add tau m n).2

theorem norm_low (n : Nat) : 1 ≤ cs n * cs n + sn n * sn n := by
  have h := rot_norm tau n; have := pow_ge_one tau n
  unfold cs sn; rw [h]; exact this

theorem norm_high (n : Nat) (hn : (n : Rat) * tau ≤ 100) : cs n * cs n + sn n * sn n ≤ 1 + 1 / 10 ^ 40 := by
  have h := rot_norm tau n
  have k0 := Rat.mul_le_mul_of_nonneg_right hn (Rat.le_of_lt tau_pos)
  have k1 : 100 * tau ≤ 1 / 10 ^ 47 := by decide +kernel
  have k := pow_le tau (Rat.le_of_lt tau_pos) n (by grind)
  unfold cs sn; rw [h]; grind

theorem both_two (n : Nat) (hn : (n : Rat) * tau ≤ 100) : (-2 ≤ cs n ∧ cs n ≤ 2) ∧ (-2 ≤ sn n ∧ sn n ≤ 2) := by
  have h := norm_high n hn
  have a := mul_self_nonneg (cs n)
  have b := mul_self_nonneg (sn n)
  exact ⟨abs_of_sq _ _ (by decide) (by grind), abs_of_sq _ _ (by decide) (by grind)⟩

theorem mon_mono (x y : Rat) (hx : 0 ≤ x) (h : x ≤ y) (p : Nat) : mon x p ≤ mon y p := by
  induction p with
  | zero => rw [mon_zero, mon_zero]; exact Rat.le_refl
  | succ p ih =>
    have a := mon_step x p
    have b := mon_step y p
    have hp := cast_pos p
    have c := Rat.mul_le_mul_of_nonneg_right ih hx
    have d := Rat.mul_le_mul_of_nonneg_left h (mon_nonneg y (by grind) p)
    exact Rat.le_of_mul_le_mul_left (c := (p : Rat) + 1) (by grind) hp

theorem mul_tau_mono {m n : Nat} (h : m ≤ n) : (m : Rat) * tau ≤ (n : Rat) * tau :=
  Rat.mul_le_mul_of_nonneg_right (Rat.natCast_le_natCast.2 h) (Rat.le_of_lt tau_pos)

theorem near_rows (n : Nat) (hn : (n : Rat) * tau ≤ 4 / 5) :
    (cs n - sm ((n : Rat) * tau) 0 13 ≤ 1 / 10 ^ 31 ∧ sm ((n : Rat) * tau) 0 13 - cs n ≤ 1 / 10 ^ 31) ∧
    (sn n - sm ((n : Rat) * tau) 1 13 ≤ 1 / 10 ^ 31 ∧ sm ((n : Rat) * tau) 1 13 - sn n ≤ 1 / 10 ^ 31) := by
  have t0 := Rat.le_of_lt tau_pos
  have x0 : 0 ≤ (n : Rat) * tau := Rat.mul_nonneg Rat.natCast_nonneg t0
  have x1 : (n : Rat) * tau ≤ 1 := by grind
  have l := left_rows tau t0 2 n (fun k hk => (both_two k (by have := mul_tau_mono hk; grind)).1) 13
  have l0 := l.1 n (Nat.le_refl n)
  have l1 := l.2 n (Nat.le_refl n)
  have b0 := (bn_mon tau t0 n x1 (2 * 13 + 2)).1
  have b1 := (bn_mon tau t0 n x1 (2 * 13 + 3)).1
  have m0 := mon_mono _ _ x0 hn 28
  have m1 := mon_le _ x0 x1 28
  have e := eval_last
  have s0 := sb_sm tau t0 n x1 0 13
  have s1 := sb_sm tau t0 n x1 1 13
  have k1 : 2 * tau * (((13 : Nat) : Rat) + 1) ≤ 1 / 10 ^ 45 := by decide +kernel
  have e2 : 2 * 13 + 2 = 28 := rfl
  have e3 : 2 * 13 + 3 = 28 + 1 := rfl
  rw [e2] at b0 l0
  rw [e3] at b1 l1
  unfold cs sn
  grind

theorem sn_lower (n : Nat) (hn : (n : Rat) * tau ≤ 4 / 5) : (n : Rat) * tau / 2 ≤ sn n ∧ 1 / 2 ≤ cs n := by
  have half : ∀ k : Nat, (k : Rat) * tau ≤ 4 / 5 → 1 / 2 ≤ cs k := by
    intro k hk
    have t0 := Rat.le_of_lt tau_pos
    have x0 : 0 ≤ (k : Rat) * tau := Rat.mul_nonneg Rat.natCast_nonneg t0
    have a := (near_rows k hk).1.2
    have b := ((turns _ x0 (by grind) 0 12).1 1 rfl).1
    have e : 1 + 12 = 13 := rfl
    rw [e] at b
    have c : sm ((k : Rat) * tau) 0 1 = 1 - mon ((k : Rat) * tau) 2 := by simp [sm, mon_zero]; grind
    have d := mon_mono _ _ x0 hk 2
    have f : mon (4 / 5) 2 ≤ 2 / 5 := by decide +kernel
    grind
  refine ⟨?_, half n hn⟩
  induction n with
  | zero => rw [sn_zero]; grind
  | succ n ih =>
    have := mul_tau_mono (Nat.le_succ n)
    have h1 := ih (by grind)
    have h2 := Rat.mul_le_mul_of_nonneg_left (half n (by grind)) (Rat.le_of_lt tau_pos)
    have e : ((n + 1 : Nat) : Rat) = (n : Rat) + 1 := by simp
    rw [sn_succ, e]; grind

/-- between 0 and a bit above an eighth of a turn. -/
theorem sn_grow (n d : Nat) (hn : ((n + d : Nat) : Rat) * tau ≤ 4 / 5) :
    sn n + (d : Rat) * tau / 2 ≤ sn (n + d) ∧ sn (n + d) ≤ sn n + (d : Rat) * tau ∧
    cs (n + d) + (d : Rat) * tau * ((n : Rat) * tau / 2) ≤ cs n ∧ cs n ≤ cs (n + d) + (d : Rat) * tau ∧ cs (n + d) ≤ 1 ∧ sn (n + d) ≤ 1 := by
  have t0 := Rat.le_of_lt tau_pos
  have cs1 : ∀ k : Nat, (k : Rat) * tau ≤ 4 / 5 → cs k ≤ 1 := by
    intro k hk
    induction k with
    | zero => rw [cs_zero]; exact Rat.le_refl
    | succ k ih =>
      have hk' : (k : Rat) * tau ≤ 4 / 5 := by have := mul_tau_mono (Nat.le_succ k); grind
      have h1 := (sn_lower k hk').1
      have x0 : 0 ≤ (k : Rat) * tau := Rat.mul_nonneg Rat.natCast_nonneg t0
      have h2 := Rat.mul_nonneg t0 (b := sn k) (by grind)
      have := ih hk'
      rw [cs_succ]; grind
  have sn1 : ∀ k : Nat, (k : Rat) * tau ≤ 4 / 5 → sn k ≤ (k : Rat) * tau := by
    intro k hk
    induction k with
    | zero => rw [sn_zero]; grind
    | succ k ih =>
      have hk' : (k : Rat) * tau ≤ 4 / 5 := by have := mul_tau_mono (Nat.le_succ k); grind
      have h2 := Rat.mul_le_mul_of_nonneg_left (cs1 k hk') t0
      have := ih hk'
      have e : ((k + 1 : Nat) : Rat) = (k : Rat) + 1 := by simp
      rw [sn_succ, e]; grind
  have top := sn1 _ hn
  refine ⟨?_, ?_, ?_, ?_, cs1 _ hn, by grind⟩
  all_goals clear top
  · induction d with
    | zero => simp; grind
    | succ d ih =>
      have hk' : ((n + d : Nat) : Rat) * tau ≤ 4 / 5 := by have := mul_tau_mono (Nat.le_succ (n + d)); rw [Nat.add_succ] at hn; grind
      have h2 := Rat.mul_le_mul_of_nonneg_left (sn_lower _ hk').2 t0
      have := ih hk'
      have e : ((d + 1 : Nat) : Rat) = (d : Rat) + 1 := by simp
      rw [← Nat.add_assoc, sn_succ, e]; grind
  · induction d with
    | zero => simp; grind
    | succ d ih =>
      have hk' : ((n + d : Nat) : Rat) * tau ≤ 4 / 5 := by have := mul_tau_mono (Nat.le_succ (n + d)); rw [Nat.add_succ] at hn; grind
      have h2 := Rat.mul_le_mul_of_nonneg_left (cs1 _ hk') t0
      have := ih hk'
      have e : ((d + 1 : Nat) : Rat) = (d : Rat) + 1 := by simp
      rw [← Nat.add_assoc, sn_succ, e]; grind
  · induction d with
    | zero => simp; grind
    | succ d ih =>
      have hk' : ((n + d : Nat) : Rat) * tau ≤ 4 / 5 := by have := mul_tau_mono (Nat.le_succ (n + d)); rw [Nat.add_succ] at hn; grind
      have h1 := (sn_lower _ hk').1
      have h0 := mul_tau_mono (Nat.le_add_right n d)
      have h2 := Rat.mul_le_mul_of_nonneg_left (a := (n : Rat) * tau / 2) (b := sn (n + d)) (by grind) t0
      have := ih hk'
      have e : ((d + 1 : Nat) : Rat) = (d : Rat) + 1 := by simp
      rw [← Nat.add_assoc, cs_succ, e]; grind
  · induction d with
    | zero => simp; grind
    | succ d ih =>
      have hk' : ((n + d : Nat) : Rat) * tau ≤ 4 / 5 := by have := mul_tau_mono (Nat.le_succ (n + d)); rw [Nat.add_succ] at hn; grind
      have h1 := sn1 _ hk'
      have h2 := Rat.mul_le_mul_of_nonneg_left (a := sn (n + d)) (b := 1) (by grind) t0
      have := ih hk'
      have e : ((d + 1 : Nat) : Rat) = (d : Rat) + 1 := by simp
      rw [← Nat.add_assoc, cs_succ, e]; grind



/-- cosine and sine of h halves of a part. -/
def ch (h : Nat) : Rat := cs (h * mm)
def sh (h : Nat) : Rat := sn (h * mm)

/-- two numbers are apart by e at most. -/
def Near (a b e : Rat) : Prop := a - b ≤ e ∧ b - a ≤ e

theorem near_mul (x y e : Rat) (hx : -e ≤ x ∧ x ≤ e) (hy : -2 ≤ y ∧ y ≤ 2) : -(2 * e) ≤ x * y ∧ x * y ≤ 2 * e := by
  have a := Rat.mul_nonneg (a := e - x) (b := 2 - y) (by grind) (by grind)
  have b := Rat.mul_nonneg (a := e - x) (b := 2 + y) (by grind) (by grind)
  have c := Rat.mul_nonneg (a := e + x) (b := 2 - y) (by grind) (by grind)
  have d := Rat.mul_nonneg (a := e + x) (b := 2 + y) (by grind) (by grind)
  constructor <;> grind

theorem ch_zero : ch 0 = 1 := by unfold ch; rw [Nat.zero_mul]; exact cs_zero
theorem sh_zero : sh 0 = 0 := by unfold sh; rw [Nat.zero_mul]; exact sn_zero
theorem ch_add (a b : Nat) : ch (a + b) = ch a * ch b - sh a * sh b := by unfold ch sh; rw [Nat.add_mul]; exact cs_add _ _
theorem sh_add (a b : Nat) : sh (a + b) = sh a * ch b + ch a * sh b := by unfold ch sh; rw [Nat.add_mul]; exact sn_add _ _

theorem steps_le (h k : Nat) (c : Rat) (e : ((k * mm : Nat) : Rat) * tau ≤ c) (hk : h ≤ k) : ((h * mm : Nat) : Rat) * tau ≤ c := by
  have := mul_tau_mono (Nat.mul_le_mul_right mm hk)
  grind

theorem h_norm (h : Nat) (hk : h ≤ 4000000000) : 1 ≤ ch h * ch h + sh h * sh h ∧ ch h * ch h + sh h * sh h ≤ 1 + 1 / 10 ^ 40 :=
  ⟨norm_low _, norm_high _ (steps_le h 4000000000 100 (by decide +kernel) hk)⟩

theorem h_two (h : Nat) (hk : h ≤ 4000000000) : (-2 ≤ ch h ∧ ch h ≤ 2) ∧ (-2 ≤ sh h ∧ sh h ≤ 2) :=
  both_two _ (steps_le h 4000000000 100 (by decide +kernel) hk)

/-- an eighth of a turn. -/
theorem at_eighth : Near (ch 32400000) (sh 32400000) (1 / 10 ^ 30) := by
  unfold Near ch sh
  generalize hn : 32400000 * mm = n
  have b := eval_eighth n hn.symm
  have a := near_rows n b.1
  clear hn
  grind

/-- a twelfth of a turn. -/
theorem at_third : Near (sh 21600000) (1 / 2) (1 / 10 ^ 30) := by
  unfold Near sh
  generalize hn : 21600000 * mm = n
  have b := eval_third n hn.symm
  have a := near_rows n b.1
  clear hn
  grind

/-- a quarter of a turn. -/
theorem at_quarter : Near (ch 64800000) 0 (1 / 10 ^ 29) ∧ Near (sh 64800000) 1 (1 / 10 ^ 29) := by
  have a := at_eighth
  have n := h_norm 32400000 (by decide)
  have w := h_two 32400000 (by decide)
  have e : 64800000 = 32400000 + 32400000 := rfl
  rw [e, ch_add, sh_add]
  generalize ch 32400000 = c at *
  generalize sh 32400000 = s at *
  unfold Near at *
  have m1 := near_mul (c - s) c (1 / 10 ^ 30) (by grind) (by grind)
  have m2 := near_mul (c - s) s (1 / 10 ^ 30) (by grind) (by grind)
  have m3 := near_mul (c - s) (c - s) (1 / 10 ^ 30) (by grind) (by grind)
  grind

theorem at_half : Near (ch 129600000) (-1) (1 / 10 ^ 28) ∧ Near (sh 129600000) 0 (1 / 10 ^ 28) := by
  have a := at_quarter
  have w := h_two 64800000 (by decide)
  have e : 129600000 = 64800000 + 64800000 := rfl
  rw [e, ch_add, sh_add]
  generalize ch 64800000 = c at *
  generalize sh 64800000 = s at *
  unfold Near at *
  have m1 := near_mul c c (1 / 10 ^ 29) (by grind) (by grind)
  have m2 := near_mul c s (1 / 10 ^ 29) (by grind) (by grind)
  have m3 := near_mul (s - 1) s (1 / 10 ^ 29) (by grind) (by grind)
  grind

theorem at_whole : Near (ch 259200000) 1 (1 / 10 ^ 27) ∧ Near (sh 259200000) 0 (1 / 10 ^ 27) := by
  have a := at_half
  have w := h_two 129600000 (by decide)
  have e : 259200000 = 129600000 + 129600000 := rfl
  rw [e, ch_add, sh_add]
  generalize ch 129600000 = c at *
  generalize sh 129600000 = s at *
  unfold Near at *
  have m1 := near_mul s s (1 / 10 ^ 28) (by grind) (by grind)
  have m2 := near_mul s c (1 / 10 ^ 28) (by grind) (by grind)
  have m3 := near_mul (c + 1) c (1 / 10 ^ 28) (by grind) (by grind)
  grind

/-- a quarter further. -/
theorem h_quarter (h : Nat) (hk : h ≤ 4000000000) : Near (sh (h + 64800000)) (ch h) (1 / 10 ^ 20) ∧ Near (ch (h + 64800000)) (-(sh h)) (1 / 10 ^ 20) := by
  have a := at_quarter
  have w := h_two h hk
  have e1 := ch_add h 64800000
  have e2 := sh_add h 64800000
  rw [e1, e2]
  clear e1 e2 hk
  generalize ch 64800000 = c at a ⊢
  generalize sh 64800000 = s at a ⊢
  generalize ch h = x at w ⊢
  generalize sh h = y at w ⊢
  unfold Near at *
  have m1 := near_mul c y (1 / 10 ^ 29) (by grind) (by grind)
  have m2 := near_mul c x (1 / 10 ^ 29) (by grind) (by grind)
  have m3 := near_mul (s - 1) y (1 / 10 ^ 29) (by grind) (by grind)
  have m4 := near_mul (s - 1) x (1 / 10 ^ 29) (by grind) (by grind)
  grind

/-- half a turn further. -/
theorem h_half (h : Nat) (hk : h ≤ 4000000000) : Near (sh (h + 129600000)) (-(sh h)) (1 / 10 ^ 20) ∧ Near (ch (h + 129600000)) (-(ch h)) (1 / 10 ^ 20) := by
  have a := at_half
  have w := h_two h hk
  have e1 := ch_add h 129600000
  have e2 := sh_add h 129600000
  rw [e1, e2]
  clear e1 e2 hk
  generalize ch 129600000 = c at a ⊢
  generalize sh 129600000 = s at a ⊢
  generalize ch h = x at w ⊢
  generalize sh h = y at w ⊢
  unfold Near at *
  have m1 := near_mul s y (1 / 10 ^ 28) (by grind) (by grind)
  have m2 := near_mul s x (1 / 10 ^ 28) (by grind) (by grind)
  have m3 := near_mul (c + 1) y (1 / 10 ^ 28) (by grind) (by grind)
  have m4 := near_mul (c + 1) x (1 / 10 ^ 28) (by grind) (by grind)
  grind

/-- a turn further. -/
theorem h_whole (h : Nat) (hk : h ≤ 4000000000) : Near (sh (h + 259200000)) (sh h) (1 / 10 ^ 20) ∧ Near (ch (h + 259200000)) (ch h) (1 / 10 ^ 20) := by
  have a := at_whole
  have w := h_two h hk
  have e1 := ch_add h 259200000
  have e2 := sh_add h 259200000
  rw [e1, e2]
  clear e1 e2 hk
  generalize ch 259200000 = c at a ⊢
  generalize sh 259200000 = s at a ⊢
  generalize ch h = x at w ⊢
  generalize sh h = y at w ⊢
  unfold Near at *
  have m1 := near_mul s y (1 / 10 ^ 27) (by grind) (by grind)
  have m2 := near_mul s x (1 / 10 ^ 27) (by grind) (by grind)
  have m3 := near_mul (c - 1) y (1 / 10 ^ 27) (by grind) (by grind)
  have m4 := near_mul (c - 1) x (1 / 10 ^ 27) (by grind) (by grind)
  grind

/-- what is lacking to a quarter. -/
theorem h_lack (a b : Nat) (e : a + b = 64800000) : Near (ch a) (sh b) (1 / 10 ^ 20) := by
  have q := at_quarter
  have wa := h_two a (by omega)
  have wb := h_two b (by omega)
  have nb := h_norm b (by omega)
  have c := ch_add a b
  have s := sh_add a b
  rw [e] at c s
  generalize ch 64800000 = C at *
  generalize sh 64800000 = S at *
  generalize ch a = x at *
  generalize sh a = y at *
  generalize ch b = u at *
  generalize sh b = v at *
  clear e
  subst c s
  unfold Near at *
  have m1 := near_mul (x * u - y * v) u (1 / 10 ^ 29) (by grind) (by grind)
  have m2 := near_mul (y * u + x * v - 1) v (1 / 10 ^ 29) (by grind) (by grind)
  have m3 := near_mul (u * u + v * v - 1) x (1 / 10 ^ 40) (by grind) (by grind)
  grind

/-- what is lacking to half a turn. -/
theorem h_lack2 (a b : Nat) (e : a + b = 129600000) : Near (sh a) (sh b) (1 / 10 ^ 20) := by
  have q := at_half
  have wa := h_two a (by omega)
  have wb := h_two b (by omega)
  have nb := h_norm b (by omega)
  have c := ch_add a b
  have s := sh_add a b
  rw [e] at c s
  generalize ch 129600000 = C at *
  generalize sh 129600000 = S at *
  generalize ch a = x at *
  generalize sh a = y at *
  generalize ch b = u at *
  generalize sh b = v at *
  clear e
  subst c s
  unfold Near at *
  have m1 := near_mul (y * u + x * v) u (1 / 10 ^ 28) (by grind) (by grind)
  have m2 := near_mul (x * u - y * v + 1) v (1 / 10 ^ 28) (by grind) (by grind)
  have m3 := near_mul (u * u + v * v - 1) y (1 / 10 ^ 40) (by grind) (by grind)
  grind



theorem icast {a b : Int} (h : a ≤ b) : (a : Rat) ≤ (b : Rat) := Rat.intCast_le_intCast.2 h

/-- rounding down, among rational numbers. -/
theorem fl_cast (a b : Int) (hb : 0 < b) : ((a / b : Int) : Rat) * (b : Rat) ≤ (a : Rat) ∧ (a : Rat) ≤ ((a / b : Int) : Rat) * (b : Rat) + (b : Rat) := by
  have h := fl_le a b hb
  have h1 := icast h.1
  have h2 := icast (Int.le_of_lt h.2)
  simp only [Rat.intCast_mul, Rat.intCast_add] at h1 h2
  constructor
  · exact h1
  · have : ((1 : Int) : Rat) = 1 := rfl
    grind

/-- rounding up, among rational numbers. -/
theorem ce_cast (a b : Int) (hb : 0 < b) : (a : Rat) ≤ ((-(-a / b) : Int) : Rat) * (b : Rat) ∧ ((-(-a / b) : Int) : Rat) * (b : Rat) ≤ (a : Rat) + (b : Rat) := by
  have h := fl_cast (-a) b hb
  simp only [Rat.intCast_neg] at h ⊢
  constructor <;> grind

/-- the square of a number of parts, divided by one, rounded. -/
theorem sq_cast (x : Int) (y : Rat) (hy : (x : Rat) = 1000000000 * y) :
    ((x * x / 1000000000 : Int) : Rat) ≤ 1000000000 * (y * y) ∧ 1000000000 * (y * y) ≤ ((x * x / 1000000000 : Int) : Rat) + 1 ∧
    1000000000 * (y * y) ≤ ((-(-(x * x) / 1000000000) : Int) : Rat) ∧ ((-(-(x * x) / 1000000000) : Int) : Rat) ≤ 1000000000 * (y * y) + 1 := by
  have h := fl_cast (x * x) 1000000000 (by decide)
  have g := ce_cast (x * x) 1000000000 (by decide)
  have e : ((1000000000 : Int) : Rat) = 1000000000 := rfl
  have m : ((x * x : Int) : Rat) = 1000000000 * y * (1000000000 * y) := by rw [Rat.intCast_mul, hy]
  rw [e, m] at h g
  refine ⟨?_, ?_, ?_, ?_⟩ <;> grind

/-- one term further. -/
theorem term_cast (p : Nat) (y : Rat) (hy : 0 ≤ y) (hy1 : y * y ≤ 31 / 50) (tl th lo hi n : Int) (hn : (n : Rat) = (p : Rat) + 1) (hn1 : 1 ≤ n)
    (hlo : (lo : Rat) ≤ 1000000000 * (y * y)) (hlo2 : 1000000000 * (y * y) ≤ (lo : Rat) + 1) (hlo0 : 0 ≤ lo)
    (hhi : 1000000000 * (y * y) ≤ (hi : Rat)) (hhi2 : (hi : Rat) ≤ 1000000000 * (y * y) + 1) (htl0 : 0 ≤ tl)
    (htl : (tl : Rat) ≤ 1000000000 * mon y p) (htl2 : 1000000000 * mon y p ≤ (tl : Rat) + 3)
    (hth : 1000000000 * mon y p ≤ (th : Rat)) (hth2 : (th : Rat) ≤ 1000000000 * mon y p + 3) :
    ((tdn tl lo n : Int) : Rat) ≤ 1000000000 * mon y (p + 2) ∧ 1000000000 * mon y (p + 2) ≤ ((tdn tl lo n : Int) : Rat) + 3 ∧
    1000000000 * mon y (p + 2) ≤ ((tup th hi n : Int) : Rat) ∧ ((tup th hi n : Int) : Rat) ≤ 1000000000 * mon y (p + 2) + 3 := by
  have M0 := mon_nonneg y hy p
  have M1 := mon_le_one y hy (by
    rcases Rat.le_total (a := y) (b := 1) with h | h
    · exact h
    · have := Rat.mul_le_mul_of_nonneg_left h hy; grind) p
  have e1 := mon_step y p
  have e2 := mon_step y (p + 1)
  have ep : ((p + 1 : Nat) : Rat) = (p : Rat) + 1 := by simp
  have ey : mon y (p + 2) = mon y (p + 1 + 1) := rfl
  rw [ep] at e2
  rw [ey]
  have p0 : (0 : Rat) ≤ (p : Rat) := Rat.natCast_nonneg
  -- the divisor
  have nn : 0 < n * (n + 1) := Int.mul_pos (by omega) (by omega)
  have nc : ((n * (n + 1) : Int) : Rat) = ((p : Rat) + 1) * ((p : Rat) + 1 + 1) := by
    have : ((1 : Int) : Rat) = 1 := rfl
    rw [Rat.intCast_mul, Rat.intCast_add, hn, this]
  have n2 : 2 ≤ ((p : Rat) + 1) * ((p : Rat) + 1 + 1) := by
    have := Rat.mul_nonneg p0 p0
    grind
  have mult : (((p : Rat) + 1) * ((p : Rat) + 1 + 1)) * mon y (p + 1 + 1) = mon y p * (y * y) := by grind
  have q0 : 0 ≤ y * y := Rat.mul_nonneg hy hy
  generalize ((p : Rat) + 1) * ((p : Rat) + 1 + 1) = m at *
  generalize mon y (p + 1 + 1) = T at *
  generalize mon y p = t at *
  generalize y * y = q at *
  clear e1 e2 ep ey hn p0
  have L := icast hlo0
  have TL := icast htl0
  have z0 : ((0 : Int) : Rat) = 0 := rfl
  have u0 : ((1000000000 : Int) : Rat) = 1000000000 := rfl
  rw [z0] at L TL
  unfold tdn tup
  -- downwards
  have f1 := fl_cast (tl * lo) 1000000000 (by decide)
  have f2 := fl_cast (tl * lo / 1000000000) (n * (n + 1)) nn
  have g1 := ce_cast (th * hi) 1000000000 (by decide)
  have g2 := ce_cast (-(-(th * hi) / 1000000000)) (n * (n + 1)) nn
  rw [u0, Rat.intCast_mul] at f1 g1
  rw [nc] at f2 g2
  generalize ((tl * lo / 1000000000 : Int) : Rat) = a at *
  generalize ((-(-(th * hi) / 1000000000) : Int) : Rat) = b at *
  generalize ((tl * lo / 1000000000 / (n * (n + 1)) : Int) : Rat) = A at *
  generalize ((-(-(-(-(th * hi) / 1000000000)) / (n * (n + 1))) : Int) : Rat) = B at *
  generalize (tl : Rat) = x at *
  generalize (th : Rat) = z at *
  generalize (lo : Rat) = l at *
  generalize (hi : Rat) = h at *
  clear nc z0 u0 nn hn1 hlo0 htl0 hy
  have mT : 0 ≤ m := by grind
  have s1 := Rat.mul_nonneg TL (b := 1000000000 * q - l) (by grind)
  have s2 := Rat.mul_nonneg (a := 1000000000 * t - x) (b := q) (by grind) q0
  have s3 := Rat.mul_nonneg M0 q0
  have s4 := Rat.mul_nonneg (a := x + 3 - 1000000000 * t) (b := q) (by grind) q0
  have s5 := Rat.mul_nonneg TL (b := l + 1 - 1000000000 * q) (by grind)
  have s6 := Rat.mul_nonneg (a := z) (b := h - 1000000000 * q) (by grind) (by grind)
  have s7 := Rat.mul_nonneg (a := z - 1000000000 * t) (b := q) (by grind) q0
  have s8 := Rat.mul_nonneg (a := z) (b := 1000000000 * q + 1 - h) (by grind) (by grind)
  have s9 := Rat.mul_nonneg (a := 1000000000 * t + 3 - z) (b := q) (by grind) q0
  refine ⟨?_, ?_, ?_, ?_⟩
  · refine Rat.le_of_mul_le_mul_left (c := m) ?_ (by grind)
    grind
  · refine Rat.le_of_mul_le_mul_left (c := m) ?_ (by grind)
    grind
  · refine Rat.le_of_mul_le_mul_left (c := m) ?_ (by grind)
    grind
  · refine Rat.le_of_mul_le_mul_left (c := m) ?_ (by grind)
    grind

theorem last_terms (t q n : Int) (h0 : 0 ≤ t) (h1 : t ≤ 28) (q0 : 0 ≤ q) (q1 : q ≤ 1000000000) (hn : n = 11 ∨ n = 12) : tdn t q n = 0 ∧ tup t q n ≤ 1 := by
  have m0 := Int.mul_nonneg h0 q0
  have m1 := Int.mul_le_mul h1 q1 q0 (by omega)
  unfold tdn tup
  generalize t * q = m at *
  rcases hn with rfl | rfl
  · rw [show (11 : Int) * (11 + 1) = 132 from rfl]; omega
  · rw [show (12 : Int) * (12 + 1) = 156 from rfl]; omega

/-- what a row tells: the sum is in it, and it is not wide. -/
def Tells (y : Rat) (s : Nat) (r : Int × Int) : Prop :=
  (r.1 : Rat) ≤ 1000000000 * sm y s 13 ∧ 1000000000 * sm y s 13 ≤ (r.2 : Rat) ∧ 1000000000 * sm y s 13 ≤ (r.1 : Rat) + 20 ∧ (r.2 : Rat) ≤ 1000000000 * sm y s 13 + 20

/-- what the row is, and what is left of it. -/
theorem turns_13 (y : Rat) (hy : 0 ≤ y) (h1 : y ≤ 1) (s j : Nat) (hj : j ≤ 13) :
    sm y s j - mon y (2 * (j + 1) + s) ≤ sm y s 13 ∧ sm y s 13 ≤ sm y s j + mon y (2 * (j + 1) + s) ∧
    (j % 2 = 1 → sm y s j ≤ sm y s 13) ∧ (j % 2 = 0 → sm y s 13 ≤ sm y s j) := by
  have t := turns y hy h1 s (13 - j)
  have e : j + (13 - j) = 13 := by omega
  have m := mon_nonneg y hy (2 * (j + 1) + s)
  rcases Nat.mod_two_eq_zero_or_one j with h | h
  · have a := t.2 j h
    rw [e] at a
    refine ⟨by grind, by grind, fun k => by omega, fun _ => a.1⟩
  · have a := t.1 j h
    rw [e] at a
    refine ⟨by grind, by grind, fun _ => a.1, fun k => by omega⟩

theorem mon_ten (y : Rat) (hy : 0 ≤ y) (h1 : y ≤ 3927 / 5000) (s : Nat) (hs : s ≤ 1) : 1000000000 * mon y (10 + s) ≤ 25 := by
  have a := mon_mono y (3927 / 5000) hy h1 10
  have b : 1000000000 * mon (3927 / 5000) 10 ≤ 25 := by decide +kernel
  have c := mon_le y hy (by grind) 10
  have d : s = 0 ∨ s = 1 := by omega
  rcases d with rfl | rfl
  · rw [Nat.add_zero]; grind
  · grind

theorem row_claim (s : Nat) (hs : s ≤ 1) (y : Rat) (hy : 0 ≤ y) (h1 : y ≤ 3927 / 5000) (lo hi : Int)
    (hlo : (lo : Rat) ≤ 1000000000 * (y * y)) (hlo2 : 1000000000 * (y * y) ≤ (lo : Rat) + 1) (hlo0 : 0 ≤ lo) (hlo1 : lo ≤ 1000000000)
    (hhi : 1000000000 * (y * y) ≤ (hi : Rat)) (hhi2 : (hi : Rat) ≤ 1000000000 * (y * y) + 1) (hhi0 : 0 ≤ hi) (hhi1 : hi ≤ 1000000000) (d : Nat) :
    ∀ (j k : Nat) (tk : Bool) (sl sh tl th n : Int), j + d = 6 → (1 ≤ d ∨ th = 0) → d + 1 ≤ k → n = 2 * (j : Int) + 1 + (s : Int) → (tk = true ↔ j % 2 = 0) → 0 ≤ tl → 0 ≤ th →
      (tl : Rat) ≤ 1000000000 * mon y (2 * j + s) → 1000000000 * mon y (2 * j + s) ≤ (tl : Rat) + 3 →
      1000000000 * mon y (2 * j + s) ≤ (th : Rat) → (th : Rat) ≤ 1000000000 * mon y (2 * j + s) + 3 →
      (sl : Rat) ≤ 1000000000 * sm y s j → 1000000000 * sm y s j ≤ (sh : Rat) →
      1000000000 * sm y s j ≤ (sl : Rat) + 3 * (j : Rat) → (sh : Rat) ≤ 1000000000 * sm y s j + 3 * (j : Rat) →
      Tells y s (rowL lo hi k tk sl sh tl th n) := by
  have yy : y * y ≤ 31 / 50 := by
    have a := Rat.mul_le_mul_of_nonneg_left h1 hy
    have b := Rat.mul_le_mul_of_nonneg_right h1 (show (0 : Rat) ≤ 3927 / 5000 by grind)
    grind
  have y1 : y ≤ 1 := by grind
  induction d with
  | zero =>
    intro j k tk sl sh tl th n hj hd hk hn htk tl0 th0 i1 i2 i3 i4 i5 i6 i7 i8
    obtain ⟨k, rfl⟩ : ∃ m, k = m + 1 := ⟨k - 1, by omega⟩
    obtain rfl : th = 0 := by omega
    simp only [rowL]
    rw [if_neg (by simp)]
    have m0 := mon_nonneg y hy (2 * j + s)
    have z0 : ((0 : Int) : Rat) = 0 := rfl
    rw [z0] at i3 i4
    have e1 := mon_step y (2 * j + s)
    have e2 := mon_step y (2 * j + s + 1)
    have c1 := cast_pos (2 * j + s)
    have c2 := cast_pos (2 * j + s + 1)
    have v0 : mon y (2 * j + s) = 0 := by grind
    rw [v0, Rat.zero_mul] at e1
    have v1 : mon y (2 * j + s + 1) = 0 := by
      rcases (Rat.mul_eq_zero).1 e1 with h | h
      · grind
      · exact h
    rw [v1, Rat.zero_mul] at e2
    have v2 : mon y (2 * (j + 1) + s) = 0 := by
      have e : 2 * (j + 1) + s = 2 * j + s + 1 + 1 := by omega
      rw [e]
      rcases (Rat.mul_eq_zero).1 e2 with h | h
      · grind
      · exact h
    have t := turns_13 y hy y1 s j (by omega)
    have jc : (j : Rat) ≤ 6 := by have := (Rat.natCast_le_natCast (a := j) (b := 6)).2 (by omega); exact this
    rw [v2] at t
    unfold Tells
    simp only
    grind
  | succ d ih =>
    intro j k tk sl sh tl th n hj hd hk hn htk tl0 th0 i1 i2 i3 i4 i5 i6 i7 i8
    obtain ⟨k, rfl⟩ : ∃ m, k = m + 1 := ⟨k - 1, by omega⟩
    have jc : (j : Rat) ≤ 5 := by have := (Rat.natCast_le_natCast (a := j) (b := 5)).2 (by omega); exact this
    have z0 : ((0 : Int) : Rat) = 0 := rfl
    have z1 : ((1 : Int) : Rat) = 1 := rfl
    have t := turns_13 y hy y1 s j (by omega)
    by_cases hz : th = 0
    · subst hz
      simp only [rowL]
      rw [if_neg (by simp)]
      have m0 := mon_nonneg y hy (2 * j + s)
      rw [z0] at i3 i4
      have e1 := mon_step y (2 * j + s)
      have e2 := mon_step y (2 * j + s + 1)
      have c1 := cast_pos (2 * j + s)
      have c2 := cast_pos (2 * j + s + 1)
      have v0 : mon y (2 * j + s) = 0 := by grind
      rw [v0, Rat.zero_mul] at e1
      have v1 : mon y (2 * j + s + 1) = 0 := by
        rcases (Rat.mul_eq_zero).1 e1 with h | h
        · grind
        · exact h
      rw [v1, Rat.zero_mul] at e2
      have v2 : mon y (2 * (j + 1) + s) = 0 := by
        have e : 2 * (j + 1) + s = 2 * j + s + 1 + 1 := by omega
        rw [e]
        rcases (Rat.mul_eq_zero).1 e2 with h | h
        · grind
        · exact h
      rw [v2] at t
      unfold Tells
      simp only
      grind
    · have hnr : (n : Rat) = ((2 * j + s : Nat) : Rat) + 1 := by
        have e : n = ((2 * j + s : Nat) : Int) + 1 := by omega
        rw [e, Rat.intCast_add, z1]
        rfl
      have T := term_cast (2 * j + s) y hy yy tl th lo hi n hnr (by omega) hlo hlo2 hlo0 hhi hhi2 tl0 i1 i2 i3 i4
      have e : 2 * j + s + 2 = 2 * (j + 1) + s := by omega
      rw [e] at T
      have B1 := tdn_bounds tl lo n tl0 hlo0 hlo1 (by omega)
      have B2 := tup_bounds th hi n th0 hhi0 hhi1 (by omega)
      simp only [rowL]
      rw [if_pos ⟨hz, by omega⟩]
      by_cases hs' : tup th hi n = 1 ∧ tdn tl lo n = 0
      · rw [if_pos hs']
        rw [hs'.1, hs'.2, z0, z1] at T
        have m0 := mon_nonneg y hy (2 * (j + 1) + s)
        unfold Tells
        simp only [Rat.intCast_sub, Rat.intCast_add, z1]
        grind
      · rw [if_neg hs']
        have go : 1 ≤ d ∨ tup th hi n = 0 := by
          rcases Nat.eq_zero_or_pos d with h0 | h0
          · right
            subst h0
            obtain rfl : j = 5 := by omega
            have m := mon_ten y hy h1 s hs
            have e5 : 2 * 5 + s = 10 + s := by omega
            rw [e5] at i1 i4
            have tl2 : tl ≤ 28 := by
              have : (tl : Rat) ≤ ((28 : Int) : Rat) := by have : ((28 : Int) : Rat) = 28 := rfl; grind
              exact Rat.intCast_le_intCast.1 this
            have th2 : th ≤ 28 := by
              have : (th : Rat) ≤ ((28 : Int) : Rat) := by have : ((28 : Int) : Rat) = 28 := rfl; grind
              exact Rat.intCast_le_intCast.1 this
            have l1 := last_terms tl lo n tl0 tl2 hlo0 hlo1 (by omega)
            have l2 := last_terms th hi n th0 th2 hhi0 hhi1 (by omega)
            omega
          · exact .inl h0
        have jn : ((j + 1 : Nat) : Rat) = (j : Rat) + 1 := by simp
        by_cases ht : tk = true
        · rw [if_pos ht]
          have hj2 := htk.1 ht
          have w : sm y s (j + 1) = sm y s j - mon y (2 * (j + 1) + s) := by simp only [sm, hj2]; simp; grind
          apply ih (j + 1) k false _ _ _ _ _ (by omega) go (by omega) (by omega) (by simp; omega) B1.1 B2.1 T.1 T.2.1 T.2.2.1 T.2.2.2
          · rw [w, Rat.intCast_sub]; grind
          · rw [w, Rat.intCast_sub]; grind
          · rw [w, Rat.intCast_sub, jn]; grind
          · rw [w, Rat.intCast_sub, jn]; grind
        · rw [if_neg ht]
          have hj2 : j % 2 = 1 := by
            rcases Nat.mod_two_eq_zero_or_one j with h | h
            · exact absurd (htk.2 h) ht
            · exact h
          have w : sm y s (j + 1) = sm y s j + mon y (2 * (j + 1) + s) := by simp only [sm, hj2]; simp
          apply ih (j + 1) k true _ _ _ _ _ (by omega) go (by omega) (by omega) (by simp; omega) B1.1 B2.1 T.1 T.2.1 T.2.2.1 T.2.2.2
          · rw [w, Rat.intCast_add]; grind
          · rw [w, Rat.intCast_add]; grind
          · rw [w, Rat.intCast_add, jn]; grind
          · rw [w, Rat.intCast_add, jn]; grind

/-- a row tells the sum. -/
theorem row_tells (s : Nat) (hs : s ≤ 1) (x first n : Int) (hx0 : 0 ≤ x) (hx1 : x ≤ 785400000) (y : Rat) (hy : (x : Rat) = 1000000000 * y)
    (hf : (first : Rat) = 1000000000 * mon y s) (hf0 : 0 ≤ first) (hn : n = 1 + (s : Int)) : Tells y s (rowP first x n) := by
  have X0 := icast hx0
  have X1 := icast hx1
  have z0 : ((0 : Int) : Rat) = 0 := rfl
  have z1 : ((785400000 : Int) : Rat) = 785400000 := rfl
  rw [z0, hy] at X0
  rw [z1, hy] at X1
  have q := sq_cast x y hy
  have m0 := Int.mul_nonneg hx0 hx0
  have m1 := Int.mul_le_mul hx1 hx1 hx0 (by omega)
  unfold rowP
  refine row_claim s hs y (by grind) (by grind) _ _ q.1 q.2.1 (by omega) (by omega) q.2.2.1 q.2.2.2 (by omega) (by omega) 6 0 21 true first first first first n rfl (.inl (by omega)) (by omega) (by omega) (by simp) hf0 hf0 ?_ ?_ ?_ ?_ ?_ ?_ ?_ ?_
  all_goals simp only [sm, Nat.mul_zero, Nat.zero_add, hf]
  all_goals grind



/-- steps of so many parts of one. -/
def st (x : Nat) : Nat := x * 100000000000000000000000000000000000000000

theorem st_tau (x : Nat) : ((st x : Nat) : Rat) * tau = (x : Rat) / 1000000000 := by
  unfold st
  have e : ((x * 100000000000000000000000000000000000000000 : Nat) : Rat) = (x : Rat) * 100000000000000000000000000000000000000000 := by simp
  have t : 100000000000000000000000000000000000000000 * tau = 1 / 1000000000 := by decide +kernel
  rw [e, Rat.mul_assoc, t]; grind

theorem st_int (x : Int) (h : 0 ≤ x) : ∃ y : Rat, (x : Rat) = 1000000000 * y ∧ ((st x.toNat : Nat) : Rat) * tau = y ∧ 0 ≤ y := by
  have e : ((x.toNat : Nat) : Rat) = (x : Rat) := by
    have : ((x.toNat : Nat) : Int) = x := Int.toNat_of_nonneg h
    calc ((x.toNat : Nat) : Rat) = (((x.toNat : Nat) : Int) : Rat) := rfl
      _ = (x : Rat) := by rw [this]
  have z := icast h
  have z0 : ((0 : Int) : Rat) = 0 := rfl
  rw [z0] at z
  refine ⟨(x : Rat) / 1000000000, by grind, by rw [st_tau, e], by grind⟩

/-- the arc's ends are around the steps. -/
theorem arc_steps (h : Nat) (h0 : 1 ≤ h) (h1 : h ≤ 32400000) :
    (24 ≤ (arcP h).1 ∧ (arcP h).2 ≤ 785398164 ∧ (arcP h).2 ≤ (arcP h).1 + 3 ∧ (arcP h).1 ≤ (arcP h).2) ∧
    st (arcP h).1.toNat + 1000000000000000000000000000000000 ≤ h * mm ∧ h * mm + 1000000000000000000000000000000000 ≤ st (arcP h).2.toNat := by
  unfold arcP st
  simp only
  unfold mm
  omega

theorem int_gap {a b : Int} (h : (a : Rat) < (b : Rat) + 1) : a ≤ b := by
  have z : ((1 : Int) : Rat) = 1 := rfl
  have : (a : Rat) < ((b + 1 : Int) : Rat) := by rw [Rat.intCast_add, z]; exact h
  have := Rat.intCast_lt_intCast.1 this
  omega

theorem mon_one (y : Rat) : mon y 1 = y := by
  have := mon_step y 0
  rw [mon_zero] at this
  have z : ((0 : Nat) : Rat) = 0 := rfl
  rw [z] at this
  grind

/-- what is known of both ends of an arc, and of what lies between. -/
structure Ends (x z : Int) (n : Nat) (y1 y2 : Rat) (d1 d2 : Rat) : Prop where
  e1 : (x : Rat) = 1000000000 * y1
  e2 : (z : Rat) = 1000000000 * y2
  p1 : 24 / 1000000000 ≤ y1
  p2 : y2 ≤ 3927 / 5000
  wide : y2 ≤ y1 + 3 / 1000000000
  k1 : 1 / 10 ^ 20 ≤ d1
  k2 : 1 / 10 ^ 20 ≤ d2
  tot : d1 + d2 = y2 - y1
  sl : sm y1 1 13 ≤ sn n + 1 / 10 ^ 31 - d1 / 2 ∧ sn n - d1 - 1 / 10 ^ 31 ≤ sm y1 1 13
  sh : sn n + d2 / 2 - 1 / 10 ^ 31 ≤ sm y2 1 13 ∧ sm y2 1 13 ≤ sn n + d2 + 1 / 10 ^ 31
  cl : cs n + d1 * (y1 / 2) - 1 / 10 ^ 31 ≤ sm y1 0 13 ∧ sm y1 0 13 ≤ cs n + d1 + 1 / 10 ^ 31
  ch : sm y2 0 13 ≤ cs n - d2 * (y1 / 2) + 1 / 10 ^ 31 ∧ cs n - d2 - 1 / 10 ^ 31 ≤ sm y2 0 13
  s0 : 0 ≤ sn n
  s1 : sn n ≤ y2
  c0 : 1 / 2 ≤ cs n
  c1 : cs n ≤ 1

theorem big_gap (d : Nat) (h : 1000000000000000000000000000000000 ≤ d) : (1 : Rat) / 10 ^ 20 ≤ (d : Rat) * tau := by
  have a := mul_tau_mono h
  have e : (1 : Rat) / 10 ^ 20 ≤ ((1000000000000000000000000000000000 : Nat) : Rat) * tau := by decide +kernel
  exact Rat.le_trans e a

theorem arc_ends (h : Nat) (h0 : 1 ≤ h) (h1 : h ≤ 32400000) : ∃ y1 y2 d1 d2, Ends (arcP h).1 (arcP h).2 (h * mm) y1 y2 d1 d2 := by
  obtain ⟨⟨a1, a2, a3, a4⟩, b1, b2⟩ := arc_steps h h0 h1
  generalize (arcP (h : Int)).1 = x at *
  generalize (arcP (h : Int)).2 = z at *
  generalize h * mm = n at *
  obtain ⟨y1, e1, f1, p1⟩ := st_int x (by omega)
  obtain ⟨y2, e2, f2, p2⟩ := st_int z (by omega)
  obtain ⟨d1, g1⟩ : ∃ d, st x.toNat + d = n := ⟨n - st x.toNat, by omega⟩
  obtain ⟨d2, g2⟩ : ∃ d, n + d = st z.toNat := ⟨st z.toNat - n, by omega⟩
  have k1 := big_gap d1 (by omega)
  have k2 := big_gap d2 (by omega)
  have cx := icast a2
  have cw := icast a3
  have c24 := icast a1
  have v785 : ((785398164 : Int) : Rat) = 785398164 := rfl
  have v24 : ((24 : Int) : Rat) = 24 := rfl
  have v3 : ((3 : Int) : Rat) = 3 := rfl
  rw [v785, e2] at cx
  rw [v24, e1] at c24
  rw [Rat.intCast_add, v3, e1, e2] at cw
  have top : ((st z.toNat : Nat) : Rat) * tau ≤ 4 / 5 := by rw [f2]; clear f1 f2 k1 k2; grind
  have mid : ((n : Nat) : Rat) * tau ≤ 4 / 5 := Rat.le_trans (mul_tau_mono (show n ≤ st z.toNat by omega)) top
  have bot : ((st x.toNat : Nat) : Rat) * tau ≤ 4 / 5 := Rat.le_trans (mul_tau_mono (show st x.toNat ≤ n by omega)) mid
  have low : y1 ≤ (n : Rat) * tau := by rw [← f1]; exact mul_tau_mono (show st x.toNat ≤ n by omega)
  have hig : (n : Rat) * tau ≤ y2 := by rw [← f2]; exact mul_tau_mono (show n ≤ st z.toNat by omega)
  have q1 := near_rows _ bot
  have q2 := near_rows _ top
  rw [f1] at q1
  rw [f2] at q2
  have r1 := sn_grow (st x.toNat) d1 (by rw [g1]; exact mid)
  have r2 := sn_grow n d2 (by rw [g2]; exact top)
  have r3 := sn_grow 0 n (by rw [Nat.zero_add]; exact mid)
  have r4 := sn_lower n mid
  rw [Nat.zero_add, sn_zero] at r3
  have tot : (d1 : Rat) * tau + (d2 : Rat) * tau = y2 - y1 := by
    have : ((st x.toNat + d1 + d2 : Nat) : Rat) = ((st z.toNat : Nat) : Rat) := by rw [g1, g2]
    simp only [Rat.natCast_add] at this
    rw [← f1, ← f2, ← this]
    clear this k1 k2 cx cw c24 top mid bot low hig q1 q2 r1 r2 r3 r4
    grind
  rw [g1, f1] at r1
  rw [g2] at r2
  have x0 : 0 ≤ (n : Rat) * tau := Rat.mul_nonneg Rat.natCast_nonneg (Rat.le_of_lt tau_pos)
  generalize (d1 : Rat) * tau = D1 at *
  generalize (d2 : Rat) * tau = D2 at *
  generalize sn (st x.toNat) = s1 at *
  generalize sn (st z.toNat) = s2 at *
  generalize cs (st x.toNat) = c1 at *
  generalize cs (st z.toNat) = c2 at *
  clear b1 b2 g1 g2 f1 f2 top mid bot a1 a2 a3 a4 v785 v24 v3
  have hm : D2 * (y1 / 2) ≤ D2 * ((n : Rat) * tau / 2) := Rat.mul_le_mul_of_nonneg_left (by clear q1 q2 r1 r2 r3 r4; grind) (by clear q1 q2 r1 r2 r3 r4; grind)
  generalize (n : Rat) * tau = N at *
  generalize D2 * (N / 2) = W' at *
  refine ⟨y1, y2, D1, D2, ⟨e1, e2, ?_, ?_, ?_, k1, k2, tot, ?_, ?_, ?_, ?_, ?_, ?_, r4.2, ?_⟩⟩
  all_goals clear e1 e2
  · clear q1 q2 r1 r2 r3 r4; grind
  · clear q1 q2 r1 r2 r3 r4; grind
  · clear q1 q2 r1 r2 r3 r4; grind
  · clear q2 r2 r3 r4; grind
  · clear q1 r1 r3 r4; grind
  · clear q2 r2 r3 r4; grind
  · clear q1 r1 r3 r4; grind
  · clear q1 q2 r1 r2; grind
  · clear q1 q2 r1 r2; grind
  · clear q1 q2 r1 r2; grind

theorem small_alg (r1 r2 u1 u2 v y1 y2 d1 d2 e : Rat) (he1 : e ≤ d1 / 2) (he2 : e ≤ d2 / 2) (he3 : 1000000000 * e ≤ 1 / 1000)
    (a1 : r1 ≤ 1000000000 * u1) (a2 : 1000000000 * u1 ≤ r1 + 20) (b1 : 1000000000 * u2 ≤ r2) (b2 : r2 ≤ 1000000000 * u2 + 20)
    (tot : d1 + d2 = y2 - y1) (wide : y2 ≤ y1 + 3 / 1000000000) (p2 : y2 ≤ 3927 / 5000)
    (s1 : u1 ≤ v + e - d1 / 2) (s2 : v - d1 - e ≤ u1) (s3 : v + d2 / 2 - e ≤ u2) (s4 : u2 ≤ v + d2 + e) (t : v ≤ y2) :
    r1 ≤ 1000000000 * v ∧ 1000000000 * v ≤ r2 ∧ r2 < 1000000000 + 1 ∧ r2 < r1 + 60 + 1 := by
  refine ⟨?_, ?_, ?_, ?_⟩
  · grind
  · grind
  · grind
  · grind

theorem near_alg (r1 r2 u1 u2 v y1 y2 d1 d2 D1 D2 e : Rat) (he1 : e ≤ D1) (he2 : e ≤ D2) (he3 : 1000000000 * e ≤ 1 / 1000)
    (a1 : r1 ≤ 1000000000 * u2) (a2 : 1000000000 * u2 ≤ r1 + 20) (b1 : 1000000000 * u1 ≤ r2) (b2 : r2 ≤ 1000000000 * u1 + 20)
    (tot : d1 + d2 = y2 - y1) (wide : y2 ≤ y1 + 3 / 1000000000)
    (s1 : v + D1 - e ≤ u1) (s2 : u1 ≤ v + d1 + e) (s3 : u2 ≤ v - D2 + e) (s4 : v - d2 - e ≤ u2) (t : 1 / 2 ≤ v) :
    r1 ≤ 1000000000 * v ∧ 1000000000 * v ≤ r2 ∧ 0 < r1 + 1 ∧ r2 < r1 + 60 + 1 := by
  refine ⟨?_, ?_, ?_, ?_⟩
  · grind
  · grind
  · grind
  · grind

theorem eps_half (d : Rat) (k : 1 / 10 ^ 20 ≤ d) : (1 : Rat) / 10 ^ 31 ≤ d / 2 := by grind
theorem eps_small : 1000000000 * ((1 : Rat) / 10 ^ 31) ≤ 1 / 1000 := by grind
theorem eps_prod (d y : Rat) (k : 1 / 10 ^ 20 ≤ d) (p : 24 / 1000000000 ≤ y) : (1 : Rat) / 10 ^ 31 ≤ d * (y / 2) := by
  have w1 := Rat.mul_le_mul_of_nonneg_right k (show (0 : Rat) ≤ y / 2 by grind)
  have w3 : (1 : Rat) / 10 ^ 31 ≤ 1 / 10 ^ 20 * (y / 2) := by clear w1 k; grind
  exact Rat.le_trans w3 w1

theorem zc0 : ((0 : Int) : Rat) = 0 := rfl
theorem zcU : ((1000000000 : Int) : Rat) = 1000000000 := rfl
theorem zcH : ((500000000 : Int) : Rat) = 500000000 := rfl
theorem zc60 : ((60 : Int) : Rat) = 60 := rfl

theorem max_cast (a : Int) (v : Rat) (h : (a : Rat) ≤ 1000000000 * v) (h0 : 0 ≤ v) : ((max 0 a : Int) : Rat) ≤ 1000000000 * v := by
  rcases Int.le_total 0 a with k | k
  · rw [Int.max_eq_right k]; exact h
  · rw [Int.max_eq_left k, zc0]; clear h; grind
theorem min_cast (a : Int) (v : Rat) (h : 1000000000 * v ≤ (a : Rat)) (h1 : v ≤ 1) : 1000000000 * v ≤ ((min 1000000000 a : Int) : Rat) := by
  rcases Int.le_total 1000000000 a with k | k
  · rw [Int.min_eq_left k, zcU]; clear h; grind
  · rw [Int.min_eq_right k]; exact h

theorem sh_def (h : Nat) : sh h = sn (h * mm) := rfl
theorem ch_def (h : Nat) : ch h = cs (h * mm) := rfl

theorem smallP_def (h : Int) : smallP h = (max 0 (rowP (arcP h).1 (arcP h).1 2).1, (rowP (arcP h).2 (arcP h).2 2).2) := rfl
theorem nearP_def (h : Int) : nearP h = ((rowP 1000000000 (arcP h).2 1).1, min 1000000000 (rowP 1000000000 (arcP h).1 1).2) := rfl

theorem small_core (x z : Int) (n : Nat) (y1 y2 d1 d2 : Rat) (a1 : 24 ≤ x) (a2 : z ≤ 785398164) (a4 : x ≤ z) (E : Ends x z n y1 y2 d1 d2) :
    ((max 0 (rowP x x 2).1 : Int) : Rat) ≤ 1000000000 * sn n ∧ 1000000000 * sn n ≤ ((rowP z z 2).2 : Rat) ∧
    0 ≤ max 0 (rowP x x 2).1 ∧ (rowP z z 2).2 ≤ 1000000000 ∧ (rowP z z 2).2 ≤ max 0 (rowP x x 2).1 + 60 := by
  have t1 := row_tells 1 (by omega) x x 2 (by omega) (by omega) y1 E.e1 (by rw [mon_one]; exact E.e1) (by omega) rfl
  have t2 := row_tells 1 (by omega) z z 2 (by omega) (by omega) y2 E.e2 (by rw [mon_one]; exact E.e2) (by omega) rfl
  have A := small_alg _ _ _ _ _ y1 y2 d1 d2 _ (eps_half _ E.k1) (eps_half _ E.k2) eps_small t1.1 t1.2.2.1 t2.2.1 t2.2.2.2 E.tot E.wide E.p2 E.sl.1 E.sl.2 E.sh.1 E.sh.2 E.s1
  have top : ((rowP z z 2).2 : Rat) < ((1000000000 : Int) : Rat) + 1 := by rw [zcU]; exact A.2.2.1
  have dif : ((rowP z z 2).2 : Rat) < (((rowP x x 2).1 + 60 : Int) : Rat) + 1 := by rw [Rat.intCast_add, zc60]; exact A.2.2.2
  have dif' := int_gap dif
  have top' := int_gap top
  exact ⟨max_cast _ _ A.1 E.s0, A.2.1, by omega, top', by omega⟩

/-- up to an eighth of a turn the span has the sine in it. -/
theorem small_tells (h : Nat) (h0 : 1 ≤ h) (h1 : h ≤ 32400000) :
    ((smallP h).1 : Rat) ≤ 1000000000 * sh h ∧ 1000000000 * sh h ≤ ((smallP h).2 : Rat) ∧
    0 ≤ (smallP h).1 ∧ (smallP h).2 ≤ 1000000000 ∧ (smallP h).2 ≤ (smallP h).1 + 60 := by
  have a := (arc_steps h h0 h1).1
  obtain ⟨y1, y2, d1, d2, E⟩ := arc_ends h h0 h1
  have e := small_core _ _ _ y1 y2 d1 d2 a.1 a.2.1 a.2.2.2 E
  rw [smallP_def, sh_def]
  generalize sn (h * mm) = v at e ⊢
  generalize rowP (arcP h).1 (arcP h).1 2 = A at e ⊢
  generalize rowP (arcP h).2 (arcP h).2 2 = B at e ⊢
  obtain ⟨A1, A2⟩ := A
  obtain ⟨B1, B2⟩ := B
  dsimp only at e ⊢
  exact e

theorem near_core (x z : Int) (n : Nat) (y1 y2 d1 d2 : Rat) (a1 : 24 ≤ x) (a2 : z ≤ 785398164) (a4 : x ≤ z) (E : Ends x z n y1 y2 d1 d2) :
    ((rowP 1000000000 z 1).1 : Rat) ≤ 1000000000 * cs n ∧ 1000000000 * cs n ≤ ((min 1000000000 (rowP 1000000000 x 1).2 : Int) : Rat) ∧
    0 ≤ (rowP 1000000000 z 1).1 ∧ min 1000000000 (rowP 1000000000 x 1).2 ≤ 1000000000 ∧ min 1000000000 (rowP 1000000000 x 1).2 ≤ (rowP 1000000000 z 1).1 + 60 := by
  have one : ((1000000000 : Int) : Rat) = 1000000000 * 1 := by rw [zcU]; exact (Rat.mul_one _).symm
  have t1 := row_tells 0 (by omega) x 1000000000 1 (by omega) (by omega) y1 E.e1 (by rw [mon_zero]; exact one) (by omega) rfl
  have t2 := row_tells 0 (by omega) z 1000000000 1 (by omega) (by omega) y2 E.e2 (by rw [mon_zero]; exact one) (by omega) rfl
  have A := near_alg _ _ _ _ _ y1 y2 d1 d2 _ _ _ (eps_prod _ _ E.k1 E.p1) (eps_prod _ _ E.k2 E.p1) eps_small t2.1 t2.2.2.1 t1.2.1 t1.2.2.2 E.tot E.wide E.cl.1 E.cl.2 E.ch.1 E.ch.2 E.c0
  have bot : ((0 : Int) : Rat) < ((rowP 1000000000 z 1).1 : Rat) + 1 := by rw [zc0]; exact A.2.2.1
  have dif : ((rowP 1000000000 x 1).2 : Rat) < (((rowP 1000000000 z 1).1 + 60 : Int) : Rat) + 1 := by rw [Rat.intCast_add, zc60]; exact A.2.2.2
  have dif' := int_gap dif
  have bot' := int_gap bot
  exact ⟨A.1, min_cast _ _ A.2.1 E.c1, bot', by omega, by omega⟩

/-- up to an eighth of a turn the span has the cosine in it. -/
theorem near_tells (h : Nat) (h0 : 1 ≤ h) (h1 : h ≤ 32400000) :
    ((nearP h).1 : Rat) ≤ 1000000000 * ch h ∧ 1000000000 * ch h ≤ ((nearP h).2 : Rat) ∧
    0 ≤ (nearP h).1 ∧ (nearP h).2 ≤ 1000000000 ∧ (nearP h).2 ≤ (nearP h).1 + 60 := by
  have a := (arc_steps h h0 h1).1
  obtain ⟨y1, y2, d1, d2, E⟩ := arc_ends h h0 h1
  have e := near_core _ _ _ y1 y2 d1 d2 a.1 a.2.1 a.2.2.2 E
  rw [nearP_def, ch_def]
  generalize cs (h * mm) = v at e ⊢
  generalize rowP 1000000000 (arcP h).2 1 = A at e ⊢
  generalize rowP 1000000000 (arcP h).1 1 = B at e ⊢
  obtain ⟨A1, A2⟩ := A
  obtain ⟨B1, B2⟩ := B
  dsimp only at e ⊢
  exact e

theorem slip (a v w e f : Rat) (h : a ≤ 1000000000 * v) (n : v - w ≤ e) (he : 1000000000 * e ≤ f) : a ≤ 1000000000 * w + f := by grind
theorem slip' (a v w e f : Rat) (h : 1000000000 * v ≤ a) (n : w - v ≤ e) (he : 1000000000 * e ≤ f) : 1000000000 * w - f ≤ a := by grind
theorem slip2 (a v w e f g : Rat) (h : a ≤ 1000000000 * v + g) (n : v - w ≤ e) (he : 1000000000 * e + g ≤ f) : a ≤ 1000000000 * w + f := by grind
theorem slip2' (a v w e f g : Rat) (h : 1000000000 * v - g ≤ a) (n : w - v ≤ e) (he : 1000000000 * e + g ≤ f) : 1000000000 * w - f ≤ a := by grind
theorem le_of_both {a b : Int} {v : Rat} (h : (a : Rat) ≤ v) (g : v ≤ (b : Rat)) : a ≤ b := Rat.intCast_le_intCast.1 (Rat.le_trans h g)

/-- what is told of a quarter: the sine, but for a hundredth of a part. -/
theorem quart_tells (h : Nat) (h1 : h ≤ 64800000) :
    ((quartP h).1 : Rat) ≤ 1000000000 * sh h + 1 / 100 ∧ 1000000000 * sh h - 1 / 100 ≤ ((quartP h).2 : Rat) ∧
    0 ≤ (quartP h).1 ∧ (quartP h).2 ≤ 1000000000 ∧ (quartP h).2 ≤ (quartP h).1 + 60 ∧ (quartP h).1 ≤ (quartP h).2 := by
  unfold quartP
  by_cases c0 : h = 0
  · subst c0
    rw [if_pos (by omega), sh_zero]
    simp only [zc0]
    exact ⟨by grind, by grind, by decide, by decide, by decide, by decide⟩
  · rw [if_neg (by omega)]
    by_cases c1 : h = 21600000
    · subst c1
      have a := at_third
      rw [if_pos (by omega)]
      simp only [zcH]
      have e : (500000000 : Rat) = 1000000000 * (1 / 2) := by grind
      rw [e]
      exact ⟨slip _ _ _ _ _ Rat.le_refl a.2 (by grind), slip' _ _ _ _ _ Rat.le_refl a.1 (by grind), by decide, by decide, by decide, by decide⟩
    · rw [if_neg (by omega)]
      by_cases c2 : h = 64800000
      · subst c2
        have a := at_quarter.2
        rw [if_pos (by omega)]
        simp only [zcU]
        have e : (1000000000 : Rat) = 1000000000 * 1 := by grind
        exact ⟨slip _ _ _ _ _ (by rw [← e]; exact Rat.le_refl) a.2 (by grind), slip' _ _ _ _ _ (by rw [← e]; exact Rat.le_refl) a.1 (by grind), by decide, by decide, by decide, by decide⟩
      · rw [if_neg (by omega)]
        by_cases c3 : h ≤ 32400000
        · have t := small_tells h (by omega) c3
          rw [if_pos (by omega)]
          exact ⟨slip _ _ _ 0 _ t.1 (by rw [Rat.sub_self]; exact Rat.le_refl) (by grind), slip' _ _ _ 0 _ t.2.1 (by rw [Rat.sub_self]; exact Rat.le_refl) (by grind), t.2.2.1, t.2.2.2.1, t.2.2.2.2, le_of_both t.1 t.2.1⟩
        · obtain ⟨g, hg⟩ : ∃ g, g + h = 64800000 := ⟨64800000 - h, by omega⟩
          have t := near_tells g (by omega) (by omega)
          have n := h_lack g h hg
          have e : (64800000 - (h : Int)) = (g : Int) := by omega
          rw [if_neg (by omega), e]
          exact ⟨slip _ _ _ _ _ t.1 n.1 (by grind), slip' _ _ _ _ _ t.2.1 n.2 (by grind), t.2.2.1, t.2.2.2.1, t.2.2.2.2, le_of_both t.1 t.2.1⟩

/-- what is told of half a turn. -/
theorem half_tells (h : Nat) (h1 : h ≤ 129600000) :
    ((halfP h).1 : Rat) ≤ 1000000000 * sh h + 2 / 100 ∧ 1000000000 * sh h - 2 / 100 ≤ ((halfP h).2 : Rat) ∧
    0 ≤ (halfP h).1 ∧ (halfP h).2 ≤ 1000000000 ∧ (halfP h).2 ≤ (halfP h).1 + 60 ∧ (halfP h).1 ≤ (halfP h).2 := by
  unfold halfP
  by_cases c : h ≤ 64800000
  · rw [if_neg (by omega)]
    have t := quart_tells h c
    exact ⟨slip2 _ _ _ 0 _ _ t.1 (by rw [Rat.sub_self]; exact Rat.le_refl) (by grind), slip2' _ _ _ 0 _ _ t.2.1 (by rw [Rat.sub_self]; exact Rat.le_refl) (by grind), t.2.2⟩
  · obtain ⟨g, hg⟩ : ∃ g, g + h = 129600000 := ⟨129600000 - h, by omega⟩
    have e : (129600000 - (h : Int)) = (g : Int) := by omega
    rw [if_pos (by omega), e]
    have t := quart_tells g (by omega)
    have n := h_lack2 g h hg
    exact ⟨slip2 _ _ _ _ _ _ t.1 n.1 (by grind), slip2' _ _ _ _ _ _ t.2.1 n.2 (by grind), t.2.2⟩

/-- where an angle lies in its turn. -/
def pl (h : Int) : Nat := (h % 259200000).toNat

theorem pl_lt (h : Int) : pl h < 259200000 := by unfold pl; omega
theorem pl_int (h : Int) : ((pl h : Nat) : Int) = h % 259200000 := by unfold pl; omega

theorem turn_alg (a b v w : Rat) (h : a ≤ 1000000000 * v + 2 / 100) (g : 1000000000 * v - 2 / 100 ≤ b) (n1 : w - -v ≤ 1 / 10 ^ 20) (n2 : -v - w ≤ 1 / 10 ^ 20) :
    -b ≤ 1000000000 * w + 3 / 100 ∧ 1000000000 * w - 3 / 100 ≤ -a := by constructor <;> grind

/-- what is told of all angles. -/
theorem sine_tells (h : Int) :
    ((sineP h).1 : Rat) ≤ 1000000000 * sh (pl h) + 3 / 100 ∧ 1000000000 * sh (pl h) - 3 / 100 ≤ ((sineP h).2 : Rat) ∧
    -1000000000 ≤ (sineP h).1 ∧ (sineP h).2 ≤ 1000000000 ∧ (sineP h).2 ≤ (sineP h).1 + 60 ∧ (sineP h).1 ≤ (sineP h).2 := by
  have e := pl_int h
  have l := pl_lt h
  unfold sineP
  rw [← e]
  generalize pl h = p at *
  by_cases c : 129600000 ≤ p
  · obtain ⟨g, hg⟩ : ∃ g, p = g + 129600000 := ⟨p - 129600000, by omega⟩
    subst hg
    have e2 : (((g + 129600000 : Nat) : Int) - 129600000) = (g : Int) := by omega
    rw [if_pos (by omega), e2]
    have t := half_tells g (by omega)
    have n := (h_half g (by omega)).1
    have A := turn_alg _ _ _ _ t.1 t.2.1 n.1 n.2
    simp only [Rat.intCast_neg]
    exact ⟨A.1, A.2, by omega, by omega, by omega, by omega⟩
  · rw [if_neg (by omega)]
    have t := half_tells p (by omega)
    exact ⟨slip2 _ _ _ 0 _ _ t.1 (by rw [Rat.sub_self]; exact Rat.le_refl) (by grind), slip2' _ _ _ 0 _ _ t.2.1 (by rw [Rat.sub_self]; exact Rat.le_refl) (by grind), by omega, t.2.2.2⟩

theorem halfP_ok (h : Int) (h0 : 0 ≤ h) (h1 : h ≤ 129600000) : 0 ≤ (halfP h).1 ∧ (halfP h).1 ≤ (halfP h).2 ∧ (halfP h).2 ≤ 1000000000 := by
  obtain ⟨n, rfl⟩ := Int.eq_ofNat_of_zero_le h0
  have t := (half_tells n (by omega)).2.2
  exact ⟨t.1, t.2.2.2, t.2.1⟩

theorem sineP_ok (h : Int) : -1000000000 ≤ (sineP h).1 ∧ (sineP h).1 ≤ (sineP h).2 ∧ (sineP h).2 ≤ 1000000000 ∧ (sineP h).2 ≤ (sineP h).1 + 60 := by
  have t := (sine_tells h).2.2
  exact ⟨t.1, t.2.2.2, t.2.1, t.2.2.1⟩



theorem halfP_back (r : Int) (h0 : 0 ≤ r) (h1 : r ≤ 129600000) : halfP (129600000 - r) = halfP r := by
  unfold halfP
  by_cases c : r > 64800000
  · rw [if_neg (by omega), if_pos c]
  · by_cases d : r = 64800000
    · subst d; rfl
    · rw [if_pos (by omega), if_neg c, show 129600000 - (129600000 - r) = r by omega]

theorem halfP_zero : halfP 0 = (0, 0) := by unfold halfP quartP; rw [if_neg (by decide), if_pos rfl]

/-- a span turned about. -/
def negP (p : Int × Int) : Int × Int := (-p.2, -p.1)

theorem negP_negP (p : Int × Int) : negP (negP p) = p := by obtain ⟨a, b⟩ := p; simp [negP]

theorem sineP_low (h : Int) (c : h % 259200000 < 129600000) : sineP h = halfP (h % 259200000) := by unfold sineP; rw [if_neg (by omega)]
theorem sineP_high (h : Int) (c : h % 259200000 ≥ 129600000) : sineP h = negP (halfP (h % 259200000 - 129600000)) := by unfold sineP; rw [if_pos c]; rfl

theorem sineP_mod (h g : Int) (e : h % 259200000 = g % 259200000) : sineP h = sineP g := by unfold sineP; rw [e]

theorem sineP_turn (h : Int) : sineP (h + 259200000) = sineP h := sineP_mod _ _ (by omega)

theorem sineP_far (h : Int) : sineP (h + 129600000) = negP (sineP h) := by
  by_cases c : h % 259200000 < 129600000
  · rw [sineP_low h c, sineP_high (h + 129600000) (by omega), show (h + 129600000) % 259200000 - 129600000 = h % 259200000 by omega]
  · rw [sineP_high h (by omega), sineP_low (h + 129600000) (by omega), negP_negP, show (h + 129600000) % 259200000 = h % 259200000 - 129600000 by omega]

theorem sineP_back (h : Int) : sineP (129600000 - h) = sineP h := by
  by_cases c : h % 259200000 < 129600000
  · rw [sineP_low h c]
    by_cases d : h % 259200000 = 0
    · rw [d, halfP_zero, sineP_high _ (by omega), show (129600000 - h) % 259200000 - 129600000 = 0 by omega, halfP_zero]
      rfl
    · rw [sineP_low _ (by omega), ← halfP_back (h % 259200000) (by omega) (by omega), show (129600000 - h) % 259200000 = 129600000 - h % 259200000 by omega]
  · rw [sineP_high h (by omega)]
    by_cases d : h % 259200000 = 129600000
    · rw [d, show (129600000 : Int) - 129600000 = 0 by omega, halfP_zero, sineP_low _ (by omega), show (129600000 - h) % 259200000 = 0 by omega, halfP_zero]
      rfl
    · rw [sineP_high _ (by omega), ← halfP_back (h % 259200000 - 129600000) (by omega) (by omega), show (129600000 - h) % 259200000 - 129600000 = 129600000 - (h % 259200000 - 129600000) by omega]

theorem sineP_neg (h : Int) : sineP (-h) = negP (sineP h) := by
  have a := sineP_back (-h)
  rw [show 129600000 - -h = h + 129600000 by omega, sineP_far] at a
  exact a.symm

/-- the product of two spans, before it is asked whether it is ok. -/
def mulP (s t : Int × Int) : Int × Int :=
  (min (min (min (s.1 * t.1) (s.1 * t.2)) (s.2 * t.1)) (s.2 * t.2) / 1000000000, -(-(max (max (max (s.1 * t.1) (s.1 * t.2)) (s.2 * t.1)) (s.2 * t.2)) / 1000000000))

/-- a number is in a span, but for e parts. -/
def In (p : Int × Int) (v e : Rat) : Prop := (p.1 : Rat) ≤ 1000000000 * v + e ∧ 1000000000 * v - e ≤ (p.2 : Rat)

theorem clamp (a b x e : Rat) (he : 0 ≤ e) (hab : a ≤ b) (h1 : a ≤ x + e) (h2 : x - e ≤ b) : ∃ y, a ≤ y ∧ y ≤ b ∧ x - e ≤ y ∧ y ≤ x + e := by
  rcases Rat.le_total (a := a) (b := x) with k | k
  · rcases Rat.le_total (a := x) (b := b) with l | l
    · exact ⟨x, k, l, by grind, by grind⟩
    · exact ⟨b, hab, Rat.le_refl, by grind, by grind⟩
  · exact ⟨a, Rat.le_refl, hab, by grind, by grind⟩

/-- what is between ends has its product between products of ends. -/
theorem between (a b c d x y m M : Rat) (x1 : a ≤ x) (x2 : x ≤ b) (y1 : c ≤ y) (y2 : y ≤ d)
    (m1 : m ≤ a * c) (m2 : m ≤ a * d) (m3 : m ≤ b * c) (m4 : m ≤ b * d) (M1 : a * c ≤ M) (M2 : a * d ≤ M) (M3 : b * c ≤ M) (M4 : b * d ≤ M) :
    m ≤ x * y ∧ x * y ≤ M := by
  have e1 : ∀ z, m ≤ a * z → a * z ≤ M → m ≤ b * z → b * z ≤ M → m ≤ x * z ∧ x * z ≤ M := by
    intro z p1 p2 p3 p4
    rcases Rat.le_total (a := 0) (b := z) with k | k
    · have q1 := Rat.mul_le_mul_of_nonneg_right x1 k
      have q2 := Rat.mul_le_mul_of_nonneg_right x2 k
      exact ⟨Rat.le_trans p1 q1, Rat.le_trans q2 p4⟩
    · have q1 := Rat.mul_le_mul_of_nonneg_right x1 (c := -z) (by grind)
      have q2 := Rat.mul_le_mul_of_nonneg_right x2 (c := -z) (by grind)
      constructor <;> grind
  obtain ⟨f1, f2⟩ := e1 c m1 M1 m3 M3
  obtain ⟨g1, g2⟩ := e1 d m2 M2 m4 M4
  rcases Rat.le_total (a := 0) (b := x) with k | k
  · have q1 := Rat.mul_le_mul_of_nonneg_left y1 k
    have q2 := Rat.mul_le_mul_of_nonneg_left y2 k
    exact ⟨Rat.le_trans f1 q1, Rat.le_trans q2 g2⟩
  · have q1 := Rat.mul_le_mul_of_nonneg_left y1 (c := -x) (by grind)
    have q2 := Rat.mul_le_mul_of_nonneg_left y2 (c := -x) (by grind)
    constructor <;> grind

theorem prod_alg (u v x y e : Rat) (he : 0 ≤ e) (he1 : e ≤ 1000) (hu : -2 ≤ u ∧ u ≤ 2) (hv : -2 ≤ v ∧ v ≤ 2)
    (x1 : 1000000000 * u - e ≤ x) (x2 : x ≤ 1000000000 * u + e) (y1 : 1000000000 * v - e ≤ y) (y2 : y ≤ 1000000000 * v + e) :
    x * y ≤ 1000000000 * (1000000000 * (u * v) + 5 * e) ∧ 1000000000 * (1000000000 * (u * v) - 5 * e) ≤ x * y := by
  have a1 := near_mul (x - 1000000000 * u) v e (by grind) hv
  have a2 := near_mul (y - 1000000000 * v) u e (by grind) hu
  have b1 := Rat.mul_nonneg (a := e - (x - 1000000000 * u)) (b := e + (y - 1000000000 * v)) (by grind) (by grind)
  have b2 := Rat.mul_nonneg (a := e + (x - 1000000000 * u)) (b := e - (y - 1000000000 * v)) (by grind) (by grind)
  have b3 := Rat.mul_nonneg (a := e - (x - 1000000000 * u)) (b := e - (y - 1000000000 * v)) (by grind) (by grind)
  have b4 := Rat.mul_nonneg (a := e + (x - 1000000000 * u)) (b := e + (y - 1000000000 * v)) (by grind) (by grind)
  have c1 := Rat.mul_nonneg he (b := 1000 - e) (by grind)
  constructor <;> grind

theorem mul_in (s t : Int × Int) (u v e : Rat) (hs : s.1 ≤ s.2) (ht : t.1 ≤ t.2) (he : 0 ≤ e) (he1 : e ≤ 1000) (hu : -2 ≤ u ∧ u ≤ 2) (hv : -2 ≤ v ∧ v ≤ 2)
    (h1 : In s u e) (h2 : In t v e) : In (mulP s t) (u * v) (5 * e) := by
  obtain ⟨x, x1, x2, x3, x4⟩ := clamp _ _ _ _ he (icast hs) h1.1 h1.2
  obtain ⟨y, y1, y2, y3, y4⟩ := clamp _ _ _ _ he (icast ht) h2.1 h2.2
  obtain ⟨p1, p2⟩ := prod_alg u v x y e he he1 hu hv x3 x4 y3 y4
  unfold mulP In
  generalize hm : min (min (min (s.1 * t.1) (s.1 * t.2)) (s.2 * t.1)) (s.2 * t.2) = m
  generalize hM : max (max (max (s.1 * t.1) (s.1 * t.2)) (s.2 * t.1)) (s.2 * t.2) = M
  have B := between (s.1 : Rat) (s.2 : Rat) (t.1 : Rat) (t.2 : Rat) x y (m : Rat) (M : Rat) x1 x2 y1 y2
    (by rw [← Rat.intCast_mul]; exact icast (by omega)) (by rw [← Rat.intCast_mul]; exact icast (by omega)) (by rw [← Rat.intCast_mul]; exact icast (by omega)) (by rw [← Rat.intCast_mul]; exact icast (by omega))
    (by rw [← Rat.intCast_mul]; exact icast (by omega)) (by rw [← Rat.intCast_mul]; exact icast (by omega)) (by rw [← Rat.intCast_mul]; exact icast (by omega)) (by rw [← Rat.intCast_mul]; exact icast (by omega))
  have f := fl_cast m 1000000000 (by decide)
  have g := ce_cast M 1000000000 (by decide)
  rw [zcU] at f g
  dsimp only
  generalize ((m / 1000000000 : Int) : Rat) = A at *
  generalize ((-(-M / 1000000000) : Int) : Rat) = Z at *
  generalize (m : Rat) = m' at *
  generalize (M : Rat) = M' at *
  generalize x * y = xy at *
  generalize u * v = uv at *
  clear x1 x2 x3 x4 y1 y2 y3 y4 h1 h2 hm hM hs ht hu hv
  constructor
  · clear p2 g; grind
  · clear p1 f; grind



/-- sine and cosine of an angle in halves of a part. -/
def Sn (h : Int) : Rat := sh (pl h)
def Cn (h : Int) : Rat := ch (pl h)

theorem Sn_two (h : Int) : -2 ≤ Sn h ∧ Sn h ≤ 2 := (h_two _ (by have := pl_lt h; omega)).2
theorem Cn_two (h : Int) : -2 ≤ Cn h ∧ Cn h ≤ 2 := (h_two _ (by have := pl_lt h; omega)).1
theorem n_norm (h : Int) : 1 ≤ Cn h * Cn h + Sn h * Sn h ∧ Cn h * Cn h + Sn h * Sn h ≤ 1 + 1 / 10 ^ 40 := h_norm _ (by have := pl_lt h; omega)

theorem pl_add (g h : Int) : pl (g + h) = pl g + pl h ∨ pl (g + h) + 259200000 = pl g + pl h := by
  have a := pl_int g
  have b := pl_int h
  have c := pl_int (g + h)
  have d := pl_lt g
  have e := pl_lt h
  omega

theorem near_trans {a b c e f : Rat} (h : Near a b e) (g : Near b c f) : Near a c (e + f) := by
  unfold Near at *; constructor <;> grind
theorem near_refl (a : Rat) {e : Rat} (he : 0 ≤ e) : Near a a e := by unfold Near; constructor <;> grind
theorem near_symm {a b e : Rat} (h : Near a b e) : Near b a e := ⟨h.2, h.1⟩
theorem near_le {a b e f : Rat} (h : Near a b e) (g : e ≤ f) : Near a b f := ⟨Rat.le_trans h.1 g, Rat.le_trans h.2 g⟩

theorem Sn_add (g h : Int) : Near (Sn (g + h)) (Sn g * Cn h + Cn g * Sn h) (1 / 10 ^ 20) := by
  unfold Sn Cn
  rw [← sh_add]
  have l := pl_lt (g + h)
  rcases pl_add g h with e | e
  · rw [e]; exact near_refl _ (by grind)
  · rw [← e]; exact near_symm (h_whole _ (by omega)).1

theorem Cn_add (g h : Int) : Near (Cn (g + h)) (Cn g * Cn h - Sn g * Sn h) (1 / 10 ^ 20) := by
  unfold Sn Cn
  rw [← ch_add]
  have l := pl_lt (g + h)
  rcases pl_add g h with e | e
  · rw [e]; exact near_refl _ (by grind)
  · rw [← e]; exact near_symm (h_whole _ (by omega)).2

theorem pl_quarter : pl 64800000 = 64800000 := rfl

theorem Sn_quarter (h : Int) : Near (Sn (h + 64800000)) (Cn h) (2 / 10 ^ 20) := by
  unfold Sn Cn
  have l := pl_lt h
  have q := (h_quarter (pl h) (by omega)).1
  have p := pl_add h 64800000
  rw [pl_quarter] at p
  rcases p with e | e
  · rw [e]; exact near_le q (by grind)
  · have l' := pl_lt (h + 64800000)
    rw [← e] at q
    exact near_le (near_trans (near_symm (h_whole _ (by omega)).1) q) (by grind)

theorem in_of (p : Int × Int) (v w e f : Rat) (h : In p v e) (n : Near v w f) (g : Rat) (hg : e + 1000000000 * f ≤ g) : In p w g := by
  unfold In Near at *
  constructor <;> grind

theorem sine_in (h : Int) : In (sineP h) (Sn h) (3 / 100) := ⟨(sine_tells h).1, (sine_tells h).2.1⟩
theorem cos_in (h : Int) : In (sineP (h + 64800000)) (Cn h) (4 / 100) := in_of _ _ _ _ _ (sine_in _) (Sn_quarter h) _ (by grind)
theorem sine_in4 (h : Int) : In (sineP h) (Sn h) (4 / 100) := in_of _ _ _ _ 0 (sine_in h) (near_refl _ Rat.le_refl) _ (by grind)

/-- the ends of a product of spans of at most one. -/
theorem mulP_ok (s t : Int × Int) (hs : -1000000000 ≤ s.1 ∧ s.1 ≤ s.2 ∧ s.2 ≤ 1000000000) (ht : -1000000000 ≤ t.1 ∧ t.1 ≤ t.2 ∧ t.2 ≤ 1000000000) :
    -1000000000 ≤ (mulP s t).1 ∧ (mulP s t).1 ≤ (mulP s t).2 ∧ (mulP s t).2 ≤ 1000000000 := by
  have b : ∀ x y : Int, -1000000000 ≤ x → x ≤ 1000000000 → -1000000000 ≤ y → y ≤ 1000000000 → -1000000000000000000 ≤ x * y ∧ x * y ≤ 1000000000000000000 := by
    intro x y x1 x2 y1 y2
    have a1 := Int.mul_nonneg (show 0 ≤ 1000000000 - x by omega) (show 0 ≤ 1000000000 - y by omega)
    have a2 := Int.mul_nonneg (show 0 ≤ 1000000000 + x by omega) (show 0 ≤ 1000000000 - y by omega)
    have a3 := Int.mul_nonneg (show 0 ≤ 1000000000 - x by omega) (show 0 ≤ 1000000000 + y by omega)
    have a4 := Int.mul_nonneg (show 0 ≤ 1000000000 + x by omega) (show 0 ≤ 1000000000 + y by omega)
    rw [Int.sub_mul, Int.mul_sub, Int.mul_sub] at a1
    rw [Int.add_mul, Int.mul_sub, Int.mul_sub] at a2
    rw [Int.sub_mul, Int.mul_add, Int.mul_add] at a3
    rw [Int.add_mul, Int.mul_add, Int.mul_add] at a4
    omega
  have b1 := b s.1 t.1 (by omega) (by omega) (by omega) (by omega)
  have b2 := b s.1 t.2 (by omega) (by omega) (by omega) (by omega)
  have b3 := b s.2 t.1 (by omega) (by omega) (by omega) (by omega)
  have b4 := b s.2 t.2 (by omega) (by omega) (by omega) (by omega)
  unfold mulP
  dsimp only
  omega

/-- both ends of a span are near a number. -/
def Both (p : Int × Int) (v e : Rat) : Prop := 1000000000 * v - e ≤ (p.1 : Rat) ∧ (p.2 : Rat) ≤ 1000000000 * v + e

theorem mul_both (s t : Int × Int) (u v e : Rat) (hs : s.1 ≤ s.2) (ht : t.1 ≤ t.2) (he : 0 ≤ e) (he1 : e ≤ 1000) (hu : -2 ≤ u ∧ u ≤ 2) (hv : -2 ≤ v ∧ v ≤ 2)
    (h1 : Both s u e) (h2 : Both t v e) : Both (mulP s t) (u * v) (5 * e + 1) := by
  have s12 := icast hs
  have t12 := icast ht
  obtain ⟨a1, a2⟩ := h1
  obtain ⟨b1, b2⟩ := h2
  have p1 := prod_alg u v (s.1 : Rat) (t.1 : Rat) e he he1 hu hv a1 (Rat.le_trans s12 a2) b1 (Rat.le_trans t12 b2)
  have p2 := prod_alg u v (s.1 : Rat) (t.2 : Rat) e he he1 hu hv a1 (Rat.le_trans s12 a2) (Rat.le_trans b1 t12) b2
  have p3 := prod_alg u v (s.2 : Rat) (t.1 : Rat) e he he1 hu hv (Rat.le_trans a1 s12) a2 b1 (Rat.le_trans t12 b2)
  have p4 := prod_alg u v (s.2 : Rat) (t.2 : Rat) e he he1 hu hv (Rat.le_trans a1 s12) a2 (Rat.le_trans b1 t12) b2
  rw [← Rat.intCast_mul] at p1 p2 p3 p4
  unfold mulP Both
  have hm : ∃ m, min (min (min (s.1 * t.1) (s.1 * t.2)) (s.2 * t.1)) (s.2 * t.2) = m ∧ 1000000000 * (1000000000 * (u * v) - 5 * e) ≤ (m : Rat) := by
    refine ⟨_, rfl, ?_⟩
    have c : min (min (min (s.1 * t.1) (s.1 * t.2)) (s.2 * t.1)) (s.2 * t.2) = s.1 * t.1 ∨ min (min (min (s.1 * t.1) (s.1 * t.2)) (s.2 * t.1)) (s.2 * t.2) = s.1 * t.2 ∨ min (min (min (s.1 * t.1) (s.1 * t.2)) (s.2 * t.1)) (s.2 * t.2) = s.2 * t.1 ∨ min (min (min (s.1 * t.1) (s.1 * t.2)) (s.2 * t.1)) (s.2 * t.2) = s.2 * t.2 := by omega
    rcases c with c | c | c | c <;> rw [c]
    · exact p1.2
    · exact p2.2
    · exact p3.2
    · exact p4.2
  have hM : ∃ M, max (max (max (s.1 * t.1) (s.1 * t.2)) (s.2 * t.1)) (s.2 * t.2) = M ∧ (M : Rat) ≤ 1000000000 * (1000000000 * (u * v) + 5 * e) := by
    refine ⟨_, rfl, ?_⟩
    have c : max (max (max (s.1 * t.1) (s.1 * t.2)) (s.2 * t.1)) (s.2 * t.2) = s.1 * t.1 ∨ max (max (max (s.1 * t.1) (s.1 * t.2)) (s.2 * t.1)) (s.2 * t.2) = s.1 * t.2 ∨ max (max (max (s.1 * t.1) (s.1 * t.2)) (s.2 * t.1)) (s.2 * t.2) = s.2 * t.1 ∨ max (max (max (s.1 * t.1) (s.1 * t.2)) (s.2 * t.1)) (s.2 * t.2) = s.2 * t.2 := by omega
    rcases c with c | c | c | c <;> rw [c]
    · exact p1.1
    · exact p2.1
    · exact p3.1
    · exact p4.1
  obtain ⟨m, e1, m1⟩ := hm
  obtain ⟨M, e2, M1⟩ := hM
  rw [e1, e2]
  have f := fl_cast m 1000000000 (by decide)
  have g := ce_cast M 1000000000 (by decide)
  rw [zcU] at f g
  dsimp only
  generalize ((m / 1000000000 : Int) : Rat) = A at *
  generalize ((-(-M / 1000000000) : Int) : Rat) = Z at *
  generalize (m : Rat) = m' at *
  generalize (M : Rat) = M' at *
  generalize u * v = uv at *
  clear p1 p2 p3 p4 a1 a2 b1 b2 s12 t12 e1 e2 hs ht hu hv
  constructor
  · clear g M1; grind
  · clear f m1; grind

theorem both_of (p : Int × Int) (v e : Rat) (h : In p v e) (w : p.2 ≤ p.1 + 60) : Both p v (e + 60) := by
  have c := icast w
  rw [Rat.intCast_add, zc60] at c
  unfold In at h
  unfold Both
  constructor <;> grind



theorem two_gap {a b : Int} {v e : Rat} (h : (a : Rat) ≤ v + e) (g : v - e ≤ (b : Rat)) (he : e ≤ 49 / 100) : a ≤ b := by
  apply int_gap
  grind

/-- both squares together are one. -/
theorem squares (h : Int) :
    Okay ((mulP (sineP h) (sineP h)).1 + (mulP (sineP (h + 64800000)) (sineP (h + 64800000))).1) ((mulP (sineP h) (sineP h)).2 + (mulP (sineP (h + 64800000)) (sineP (h + 64800000))).2) ∧
    (mulP (sineP h) (sineP h)).1 + (mulP (sineP (h + 64800000)) (sineP (h + 64800000))).1 ≤ 1000000000 ∧
    1000000000 ≤ (mulP (sineP h) (sineP h)).2 + (mulP (sineP (h + 64800000)) (sineP (h + 64800000))).2 := by
  have o1 := sineP_ok h
  have o2 := sineP_ok (h + 64800000)
  have i1 := sine_in4 h
  have i2 := cos_in h
  have n := n_norm h
  have u := Sn_two h
  have v := Cn_two h
  have m1 := mul_in _ _ _ _ _ o1.2.1 o1.2.1 (by grind) (by grind) u u i1 i1
  have m2 := mul_in _ _ _ _ _ o2.2.1 o2.2.1 (by grind) (by grind) v v i2 i2
  have b1 := mul_both _ _ _ _ _ o1.2.1 o1.2.1 (by grind) (by grind) u u (both_of _ _ _ i1 o1.2.2.2) (both_of _ _ _ i1 o1.2.2.2)
  have b2 := mul_both _ _ _ _ _ o2.2.1 o2.2.1 (by grind) (by grind) v v (both_of _ _ _ i2 o2.2.2.2) (both_of _ _ _ i2 o2.2.2.2)
  have k1 := mulP_ok _ _ ⟨o1.1, o1.2.1, o1.2.2.1⟩ ⟨o1.1, o1.2.1, o1.2.2.1⟩
  have k2 := mulP_ok _ _ ⟨o2.1, o2.2.1, o2.2.2.1⟩ ⟨o2.1, o2.2.1, o2.2.2.1⟩
  generalize mulP (sineP h) (sineP h) = x at *
  generalize mulP (sineP (h + 64800000)) (sineP (h + 64800000)) = y at *
  generalize Sn h * Sn h = s at *
  generalize Cn h * Cn h = c at *
  obtain ⟨x1, x2⟩ := x
  obtain ⟨y1, y2⟩ := y
  unfold In at m1 m2
  unfold Both at b1 b2
  dsimp only at *
  clear o1 o2 i1 i2 u v
  have t1 : ((x1 + y1 : Int) : Rat) ≤ 1000000000 + 49 / 100 := by rw [Rat.intCast_add]; clear b1 b2; grind
  have t2 : 1000000000 - 49 / 100 ≤ ((x2 + y2 : Int) : Rat) := by rw [Rat.intCast_add]; clear b1 b2; grind
  have t3 : ((1000000000 - 5000 : Int) : Rat) < ((x1 + y1 : Int) : Rat) + 1 := by
    have e : ((1000000000 - 5000 : Int) : Rat) = 1000000000 - 5000 := by decide +kernel
    rw [e, Rat.intCast_add]; clear m1 m2 t1 t2; grind
  have t4 : ((x2 + y2 : Int) : Rat) < ((1000000000 + 5000 : Int) : Rat) + 1 := by
    have e : ((1000000000 + 5000 : Int) : Rat) = 1000000000 + 5000 := by decide +kernel
    rw [e, Rat.intCast_add]; clear m1 m2 t1 t2 t3; grind
  have z1 : x1 + y1 ≤ 1000000000 := int_gap (by rw [zcU]; clear b1 b2 m1 m2 t2 t3 t4; grind)
  have z2 : 1000000000 ≤ x2 + y2 := int_gap (by rw [zcU]; clear b1 b2 m1 m2 t1 t3 t4; grind)
  have z3 := int_gap t3
  have z4 := int_gap t4
  exact ⟨by unfold Okay; omega, z1, z2⟩

theorem sum_alg (p q r s1 s2 t1 t2 u1 u2 : Rat) (a1 : s1 ≤ 1000000000 * p + 20 / 100) (a2 : 1000000000 * p - 20 / 100 ≤ s2) (b1 : t1 ≤ 1000000000 * q + 20 / 100) (b2 : 1000000000 * q - 20 / 100 ≤ t2)
    (c1 : u1 ≤ 1000000000 * r + 4 / 100) (c2 : 1000000000 * r - 4 / 100 ≤ u2) (n1 : r - (p + q) ≤ 1 / 10 ^ 20) (n2 : p + q - r ≤ 1 / 10 ^ 20) :
    s1 + t1 < u2 + 1 ∧ u1 < s2 + t2 + 1 := by constructor <;> grind
theorem dif_alg (p q r s1 s2 t1 t2 u1 u2 : Rat) (a1 : s1 ≤ 1000000000 * p + 20 / 100) (a2 : 1000000000 * p - 20 / 100 ≤ s2) (b1 : t1 ≤ 1000000000 * q + 20 / 100) (b2 : 1000000000 * q - 20 / 100 ≤ t2)
    (c1 : u1 ≤ 1000000000 * r + 4 / 100) (c2 : 1000000000 * r - 4 / 100 ≤ u2) (n1 : r - (p - q) ≤ 1 / 10 ^ 20) (n2 : p - q - r ≤ 1 / 10 ^ 20) :
    s1 - t2 < u2 + 1 ∧ u1 < s2 - t1 + 1 := by constructor <;> grind
theorem five4 : (5 : Rat) * (4 / 100) = 20 / 100 := by grind

/-- the product of a sine and a cosine, in a span. -/
theorem prod_in (p q : Int × Int) (u v : Rat) (hp : -1000000000 ≤ p.1 ∧ p.1 ≤ p.2 ∧ p.2 ≤ 1000000000 ∧ p.2 ≤ p.1 + 60) (hq : -1000000000 ≤ q.1 ∧ q.1 ≤ q.2 ∧ q.2 ≤ 1000000000 ∧ q.2 ≤ q.1 + 60)
    (hu : -2 ≤ u ∧ u ≤ 2) (hv : -2 ≤ v ∧ v ≤ 2) (h1 : In p u (4 / 100)) (h2 : In q v (4 / 100)) : In (mulP p q) (u * v) (20 / 100) := by
  have := mul_in p q u v (4 / 100) hp.2.1 hq.2.1 (by grind) (by grind) hu hv h1 h2
  rw [five4] at this
  exact this

theorem sine_sum (g h : Int) :
    (mulP (sineP g) (sineP (h + 64800000))).1 + (mulP (sineP (g + 64800000)) (sineP h)).1 ≤ (sineP (g + h)).2 ∧
    (sineP (g + h)).1 ≤ (mulP (sineP g) (sineP (h + 64800000))).2 + (mulP (sineP (g + 64800000)) (sineP h)).2 := by
  have a := prod_in _ _ _ _ (sineP_ok g) (sineP_ok (h + 64800000)) (Sn_two g) (Cn_two h) (sine_in4 g) (cos_in h)
  have b := prod_in _ _ _ _ (sineP_ok (g + 64800000)) (sineP_ok h) (Cn_two g) (Sn_two h) (cos_in g) (sine_in4 h)
  have c := sine_in4 (g + h)
  have n := Sn_add g h
  have r := sum_alg _ _ _ _ _ _ _ _ _ a.1 a.2 b.1 b.2 c.1 c.2 n.1 n.2
  rw [← Rat.intCast_add, ← Rat.intCast_add] at r
  exact ⟨int_gap r.1, int_gap r.2⟩

theorem cos_sum (g h : Int) :
    (mulP (sineP (g + 64800000)) (sineP (h + 64800000))).1 - (mulP (sineP g) (sineP h)).2 ≤ (sineP (g + h + 64800000)).2 ∧
    (sineP (g + h + 64800000)).1 ≤ (mulP (sineP (g + 64800000)) (sineP (h + 64800000))).2 - (mulP (sineP g) (sineP h)).1 := by
  have a := prod_in _ _ _ _ (sineP_ok (g + 64800000)) (sineP_ok (h + 64800000)) (Cn_two g) (Cn_two h) (cos_in g) (cos_in h)
  have b := prod_in _ _ _ _ (sineP_ok g) (sineP_ok h) (Sn_two g) (Sn_two h) (sine_in4 g) (sine_in4 h)
  have c := cos_in (g + h)
  have n := Cn_add g h
  have r := dif_alg _ _ _ _ _ _ _ _ _ a.1 a.2 b.1 b.2 c.1 c.2 n.1 n.2
  rw [← Rat.intCast_sub, ← Rat.intCast_sub] at r
  exact ⟨int_gap r.1, int_gap r.2⟩



theorem half_alg (s c h x1 x2 c1 c2 lo hi : Rat) (sq : h * h + h * h = 1 - c + s) (s0 : s ≤ 1 / 10 ^ 15) (s1 : -(1 / 10 ^ 15) ≤ s)
    (a1 : x1 ≤ 1000000000 * (h * h) + 20 / 100) (a2 : 1000000000 * (h * h) - 20 / 100 ≤ x2)
    (b1 : c1 ≤ 1000000000 * c + 4 / 100) (b2 : 1000000000 * c - 4 / 100 ≤ c2)
    (l1 : lo * 2 ≤ 1000000000 - c2) (h1 : 1000000000 - c1 ≤ hi * 2) : x1 < hi + 1 ∧ lo < x2 + 1 := by constructor <;> grind

theorem sq_alg (x y C : Rat) (n1 : C - (y * y - x * x) ≤ 1 / 10 ^ 20) (n2 : y * y - x * x - C ≤ 1 / 10 ^ 20) (q1 : 1 ≤ y * y + x * x) (q2 : y * y + x * x ≤ 1 + 1 / 10 ^ 40) :
    ∃ s, x * x + x * x = 1 - C + s ∧ s ≤ 1 / 10 ^ 15 ∧ -(1 / 10 ^ 15) ≤ s := by
  refine ⟨x * x + x * x - 1 + C, by grind, ?_, ?_⟩
  · grind
  · grind

/-- the square of the sine of half an angle. -/
theorem half_law (a : Int) :
    (mulP (sineP a) (sineP a)).1 ≤ -(-(1000000000 - (sineP (2 * a + 64800000)).1) / 2) ∧ (1000000000 - (sineP (2 * a + 64800000)).2) / 2 ≤ (mulP (sineP a) (sineP a)).2 := by
  have p := prod_in _ _ _ _ (sineP_ok a) (sineP_ok a) (Sn_two a) (Sn_two a) (sine_in4 a) (sine_in4 a)
  have c := cos_in (2 * a)
  have n := Cn_add a a
  rw [show a + a = 2 * a by omega] at n
  have q := n_norm a
  have f := fl_cast (1000000000 - (sineP (2 * a + 64800000)).2) 2 (by decide)
  have g := ce_cast (1000000000 - (sineP (2 * a + 64800000)).1) 2 (by decide)
  have two : ((2 : Int) : Rat) = 2 := rfl
  rw [two, Rat.intCast_sub, zcU] at f g
  have sq := sq_alg _ _ _ n.1 n.2 q.1 q.2
  obtain ⟨s, e1, e2, e3⟩ := sq
  have r := half_alg _ _ _ _ _ _ _ _ _ e1 e2 e3 p.1 p.2 c.1 c.2 f.1 g.1
  exact ⟨int_gap r.1, int_gap r.2⟩



theorem ch_half (h : Nat) (hk : h ≤ 32400000) : 1 / 2 ≤ ch h := (sn_lower _ (steps_le h 32400000 (4 / 5) (by decide +kernel) hk)).2
theorem sh_nonneg (h : Nat) (hk : h ≤ 32400000) : 0 ≤ sh h := by
  have a := (sn_lower _ (steps_le h 32400000 (4 / 5) (by decide +kernel) hk)).1
  have b : 0 ≤ ((h * mm : Nat) : Rat) * tau := Rat.mul_nonneg (by exact_mod_cast Nat.zero_le _) (Rat.le_of_lt tau_pos)
  unfold sh
  generalize sn (h * mm) = x at *
  generalize ((h * mm : Nat) : Rat) * tau = y at *
  grind
theorem low_alg (x y : Rat) (h : x - y ≤ 1 / 10 ^ 20) (g : 1 / 2 ≤ x) : 0 ≤ y := by grind
theorem low_alg2 (x y : Rat) (h : x - y ≤ 1 / 10 ^ 20) (g : 0 ≤ x) : -(1 / 10 ^ 20) ≤ y := by grind
theorem sh_first (h : Nat) (hk : h ≤ 64800000) : 0 ≤ sh h := by
  rcases Nat.le_total h 32400000 with a | a
  · exact sh_nonneg h a
  · have n := h_lack (64800000 - h) h (by omega)
    exact low_alg _ _ n.1 (ch_half _ (by omega))
theorem pl_first (h : Int) (h0 : 0 ≤ h) (h1 : h ≤ 64800000) : pl h = h.toNat := by unfold pl; omega
theorem Sn_first (h : Int) (h0 : 0 ≤ h) (h1 : h ≤ 64800000) : 0 ≤ Sn h := by
  unfold Sn; rw [pl_first h h0 h1]; exact sh_first _ (by omega)
theorem Cn_mid (h : Int) (h0 : -64800000 ≤ h) (h1 : h ≤ 64800000) : -(2 / 10 ^ 20) ≤ Cn h := by
  rcases Int.le_total 0 h with a | a
  · have n := h_lack h.toNat (64800000 - h.toNat) (by omega)
    have s := sh_first (64800000 - h.toNat) (by omega)
    unfold Cn; rw [pl_first h a h1]
    unfold Near at n
    generalize ch h.toNat = x at *
    generalize sh (64800000 - h.toNat) = y at *
    grind
  · have n := Sn_quarter h
    have s := Sn_first (h + 64800000) (by omega) (by omega)
    unfold Near at n
    generalize Cn h = x at *
    generalize Sn (h + 64800000) = y at *
    grind

theorem grow_alg2 (s S x1 x2 x3 x5 x6 w : Rat) (p1 : -(2 * (1 / 10 ^ 20)) ≤ x1) (p2 : x2 ≤ 2 * (1 / 10 ^ 20)) (p3 : -(2 * (1 / 10 ^ 40)) ≤ x3) (k4 : x6 + 2 / 10 ^ 20 * S ≥ 0) (hS : S ≤ 2)
    (w2 : x5 + x6 - w ≤ 1 / 10 ^ 20) (k : x5 - x6 = s + x3 + x1 - x2) : s ≤ w + 1 / 10 ^ 15 := by
  have c1 : (1 / 10 ^ 20 : Rat) ≤ 1 / 10 ^ 18 := by decide +kernel
  have c3 : (1 / 10 ^ 40 : Rat) ≤ 1 / 10 ^ 18 := by decide +kernel
  have c4 : (2 / 10 ^ 20 : Rat) = 2 * (1 / 10 ^ 20) := by decide +kernel
  have c5 : (1 / 10 ^ 15 : Rat) = 1000 * (1 / 10 ^ 18) := by decide +kernel
  have c0 : (0 : Rat) ≤ 1 / 10 ^ 20 := by decide +kernel
  rw [c4] at k4
  rw [c5]
  have q := Rat.mul_le_mul_of_nonneg_left hS c0
  generalize (1 / 10 ^ 20 : Rat) = e at *
  generalize (1 / 10 ^ 40 : Rat) = f at *
  generalize (1 / 10 ^ 18 : Rat) = g at *
  have q2 : 2 * e * S = 2 * (e * S) := by grind
  rw [q2] at k4
  generalize e * S = y at *
  clear c4 c5
  grind
theorem grow_alg (s c S C u v w e : Rat) (he : e = 1 / 10 ^ 20) (a1 : u - (s * C + c * S) ≤ e) (a2 : s * C + c * S - u ≤ e) (b1 : v - (c * C - s * S) ≤ e) (b2 : c * C - s * S - v ≤ e)
    (w2 : u * C + v * S - w ≤ e) (n1 : 1 ≤ C * C + S * S) (n2 : C * C + S * S ≤ 1 + 1 / 10 ^ 40) (hs : -2 ≤ s ∧ s ≤ 2) (hC : -2 ≤ C ∧ C ≤ 2) (hS0 : 0 ≤ S) (hS : S ≤ 2) (hv : -(2 / 10 ^ 20) ≤ v) : s ≤ w + 1 / 10 ^ 15 := by
  have p1 := near_mul (u - (s * C + c * S)) C e ⟨by grind, by grind⟩ hC
  have p2 := near_mul (v - (c * C - s * S)) S e ⟨by grind, by grind⟩ ⟨by grind, hS⟩
  have p3 := near_mul (C * C + S * S - 1) s (1 / 10 ^ 40) ⟨by grind, by grind⟩ hs
  have p4 := Rat.mul_nonneg (a := v + 2 / 10 ^ 20) (b := S) (by grind) hS0
  have k : u * C - v * S = s + (C * C + S * S - 1) * s + (u - (s * C + c * S)) * C - (v - (c * C - s * S)) * S := by grind
  generalize (u - (s * C + c * S)) * C = x1 at *
  generalize (v - (c * C - s * S)) * S = x2 at *
  generalize (C * C + S * S - 1) * s = x3 at *
  have k4 : v * S + 2 / 10 ^ 20 * S ≥ 0 := by grind
  generalize u * C = x5 at *
  generalize v * S = x6 at *
  clear a1 a2 b1 b2 n1 n2 p4 hv hC hs
  exact grow_alg2 _ _ _ _ _ _ _ _ (by rw [← he]; exact p1.1) (by rw [← he]; exact p2.2) p3.1 k4 hS (by rw [← he]; exact w2) k

/-- the sine grows. -/
theorem Sn_grow (a b : Int) (a0 : -32400000 ≤ a) (ab : a ≤ b) (b0 : b ≤ 32400000) : Sn (2 * a) ≤ Sn (2 * b) + 1 / 10 ^ 15 := by
  have x := Sn_add (2 * a) (b - a)
  have y := Cn_add (2 * a) (b - a)
  have z := Sn_add (a + b) (b - a)
  have n := n_norm (b - a)
  have e1 : 2 * a + (b - a) = a + b := by omega
  have e2 : a + b + (b - a) = 2 * b := by omega
  rw [e1] at x y
  rw [e2] at z
  exact grow_alg _ _ _ _ _ _ _ _ rfl x.1 x.2 y.1 y.2 z.2 n.1 n.2 (Sn_two _) (Cn_two _) (Sn_first _ (by omega) (by omega)) (Sn_two _).2 (Cn_mid _ (by omega) (by omega))

theorem more_alg (a b s t : Rat) (h : a ≤ 1000000000 * s + 3 / 100) (g : 1000000000 * t - 3 / 100 ≤ b) (k : s ≤ t + 1 / 10 ^ 15) : a < b + 1 := by grind
theorem sine_more (a b : Int) (a0 : -32400000 ≤ a) (ab : a ≤ b) (b0 : b ≤ 32400000) : (sineP (2 * a)).1 ≤ (sineP (2 * b)).2 ∧ (sineP (2 * a)).2 < (sineP (2 * b)).1 + 1000 := by
  have x := sine_in (2 * a)
  have y := sine_in (2 * b)
  have ox := sineP_ok (2 * a)
  have oy := sineP_ok (2 * b)
  have r : (sineP (2 * a)).1 ≤ (sineP (2 * b)).2 := int_gap (more_alg _ _ _ _ x.1 y.2 (Sn_grow a b a0 ab b0))
  exact ⟨r, by omega⟩


/-- both spans turned about: the quotient is the same. -/
theorem divP_turn (s t : Int × Int) (h : t.1 ≤ t.2) (z : ¬ (t.1 ≤ 0 ∧ 0 ≤ t.2)) : divP (negP s) (negP t) = divP s t := by
  obtain ⟨a, b⟩ := s
  obtain ⟨c, d⟩ := t
  unfold divP negP
  dsimp only at *
  by_cases n : d < 0
  · rw [if_neg (by omega), if_pos n]
  · rw [if_pos (by omega), if_neg n]; simp only [Int.neg_neg]

theorem divS_neg (a b c d : Int) : divS (-b) (-a) c d = negP (divS a b c d) := by
  unfold divS negP
  dsimp only
  rw [Int.neg_mul, Int.neg_mul, Int.neg_neg]
  generalize -(b * 1000000000) / c = x1
  generalize -(b * 1000000000) / d = x2
  generalize a * 1000000000 / c = x3
  generalize a * 1000000000 / d = x4
  rw [Prod.mk.injEq]
  omega

/-- the first span turned about: so is the quotient. -/
theorem divP_back (s t : Int × Int) : divP (negP s) t = negP (divP s t) := by
  obtain ⟨a, b⟩ := s
  obtain ⟨c, d⟩ := t
  unfold divP
  by_cases n : d < 0
  · rw [if_pos n, if_pos n]
    have e := divS_neg (-b) (-a) (-d) (-c)
    exact e
  · rw [if_neg n, if_neg n]
    exact divS_neg a b c d

theorem okay_neg (p : Int × Int) (h : Okay p.1 p.2) : Okay (negP p).1 (negP p).2 := by unfold negP; unfold Okay at *; dsimp only; omega

theorem divOk_back (s t : Int × Int) (h : divOk s t) : divOk (negP s) t := by
  unfold divOk at *
  rw [divP_back]
  exact ⟨h.1, okay_neg _ h.2⟩

theorem fl_below (a b q : Int) (hb : 0 < b) (h : q ≤ a / b) : q * b ≤ a := by
  have f := fl_le a b hb
  have := Int.mul_le_mul_of_nonneg_right h (show 0 ≤ b by omega)
  omega
theorem ce_above (a b q : Int) (hb : 0 < b) (h : -(-a / b) ≤ q) : a ≤ q * b := by
  have f := fl_below (-a) b (-q) hb (by omega)
  rw [Int.neg_mul] at f
  omega

/-- a quotient times what was divided by meets what was divided. -/
theorem div_meets (s t : Int × Int) (hs : s.1 ≤ s.2) (h : t.1 ≤ t.2) (z : ¬ (t.1 ≤ 0 ∧ 0 ≤ t.2)) : (mulP (divP s t) t).1 ≤ s.2 ∧ s.1 ≤ (mulP (divP s t) t).2 := by
  obtain ⟨a, b⟩ := s
  obtain ⟨c, d⟩ := t
  unfold divP mulP
  dsimp only at *
  by_cases n : d < 0
  · rw [if_pos n]
    have k1 := fl_below (-b * 1000000000) (-d) (divS (-b) (-a) (-d) (-c)).1 (by omega) (by unfold divS; dsimp only; omega)
    have k2 := ce_above (-a * 1000000000) (-d) (divS (-b) (-a) (-d) (-c)).2 (by omega) (by unfold divS; dsimp only; omega)
    generalize divS (-b) (-a) (-d) (-c) = q at *
    obtain ⟨q1, q2⟩ := q
    dsimp only at *
    rw [Int.mul_neg, Int.neg_mul] at k1 k2
    generalize q1 * d = m1 at *
    generalize q2 * d = m2 at *
    generalize q1 * c = m3 at *
    generalize q2 * c = m4 at *
    omega
  · rw [if_neg n]
    have k1 := fl_below (a * 1000000000) c (divS a b c d).1 (by omega) (by unfold divS; dsimp only; omega)
    have k2 := ce_above (b * 1000000000) c (divS a b c d).2 (by omega) (by unfold divS; dsimp only; omega)
    generalize divS a b c d = q at *
    obtain ⟨q1, q2⟩ := q
    dsimp only at *
    generalize q1 * d = m1 at *
    generalize q2 * d = m2 at *
    generalize q1 * c = m3 at *
    generalize q2 * c = m4 at *
    omega

/-- a sine is at least the cosine times the arc. -/
theorem tan_more (n : Nat) (hn : (n : Rat) * tau ≤ 4 / 5) : cs n * ((n : Rat) * tau) ≤ sn n := by
  induction n with
  | zero => rw [sn_zero]; simp
  | succ n ih =>
    have hk : (n : Rat) * tau ≤ 4 / 5 := by have := mul_tau_mono (Nat.le_succ n); grind
    have h1 := ih hk
    have t0 := Rat.le_of_lt tau_pos
    have x0 : 0 ≤ (n : Rat) * tau := Rat.mul_nonneg Rat.natCast_nonneg t0
    have s0 : 0 ≤ sn n := by have := (sn_lower n hk).1; grind
    have e : ((n + 1 : Nat) : Rat) = (n : Rat) + 1 := by simp
    have k1 := Rat.mul_nonneg t0 (Rat.mul_nonneg x0 s0)
    have k2 := Rat.mul_nonneg t0 (Rat.mul_nonneg t0 s0)
    rw [sn_succ, cs_succ, e]
    grind

theorem arc_in_steps (h : Nat) (h0 : 1 ≤ h) (h1 : h ≤ 32400000) :
    (((arcP h).1 : Int) : Rat) ≤ 1000000000 * (((h * mm : Nat) : Rat) * tau) ∧ 1000000000 * (((h * mm : Nat) : Rat) * tau) ≤ (((arcP h).2 : Int) : Rat) := by
  obtain ⟨⟨a1, a2, a3, a4⟩, b1, b2⟩ := arc_steps h h0 h1
  generalize (arcP (h : Int)).1 = x at *
  generalize (arcP (h : Int)).2 = z at *
  generalize h * mm = n at *
  obtain ⟨y1, e1, f1, p1⟩ := st_int x (by omega)
  obtain ⟨y2, e2, f2, p2⟩ := st_int z (by omega)
  have low : y1 ≤ (n : Rat) * tau := by rw [← f1]; exact mul_tau_mono (show st x.toNat ≤ n by omega)
  have hig : (n : Rat) * tau ≤ y2 := by rw [← f2]; exact mul_tau_mono (show n ≤ st z.toNat by omega)
  rw [e1, e2]
  generalize (n : Rat) * tau = N at *
  clear b1 b2 f1 f2 e1 e2
  constructor <;> grind

theorem arc_core (S C X : Rat) (s1 s2 c1 c2 x1 x2 : Int) (i1 : In (s1, s2) S (3 / 100)) (i2 : In (c1, c2) C (4 / 100)) (w : c2 ≤ c1 + 60) (X0 : 0 ≤ X) (X1 : X ≤ 4 / 5) (C0 : 1 / 2 ≤ C) (sx : S ≤ X) (cx : C * X ≤ S)
    (l : (x1 : Rat) ≤ 1000000000 * X) (u : 1000000000 * X ≤ (x2 : Rat)) :
    s1 ≤ x2 ∧ 0 < c1 ∧ ∀ t : Int, s2 * 1000000000 ≤ t * c1 → x1 ≤ t := by
  unfold In at i1 i2
  dsimp only at i1 i2
  have w' := icast w
  rw [Rat.intCast_add, zc60] at w'
  have one : ((1 : Int) : Rat) = 1 := rfl
  refine ⟨int_gap (by clear i2 w' cx l; grind), ?_, ?_⟩
  · have e : ((1 : Int) : Rat) < (c1 : Rat) + 1 := by rw [one]; clear i1 l u sx cx; grind
    have := int_gap e
    omega
  · intro t ht
    rcases Int.lt_or_le t x1 with k | k
    · exfalso
      have c0 : 0 ≤ (c1 : Rat) := by clear i1 l u sx cx; grind
      have k' := icast (show t + 1 ≤ x1 by omega)
      rw [Rat.intCast_add, one] at k'
      have m1 := Rat.mul_le_mul_of_nonneg_right (show (t : Rat) ≤ 1000000000 * X - 1 by grind) c0
      have m2 := icast ht
      rw [Rat.intCast_mul, Rat.intCast_mul, zcU] at m2
      have m3 := Rat.mul_nonneg (a := 1000000000 * C + 4 / 100 - (c1 : Rat)) (b := 1000000000 * X) (by grind) (by grind)
      generalize (t : Rat) * (c1 : Rat) = tc at *
      generalize hp : C * X = CX at *
      have m4 : 1000000000 * X * (c1 : Rat) ≤ 1000000000000000000 * CX + 40000000 * X := by grind
      clear m3 hp
      have m5 : (1000000000 * X - 1) * (c1 : Rat) = 1000000000 * X * (c1 : Rat) - (c1 : Rat) := by grind
      rw [m5] at m1
      generalize 1000000000 * X * (c1 : Rat) = P at *
      clear m5 k' l u
      grind
    · exact k

/-- an arc is not shorter than its sine, nor longer than its tangent. -/
theorem arc_law (h : Int) (h0 : 1 ≤ h) (h1 : h ≤ 32400000) :
    (sineP h).1 ≤ (arcP h).2 ∧ (divOk (sineP h) (sineP (h + 64800000)) → (arcP h).1 ≤ (divP (sineP h) (sineP (h + 64800000))).2) := by
  obtain ⟨n, rfl⟩ := Int.eq_ofNat_of_zero_le (show 0 ≤ h by omega)
  have i1 := sine_in n
  have i2 := cos_in n
  have o := sineP_ok ((n : Int) + 64800000)
  have ep : pl (n : Int) = n := by unfold pl; omega
  unfold Sn at i1
  unfold Cn at i2
  rw [ep] at i1 i2
  have top : ((n * mm : Nat) : Rat) * tau ≤ 4 / 5 := steps_le n 32400000 (4 / 5) (by decide +kernel) (by omega)
  have a := arc_in_steps n (by omega) (by omega)
  have x0 : 0 ≤ ((n * mm : Nat) : Rat) * tau := Rat.mul_nonneg Rat.natCast_nonneg (Rat.le_of_lt tau_pos)
  have g := (sn_grow 0 (n * mm) (by rw [Nat.zero_add]; exact top)).2.1
  rw [Nat.zero_add, sn_zero, Rat.zero_add] at g
  have m := tan_more (n * mm) top
  have c := (sn_lower (n * mm) top).2
  unfold sh at i1
  unfold ch at i2
  generalize ((n * mm : Nat) : Rat) * tau = X at *
  generalize cs (n * mm) = C at *
  generalize sn (n * mm) = S at *
  generalize hs : sineP (n : Int) = s at *
  generalize hc : sineP ((n : Int) + 64800000) = q at *
  generalize (arcP (n : Int)).1 = x1 at *
  generalize (arcP (n : Int)).2 = x2 at *
  obtain ⟨s1, s2⟩ := s
  obtain ⟨c1, c2⟩ := q
  dsimp only at *
  obtain ⟨r1, r2, r3⟩ := arc_core S C X s1 s2 c1 c2 x1 x2 i1 i2 o.2.2.2 x0 top c g m a.1 a.2
  refine ⟨r1, fun _ => r3 _ ?_⟩
  have e : divP (s1, s2) (c1, c2) = divS s1 s2 c1 c2 := if_neg (by dsimp only; omega)
  rw [e]
  exact ce_above _ _ _ r2 (by unfold divS; dsimp only; omega)

theorem arc_wide (h : Int) (h0 : 0 ≤ h) (h1 : h ≤ 32400000) : (arcP h).2 - (arcP h).1 ≤ 2 ∧ 0 ≤ (arcP h).2 - (arcP h).1 := by unfold arcP; dsimp only; omega

theorem sine_zero_ends : sineP 0 = (0, 0) := by decide +kernel

theorem sine_okay0 (h : Int) : Okay (sineP h).1 (sineP h).2 := by have := sineP_ok h; unfold Okay; omega
/-- the tangent of an angle. -/
def tanOk (a : Int) : Prop := AngIn a ∧ divOk (sineP (2 * a)) (sineP (2 * a + 64800000))
instance (a : Int) : Decidable (tanOk a) := inferInstanceAs (Decidable (_ ∧ _))
def tanP (a : Int) : Int × Int := divP (sineP (2 * a)) (sineP (2 * a + 64800000))
theorem tanP_def (a : Int) : tanP a = divP (sineP (2 * a)) (sineP (2 * a + 64800000)) := rfl

/-- half a turn further. -/
theorem tan_turn (a : Int) (h : tanOk a) : tanP (a + 64800000) = tanP a := by
  rw [tanP_def, tanP_def, show 2 * (a + 64800000) = 2 * a + 129600000 by omega, show 2 * a + 129600000 + 64800000 = 2 * a + 64800000 + 129600000 by omega, sineP_far, sineP_far]
  exact divP_turn _ _ (sineP_ok _).2.1 h.2.1
/-- turned about. -/
theorem tan_back (a : Int) (h : tanOk a) : tanOk (-a) ∧ tanP (-a) = negP (tanP a) := by
  have e1 : sineP (2 * -a) = negP (sineP (2 * a)) := by rw [show 2 * -a = -(2 * a) by omega, sineP_neg]
  have e2 : sineP (2 * -a + 64800000) = sineP (2 * a + 64800000) := by rw [show 2 * -a + 64800000 = 129600000 - (2 * a + 64800000) by omega, sineP_back]
  unfold tanOk
  rw [tanP_def, tanP_def, e1, e2, divP_back]
  obtain ⟨h1, h2⟩ := h
  exact ⟨⟨by unfold AngIn at *; omega, divOk_back _ _ h2⟩, rfl⟩
theorem tan_meets (a : Int) (h : tanOk a) : (mulP (tanP a) (sineP (2 * a + 64800000))).1 ≤ (sineP (2 * a)).2 ∧ (sineP (2 * a)).1 ≤ (mulP (tanP a) (sineP (2 * a + 64800000))).2 :=
  div_meets _ _ (sineP_ok _).2.1 (sineP_ok _).2.1 h.2.1
theorem tan_okay (a : Int) (h : tanOk a) : Okay (tanP a).1 (tanP a).2 := h.2.2

/-- a twelfth of a turn: its cosine lies between two whole numbers of parts. -/
theorem eval_third_c (n : Nat) (hn : n = 21600000 * mm) : (n : Rat) * tau ≤ 4 / 5 ∧ 8660254037 / 10 ^ 10 ≤ sm ((n : Rat) * tau) 0 13 ∧ sm ((n : Rat) * tau) 0 13 ≤ 8660254038 / 10 ^ 10 := by
  subst hn; decide +kernel
theorem ch_third : 8660254036 / 10 ^ 10 ≤ ch 21600000 ∧ ch 21600000 ≤ 8660254039 / 10 ^ 10 := by
  unfold ch
  generalize hn : 21600000 * mm = n
  have b := eval_third_c n hn.symm
  have a := near_rows n b.1
  clear hn
  grind
theorem near_wide : (nearP 21600000).1 < (nearP 21600000).2 := by
  have t := near_tells 21600000 (by decide) (by decide)
  have e : ((21600000 : Nat) : Int) = 21600000 := rfl
  rw [e] at t
  have c := ch_third
  generalize nearP 21600000 = p at *
  obtain ⟨a, b⟩ := p
  generalize ch 21600000 = x at *
  dsimp only at *
  obtain ⟨t1, t2, _⟩ := t
  have k : ((866025403 : Int) : Rat) = 866025403 := rfl
  have k2 : ((866025404 : Int) : Rat) = 866025404 := rfl
  have u1 : a ≤ 866025403 := int_gap (by rw [k]; clear t2 k2; grind)
  have u2 : 866025404 ≤ b := int_gap (by rw [k2]; clear t1 k; grind)
  omega
theorem third_ends : sineP 43200000 = nearP 21600000 ∧ sineP 86400000 = nearP 21600000 ∧ sineP 172800000 = negP (nearP 21600000) ∧ sineP 216000000 = negP (nearP 21600000) := by
  have q : quartP 43200000 = nearP 21600000 := by
    unfold quartP
    rw [if_neg (by decide), if_neg (by decide), if_neg (by decide), if_neg (by decide)]
    rfl
  have h1 : halfP 43200000 = nearP 21600000 := by unfold halfP; rw [if_neg (by decide)]; exact q
  have h2 : halfP 86400000 = nearP 21600000 := by unfold halfP; rw [if_pos (by decide)]; exact q
  refine ⟨?_, ?_, ?_, ?_⟩
  · rw [sineP_low _ (by decide)]; exact h1
  · rw [sineP_low _ (by decide)]; exact h2
  · rw [sineP_high _ (by decide)]; exact congrArg negP h1
  · rw [sineP_high _ (by decide)]; exact congrArg negP h2


/-- what is told of a quarter: the sine, but for a hundredth of a part. -/
theorem quart_fine (h : Nat) (h1 : h ≤ 64800000) :
    ((quartP h).1 : Rat) ≤ 1000000000 * sh h + 1 / 10 ^ 10 ∧ 1000000000 * sh h - 1 / 10 ^ 10 ≤ ((quartP h).2 : Rat) ∧
    0 ≤ (quartP h).1 ∧ (quartP h).2 ≤ 1000000000 ∧ (quartP h).2 ≤ (quartP h).1 + 60 ∧ (quartP h).1 ≤ (quartP h).2 := by
  unfold quartP
  by_cases c0 : h = 0
  · subst c0
    rw [if_pos (by omega), sh_zero]
    simp only [zc0]
    exact ⟨by grind, by grind, by decide, by decide, by decide, by decide⟩
  · rw [if_neg (by omega)]
    by_cases c1 : h = 21600000
    · subst c1
      have a := at_third
      rw [if_pos (by omega)]
      simp only [zcH]
      have e : (500000000 : Rat) = 1000000000 * (1 / 2) := by grind
      rw [e]
      exact ⟨slip _ _ _ _ _ Rat.le_refl a.2 (by decide +kernel), slip' _ _ _ _ _ Rat.le_refl a.1 (by decide +kernel), by decide, by decide, by decide, by decide⟩
    · rw [if_neg (by omega)]
      by_cases c2 : h = 64800000
      · subst c2
        have a := at_quarter.2
        rw [if_pos (by omega)]
        simp only [zcU]
        have e : (1000000000 : Rat) = 1000000000 * 1 := by grind
        exact ⟨slip _ _ _ _ _ (by rw [← e]; exact Rat.le_refl) a.2 (by decide +kernel), slip' _ _ _ _ _ (by rw [← e]; exact Rat.le_refl) a.1 (by decide +kernel), by decide, by decide, by decide, by decide⟩
      · rw [if_neg (by omega)]
        by_cases c3 : h ≤ 32400000
        · have t := small_tells h (by omega) c3
          rw [if_pos (by omega)]
          exact ⟨slip _ _ _ 0 _ t.1 (by rw [Rat.sub_self]; exact Rat.le_refl) (by decide +kernel), slip' _ _ _ 0 _ t.2.1 (by rw [Rat.sub_self]; exact Rat.le_refl) (by decide +kernel), t.2.2.1, t.2.2.2.1, t.2.2.2.2, le_of_both t.1 t.2.1⟩
        · obtain ⟨g, hg⟩ : ∃ g, g + h = 64800000 := ⟨64800000 - h, by omega⟩
          have t := near_tells g (by omega) (by omega)
          have n := h_lack g h hg
          have e : (64800000 - (h : Int)) = (g : Int) := by omega
          rw [if_neg (by omega), e]
          exact ⟨slip _ _ _ _ _ t.1 n.1 (by decide +kernel), slip' _ _ _ _ _ t.2.1 n.2 (by decide +kernel), t.2.2.1, t.2.2.2.1, t.2.2.2.2, le_of_both t.1 t.2.1⟩

/-- what is told of half a turn. -/
theorem half_fine (h : Nat) (h1 : h ≤ 129600000) :
    ((halfP h).1 : Rat) ≤ 1000000000 * sh h + 2 / 10 ^ 10 ∧ 1000000000 * sh h - 2 / 10 ^ 10 ≤ ((halfP h).2 : Rat) ∧
    0 ≤ (halfP h).1 ∧ (halfP h).2 ≤ 1000000000 ∧ (halfP h).2 ≤ (halfP h).1 + 60 ∧ (halfP h).1 ≤ (halfP h).2 := by
  unfold halfP
  by_cases c : h ≤ 64800000
  · rw [if_neg (by omega)]
    have t := quart_fine h c
    exact ⟨slip2 _ _ _ 0 _ _ t.1 (by rw [Rat.sub_self]; exact Rat.le_refl) (by decide +kernel), slip2' _ _ _ 0 _ _ t.2.1 (by rw [Rat.sub_self]; exact Rat.le_refl) (by decide +kernel), t.2.2⟩
  · obtain ⟨g, hg⟩ : ∃ g, g + h = 129600000 := ⟨129600000 - h, by omega⟩
    have e : (129600000 - (h : Int)) = (g : Int) := by omega
    rw [if_pos (by omega), e]
    have t := quart_fine g (by omega)
    have n := h_lack2 g h hg
    exact ⟨slip2 _ _ _ _ _ _ t.1 n.1 (by decide +kernel), slip2' _ _ _ _ _ _ t.2.1 n.2 (by decide +kernel), t.2.2⟩

theorem turn_fine (a b v w : Rat) (h : a ≤ 1000000000 * v + 2 / 10 ^ 10) (g : 1000000000 * v - 2 / 10 ^ 10 ≤ b) (n1 : w - -v ≤ 1 / 10 ^ 20) (n2 : -v - w ≤ 1 / 10 ^ 20) :
    -b ≤ 1000000000 * w + 3 / 10 ^ 10 ∧ 1000000000 * w - 3 / 10 ^ 10 ≤ -a := by constructor <;> grind

/-- what is told of all angles. -/
theorem sine_fine (h : Int) :
    ((sineP h).1 : Rat) ≤ 1000000000 * sh (pl h) + 3 / 10 ^ 10 ∧ 1000000000 * sh (pl h) - 3 / 10 ^ 10 ≤ ((sineP h).2 : Rat) ∧
    -1000000000 ≤ (sineP h).1 ∧ (sineP h).2 ≤ 1000000000 ∧ (sineP h).2 ≤ (sineP h).1 + 60 ∧ (sineP h).1 ≤ (sineP h).2 := by
  have e := pl_int h
  have l := pl_lt h
  unfold sineP
  rw [← e]
  generalize pl h = p at *
  by_cases c : 129600000 ≤ p
  · obtain ⟨g, hg⟩ : ∃ g, p = g + 129600000 := ⟨p - 129600000, by omega⟩
    subst hg
    have e2 : (((g + 129600000 : Nat) : Int) - 129600000) = (g : Int) := by omega
    rw [if_pos (by omega), e2]
    have t := half_fine g (by omega)
    have n := (h_half g (by omega)).1
    have A := turn_fine _ _ _ _ t.1 t.2.1 n.1 n.2
    simp only [Rat.intCast_neg]
    exact ⟨A.1, A.2, by omega, by omega, by omega, by omega⟩
  · rw [if_neg (by omega)]
    have t := half_fine p (by omega)
    exact ⟨slip2 _ _ _ 0 _ _ t.1 (by rw [Rat.sub_self]; exact Rat.le_refl) (by decide +kernel), slip2' _ _ _ 0 _ _ t.2.1 (by rw [Rat.sub_self]; exact Rat.le_refl) (by decide +kernel), by omega, t.2.2.2⟩


theorem sh_low (h : Nat) (h0 : 1 ≤ h) (h1 : h ≤ 32400000) : 1 / 10 ^ 8 ≤ sh h := by
  have a := (sn_lower _ (steps_le h 32400000 (4 / 5) (by decide +kernel) h1)).1
  have b := mul_tau_mono (Nat.mul_le_mul_right mm h0)
  have c : 2 / 10 ^ 8 ≤ ((1 * mm : Nat) : Rat) * tau := by decide +kernel
  unfold sh
  generalize sn (h * mm) = x at *
  generalize ((h * mm : Nat) : Rat) * tau = y at *
  generalize ((1 * mm : Nat) : Rat) * tau = z at *
  grind
theorem fine_alg (x y : Rat) (h : x - y ≤ 1 / 10 ^ 20) (g : 1 / 2 ≤ x) : 1 / 10 ^ 8 ≤ y := by grind
theorem fine_alg2 (x y : Rat) (h : x - y ≤ 2 / 10 ^ 20) (g : 1 / 10 ^ 8 ≤ x) : 9 / 10 ^ 9 ≤ y := by grind
theorem fine_alg3 (x y : Rat) (h : x - y ≤ 1 / 10 ^ 20) (g : 1 / 10 ^ 8 ≤ x) : 9 / 10 ^ 9 ≤ y := by grind
theorem sh_firm (h : Nat) (h0 : 1 ≤ h) (h1 : h ≤ 64800000) : 1 / 10 ^ 8 ≤ sh h := by
  rcases Nat.le_total h 32400000 with a | a
  · exact sh_low h h0 a
  · have n := h_lack (64800000 - h) h (by omega)
    exact fine_alg _ _ n.1 (ch_half _ (by omega))
theorem Sn_firm (h : Int) (h0 : 1 ≤ h) (h1 : h ≤ 64800000) : 1 / 10 ^ 8 ≤ Sn h := by
  unfold Sn; rw [pl_first h (by omega) h1]; exact sh_firm _ (by omega) (by omega)
theorem Cn_firm (h : Int) (h0 : -64800000 < h) (h1 : h < 64800000) : 9 / 10 ^ 9 ≤ Cn h := by
  rcases Int.le_total 0 h with a | a
  · have n := h_lack h.toNat (64800000 - h.toNat) (by omega)
    have s := sh_firm (64800000 - h.toNat) (by omega) (by omega)
    unfold Cn; rw [pl_first h a (by omega)]
    exact fine_alg3 _ _ n.2 s
  · have n := Sn_quarter h
    have s := Sn_firm (h + 64800000) (by omega) (by omega)
    exact fine_alg2 _ _ n.1 s

theorem strict_alg2 (s x1 x2 x3 x5 x6 w : Rat) (p1 : -(2 * (1 / 10 ^ 20)) ≤ x1) (p2 : x2 ≤ 2 * (1 / 10 ^ 20)) (p3 : -(2 * (1 / 10 ^ 40)) ≤ x3) (k4 : 9 / 10 ^ 17 ≤ x6)
    (w2 : x5 + x6 - w ≤ 1 / 10 ^ 20) (k : x5 - x6 = s + x3 + x1 - x2) : s + 1 / 10 ^ 16 ≤ w := by
  have c1 : (1 / 10 ^ 20 : Rat) ≤ 1 / 10 ^ 18 := by decide +kernel
  have c3 : (1 / 10 ^ 40 : Rat) ≤ 1 / 10 ^ 18 := by decide +kernel
  have c4 : (9 / 10 ^ 17 : Rat) = 90 * (1 / 10 ^ 18) := by decide +kernel
  have c5 : (1 / 10 ^ 16 : Rat) = 100 * (1 / 10 ^ 18) := by decide +kernel
  have c0 : (0 : Rat) ≤ 1 / 10 ^ 18 := by decide +kernel
  rw [c4] at k4
  rw [c5]
  generalize (1 / 10 ^ 20 : Rat) = e at *
  generalize (1 / 10 ^ 40 : Rat) = f at *
  generalize (1 / 10 ^ 18 : Rat) = g at *
  clear c4 c5
  grind
theorem strict_alg (s c S C u v w e : Rat) (he : e = 1 / 10 ^ 20) (a1 : u - (s * C + c * S) ≤ e) (a2 : s * C + c * S - u ≤ e) (b1 : v - (c * C - s * S) ≤ e) (b2 : c * C - s * S - v ≤ e)
    (w2 : u * C + v * S - w ≤ e) (n1 : 1 ≤ C * C + S * S) (n2 : C * C + S * S ≤ 1 + 1 / 10 ^ 40) (hs : -2 ≤ s ∧ s ≤ 2) (hC : -2 ≤ C ∧ C ≤ 2) (hS0 : 1 / 10 ^ 8 ≤ S) (hS : S ≤ 2) (hv : 9 / 10 ^ 9 ≤ v) : s + 1 / 10 ^ 16 ≤ w := by
  have S0 : 0 ≤ S := Rat.le_trans (by decide +kernel) hS0
  have p1 := near_mul (u - (s * C + c * S)) C e ⟨by grind, by grind⟩ hC
  have p2 := near_mul (v - (c * C - s * S)) S e ⟨by grind, by grind⟩ ⟨by grind, hS⟩
  have p3 := near_mul (C * C + S * S - 1) s (1 / 10 ^ 40) ⟨by grind, by grind⟩ hs
  have p4 : 9 / 10 ^ 17 ≤ v * S := by
    have q1 := Rat.mul_le_mul_of_nonneg_right hv S0
    have q2 := Rat.mul_le_mul_of_nonneg_left hS0 (show (0 : Rat) ≤ 9 / 10 ^ 9 by decide +kernel)
    have q3 : (9 / 10 ^ 17 : Rat) = 9 / 10 ^ 9 * (1 / 10 ^ 8) := by decide +kernel
    rw [q3]
    exact Rat.le_trans q2 q1
  have k : u * C - v * S = s + (C * C + S * S - 1) * s + (u - (s * C + c * S)) * C - (v - (c * C - s * S)) * S := by grind
  generalize (u - (s * C + c * S)) * C = x1 at *
  generalize (v - (c * C - s * S)) * S = x2 at *
  generalize (C * C + S * S - 1) * s = x3 at *
  generalize u * C = x5 at *
  generalize v * S = x6 at *
  clear a1 a2 b1 b2 n1 n2 hv hC hs
  exact strict_alg2 s x1 x2 x3 x5 x6 w (by rw [← he]; exact p1.1) (by rw [← he]; exact p2.2) p3.1 p4 (by rw [← he]; exact w2) k

theorem Sn_strict (a b : Int) (a0 : -32400000 ≤ a) (ab : a < b) (b0 : b ≤ 32400000) : Sn (2 * a) + 1 / 10 ^ 16 ≤ Sn (2 * b) := by
  have x := Sn_add (2 * a) (b - a)
  have y := Cn_add (2 * a) (b - a)
  have z := Sn_add (a + b) (b - a)
  have n := n_norm (b - a)
  have e1 : 2 * a + (b - a) = a + b := by omega
  have e2 : a + b + (b - a) = 2 * b := by omega
  rw [e1] at x y
  rw [e2] at z
  exact strict_alg _ _ _ _ _ _ _ _ rfl x.1 x.2 y.1 y.2 z.2 n.1 n.2 (Sn_two _) (Cn_two _) (Sn_firm _ (by omega) (by omega)) (Sn_two _).2 (Cn_firm _ (by omega) (by omega))
theorem strict_end (a b s t : Rat) (h : a ≤ 1000000000 * s + 3 / 10 ^ 10) (g : 1000000000 * t - 3 / 10 ^ 10 ≤ b) (k : s + 1 / 10 ^ 16 ≤ t) : a < b := by grind
/-- a greater angle: its span's upper end is greater than the lesser one's lower end. -/
theorem sine_strict (a b : Int) (a0 : -32400000 ≤ a) (ab : a < b) (b0 : b ≤ 32400000) : (sineP (2 * a)).1 < (sineP (2 * b)).2 := by
  have x := (sine_fine (2 * a)).1
  have y := (sine_fine (2 * b)).2.1
  have k := Sn_strict a b a0 ab b0
  unfold Sn at k
  exact Rat.intCast_lt_intCast.1 (strict_end _ _ _ _ x y k)

/-- the angles of a sine: both ends of the halving. -/
def backLow (n : Nat) (num : Int) : Int := (halveL (fun a => decide ((sineP (2 * a)).2 ≤ num)) n (-32400000) 32400000).1
def backHigh (n : Nat) (num : Int) : Int := (halveL (fun a => decide ((sineP (2 * a)).1 < num)) n (-32400000) 32400000).2
theorem backLow_is (n : Nat) (num : Int) : -32400000 ≤ backLow n num ∧ backLow n num ≤ 32400000 ∧ (backLow n num = -32400000 ∨ (sineP (2 * backLow n num)).2 ≤ num) := by
  have h := halveL_inv (fun a => decide ((sineP (2 * a)).2 ≤ num)) n (-32400000) 32400000 (by decide)
  unfold backLow
  refine ⟨h.1, Int.le_trans h.2.1 h.2.2.1, ?_⟩
  rcases h.2.2.2.1 with e | e
  · exact .inl e
  · exact .inr (of_decide_eq_true e)
theorem backHigh_is (n : Nat) (num : Int) : -32400000 ≤ backHigh n num ∧ backHigh n num ≤ 32400000 ∧ (backHigh n num = 32400000 ∨ num ≤ (sineP (2 * backHigh n num)).1) := by
  have h := halveL_inv (fun a => decide ((sineP (2 * a)).1 < num)) n (-32400000) 32400000 (by decide)
  unfold backHigh
  refine ⟨Int.le_trans h.1 h.2.1, h.2.2.1, ?_⟩
  rcases h.2.2.2.2 with e | e
  · exact .inl e
  · exact .inr (by have := of_decide_eq_false e; omega)
theorem back_of (n : Nat) (v : Int) (h0 : -32400000 ≤ v) (h1 : v ≤ 32400000) : backLow n (sineP (2 * v)).1 ≤ v ∧ v ≤ backHigh n (sineP (2 * v)).2 := by
  have l := backLow_is n (sineP (2 * v)).1
  have h := backHigh_is n (sineP (2 * v)).2
  generalize backLow n (sineP (2 * v)).1 = L at *
  generalize backHigh n (sineP (2 * v)).2 = H at *
  constructor
  · rcases Int.lt_or_le v L with k | k
    · have s := sine_strict v L h0 k l.2.1
      omega
    · exact k
  · rcases Int.lt_or_le H v with k | k
    · have s := sine_strict H v h.1 k h1
      omega
    · exact k
theorem back_more (n : Nat) (a b : Int) (h : a ≤ b) : backLow n a ≤ backHigh n b := by
  have l := backLow_is n a
  have g := backHigh_is n b
  generalize backLow n a = L at *
  generalize backHigh n b = H at *
  rcases Int.lt_or_le H L with k | k
  · have s := sine_strict H L g.1 k l.2.1
    omega
  · exact k
/-- products of a place's numbers with the ends of cosine and sine. -/
def wayM1 (u a : Int) : Int := u * (sineP (2 * a + 64800000)).1 / 1000000000
def wayM2 (v a : Int) : Int := -(-(v * (sineP (2 * a)).2) / 1000000000)
def wayM3 (u a : Int) : Int := -(-(u * (sineP (2 * a + 64800000)).2) / 1000000000)
def wayM4 (v a : Int) : Int := v * (sineP (2 * a)).1 / 1000000000
end AlMath
