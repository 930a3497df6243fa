/- Badness: plain arithmetic. -/
namespace Go.Proofs.Ytpnodmiincdljaa.BadM
def most : Int := 1152921504606846976
def clamp (a : Int) : Int := max (-1152921504606846976) (min 1152921504606846976 a)
theorem clamp_le (a : Int) : clamp a ≤ 1152921504606846976 := by unfold clamp; omega
theorem clamp_ge (a : Int) : -1152921504606846976 ≤ clamp a := by unfold clamp; omega
theorem clamp_id {a : Int} (h : -1152921504606846976 ≤ a) (h' : a ≤ 1152921504606846976) : clamp a = a := by unfold clamp; omega
theorem clamp_clamp (a : Int) : clamp (clamp a) = clamp a := clamp_id (clamp_ge a) (clamp_le a)
theorem clamp_mono {a b : Int} (h : a ≤ b) : clamp a ≤ clamp b := by unfold clamp; omega

def cube (a : Int) : Int := a * a * a
theorem cube_mono {a b : Int} (h0 : 0 ≤ a) (h : a ≤ b) : cube a ≤ cube b := by
  unfold cube
  have h1 : a * a ≤ b * b := Int.mul_le_mul h h h0 (by omega)
  exact Int.mul_le_mul h1 h h0 (Int.mul_nonneg (by omega) (by omega))
theorem cube_pos {a : Int} (h : 0 < a) : 0 < cube a := Int.mul_pos (Int.mul_pos h h) h
theorem cube_lt {a b : Int} (h0 : 0 ≤ a) (h : a < b) : cube a < cube b := by
  unfold cube
  have h1 : a * a ≤ a * b := Int.mul_le_mul_of_nonneg_left (by omega) h0
  have h2 : a * b < b * b := Int.mul_lt_mul_of_pos_right h (by omega)
  have h3 : a * a * a ≤ b * b * a := Int.mul_le_mul_of_nonneg_right (by omega) h0
  have h4 : b * b * a < b * b * b := Int.mul_lt_mul_of_pos_left h (Int.mul_pos (by omega) (by omega))
  omega
theorem cube_mul (c a : Int) : cube (c * a) = cube c * cube a := by
  simp only [cube, Int.mul_assoc, Int.mul_left_comm]

/-- of numbers that are clamped already -/
def bad (t s : Int) : Int := if t ≤ 0 then 0 else if s ≤ 0 then 10000 else min 10000 (100 * cube t / cube s)

theorem bad_range (t s : Int) : 0 ≤ bad t s ∧ bad t s ≤ 10000 := by
  unfold bad
  split
  · omega
  · split
    · omega
    · have : 0 ≤ 100 * cube t / cube s := Int.ediv_nonneg (by have := cube_pos (a := t) (by omega); omega) (by have := cube_pos (a := s) (by omega); omega)
      omega

theorem bad_t {t t' s : Int} (h : t ≤ t') : bad t s ≤ bad t' s := by
  have hr := bad_range t' s
  unfold bad at *
  by_cases h0 : t ≤ 0
  · rw [if_pos h0]; exact hr.1
  · rw [if_neg h0, if_neg (show ¬ t' ≤ 0 by omega)]
    by_cases h1 : s ≤ 0
    · rw [if_pos h1, if_pos h1]; omega
    · rw [if_neg h1]
      have c := cube_mono (a := t) (b := t') (by omega) h
      have := Int.ediv_le_ediv (cube_pos (a := s) (by omega)) (show 100 * cube t ≤ 100 * cube t' by omega)
      simp only [if_neg h1]
      omega

theorem bad_s {t s s' : Int} (h : s' ≤ s) : bad t s ≤ bad t s' := by
  have hr := bad_range t s'
  have hr' := bad_range t s
  unfold bad at *
  by_cases h0 : t ≤ 0
  · simp [h0]
  · simp only [if_neg h0] at *
    by_cases h1 : s' ≤ 0
    · simp only [if_pos h1] at *; exact hr'.2
    · simp only [if_neg h1, if_neg (show ¬ s ≤ 0 by omega)] at *
      have c := cube_mono (a := s') (b := s) (by omega) h
      have p := cube_pos (a := s') (by omega)
      have p' := cube_pos (a := s) (by omega)
      have pt := cube_pos (a := t) (by omega)
      have : 100 * cube t / cube s ≤ 100 * cube t / cube s' := by
        apply (Int.le_ediv_iff_mul_le p).2
        have e := Int.ediv_mul_le (100 * cube t) (show cube s ≠ 0 by omega)
        have n : 0 ≤ 100 * cube t / cube s := Int.ediv_nonneg (by omega) (by omega)
        have := Int.mul_le_mul_of_nonneg_left c n
        omega
      omega

theorem bad_hundred {t s : Int} (ht : 0 < t) (hs : 0 < s) : 100 ≤ bad t s ↔ s ≤ t := by
  unfold bad
  rw [if_neg (by omega), if_neg (by omega)]
  have p := cube_pos hs
  constructor
  · intro h
    apply Int.not_lt.1; intro hlt
    have c := cube_lt (a := t) (b := s) (by omega) hlt
    have : 100 * cube t / cube s < 100 := (Int.ediv_lt_iff_lt_mul p).2 (by omega)
    omega
  · intro h
    have c := cube_mono (a := s) (b := t) (by omega) h
    have : 100 ≤ 100 * cube t / cube s := (Int.le_ediv_iff_mul_le p).2 (by omega)
    omega

/-- where the quotient is 5 or more it is the worst -/
theorem bad_five {t s : Int} (hs : 0 < s) (h : 5 * s ≤ t) : bad t s = 10000 := by
  unfold bad
  rw [if_neg (by omega), if_neg (by omega)]
  have p := cube_pos hs
  have c := cube_mono (a := 5 * s) (b := t) (by omega) h
  have e : cube (5 * s) = 125 * cube s := cube_mul 5 s
  have : 10000 ≤ 100 * cube t / cube s := (Int.le_ediv_iff_mul_le p).2 (by omega)
  omega

/-- the greatest number up to 10000 whose product with the cube isn't above -/
theorem bad_search {t s m : Int} (ht : 0 < t) (hs : 0 < s) (h0 : 0 ≤ m) (h1 : m ≤ 10000) (hle : m * cube s ≤ 100 * cube t)
    (hlt : m = 10000 ∨ 100 * cube t < (m + 1) * cube s) : bad t s = m := by
  unfold bad
  rw [if_neg (by omega), if_neg (by omega)]
  have p := cube_pos hs
  have a : m ≤ 100 * cube t / cube s := (Int.le_ediv_iff_mul_le p).2 hle
  rcases hlt with h | h
  · omega
  · have : 100 * cube t / cube s < m + 1 := (Int.ediv_lt_iff_lt_mul p).2 h
    omega
end Go.Proofs.Ytpnodmiincdljaa.BadM
