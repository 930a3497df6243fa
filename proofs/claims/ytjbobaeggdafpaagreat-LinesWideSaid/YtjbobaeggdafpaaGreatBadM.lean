/- Badness: plain arithmetic. -/
namespace Go.Proofs.YtjbobaeggdafpaaGreat.BadM
def clamp (a : Int) : Int := max (-1152921504606846976) (min 1152921504606846976 a)
theorem clamp_le (a : Int) : clamp a ≤ 1152921504606846976 := by unfold clamp; omega
theorem clamp_ge (a : Int) : -1152921504606846976 ≤ clamp a := by unfold clamp; omega
theorem clamp_id {a : Int} (h : -1152921504606846976 ≤ a) (h' : a ≤ 1152921504606846976) : clamp a = a := by unfold clamp; omega
theorem clamp_clamp (a : Int) : clamp (clamp a) = clamp a := clamp_id (clamp_ge a) (clamp_le a)
def cube (a : Int) : Int := a * a * a
theorem cube_mono {a b : Int} (h0 : 0 ≤ a) (h : a ≤ b) : cube a ≤ cube b := by
 unfold cube
 have h1 : a * a ≤ b * b := Int.mul_le_mul h h h0 (by omega)
 exact Int.mul_le_mul h1 h h0 (Int.mul_nonneg (by omega) (by omega))
theorem cube_pos {a : Int} (h : 0 < a) : 0 < cube a := Int.mul_pos (Int.mul_pos h h) h
theorem cube_mul (c a : Int) : cube (c * a) = cube c * cube a := by
 simp only [cube, Int.mul_assoc, Int.mul_left_comm]
def bad (t s : Int) : Int := if t ≤ 0 then 0 else if s ≤ 0 then 10000 else min 10000 (100 * cube t / cube s)
theorem bad_range (t s : Int) : 0 ≤ bad t s ∧ bad t s ≤ 10000 := by
 unfold bad
 split
 · omega
 · split
   · omega
   · have : 0 ≤ 100 * cube t / cube s := Int.ediv_nonneg (by have := cube_pos (a := t) (by omega); omega) (by have := cube_pos (a := s) (by omega); omega)
     omega
theorem bad_five {t s : Int} (hs : 0 < s) (h : 5 * s ≤ t) : bad t s = 10000 := by
 unfold bad
 rw [if_neg (by omega), if_neg (by omega)]
 have p := cube_pos hs
 have c := cube_mono (a := 5 * s) (b := t) (by omega) h
 have e : cube (5 * s) = 125 * cube s := cube_mul 5 s
 have : 10000 ≤ 100 * cube t / cube s := (Int.le_ediv_iff_mul_le p).2 (by omega)
 omega
theorem bad_search {t s m : Int} (ht : 0 < t) (hs : 0 < s) (h0 : 0 ≤ m) (h1 : m ≤ 10000) (hle : m * cube s ≤ 100 * cube t)
 (hlt : m = 10000 ∨ 100 * cube t < (m + 1) * cube s) : bad t s = m := by
 unfold bad
 rw [if_neg (by omega), if_neg (by omega)]
 have p := cube_pos hs
 have a : m ≤ 100 * cube t / cube s := (Int.le_ediv_iff_mul_le p).2 hle
 rcases hlt with h | h
 · omega
 · have : 100 * cube t / cube s < m + 1 := (Int.ediv_lt_iff_lt_mul p).2 h
   omega
end Go.Proofs.YtjbobaeggdafpaaGreat.BadM
