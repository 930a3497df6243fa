/- One digit of a long division: plain arithmetic. -/
namespace Go.Proofs.Ytedplhcdlkhbnaa.Knuth
/-- One digit of a quotient: u1 above by two halves; q the estimate, r the rest of the estimate. -/
structure Est (u u1 y1 y0 q r : Int) : Prop where
  h1 : 2147483648 ≤ y1
  h1' : y1 < 4294967296
  h0 : 0 ≤ y0
  h0' : y0 < 4294967296
  hu : 0 ≤ u
  huy : u < y1 * 4294967296 + y0
  hu1 : 0 ≤ u1
  hu1' : u1 < 4294967296
  hr : r = u - q * y1
  hr0 : 0 ≤ r
  hq0 : 0 ≤ q
  hq1 : q ≤ 4294967297
  /-- the estimate is no less than the digit -/
  hge : u * 4294967296 + u1 < (q + 1) * (y1 * 4294967296 + y0)

theorem start {u u1 y1 y0 : Int} (h1 : 2147483648 ≤ y1) (h1' : y1 < 4294967296) (h0 : 0 ≤ y0) (h0' : y0 < 4294967296)
    (hu : 0 ≤ u) (huy : u < y1 * 4294967296 + y0) (hu1 : 0 ≤ u1) (hu1' : u1 < 4294967296) :
    Est u u1 y1 y0 (u / y1) (u - u / y1 * y1) := by
  have hp : 0 < y1 := by omega
  have e := Int.emod_add_mul_ediv u y1
  have m0 := Int.emod_nonneg u (show y1 ≠ 0 by omega)
  have m1 := Int.emod_lt_of_pos u hp
  have q0 : 0 ≤ u / y1 := Int.ediv_nonneg hu (by omega)
  generalize hq : u / y1 = q at *
  generalize u % y1 = m at *
  have e' : q * y1 = u - m := by rw [Int.mul_comm]; omega
  have q1 : q ≤ 4294967297 := by
    apply Int.not_lt.1; intro hlt
    have : 4294967298 * y1 ≤ q * y1 := Int.mul_le_mul_of_nonneg_right (by omega) (by omega)
    omega
  refine ⟨h1, h1', h0, h0', hu, huy, hu1, hu1', rfl, by omega, q0, q1, ?_⟩
  have e2 : (q + 1) * (y1 * 4294967296 + y0) = (q * y1) * 4294967296 + y1 * 4294967296 + (q + 1) * y0 := by
    rw [Int.add_mul, Int.one_mul, Int.mul_add, Int.add_mul q 1 y0, ← Int.mul_assoc]; omega
  have p : 0 ≤ (q + 1) * y0 := Int.mul_nonneg (by omega) h0
  rw [e2, e']; omega

theorem step {u u1 y1 y0 q r : Int} (h : Est u u1 y1 y0 q r) (hc : 4294967296 ≤ q ∨ 4294967296 * r + u1 < q * y0) :
    1 ≤ q ∧ Est u u1 y1 y0 (q - 1) (r + y1) := by
  obtain ⟨h1, h1', h0, h0', hu, huy, hu1, hu1', hr, hr0, hq0, hq1, hge⟩ := h
  have hq : 1 ≤ q := by
    rcases hc with hc | hc
    · omega
    · apply Int.not_lt.1; intro hlt
      have : q = 0 := by omega
      subst this; omega
  refine ⟨hq, h1, h1', h0, h0', hu, huy, hu1, hu1', ?_, by omega, by omega, by omega, ?_⟩
  · rw [Int.sub_mul]; omega
  · rw [Int.sub_add_cancel]
    have e : q * (y1 * 4294967296 + y0) = (q * y1) * 4294967296 + q * y0 := by rw [Int.mul_add, ← Int.mul_assoc]
    rw [e]
    rcases hc with hc | hc
    · have p : 4294967296 * y0 ≤ q * y0 := Int.mul_le_mul_of_nonneg_right hc h0
      have p1 : 4294967296 * y1 ≤ q * y1 := Int.mul_le_mul_of_nonneg_right hc (by omega)
      omega
    · omega

/-- The end: either the test says no, or the rest has grown past a half. -/
theorem done {u u1 y1 y0 q r : Int} (h : Est u u1 y1 y0 q r)
    (hc : (q < 4294967296 ∧ q * y0 ≤ 4294967296 * r + u1) ∨ (4294967296 ≤ r ∧ q ≤ 4294967296)) :
    q = (u * 4294967296 + u1) / (y1 * 4294967296 + y0) ∧ q < 4294967296 := by
  obtain ⟨h1, h1', h0, h0', hu, huy, hu1, hu1', hr, hr0, hq0, hq1, hge⟩ := h
  have e : q * (y1 * 4294967296 + y0) = (q * y1) * 4294967296 + q * y0 := by rw [Int.mul_add, ← Int.mul_assoc]
  have hle : q * (y1 * 4294967296 + y0) ≤ u * 4294967296 + u1 := by
    rw [e]
    rcases hc with ⟨_, hc⟩ | ⟨hc, hq⟩
    · omega
    · have p : q * y0 ≤ 4294967296 * y0 := Int.mul_le_mul_of_nonneg_right hq h0
      omega
  have hp : 0 < y1 * 4294967296 + y0 := by omega
  have hd : (u * 4294967296 + u1) / (y1 * 4294967296 + y0) = q := by
    apply Int.le_antisymm
    · have := (Int.ediv_lt_iff_lt_mul hp).2 hge; omega
    · exact (Int.le_ediv_iff_mul_le hp).2 hle
  refine ⟨hd.symm, ?_⟩
  have : (u * 4294967296 + u1) / (y1 * 4294967296 + y0) < 4294967296 := by
    apply (Int.ediv_lt_iff_lt_mul hp).2; omega
  omega

/-- Both digits: the quotient of three. -/
theorem two (u u1 u0 y : Int) (hy : 0 < y) (_hu0 : 0 ≤ u0) (_hu0' : u0 < 4294967296) :
    ((u * 4294967296 + u1) / y) * 4294967296 + (((u * 4294967296 + u1) - (u * 4294967296 + u1) / y * y) * 4294967296 + u0) / y =
      ((u * 4294967296 + u1) * 4294967296 + u0) / y := by
  generalize u * 4294967296 + u1 = N
  have e : N * 4294967296 + u0 = (N - N / y * y) * 4294967296 + u0 + (N / y * 4294967296) * y := by
    rw [Int.sub_mul, Int.mul_assoc (N / y) 4294967296 y, Int.mul_comm 4294967296 y, Int.mul_assoc]; omega
  rw [e, Int.add_mul_ediv_right _ _ (by omega)]; omega
end Go.Proofs.Ytedplhcdlkhbnaa.Knuth
