/- bits.Div64: a quotient of a double word by a word, and the rest. -/
import Derived.Test.YtedplhcdlkhbnaaPx20
import Derived.Test.YtedplhcdlkhbnaaDv1
import Derived.Test.YtedplhcdlkhbnaaKnuth
namespace Go.Proofs.Ytedplhcdlkhbnaa.P
open Go.RowKit Go.Proofs.YtedplhcdlkhbnaaW.PrintWords Go.Proofs.YtedplhcdlkhbnaaW.PrintLast Go.Proofs.YtedplhcdlkhbnaaW.PrintMore
open Go.Proofs.Ytedplhcdlkhbnaa.Knuth (Est)

theorem or_add {a b : Int} (i : Nat) (ha : 0 ≤ a) (hb : 0 ≤ b) (hb' : b < 2 ^ i) (hs : a * 2 ^ i < 18446744073709551616) (hs2 : b < 18446744073709551616) : Go.bits .or .u64 (a * 2 ^ i) b = a * 2 ^ i + b := by
  obtain ⟨m, rfl⟩ := Int.eq_ofNat_of_zero_le ha
  obtain ⟨n, rfl⟩ := Int.eq_ofNat_of_zero_le hb
  have e : (m : Int) * 2 ^ i = ((m * 2 ^ i : Nat) : Int) := by rw [Int.natCast_mul, Int.natCast_pow]; rfl
  have hn : n < 2 ^ i := by
    have : (n : Int) < ((2 ^ i : Nat) : Int) := by rw [Int.natCast_pow]; exact hb'
    omega
  rw [e] at hs ⊢
  rw [bits_or_u64_nat _ _ (by omega) (by omega), ← Nat.shiftLeft_eq, ← Nat.shiftLeft_add_eq_or_of_lt hn]
  rfl
theorem and_mask {a : Int} (ha : 0 ≤ a) (hs : a < 18446744073709551616) : Go.bits .and .u64 a 4294967295 = a % 4294967296 := by
  obtain ⟨m, rfl⟩ := Int.eq_ofNat_of_zero_le ha
  have := bits_and_u64_nat m 4294967295 (by omega) (by omega)
  refine Eq.trans this ?_
  rw [show (4294967295 : Nat) = 2 ^ 32 - 1 from rfl, Nat.and_two_pow_sub_one_eq_mod]
  rfl
theorem pick_l0 {u u1 y1 y0 Y s u0 : Int} {v : Int × Int} : ∀ (d : Nat) (q r : Int), Est u u1 y1 y0 q r → r < 4294967296 → (4294967296 - r).toNat ≤ d →
    (∀ q, q = (u * 4294967296 + u1) / (y1 * 4294967296 + y0) → q < 4294967296 → 0 ≤ q → Ev (fun k => bits_Div64.j2 k Y s y1 y0 u u1 u0 q) v) → Ev (fun k => bits_Div64.l0 k Y s y1 y0 u u1 u0 q r) v := by
  intro d
  induction d with
  | zero => intro q r h hr hd; omega
  | succ d ih =>
    intro q r h hr hd k
    have yes : (4294967296 ≤ q ∨ 4294967296 * r + u1 < q * y0) → Ev (fun k => bits_Div64.j1 k Y s y1 y0 u u1 u0 q r true) v := by
      intro hc
      obtain ⟨q1, n⟩ := Knuth.step h hc
      have := h.h1
      have := h.h1'
      have := h.hr0
      have := h.hq1
      refine bits_Div64.j1.ev (Ev.ifp rfl ?_)
      rw [u64id (x := r + y1) (by omega) (by omega), u64id (x := q - 1) (by omega) (by omega)]
      refine Ev.ifc (fun c => ?_) (fun c => ?_)
      · obtain ⟨e, l⟩ := Knuth.done n (Or.inr ⟨c, by omega⟩)
        exact k _ e l (by omega)
      · exact ih _ _ n (by omega) (by omega) k
    have h1 := h.hr0
    have h2 := h.hu1
    have h3 := h.hu1'
    have h4 := h.hq0
    have h5 := h.h0
    have h6 := h.h0'
    refine bits_Div64.l0.ev (Ev.ifc (fun c => yes (Or.inl c)) (fun c => ?_))
    have p0 : 0 ≤ q * y0 := Int.mul_nonneg h4 h5
    have p1 : q * y0 ≤ 4294967295 * 4294967295 := Int.mul_le_mul (by omega) (by omega) h5 (by omega)
    rw [u64id (x := q * y0) p0 (by omega), u64id (x := 4294967296 * r) (by omega) (by omega), u64id (x := 4294967296 * r + u1) (by omega) (by omega)]
    by_cases t : q * y0 > 4294967296 * r + u1
    · rw [decide_eq_true t]; exact yes (Or.inr t)
    · rw [decide_eq_false t]
      obtain ⟨e, l⟩ := Knuth.done h (Or.inl ⟨by omega, by omega⟩)
      exact bits_Div64.j1.ev (Ev.ifn (by simp) (k _ e l h4))
theorem pick_l1 {u u1 y1 y0 Y s qq : Int} {v : Int × Int} : ∀ (d : Nat) (q r : Int), Est u u1 y1 y0 q r → r < 4294967296 → (4294967296 - r).toNat ≤ d → 0 ≤ s →
    (∀ q, q = (u * 4294967296 + u1) / (y1 * 4294967296 + y0) → q < 4294967296 → 0 ≤ q → v = (IntKind.u64.wrap ((IntKind.u64.wrap (qq * 4294967296)) + q), shr .u64 (IntKind.u64.wrap ((IntKind.u64.wrap ((IntKind.u64.wrap (u * 4294967296)) + u1)) - (IntKind.u64.wrap (q * Y)))) s)) → Ev (fun k => bits_Div64.l1 k Y s y1 y0 u1 qq r u q) v := by
  intro d
  induction d with
  | zero => intro q r h hr hd; omega
  | succ d ih =>
    intro q r h hr hd hs k
    have yes : (4294967296 ≤ q ∨ 4294967296 * r + u1 < q * y0) → Ev (fun k => bits_Div64.j4 k Y s y1 y0 u1 qq r u q true) v := by
      intro hc
      obtain ⟨q1, n⟩ := Knuth.step h hc
      have := h.h1
      have := h.h1'
      have := h.hr0
      have := h.hq1
      refine bits_Div64.j4.ev (Ev.ifp rfl ?_)
      rw [u64id (x := r + y1) (by omega) (by omega), u64id (x := q - 1) (by omega) (by omega)]
      refine Ev.ifc (fun c => ?_) (fun c => ?_)
      · obtain ⟨e, l⟩ := Knuth.done n (Or.inr ⟨c, by omega⟩)
        exact Ev.ifp hs (Ev.some_ (k _ e l (by omega)).symm)
      · exact ih _ _ n (by omega) (by omega) hs k
    have h1 := h.hr0
    have h2 := h.hu1
    have h3 := h.hu1'
    have h4 := h.hq0
    have h5 := h.h0
    have h6 := h.h0'
    refine bits_Div64.l1.ev (Ev.ifc (fun c => yes (Or.inl c)) (fun c => ?_))
    have p0 : 0 ≤ q * y0 := Int.mul_nonneg h4 h5
    have p1 : q * y0 ≤ 4294967295 * 4294967295 := Int.mul_le_mul (by omega) (by omega) h5 (by omega)
    rw [u64id (x := q * y0) p0 (by omega), u64id (x := 4294967296 * r) (by omega) (by omega), u64id (x := 4294967296 * r + u1) (by omega) (by omega)]
    by_cases t : q * y0 > 4294967296 * r + u1
    · rw [decide_eq_true t]; exact yes (Or.inr t)
    · rw [decide_eq_false t]
      obtain ⟨e, l⟩ := Knuth.done h (Or.inl ⟨by omega, by omega⟩)
      exact bits_Div64.j4.ev (Ev.ifn (by simp) (Ev.ifp hs (Ev.some_ (k _ e l h4).symm)))
theorem mod_of_div {n q y : Int} (h : q = n / y) : n - q * y = n % y := by
  subst h
  have := Int.emod_add_mul_ediv n y
  rw [Int.mul_comm y] at this
  omega
theorem wrap3 {a b z m : Int} (h0 : 0 ≤ m) (h1 : m < 18446744073709551616) (h : a * 4294967296 + b - z = m) : IntKind.u64.wrap ((IntKind.u64.wrap ((IntKind.u64.wrap (a * 4294967296)) + b)) - (IntKind.u64.wrap z)) = m := by
  rw [IntKind.wrap_u64, IntKind.wrap_u64, IntKind.wrap_u64, IntKind.wrap_u64]; omega
theorem tdiv_pos {x y : Int} (h : 0 ≤ x) : Int.tdiv x y = x / y := Int.tdiv_eq_ediv_of_nonneg h
/-- what is left when both are made greater -/
theorem div64_norm {hi lo y : Int} {s : Nat} (hs : s ≤ 63) (h0 : 0 ≤ hi) (h1 : hi < y) (l0 : 0 ≤ lo) (l1 : lo < 18446744073709551616) (n0 : 9223372036854775808 ≤ y * 2 ^ s) (n1 : y * 2 ^ s < 18446744073709551616) :
    ∃ U1 U0 : Int, U1 = hi * 2 ^ s + lo / 2 ^ (64 - s) ∧ U0 = lo * 2 ^ s % 18446744073709551616 ∧ 0 ≤ U1 ∧ U1 < y * 2 ^ s ∧ U1 * 18446744073709551616 + U0 = (hi * 18446744073709551616 + lo) * 2 ^ s ∧ lo / 2 ^ (64 - s) < 2 ^ s ∧ 0 ≤ lo / 2 ^ (64 - s) ∧ hi * 2 ^ s < 18446744073709551616 := by
  have hp : (0 : Int) < 2 ^ s := Int.pow_pos (by omega)
  have hq : (0 : Int) < 2 ^ (64 - s) := Int.pow_pos (by omega)
  have hpq : (2 : Int) ^ s * 2 ^ (64 - s) = 18446744073709551616 := by rw [← Int.pow_add, show s + (64 - s) = 64 by omega]; rfl
  have e1 : lo * 2 ^ s / 18446744073709551616 = lo / 2 ^ (64 - s) := by
    rw [← hpq, Int.mul_comm lo]; exact Int.mul_ediv_mul_of_pos _ _ hp
  have m := Int.emod_add_mul_ediv (lo * 2 ^ s) 18446744073709551616
  rw [e1] at m
  have d0 : 0 ≤ lo / 2 ^ (64 - s) := Int.ediv_nonneg l0 (by omega)
  have d1 : lo / 2 ^ (64 - s) < 2 ^ s := by
    apply (Int.ediv_lt_iff_lt_mul hq).2; rw [hpq]; exact l1
  have hy : (hi + 1) * 2 ^ s ≤ y * 2 ^ s := Int.mul_le_mul_of_nonneg_right (by omega) (by omega)
  rw [Int.add_mul, Int.one_mul] at hy
  have hh : 0 ≤ hi * 2 ^ s := Int.mul_nonneg h0 (by omega)
  refine ⟨_, _, rfl, rfl, by omega, by omega, ?_, d1, d0, by omega⟩
  have c : (hi * 18446744073709551616 + lo) * 2 ^ s = hi * 2 ^ s * 18446744073709551616 + lo * 2 ^ s := by
    rw [Int.add_mul, Int.mul_right_comm]
  rw [c]; omega
theorem shl_u64 (x : Int) {s : Nat} (hs : s ≤ 64) : shl .u64 x (s : Int) = IntKind.u64.wrap (x * 2 ^ s) := by
  unfold shl
  rw [show min (s : Int).toNat IntKind.u64.bits = s by show min (s : Int).toNat 64 = s; omega]
theorem shr_u64 (x : Int) {s : Nat} (hs : s ≤ 64) : shr .u64 x (s : Int) = x / 2 ^ s := by
  unfold shr
  rw [show min (s : Int).toNat IntKind.u64.bits = s by show min (s : Int).toNat 64 = s; omega]
/-- the two digits, out of what was made greater -/
theorem div64_digits {U1 U0 Y N y : Int} {s : Nat} (hs : s ≤ 63) (y0 : 9223372036854775808 ≤ Y) (y1 : Y < 18446744073709551616) (u0 : 0 ≤ U1) (u1 : U1 < Y) (v0 : 0 ≤ U0) (v1 : U0 < 18446744073709551616) (hY : Y = y * 2 ^ s) (hN : U1 * 18446744073709551616 + U0 = N * 2 ^ s) :
    Ev (fun k => bits_Div64.l0 k Y s (Y / 4294967296) (Y % 4294967296) U1 (U0 / 4294967296) (U0 % 4294967296) (IntKind.u64.wrap (Int.tdiv U1 (Y / 4294967296))) (IntKind.u64.wrap (U1 - (IntKind.u64.wrap (IntKind.u64.wrap (Int.tdiv U1 (Y / 4294967296)) * (Y / 4294967296)))))) (N / y, N % y) := by
  have hp : (0 : Int) < 2 ^ s := Int.pow_pos (by omega)
  have eY : Y / 4294967296 * 4294967296 + Y % 4294967296 = Y := by omega
  -- a digit's first estimate, as the code has it
  have est : ∀ u w : Int, 0 ≤ u → u < Y → 0 ≤ w → w < 4294967296 → Est u w (Y / 4294967296) (Y % 4294967296) (IntKind.u64.wrap (Int.tdiv u (Y / 4294967296))) (IntKind.u64.wrap (u - (IntKind.u64.wrap (IntKind.u64.wrap (Int.tdiv u (Y / 4294967296)) * (Y / 4294967296))))) ∧ (IntKind.u64.wrap (u - (IntKind.u64.wrap (IntKind.u64.wrap (Int.tdiv u (Y / 4294967296)) * (Y / 4294967296))))) < 4294967296 := by
    intro u w a b c d
    have st := Knuth.start (u := u) (u1 := w) (y1 := Y / 4294967296) (y0 := Y % 4294967296) (by omega) (by omega) (by omega) (by omega) a (by omega) c d
    rw [tdiv_pos a]
    have q0 := st.hq0
    have q1 := st.hq1
    have r0 := st.hr0
    have md := mod_of_div (n := u) (q := u / (Y / 4294967296)) (y := Y / 4294967296) rfl
    have ml := Int.emod_lt_of_pos u (show 0 < Y / 4294967296 by omega)
    rw [← md] at ml
    have p0 : 0 ≤ u / (Y / 4294967296) * (Y / 4294967296) := Int.mul_nonneg q0 (by omega)
    rw [u64id (x := u / (Y / 4294967296)) (by omega) (by omega), u64id (x := u / (Y / 4294967296) * (Y / 4294967296)) p0 (by omega), u64id (x := u - u / (Y / 4294967296) * (Y / 4294967296)) (by omega) (by omega)]
    exact ⟨st, by omega⟩
  obtain ⟨s1, t1⟩ := est U1 (U0 / 4294967296) u0 u1 (by omega) (by omega)
  refine pick_l0 _ _ _ s1 t1 (Nat.le_refl _) (fun q eq ql q0 => ?_)
  rw [eY] at eq
  have m1 := mod_of_div eq
  have ml := Int.emod_lt_of_pos (U1 * 4294967296 + U0 / 4294967296) (show 0 < Y by omega)
  have mg := Int.emod_nonneg (U1 * 4294967296 + U0 / 4294967296) (show Y ≠ 0 by omega)
  refine bits_Div64.j2.ev (Ev.ifn (by omega) ?_)
  rw [wrap3 mg (by omega) m1]
  obtain ⟨s2, t2⟩ := est _ (U0 % 4294967296) mg ml (by omega) (by omega)
  refine pick_l1 _ _ _ s2 t2 (Nat.le_refl _) (by omega) (fun p ep pl p0 => ?_)
  rw [eY] at ep
  have m2 := mod_of_div ep
  have nl := Int.emod_lt_of_pos ((U1 * 4294967296 + U0 / 4294967296) % Y * 4294967296 + U0 % 4294967296) (show 0 < Y by omega)
  have ng := Int.emod_nonneg ((U1 * 4294967296 + U0 / 4294967296) % Y * 4294967296 + U0 % 4294967296) (show Y ≠ 0 by omega)
  rw [wrap3 ng (by omega) m2, shr_u64 _ (by omega), u64id (x := q * 4294967296) (by omega) (by omega), u64id (x := q * 4294967296 + p) (by omega) (by omega)]
  have two := Knuth.two U1 (U0 / 4294967296) (U0 % 4294967296) Y (by omega) (by omega) (by omega)
  rw [← eq, m1, ← ep] at two
  have eN : (U1 * 4294967296 + U0 / 4294967296) * 4294967296 + U0 % 4294967296 = N * 2 ^ s := by omega
  have dv : N * 2 ^ s / Y = N / y := by rw [hY, Int.mul_comm N, Int.mul_comm y]; exact Int.mul_ediv_mul_of_pos _ _ hp
  rw [eN, dv] at two
  have rest : ((U1 * 4294967296 + U0 / 4294967296) % Y * 4294967296 + U0 % 4294967296) % Y = N % y * 2 ^ s := by
    have a := Int.emod_add_mul_ediv (N * 2 ^ s) Y
    have b := Int.emod_add_mul_ediv N y
    have c : N * 2 ^ s % Y = N % y * 2 ^ s := by
      rw [hY, Int.mul_comm N, Int.mul_comm y, Int.mul_emod_mul_of_pos _ _ hp, Int.mul_comm]
    rw [← c, ← eN, Int.add_emod, Int.mul_emod, Int.emod_emod, ← Int.mul_emod, ← Int.add_emod]
  rw [rest, Int.mul_ediv_cancel _ (show (2 : Int) ^ s ≠ 0 by omega), two]
theorem div64_ev {hi lo y : Int} (h0 : 0 ≤ hi) (h1 : hi < y) (hy : y < 18446744073709551616) (l0 : 0 ≤ lo) (l1 : lo < 18446744073709551616) :
    Ev (fun k => bits_Div64.f k hi lo y) ((hi * 18446744073709551616 + lo) / y, (hi * 18446744073709551616 + lo) % y) := by
  refine Ev.ifn (by omega) (Ev.ifn (by omega) (Ev.ifc (fun c => Ev.some_ ?_) (fun c => ?_)))
  · subst c
    have d0 : 0 ≤ lo / y := Int.ediv_nonneg l0 (by omega)
    have d1 : lo / y ≤ lo := Int.ediv_le_self _ l0
    rw [tdiv_pos l0, u64id d0 (by omega), Int.tmod_eq_emod_of_nonneg l0, Int.zero_mul, Int.zero_add]
  · obtain ⟨s, hs, n0, n1, e⟩ := zeros_ev (y := y) (by omega) hy
    refine Ev.bind e ?_
    obtain ⟨U1, U0, e1, e0, b0, b1, eN, d1, d0, hh⟩ := div64_norm hs h0 h1 l0 l1 n0 n1
    have u0 : 0 ≤ U0 := by omega
    have u1 : U0 < 18446744073709551616 := by omega
    have hp : (0 : Int) < 2 ^ s := Int.pow_pos (by omega)
    have hpy : 0 ≤ hi * 2 ^ s := Int.mul_nonneg h0 (by omega)
    have f1 : IntKind.u64.wrap (s : Int) = s := u64id (by omega) (by omega)
    have f2 : IntKind.u64.wrap (64 - (s : Int)) = ((64 - s : Nat) : Int) := by rw [u64id (by omega) (by omega)]; omega
    have f3 : shl .u64 y (s : Int) = y * 2 ^ s := by rw [shl_u64 _ (by omega), u64id (by omega) n1]
    have f4 : shl .u64 hi (s : Int) = hi * 2 ^ s := by rw [shl_u64 _ (by omega), u64id hpy hh]
    have f5 : shl .u64 lo (s : Int) = U0 := by rw [shl_u64 _ (by omega), IntKind.wrap_u64, e0]
    have f6 : Go.bits .or .u64 (hi * 2 ^ s) (shr .u64 lo ((64 - s : Nat) : Int)) = U1 := by
      rw [shr_u64 _ (by omega), or_add s h0 d0 d1 hh (by omega), e1]
    rw [f1, f2, f3, f4, f5, f6, and_mask (by omega) n1, and_mask u0 u1]
    generalize hY : y * 2 ^ s = Y at *
    exact Ev.ifp (by omega) (Ev.ifp (by omega) (Ev.ifn (by omega) (div64_digits hs n0 n1 b0 b1 u0 u1 hY.symm eN)))
end Go.Proofs.Ytedplhcdlkhbnaa.P
