/- Badness: the program's and the reference's are the page's. -/
import Derived.Test.YtdkmmddakidieaaPx2
import Derived.Test.YtdkmmddakidieaaPx3
import Derived.Test.YtdkmmddakidieaaSc1
namespace Go.Proofs.Ytdkmmddakidieaa.P
open Go.RowKit Go.Proofs.YtdkmmddakidieaaW.PrintWords Go.Proofs.YtdkmmddakidieaaW.PrintLast Go.Proofs.YtdkmmddakidieaaW.PrintMore
open Go.Proofs.Ytdkmmddakidieaa.Big
open Go.Proofs.Ytdkmmddakidieaa.BadM (clamp clamp_le clamp_ge clamp_id clamp_clamp cube cube_pos bad bad_five bad_search bad_range)

theorem u64id {x : Int} (h : 0 ≤ x) (h' : x < 18446744073709551616) : IntKind.u64.wrap x = x := by rw [IntKind.wrap_u64]; omega
/-- a number of four words -/
def wide (a b c d : Int) : Int := a + 18446744073709551616 * b + 340282366920938463463374607431768211456 * c + 6277101735386680763835789423207666416102355444464034512896 * d
structure Wide (a b c d v : Int) : Prop where
  u0 : U64 a
  u1 : U64 b
  u2 : U64 c
  u3 : U64 d
  val : wide a b c d = v
theorem product_ev {a b : Int} (ha : U64 a) (hb : U64 b) : ∃ w0 w1 : Int, scaled_product.f a b = some (w0, w1, 0, 0) ∧ Wide w0 w1 0 0 (a * b) := by
  have h := times_bound ha hb
  refine ⟨a * b % 18446744073709551616, a * b / 18446744073709551616, ?_, ?_⟩
  · unfold scaled_product.f; rw [mul64_eq ha hb]; rfl
  · generalize a * b = q at *
    constructor <;> (first | unfold U64 | unfold wide) <;> omega
theorem times_val {w0 w1 w2 w3 v b : Int} (h : Wide w0 w1 w2 w3 v) (hb : U64 b) (hv : v * b < 115792089237316195423570985008687907853269984665640564039457584007913129639936) :
    ∃ r0 r1 r2 r3 : Int, scaled_wide_times.f w0 w1 w2 w3 b = some (r0, r1, r2, r3) ∧ Wide r0 r1 r2 r3 (v * b) := by
  obtain ⟨u0, u1, u2, u3, hval⟩ := h
  have p0 := times_bound u0 hb
  have p1 := times_bound u1 hb
  have p2 := times_bound u2 hb
  have p3 := times_bound u3 hb
  refine ⟨_, _, _, _, by unfold scaled_wide_times.f; exact if_pos ⟨u0, u1, u2, u3, hb⟩, ?_⟩
  have e : v * b = w0 * b + 18446744073709551616 * (w1 * b) + 340282366920938463463374607431768211456 * (w2 * b) + 6277101735386680763835789423207666416102355444464034512896 * (w3 * b) := by
    rw [← hval]; unfold wide; simp only [Int.add_mul, Int.mul_assoc]
  rw [e] at hv ⊢
  generalize w0 * b = q0 at *
  generalize w1 * b = q1 at *
  generalize w2 * b = q2 at *
  generalize w3 * b = q3 at *
  constructor <;> (first | unfold U64 | unfold wide) <;> omega
theorem smaller_val {a0 a1 a2 a3 b0 b1 b2 b3 v u : Int} (h : Wide a0 a1 a2 a3 v) (k : Wide b0 b1 b2 b3 u) : scaled_smaller.f a0 a1 a2 a3 b0 b1 b2 b3 = some (decide (v < u)) := by
  obtain ⟨u0, u1, u2, u3, hval⟩ := h
  obtain ⟨t0, t1, t2, t3, kval⟩ := k
  unfold scaled_smaller.f
  unfold wide at hval kval
  unfold U64 at *
  congr 1
  rw [← hval, ← kval]
  split
  · rw [decide_eq_decide]; omega
  · split
    · rw [decide_eq_decide]; omega
    · split
      · rw [decide_eq_decide]; omega
      · split
        · rw [decide_eq_decide]; omega
        · symm; rw [decide_eq_false_iff_not]; omega

theorem mul3_le {a b c : Int} (h0 : 0 ≤ a) (h1 : 0 ≤ b) (h2 : 0 ≤ c) (ha : a ≤ 1152921504606846976) (hb : b ≤ 1152921504606846976) (hc : c ≤ 1152921504606846976) : 0 ≤ a * b ∧ a * b ≤ 1329227995784915872903807060280344576 ∧ 0 ≤ a * b * c ∧ a * b * c ≤ 1532495540865888858358347027150309183618739122183602176 := by
  have x := Int.mul_le_mul ha hb h1 (by omega)
  have y := Int.mul_nonneg h0 h1
  have x' : a * b ≤ 1329227995784915872903807060280344576 := by omega
  have z := Int.mul_le_mul x' hc h2 (by omega)
  exact ⟨y, x', Int.mul_nonneg y h2, by omega⟩
theorem bad_loop {t s : Int} (ht : 0 < t) (hs : 0 < s) (hs2 : s ≤ 1152921504606846976) {a0 a1 a2 a3 b0 b1 b2 b3 : Int} (hl : Wide a0 a1 a2 a3 (100 * cube t)) (hc : Wide b0 b1 b2 b3 (cube s)) : ∀ (d : Nat) (lo hi : Int), 0 ≤ lo → lo ≤ hi → hi ≤ 10000 → hi - lo ≤ d → lo * cube s ≤ 100 * cube t → (hi = 10000 ∨ 100 * cube t < (hi + 1) * cube s) →
    Ev (fun k => scaled_Bad.l0 k lo hi a0 a1 a2 a3 b0 b1 b2 b3) (bad t s) := by
  have hcp := cube_pos hs
  have hcb : cube s ≤ 1532495540865888858358347027150309183618739122183602176 := (mul3_le (a := s) (b := s) (c := s) (by omega) (by omega) (by omega) hs2 hs2 hs2).2.2.2
  intro d
  induction d using Nat.strongRecOn with
  | _ d ih =>
    intro lo hi h0 h1 h2 h3 h4 h5
    by_cases c : lo < hi
    · have em : Hid (wrap64 (Int.tdiv (wrap64 (wrap64 (lo + hi) + 1)) 2) = (lo + hi + 1) / 2) := by
        show _ = _
        rw [w64 (x := lo + hi) (by omega) (by omega), w64 (x := lo + hi + 1) (by omega) (by omega), Int.tdiv_eq_ediv_of_nonneg (by omega), w64 (by omega) (by omega)]
      have b1 : lo < (lo + hi + 1) / 2 := by omega
      have b2 : (lo + hi + 1) / 2 ≤ hi := by omega
      generalize hmid : (lo + hi + 1) / 2 = mid at *
      have hm : cube s * mid ≤ 1532495540865888858358347027150309183618739122183602176 * 10000 := Int.mul_le_mul hcb (by omega) (by omega) (by omega)
      obtain ⟨r0, r1, r2, r3, e1, e2⟩ := times_val hc (b := mid) (by unfold U64; omega) (by omega)
      refine scaled_Bad.l0.ev (Ev.ifp c ?_)
      rw [em.out, u64id (x := mid) (by omega) (by omega)]
      clear em
      rw [w64 (x := mid - 1) (by omega) (by omega)]
      refine Ev.bind (Ev.opt e1) (Ev.bind (Ev.opt (smaller_val hl e2)) (Ev.ifc (fun q => ?_) (fun q => ?_)))
      · have q := of_decide_eq_true q
        refine ih (mid - 1 - lo).toNat (by omega) lo (mid - 1) h0 (by omega) (by omega) (by omega) h4 (.inr ?_)
        rw [Int.sub_add_cancel, Int.mul_comm mid]; exact q
      · have q : ¬ 100 * cube t < cube s * mid := fun h => q (decide_eq_true h)
        exact ih (hi - mid).toNat (by omega) mid hi (by omega) b2 h2 (by omega) (by rw [Int.mul_comm]; omega) h5
    · have e : lo = hi := by omega
      subst e
      exact scaled_Bad.l0.ev (Ev.ifn c (Ev.some_ (bad_search ht hs h0 h2 h4 h5).symm))
theorem scaled_Bad_ev (a b : Int) : Ev (fun k => scaled_Bad.f k a b) (bad (clamp a) (clamp b)) := by
  have ha := clamp_le a
  have hb := clamp_le b
  refine Ev.bind (Ev.opt (scaled_Clamp_eq a)) (Ev.bind (Ev.opt (scaled_Clamp_eq b)) ?_)
  generalize clamp a = t at *
  generalize clamp b = s at *
  refine Ev.ifc (fun c => Ev.some_ (by unfold bad; rw [if_pos c])) (fun c1 => ?_)
  refine Ev.ifc (fun c => scaled_Bad.j0.ev (Ev.ifp rfl (Ev.some_ (by unfold bad; rw [if_neg c1, if_pos c])))) (fun c2 => Ev.ifn (by omega) ?_)
  rw [Int.tdiv_eq_ediv_of_nonneg (show 0 ≤ t by omega)]
  have hq : 0 ≤ t / s := Int.ediv_nonneg (by omega) (by omega)
  have hq2 : t / s ≤ t := Int.ediv_le_self _ (by omega)
  rw [w64 (x := t / s) (by omega) (by omega)]
  by_cases c3 : t / s ≥ 5
  · refine scaled_Bad.j0.ev (Ev.ifp (decide_eq_true c3) (Ev.some_ (bad_five (by omega) ?_).symm))
    exact (Int.le_ediv_iff_mul_le (by omega)).1 c3
  · refine scaled_Bad.j0.ev (Ev.ifn (by simpa using c3) ?_)
    rw [u64id (x := t) (by omega) (by omega), u64id (x := s) (by omega) (by omega)]
    have ut : U64 t := by unfold U64; omega
    have us : U64 s := by unfold U64; omega
    have bt := mul3_le (a := t) (b := t) (c := t) (by omega) (by omega) (by omega) ha ha ha
    have bs := mul3_le (a := s) (b := s) (c := s) (by omega) (by omega) (by omega) hb hb hb
    obtain ⟨w0, w1, e1, v1⟩ := product_ev ut ut
    obtain ⟨x0, x1, x2, x3, e2, v2⟩ := times_val v1 ut (by omega)
    obtain ⟨y0, y1, y2, y3, e3, v3⟩ := times_val v2 (b := 100) (by unfold U64; omega) (by omega)
    obtain ⟨z0, z1, e4, v4⟩ := product_ev us us
    obtain ⟨r0, r1, r2, r3, e5, v5⟩ := times_val v4 us (by omega)
    refine Ev.bind (Ev.opt e1) (Ev.bind (Ev.opt e2) (Ev.bind (Ev.opt e3) (Ev.bind (Ev.opt e4) (Ev.bind (Ev.opt e5) ?_))))
    rw [show t * t * t * 100 = 100 * cube t by unfold cube; omega] at v3
    have hp := cube_pos (a := t) (by omega)
    exact bad_loop (by omega) (by omega) hb v3 v5 10000 0 10000 (by omega) (by omega) (by omega) (by omega) (by omega) (.inl rfl)
theorem absC_pos {a : Int} (h : 0 ≤ a) (h' : a ≤ 1152921504606846976) : absC a = a := by unfold absC; rw [clamp_id (by omega) h', if_neg (by omega)]
end Go.Proofs.Ytdkmmddakidieaa.P
