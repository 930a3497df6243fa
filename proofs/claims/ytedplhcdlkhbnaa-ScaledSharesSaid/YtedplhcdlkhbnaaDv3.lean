/- A product by a third number: the program's. -/
import Derived.Test.YtedplhcdlkhbnaaPx12
import Derived.Test.YtedplhcdlkhbnaaPx21
import Derived.Test.YtedplhcdlkhbnaaSc3
import Derived.Test.YtedplhcdlkhbnaaDv2
namespace Go.Proofs.Ytedplhcdlkhbnaa.P
open Go.RowKit Go.Proofs.YtedplhcdlkhbnaaW.PrintWords Go.Proofs.YtedplhcdlkhbnaaW.PrintLast Go.Proofs.YtedplhcdlkhbnaaW.PrintMore
open Go.Proofs.Ytedplhcdlkhbnaa.Big
open Go.Proofs.Ytedplhcdlkhbnaa.BadM (clamp clamp_le clamp_ge clamp_id clamp_clamp)

theorem or_pos {a b : Int} (ha : 0 < a) (ha' : a < 18446744073709551616) (hb : 0 ≤ b) (hb' : b < 18446744073709551616) : Go.bits .or .u64 a b > 0 := by
  obtain ⟨m, rfl⟩ := Int.eq_ofNat_of_zero_le (show 0 ≤ a by omega)
  obtain ⟨n, rfl⟩ := Int.eq_ofNat_of_zero_le hb
  rw [bits_or_u64_nat _ _ (by omega) (by omega)]
  have : m ≤ m ||| n := Nat.left_le_or
  omega
theorem clamp_big {x : Int} (h : 1152921504606846976 ≤ x) : clamp x = 1152921504606846976 ∧ clamp (-x) = -1152921504606846976 := by
  unfold clamp; omega
theorem clamp_min {x : Int} (h : 0 ≤ x) : clamp x = min 1152921504606846976 x ∧ clamp (-x) = -(min 1152921504606846976 x) := by
  unfold clamp; omega
theorem muldiv_j0 {p c : Int} (hp : 0 ≤ p) (hc : 0 < c) (hc' : c ≤ 1152921504606846976) (hl : p < c * 18446744073709551616) (n : Bool) {x : Bool} (hx : x = (n && decide (p % c > 0))) :
    Ev (fun k => scaled_MulDiv.j0 k n (p / c) x) (clamp (floorM p c n), true) := by
  have q0 : 0 ≤ p / c := Int.ediv_nonneg hp (by omega)
  have q1 : p / c < 18446744073709551616 := (Int.ediv_lt_iff_lt_mul hc).2 (by rw [Int.mul_comm]; exact hl)
  have md := mod_of_div (n := p) (q := p / c) (y := c) rfl
  have mg := Int.emod_nonneg p (show c ≠ 0 by omega)
  cases n with
  | false =>
    subst hx
    refine scaled_MulDiv.j0.ev (Ev.ifn (by simp) (Ev.ifn (by simp) (Ev.bind (scaled_signed_ev (hi := 0) (by omega) q0 q1) (Ev.some_ ?_))))
    rw [Int.zero_mul, Int.zero_add]
    have e : floorM p c false = p / c := rfl
    rw [e, (clamp_min q0).1]; rfl
  | true =>
    rw [Bool.true_and] at hx
    have ef : floorM p c true = -((p + c - 1) / c) := rfl
    by_cases r : p % c > 0
    · have hx : x = true := by rw [hx]; exact decide_eq_true r
      subst hx
      have ce := ceil_above hc (p := p) (by omega)
      rw [ef, ce]
      refine scaled_MulDiv.j0.ev (Ev.ifp rfl (Ev.ifc (fun b => Ev.some_ ?_) (fun b => ?_)))
      · rw [(clamp_big (show 1152921504606846976 ≤ p / c + 1 by omega)).2]
      · rw [u64id (x := p / c + 1) (by omega) (by omega)]
        refine Ev.ifp rfl (Ev.bind (scaled_signed_ev (hi := 0) (by omega) (show 0 ≤ p / c + 1 by omega) (by omega)) (Ev.some_ ?_))
        rw [Int.zero_mul, Int.zero_add, (clamp_min (show 0 ≤ p / c + 1 by omega)).2, decide_eq_true (show p / c + 1 > 0 by omega)]; rfl
    · have hx : x = false := by rw [hx]; exact decide_eq_false r
      subst hx
      have ce := ceil_exact hc (p := p) (n := p / c) (by omega)
      rw [ef, ce, (clamp_min q0).2]
      refine scaled_MulDiv.j0.ev (Ev.ifn (by simp) (Ev.ifp rfl (Ev.bind (scaled_signed_ev (hi := 0) (by omega) q0 q1) (Ev.some_ ?_))))
      rw [Int.zero_mul, Int.zero_add]
      by_cases z : p / c > 0
      · rw [decide_eq_true z]; rfl
      · have z0 : p / c = 0 := by omega
        rw [z0]; rfl
theorem scaled_MulDiv_ev (a b c : Int) : Ev (fun k => scaled_MulDiv.f k a b c) (mdM a b c) := by
  refine Ev.bind (Ev.opt (scaled_Clamp_eq c)) (Ev.ifc (fun z => Ev.some_ ?_) (fun z => ?_))
  · unfold mdM; rw [if_pos z]
  · have em : mdM a b c = (clamp (floorM (absC a * absC b) (absC c) (neg3 a b c)), true) := by unfold mdM; rw [if_neg z]
    have en : ((decide (a < 0) != decide (b < 0)) != decide (clamp c < 0)) = neg3 a b c := by
      unfold neg3
      rw [decide_eq_decide.2 (sign_clamp a).1, decide_eq_decide.2 (sign_clamp b).1]
    have ra := absC_range a
    have rb := absC_range b
    have rc := absC_range c
    have c0 : 0 < absC c := by have := mt absC_zero.1 z; omega
    have p0 : 0 ≤ absC a * absC b := Int.mul_nonneg ra.1 rb.1
    have p1 : absC a * absC b ≤ 1152921504606846976 * 1152921504606846976 := Int.mul_le_mul ra.2 rb.2 rb.1 (by omega)
    have es : scaled_size.f (clamp c) = some (absC c) := by rw [scaled_size_eq, absC_clamp]
    rw [em, en]
    generalize hn : neg3 a b c = n
    clear hn en em
    have mul := mul64_eq (absC_u64 a) (absC_u64 b)
    refine Ev.bind (Ev.opt (scaled_size_eq a)) (Ev.bind (Ev.opt (scaled_size_eq b)) (Ev.bind (Ev.opt mul) (Ev.bind (Ev.opt es) ?_)))
    clear mul es
    generalize absC a * absC b = p at *
    generalize absC c = d at *
    have eh : p / 18446744073709551616 * 18446744073709551616 + p % 18446744073709551616 = p := by omega
    refine Ev.ifc (fun h => ?_) (fun h => ?_)
    · have h : p / 18446744073709551616 ≥ d := h
      have big : 1152921504606846976 ≤ p / d := (Int.le_ediv_iff_mul_le c0).2 (by omega)
      have or1 : decide (Go.bits .or .u64 (p / 18446744073709551616) (p % 18446744073709551616) > 0) = true := decide_eq_true (or_pos (by omega) (by omega) (by omega) (by omega))
      cases n with
      | false =>
        refine Ev.ifn (by simp) (Ev.bind (scaled_signed_ev (hi := 1) (by omega) (by omega) (by omega)) (Ev.some_ ?_))
        have e : floorM p d false = p / d := rfl
        rw [e, (clamp_big big).1]; rfl
      | true =>
        refine Ev.ifp rfl (Ev.bind (scaled_signed_ev (hi := 1) (by omega) (by omega) (by omega)) (Ev.some_ ?_))
        have e : floorM p d true = -((p + d - 1) / d) := rfl
        have up : p / d ≤ (p + d - 1) / d := Int.ediv_le_ediv c0 (by omega)
        rw [e, (clamp_big (Int.le_trans big up)).2, or1]; rfl
    · have h : ¬ p / 18446744073709551616 ≥ d := h
      have dv := div64_ev (hi := p / 18446744073709551616) (lo := p % 18446744073709551616) (y := d) (by omega) (by omega) (by omega) (by omega) (by omega)
      rw [eh] at dv
      refine Ev.bind dv ?_
      refine Ev.ifc (fun t => ?_) (fun t => ?_)
      · subst t
        exact muldiv_j0 p0 c0 rc.2 (by omega) true (Bool.true_and _).symm
      · have t : n = false := Bool.eq_false_iff.2 t
        subst t
        exact muldiv_j0 p0 c0 rc.2 (by omega) false rfl
theorem scaled_Scale_ev (a b c : Int) : Ev (fun k => scaled_Scale.f k a b c) (if c ≤ 0 then 0 else (mdM a b c).1) :=
  Ev.ifc (fun h => Ev.some_ (if_pos h).symm) (fun h => Ev.bind (scaled_MulDiv_ev a b c) (Ev.some_ (if_neg h).symm))
end Go.Proofs.Ytedplhcdlkhbnaa.P
