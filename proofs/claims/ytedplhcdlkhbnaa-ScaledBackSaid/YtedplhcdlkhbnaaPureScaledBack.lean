/- Quotient times divisor and the rest are the number; the rest has the divisor's sign, and is less than it. -/
import Derived.Test.YtedplhcdlkhbnaaPx9
import Derived.Test.YtedplhcdlkhbnaaSc3
import Derived.Test.YtedplhcdlkhbnaaOpened
namespace Go.Proofs.Ytedplhcdlkhbnaa.Pure
open Go.RowKit Go.Proofs.YtedplhcdlkhbnaaW.PrintWords Go.Proofs.YtedplhcdlkhbnaaW.PrintLast
open Go.Proofs.Ytedplhcdlkhbnaa.P
open Go.Proofs.Ytedplhcdlkhbnaa.BadM (clamp clamp_le clamp_ge clamp_id)
/-- what is known of a quotient rounded down -/
theorem floor_rest {X Y : Int} (hy : 0 < Y) : 0 ≤ X - floorM X Y false * Y ∧ X - floorM X Y false * Y < Y ∧ 0 ≤ -floorM X Y true * Y - X ∧ -floorM X Y true * Y - X < Y := by
  unfold floorM
  rw [if_neg (by simp), if_pos rfl, Int.neg_neg]
  have h1 := Int.ediv_mul_le X (show Y ≠ 0 by omega)
  have h2 := Int.lt_ediv_add_one_mul_self X hy
  rw [Int.add_mul] at h2
  refine ⟨by omega, by omega, ?_⟩
  by_cases e : X / Y * Y = X
  · rw [ceil_exact hy e]; omega
  · rw [ceil_above hy e, Int.add_mul]; omega
theorem ScaledBack : ∀ (a0 : Int) (a1 : Int), (fun n => (Lit.int .i64 n).wf = true) a0 → (fun n => (Lit.int .i64 n).wf = true) a1 → ∃ k, regletlaw01_ScaledBack.f k a0 a1 = some true := by
  intro a b _ _
  have a1 := clamp_le a
  have a2 := clamp_ge a
  have b1 := clamp_le b
  have b2 := clamp_ge b
  refine Ev.rounds (Ev.bind awake_ev (Ev.ifp rfl (Ev.bind (Ev.opt (scaled_Div_eq a b)) (Ev.bind (Ev.opt (scaled_Mod_eq a b)) ?_))))
  refine Ev.ifc (fun hb => ?_) (fun hb => ?_)
  · have hc : clamp b = 0 := by rw [hb]; exact clamp_id (by omega) (by omega)
    have hd : divM a b = (0, false) := by unfold divM; rw [if_pos hc]
    have hm : modM a b = (0, false) := by unfold modM; rw [hd]; rfl
    rw [hd, hm]
    exact Ev.ifn (by simp) (Ev.ifn (by simp) (Ev.ifp rfl (Ev.now _)))
  · have hc : clamp b ≠ 0 := by unfold clamp; omega
    have hY : 0 < absC b := by have := (absC_range b).1; have := mt absC_zero.1 hc; omega
    have hX := absC_range a
    obtain ⟨f1, f2, f3, f4⟩ := floor_rest (X := absC a) hY
    have hr0 := floorM_range hX.1 hY hX.2 false
    have hr1 := floorM_range hX.1 hY hX.2 true
    have hd : divM a b = (floorM (absC a) (absC b) (decide (clamp a < 0) != decide (clamp b < 0)), true) := by unfold divM; rw [if_neg hc]
    -- the rest, and what is known of it
    have key : ∃ q r : Int, divM a b = (q, true) ∧ q * clamp b + r = clamp a ∧ -2305843009213693952 ≤ q * clamp b ∧ q * clamp b ≤ 2305843009213693952 ∧ (0 < clamp b → 0 ≤ r ∧ r < clamp b) ∧ (clamp b < 0 → r ≤ 0 ∧ clamp b < r) := by
      refine ⟨_, clamp a - floorM (absC a) (absC b) (decide (clamp a < 0) != decide (clamp b < 0)) * clamp b, hd, by omega, ?_⟩
      by_cases ca : clamp a < 0
      · by_cases cb : clamp b < 0
        · have xa : absC a = -clamp a := if_pos ca
          have xb : absC b = -clamp b := if_pos cb
          rw [xa, xb] at f1 f2 f3 f4
          rw [xa, xb, decide_eq_true ca, decide_eq_true cb, show (true != true) = false from rfl]
          generalize floorM (-clamp a) (-clamp b) false = q at *
          rw [Int.mul_neg] at f1 f2
          omega
        · have xa : absC a = -clamp a := if_pos ca
          have xb : absC b = clamp b := if_neg cb
          rw [xa, xb] at f1 f2 f3 f4
          rw [xa, xb, decide_eq_true ca, decide_eq_false cb, show (true != false) = true from rfl]
          generalize floorM (-clamp a) (clamp b) true = q at *
          rw [Int.neg_mul] at f3 f4
          omega
      · by_cases cb : clamp b < 0
        · have xa : absC a = clamp a := if_neg ca
          have xb : absC b = -clamp b := if_pos cb
          rw [xa, xb] at f1 f2 f3 f4
          rw [xa, xb, decide_eq_false ca, decide_eq_true cb, show (false != true) = true from rfl]
          generalize floorM (clamp a) (-clamp b) true = q at *
          rw [Int.neg_mul, Int.mul_neg, Int.neg_neg] at f3 f4
          omega
        · have xa : absC a = clamp a := if_neg ca
          have xb : absC b = clamp b := if_neg cb
          rw [xa, xb] at f1 f2 f3 f4
          rw [xa, xb, decide_eq_false ca, decide_eq_false cb, show (false != false) = false from rfl]
          generalize floorM (clamp a) (clamp b) false = q at *
          omega
    obtain ⟨q, r, e1, e2, e3, e4, e5, e6⟩ := key
    have hm : modM a b = (r, true) := by
      unfold modM
      rw [e1, if_pos rfl]
      rw [w64 (x := q * clamp b) (by omega) (by omega), w64 (by omega) (by omega)]
      congr 1; omega
    rw [e1, hm]
    refine Ev.bind (Ev.opt (scaled_Clamp_eq a)) (Ev.bind (Ev.opt (scaled_Clamp_eq b)) (Ev.ifp rfl (Ev.ifp rfl ?_)))
    rw [w64 (x := q * clamp b) (by omega) (by omega), w64 (x := q * clamp b + r) (by omega) (by omega)]
    refine Ev.ifp e2 ?_
    have last : Ev (fun _ : Nat => if clamp b > 0 then (if r < clamp b then some true else (if clamp b < 0 then some (decide (r > clamp b)) else some false)) else (if clamp b < 0 then some (decide (r > clamp b)) else some false)) true := by
      refine Ev.ifc (fun c => Ev.ifp (e5 c).2 (Ev.now _)) (fun c => Ev.ifp (by omega) (Ev.some_ (decide_eq_true (e6 (by omega)).2)))
    refine Ev.ifc (fun _ => last) (fun c => Ev.ifp ?_ last)
    rw [beq_iff_eq, decide_eq_decide]
    rcases Int.lt_or_gt_of_ne hc with h | h
    · have := e6 h; omega
    · have := e5 h; omega
end Go.Proofs.Ytedplhcdlkhbnaa.Pure
