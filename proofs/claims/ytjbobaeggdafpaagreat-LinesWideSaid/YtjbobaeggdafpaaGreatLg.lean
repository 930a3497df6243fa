/- Chapter 10: how a line is set makes it as wide as it should be. -/
import Derived.Test.YtjbobaeggdafpaaGreatLf
namespace Go.Proofs.YtjbobaeggdafpaaGreat.Vm
open Go
open _root_.Go.RowKit (wrap64)
open Go.Proofs.YtjbobaeggdafpaaGreat.BadM (clamp clamp_le clamp_ge clamp_id clamp_clamp bad bad_range bad_five)
theorem low_eq {a b : Int} (ha : -1152921504606846976 ≤ a ∧ a ≤ 1152921504606846976) (hb : 0 < b ∧ b ≤ 1152921504606846976) : b * (lowM a b).1 = a * (lowM a b).2 ∧ (0 < a → 0 < (lowM a b).1) ∧ (a < 0 → (lowM a b).1 < 0) := by
 have ca : clamp a = a := clamp_id ha.1 ha.2
 have cb : clamp b = b := clamp_id (by omega) hb.2
 have ab : absC b = b := by unfold absC; rw [cb, if_neg (by omega)]
 have hg := gcd_pos (a := a) (b := b) (by rw [cb]; omega)
 have el : lowM a b = (Int.tdiv a (gcdN a b), b / (gcdN a b : Int)) := by
  unfold lowM
  rw [cb, ca, ab, if_neg (by omega), if_neg (by omega)]
 have gb : (gcdN a b : Int) ∣ b := by
  have : gcdN a b ∣ (absC b).toNat := Nat.gcd_dvd_right _ _
  have h := Int.natCast_dvd_natCast.2 this
  rwa [Int.toNat_of_nonneg (by rw [ab]; omega), ab] at h
 have ga : (gcdN a b : Int) ∣ a := by
  have h1 : gcdN a b ∣ (absC a).toNat := Nat.gcd_dvd_left _ _
  have h := Int.natCast_dvd_natCast.2 h1
  have r := absC_range a
  rw [Int.toNat_of_nonneg r.1] at h
  unfold absC at h
  rw [ca] at h
  split at h
  · exact (Int.dvd_neg).1 h
  · exact h
 have g0 : (0 : Int) < (gcdN a b : Int) := by omega
 rw [el]
 obtain ⟨x, hx⟩ := ga
 obtain ⟨y, hy⟩ := gb
 dsimp only
 generalize (gcdN a b : Int) = g at *
 have e1 : Int.tdiv a g = x := by rw [hx]; exact Int.mul_tdiv_cancel_left _ (by omega)
 have e2 : b / g = y := by rw [hy]; exact Int.mul_ediv_cancel_left _ (by omega)
 rw [e1, e2]
 refine ⟨by rw [hx, hy, Int.mul_assoc, Int.mul_assoc, Int.mul_comm y x], fun h => ?_, fun h => ?_⟩
 · by_cases q : 0 < x
   · exact q
   · have := Int.mul_nonneg (Int.le_of_lt g0) (show 0 ≤ -x by omega)
     rw [Int.mul_neg] at this
     omega
 · by_cases q : x < 0
   · exact q
   · have := Int.mul_nonneg (Int.le_of_lt g0) (show 0 ≤ x by omega)
     omega
def SetsTo (s : Int × Int × Int × Int) (width : Int) (v : api_Fit) : Prop := 1 ≤ v.2.1 ∧ (s.2.2.2 ≤ 0 → v.2.2.2.2 = false → v.2.2.1 < 10000 → s.1 * v.2.1 + (if v.1 < 0 then s.2.2.1 else s.2.1) * v.1 = width * v.2.1)
theorem set_to (s : Int × Int × Int × Int) (width : Int) (hw : 0 ≤ s.1 ∧ s.1 ≤ 36028797018963968) (hm : 0 ≤ s.2.1 ∧ s.2.1 ≤ 36028797018963968) (hs : 0 ≤ s.2.2.1 ∧ s.2.2.1 ≤ 36028797018963968) (hx : -1099511627776 ≤ width ∧ width ≤ 1099511627776) :
 ∃ v : api_Fit, Ev (fun k => regletref08_Set.f k s width) v ∧ SetsTo s width v := by
 obtain ⟨w, m, s, f⟩ := s
 dsimp only at *
 unfold SetsTo
 have e : wrap64 (width - w) = width - w := w64 (by omega) (by omega)
 have e' : wrap64 (-(width - w)) = w - width := by rw [w64 (by omega) (by omega)]; omega
 unfold regletref08_Set.f
 dsimp only
 rw [e]
 by_cases h0 : width - w = 0
 · refine ⟨(0, 1, 0, 1, false), Ev.dp h0 (Ev.now _), by decide, fun _ _ _ => ?_⟩
   simp; omega
 · by_cases h1 : 0 < width - w
   · by_cases h2 : 0 < f
     · exact ⟨(0, 1, 0, 1, false), Ev.dn h0 (Ev.dp h1 (Ev.dp h2 (Ev.now _))), by decide, fun z => by omega⟩
     · have ct : clamp (width - w) = width - w := clamp_id (by omega) (by omega)
       have cm : clamp m = m := clamp_id (by omega) (by omega)
       have B' := ref_Bad_ev (width - w) m
       rw [ct, cm] at B'
       refine ⟨((lowM (width - w) m).1, (lowM (width - w) m).2, bad (width - w) m, (if bad (width - w) m ≤ 12 then 1 else if true = true then if 99 < bad (width - w) m then 3 else 2 else 0), false), ?_, ?_, fun _ _ z => ?_⟩
       · refine Ev.dn h0 (Ev.dp h1 (Ev.dn h2 (Ev.st (fun k => by rw [regletref08_Set.j0]) (Ev.dp h1 ?_))))
         refine Ev.bind B' (Ev.bind (ref_Lowest_ev _ _) (Ev.bind (class_ev _ true) ?_))
         exact Ev.now _
       · have := low_pos (width - w) m
         show 1 ≤ (lowM (width - w) m).2
         omega
       · have z : bad (width - w) m < 10000 := z
         have m0 : 0 < m := by
          by_cases q : 0 < m
          · exact q
          · unfold bad at z
            rw [if_neg (by omega), if_pos (by omega)] at z
            omega
         obtain ⟨q1, q2, _⟩ := low_eq (a := width - w) (b := m) (by omega) (by omega)
         have q2 := q2 h1
         show w * (lowM (width - w) m).2 + (if (lowM (width - w) m).1 < 0 then s else m) * (lowM (width - w) m).1 = width * (lowM (width - w) m).2
         rw [if_neg (by omega), q1, ← Int.add_mul]
         congr 1
         omega
   · have ct : clamp (w - width) = w - width := clamp_id (by omega) (by omega)
     have cm : clamp s = s := clamp_id (by omega) (by omega)
     have B' := ref_Bad_ev (w - width) s
     rw [ct, cm] at B'
     have go : ∀ v : api_Fit, Ev (fun k => regletref08_Set.j0 k (width - w) (w, m, s, f) (0, 0, 0, 0, false)) v → Ev (fun k => if (decide (width - w = 0)) = true then (some (0, 1, 0, 1, false)) else (if (decide (0 < width - w)) = true then (if (decide (0 < f)) = true then (some (0, 1, 0, 1, false)) else (regletref08_Set.j0 k (width - w) (w, m, s, f) (0, 0, 0, 0, false))) else (regletref08_Set.j0 k (width - w) (w, m, s, f) (0, 0, 0, 0, false)))) v := fun v h => Ev.dn h0 (Ev.dn h1 h)
     by_cases h3 : s < w - width
     · refine ⟨((if 0 < s then -1 else 0), 1, 10000, 0, true), go _ (Ev.st (fun k => by rw [regletref08_Set.j0]) (Ev.dn h1 ?_)), Int.le_refl 1, fun _ z => by cases z⟩
       rw [e']
       clear e e'
       refine Ev.bind B' (Ev.bind (ref_Lowest_ev _ _) (Ev.bind (class_ev _ false) (Ev.dp h3 ?_)))
       exact Ev.dc (fun h4 => Ev.some_ (by rw [if_pos h4])) (fun h4 => Ev.some_ (by rw [if_neg h4]))
     · refine ⟨((lowM (width - w) s).1, (lowM (width - w) s).2, bad (w - width) s, (if bad (w - width) s ≤ 12 then 1 else if false = true then if 99 < bad (w - width) s then 3 else 2 else 0), false), go _ (Ev.st (fun k => by rw [regletref08_Set.j0]) (Ev.dn h1 ?_)), ?_, fun _ _ _ => ?_⟩
       · rw [e']
         refine Ev.bind B' (Ev.bind (ref_Lowest_ev _ _) (Ev.bind (class_ev _ false) ?_))
         exact Ev.dn h3 (Ev.now _)
       · have := low_pos (width - w) s
         show 1 ≤ (lowM (width - w) s).2
         omega
       · obtain ⟨q1, _, q2⟩ := low_eq (a := width - w) (b := s) (by omega) (by omega)
         have q2 := q2 (by omega)
         show w * (lowM (width - w) s).2 + (if (lowM (width - w) s).1 < 0 then s else m) * (lowM (width - w) s).1 = width * (lowM (width - w) s).2
         rw [if_pos q2, q1, ← Int.add_mul]
         congr 1
         omega
theorem fit_to {X : List api_Item} {p : measure_Para} (hp : Par X p) (hg : Good X) (a b w : Int) (hx : -1099511627776 ≤ w ∧ w ≤ 1099511627776) : SetsTo (lnV X a b) w (fitV X a b w) := by
 have B := bsV_ok hg a b
 have L := lnV_bs hg a b
 obtain ⟨v, r, q⟩ := set_to (lnV X a b) w (by omega) (by omega) (by omega) hx
 have E : Ev (fun k => regletref08_Fit.f k X a b w) v := Ev.bind (refWhole_ev hg a b) (Ev.bind r (Ev.now _))
 rw [(fitV_ok hp hg a b w hx).2.1.uniq E]
 exact q
end Go.Proofs.YtjbobaeggdafpaaGreat.Vm
