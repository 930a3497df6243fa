/- How a line of a paragraph is set: the program's answer is the reference's; and what must hold of it. -/
import Derived.Test.YtjbobaeggdafpaaGreatIc
import Derived.Test.YtjbobaeggdafpaaGreatSg
namespace Go.Proofs.YtjbobaeggdafpaaGreat.Vm
open Go
open _root_.Go.RowKit (wrap64)
open Go.Proofs.YtjbobaeggdafpaaGreat.BadM (clamp clamp_le clamp_ge clamp_id clamp_clamp bad bad_range bad_five)
theorem class_ev (a : Int) (b : Bool) : Ev (fun k => regletref08_class.f k a b) (if a ≤ 12 then 1 else if b = true then if 99 < a then 3 else 2 else 0) := by
 refine Ev.dc (fun h => Ev.some_ (if_pos h).symm) (fun h => ?_)
 rw [if_neg h]
 cases b with
 | false => exact Ev.bp rfl (Ev.now _)
 | true => exact Ev.bn rfl (Ev.dc (fun h => Ev.some_ (by rw [if_pos rfl, if_pos h])) (fun h => Ev.some_ (by rw [if_pos rfl, if_neg h])))
theorem lowM_zero (a : Int) : lowM a 0 = (0, 1) := by
 unfold lowM; exact if_pos (by unfold clamp; omega)
theorem set_both (s : (Int × Int × Int × Int)) (width : Int) (hw : 0 ≤ s.1 ∧ s.1 ≤ 36028797018963968) (hm : 0 ≤ s.2.1 ∧ s.2.1 ≤ 36028797018963968) (hs : 0 ≤ s.2.2.1 ∧ s.2.2.1 ≤ 36028797018963968) (hx : -1099511627776 ≤ width ∧ width ≤ 1099511627776) :
 ∃ v : api_Fit, Ev (fun k => measure_Set.f k s width) v ∧ Ev (fun k => regletref08_Set.f k s width) v ∧ (s.1 - s.2.2.1 > width → v.2.2.2.2 = true) ∧ (s.2.2.2 ≤ 0 → width - s.1 > 5 * s.2.1 → v.2.2.1 = 10000) ∧ 0 ≤ v.2.2.2.1 ∧ v.2.2.2.1 ≤ 3 := by
 obtain ⟨w, m, s, f⟩ := s
 dsimp only at *
 have e : wrap64 (width - w) = width - w := w64 (by omega) (by omega)
 have e' : wrap64 (-(width - w)) = w - width := by rw [w64 (by omega) (by omega)]; omega
 unfold measure_Set.f regletref08_Set.f
 dsimp only
 rw [e, e']
 clear e e'
 by_cases h0 : width - w = 0
 · exact ⟨(0, 1, 0, 1, false), Ev.dp h0 (Ev.now _), Ev.dp h0 (Ev.now _), fun z => by omega, fun z y => by omega, by decide, by decide⟩
 · by_cases h1 : 0 < width - w
   · by_cases h2 : 0 < f
     · exact ⟨(0, 1, 0, 1, false), Ev.dn h0 (Ev.dp h1 (Ev.dp h2 (Ev.now _))), Ev.dn h0 (Ev.dp h1 (Ev.dp h2 (Ev.now _))), fun z => by omega, fun z y => by omega, by decide, by decide⟩
     · have b := bad_range (width - w) m
       have ct : clamp (width - w) = width - w := clamp_id (by omega) (by omega)
       have cm : clamp m = m := clamp_id (by omega) (by omega)
       have B := scaled_Bad_ev (width - w) m
       have B' := ref_Bad_ev (width - w) m
       rw [ct, cm] at B B'
       have ref : Ev (fun k => regletref08_Set.j0 k (width - w) (w, m, s, f) (0, 0, 0, 0, false))
        ((lowM (width - w) m).1, (lowM (width - w) m).2, bad (width - w) m, (if bad (width - w) m ≤ 12 then 1 else if 99 < bad (width - w) m then 3 else 2), false) := by
        refine Ev.st (fun k => by rw [regletref08_Set.j0]) (Ev.dp h1 (Ev.bind B' (Ev.bind (ref_Lowest_ev _ _) (Ev.bind (class_ev _ true) ?_))))
        rw [if_pos (rfl : true = true)]
        exact Ev.now _
       refine ⟨_, ?_, Ev.dn h0 (Ev.dp h1 (Ev.dn h2 ref)), fun z => absurd z (by omega), fun z y => ?_, by dsimp only; repeat' split <;> omega, by dsimp only; repeat' split <;> omega⟩
       · refine Ev.dn h0 (Ev.dp h1 (Ev.dn h2 (Ev.dp h1 ?_)))
         by_cases hm0 : m = 0
         · subst hm0
           have e1 : bad (width - w) 0 = 10000 := by unfold bad; rw [if_neg (by omega), if_pos (Int.le_refl _)]
           rw [lowM_zero, e1]
           exact Ev.dp rfl (Ev.now _)
         · refine Ev.dn hm0 (Ev.dp h1 (Ev.bind B (Ev.st (fun k => by rw [measure_Set.j0]) (Ev.bind (scaled_Lowest_ev _ _) ?_))))
           have j3 : ∀ c : Int, Ev (fun k => measure_Set.j3 k (0, 0, 0, 0, false) ((lowM (width - w) m).1, (lowM (width - w) m).2, bad (width - w) m, c, false)) ((lowM (width - w) m).1, (lowM (width - w) m).2, bad (width - w) m, (if 99 < bad (width - w) m then 3 else c), false) := fun c =>
            Ev.st (fun k => by rw [measure_Set.j3]) (Ev.dc (fun h => Ev.some_ (by rw [if_pos h])) (fun h => Ev.some_ (by rw [if_neg h])))
           refine Ev.dc (fun h3 => Ev.lift (j3 2) ?_) (fun h3 => Ev.lift (j3 1) ?_)
           · replace h3 : 12 < bad (width - w) m := h3
             rw [if_neg (show ¬ bad (width - w) m ≤ 12 by omega)]
           · replace h3 : ¬ 12 < bad (width - w) m := h3
             rw [if_pos (show bad (width - w) m ≤ 12 by omega), if_neg (by omega)]
       · show bad (width - w) m = 10000
         by_cases hm0 : m = 0
         · subst hm0; unfold bad; rw [if_neg (by omega), if_pos (Int.le_refl _)]
         · exact bad_five (by omega) (by omega)
   · have b := bad_range (w - width) s
     have ct : clamp (w - width) = w - width := clamp_id (by omega) (by omega)
     have cm : clamp s = s := clamp_id (by omega) (by omega)
     have B := scaled_Bad_ev (w - width) s
     have B' := ref_Bad_ev (w - width) s
     rw [ct, cm] at B B'
     have e' : wrap64 (-(width - w)) = w - width := by rw [w64 (by omega) (by omega)]; omega
     refine ⟨if s < w - width then ((if 0 < s then -1 else 0), 1, 10000, 0, true) else ((lowM (width - w) s).1, (lowM (width - w) s).2, bad (w - width) s, (if bad (w - width) s ≤ 12 then 1 else 0), false), ?_, ?_, fun z => by rw [if_pos (by omega)], fun z y => absurd y (by omega), by split <;> (dsimp only; first | omega | (split <;> omega)), by split <;> (dsimp only; first | omega | (split <;> omega))⟩
     · refine Ev.dn h0 (Ev.dn h1 (Ev.dn h1 (Ev.dn h1 ?_)))
       refine Ev.dc (fun h3 => Ev.st (fun k => by rw [measure_Set.j1]) ?_) (fun h3 => Ev.st (fun k => by rw [measure_Set.j2]) ?_)
       · rw [if_pos h3]
         exact Ev.dc (fun h4 => Ev.some_ (by rw [if_pos h4])) (fun h4 => Ev.some_ (by rw [if_neg h4]))
       · rw [if_neg h3, e']
         exact Ev.bind B (Ev.bind (scaled_Lowest_ev _ _) (Ev.dc (fun h4 => Ev.some_ (by rw [if_neg (by omega)])) (fun h4 => Ev.some_ (by rw [if_pos (by omega)]))))
     · refine Ev.dn h0 (Ev.dn h1 (Ev.st (fun k => by rw [regletref08_Set.j0]) (Ev.dn h1 ?_)))
       rw [e']
       clear e'
       refine Ev.bind B' (Ev.bind (ref_Lowest_ev _ _) (Ev.bind (class_ev _ false) (Ev.dc (fun h3 => ?_) (fun h3 => ?_))))
       · rw [if_pos h3]
         exact Ev.dc (fun h4 => Ev.some_ (by rw [if_pos h4])) (fun h4 => Ev.some_ (by rw [if_neg h4]))
       · rw [if_neg h3]
         exact Ev.some_ (by simp)
theorem lnV_bs {l : List api_Item} (hg : Good l) (a b : Int) : (bsV l a b).1.1 ≤ (lnV l a b).1 ∧ (lnV l a b).1 ≤ (bsV l a b).1.1 + pmx l l.length ∧ (lnV l a b).1 ≤ (bsV l a b).1.1 + 68719476736 ∧ (lnV l a b).2.1 = (bsV l a b).1.2.1 ∧ (lnV l a b).2.2.1 = (bsV l a b).1.2.2.1 ∧ (lnV l a b).2.2.2 = (bsV l a b).1.2.2.2 := by
 have s := pmx_ok hg.ok l.length (Nat.le_refl _)
 by_cases h : b < 0 ∨ b ≥ (l.length : Int)
 · rw [lnV_out h, bsV_out h]; exact ⟨Int.le_refl _, by show (0 : Int) ≤ 0 + _; omega, by decide, rfl, rfl, rfl⟩
 · rw [lnV_in h, bsV_in h]
   have p := pen_ok hg.ok (b := b) (by omega) (by omega)
   have q := s.2.2 b.toNat (by omega)
   rw [Int.toNat_of_nonneg (by omega)] at q
   exact ⟨by show dif wdt l a b ≤ dif wdt l a b + pen l b; omega, by show dif wdt l a b + pen l b ≤ dif wdt l a b + _; omega, by show dif wdt l a b + pen l b ≤ dif wdt l a b + _; omega, rfl, rfl, rfl⟩
theorem Fit_both {l : List api_Item} {p : measure_Para} (hp : Par l p) (hg : Good l) (a b width : Int) (hx : -1099511627776 ≤ width ∧ width ≤ 1099511627776) :
 ∃ v : api_Fit, Ev (fun k => measure_Para_Fit.f k p a b width) v ∧ Ev (fun k => regletref08_Fit.f k l a b width) v ∧
  ((bdV l a b).1 > width → v.2.2.2.2 = true) ∧ ((bdV l a b).2.1 < width → (bdV l a b).2.2 = false → v.2.2.1 = 10000) ∧ 0 ≤ v.2.2.2.1 ∧ v.2.2.2.1 ≤ 3 := by
 have B := bsV_ok hg a b
 have L := lnV_bs hg a b
 obtain ⟨v, m, r, pv, q, cl⟩ := set_both (lnV l a b) width (by omega) (by omega) (by omega) hx
 refine ⟨v, ?_, ?_, fun h => pv ?_, fun h z => q ?_ ?_, cl⟩
 · exact Ev.bind (Line_ev hp hg a b) (Ev.bind m (Ev.now _))
 · exact Ev.bind (refWhole_ev hg a b) (Ev.bind r (Ev.now _))
 · have h : (bsV l a b).1.1 - (bsV l a b).1.2.2.1 > width := h
   omega
 · have z := of_decide_eq_false (show decide (0 < (bsV l a b).1.2.2.2) = false from z)
   omega
 · have h : (bsV l a b).1.1 + 5 * (bsV l a b).1.2.1 + pmx l l.length < width := h
   omega
theorem dif_next (l : List api_Item) (a : Int) (i : Nat) (h : i + 1 < l.length) : (∀ g : api_Item → Int, dif g l a ((i + 1 : Nat) : Int) = dif g l a (i : Int) + g (rd l (i : Int))) ∨ ∀ g : api_Item → Int, dif g l a ((i + 1 : Nat) : Int) = 0 ∧ dif g l a (i : Int) = 0 := by
 by_cases q : stB l a ≤ (i : Int)
 · left; intro g
   have e1 : mn (stB l a) ((i + 1 : Nat) : Int) = stB l a := by unfold mn; split <;> omega
   have e2 : mn (stB l a) (i : Int) = stB l a := by unfold mn; split <;> omega
   unfold dif
   rw [e1, e2, Int.toNat_natCast, Int.toNat_natCast, sm_succ g l (by omega)]
   omega
 · right; intro g
   have e1 : mn (stB l a) ((i + 1 : Nat) : Int) = ((i + 1 : Nat) : Int) := by unfold mn; split <;> omega
   have e2 : mn (stB l a) (i : Int) = (i : Int) := by unfold mn; split <;> omega
   unfold dif
   rw [e1, e2]; omega
theorem bdV_next {l : List api_Item} (hg : Good l) (a : Int) (i : Nat) (h : i + 1 < l.length) : (bdV l a (i : Int)).1 ≤ (bdV l a ((i + 1 : Nat) : Int)).1 ∧ (bdV l a (i : Int)).2.1 ≤ (bdV l a ((i + 1 : Nat) : Int)).2.1 ∧ ((bdV l a (i : Int)).2.2 = true → (bdV l a ((i + 1 : Nat) : Int)).2.2 = true) := by
 have hx := hg.ok _ (rd_in l (i := i) (by omega))
 have e1 : bsV l a (i : Int) = ((dif wdt l a (i : Int), dif str l a (i : Int), dif shr l a (i : Int), dif fil l a (i : Int)), true) := bsV_in (by omega)
 have e2 : bsV l a ((i + 1 : Nat) : Int) = ((dif wdt l a ((i + 1 : Nat) : Int), dif str l a ((i + 1 : Nat) : Int), dif shr l a ((i + 1 : Nat) : Int), dif fil l a ((i + 1 : Nat) : Int)), true) := bsV_in (by omega)
 have w := wdt_ok hx
 have s := str_ok hx
 have r := shr_ok hx
 have f := fil_ok (rd l (i : Int))
 have wr : shr (rd l (i : Int)) ≤ wdt (rd l (i : Int)) := by
  have := hx.2.2.2.1
  unfold shr wdt; split <;> omega
 unfold bdV
 rw [e1, e2]
 dsimp only
 rw [decide_eq_true_eq, decide_eq_true_eq]
 rcases dif_next l a i h with q | q
 · have q1 := q wdt
   have q2 := q str
   have q3 := q shr
   have q4 := q fil
   exact ⟨by omega, by omega, fun z => by omega⟩
 · have q1 := q wdt
   have q2 := q str
   have q3 := q shr
   have q4 := q fil
   exact ⟨by omega, by omega, fun z => by omega⟩
end Go.Proofs.YtjbobaeggdafpaaGreat.Vm
