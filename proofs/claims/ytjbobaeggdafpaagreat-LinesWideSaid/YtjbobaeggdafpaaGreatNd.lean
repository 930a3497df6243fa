/- The search: what its small functions come to. -/
import Derived.Test.YtjbobaeggdafpaaGreatNc
namespace Go.Proofs.YtjbobaeggdafpaaGreat.Vm
open Go
open _root_.Go.RowKit (wrap64)
abbrev Four := Int × Int × Int × Int
abbrev Srch := measure_Para × Int × Int × Int × Int × Int × Int × Int × Int × Bool × List Four × List Int
def srch (p : measure_Para) (w : Int) (s : api_Settings) (b : Bool) (t : List Four) (x : List Int) : Srch := (p, w, s.1, s.2.1, s.2.2.1, s.2.2.2.1, s.2.2.2.2.1, s.2.2.2.2.2.1, s.2.2.2.2.2.2, b, t, x)
section
variable {l : List api_Item} {p : measure_Para} {w : Int} {s : api_Settings}
theorem Sit.p1 (h : Sit l p w s) : p.1 = l := by obtain ⟨_, _, rfl⟩ := h.par; rfl
theorem Sit.p8 (h : Sit l p w s) : p.2.2.2.2.2.2.2 = ends l := by obtain ⟨_, _, rfl⟩ := h.par; rfl
theorem Sit.Ends (h : Sit l p w s) : Ev (fun k => measure_Para_Ends.f k p) ((ends l).length : Int) := Ev.some_ (by rw [h.p8])
theorem Sit.End (h : Sit l p w s) (j : Nat) (hj : j < (ends l).length) : Ev (fun k => measure_Para_End.f k p (j : Int)) (endV l j) := by
 refine Ev.dn (by omega) (Ev.dn ?_ (Ev.st (fun k => by rw [measure_Para_End.j0]) ?_))
 · rw [h.p8]; omega
 · rw [h.p8]; exact Ev.at_ (by omega) (by omega) (Ev.now _)
theorem Sit.Pos (h : Sit l p w s) (a : Nat) (ha : a ≤ (ends l).length) : Ev (fun k => measure_Para_End.f k p ((a : Int) - 1)) (posV l a) := by
 cases a with
 | zero => exact Ev.dp (by omega) (Ev.now _)
 | succ a =>
  have := h.End a (by omega)
  rwa [show ((a + 1 : Nat) : Int) - 1 = (a : Int) by omega]
theorem Sit.Item (h : Sit l p w s) (j : Nat) (hj : j < (ends l).length) : Ev (fun k => measure_Para_Item.f k p (endV l j)) (rd l (endV l j)) := by
 have := endV_mem l hj
 have e := Item_ev h.p1 (endV l j)
 rwa [if_neg (by omega)] at e
theorem Sit.Fit (h : Sit l p w s) (a j : Nat) : Ev (fun k => measure_Para_Fit.f k p (posV l a) (endV l j) w) (fitV l (posV l a) (endV l j) w) := (h.fit _ _).1
def NextF (N : Net) (a m : Nat) : Prop := a ≤ m ∧ m < N.n ∧ N.fo m = true ∧ ∀ i, a ≤ i → i < m → N.fo i = false
def Nxt (N : Net) (x : List Int) : Prop := x.length = N.n + 1 ∧ ∀ a, a < N.n → ∃ m : Nat, rd x (a : Int) = m ∧ NextF N a m
theorem NextF.no {N : Net} {a m : Nat} (h : NextF N a m) {j : Nat} (hj : m < j) : ¬ N.ok a j := fun q => by
 have := q.2.2.2 m h.1 hj
 rw [h.2.2.1] at this; cases this
theorem forced_l0 (h : Sit l p w s) (b : Bool) (t : List Four) : ∀ (m : Nat) (x : List Int) (q : Nat), m ≤ (ends l).length → x.length = (ends l).length + 1 →
 (m < (ends l).length → NextF (netOf l w s b) m q) → (m = (ends l).length → q = (ends l).length - 1) → (∀ a, m < a → a < (ends l).length → ∃ r : Nat, rd x (a : Int) = r ∧ NextF (netOf l w s b) a r) →
 ∃ x', Nxt (netOf l w s b) x' ∧ Ev (fun k => breaks_search_forced.l0 k (q : Int) ((m : Int) - 1) (srch p w s b t x)) (srch p w s b t x')
 | 0, x, q, _, hx, hq, _, hn => by
  have n0 := h.n_pos
  refine ⟨x.set 0 (q : Int), ⟨by rw [List.length_set]; exact hx, fun a ha => ?_⟩, ?_⟩
  · by_cases e : a = 0
    · subst e
      exact ⟨q, rd_set_eq (by omega) _, hq n0⟩
    · rw [rd_set_ne (by omega)]
      exact hn a (by omega) ha
  · refine Ev.st (fun k => by rw [breaks_search_forced.l0]) (Ev.dn (by omega) ?_)
    exact Ev.gx (xs := x) (by omega) (by omega) (Ev.now _)
 | m + 1, x, q, hm, hx, hq, he, hn => by
  have nl := h.n_le
  have em : ((m + 1 : Nat) : Int) - 1 = (m : Int) := by omega
  rw [em]
  have j1 : ∀ q' : Nat, NextF (netOf l w s b) m q' → ∃ x', Nxt (netOf l w s b) x' ∧ Ev (fun k => breaks_search_forced.j1 k (q' : Int) (m : Int) (srch p w s b t (x.set (m + 1) (q : Int)))) (srch p w s b t x') := by
   intro q' hq'
   obtain ⟨x', a, e⟩ := forced_l0 h b t m (x.set (m + 1) (q : Int)) q' (by omega) (by rw [List.length_set]; exact hx) (fun _ => hq') (fun z => absurd z (by omega)) (fun a h1 h2 => by
    by_cases e : a = m + 1
    · subst e
      exact ⟨q, rd_set_eq (by omega) _, hq h2⟩
    · rw [rd_set_ne (by omega)]
      exact hn a (by omega) h2)
   refine ⟨x', a, Ev.st (fun k => by rw [breaks_search_forced.j1]) ?_⟩
   rw [w64 (x := (m : Int) - 1) (by omega) (by omega)]
   exact e
  have q0 : (netOf l w s b).fo m = false → NextF (netOf l w s b) m q := fun z => by
   by_cases e : m + 1 = (ends l).length
   · have := h.fo_last b
     rw [show (ends l).length - 1 = m by omega, z] at this; cases this
   · obtain ⟨a1, a2, a3, a4⟩ := hq (by omega)
     refine ⟨by omega, a2, a3, fun i h1 h2 => ?_⟩
     by_cases e : i = m
     · rw [e]; exact z
     · exact a4 i (by omega) h2
  have pre : ∀ x', Ev (fun k => if (decide (Fc (rd l (endV l m)))) = true then (breaks_search_forced.j1 k (m : Int) (m : Int) (srch p w s b t (x.set (m + 1) (q : Int)))) else (breaks_search_forced.j1 k (q : Int) (m : Int) (srch p w s b t (x.set (m + 1) (q : Int))))) (srch p w s b t x') → Ev (fun k => breaks_search_forced.l0 k (q : Int) (m : Int) (srch p w s b t x)) (srch p w s b t x') := by
   intro x' hv
   refine Ev.st (fun k => by rw [breaks_search_forced.l0]) (Ev.dp (by omega) ?_)
   rw [nx m (by omega)]
   refine Ev.gx (xs := x) (by omega) (by omega) ?_
   refine Ev.bind (h.End m (by omega)) (Ev.bind (h.Item m (by omega)) (Ev.bind (fcd_ev _) ?_))
   rw [Int.toNat_natCast]
   exact hv
  by_cases f : (netOf l w s b).fo m = true
  · obtain ⟨x', a, e⟩ := j1 m ⟨Nat.le_refl _, by show m < (ends l).length; omega, f, fun i h1 h2 => by omega⟩
    exact ⟨x', a, pre x' (Ev.bp f e)⟩
  · have f := Bool.eq_false_iff.2 f
    obtain ⟨x', a, e⟩ := j1 q (q0 f)
    exact ⟨x', a, pre x' (Ev.bn f e)⟩
theorem forced_ev (h : Sit l p w s) (b : Bool) (t : List Four) (x : List Int) : ∃ x', Nxt (netOf l w s b) x' ∧ Ev (fun k => breaks_search_forced.f k (srch p w s b t x)) (srch p w s b t x') := by
 have nl := h.n_le
 have n0 := h.n_pos
 obtain ⟨x', a, e⟩ := forced_l0 h b t (ends l).length ((List.replicate ((ends l).length + 1) 0).set (ends l).length (((ends l).length - 1 : Nat) : Int)) ((ends l).length - 1) (Nat.le_refl _) (by simp) (fun z => by omega) (fun _ => rfl) (fun a h1 h2 => by omega)
 refine ⟨x', a, Ev.bind h.Ends ?_⟩
 rw [nx (ends l).length (by omega)]
 refine Ev.ifp ⟨rfl, by omega, by omega⟩ ?_
 rw [Int.toNat_natCast, Int.toNat_natCast, w64 (x := ((ends l).length : Int) - 1) (by omega) (by omega)]
 refine Ev.ifp (by rw [List.length_replicate]; omega) ?_
 refine Ev.bind (Ev.opt (show (List.replicate ((ends l).length + 1) (0 : Int))[(ends l).length]? = some 0 by rw [List.getElem?_replicate, if_pos (by omega)])) ?_
 rw [show (((ends l).length - 1 : Nat) : Int) = ((ends l).length : Int) - 1 by omega] at e
 exact e
theorem Nxt.same {b b' : Bool} {x : List Int} (h : Nxt (netOf l w s b) x) : Nxt (netOf l w s b') x := h
theorem may_ev (b : Bool) (t : List Four) (x : List Int) (f : api_Fit) (q : Bool) : Ev (fun k => breaks_search_may.f k (srch p w s b t x) f q) (if b = true then (!f.2.2.2.2 || q) else (!f.2.2.2.2 && decide (f.2.2.1 ≤ s.1))) := by
 cases b with
 | true =>
  refine Ev.bn rfl (Ev.bc (fun z => Ev.some_ ?_) (fun z => Ev.some_ ?_))
  · rw [z]; simp
  · rw [z]; simp
 | false =>
  refine Ev.bp rfl (Ev.nc (fun z => Ev.some_ ?_) (fun z => Ev.some_ ?_))
  · rw [z]; rfl
  · rw [z]; rfl
theorem line_ev (h : Sit l p w s) (b : Bool) (t : List Four) (x : List Int) (a j : Nat) (haj : a ≤ j) (hj : j < (ends l).length) :
 Ev (fun k => breaks_search_line.f k (srch p w s b t x) ((a : Int) - 1) (j : Int)) (fitV l (posV l a) (endV l j) w, (netOf l w s b).D a j) := by
 have nl := h.n_le
 refine Ev.bind (h.Pos a (by omega)) (Ev.bind (h.End j hj) (Ev.bind (h.Fit a j) (Ev.bind (may_ev b t x _ _) (Ev.some_ ?_))))
 rw [w64 (x := (a : Int) - 1 + 1) (by omega) (by omega), show ((a : Int) - 1 + 1) = (a : Int) by omega]
 have : decide ((j : Int) = (a : Int)) = decide (j = a) := by rw [decide_eq_decide]; omega
 rw [this]
 rfl
theorem cost_ev (h : Sit l p w s) (b : Bool) (t : List Four) (x : List Int) (a j : Nat) (haj : a ≤ j) (hj : j < (ends l).length) (c : Int) (c0 : 0 ≤ c) (c1 : c ≤ 3) :
 Ev (fun k => breaks_search_cost.f k (srch p w s b t x) ((a : Int) - 1) (j : Int) (fitV l (posV l a) (endV l j) w) c) ((netOf l w s b).C a j c) := by
 have nl := h.n_le
 have C := (h.cost b a j c c0 c1).1
 have go : ∀ q : Int × Bool, q = ((if a = 0 then -1 else c), (if a = 0 then false else (rd l (posV l a)).2.2.2.2.2.2.1)) → Ev (fun k => breaks_search_cost.j0 k (srch p w s b t x) (j : Int) (fitV l (posV l a) (endV l j) w) q) ((netOf l w s b).C a j c) := by
  rintro _ rfl
  refine Ev.st (fun k => by rw [breaks_search_cost.j0]) ?_
  refine Ev.bind (h.End j hj) ?_
  refine Ev.bind (h.Item j hj) ?_
  refine Ev.bind h.Ends ?_
  rw [w64 (x := ((ends l).length : Int) - 1) (by omega) (by omega)]
  have : decide ((j : Int) = ((ends l).length : Int) - 1) = decide (j + 1 = (ends l).length) := by rw [decide_eq_decide]; omega
  rw [this]
  exact Ev.bind C (Ev.now _)
 cases a with
 | zero => exact Ev.dn (by omega) (go _ rfl)
 | succ a =>
  refine Ev.dp (by omega) (Ev.bind (h.Pos (a + 1) (by omega)) (Ev.bind (h.Item a (by omega)) (go _ ?_)))
  rw [if_neg (by omega), if_neg (by omega)]
  rfl
theorem bdV_mono (hg : Good l) (a : Int) : ∀ (d i : Nat), i + d < l.length → (bdV l a (i : Int)).1 ≤ (bdV l a ((i + d : Nat) : Int)).1 ∧ (bdV l a (i : Int)).2.1 ≤ (bdV l a ((i + d : Nat) : Int)).2.1 ∧ ((bdV l a (i : Int)).2.2 = true → (bdV l a ((i + d : Nat) : Int)).2.2 = true)
 | 0, i, _ => ⟨Int.le_refl _, Int.le_refl _, fun h => h⟩
 | d + 1, i, h => by
  have x := bdV_mono hg a d i (by omega)
  have y := bdV_next hg a (i + d) (by omega)
  exact ⟨Int.le_trans x.1 y.1, Int.le_trans x.2.1 y.2.1, fun z => y.2.2 (x.2.2 z)⟩
theorem bdV_ends (hg : Good l) (a : Int) {i j : Nat} (h : i ≤ j) (hj : j < (ends l).length) : (bdV l a (endV l i)).1 ≤ (bdV l a (endV l j)).1 ∧ (bdV l a (endV l i)).2.1 ≤ (bdV l a (endV l j)).2.1 ∧ ((bdV l a (endV l i)).2.2 = true → (bdV l a (endV l j)).2.2 = true) := by
 have x := endV_mem l (j := i) (by omega)
 have y := endV_mem l hj
 have z : endV l i ≤ endV l j := by
  by_cases e : i = j
  · rw [e]; exact Int.le_refl _
  · exact Int.le_of_lt (endV_lt l (by omega) hj)
 have := bdV_mono hg a ((endV l j).toNat - (endV l i).toNat) (endV l i).toNat (by omega)
 rwa [show ((endV l i).toNat : Int) = endV l i by omega, show (((endV l i).toNat + ((endV l j).toNat - (endV l i).toNat) : Nat) : Int) = endV l j by omega] at this
theorem midw (lo hi : Nat) (h : lo + hi < 1000000000) : wrap64 ((wrap64 ((lo : Int) + (hi : Int))).tdiv 2) = (((lo + hi) / 2 : Nat) : Int) := by
 rw [nx2 lo hi (by omega), Int.tdiv_eq_ediv_of_nonneg (by omega), w64 (by omega) (by omega)]; omega
theorem first_l1 (h : Sit l p w s) (t : List Four) (x : List Int) (ht : s.1 < 10000) (a m : Nat) (hm : m < (ends l).length) : ∀ g lo hi : Nat, hi - lo ≤ g → a ≤ lo → lo ≤ hi → hi ≤ m → (∀ j, a ≤ j → j < lo → ¬ (netOf l w s false).ok a j) →
 ∃ f : Nat, a ≤ f ∧ f ≤ m ∧ (∀ j, a ≤ j → j < f → ¬ (netOf l w s false).ok a j) ∧ Ev (fun k => breaks_search_first.l1 k (srch p w s false t x) (lo : Int) (hi : Int) (posV l a)) (f : Int)
 | 0, lo, hi, hg, h0, h1, h2, hn => ⟨lo, h0, by omega, hn, Ev.st (fun k => by rw [breaks_search_first.l1]) (Ev.dn (by omega) (Ev.now _))⟩
 | g + 1, lo, hi, hg, h0, h1, h2, hn => by
  have nl := h.n_le
  by_cases q : lo < hi
  · obtain ⟨mid, hmid⟩ : ∃ mid : Nat, mid = (lo + hi) / 2 := ⟨_, rfl⟩
    have B := Bounds_ev h.par h.good (posV l a) (endV l mid)
    have pre : ∀ f : Int, Ev (fun k => if (decide ((bdV l (posV l a) (endV l mid)).2.1 < w)) = true then (if (!(bdV l (posV l a) (endV l mid)).2.2) = true then (breaks_search_first.l1 k (srch p w s false t x) ((mid + 1 : Nat) : Int) (hi : Int) (posV l a)) else (breaks_search_first.l1 k (srch p w s false t x) (lo : Int) (mid : Int) (posV l a))) else (breaks_search_first.l1 k (srch p w s false t x) (lo : Int) (mid : Int) (posV l a))) f → Ev (fun k => breaks_search_first.l1 k (srch p w s false t x) (lo : Int) (hi : Int) (posV l a)) f := by
     intro f hf
     refine Ev.st (fun k => by rw [breaks_search_first.l1]) (Ev.dp (by omega) ?_)
     rw [midw lo hi (by omega), ← hmid, nx mid (by omega)]
     exact Ev.bind (h.End _ (by omega)) (Ev.bind B hf)
    have down : ∃ f : Nat, a ≤ f ∧ f ≤ m ∧ (∀ j, a ≤ j → j < f → ¬ (netOf l w s false).ok a j) ∧ Ev (fun k => breaks_search_first.l1 k (srch p w s false t x) (lo : Int) (mid : Int) (posV l a)) (f : Int) :=
     first_l1 h t x ht a m hm g lo mid (by omega) h0 (by omega) (by omega) hn
    by_cases c1 : (bdV l (posV l a) (endV l mid)).2.1 < w
    · cases c2 : (bdV l (posV l a) (endV l mid)).2.2 with
      | false =>
       obtain ⟨f, a1, a2, a3, a4⟩ := first_l1 h t x ht a m hm g (mid + 1) hi (by omega) (by omega) (by omega) h2 (fun j j0 j1 ok => by
        have mo := bdV_ends h.good (posV l a) (i := j) (j := mid) (by omega) (by omega)
        have b := (h.fit (posV l a) (endV l j)).2.2.2.1 (by omega) (Bool.eq_false_iff.2 fun z => by rw [mo.2.2 z] at c2; cases c2)
        have d := ok.2.2.1
        have d' : (!(fitV l (posV l a) (endV l j) w).2.2.2.2 && decide ((fitV l (posV l a) (endV l j) w).2.2.1 ≤ s.1)) = true := d
        rw [b, decide_eq_false (by omega), Bool.and_false] at d'
        cases d')
       exact ⟨f, a1, a2, a3, pre _ (Ev.dp c1 (Ev.bp (by rw [c2]; rfl) a4))⟩
      | true =>
       obtain ⟨f, a1, a2, a3, a4⟩ := down
       exact ⟨f, a1, a2, a3, pre _ (Ev.dp c1 (Ev.bn (by rw [c2]; rfl) a4))⟩
    · obtain ⟨f, a1, a2, a3, a4⟩ := down
      exact ⟨f, a1, a2, a3, pre _ (Ev.dn c1 a4)⟩
  · exact ⟨lo, h0, by omega, hn, Ev.st (fun k => by rw [breaks_search_first.l1]) (Ev.dn (by omega) (Ev.now _))⟩
theorem first_ev (h : Sit l p w s) (b : Bool) (t : List Four) (x : List Int) (a m : Nat) (ham : a ≤ m) (hm : m < (ends l).length) :
 ∃ f : Nat, a ≤ f ∧ f ≤ m ∧ (∀ j, a ≤ j → j < f → ¬ (netOf l w s b).ok a j) ∧ Ev (fun k => breaks_search_first.f k (srch p w s b t x) ((a : Int) - 1) (m : Int)) (f : Int) := by
 have nl := h.n_le
 have e : wrap64 ((a : Int) - 1 + 1) = (a : Int) := by rw [w64 (by omega) (by omega)]; omega
 have plain : Ev (fun _ => some (wrap64 ((a : Int) - 1 + 1))) (a : Int) := Ev.some_ e
 cases b with
 | true => exact ⟨a, Nat.le_refl _, ham, fun j h1 h2 => by omega, Ev.bp rfl plain⟩
 | false =>
  by_cases q : 10000 ≤ s.1
  · exact ⟨a, Nat.le_refl _, ham, fun j h1 h2 => by omega, Ev.bn rfl (Ev.dp q plain)⟩
  · obtain ⟨f, a1, a2, a3, a4⟩ := first_l1 h t x (by omega) a m hm (m - a) a m (Nat.le_refl _) (Nat.le_refl _) ham (Nat.le_refl _) (fun j h1 h2 => by omega)
    refine ⟨f, a1, a2, a3, Ev.bn rfl (Ev.dn q (Ev.st (fun k => by rw [breaks_search_first.j0]) ?_))⟩
    refine Ev.bind (h.Pos a (by omega)) ?_
    rw [e]
    exact a4
end
end Go.Proofs.YtjbobaeggdafpaaGreat.Vm
