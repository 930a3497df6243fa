/- Two tables are the same just if their styles are; what was handed in may be changed behind it. -/
import Derived.Test.YtepeoiimdefnpaaMs
namespace Go.Proofs.Ytepeoiimdefnpaa.Vm
open Go
open _root_.Go.RowKit (wrap64)
theorem alike_ev (x y : Styl) (hx : x.2.2.2.2.2.2.1.length ≤ 64) : Ev (fun k => metrics_alike.f k x y) (isTrue (x = y)) := by
  have no : ¬ x = y → Ev (fun _ => some false) (isTrue (x = y)) := fun h => Ev.some_ (isTrue_no h).symm
  refine Ev.congr (fun k => by rw [metrics_alike.f]) ?_
  refine Ev.xc (fun h => no fun e => h (by rw [e])) fun e1 => ?_
  refine Ev.xc (fun h => no fun e => h (by rw [e])) fun e2 => ?_
  refine Ev.xc (fun h => no fun e => h (by rw [e])) fun e3 => ?_
  refine Ev.xc (fun h => no fun e => h (by rw [e])) fun e4 => ?_
  refine Ev.xc (fun h => no fun e => h (by rw [e])) fun e5 => ?_
  refine Ev.xc (fun h => no fun e => h (by rw [e])) fun e6 => ?_
  refine Ev.xc (fun h => no fun e => h (by rw [e])) fun e7 => ?_
  refine Ev.xc (fun h => no fun e => h (by rw [e])) fun e8 => ?_
  have loop : ∀ d i : Nat, i + d = x.2.2.2.2.2.2.1.length → (∀ j : Nat, j < i → rd x.2.2.2.2.2.2.1 (j : Int) = rd y.2.2.2.2.2.2.1 (j : Int)) → Ev (fun k => metrics_alike.l1 k (x.2.2.2.2.2.2.1.length : Int) (i : Int) x y) (isTrue (x = y)) := by
    intro d
    induction d with
    | zero => exact fun i e hj => Ev.st (fun k => by rw [metrics_alike.l1]) (Ev.dn (by omega) (Ev.some_ (isTrue_yes (sty_eq e1 e2 e3 e4 e5 e6 (eq_endG (by omega) fun j hj' => hj j (by omega)) e7)).symm))
    | succ d ih =>
      intro i e hj
      refine Ev.st (fun k => by rw [metrics_alike.l1]) (Ev.dp (by omega) ?_)
      refine Ev.at_ (by omega) (by omega) ?_
      refine Ev.at_ (by omega) (by omega) ?_
      rw [rng_dec]
      refine Ev.xc (fun hne => no fun e => hne (by rw [e])) fun heq => ?_
      rw [nx i (by omega)]
      exact ih (i + 1) (by omega) (step_pre hj heq)
  exact Ev.st (fun k => by rw [metrics_alike.j0]; rfl) (loop _ 0 (Nat.zero_add _) fun j hj => absurd hj (by omega))
theorem mSame_ev (a b : List Styl) (ha : FewS a) : Ev (fun k => metrics_Same.f k (some a) (some b)) (isTrue (a = b)) := by
  have hal := ha.1
  refine Ev.congr (fun k => by rw [metrics_Same.f]) ?_
  refine Ev.somep rfl (Ev.somep rfl ?_)
  refine Ev.st (fun k => by rw [metrics_Same.j0]) ?_
  refine Ev.xc (fun h => Ev.some_ (isTrue_no fun e => h (by rw [e])).symm) fun h => ?_
  have hlen : a.length = b.length := by omega
  have loop : ∀ d i : Nat, i + d = a.length → (∀ j : Nat, j < i → rd a (j : Int) = rd b (j : Int)) → Ev (fun k => metrics_Same.l1 k a b (a.length : Int) (i : Int)) (isTrue (a = b)) := by
    intro d
    induction d with
    | zero => exact fun i e hj => Ev.st (fun k => by rw [metrics_Same.l1]) (Ev.dn (by omega) (Ev.some_ (isTrue_yes (eq_endG hlen fun j hj' => hj j (by omega))).symm))
    | succ d ih =>
      intro i e hj
      refine Ev.st (fun k => by rw [metrics_Same.l1]) (Ev.dp (by omega) ?_)
      refine Ev.at_ (by omega) (by omega) ?_
      refine Ev.at_ (by omega) (by omega) ?_
      refine Ev.bind (alike_ev _ _ (ha.2 _ (rd_in a (i := i) (by omega)))) ?_
      refine Ev.nc (fun hf => Ev.some_ ?_) fun ht => ?_
      · exact (ne_G (fun e => by rw [isTrue_yes e] at hf; cases hf)).symm
      · rw [nx i (by omega)]
        exact ih (i + 1) (by omega) (step_pre hj (isTrue_iff.1 ht))
  exact loop a.length 0 (Nat.zero_add _) fun j hj => absurd hj (by omega)
theorem mSame_n1 (a : List Styl) : Ev (fun k => metrics_Same.f k (some a) none) false := by
  refine Ev.congr (fun k => by rw [metrics_Same.f]) ?_
  exact Ev.somep rfl (Ev.nilp rfl (Ev.now _))
theorem mSame_n2 (a : List Styl) : Ev (fun k => metrics_Same.f k none (some a)) false := by
  refine Ev.congr (fun k => by rw [metrics_Same.f]) ?_
  exact Ev.nilp rfl (Ev.somep rfl (Ev.now _))
theorem mSame_n3 : Ev (fun k => metrics_Same.f k none none) true := by
  refine Ev.congr (fun k => by rw [metrics_Same.f]) ?_
  exact Ev.nilp rfl (Ev.nilp rfl (Ev.now _))
theorem awakeNil_ev (o : Option (List Styl)) : Ev (fun k => regletlaw04_awakeNil.f k o) false := by
  refine Ev.congr (fun k => by rw [regletlaw04_awakeNil.f]) ?_
  cases o with
  | none => exact Ev.nilp rfl (Ev.bind mSame_n3 (Ev.some_ (by simp)))
  | some a => exact Ev.somep rfl (Ev.bind (mSame_n2 a) (Ev.some_ (by simp)))
section
variable (l m a c : List Styl) (b : Option (List Styl))
theorem same_l3 (i : Nat) (hi : i < 4000) : ∀ (d j : Nat) (g : List Styl), g.length = l.length → i < g.length → (rd g (i : Int)).2.2.2.2.2.2.1.length = j + d → j + d ≤ 64 →
    (∀ g' : List Styl, g'.length = l.length → (∀ q : Nat, q ≠ i → rd g' (q : Int) = rd g (q : Int)) → Ev (fun k => regletlaw04_MetricsSame.l2 k l m g' a b c ((i + 1 : Nat) : Int)) true) →
    Ev (fun k => regletlaw04_MetricsSame.l3 k l m g a b c (i : Int) (j : Int)) true := by
  intro d
  induction d with
  | zero =>
    intro j g h1 h2 h3 h4 hnext
    refine Ev.st (fun k => by rw [regletlaw04_MetricsSame.l3]) ?_
    refine Ev.gx (by omega) (by omega) ?_
    refine Ev.dn (by omega) ?_
    rw [nx i (by omega)]
    exact hnext g h1 fun _ _ => rfl
  | succ d ih =>
    intro j g h1 h2 h3 h4 hnext
    refine Ev.st (fun k => by rw [regletlaw04_MetricsSame.l3]) ?_
    refine Ev.gx (by omega) (by omega) ?_
    refine Ev.dp (by omega) ?_
    refine Ev.gx (by omega) (by omega) ?_
    refine Ev.ifp (by omega) ?_
    refine Ev.ix (rd_ixS (by omega) (by omega)) ?_
    refine Ev.ix (rd_ixS (by omega) (by omega)) ?_
    rw [nx j (by omega), Int.toNat_natCast, Int.toNat_natCast]
    refine ih (j + 1) _ (by rw [List.length_set]; exact h1) (by rw [List.length_set]; exact h2) ?_ (by omega) fun g' g1 g2 => ?_
    · rw [rd_set_eq h2]
      show (List.set _ _ _).length = _
      rw [List.length_set]; omega
    · exact hnext g' g1 fun q hq => (g2 q hq).trans (rd_set_ne (Ne.symm hq) _)
/-- behind the changes: what the law asks at last -/
theorem same_end (fa : FewS a) (fl : FewS l) (hac : a = c) (hal : a = l) (hb : ∀ p, b = some p → p = m ∧ FewS p) (g : List Styl) (hg : g.length = l.length) :
    Ev (fun k => regletlaw04_MetricsSame.l2 k l m g a b c (l.length : Int)) true := by
  refine Ev.st (fun k => by rw [regletlaw04_MetricsSame.l2]) ?_
  refine Ev.dn (by omega) ?_
  refine Ev.bind (mSame_ev a c fa) (Ev.bn (by rw [isTrue_yes hac]; rfl) ?_)
  refine Ev.bind (mSame_n1 a) (Ev.bn rfl ?_)
  refine Ev.bind (mSame_n2 a) (Ev.bn rfl ?_)
  refine Ev.st (fun k => by rw [regletlaw04_MetricsSame.j4]) ?_
  cases hbb : b with
  | none => exact Ev.nilp rfl (Ev.now _)
  | some p =>
    obtain ⟨e, fp⟩ := hb p hbb
    subst e hal
    refine Ev.somep rfl ?_
    refine Ev.bind (mSame_ev a p fa) (Ev.bind (refSame04_ev a p fa) (Ev.dp rfl ?_))
    refine Ev.bind (mSame_ev p a fp) (Ev.bind (refSame04_ev a p fa) (Ev.some_ ?_))
    refine decide_eq_true ?_
    by_cases h : a = p
    · rw [isTrue_yes h, isTrue_yes h.symm]
    · rw [isTrue_no h, isTrue_no fun e => h e.symm]
theorem same_l2 (fa : FewS a) (fl : FewS l) (hac : a = c) (hal : a = l) (hb : ∀ p, b = some p → p = m ∧ FewS p) : ∀ (d i : Nat) (g : List Styl), g.length = l.length → i + d = l.length →
    (∀ q : Nat, i ≤ q → q < g.length → (rd g (q : Int)).2.2.2.2.2.2.1.length ≤ 64) → Ev (fun k => regletlaw04_MetricsSame.l2 k l m g a b c (i : Int)) true := by
  intro d
  have hl := fl.1
  induction d with
  | zero =>
    intro i g h1 h2 _
    obtain rfl : i = l.length := by omega
    exact same_end l m a c b fa fl hac hal hb g h1
  | succ d ih =>
    intro i g h1 h2 h3
    refine Ev.st (fun k => by rw [regletlaw04_MetricsSame.l2]) ?_
    refine Ev.dp (by omega) ?_
    refine Ev.gx (by omega) (by omega) ?_
    rw [Int.toNat_natCast]
    have hi : i < g.length := by omega
    have hq := h3 i (by omega) hi
    refine same_l3 l m a c b i (by omega) (rd g (i : Int)).2.2.2.2.2.2.1.length 0 _ (by rw [List.length_set]; exact h1) (by rw [List.length_set]; exact hi) (by rw [rd_set_eq hi, Nat.zero_add]) (by omega) fun g' g1 g2 => ?_
    refine ih (i + 1) g' g1 (by omega) fun q q1 q2 => ?_
    rw [g2 q (by omega), rd_set_ne (by omega)]
    exact h3 q (by omega) (by omega)
end
theorem same_j1 (l m : List Styl) (b : Option (List Styl)) (fl : FewS l) (hb : ∀ p, b = some p → p = m ∧ FewS p) : Ev (fun k => regletlaw04_MetricsSame.j1 k l m l l b l) true := by
  refine Ev.st (fun k => by rw [regletlaw04_MetricsSame.j1]) ?_
  exact same_l2 l m l l b fl fl rfl rfl hb l.length 0 l rfl (Nat.zero_add _) fun q _ h2 => fl.2 _ (rd_in l h2)
/-- all tables made -/
theorem same_made (l m : List Styl) : Ev (fun k => regletlaw04_MetricsSame.l0 k l m l (l.length : Int)) true := by
  refine Ev.st (fun k => by rw [regletlaw04_MetricsSame.l0]) (Ev.dn (by omega) ?_)
  by_cases h : (chkL l).1 = 0
  · have t : Ev (fun k => regletlaw04_table.f k l) (some l) := Ev.lift (table04_ev l) (if_pos h)
    have fl := few_of h
    refine Ev.bind t (Ev.somep rfl ?_)
    by_cases hm : (chkL m).1 = 0
    · refine Ev.bind (Ev.lift (table04_ev m) (if_pos hm)) (Ev.somep rfl ?_)
      refine Ev.bind t (Ev.somep rfl ?_)
      exact same_j1 l m (some m) fl fun p e => by cases e; exact ⟨rfl, few_of hm⟩
    · refine Ev.bind (Ev.lift (table04_ev m) (if_neg hm)) (Ev.nilp rfl ?_)
      refine Ev.bind t (Ev.somep rfl ?_)
      exact same_j1 l m none fl fun p e => by cases e
  · have t : Ev (fun k => regletlaw04_table.f k l) none := Ev.lift (table04_ev l) (if_neg h)
    refine Ev.bind t (Ev.nilp rfl ?_)
    by_cases hm : (chkL m).1 = 0
    · refine Ev.bind (Ev.lift (table04_ev m) (if_pos hm)) (Ev.somep rfl ?_)
      refine Ev.bind t (Ev.nilp rfl ?_)
      exact Ev.bind (awakeNil_ev _) (Ev.now _)
    · refine Ev.bind (Ev.lift (table04_ev m) (if_neg hm)) (Ev.nilp rfl ?_)
      refine Ev.bind t (Ev.nilp rfl ?_)
      exact Ev.bind (awakeNil_ev _) (Ev.now _)
theorem Pure.MetricsSame (l m : List Styl) (hl : okT (.row false tSty04) l) (_ : okT (.row false tSty04) m) : ∃ k, regletlaw04_MetricsSame.f k l m = some true := by
  refine Ev.rounds (Ev.congr (fun k => by rw [regletlaw04_MetricsSame.f]) ?_)
  refine Ev.bind awake04s_ev (Ev.bn rfl ?_)
  have hlen : l.length * 80 ≤ 140737488351232 := hl.2.2
  have loop : ∀ d i : Nat, i + d = l.length → Ev (fun k => regletlaw04_MetricsSame.l0 k l m (l.take i) (i : Int)) true := by
    intro d
    induction d with
    | zero =>
      intro i e
      obtain rfl : i = l.length := by omega
      rw [List.take_length]
      exact same_made l m
    | succ d ih =>
      intro i e
      refine Ev.st (fun k => by rw [regletlaw04_MetricsSame.l0]) ?_
      refine Ev.dp (by omega) ?_
      refine Ev.at_ (by omega) (by omega) ?_
      have hx : (rd l (i : Int)).2.2.2.2.2.2.1.length * 24 ≤ 140737488351232 := (hl.2.1 _ (rd_in l (i := i) (by omega))).2.2.2.2.2.2.1.2.2
      refine Ev.ifp (by rw [List.length_nil]; omega) ?_
      refine Ev.ifp (by rw [List.length_take, List.length_singleton]; omega) ?_
      rw [nx i (by omega)]
      have := ih (i + 1) (by omega)
      rw [take_rd l i (by omega)] at this
      exact this
  exact loop l.length 0 (Nat.zero_add _)
end Go.Proofs.Ytepeoiimdefnpaa.Vm
