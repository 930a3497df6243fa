/- The search: what the lines behind each place cost, and the breaking that is chosen. -/
import Derived.Test.YtjbobaeggdafpaaGreatNd
namespace Go.Proofs.YtjbobaeggdafpaaGreat.Vm
open Go
open _root_.Go.RowKit (wrap64)
def oenc : Option Int → Int
 | none => 1125899906842625
 | some v => v
def ix4 (x : Four) (c : Int) : Int := rd [x.1, x.2.1, x.2.2.1, x.2.2.2] c
def upd4 (x : Four) (c : Nat) (v : Int) : Four := ((if c = 0 then v else x.1), (if c = 1 then v else x.2.1), (if c = 2 then v else x.2.2.1), (if c = 3 then v else x.2.2.2))
theorem four {c : Nat} (h : c < 4) : c = 0 ∨ c = 1 ∨ c = 2 ∨ c = 3 := by omega
theorem ix4_get (x : Four) {c : Nat} (h : c < 4) : ([x.1, x.2.1, x.2.2.1, x.2.2.2] : List Int)[c]? = some (ix4 x (c : Int)) := by
 rcases four h with rfl | rfl | rfl | rfl <;> rfl
theorem ix4_upd (x : Four) {c i : Nat} (v : Int) (h : c < 4) (hi : i < 4) : ix4 (upd4 x c v) (i : Int) = if i = c then v else ix4 x (i : Int) := by
 rcases four h with rfl | rfl | rfl | rfl <;> rcases four hi with rfl | rfl | rfl | rfl <;> rfl
theorem oenc_omin {o : Option Int} {x : Int} (h : x ≤ 1125899906842624) : oenc (some (omin o x)) = if x < oenc o then x else oenc o := by
 cases o with
 | none => show x = if x < 1125899906842625 then x else _; rw [if_pos (by omega)]
 | some v => rfl
def Tab (N : Net) (m : Nat) (t : List Four) : Prop := t.length = N.n ∧ ∀ j : Nat, m ≤ j → j + 1 < N.n → ∀ c : Int, 0 ≤ c → c ≤ 3 → ix4 (rd t (j : Int)) c = oenc (N.val (j + 1) c)
def Out (N : Net) (a j : Nat) (x : Four) : Prop := ∀ c : Nat, c < 4 → ∃ o, N.Upto a (c : Int) j o ∧ ix4 x (c : Int) = oenc o
def Full (N : Net) (a : Nat) (x : Four) : Prop := ∀ c : Nat, c < 4 → ix4 x (c : Int) = oenc (N.val a (c : Int))
theorem Out.full {N : Net} {a j : Nat} {x : Four} (h : Out N a j x) (ha : a < N.n) (k : ∀ i, j ≤ i → ¬ N.ok a i) : Full N a x := fun c hc => by
 obtain ⟨o, u, e⟩ := h c hc
 rw [e, (u.val ha k).is (Nat.le_of_lt ha)]
section
variable {l : List api_Item} {p : measure_Para} {w : Int} {s : api_Settings}
theorem best_l4 (h : Sit l p w s) (b : Bool) (t : List Four) (x : List Int) (a m j : Nat) (haj : a ≤ j) (hj : j < (ends l).length) (r : Int) (r0 : 0 ≤ r) (r1 : r ≤ 1125899906842624) (z : Four) :
 ∀ (d c : Nat), c + d = 4 → ∀ y : Four, ∃ y' : Four, (∀ i : Nat, i < c → ix4 y' (i : Int) = ix4 y (i : Int)) ∧ (∀ i : Nat, c ≤ i → i < 4 → ix4 y' (i : Int) = if tot ((netOf l w s b).C a j (i : Int)) r < ix4 y (i : Int) then tot ((netOf l w s b).C a j (i : Int)) r else ix4 y (i : Int)) ∧
  ∀ q : Four, Ev (fun k => breaks_search_best.j2 k (srch p w s b t x) ((a : Int) - 1) (m : Int) (j : Int) z y') q → Ev (fun k => breaks_search_best.l4 k (srch p w s b t x) ((a : Int) - 1) (m : Int) (j : Int) r (c : Int) z y (fitV l (posV l a) (endV l j) w)) q
 | 0, c, e, y => ⟨y, fun _ _ => rfl, fun i h1 h2 => by omega, fun q hq => Ev.st (fun k => by rw [breaks_search_best.l4]) (Ev.dn (by omega) hq)⟩
 | d + 1, c, e, y => by
  have hc : c < 4 := by omega
  have cr := (netOf l w s b).c0 a j (c : Int)
  obtain ⟨v, hv⟩ : ∃ v, v = if tot ((netOf l w s b).C a j (c : Int)) r < ix4 y (c : Int) then tot ((netOf l w s b).C a j (c : Int)) r else ix4 y (c : Int) := ⟨_, rfl⟩
  obtain ⟨y', a1, a2, a3⟩ := best_l4 h b t x a m j haj hj r r0 r1 z d (c + 1) (by omega) (upd4 y c v)
  refine ⟨y', fun i hi => ?_, fun i h1 h2 => ?_, fun q hq => ?_⟩
  · rw [a1 i (by omega), ix4_upd y v hc (by omega), if_neg (by omega)]
  · by_cases ei : i = c
    · subst ei
      rw [a1 i (by omega), ix4_upd y v hc h2, if_pos rfl, hv]
    · rw [a2 i (by omega) h2, ix4_upd y v hc h2, if_neg ei]
  · have go := a3 q hq
    refine Ev.st (fun k => by rw [breaks_search_best.l4]) (Ev.dp (by omega) (Ev.ifp (by omega) ?_))
    rw [Int.toNat_natCast]
    refine Ev.bind (Ev.opt (ix4_get y hc)) (Ev.bind (cost_ev h b t x a j haj hj (c : Int) (by omega) (by omega)) (Ev.bind (Total_ev cr.1 r0 cr.2 r1) (Ev.ifp (by omega) (Ev.ifp hc ?_))))
    rw [nx c (by omega)]
    rw [hv] at go
    exact go
theorem best_l0 (h : Sit l p w s) (b : Bool) (t : List Four) (x : List Int) (a m : Nat) (hm : NextF (netOf l w s b) a m) (ht : Tab (netOf l w s b) a t) (z : Four) :
 ∀ (g j : Nat) (y : Four), j + g = m + 1 → a ≤ j → Out (netOf l w s b) a j y → ∃ y', Full (netOf l w s b) a y' ∧ Ev (fun k => breaks_search_best.l0 k (srch p w s b t x) ((a : Int) - 1) (m : Int) (j : Int) z y) y'
 | 0, j, y, e, haj, ho => by
  refine ⟨y, ho.full (Nat.lt_of_le_of_lt hm.1 hm.2.1) (fun i hi => hm.no (by omega)), Ev.st (fun k => by rw [breaks_search_best.l0]) (Ev.dn (by omega) (Ev.now _))⟩
 | g + 1, j, y, e, haj, ho => by
  have nl := h.n_le
  have mn : m < (ends l).length := hm.2.1
  have hj : j < (ends l).length := by omega
  have ea : wrap64 ((a : Int) - 1 + 1) = (a : Int) := by rw [w64 (by omega) (by omega)]; omega
  have rest : ∀ y, Out (netOf l w s b) a (j + 1) y → ∃ y', Full (netOf l w s b) a y' ∧ Ev (fun k => breaks_search_best.j2 k (srch p w s b t x) ((a : Int) - 1) (m : Int) (j : Int) z y) y' := fun y hy => by
   obtain ⟨y', f, v⟩ := best_l0 h b t x a m hm ht z g (j + 1) y (by omega) (by omega) hy
   refine ⟨y', f, Ev.st (fun k => by rw [breaks_search_best.j2]) ?_⟩
   rw [nx j (by omega)]
   exact v
  have j3 : ∀ (ok : (netOf l w s b).ok a j) (e3 : Int), e3 = oenc ((netOf l w s b).val (j + 1) ((netOf l w s b).K a j)) → ∃ y', Full (netOf l w s b) a y' ∧ Ev (fun k => breaks_search_best.j3 k (srch p w s b t x) ((a : Int) - 1) (m : Int) (j : Int) e3 z y (fitV l (posV l a) (endV l j) w)) y' := by
   rintro ok _ rfl
   have v := (netOf l w s b).val_ok ((netOf l w s b).K a j) (a := j + 1) (by show j + 1 ≤ (ends l).length; omega)
   cases hr : (netOf l w s b).val (j + 1) ((netOf l w s b).K a j) with
   | none =>
    rw [hr] at v
    obtain ⟨y', f, q⟩ := rest y (fun c hc => by
     obtain ⟨o, u, k⟩ := ho c hc
     exact ⟨o, u.dead v, k⟩)
    refine ⟨y', f, Ev.st (fun k => by rw [breaks_search_best.j3]) ?_⟩
    exact Ev.dp rfl q
   | some r =>
    have rr := (netOf l w s b).val_range (show j + 1 ≤ (netOf l w s b).n from by show j + 1 ≤ (ends l).length; omega) hr
    rw [hr] at v
    obtain ⟨y4, _, n4, k4⟩ := best_l4 h b t x a m j haj hj r rr.1 rr.2 z 4 0 rfl y
    obtain ⟨y', f, q⟩ := rest y4 (fun c hc => by
     obtain ⟨o, u, k⟩ := ho c hc
     refine ⟨_, u.take ok v, ?_⟩
     have cr := (netOf l w s b).c0 a j (c : Int)
     rw [n4 c (Nat.zero_le _) hc, oenc_omin (tot_ok cr.1 rr.1).2, k])
    refine ⟨y', f, Ev.st (fun k => by rw [breaks_search_best.j3]) ?_⟩
    refine Ev.dn (by show ¬ r = _; omega) ?_
    exact k4 _ q
  have j1 : ∃ y', Full (netOf l w s b) a y' ∧ Ev (fun k => breaks_search_best.j1 k (srch p w s b t x) ((a : Int) - 1) (m : Int) (j : Int) ((netOf l w s b).D a j) z y (fitV l (posV l a) (endV l j) w)) y' := by
   cases hd : (netOf l w s b).D a j with
   | false =>
    obtain ⟨y', f, q⟩ := rest y (fun c hc => by
     obtain ⟨o, u, k⟩ := ho c hc
     exact ⟨o, u.skip (fun ok => by have := ok.2.2.1; rw [hd] at this; cases this), k⟩)
    refine ⟨y', f, Ev.st (fun k => by rw [breaks_search_best.j1]) ?_⟩
    exact Ev.bp rfl q
   | true =>
    have ok : (netOf l w s b).ok a j := ⟨haj, hj, hd, fun i h1 h2 => hm.2.2.2 i h1 (by omega)⟩
    obtain ⟨y', f, q⟩ := j3 ok _ rfl
    refine ⟨y', f, Ev.st (fun k => by rw [breaks_search_best.j1]) ?_⟩
    refine Ev.bn rfl (Ev.bind h.Ends ?_)
    rw [w64 (x := ((ends l).length : Int) - 1) (by omega) (by omega)]
    have kr := h.K_ok b a j
    refine Ev.dc (fun c => ?_) (fun c => ?_)
    · have tl : t.length = (ends l).length := ht.1
      have e3 := ht.2 j haj (by show j + 1 < (ends l).length; omega) _ kr.1 kr.2
      rw [← e3] at q
      refine Ev.at_ (xs := t) (by omega) (by omega) ?_
      refine Ev.at_ (by exact kr.1) (by show (netOf l w s b).K a j < 4; omega) ?_
      exact q
    · have en : j + 1 = (netOf l w s b).n := by show j + 1 = (ends l).length; omega
      rw [en, (netOf l w s b).val_done] at q
      exact q
  have pre : ∀ y' : Four, Ev (fun k => if (decide (w < (bdV l (posV l a) (endV l j)).1)) = true then (if (decide ((a : Int) < (j : Int))) = true then (some y) else (breaks_search_best.j1 k (srch p w s b t x) ((a : Int) - 1) (m : Int) (j : Int) ((netOf l w s b).D a j) z y (fitV l (posV l a) (endV l j) w))) else (breaks_search_best.j1 k (srch p w s b t x) ((a : Int) - 1) (m : Int) (j : Int) ((netOf l w s b).D a j) z y (fitV l (posV l a) (endV l j) w))) y' → Ev (fun k => breaks_search_best.l0 k (srch p w s b t x) ((a : Int) - 1) (m : Int) (j : Int) z y) y' := by
   intro y' hv
   refine Ev.st (fun k => by rw [breaks_search_best.l0]) (Ev.dp (by omega) ?_)
   refine Ev.bind (line_ev h b t x a j haj hj) ?_
   refine Ev.bind (h.Pos a (by omega)) ?_
   refine Ev.bind (h.End j hj) ?_
   refine Ev.bind (Bounds_ev h.par h.good (posV l a) (endV l j)) ?_
   rw [ea]
   exact hv
  clear ea
  obtain ⟨y', f, q⟩ := j1
  by_cases c1 : w < (bdV l (posV l a) (endV l j)).1
  · by_cases c2 : (a : Int) < (j : Int)
    · refine ⟨y, ho.full (by show a < (ends l).length; omega) (fun i hi ok => ?_), pre y (Ev.dp c1 (Ev.dp c2 (Ev.now _)))⟩
      have il := ok.2.1
      have mo := (bdV_ends h.good (posV l a) hi il).1
      have ov := (h.fit (posV l a) (endV l i)).2.2.1 (by omega)
      have d := ok.2.2.1
      have d' : (if b = true then (!(fitV l (posV l a) (endV l i) w).2.2.2.2 || decide (i = a)) else (!(fitV l (posV l a) (endV l i) w).2.2.2.2 && decide ((fitV l (posV l a) (endV l i) w).2.2.1 ≤ s.1))) = true := d
      rw [ov, decide_eq_false (show ¬ i = a by omega)] at d'
      cases b <;> cases d'
    · exact ⟨y', f, pre y' (Ev.dp c1 (Ev.dn c2 q))⟩
  · exact ⟨y', f, pre y' (Ev.dn c1 q)⟩
theorem best_ev (h : Sit l p w s) (b : Bool) (t : List Four) (x : List Int) (hx : Nxt (netOf l w s b) x) (a : Nat) (ha : a < (ends l).length) (ht : Tab (netOf l w s b) a t) :
 ∃ y, Full (netOf l w s b) a y ∧ Ev (fun k => breaks_search_best.f k (srch p w s b t x) ((a : Int) - 1)) y := by
 have nl := h.n_le
 have xl : x.length = (ends l).length + 1 := hx.1
 obtain ⟨m, em, hm⟩ := hx.2 a ha
 obtain ⟨f, f0, f1, f2, f3⟩ := first_ev h b t x a m hm.1 hm.2.1
 have none_ : Out (netOf l w s b) a f (1125899906842625, 1125899906842625, 1125899906842625, 1125899906842625) := fun c hc => by
  have up : ∀ d, a + d ≤ f → (netOf l w s b).Upto a (c : Int) (a + d) none := by
   intro d
   induction d with
   | zero => exact fun _ => Net.Upto.start _ _ _
   | succ d ih => exact fun hd => (ih (by omega)).skip (f2 (a + d) (by omega) (by omega))
  have u := up (f - a) (by omega)
  rw [show a + (f - a) = f by omega] at u
  refine ⟨none, u, ?_⟩
  rcases four hc with rfl | rfl | rfl | rfl <;> rfl
 obtain ⟨y, fy, ey⟩ := best_l0 h b t x a m hm ht (0, 0, 0, 0) (m + 1 - f) f _ (by omega) f0 none_
 refine ⟨y, fy, ?_⟩
 show Ev (fun k => (at? x (wrap64 ((a : Int) - 1 + 1))).bind fun e => (breaks_search_first.f k (srch p w s b t x) ((a : Int) - 1) e).bind fun r => breaks_search_best.l0 k (srch p w s b t x) ((a : Int) - 1) e r (0, 0, 0, 0) (1125899906842625, 1125899906842625, 1125899906842625, 1125899906842625)) y
 rw [w64 (x := (a : Int) - 1 + 1) (by omega) (by omega), show (a : Int) - 1 + 1 = (a : Int) by omega]
 refine Ev.at_ (by omega) (by omega) ?_
 rw [em]
 exact Ev.bind f3 ey
theorem weigh_l0 (h : Sit l p w s) (b : Bool) (x : List Int) (hx : Nxt (netOf l w s b) x) : ∀ (m : Nat) (t : List Four), m + 1 ≤ (ends l).length → Tab (netOf l w s b) m t →
 ∃ t', Tab (netOf l w s b) 0 t' ∧ Ev (fun k => breaks_search_weigh.l0 k ((m : Int) - 1) (srch p w s b t x)) (oenc ((netOf l w s b).val 0 0), srch p w s b t' x)
 | 0, t, _, ht => by
  obtain ⟨y, f, e⟩ := best_ev h b t x hx 0 h.n_pos ht
  refine ⟨t, ht, Ev.st (fun k => by rw [breaks_search_weigh.l0]) ?_⟩
  refine Ev.dn (by omega) ?_
  refine Ev.bind (a := y) e ?_
  refine Ev.some_ ?_
  have := f 0 (by omega)
  exact congrArg (fun q => (q, srch p w s b t x)) this
 | m + 1, t, hm, ht => by
  have nl := h.n_le
  have tl : t.length = (ends l).length := ht.1
  obtain ⟨y, f, e⟩ := best_ev h b t x hx (m + 1) (by omega) ht
  obtain ⟨t', a1, a2⟩ := weigh_l0 h b x hx m (t.set m y) (by omega) ⟨by rw [List.length_set]; exact ht.1, fun j h1 h2 c c0 c1 => by
   by_cases q : j = m
   · subst q
     rw [rd_set_eq (by omega)]
     have := f c.toNat (by omega)
     rwa [Int.toNat_of_nonneg c0] at this
   · rw [rd_set_ne (by omega)]
     exact ht.2 j (by omega) h2 c c0 c1⟩
  refine ⟨t', a1, Ev.st (fun k => by rw [breaks_search_weigh.l0]) ?_⟩
  refine Ev.dp (by omega) ?_
  refine Ev.bind e ?_
  rw [show ((m + 1 : Nat) : Int) - 1 = (m : Int) by omega]
  refine Ev.gx (xs := t) (by omega) (by omega) ?_
  rw [w64 (x := (m : Int) - 1) (by omega) (by omega), Int.toNat_natCast]
  exact a2
theorem weigh_ev (h : Sit l p w s) (b : Bool) (t : List Four) (x : List Int) (hx : Nxt (netOf l w s b) x) :
 ∃ t', Tab (netOf l w s b) 0 t' ∧ Ev (fun k => breaks_search_weigh.f k (srch p w s b t x)) (oenc ((netOf l w s b).val 0 0), srch p w s b t' x) := by
 have nl := h.n_le
 have n0 := h.n_pos
 obtain ⟨t', a1, a2⟩ := weigh_l0 h b x hx ((ends l).length - 1) (List.replicate (ends l).length (0, 0, 0, 0)) (by omega) ⟨by simp [netOf], fun j h1 h2 => by
  have : j + 1 < (ends l).length := h2
  omega⟩
 refine ⟨t', a1, Ev.bind h.Ends (Ev.ifp ⟨rfl, by omega, by omega⟩ ?_)⟩
 rw [w64 (x := ((ends l).length : Int) - 2) (by omega) (by omega), Int.toNat_natCast, show ((ends l).length : Int) - 2 = (((ends l).length - 1 : Nat) : Int) - 1 by omega]
 exact a2
end
end Go.Proofs.YtjbobaeggdafpaaGreat.Vm
