/- The reference: what a way costs. -/
import Derived.Test.YtjbobaeggdafpaaGreatNh
namespace Go.Proofs.YtjbobaeggdafpaaGreat.Vm
open Go
open _root_.Go.RowKit (wrap64)
section
variable {l : List zA} {p : zE} {w : Int} {s : zD}
theorem place_ev (h : Sit l p w s) (v : Int) : ∃ q : Int, ((∃ j : Nat, j < (ends l).length ∧ q = j ∧ endV l j = v) ∨ (q = -1 ∧ ∀ j : Nat, j < (ends l).length → endV l j ≠ v)) ∧ Ev (fun k => wL.f k (ends l) v) q := by
 have nl := h.n_le
 have l0 : ∀ m i : Nat, i + m = (ends l).length → (∀ j, j < i → endV l j ≠ v) → ∃ q : Int, ((∃ j : Nat, j < (ends l).length ∧ q = j ∧ endV l j = v) ∨ (q = -1 ∧ ∀ j : Nat, j < (ends l).length → endV l j ≠ v)) ∧ Ev (fun k => wL.l0 k (ends l) v (i : Int)) q := by
  intro m
  induction m with
  | zero => exact fun i e no => ⟨-1, .inr ⟨rfl, fun j hj => no j (by omega)⟩, Ev.st (fun k => by rw [wL.l0]) (Ev.dn (by omega) (Ev.now _))⟩
  | succ m ih =>
   intro i e no
   by_cases q : endV l i = v
   · refine ⟨i, .inl ⟨i, by omega, rfl, q⟩, Ev.st (fun k => by rw [wL.l0]) ?_⟩
     refine Ev.dp (by omega) ?_
     refine Ev.at_ (by omega) (by omega) ?_
     exact Ev.dp q (Ev.now _)
   · obtain ⟨r, a, b⟩ := ih (i + 1) (by omega) (fun j hj => by
      by_cases z : j = i
      · rw [z]; exact q
      · exact no j (by omega))
     refine ⟨r, a, Ev.st (fun k => by rw [wL.l0]) ?_⟩
     refine Ev.dp (by omega) ?_
     refine Ev.at_ (by omega) (by omega) ?_
     refine Ev.dn q ?_
     rw [nx i (by omega)]
     exact b
 exact l0 (ends l).length 0 (by omega) (fun j hj => by omega)
def Prc (l : List zA) (N : Net) (a : Nat) (c t : Int) (way : List Int) (r : Int × Bool) : Prop :=
 (r.2 = true → ∃ W, way = W.map (endV l) ∧ N.Way a c t W r.1) ∧ ∀ W u, way = W.map (endV l) → (∀ j, j ∈ W → j < (ends l).length) → N.Way a c t W u → r = (u, true)
theorem Prc.no {N : Net} {a : Nat} {c t : Int} {way : List Int} (h : ∀ W u, way = W.map (endV l) → (∀ j, j ∈ W → j < (ends l).length) → ¬ N.Way a c t W u) : Prc l N a c t way (0, false) := ⟨fun q => (by cases q), fun W u e b q => absurd q (h W u e b)⟩
theorem price_l0 (h : Sit l p w s) (b : Bool) (way : List Int) (hw : way.length ≤ 1000000) : ∀ (m i a : Nat) (c t : Int), i + m = way.length → a ≤ (ends l).length → 0 ≤ c → c ≤ 3 → 0 ≤ t → t ≤ 1125899906842624 →
 ∃ r, Prc l (zQ l w s b) a c t (way.drop i) r ∧ Ev (fun k => zN.l0 k l way w b (ends l) t (if a = 0 then -1 else c) (if a = 0 then false else (rd l (posV l a)).2.2.2.2.2.2.1) ((a : Int) - 1) (i : Int) s) r
 | 0, i, a, c, t, e, ha, c0, c1, t0, t1 => by
  have nl := h.n_le
  refine ⟨(t, decide (a = (ends l).length)), ⟨fun q => ⟨[], ?_, of_decide_eq_true q, rfl⟩, fun W u e' _ q => ?_⟩, Ev.st (fun k => by rw [zN.l0]) ?_⟩
  · rw [List.drop_of_length_le (by omega)]; rfl
  · rw [List.drop_of_length_le (by omega)] at e'
    cases W with
    | nil =>
     have q1 : a = (ends l).length := q.1
     rw [q.2, decide_eq_true q1]
    | cons j W => cases e'
  · refine Ev.dn (by omega) ?_
    rw [w64 (x := ((ends l).length : Int) - 1) (by omega) (by omega)]
    refine Ev.some_ ?_
    have : decide ((a : Int) - 1 = ((ends l).length : Int) - 1) = decide (a = (ends l).length) := by rw [decide_eq_decide]; omega
    rw [this]
 | m + 1, i, a, c, t, e, ha, c0, c1, t0, t1 => by
  have nl := h.n_le
  have dr := vM way i (by omega)
  obtain ⟨q, hq, P⟩ := place_ev h (rd way (i : Int))
  have pre : ∀ r, Ev (fun k => if (decide (q ≤ (a : Int) - 1)) = true then (some (0, false)) else ((xW.f k l (ends l) ((a : Int) - 1) q w s b).bind fun r3 => if (!r3) = true then (some (0, false)) else (zN.j1 k l way w b (ends l) t (if a = 0 then -1 else c) (if a = 0 then false else (rd l (posV l a)).2.2.2.2.2.2.1) ((a : Int) - 1) (i : Int) q s))) r →
   Ev (fun k => zN.l0 k l way w b (ends l) t (if a = 0 then -1 else c) (if a = 0 then false else (rd l (posV l a)).2.2.2.2.2.2.1) ((a : Int) - 1) (i : Int) s) r := fun r v => by
   refine Ev.st (fun k => by rw [zN.l0]) (Ev.dp (by omega) ?_)
   refine Ev.at_ (by omega) (by omega) ?_
   exact Ev.bind P v
  have heads : ∀ W : List Nat, way.drop i = W.map (endV l) → ∃ j r, W = j :: r ∧ endV l j = rd way (i : Int) ∧ way.drop (i + 1) = r.map (endV l) := fun W e' => by
   rw [dr] at e'
   cases W with
   | nil => cases e'
   | cons j r =>
    rw [List.map_cons, List.cons.injEq] at e'
    exact ⟨j, r, rfl, e'.1.symm, e'.2⟩
  rcases hq with ⟨j, hj, rfl, ej⟩ | ⟨rfl, no⟩
  · have same : ∀ W : List Nat, way.drop i = W.map (endV l) → (∀ x, x ∈ W → x < (ends l).length) → ∃ r, W = j :: r ∧ way.drop (i + 1) = r.map (endV l) := fun W e' bd => by
     obtain ⟨j', r, rfl, x, y⟩ := heads W e'
     have : j' = j := endV_inj l (bd j' (List.mem_cons_self ..)) hj (x.trans ej.symm)
     subst this
     exact ⟨r, rfl, y⟩
    by_cases lt : j < a
    · refine ⟨(0, false), Prc.no (fun W u e' bd k => ?_), pre _ (Ev.dp (by omega) (Ev.now _))⟩
      obtain ⟨r, rfl, _⟩ := same W e' bd
      have := k.1.1
      omega
    · have haj : a ≤ j := by omega
      have D := rDoes_ev h b a j haj hj
      cases hd : (zQ l w s b).D a j with
      | false =>
       rw [hd] at D
       refine ⟨(0, false), Prc.no (fun W u e' bd k => ?_), pre _ (Ev.dn (by omega) (Ev.bind D (Ev.bp rfl (Ev.now _))))⟩
       obtain ⟨r, rfl, _⟩ := same W e' bd
       have := k.1.2.2.1
       rw [hd] at this; cases this
      | true =>
       rw [hd] at D
       have kr := h.K_ok b a j
       have cr := (zQ l w s b).c0 a j c
       have tc := zBV t0 cr.1
       have C := (h.cost b a j c c0 c1).2
       have mj := zA6 l hj
       have fit := (h.fit (posV l a) (endV l j)).2.1
       obtain ⟨r, R, v⟩ := price_l0 h b way hw m (i + 1) (j + 1) ((zQ l w s b).K a j) (tot t ((zQ l w s b).C a j c)) (by omega) (by omega) kr.1 kr.2 tc.1 tc.2
       rw [if_neg (show ¬ j + 1 = 0 by omega), if_neg (show ¬ j + 1 = 0 by omega), show ((j + 1 : Nat) : Int) - 1 = (j : Int) by omega] at v
       have j3 : Ev (fun k => zN.j3 k l way w b (ends l) t (if a = 0 then -1 else c) (if a = 0 then false else (rd l (posV l a)).2.2.2.2.2.2.1) (i : Int) (j : Int) (posV l a) s) r := by
        have g1 : rd way (i : Int) = endV l j := ej.symm
        refine Ev.st (fun k => by rw [zN.j3]) ?_
        refine Ev.at_ (by omega) (by omega) ?_
        rw [g1]
        refine Ev.bind fit ?_
        refine Ev.at_ (by omega) (by omega) ?_
        rw [g1]
        refine Ev.at_ (by exact mj.1) (by exact mj.2.1) ?_
        rw [w64 (x := ((ends l).length : Int) - 1) (by omega) (by omega)]
        have e : decide ((j : Int) = ((ends l).length : Int) - 1) = decide (j + 1 = (ends l).length) := by rw [decide_eq_decide]; omega
        rw [e]
        refine Ev.bind C ?_
        refine Ev.bind (rTotal_ev t0 cr.1 t1 cr.2) ?_
        rw [nx i (by omega)]
        exact v
       have l2 : ∀ g x : Nat, x + g = j → a ≤ x → (∀ y, a ≤ y → y < x → (zQ l w s b).fo y = false) →
        ∃ r, Prc l (zQ l w s b) a c t (way.drop i) r ∧ Ev (fun k => zN.l2 k l way w b (ends l) t (if a = 0 then -1 else c) (if a = 0 then false else (rd l (posV l a)).2.2.2.2.2.2.1) ((a : Int) - 1) (i : Int) (j : Int) (x : Int) s) r := by
        intro g
        induction g with
        | zero =>
         intro x ex ax no
         have xj : x = j := by omega
         subst xj
         have ok : (zQ l w s b).ok a x := ⟨haj, hj, hd, no⟩
         refine ⟨r, ⟨fun q => ?_, fun W u e' bd k => ?_⟩, Ev.st (fun k => by rw [zN.l2]) ?_⟩
         · obtain ⟨W, e', k⟩ := R.1 q
           refine ⟨x :: W, ?_, ok, k⟩
           rw [dr, List.map_cons, e', ej]
         · obtain ⟨W', rfl, e2⟩ := same W e' bd
           exact R.2 W' u e2 (fun y hy => bd y (List.mem_cons_of_mem _ hy)) k.2
         · refine Ev.dn (by omega) ?_
           cases a with
           | zero => exact Ev.dn (by omega) j3
           | succ a =>
            refine Ev.dp (by omega) ?_
            refine Ev.gx (xs := ends l) (by omega) (by omega) ?_
            rw [show rd (ends l) (((a + 1 : Nat) : Int) - 1) = posV l (a + 1) by rw [show ((a + 1 : Nat) : Int) - 1 = (a : Int) by omega]; rfl]
            exact j3
        | succ g ihg =>
         intro x ex ax no
         have hx : x < (ends l).length := by omega
         have mx := zA6 l hx
         have pre2 : ∀ r, Ev (fun k => if (decide (Fc (rd l (endV l x)))) = true then (some (0, false)) else (zN.l2 k l way w b (ends l) t (if a = 0 then -1 else c) (if a = 0 then false else (rd l (posV l a)).2.2.2.2.2.2.1) ((a : Int) - 1) (i : Int) (j : Int) ((x + 1 : Nat) : Int) s)) r →
          Ev (fun k => zN.l2 k l way w b (ends l) t (if a = 0 then -1 else c) (if a = 0 then false else (rd l (posV l a)).2.2.2.2.2.2.1) ((a : Int) - 1) (i : Int) (j : Int) (x : Int) s) r := fun r v => by
          refine Ev.st (fun k => by rw [zN.l2]) (Ev.dp (by omega) ?_)
          refine Ev.gx (xs := ends l) (by omega) (by omega) ?_
          refine Ev.at_ (by exact mx.1) (by exact mx.2.1) ?_
          refine Ev.bind (rfcd_ev _) ?_
          rw [nx x (by omega)]
          exact v
         by_cases f : (zQ l w s b).fo x = true
         · refine ⟨(0, false), Prc.no (fun W u e' bd k => ?_), pre2 _ (Ev.bp f (Ev.now _))⟩
           obtain ⟨r, rfl, _⟩ := same W e' bd
           have := k.1.2.2.2 x ax (by omega)
           rw [f] at this; cases this
         · have f := Bool.eq_false_iff.2 f
           obtain ⟨r, R2, v2⟩ := ihg (x + 1) (by omega) (by omega) (fun y h1 h2 => by
            by_cases z : y = x
            · rw [z]; exact f
            · exact no y h1 (by omega))
           exact ⟨r, R2, pre2 _ (Ev.bn f v2)⟩
       obtain ⟨r', R', v'⟩ := l2 (j - a) a (by omega) (Nat.le_refl _) (fun y h1 h2 => by omega)
       refine ⟨r', R', pre _ (Ev.dn (by omega) (Ev.bind D (Ev.bn rfl ?_)))⟩
       refine Ev.st (fun k => by rw [zN.j1]) ?_
       rw [w64 (x := (a : Int) - 1 + 1) (by omega) (by omega), show (a : Int) - 1 + 1 = (a : Int) by omega]
       exact v'
  · refine ⟨(0, false), Prc.no (fun W u e' bd k => ?_), pre _ (Ev.dp (by omega) (Ev.now _))⟩
    obtain ⟨j, r, rfl, x, _⟩ := heads W e'
    exact no j (bd j (List.mem_cons_self ..)) x
theorem Price_ev (h : Sit l p w s) (b : Bool) (way : List Int) (hw : way.length ≤ 1000000) : ∃ r, Prc l (zQ l w s b) 0 0 0 way r ∧ Ev (fun k => zN.f k l way w s b) r := by
 obtain ⟨r, R, v⟩ := price_l0 h b way hw way.length 0 0 0 0 (by omega) (Nat.zero_le _) (Int.le_refl 0) (by omega) (Int.le_refl 0) (by omega)
 exact ⟨r, R, Ev.bind (rLegal_ev h.good) v⟩
theorem Net.Way.below {N : Net} : ∀ {W : List Nat} {a : Nat} {c t u : Int}, N.Way a c t W u → ∀ j, j ∈ W → j < N.n
 | [], _, _, _, _, _, j, m => by cases m
 | i :: r, _, _, _, _, h, j, m => by
  rcases List.mem_cons.1 m with rfl | m
  · exact h.1.2.1
  · exact Net.Way.below h.2 j m
theorem Price_yes (h : Sit l p w s) (b : Bool) {W : List Nat} {u : Int} (q : (zQ l w s b).Way 0 0 0 W u) : Ev (fun k => zN.f k l (W.map (endV l)) w s b) (u, true) := by
 have wl := q.len
 have nl := h.n_le
 have wl' : 0 + W.length ≤ (ends l).length := wl
 obtain ⟨r, R, v⟩ := Price_ev h b (W.map (endV l)) (by rw [List.length_map]; omega)
 rw [R.2 W u rfl q.below q] at v
 exact v
end
end Go.Proofs.YtjbobaeggdafpaaGreat.Vm
