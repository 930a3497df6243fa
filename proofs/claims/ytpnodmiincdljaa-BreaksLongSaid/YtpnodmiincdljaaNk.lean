/- The reference: what lines cost, the table, the fast answer. -/
import Derived.Test.YtpnodmiincdljaaNh
namespace Go.Proofs.Ytpnodmiincdljaa.Vm
open Go
open _root_.Go.RowKit (wrap64)
def renc : Option Int → Int
 | none => -1
 | some v => v
theorem renc_omin {o : Option Int} {x : Int} (h : ∀ v, o = some v → 0 ≤ v) : renc (some (omin o x)) = if renc o < 0 then x else if x < renc o then x else renc o := by
  cases o with
  | none => exact (if_pos (by decide)).symm
  | some v =>
    have := h v rfl
    show (if x < v then x else v) = if v < 0 then x else if x < v then x else v
    rw [if_neg (show ¬ v < 0 by omega)]
def RTab (N : Net) (m : Nat) (t : List Four) : Prop := t.length = N.n ∧ ∀ j : Nat, m ≤ j → j + 1 < N.n → ∀ c : Int, 0 ≤ c → c ≤ 3 → ix4 (rd t (j : Int)) c = renc (N.val (j + 1) c)
section
variable {l : List api_Item} {p : measure_Para} {w : Int} {s : api_Settings}
theorem rline_ev (h : Sit l p w s) (b : Bool) (a j : Nat) (haj : a ≤ j) (hj : j < (ends l).length) (c : Int) (c0 : 0 ≤ c) (c1 : c ≤ 3) :
    Ev (fun k => regletref09_line.f k l (ends l) ((a : Int) - 1) (j : Int) c w s b) (if (netOf l w s b).D a j = true then ((netOf l w s b).C a j c, (netOf l w s b).K a j) else (-1, 0)) := by
  have nl := h.n_le
  have mj := endV_mem l hj
  have fit := (h.fit (posV l a) (endV l j)).2.1
  have C := (h.cost b a j c c0 c1).2
  have j0 : Ev (fun k => regletref09_line.j0 k l (ends l) (j : Int) (if a = 0 then -1 else c) w (posV l a) (if a = 0 then false else (rd l (posV l a)).2.2.2.2.2.2.1) s) ((netOf l w s b).C a j c, (netOf l w s b).K a j) := by
    refine Ev.st (fun k => by rw [regletref09_line.j0]) ?_
    refine Ev.at_ (by omega) (by omega) ?_
    refine Ev.bind fit ?_
    refine Ev.at_ (by omega) (by omega) ?_
    refine Ev.at_ (by exact mj.1) (by exact mj.2.1) ?_
    rw [w64 (x := ((ends l).length : Int) - 1) (by omega) (by omega)]
    have e : decide ((j : Int) = ((ends l).length : Int) - 1) = decide (j + 1 = (ends l).length) := by rw [decide_eq_decide]; omega
    rw [e]
    exact Ev.bind C (Ev.now _)
  refine Ev.bind (rDoes_ev h b a j haj hj) (Ev.nc (fun z => ?_) (fun z => ?_))
  · rw [if_neg (by rw [z]; exact Bool.false_ne_true)]
    exact Ev.now _
  · rw [if_pos z]
    cases a with
    | zero => exact Ev.dn (by omega) j0
    | succ a =>
      have ma := endV_mem l (j := a) (by omega)
      rw [if_neg (by omega), if_neg (by omega)] at j0
      refine Ev.dp (by omega) ?_
      refine Ev.at_ (by omega) (by omega) ?_
      rw [show rd (ends l) (((a + 1 : Nat) : Int) - 1) = posV l (a + 1) by rw [show ((a + 1 : Nat) : Int) - 1 = (a : Int) by omega]; rfl]
      refine Ev.at_ (by exact ma.1) (by exact ma.2.1) ?_
      exact j0
theorem rrest_ev (h : Sit l p w s) (b : Bool) (t : List Four) (a : Nat) (ht : RTab (netOf l w s b) a t) (j : Nat) (haj : a ≤ j) (hj : j < (ends l).length) (c : Int) (c0 : 0 ≤ c) (c1 : c ≤ 3) :
    Ev (fun k => regletref09_rest.f k t (ends l) (j : Int) c) (renc ((netOf l w s b).val (j + 1) c)) := by
  have nl := h.n_le
  have tl : t.length = (ends l).length := ht.1
  unfold regletref09_rest.f
  rw [w64 (x := ((ends l).length : Int) - 1) (by omega) (by omega)]
  refine Ev.dc (fun q => ?_) (fun q => ?_)
  · have en : j + 1 = (netOf l w s b).n := by show j + 1 = (ends l).length; omega
    rw [en, (netOf l w s b).val_done]
    exact Ev.now _
  · rw [← ht.2 j haj (by show j + 1 < (ends l).length; omega) c c0 c1]
    refine Ev.at_ (xs := t) (by omega) (by omega) ?_
    refine Ev.at_ (by omega) (by show c < 4; omega) ?_
    exact Ev.now _
theorem least_l0 (h : Sit l p w s) (b : Bool) (t : List Four) (a : Nat) (ha : a < (ends l).length) (ht : RTab (netOf l w s b) a t) (c : Int) (c0 : 0 ≤ c) (c1 : c ≤ 3) :
    ∀ (g j : Nat) (o : Option Int), j + g = (ends l).length → a ≤ j → (∀ i, a ≤ i → i < j → (netOf l w s b).fo i = false) → (netOf l w s b).Upto a c j o →
      Ev (fun k => regletref09_least.l0 k t l (ends l) ((a : Int) - 1) c w b (renc o) (j : Int) s) (renc ((netOf l w s b).val a c))
 | 0, j, o, e, haj, hf, ho => by
  have := (ho.val ha (fun i hi q => by have : i < (ends l).length := q.2.1; omega)).is (Nat.le_of_lt ha)
  rw [this]
  exact Ev.st (fun k => by rw [regletref09_least.l0]) (Ev.dn (by omega) (Ev.now _))
 | g + 1, j, o, e, haj, hf, ho => by
  have nl := h.n_le
  have hj : j < (ends l).length := by omega
  have mj := endV_mem l hj
  have kr := h.K_ok b a j
  have cr := (netOf l w s b).c0 a j c
  have pos : ∀ v, o = some v → 0 ≤ v := fun v q => by
    rw [q] at ho
    obtain ⟨⟨i, W, _, k⟩, _⟩ := ho
    exact (k.range (Int.le_refl 0) (by omega)).1
  have j1 : ∀ o', (netOf l w s b).Upto a c (j + 1) o' → Ev (fun k => regletref09_least.j1 k t l (ends l) ((a : Int) - 1) c w b (renc o') (j : Int) s) (renc ((netOf l w s b).val a c)) := fun o' ho' => by
    refine Ev.st (fun k => by rw [regletref09_least.j1]) ?_
    refine Ev.at_ (by omega) (by omega) ?_
    refine Ev.at_ (by exact mj.1) (by exact mj.2.1) ?_
    refine Ev.bind (rfcd_ev _) (Ev.bc (fun z => ?_) (fun z => ?_))
    · have z' : (netOf l w s b).fo j = true := z
      have := (ho'.val ha (fun i hi q => by have := q.2.2.2 j haj (by omega); rw [z'] at this; cases this)).is (Nat.le_of_lt ha)
      rw [this]
      exact Ev.now _
    · rw [nx j (by omega)]
      exact least_l0 h b t a ha ht c c0 c1 g (j + 1) o' (by omega) (by omega) (fun i h1 h2 => by
        by_cases q : i = j
        · rw [q]; exact z
        · exact hf i h1 (by omega)) ho'
  refine Ev.st (fun k => by rw [regletref09_least.l0]) (Ev.dp (by omega) ?_)
  refine Ev.bind (rline_ev h b a j haj hj c c0 c1) ?_
  cases hd : (netOf l w s b).D a j with
  | false =>
    rw [if_neg Bool.false_ne_true]
    exact Ev.dn (by decide) (j1 o (ho.skip (fun q => by have := q.2.2.1; rw [hd] at this; cases this)))
  | true =>
    have ok : (netOf l w s b).ok a j := ⟨haj, hj, hd, hf⟩
    have hjn : j + 1 ≤ (netOf l w s b).n := by show j + 1 ≤ (ends l).length; omega
    rw [if_pos rfl]
    refine Ev.dp cr.1 (Ev.bind (rrest_ev h b t a ht j haj hj _ kr.1 kr.2) ?_)
    have v := (netOf l w s b).val_ok ((netOf l w s b).K a j) hjn
    cases hv : (netOf l w s b).val (j + 1) ((netOf l w s b).K a j) with
    | none =>
      rw [hv] at v
      exact Ev.dn (by decide) (j1 o (ho.dead v))
    | some r =>
      rw [hv] at v
      have rr := (netOf l w s b).val_range hjn hv
      have T := rTotal_ev cr.1 rr.1 cr.2 rr.2
      have go := j1 _ (ho.take ok v)
      rw [renc_omin pos] at go
      refine Ev.dp rr.1 (Ev.dc (fun q => ?_) (fun q => ?_))
      · rw [if_pos q] at go
        exact Ev.bind T go
      · rw [if_neg q] at go
        refine Ev.bind T (Ev.dc (fun q2 => ?_) (fun q2 => ?_))
        · rw [if_pos q2] at go
          exact Ev.bind T go
        · rw [if_neg q2] at go
          exact go
theorem least_ev (h : Sit l p w s) (b : Bool) (t : List Four) (a : Nat) (ha : a < (ends l).length) (ht : RTab (netOf l w s b) a t) (c : Int) (c0 : 0 ≤ c) (c1 : c ≤ 3) :
    Ev (fun k => regletref09_least.f k t l (ends l) ((a : Int) - 1) c w s b) (renc ((netOf l w s b).val a c)) := by
  have nl := h.n_le
  unfold regletref09_least.f
  rw [w64 (x := (a : Int) - 1 + 1) (by omega) (by omega), show (a : Int) - 1 + 1 = (a : Int) by omega]
  exact least_l0 h b t a ha ht c c0 c1 ((ends l).length - a) a none (by omega) (Nat.le_refl _) (fun i h1 h2 => by omega) (Net.Upto.start _ _ _)
theorem fill_l1 (h : Sit l p w s) (b : Bool) (m : Nat) (hm : m + 1 < (ends l).length) (q : List Four) (go : ∀ t, RTab (netOf l w s b) m t → ∃ t', RTab (netOf l w s b) 0 t' ∧ Ev (fun k => regletref09_fill.l0 k l (ends l) w b t ((m : Int) - 1) s) t') :
    ∀ (d c : Nat) (t : List Four), c + d = 4 → RTab (netOf l w s b) (m + 1) t → (∀ i : Nat, i < c → ix4 (rd t (m : Int)) (i : Int) = renc ((netOf l w s b).val (m + 1) (i : Int))) →
      ∃ t', RTab (netOf l w s b) 0 t' ∧ Ev (fun k => regletref09_fill.l1 k l (ends l) w b t (m : Int) (c : Int) s) t'
 | 0, c, t, e, ht, hc => by
  obtain ⟨t', a1, a2⟩ := go t ⟨ht.1, fun j h1 h2 x x0 x1 => by
    by_cases z : j = m
    · subst z
      have := hc x.toNat (by omega)
      rwa [Int.toNat_of_nonneg x0] at this
    · exact ht.2 j (by omega) h2 x x0 x1⟩
  refine ⟨t', a1, Ev.st (fun k => by rw [regletref09_fill.l1]) ?_⟩
  have nl := h.n_le
  refine Ev.dn (by omega) ?_
  rw [w64 (x := (m : Int) - 1) (by omega) (by omega)]
  exact a2
 | d + 1, c, t, e, ht, hc => by
  have nl := h.n_le
  have tl : t.length = (ends l).length := ht.1
  have cl : c < 4 := by omega
  have L := least_ev h b t (m + 1) hm ht (c : Int) (by omega) (by omega)
  obtain ⟨v, hv⟩ : ∃ v, v = renc ((netOf l w s b).val (m + 1) (c : Int)) := ⟨_, rfl⟩
  obtain ⟨t', a1, a2⟩ := fill_l1 h b m hm q go d (c + 1) (t.set m (upd4 (rd t (m : Int)) c v)) (by omega) ⟨by rw [List.length_set]; exact ht.1, fun j h1 h2 x x0 x1 => by
      rw [rd_set_ne (by omega)]
      exact ht.2 j h1 h2 x x0 x1⟩ (fun i hi => by
      rw [rd_set_eq (by omega), ix4_upd _ _ cl (by omega)]
      by_cases z : i = c
      · rw [if_pos z, hv, z]
      · rw [if_neg z]; exact hc i (by omega))
  refine ⟨t', a1, Ev.st (fun k => by rw [regletref09_fill.l1]) ?_⟩
  refine Ev.dp (by omega) ?_
  rw [show ((m + 1 : Nat) : Int) - 1 = (m : Int) by omega, ← hv] at L
  refine Ev.bind L ?_
  refine Ev.ifp (by omega) (Ev.ifp (by omega) ?_)
  rw [Int.toNat_natCast, Int.toNat_natCast]
  refine Ev.bind (Ev.opt (show t[m]? = some (rd t (m : Int)) by rw [rd_get t m (by omega)]; exact List.getElem?_eq_getElem _)) ?_
  refine Ev.ifp cl ?_
  rw [nx c (by omega)]
  exact a2
theorem fill_l0 (h : Sit l p w s) (b : Bool) : ∀ (m : Nat) (t : List Four), m + 1 ≤ (ends l).length → RTab (netOf l w s b) m t → ∃ t', RTab (netOf l w s b) 0 t' ∧ Ev (fun k => regletref09_fill.l0 k l (ends l) w b t ((m : Int) - 1) s) t'
 | 0, t, _, ht => ⟨t, ht, Ev.st (fun k => by rw [regletref09_fill.l0]) (Ev.dn (by omega) (Ev.now _))⟩
 | m + 1, t, hm, ht => by
  obtain ⟨t', a1, a2⟩ := fill_l1 h b m (by omega) t (fun t ht => fill_l0 h b m t (by omega) ht) 4 0 t rfl ht (fun i hi => by omega)
  refine ⟨t', a1, Ev.st (fun k => by rw [regletref09_fill.l0]) ?_⟩
  refine Ev.dp (by omega) ?_
  rw [show ((m + 1 : Nat) : Int) - 1 = (m : Int) by omega]
  exact a2
theorem fill_ev (h : Sit l p w s) (b : Bool) : ∃ t, RTab (netOf l w s b) 0 t ∧ Ev (fun k => regletref09_fill.f k l (ends l) w s b) t := by
  have nl := h.n_le
  have n0 := h.n_pos
  obtain ⟨t', a1, a2⟩ := fill_l0 h b ((ends l).length - 1) (List.replicate (ends l).length (0, 0, 0, 0)) (by omega) ⟨by simp [netOf], fun j h1 h2 => by
    have : j + 1 < (ends l).length := h2
    omega⟩
  refine ⟨t', a1, Ev.ifp ⟨rfl, by omega, by omega⟩ ?_⟩
  rw [w64 (x := ((ends l).length : Int) - 2) (by omega) (by omega), Int.toNat_natCast, show ((ends l).length : Int) - 2 = (((ends l).length - 1 : Nat) : Int) - 1 by omega]
  exact a2
theorem fast_l1 (h : Sit l p w s) (b : Bool) (tab : List Four) (ht : RTab (netOf l w s b) 0 tab) (total : Int) (z z2 : api_Breaking) :
    ∀ (g a : Nat) (c t r : Int) (out : List Int), a + g = (ends l).length → 0 ≤ t → t ≤ 1125899906842624 → 0 ≤ c → c ≤ 3 → (netOf l w s b).val a c = some r → tot t r = total → out.length ≤ a →
      ∃ W, (netOf l w s b).First a c t W total ∧ Ev (fun k => regletref09_Fast.l1 k l w (ends l) b tab total t c ((a : Int) - 1) s z (out, z2.2)) (out ++ W.map (endV l), z2.2) := by
  have nl := h.n_le
  intro g
  induction g using Nat.strongRecOn with
  | _ g ih =>
    intro a c t r out e t0 t1 c0 c1 hr htot hout
    by_cases ea : a = (ends l).length
    · subst ea
      have y : some r = some 0 := hr.symm.trans ((netOf l w s b).val_done c)
      cases y
      rw [tot_z' t1] at htot
      subst htot
      refine ⟨[], Net.First.done _ _ _, Ev.st (fun k => by rw [regletref09_Fast.l1]) ?_⟩
      rw [w64 (x := ((ends l).length : Int) - 1) (by omega) (by omega)]
      exact Ev.dn (by omega) (Ev.some_ (by simp))
    · have ha : a < (ends l).length := by omega
      obtain ⟨j1, h1⟩ := Net.Hit.ex (N := netOf l w s b) t0 ha hr
      rw [htot] at h1
      have j1n : j1 < (ends l).length := h1.1.2.1
      have inner : ∀ (d j : Nat), j + d = j1 + 1 → a ≤ j → (∀ i, i < j → ¬ (netOf l w s b).Hit a c t total i) →
          ∃ W, (netOf l w s b).First a c t W total ∧ Ev (fun k => regletref09_Fast.l2 k l w (ends l) b tab total t c ((a : Int) - 1) ((a : Int) - 1) (j : Int) s z (out, z2.2)) (out ++ W.map (endV l), z2.2) := by
        intro d
        induction d with
        | zero => exact fun j e0 _ no => absurd h1 (no j1 (by omega))
        | succ d ihd =>
          intro j e0 haj no
          have hj : j < (ends l).length := by omega
          have kr := h.K_ok b a j
          have cr := (netOf l w s b).c0 a j c
          have tc := tot_ok t0 cr.1
          have hjn : j + 1 ≤ (netOf l w s b).n := by show j + 1 ≤ (ends l).length; omega
          have j3 : ¬ (netOf l w s b).Hit a c t total j → ∃ W, (netOf l w s b).First a c t W total ∧ Ev (fun k => regletref09_Fast.j3 k l w (ends l) b tab total t c ((a : Int) - 1) ((a : Int) - 1) (j : Int) s z (out, z2.2)) (out ++ W.map (endV l), z2.2) := fun nh => by
            have jj : ¬ j = j1 := fun q => by rw [q] at nh; exact nh h1
            obtain ⟨W, f, v⟩ := ihd (j + 1) (by omega) (by omega) (fun i hi => by
              by_cases q : i = j
              · rw [q]; exact nh
              · exact no i (by omega))
            refine ⟨W, f, Ev.st (fun k => by rw [regletref09_Fast.j3]) ?_⟩
            rw [nx j (by omega)]
            exact v
          have L := rline_ev h b a j haj hj c c0 c1
          cases hd : (netOf l w s b).D a j with
          | false =>
            rw [hd, if_neg Bool.false_ne_true] at L
            obtain ⟨W, f, v⟩ := j3 (fun q => by have := q.1.2.2.1; rw [hd] at this; cases this)
            refine ⟨W, f, Ev.st (fun k => by rw [regletref09_Fast.l2]) ?_⟩
            refine Ev.dp (by omega) ?_
            refine Ev.bind L ?_
            exact Ev.dp (by decide) v
          | true =>
            rw [hd, if_pos rfl] at L
            have ok : (netOf l w s b).ok a j := ⟨haj, hj, hd, fun i i1 i2 => h1.1.2.2.2 i i1 (by omega)⟩
            have R := rrest_ev h b tab 0 ht j (Nat.zero_le _) hj _ kr.1 kr.2
            cases hv : (netOf l w s b).val (j + 1) ((netOf l w s b).K a j) with
            | none =>
              rw [hv] at R
              obtain ⟨W, f, v⟩ := j3 (fun q => by obtain ⟨_, r', q, _⟩ := q; rw [hv] at q; cases q)
              refine ⟨W, f, Ev.st (fun k => by rw [regletref09_Fast.l2]) ?_⟩
              refine Ev.dp (by omega) ?_
              refine Ev.bind L ?_
              refine Ev.dn (by dsimp only; omega) ?_
              refine Ev.bind R ?_
              exact Ev.dn (by decide) v
            | some r' =>
              rw [hv] at R
              have rr := (netOf l w s b).val_range hjn hv
              by_cases eq : tot (tot t ((netOf l w s b).C a j c)) r' = total
              · obtain ⟨W, f, v⟩ := ih ((ends l).length - (j + 1)) (by omega) (j + 1) ((netOf l w s b).K a j) (tot t ((netOf l w s b).C a j c)) r' (out ++ [endV l j]) (by omega) tc.1 tc.2 kr.1 kr.2 hv eq (by simp; omega)
                rw [← htot] at f no eq
                refine ⟨j :: W, htot ▸ f.step t0 t1 ha hr ⟨ok, r', hv, eq⟩ no, Ev.st (fun k => by rw [regletref09_Fast.l2]) ?_⟩
                rw [htot] at eq
                refine Ev.dp (by omega) ?_
                refine Ev.bind L ?_
                refine Ev.dn (by dsimp only; omega) ?_
                refine Ev.bind R ?_
                refine Ev.dp rr.1 ?_
                refine Ev.bind (rTotal_ev t0 cr.1 t1 cr.2) ?_
                refine Ev.bind (rTotal_ev tc.1 rr.1 tc.2 rr.2) ?_
                refine Ev.dp eq ?_
                refine Ev.gx (xs := ends l) (by omega) (by omega) ?_
                refine Ev.ifp (app_ok (by dsimp only; omega)) ?_
                refine Ev.st (fun k => by rw [regletref09_Fast.j4]) ?_
                refine Ev.bind (rTotal_ev t0 cr.1 t1 cr.2) ?_
                refine Ev.st (fun k => by rw [regletref09_Fast.j5]) ?_
                refine Ev.dn (by omega) ?_
                rw [show ((j + 1 : Nat) : Int) - 1 = (j : Int) by omega, List.append_assoc] at v
                exact v
              · obtain ⟨W, f, v⟩ := j3 (fun q => by
                  obtain ⟨_, r2, q, q2⟩ := q
                  rw [hv] at q
                  cases q
                  exact eq q2)
                refine ⟨W, f, Ev.st (fun k => by rw [regletref09_Fast.l2]) ?_⟩
                refine Ev.dp (by omega) ?_
                refine Ev.bind L ?_
                refine Ev.dn (by dsimp only; omega) ?_
                refine Ev.bind R ?_
                refine Ev.dp rr.1 ?_
                refine Ev.bind (rTotal_ev t0 cr.1 t1 cr.2) ?_
                refine Ev.bind (rTotal_ev tc.1 rr.1 tc.2 rr.2) ?_
                exact Ev.dn eq v
      obtain ⟨W, f, v⟩ := inner (j1 + 1 - a) a (by have := h1.1.1; omega) (Nat.le_refl _) (fun i hi q => by have := q.1.1; omega)
      refine ⟨W, f, Ev.st (fun k => by rw [regletref09_Fast.l1]) ?_⟩
      rw [w64 (x := ((ends l).length : Int) - 1) (by omega) (by omega)]
      refine Ev.dp (by omega) ?_
      rw [w64 (x := (a : Int) - 1 + 1) (by omega) (by omega), show (a : Int) - 1 + 1 = (a : Int) by omega]
      exact v
theorem Fast_ev (h : Sit l p w s) : ∃ W u e, Brk l w s W u e ∧ Ev (fun k => regletref09_Fast.f k l w s) (W.map (endV l), u, e) := by
  have n0 := h.n_pos
  obtain ⟨t, ht, et⟩ := fill_ev h false
  have done : ∀ (b : Bool) (t : List Four) (r : Int), RTab (netOf l w s b) 0 t → (netOf l w s b).val 0 0 = some r → ∃ W, (netOf l w s b).First 0 0 0 W r ∧ Ev (fun k => regletref09_Fast.j0 k l w (ends l) b t r s (([] : List Int), 0, (false))) (W.map (endV l), r, b) := by
    intro b t r ht hr
    have rr := (netOf l w s b).val_range (Nat.zero_le _) hr
    obtain ⟨W, f, v⟩ := fast_l1 h b t ht r (([] : List Int), 0, (false)) ([], r, b) (ends l).length 0 0 0 r [] (by omega) (Int.le_refl 0) (by omega) (Int.le_refl 0) (by omega) hr (tot_z rr.2) (by simp)
    exact ⟨W, f, Ev.st (fun k => by rw [regletref09_Fast.j0]; rfl) v⟩
  have L := least_ev h false t 0 n0 ht 0 (by omega) (by omega)
  cases hr : (netOf l w s false).val 0 0 with
  | some r =>
    rw [hr] at L
    have rr := (netOf l w s false).val_range (Nat.zero_le _) hr
    obtain ⟨W, f, v⟩ := done false t r ht hr
    refine ⟨W, r, false, ⟨f, fun z => by cases z⟩, Ev.bind (rLegal_ev h.good) (Ev.bind et (Ev.bind L ?_))⟩
    exact Ev.dn (by show ¬ r < 0; omega) v
  | none =>
    rw [hr] at L
    obtain ⟨t2, ht2, et2⟩ := fill_ev h true
    have L2 := least_ev h true t2 0 n0 ht2 0 (by omega) (by omega)
    cases hr2 : (netOf l w s true).val 0 0 with
    | none =>
      exfalso
      have v := (netOf l w s true).val_ok (a := 0) 0 (Nat.zero_le _)
      rw [hr2] at v
      obtain ⟨W, u, q⟩ := h.loose (ends l).length 0 0 0 (by omega)
      exact v W u q
    | some r =>
      rw [hr2] at L2
      obtain ⟨W, f, v⟩ := done true t2 r ht2 hr2
      refine ⟨W, r, true, ⟨f, fun _ => ?_⟩, Ev.bind (rLegal_ev h.good) (Ev.bind et (Ev.bind L ?_))⟩
      · have v := (netOf l w s false).val_ok (a := 0) 0 (Nat.zero_le _)
        rw [hr] at v
        exact v
      · exact Ev.dp (by decide) (Ev.bind et2 (Ev.bind L2 v))
end
end Go.Proofs.Ytpnodmiincdljaa.Vm
