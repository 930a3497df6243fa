/- The breaking that is chosen: the first of the ways that cost least. -/
import Derived.Test.YtjbobaeggdafpaaGreatNe
namespace Go.Proofs.YtjbobaeggdafpaaGreat.Vm
open Go
open _root_.Go.RowKit (wrap64)
section
variable {l : List api_Item} {p : measure_Para} {w : Int} {s : api_Settings}
theorem choose_ev (h : Sit l p w s) (b : Bool) (tab : List Four) (x : List Int) (hx : Nxt (netOf l w s b) x) (ht : Tab (netOf l w s b) 0 tab) (total : Int) :
 ∀ (g a : Nat) (c t r : Int) (out : List Int), a + g = (ends l).length → 0 ≤ t → t ≤ 1125899906842624 → 0 ≤ c → c ≤ 3 → (netOf l w s b).val a c = some r → tot t r = total → out.length ≤ a →
  ∃ W, (netOf l w s b).First a c t W total ∧ Ev (fun k => breaks_search_choose.j0 k (srch p w s b tab x) total out ((a : Int) - 1) c t ((ends l).length : Int)) (out ++ W.map (endV l)) := by
 have nl := h.n_le
 intro g
 induction g using Nat.strongRecOn with
 | _ g ih =>
  intro a c t r out e t0 t1 c0 c1 hr htot hout
  have wn : wrap64 (((ends l).length : Int) - 1) = ((ends l).length : Int) - 1 := w64 (by omega) (by omega)
  by_cases ea : a = (ends l).length
  · clear wn
    subst ea
    have z : some r = some 0 := hr.symm.trans ((netOf l w s b).val_done c)
    cases z
    rw [tot_z' t1] at htot
    subst htot
    refine ⟨[], Net.First.done _ _ _, Ev.st (fun k => by rw [breaks_search_choose.j0]) ?_⟩
    refine Ev.dp (w64 (by omega) (by omega)).symm (Ev.some_ (by simp))
  · have ha : a < (ends l).length := by omega
    obtain ⟨m, em, hm⟩ := hx.2 a ha
    have mn : m < (ends l).length := hm.2.1
    obtain ⟨j1, h1⟩ := Net.Hit.ex (N := netOf l w s b) t0 ha hr
    rw [htot] at h1
    have j1m : j1 ≤ m := by
     by_cases q : m < j1
     · exact absurd h1.1 (hm.no q)
     · omega
    have xl : x.length = (ends l).length + 1 := hx.1
    have tl : tab.length = (ends l).length := ht.1
    have inner : ∀ (d j : Nat), j + d = j1 + 1 → a ≤ j → (∀ i, i < j → ¬ (netOf l w s b).Hit a c t total i) →
     ∃ W, (netOf l w s b).First a c t W total ∧ Ev (fun k => breaks_search_choose.l1 k (srch p w s b tab x) total out ((a : Int) - 1) c t ((ends l).length : Int) (m : Int) (j : Int)) (out ++ W.map (endV l)) := by
     intro d
     induction d with
     | zero => exact fun j e0 _ no => absurd h1 (no j1 (by omega))
     | succ d ihd =>
      intro j e0 haj no
      have hjm : j ≤ m := by omega
      have hj : j < (ends l).length := by omega
      have kr := h.K_ok b a j
      have cr := (netOf l w s b).c0 a j c
      have tc := tot_ok t0 cr.1
      have hjn : j + 1 ≤ (netOf l w s b).n := by show j + 1 ≤ (ends l).length; omega
      have j2 : ¬ (netOf l w s b).Hit a c t total j → ∃ W, (netOf l w s b).First a c t W total ∧ Ev (fun k => breaks_search_choose.j2 k (srch p w s b tab x) total out ((a : Int) - 1) c t ((ends l).length : Int) (m : Int) (j : Int)) (out ++ W.map (endV l)) := fun nh => by
       have jj : ¬ j = j1 := fun q => by rw [q] at nh; exact nh h1
       obtain ⟨W, f, v⟩ := ihd (j + 1) (by omega) (by omega) (fun i hi => by
        by_cases q : i = j
        · rw [q]; exact nh
        · exact no i (by omega))
       refine ⟨W, f, Ev.st (fun k => by rw [breaks_search_choose.j2]) ?_⟩
       rw [nx j (by omega)]
       exact v
      cases hd : (netOf l w s b).D a j with
      | false =>
       obtain ⟨W, f, v⟩ := j2 (fun q => by have := q.1.2.2.1; rw [hd] at this; cases this)
       refine ⟨W, f, Ev.st (fun k => by rw [breaks_search_choose.l1]) ?_⟩
       refine Ev.dp (by omega) ?_
       refine Ev.bind (line_ev h b tab x a j haj hj) ?_
       exact Ev.bp (by rw [hd]; rfl) v
      | true =>
       have ok : (netOf l w s b).ok a j := ⟨haj, hj, hd, fun i h1 h2 => hm.2.2.2 i h1 (by omega)⟩
       have j3 : ∀ e3 : Int, e3 = oenc ((netOf l w s b).val (j + 1) ((netOf l w s b).K a j)) → ∃ W, (netOf l w s b).First a c t W total ∧ Ev (fun k => breaks_search_choose.j3 k (srch p w s b tab x) total out ((a : Int) - 1) c t ((ends l).length : Int) (m : Int) (j : Int) e3 (fitV l (posV l a) (endV l j) w)) (out ++ W.map (endV l)) := by
        rintro _ rfl
        cases hv : (netOf l w s b).val (j + 1) ((netOf l w s b).K a j) with
        | none =>
         obtain ⟨W, f, v⟩ := j2 (fun q => by obtain ⟨_, r', q, _⟩ := q; rw [hv] at q; cases q)
         refine ⟨W, f, Ev.st (fun k => by rw [breaks_search_choose.j3]) ?_⟩
         refine Ev.bind (cost_ev h b tab x a j haj hj c c0 c1) ?_
         refine Ev.bind (Total_ev t0 cr.1 t1 cr.2) ?_
         exact Ev.dp rfl v
        | some r' =>
         have rr := (netOf l w s b).val_range hjn hv
         by_cases eq : tot (tot t ((netOf l w s b).C a j c)) r' = total
         · obtain ⟨W, f, v⟩ := ih ((ends l).length - (j + 1)) (by omega) (j + 1) ((netOf l w s b).K a j) (tot t ((netOf l w s b).C a j c)) r' (out ++ [endV l j]) (by omega) tc.1 tc.2 kr.1 kr.2 hv eq (by simp; omega)
           rw [← htot] at f no eq
           refine ⟨j :: W, htot ▸ f.step t0 t1 ha hr ⟨ok, r', hv, eq⟩ no, Ev.st (fun k => by rw [breaks_search_choose.j3]) ?_⟩
           rw [htot] at eq
           refine Ev.bind (cost_ev h b tab x a j haj hj c c0 c1) ?_
           refine Ev.bind (Total_ev t0 cr.1 t1 cr.2) ?_
           refine Ev.dn (by show ¬ r' = _; omega) ?_
           refine Ev.bind (Total_ev tc.1 rr.1 tc.2 rr.2) ?_
           refine Ev.xn eq ?_
           refine Ev.st (fun k => by rw [breaks_search_choose.j4]) ?_
           refine Ev.bind (h.End j hj) ?_
           refine Ev.ifp (app_ok (by omega)) ?_
           rw [show ((j + 1 : Nat) : Int) - 1 = (j : Int) by omega] at v
           rw [List.append_assoc] at v
           exact v
         · obtain ⟨W, f, v⟩ := j2 (fun q => by
            obtain ⟨_, r2, q, q2⟩ := q
            rw [hv] at q
            cases q
            exact eq q2)
           refine ⟨W, f, Ev.st (fun k => by rw [breaks_search_choose.j3]) ?_⟩
           refine Ev.bind (cost_ev h b tab x a j haj hj c c0 c1) ?_
           refine Ev.bind (Total_ev t0 cr.1 t1 cr.2) ?_
           refine Ev.dn (by show ¬ r' = _; omega) ?_
           refine Ev.bind (Total_ev tc.1 rr.1 tc.2 rr.2) ?_
           exact Ev.xp eq v
       obtain ⟨W, f, v⟩ := j3 _ rfl
       refine ⟨W, f, Ev.st (fun k => by rw [breaks_search_choose.l1]) ?_⟩
       refine Ev.dp (by omega) ?_
       refine Ev.bind (line_ev h b tab x a j haj hj) ?_
       refine Ev.bn (by rw [hd]; rfl) ?_
       rw [wn]
       clear wn
       refine Ev.dc (fun c => ?_) (fun c => ?_)
       · have e3 := ht.2 j (Nat.zero_le _) (by show j + 1 < (ends l).length; omega) _ kr.1 kr.2
         rw [← e3] at v
         refine Ev.at_ (xs := tab) (by omega) (by omega) ?_
         refine Ev.at_ (by exact kr.1) (by show (netOf l w s b).K a j < 4; omega) ?_
         exact v
       · have en : j + 1 = (netOf l w s b).n := by show j + 1 = (ends l).length; omega
         rw [en, (netOf l w s b).val_done] at v
         exact v
    obtain ⟨W, f, v⟩ := inner (j1 + 1 - a) a (by have := h1.1.1; omega) (Nat.le_refl _) (fun i hi q => by have := q.1.1; omega)
    refine ⟨W, f, Ev.st (fun k => by rw [breaks_search_choose.j0]) ?_⟩
    rw [wn]
    clear wn
    refine Ev.dn (by omega) ?_
    show Ev (fun k => (at? x (wrap64 ((a : Int) - 1 + 1))).bind fun e => breaks_search_choose.l1 k (srch p w s b tab x) total out ((a : Int) - 1) c t ((ends l).length : Int) e (wrap64 ((a : Int) - 1 + 1))) _
    rw [w64 (x := (a : Int) - 1 + 1) (by omega) (by omega), show (a : Int) - 1 + 1 = (a : Int) by omega]
    refine Ev.at_ (by omega) (by omega) ?_
    rw [em]
    exact v
structure Brk (l : List api_Item) (w : Int) (s : api_Settings) (W : List Nat) (u : Int) (e : Bool) : Prop where
 first : (netOf l w s e).First 0 0 0 W u
 tight : e = true → ∀ W' u', ¬ (netOf l w s false).Way 0 0 0 W' u'
theorem Break_ev (h : Sit l p w s) : ∃ W u e, Brk l w s W u e ∧ Ev (fun k => breaks_Break.f k p w s) ((W.map (endV l), u, e), 0) := by
 have n0 := h.n_pos
 have chk := Check9_ev w s
 have hw := h.ws
 unfold WS at hw
 rw [if_neg (by omega), if_neg (by omega), if_pos hw.2.2] at chk
 obtain ⟨x, hx, ex⟩ := forced_ev h false [] []
 obtain ⟨t, ht, et⟩ := weigh_ev h false [] x hx
 have done : ∀ (b : Bool) (t : List Four) (x : List Int) (r : Int), Nxt (netOf l w s b) x → Tab (netOf l w s b) 0 t → (netOf l w s b).val 0 0 = some r → ∃ W, (netOf l w s b).First 0 0 0 W r ∧ Ev (fun k => breaks_Break.j0 k r (([] : List Int), 0, (false)) (srch p w s b t x)) ((W.map (endV l), r, b), 0) := by
  intro b t x r hx ht hr
  have rr := (netOf l w s b).val_range (Nat.zero_le _) hr
  obtain ⟨W, f, v⟩ := choose_ev h b t x hx ht r (ends l).length 0 0 0 r [] (by omega) (Int.le_refl 0) (by omega) (Int.le_refl 0) (by omega) hr (tot_z rr.2) (by simp)
  refine ⟨W, f, Ev.st (fun k => by rw [breaks_Break.j0]) ?_⟩
  refine Ev.bind (Ev.bind h.Ends v) ?_
  exact Ev.now _
 cases hr : (netOf l w s false).val 0 0 with
 | some r =>
  rw [hr] at et
  have rr := (netOf l w s false).val_range (Nat.zero_le _) hr
  obtain ⟨W, f, v⟩ := done false t x r hx ht hr
  refine ⟨W, r, false, ⟨f, fun z => by cases z⟩, Ev.bind chk (Ev.xn rfl (Ev.bind ex (Ev.bind et ?_)))⟩
  exact Ev.dn (by show ¬ r = _; omega) v
 | none =>
  rw [hr] at et
  obtain ⟨t2, ht2, et2⟩ := weigh_ev h true t x hx.same
  cases hr2 : (netOf l w s true).val 0 0 with
  | none =>
   exfalso
   have v := (netOf l w s true).val_ok (a := 0) 0 (Nat.zero_le _)
   rw [hr2] at v
   obtain ⟨W, u, q⟩ := h.loose (ends l).length 0 0 0 (by omega)
   exact v W u q
  | some r =>
   rw [hr2] at et2
   obtain ⟨W, f, v⟩ := done true t2 x r hx.same ht2 hr2
   refine ⟨W, r, true, ⟨f, fun _ => ?_⟩, Ev.bind chk (Ev.xn rfl (Ev.bind ex (Ev.bind et ?_)))⟩
   · have v := (netOf l w s false).val_ok (a := 0) 0 (Nat.zero_le _)
     rw [hr] at v
     exact v
   · exact Ev.dp rfl (Ev.bind et2 v)
end
end Go.Proofs.YtjbobaeggdafpaaGreat.Vm
