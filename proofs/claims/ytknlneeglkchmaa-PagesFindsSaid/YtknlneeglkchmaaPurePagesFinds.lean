/- Of any pages pages.Find tells the page of any line, and pages.End the line behind it, as the law's own look through them does. -/
import Derived.Test.YtknlneeglkchmaaPx14
import Derived.Test.YtknlneeglkchmaaPx16
import Derived.Test.YtknlneeglkchmaaPg3
namespace Go.Proofs.Ytknlneeglkchmaa.Pure
open Go.RowKit Go.Proofs.YtknlneeglkchmaaW.PrintWords Go.Proofs.YtknlneeglkchmaaW.PrintLast
open Go.Proofs.Ytknlneeglkchmaa.P
/-- rising, so many at most, each so far at most -/
structure Rising (s : List Int) (at_ : Int) : Prop where
  len : (s.length : Int) ≤ 200
  up : ∀ i j : Int, 0 ≤ i → i < j → j < s.length → rd s i < rd s j
  top : ∀ i : Int, 0 ≤ i → i < s.length → rd s i < at_
/-- the place of the last one that isn't above x -/
def LastAt (s : List Int) (x v : Int) : Prop := -1 ≤ v ∧ v < s.length ∧ (∀ j, 0 ≤ j → j ≤ v → rd s j ≤ x) ∧ ∀ j, v < j → j < s.length → x < rd s j
theorem LastAt.uniq {s : List Int} {x v u : Int} (h : LastAt s x v) (k : LastAt s x u) : v = u := by
  obtain ⟨a, b, c, d⟩ := h
  obtain ⟨a', b', c', d'⟩ := k
  rcases Int.lt_trichotomy v u with h | h | h
  · have := d u h b'; have := c' u (by omega) (Int.le_refl _); omega
  · exact h
  · have := d' v h b; have := c v (by omega) (Int.le_refl _); omega
theorem find_loop {s : List Int} {at_ x : Int} (h : Rising s at_) : ∀ (d : Nat) (lo hi : Int), 0 ≤ lo → lo ≤ hi → hi ≤ s.length → hi - lo ≤ d → (∀ j, 0 ≤ j → j < lo → rd s j ≤ x) → (∀ j, hi ≤ j → j < s.length → x < rd s j) →
    ∃ v, LastAt s x v ∧ Ev (fun k => pages_Find.l0 k s x lo hi) v := by
  have hl := h.len
  intro d
  induction d using Nat.strongRecOn with
  | _ d ih =>
    intro lo hi h0 h1 h2 h3 h4 h5
    by_cases c : lo < hi
    · have m : wrap64 (Int.tdiv (wrap64 (lo + hi)) 2) = (lo + hi) / 2 := by
        rw [w64 (x := lo + hi) (by omega) (by omega), Int.tdiv_eq_ediv_of_nonneg (by omega)]
        exact w64 (by omega) (by omega)
      have b1 : lo ≤ (lo + hi) / 2 := by omega
      have b2 : (lo + hi) / 2 < hi := by omega
      generalize hm : (lo + hi) / 2 = mid at *
      by_cases q : rd s mid ≤ x
      · obtain ⟨v, hv, he⟩ := ih (hi - (mid + 1)).toNat (by omega) (mid + 1) hi (by omega) (by omega) h2 (by omega) (fun j a b => by
          by_cases e : j = mid
          · subst e; exact q
          · have := h.up j mid a (by omega) (by omega); omega) h5
        refine ⟨v, hv, pages_Find.l0.ev (Ev.ifp c ?_)⟩
        rw [m, w64 (x := mid + 1) (by omega) (by omega)]
        exact Ev.ifp (by omega) (Ev.ifp (by omega) (Ev.ifp q he))
      · obtain ⟨v, hv, he⟩ := ih (mid - lo).toNat (by omega) lo mid h0 b1 (by omega) (by omega) h4 (fun j a b => by
          by_cases e : j = mid
          · subst e; omega
          · have := h.up mid j (by omega) (by omega) b; omega)
        refine ⟨v, hv, pages_Find.l0.ev (Ev.ifp c ?_)⟩
        rw [m]
        exact Ev.ifp (by omega) (Ev.ifp (by omega) (Ev.ifn q he))
    · have e : lo = hi := by omega
      subst e
      refine ⟨lo - 1, ⟨by omega, by omega, fun j a b => h4 j a (by omega), fun j a b => h5 j (by omega) b⟩, pages_Find.l0.ev (Ev.ifn c (Ev.some_ (w64 (by omega) (by omega))))⟩
theorem end_eq {s : List Int} (hs : (s.length : Int) ≤ 1099511627776) {p : Int} (h0 : 0 ≤ p) (h1 : p < s.length) (n : Int) : ∃ r, pages_End.f s p n = some r ∧ regletref12_End.f s p n = some r := by
  unfold pages_End.f regletref12_End.f
  rw [w64 (x := (s.length : Int) - 1) (by omega) (by omega), w64 (x := p + 1) (by omega) (by omega)]
  by_cases c : p < (s.length : Int) - 1
  · rw [if_pos c, if_pos (by omega), if_pos (by omega)]; exact ⟨_, rfl, rfl⟩
  · rw [if_neg c]; exact ⟨_, rfl, rfl⟩
theorem PagesFinds : ∀ (l0 : List Int) (a1 : Int), (OkList 8 (fun n => (Lit.int .i64 n).wf = true)) l0 → (fun n => (Lit.int .i64 n).wf = true) a1 → ∃ k, regletlaw12_PagesFinds.f k l0 a1 = some true := by
  intro g x hg _
  refine Ev.rounds (Ev.bind awake_ev (Ev.ifp rfl (Ev.ifc (fun _ => Ev.now _) (fun hn => ?_))))
  -- the pages behind the gaps
  have behind : ∀ {s : List Int} {at_ : Int}, Rising s at_ → Ev (fun k => regletlaw12_PagesFinds.l1 k x s at_ (-1) 0) true := by
    intro s at_ h
    have hl := h.len
    have loop : ∀ (d : Nat) (i v : Int), 0 ≤ i → i + d = s.length → (-1 ≤ v ∧ v < i ∧ (∀ j, 0 ≤ j → j ≤ v → rd s j ≤ x) ∧ ∀ j, v < j → j < i → x < rd s j) → Ev (fun k => regletlaw12_PagesFinds.l1 k x s at_ v i) true := by
      intro d
      induction d with
      | zero =>
        intro i v h0 hi hv
        have hv' : LastAt s x v := by have e : i = s.length := by omega
                                      subst e; exact hv
        obtain ⟨u, hu, he⟩ := find_loop (x := x) h s.length 0 s.length (by omega) (by omega) (by omega) (by omega) (fun j a b => by omega) (fun j a b => by omega)
        refine regletlaw12_PagesFinds.l1.ev (Ev.ifn (by omega) (Ev.bind he (Ev.ifp (hu.uniq hv') (Ev.ifc (fun _ => Ev.now _) (fun q => ?_)))))
        obtain ⟨r, e1, e2⟩ := end_eq (s := s) (by omega) (show 0 ≤ v by omega) (by omega) at_
        exact Ev.bind (Ev.opt e1) (Ev.bind (Ev.opt e2) (Ev.some_ (by simp)))
      | succ d ih =>
        intro i v h0 hi hv
        obtain ⟨v1, v2, v3, v4⟩ := hv
        refine regletlaw12_PagesFinds.l1.ev (Ev.ifp (by omega) (Ev.ifp h0 ?_))
        rw [w64 (x := i + 1) (by omega) (by omega)]
        refine Ev.ifc (fun q => ih (i + 1) i (by omega) (by omega) ⟨by omega, by omega, fun j a b => ?_, fun j a b => by omega⟩) (fun q => ih (i + 1) v (by omega) (by omega) ⟨v1, by omega, v3, fun j a b => ?_⟩)
        · by_cases e : j = i
          · subst e; exact q
          · have := h.up j i a (by omega) (by omega); omega
        · by_cases e : j = i
          · subst e; omega
          · exact v4 j a (by omega)
    exact loop s.length 0 (-1) (by omega) (by omega) ⟨by omega, by omega, fun j a b => by omega, fun j a b => by omega⟩
  have loop : ∀ (d : Nat) (i at_ : Int) (s : List Int), 0 ≤ i → i + d = g.length → (s.length : Int) = i → 0 ≤ at_ → at_ ≤ 1099511627776 * i → Rising s at_ → Ev (fun k => regletlaw12_PagesFinds.l0 k g x s at_ i) true := by
    intro d
    induction d with
    | zero => intro i at_ s h0 hi _ _ _ hr; exact regletlaw12_PagesFinds.l0.ev (Ev.ifn (by omega) (behind hr))
    | succ d ih =>
      intro i at_ s h0 hi hs a0 a1 hr
      refine regletlaw12_PagesFinds.l0.ev (Ev.ifp (by omega) (Ev.ifp h0 (Ev.ifc (fun _ => Ev.now _) (fun c1 => Ev.ifc (fun _ => Ev.now _) (fun c2 => Ev.ifp (by omega) ?_)))))
      rw [w64 (x := at_ + rd g i) (by omega) (by omega), w64 (x := i + 1) (by omega) (by omega)]
      have l1 : ((s ++ [at_]).length : Int) = i + 1 := by simp only [List.length_append, List.length_singleton]; omega
      have last : rd (s ++ [at_]) i = at_ := by rw [rd_append_ge (by omega), hs, show i - i = 0 by omega]; rfl
      have ahead : ∀ j, 0 ≤ j → j < i → rd (s ++ [at_]) j = rd s j := fun j a b => rd_append_lt a (by omega)
      refine ih (i + 1) _ _ (by omega) (by omega) l1 (by omega) (by omega) ⟨by omega, fun p q hp hpq hq => ?_, fun p hp hp2 => ?_⟩
      · rw [ahead p hp (by omega)]
        by_cases e : q = i
        · subst e; rw [last]; exact hr.top p hp (by omega)
        · rw [ahead q (by omega) (by omega)]; exact hr.up p q hp hpq (by omega)
      · by_cases e : p = i
        · subst e; rw [last]; omega
        · rw [ahead p hp (by omega)]; have := hr.top p hp (by omega); omega
  exact loop g.length 0 0 [] (by omega) (by omega) rfl (by omega) (by omega) ⟨by simp, fun i j a b c => by simp at c; omega, fun i a b => by simp at b; omega⟩
end Go.Proofs.Ytknlneeglkchmaa.Pure
