/- A rune's width in a style. -/
import Derived.Test.YtjbobaeggdafpaaGreatTl
namespace Go.Proofs.YtjbobaeggdafpaaGreat.Vm
open Go
open _root_.Go.RowKit (wrap64)
theorem midx (lo hi : Nat) (h : lo + hi < 1000000000) : wrap64 ((wrap64 ((lo : Int) + (hi : Int))).tdiv 2) = (((lo + hi) / 2 : Nat) : Int) := by
 rw [nx2 lo hi (by omega), Int.tdiv_eq_ediv_of_nonneg (by omega), w64 (by omega) (by omega)]; omega
theorem lookup_loop (r : Int) (s : Styl) (hl : s.2.2.2.2.2.2.1.length ≤ 64) (hs : rngC (-1) s.2.2.2.2.2.2.1 = 0) : ∀ (d lo hi : Nat), hi - lo ≤ d → lo ≤ hi → hi ≤ s.2.2.2.2.2.2.1.length → (∀ j : Nat, j < lo → (rd s.2.2.2.2.2.2.1 (j : Int)).2.1 < r) → (∀ j : Nat, hi ≤ j → j < s.2.2.2.2.2.2.1.length → r ≤ (rd s.2.2.2.2.2.2.1 (j : Int)).2.1) →
 Ev (fun k => metrics_lookup.l0 k r (lo : Int) (hi : Int) s) (findR r s.2.2.2.2.2.1 s.2.2.2.2.2.2.1) := by
 obtain ⟨s1, s2⟩ := rngC_rise s.2.2.2.2.2.2.1 (-1) hs
 intro d
 induction d with
 | zero =>
  intro lo hi h1 h2 h3 h4 h5
  obtain rfl : lo = hi := by omega
  have e1 : findR r s.2.2.2.2.2.1 s.2.2.2.2.2.2.1 = findR r s.2.2.2.2.2.1 (s.2.2.2.2.2.2.1.drop lo) := by
   have := findR_skip r s.2.2.2.2.2.1 s.2.2.2.2.2.2.1 lo 0 (by omega) (fun j _ hj q => by have := h4 j (by omega); omega)
   rwa [Nat.zero_add, List.drop_zero] at this
  refine Ev.st (fun k => by rw [metrics_lookup.l0]) (Ev.dn (by omega) ?_)
  rw [e1]
  refine Ev.dc (fun h => ?_) (fun h => Ev.st (fun k => by rw [metrics_lookup.j1]) (Ev.some_ ?_))
  · refine Ev.at_ (by omega) (by omega) ?_
    rw [drop_rd s.2.2.2.2.2.2.1 lo (by omega)]
    have hr := h5 lo (Nat.le_refl _) (by omega)
    unfold findR
    refine Ev.dc (fun q => Ev.at_ (by omega) (by omega) (Ev.some_ (by rw [if_pos ⟨q, hr⟩]))) (fun q => Ev.st (fun k => by rw [metrics_lookup.j1]) (Ev.some_ ?_))
    rw [if_neg (fun z => q z.1)]
    have := findR_skip r s.2.2.2.2.2.1 s.2.2.2.2.2.2.1 (s.2.2.2.2.2.2.1.length - (lo + 1)) (lo + 1) (by omega) (fun j hj1 hj2 z => by
     have := s2 lo j (by omega) (by omega)
     omega)
    rw [this, List.drop_of_length_le (by omega)]; rfl
  · rw [List.drop_of_length_le (by omega)]; rfl
 | succ d ih =>
  intro lo hi h1 h2 h3 h4 h5
  by_cases c : lo = hi
  · exact ih lo hi (by omega) h2 h3 h4 h5
  obtain ⟨mid, hm⟩ : ∃ mid : Nat, mid = (lo + hi) / 2 := ⟨_, rfl⟩
  refine Ev.st (fun k => by rw [metrics_lookup.l0]) (Ev.dp (by omega) ?_)
  rw [midx lo hi (by omega), ← hm]
  refine Ev.at_ (by omega) (by omega) ?_
  refine Ev.dc (fun q => ?_) (fun q => ?_)
  · rw [nx mid (by omega)]
    refine ih (mid + 1) hi (by omega) (by omega) h3 (fun j hj => ?_) h5
    by_cases e : j = mid
    · rw [e]; exact q
    · have a := s2 j mid (by omega) (by omega)
      have b := (s1 mid (by omega)).2
      omega
  · refine ih lo mid (by omega) (by omega) (by omega) h4 (fun j hj hjl => ?_)
    by_cases e : j = mid
    · rw [e]; omega
    · have a := s2 mid j (by omega) (by omega)
      have b := (s1 j hjl).2
      omega
theorem lookup_ev (s : Styl) (hl : s.2.2.2.2.2.2.1.length ≤ 64) (hs : rngC (-1) s.2.2.2.2.2.2.1 = 0) (r : Int) : Ev (fun k => metrics_lookup.f k s r) (findR r s.2.2.2.2.2.1 s.2.2.2.2.2.2.1) :=
 lookup_loop r s hl hs s.2.2.2.2.2.2.1.length 0 s.2.2.2.2.2.2.1.length (by omega) (by omega) (by omega) (fun j h => by omega) (fun j h h' => by omega)
end Go.Proofs.YtjbobaeggdafpaaGreat.Vm
