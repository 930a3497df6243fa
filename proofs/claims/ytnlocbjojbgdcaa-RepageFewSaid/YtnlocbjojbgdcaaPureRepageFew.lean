/- A call builds no page behind the first one that began where it begins ahead of it. -/
import Derived.Test.YtnlocbjojbgdcaaPh
namespace Go.Proofs.Ytnlocbjojbgdcaa.Vm
open Go
open _root_.Go.RowKit (wrap64)
theorem Pure.RepageFew (s : regletlaw13_Start) (o : regletlaw13_Op) (ok : okT y22 s) (ok2 : okT y25 o) : ∃ k, regletlaw13_RepageFew.f k s o = some true := by
  obtain ⟨first, gone, come, hgt⟩ := o
  have hw : Wf s.1 := wf_of ok.1
  have hwc : Wf come := wf_of ok2.2.2.1
  refine Ev.rounds (Ev.bind awake_ev (Ev.ifn (by simp) ?_))
  rcases begun_ev hw with hb | ⟨g, hl, hr, ch, hh, hs, hb⟩
  · exact Ev.bind hb (Ev.now _)
  refine Ev.bind hb ?_
  show Ev (fun k => regletlaw13_RepageFew.j0 k (first, gone, come, hgt) s (s.1, g, s.2)) true
  refine Ev.st (fun k => by rw [regletlaw13_RepageFew.j0]) (Ev.xc (fun _ => Ev.now _) (fun _ => Ev.dc (fun _ => Ev.now _) (fun c => ?_)))
  replace c : (come.length : Int) ≤ 60 := Int.not_lt.1 c
  refine Ev.bind (ref_May_ev (by omega) hr hwc) ?_
  by_cases m : MayBe s.1 come first gone
  rotate_left
  · exact Ev.ifp (by rw [isTrue_no m]; rfl) (Ev.now _)
  refine Ev.ifn (by rw [isTrue_yes m]; simp) (Ev.st (fun k => by rw [regletlaw13_RepageFew.j1]) ?_)
  have sl := ch.length_le
  obtain ⟨p, mid, tail, R, hE⟩ := Replace_ev (B := (s.1, g, s.2)) (by show (s.1.length : Int) ≤ 1000000; omega) (by omega) hw hwc hr m ch
  have f0 := m.fits.f0; have g0 := m.fits.g0; have le := m.fits.le
  have hp := R.le
  have rl := R.len
  have nl := R.chain.length_le
  have spl := spl_len (come := come) m.fits
  have mids := fun {i : Int} => R.mids (i := i)
  have rng := R.chain.ge
  obtain ⟨frm, A⟩ := R.again
  have news := A.news
  dsimp only at hp rl nl spl hE mids news rng
  have inm : ∀ x, x ∈ mid → x ∈ g.take p ++ mid ++ tail := fun x hx => by simp [hx]
  generalize g.take p ++ mid ++ tail = now at *
  refine Ev.bind (starts_ev (b := (s.1, g, s.2)) (by show g.length ≤ 1000000; omega)) (Ev.bind hE (Ev.bind (starts_ev (b := (_, now, s.2)) (by show now.length ≤ 1000000; omega)) ?_))
  dsimp only
  refine Ev.xn rfl ?_
  rw [w64 (x := (p : Int) + mid.length) (by omega) (by omega)]
  refine Ev.dn (by omega) (Ev.st (fun k => by rw [regletlaw13_RepageFew.j2]) ?_)
  have pages : ∀ (d : Nat) (i : Int), p ≤ i → i + d = p + mid.length → Ev (fun k => regletlaw13_RepageFew.l3 k g (p : Int) (mid.length : Int) now i (first, gone, come, hgt)) true := by
    intro d
    induction d with
    | zero =>
      intro i h0 h1
      refine Ev.st (fun k => by rw [regletlaw13_RepageFew.l3]) ?_
      rw [w64 (x := (p : Int) + mid.length) (by omega) (by omega)]
      exact Ev.dn (by omega) (Ev.now _)
    | succ d ih =>
      intro i h0 h1
      have hm := mids h0 (by omega)
      have hx := rng _ (inm _ hm)
      have hn := news _ hm
      have next : Ev (fun k => regletlaw13_RepageFew.j4 k g (p : Int) (mid.length : Int) now i (first, gone, come, hgt)) true := by
        refine Ev.st (fun k => by rw [regletlaw13_RepageFew.j4]) ?_
        rw [w64 (x := i + 1) (by omega) (by omega)]
        exact ih (i + 1) (by omega) (by omega)
      refine Ev.st (fun k => by rw [regletlaw13_RepageFew.l3]) ?_
      rw [w64 (x := (p : Int) + mid.length) (by omega) (by omega)]
      refine Ev.dp (by omega) (Ev.gx (by omega) (by omega) ?_)
      dsimp only
      rw [w64 (x := first + (come.length : Int)) (by omega) (by omega)]
      refine Ev.dc (fun _ => next) (fun c => ?_)
      have olds : ∀ (e : Nat) (j : Int), 0 ≤ j → j + e = g.length → Ev (fun k => regletlaw13_RepageFew.l5 k g (p : Int) (mid.length : Int) now i j (first, gone, come, hgt)) true := by
        intro e
        induction e with
        | zero => exact fun j a b => Ev.st (fun k => by rw [regletlaw13_RepageFew.l5]) (Ev.dn (by omega) next)
        | succ e ih2 =>
          intro j a b
          have hg := rd_mem (xs := g) a (show j < g.length by omega)
          have := ch.ge _ hg
          refine Ev.st (fun k => by rw [regletlaw13_RepageFew.l5]) (Ev.dp (by omega) ?_)
          refine Ev.gx a (by omega) ?_
          refine Ev.gx (by omega) (by omega) ?_
          dsimp only
          rw [w64 (x := rd g j - gone) (by omega) (by omega), w64 (x := rd now i - (come.length : Int)) (by omega) (by omega)]
          refine Ev.dn (fun q => hn ⟨by omega, ?_⟩) ?_
          · rw [show rd now i - ((come.length : Int) - gone) = rd g j by omega]; exact hg
          · rw [w64 (x := j + 1) (by omega) (by omega)]
            exact ih2 (j + 1) (by omega) (by omega)
      exact olds g.length 0 (by omega) (by omega)
  exact pages mid.length p (by omega) (by omega)
end Go.Proofs.Ytnlocbjojbgdcaa.Vm
