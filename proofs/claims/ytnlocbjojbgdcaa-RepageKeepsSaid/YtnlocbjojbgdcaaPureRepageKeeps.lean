/- The pages ahead of the one that is told begin where they began; behind those that were built they begin with the lines that they began with. -/
import Derived.Test.YtnlocbjojbgdcaaPh
namespace Go.Proofs.Ytnlocbjojbgdcaa.Vm
open Go
open _root_.Go.RowKit (wrap64)
theorem Pure.RepageKeeps (s : regletlaw13_Start) (o : regletlaw13_Op) (ok : okT y22 s) (ok2 : okT y25 o) : ∃ k, regletlaw13_RepageKeeps.f k s o = some true := by
  obtain ⟨first, gone, come, hgt⟩ := o
  have hw : Wf s.1 := wf_of ok.1
  have hwc : Wf come := wf_of ok2.2.2.1
  refine Ev.rounds (Ev.bind awake_ev (Ev.ifn (by simp) ?_))
  rcases begun_ev hw with hb | ⟨g, hl, hr, ch, hh, hs, hb⟩
  · exact Ev.bind hb (Ev.now _)
  refine Ev.bind hb ?_
  show Ev (fun k => regletlaw13_RepageKeeps.j0 k (first, gone, come, hgt) s (s.1, g, s.2)) true
  refine Ev.st (fun k => by rw [regletlaw13_RepageKeeps.j0]) (Ev.xc (fun _ => Ev.now _) (fun _ => Ev.dc (fun _ => Ev.now _) (fun c => ?_)))
  replace c : (come.length : Int) ≤ 60 := Int.not_lt.1 c
  refine Ev.bind (ref_May_ev (by omega) hr hwc) ?_
  by_cases m : MayBe s.1 come first gone
  rotate_left
  · exact Ev.ifp (by rw [isTrue_no m]; rfl) (Ev.now _)
  refine Ev.ifn (by rw [isTrue_yes m]; simp) (Ev.st (fun k => by rw [regletlaw13_RepageKeeps.j1]) ?_)
  have sl := ch.length_le
  obtain ⟨p, mid, tail, R, hE⟩ := Replace_ev (B := (s.1, g, s.2)) (by show (s.1.length : Int) ≤ 1000000; omega) (by omega) hw hwc hr m ch
  have f0 := m.fits.f0; have g0 := m.fits.g0; have le := m.fits.le
  have hp := R.le
  obtain ⟨tl, hlast⟩ := R.last ch
  have rl := R.len
  have nl := R.chain.length_le
  have spl := spl_len (come := come) m.fits
  have ahead := fun {i : Int} => R.ahead (i := i)
  have tails := fun {i : Int} => R.tails (i := i)
  dsimp only at hp tl hlast rl nl spl hE ahead tails
  generalize g.take p ++ mid ++ tail = now at *
  refine Ev.bind (starts_ev (b := (s.1, g, s.2)) (by show g.length ≤ 1000000; omega)) (Ev.bind hE (Ev.bind (starts_ev (b := (_, now, s.2)) (by show now.length ≤ 1000000; omega)) ?_))
  dsimp only
  refine Ev.xn rfl (Ev.dn (by omega) (Ev.dn (by omega) ?_))
  rw [w64 (x := (p : Int) + mid.length) (by omega) (by omega)]
  refine Ev.dn (by omega) (Ev.dn (by omega) (Ev.st (fun k => by rw [regletlaw13_RepageKeeps.j2]) ?_))
  -- the pages behind
  have behind : ∀ (d : Nat) (i : Int), 1 ≤ i → i + d = tail.length + 1 → Ev (fun k => regletlaw13_RepageKeeps.l4 k g now (tail.length : Int) i (first, gone, come, hgt)) true := by
    intro d
    induction d with
    | zero => exact fun i h0 h1 => Ev.st (fun k => by rw [regletlaw13_RepageKeeps.l4]) (Ev.dn (by omega) (Ev.now _))
    | succ d ih =>
      intro i h0 h1
      refine Ev.st (fun k => by rw [regletlaw13_RepageKeeps.l4]) (Ev.dp (by omega) ?_)
      rw [w64 (x := (now.length : Int) - i) (by omega) (by omega), w64 (x := (g.length : Int) - i) (by omega) (by omega)]
      refine Ev.gx (by omega) (by omega) (Ev.gx (by omega) (by omega) ?_)
      obtain ⟨e1, e2⟩ := hlast i h0 (by omega)
      have e3 : rd now ((now.length : Int) - i) = rd tail (tail.length - i) := by
        rw [tails (by omega)]
        congr 1; omega
      have e4 := (ch.ge _ (rd_mem (xs := g) (i := g.length - i) (by omega) (by omega)))
      dsimp only
      rw [e3, e1, w64 (x := first + (come.length : Int)) (by omega) (by omega)]
      refine Ev.dn (by omega) ?_
      rw [w64 (by omega) (by omega), w64 (x := rd g ((g.length : Int) - i) - gone) (by omega) (by omega)]
      refine Ev.xn (by omega) (Ev.st (fun k => by rw [regletlaw13_RepageKeeps.j5]) ?_)
      rw [w64 (x := i + 1) (by omega) (by omega)]
      exact ih (i + 1) (by omega) (by omega)
  -- the pages ahead
  have front : ∀ (d : Nat) (i : Int), 0 ≤ i → i + d = p → Ev (fun k => regletlaw13_RepageKeeps.l3 k g (p : Int) (mid.length : Int) now i (first, gone, come, hgt)) true := by
    intro d
    induction d with
    | zero =>
      intro i h0 h1
      refine Ev.st (fun k => by rw [regletlaw13_RepageKeeps.l3]) (Ev.dn (by omega) ?_)
      rw [w64 (x := (now.length : Int) - p) (by omega) (by omega), w64 (x := (now.length : Int) - p - mid.length) (by omega) (by omega), show (now.length : Int) - p - mid.length = tail.length by omega]
      exact Ev.dn (by omega) (behind tail.length 1 (by omega) (by omega))
    | succ d ih =>
      intro i h0 h1
      refine Ev.st (fun k => by rw [regletlaw13_RepageKeeps.l3]) (Ev.dp (by omega) ?_)
      refine Ev.gx (by omega) (by omega) (Ev.gx (by omega) (by omega) (Ev.xn (ahead h0 (by omega)) ?_))
      rw [w64 (x := i + 1) (by omega) (by omega)]
      exact ih (i + 1) (by omega) (by omega)
  exact front p 0 (by omega) (by omega)
end Go.Proofs.Ytnlocbjojbgdcaa.Vm
