/- Lines that are replaced and put back leave the pages that there were; a copy goes its own way. -/
import Derived.Test.YtnlocbjojbgdcaaPi
namespace Go.Proofs.Ytnlocbjojbgdcaa.Vm
open Go
open _root_.Go.RowKit (wrap64)
theorem Pure.RepageBack (s : regletlaw13_Start) (o : regletlaw13_Op) (ok : okT y22 s) (ok2 : okT y25 o) : ∃ k, regletlaw13_RepageBack.f k s o = some true := by
  obtain ⟨first, gone, come, hgt⟩ := o
  have hw : Wf s.1 := wf_of ok.1
  have hwc : Wf come := wf_of ok2.2.2.1
  refine Ev.rounds (Ev.bind awake_ev (Ev.ifn (by simp) ?_))
  rcases begun_ev hw with hb | ⟨g, hl, hr, ch, hh, hs, hb⟩
  · exact Ev.bind hb (Ev.now _)
  refine Ev.bind hb ?_
  show Ev (fun k => regletlaw13_RepageBack.j0 k (first, gone, come, hgt) s (s.1, g, s.2)) true
  refine Ev.st (fun k => by rw [regletlaw13_RepageBack.j0]) (Ev.xc (fun _ => Ev.now _) (fun _ => Ev.dc (fun _ => Ev.now _) (fun c => ?_)))
  replace c : (come.length : Int) ≤ 60 := Int.not_lt.1 c
  refine Ev.bind (ref_May_ev (by omega) hr hwc) ?_
  by_cases m : MayBe s.1 come first gone
  rotate_left
  · exact Ev.ifp (by rw [isTrue_no m]; rfl) (Ev.now _)
  refine Ev.ifn (by rw [isTrue_yes m]; simp) (Ev.st (fun k => by rw [regletlaw13_RepageBack.j1]) ?_)
  have sl := ch.length_le
  have f0 := m.fits.f0; have g0 := m.fits.g0; have le := m.fits.le
  obtain ⟨p, mid, tail, R, hE⟩ := Replace_ev (B := (s.1, g, s.2)) (by show (s.1.length : Int) ≤ 1000000; omega) (by omega) hw hwc hr m ch
  have len := spl_len (come := come) m.fits
  have ch2 := R.chain
  have clen := cut_len m.fits
  obtain ⟨p2, mid2, tail2, R2, hE2⟩ := Replace_ev (B := (spl s.1 come first gone, g.take p ++ mid ++ tail, s.2)) (come := cutL s.1 first gone) (first := first) (gone := come.length) (by show ((spl s.1 come first gone).length : Int) ≤ 1000000; omega) (by omega)
    (spl_wf m.fits hw hwc (by omega)) (cut_wf m.fits hw) (spl_right m.fits hr m.right m.one m.two) (back_may hr m) ch2
  have ch3 := R2.chain
  dsimp only at ch3 hE hE2
  rw [back_eq m.fits] at ch3 hE2
  have same := ch3.uniq ch
  rw [same] at hE2
  have ec : (([] : List api_Slot) ++ ((s.1.drop first.toNat).take ((first + gone).toNat - first.toNat))) = cutL s.1 first gone := by
    rw [List.nil_append, show (first + gone).toNat - first.toNat = gone.toNat by omega]; rfl
  have gl : g.length ≤ 1000000 := by omega
  refine Ev.bind (starts_ev (b := (s.1, g, s.2)) gl) (Ev.bind (copy_book (B := (s.1, g, s.2)) (by show s.1.length ≤ 1000000; omega) gl) ?_)
  dsimp only [optK]
  rw [w64 (x := first + gone) (by omega) (by omega)]
  refine Ev.ifp ⟨f0, by omega, by omega⟩ (Ev.ifp (by simp; omega) (Ev.bind hE (Ev.xn rfl (Ev.bind (starts_ev (b := (s.1, g, s.2)) gl) ?_))))
  refine Ev.bind (same_ev g g (by omega)) (Ev.ifn (by rw [isTrue_yes rfl]; simp) ?_)
  rw [ec]
  refine Ev.st (fun k => by rw [regletlaw13_RepageBack.j2]) (Ev.bind hE2 (Ev.dp rfl (Ev.bind (starts_ev (b := (s.1, g, s.2)) gl) ?_)))
  refine Ev.bind (same_ev g g (by omega)) (Ev.ifp (isTrue_yes rfl) (Ev.bind (slots_ev (b := (s.1, g, s.2)) (by show s.1.length ≤ 1000000; omega)) ?_))
  exact Ev.bind (same13_ev s.1 s.1 (by omega)) (Ev.some_ (isTrue_yes rfl))
end Go.Proofs.Ytnlocbjojbgdcaa.Vm
