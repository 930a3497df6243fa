/- A book that is played upon stays the book that the reference lays. -/
import Derived.Test.YtnlocbjojbgdcaaPk
namespace Go.Proofs.Ytnlocbjojbgdcaa.Vm
open Go
open _root_.Go.RowKit (wrap64)
structure Good (B : repage_Book) : Prop where
 wf : Wf B.1
 right : RightL B.1
 chain : Chain B.1 B.2.2.2 B.2.2.1 0 B.2.1
 ok : HgtOk B.2.2.1 ∧ SetOk B.2.2.2
 few : (B.1.length : Int) ≤ 500
theorem Resize_no {B : repage_Book} {hgt : Int} (c : ¬ HgtOk hgt) : Ev (fun k => repage_Book_Resize.f k B hgt) (0, 41, B) := by
 refine Ev.bind (pages_Check_ev hgt B.2.2.2) ?_
 rw [errC_no c]
 exact Ev.xp (by omega) (Ev.now _)
theorem Resize_yes {B : repage_Book} (hs : SetOk B.2.2.2) {hgt : Int} (c : HgtOk hgt) {s : List Int} (hp : Ev (fun k => pages_Paginate.f k B.1 hgt B.2.2.2) (s, 0)) : Ev (fun k => repage_Book_Resize.f k B hgt) ((s.length : Int), 0, (B.1, s, hgt, B.2.2.2)) := by
 refine Ev.bind (pages_Check_ev hgt B.2.2.2) ?_
 rw [errC_ok ⟨c, hs⟩]
 exact Ev.xn rfl (Ev.bind hp (Ev.now _))
theorem step_ev {B : repage_Book} (G : Good B) (hl : (B.1.length : Int) ≤ 400) {come : List api_Slot} (hwc : Wf come) (hc : (come.length : Int) ≤ 60) {first gone : Int} (hg : -9223372036854775808 ≤ gone ∧ gone ≤ 9223372036854775807) (hgt : Int) :
 ∃ B', Good B' ∧ Ev (fun k => regletlaw13_step.f k B (B.1, B.2.2) (first, gone, come, hgt)) ((B'.1, B'.2.2), true, B') := by
 by_cases h0 : hgt = 0
 · subst h0
   by_cases m : MayBe B.1 come first gone
   · obtain ⟨p, mid, tail, R, hE⟩ := Replace_ev (by omega) (by omega) G.wf hwc G.right m G.chain
     have len := spl_len (come := come) m.fits
     have g0 := m.fits.g0
     refine ⟨(spl B.1 come first gone, B.2.1.take p ++ mid ++ tail, B.2.2), ⟨spl_wf m.fits G.wf hwc (by omega), spl_right m.fits G.right m.right m.one m.two, R.chain, G.ok, by show ((spl B.1 come first gone).length : Int) ≤ 500; omega⟩, ?_⟩
     have hR := ref_Replace_ev R m (by omega) (by omega) G.wf hwc G.right G.ok G.chain
     refine Ev.xn rfl (Ev.bind hE ?_)
     refine Ev.bind (ref_May_ev (w := (B.1, B.2.2)) (by show (B.1.length : Int) ≤ 1000000; omega) G.right hwc) ?_
     refine Ev.ifn (by rw [isTrue_yes m]; simp) ?_
     refine Ev.bind hR ?_
     refine Ev.dp rfl ?_
     refine Ev.dp rfl ?_
     exact Ev.some_ (by simp)
   · refine ⟨B, G, Ev.xn rfl (Ev.bind (Replace_no (by omega) hg hwc G.right m) ?_)⟩
     refine Ev.bind (ref_May_ev (w := (B.1, B.2.2)) (by show (B.1.length : Int) ≤ 1000000; omega) G.right hwc) ?_
     refine Ev.ifp (by rw [isTrue_no m]; rfl) ?_
     refine Ev.dp rfl ?_
     refine Ev.dp rfl ?_
     exact Ev.some_ (by simp)
 · by_cases c : HgtOk hgt
   · obtain ⟨s, hs, e1⟩ := chain_pag G.wf (by have := G.few; unfold Few; omega) ⟨c, G.ok.2⟩ G.right
     refine ⟨(B.1, s, hgt, B.2.2.2), ⟨G.wf, G.right, hs, ⟨c, G.ok.2⟩, G.few⟩, Ev.xp h0 (Ev.bind (Resize_yes G.ok.2 c e1) ?_)⟩
     refine Ev.bind (ref_Check_ev hgt B.2.2.2) ?_
     refine Ev.ifn (by rw [isTrue_yes ⟨c, G.ok.2⟩]; simp) ?_
     refine Ev.dp rfl ?_
     refine Ev.bind (chain_ref G.wf (by have := G.few; unfold Few; omega) ⟨c, G.ok.2⟩ G.right hs) ?_
     exact Ev.some_ (by simp)
   · refine ⟨B, G, Ev.xp h0 (Ev.bind (Resize_no c) ?_)⟩
     refine Ev.bind (ref_Check_ev hgt B.2.2.2) ?_
     refine Ev.ifp (by rw [isTrue_no (fun h => c h.1)]; rfl) ?_
     refine Ev.dp rfl ?_
     exact Ev.some_ (by simp)
theorem play_ev {ops : List regletlaw13_Op} (_ : (ops.length : Int) ≤ 140737488351232) (hok : ∀ o, o ∈ ops → okT y25 o) : ∀ (d : Nat) (i : Int) (B : repage_Book), 0 ≤ i → i + d = ops.length → Good B → Ev (fun k => regletlaw13_RepagePlays.l1 k ops i (B.1, B.2.2) B) true := by
 intro d
 induction d with
 | zero => exact fun i B h0 h1 _ => Ev.st (fun k => by rw [regletlaw13_RepagePlays.l1]) (Ev.dn (by omega) (Ev.now _))
 | succ d ih =>
  intro i B h0 h1 G
  refine Ev.st (fun k => by rw [regletlaw13_RepagePlays.l1]) (Ev.dp (by omega) ?_)
  refine Ev.dc (fun _ => ?_) (fun _ => Ev.now _)
  refine Ev.st (fun k => by rw [regletlaw13_RepagePlays.j2]) ?_
  refine Ev.at_ h0 (by omega) ?_
  refine Ev.dc (fun _ => Ev.now _) (fun c1 => ?_)
  refine Ev.dc (fun _ => Ev.now _) (fun c2 => ?_)
  refine Ev.st (fun k => by rw [regletlaw13_RepagePlays.j3]) ?_
  refine Ev.at_ h0 (by omega) ?_
  have ho := hok _ (rd_mem (xs := ops) h0 (by omega))
  generalize rd ops i = o at *
  obtain ⟨first, gone, come, hgt⟩ := o
  replace c1 : (come.length : Int) ≤ 60 := Int.not_lt.1 c1
  replace c2 : (B.1.length : Int) ≤ 400 := Int.not_lt.1 c2
  obtain ⟨B', G', e⟩ := step_ev G c2 (wf_of ho.2.2.1) c1 (first := first) (lit64 ho.2.1) hgt
  have sl := G'.chain.length_le
  have fl := G'.few
  refine Ev.bind e ?_
  refine Ev.ifn (by simp) ?_
  refine Ev.bind (starts_ev (b := B') (by omega)) ?_
  refine Ev.bind (chain_ref G'.wf (by unfold Few; omega) G'.ok G'.right G'.chain) ?_
  refine Ev.bind (same_ev B'.2.1 B'.2.1 (by omega)) ?_
  refine Ev.ifn (by rw [isTrue_yes rfl]; simp) ?_
  refine Ev.bind (slots_ev (b := B') (by omega)) ?_
  refine Ev.bind (same13_ev B'.1 B'.1 (by omega)) ?_
  refine Ev.ifn (by rw [isTrue_yes rfl]; simp) ?_
  refine Ev.bind (a := (B'.1.length : Int)) (Ev.now _) ?_
  refine Ev.xn rfl ?_
  refine Ev.bind (a := B'.2.2.1) (Ev.now _) ?_
  refine Ev.xn rfl ?_
  refine Ev.st (fun k => by rw [regletlaw13_RepagePlays.j4]) ?_
  rw [w64 (x := i + 1) (by omega) (by omega)]
  exact ih (i + 1) B' (by omega) (by omega) G'
theorem Pure.RepagePlays (s : regletlaw13_Start) (ops : List regletlaw13_Op) (ok : okT y22 s) (ok2 : okT y29 ops) : ∃ k, regletlaw13_RepagePlays.f k s ops = some true := by
 have hw : Wf s.1 := wf_of ok.1
 refine Ev.rounds (Ev.bind awake_ev (Ev.ifn (by simp) ?_))
 rcases begun_ev hw with hb | ⟨g, hl, hr, ch, hh, hs, hb⟩
 · exact Ev.bind hb (Ev.now _)
 refine Ev.bind hb ?_
 show Ev (fun k => regletlaw13_RepagePlays.j0 k ops s (s.1, g, s.2)) true
 refine Ev.st (fun k => by rw [regletlaw13_RepagePlays.j0]) ?_
 exact play_ev (by have := ok2.1; omega) ok2.2 ops.length 0 (s.1, g, s.2) (by omega) (by omega) ⟨hw, hr, ch, ⟨hh, hs⟩, by show (s.1.length : Int) ≤ 500; omega⟩
end Go.Proofs.Ytnlocbjojbgdcaa.Vm
