/- The plain law of books: Replace where it may not, Resize, and the reference's numbers. -/
import Derived.Test.YtnlocbjojbgdcaaPi
namespace Go.Proofs.Ytnlocbjojbgdcaa.Vm
open Go
open _root_.Go.RowKit (wrap64)
theorem chain_ref {l : List api_Slot} (hw : Wf l) (hf : Few l) {h : Int} {b : api_Settings} (c : HgtOk h ∧ SetOk b) (hr : RightL l) {s : List Int} (ch : Chain l b h 0 s) : Ev (fun k => regletref12_Paginate.f k l h b) s := by
 obtain ⟨t, ht, _, e⟩ := pages_Paginate_yes hw hf c hr
 rw [ch.uniq ht]; exact e
theorem chain_pag {l : List api_Slot} (hw : Wf l) (hf : Few l) {h : Int} {b : api_Settings} (c : HgtOk h ∧ SetOk b) (hr : RightL l) : ∃ s, Chain l b h 0 s ∧ Ev (fun k => pages_Paginate.f k l h b) (s, 0) := by
 obtain ⟨t, ht, e, _⟩ := pages_Paginate_yes hw hf c hr
 exact ⟨t, ht, e⟩
structure Whole (l : List api_Slot) (first gone : Int) : Prop where
 fits : Fits l first gone
 one : closed l first
 two : closed l (first + gone)
theorem whole_all {B : repage_Book} {first gone : Int} (hl : (B.1.length : Int) ≤ 1000000) (hr : RightL B.1) (hg : -9223372036854775808 ≤ gone ∧ gone ≤ 9223372036854775807) : Ev (fun k => repage_Book_whole.f k B first gone) (isTrue (Whole B.1 first gone)) := by
 refine Ev.dc (fun c => Ev.some_ (isTrue_no (fun m => by have := m.fits.f0; omega)).symm) (fun c1 => ?_)
 refine Ev.dc (fun c => Ev.some_ (isTrue_no (fun m => by have := m.fits.g0; omega)).symm) (fun c2 => ?_)
 refine Ev.dc (fun c => Ev.some_ (isTrue_no (fun m => by have := m.fits.le; have := m.fits.g0; omega)).symm) (fun c3 => ?_)
 rw [w64 (x := (B.1.length : Int) - first) (by omega) (by omega)]
 refine Ev.dc (fun c => Ev.some_ (isTrue_no (fun m => by have := m.fits.le; omega)).symm) (fun c4 => Ev.st (fun k => by rw [repage_Book_whole.j0]) ?_)
 refine Ev.bind (edge_ev hr (by omega) (by omega)) (Ev.ifc (fun d1 => ?_) (fun d => Ev.some_ (isTrue_no (fun m => d (isTrue_yes m.one))).symm))
 rw [w64 (x := first + gone) (by omega) (by omega)]
 refine Ev.bind (edge_ev hr (by omega) (by omega)) (Ev.some_ ?_)
 by_cases c : closed B.1 (first + gone)
 · rw [isTrue_yes c, isTrue_yes ⟨⟨by omega, by omega, by omega⟩, isTrue_iff.1 d1, c⟩]
 · rw [isTrue_no c, isTrue_no (fun m => c m.two)]
theorem Replace_no {B : repage_Book} {come : List api_Slot} {first gone : Int} (hl : (B.1.length : Int) ≤ 1000000) (hg : -9223372036854775808 ≤ gone ∧ gone ≤ 9223372036854775807) (hwc : Wf come) (hr : RightL B.1)
 (m : ¬ MayBe B.1 come first gone) : Ev (fun k => repage_Book_Replace.f k B first gone come) (0, 0, 1, B) := by
 unfold repage_Book_Replace.f
 refine Ev.bind (whole_all hl hr hg) ?_
 by_cases c : Whole B.1 first gone
 · refine Ev.ifn (by rw [isTrue_yes c]; simp) (Ev.bind (pages_Right_ev hwc) ?_)
   have hn : ¬ RightL come := fun h => m ⟨c.fits, c.one, c.two, h⟩
   rw [errOf_no hn]
   exact Ev.xp (by omega) (Ev.now _)
 · exact Ev.ifp (by rw [isTrue_no c]; rfl) (Ev.now _)
theorem in_loop {l : List Int} {n : Int} (hl : (l.length : Int) ≤ 1000000) : ∀ (d : Nat) (i : Int), 0 ≤ i → i + d = l.length → (∀ j, 0 ≤ j → j < i → rd l j ≠ n) → Ev (fun k => regletref13_in.l0 k l n i) (isTrue (n ∈ l)) := by
 intro d
 induction d with
 | zero =>
  intro i h0 hi hj
  refine Ev.st (fun k => by rw [regletref13_in.l0]) (Ev.dn (by omega) (Ev.some_ (isTrue_no (fun hm => ?_)).symm))
  obtain ⟨j, h, e⟩ := List.mem_iff_getElem.1 hm
  refine hj (j : Int) (by omega) (by omega) ?_
  unfold rd
  rw [List.getD_eq_getElem?_getD, show ((j : Int)).toNat = j by omega, List.getElem?_eq_getElem h]; exact e
 | succ d ih =>
  intro i h0 hi hj
  refine Ev.st (fun k => by rw [regletref13_in.l0]) (Ev.dp (by omega) ?_)
  refine Ev.at_ h0 (by omega) ?_
  refine Ev.dc (fun e => Ev.some_ (isTrue_yes (e ▸ rd_mem h0 (by omega))).symm) (fun e => ?_)
  rw [w64 (x := i + 1) (by omega) (by omega)]
  refine ih (i + 1) (by omega) (by omega) (fun j a b => ?_)
  by_cases c : j = i
  · subst c; exact e
  · exact hj j a (by omega)
theorem in_ev {l : List Int} {n : Int} (hl : (l.length : Int) ≤ 1000000) : Ev (fun k => regletref13_in.f k l n) (isTrue (n ∈ l)) := in_loop hl l.length 0 (by omega) (by omega) (fun j a b => by omega)
end Go.Proofs.Ytnlocbjojbgdcaa.Vm
