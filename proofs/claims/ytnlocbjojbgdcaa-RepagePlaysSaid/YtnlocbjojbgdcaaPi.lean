/- The plain law of books: what is replaced and put back is there again. -/
import Derived.Test.YtnlocbjojbgdcaaPh
namespace Go.Proofs.Ytnlocbjojbgdcaa.Vm
open Go
open _root_.Go.RowKit (wrap64)
def cutL (l : List api_Slot) (first gone : Int) : List api_Slot := (l.drop first.toNat).take gone.toNat
section
variable {l come : List api_Slot} {first gone : Int}
theorem cut_len (h : Fits l first gone) : ((cutL l first gone).length : Int) = gone := by
 have := h.f0; have := h.g0; have := h.le
 simp only [cutL, List.length_take, List.length_drop]
 omega
theorem cut_rd (h : Fits l first gone) {i : Int} (h0 : 0 ≤ i) (h1 : i < gone) : rd (cutL l first gone) i = rd l (first + i) := by
 have := h.f0
 unfold cutL
 rw [rd_take _ h0 (by omega), rd_drop _ h0, show ((first.toNat : Nat) : Int) = first by omega]
theorem cut_closed (h : Fits l first gone) (c1 : closed l first) {i : Int} (h0 : 0 ≤ i) (h1 : i ≤ gone) : closed (cutL l first gone) i ↔ closed l (first + i) := by
 have := h.f0
 by_cases c : i = 0
 · subst c
   rw [Int.add_zero]
   exact ⟨fun _ => c1, fun _ => .inl rfl⟩
 · refine closed_of c (by omega) ?_
   rw [cut_rd h (by omega) (by omega)]
   congr 1; omega
theorem cut_right (h : Fits l first gone) (hr : RightL l) (c1 : closed l first) (c2 : closed l (first + gone)) : RightL (cutL l first gone) := by
 have f0 := h.f0; have le := h.le
 have len := cut_len h
 refine ⟨fun i h0 h1 => ?_, ?_⟩
 · refine slotOk_of (cut_rd h h0 (by omega)) (cut_closed h c1 h0 (by omega)) (fun n => ?_) (hr.1 (first + i) (by omega) (by omega))
   have : i ≠ 0 := fun e => n (.inl e)
   rw [cut_rd h (by omega) (by omega)]
   congr 1; omega
 · rw [len]; exact (cut_closed h c1 h.g0 (Int.le_refl _)).2 c2
theorem back_fits (h : Fits l first gone) : Fits (spl l come first gone) first come.length := by
 have := spl_len (come := come) h
 have := h.le
 exact ⟨h.f0, by omega, by omega⟩
theorem back_eq (h : Fits l first gone) : spl (spl l come first gone) (cutL l first gone) first come.length = l := by
 have f0 := h.f0; have g0 := h.g0; have le := h.le
 have len := spl_len (come := come) h
 have clen := cut_len h
 have len2 := spl_len (come := cutL l first gone) (back_fits (come := come) h)
 refine rd_ext (by omega) (fun i h0 h1 => ?_)
 by_cases c : i < first
 · rw [spl_lt (back_fits h) h0 c, spl_lt h h0 c]
 · by_cases d : i < first + gone
   · rw [spl_mid (back_fits h) (by omega) (by omega), cut_rd h (by omega) (by omega)]
     congr 1; omega
   · rw [spl_ge (back_fits h) (by omega), spl_ge h (by omega)]
     congr 1; omega
theorem back_may (hr : RightL l) (m : MayBe l come first gone) : MayBe (spl l come first gone) (cutL l first gone) first come.length :=
 ⟨back_fits m.fits, (spl_closed1 m.fits m.fits.f0 (Int.le_refl _)).2 m.one, spl_closed2 m.fits m.one m.right, cut_right m.fits hr m.one m.two⟩
theorem cut_wf (h : Fits l first gone) (hw : Wf l) : Wf (cutL l first gone) := by
 have f0 := h.f0; have le := h.le
 have len := cut_len h
 have := hw.1
 refine ⟨by omega, fun i h0 h1 => ?_⟩
 rw [cut_rd h h0 (by omega)]
 exact hw.2 _ (by omega) (by omega)
end
theorem copy_book {B : repage_Book} (h1 : B.1.length ≤ 1000000) (h2 : B.2.1.length ≤ 1000000) : Ev (fun k => repage_Book_Copy.f k B) (some B) :=
 Ev.bind (slots_ev h1) (Ev.bind (starts_ev h2) (Ev.now _))
end Go.Proofs.Ytnlocbjojbgdcaa.Vm
