/- The plain law of books: what Replace comes to, and what a law's beginning does. -/
import Derived.Test.YtnlocbjojbgdcaaPf
namespace Go.Proofs.Ytnlocbjojbgdcaa.Vm
open Go
open _root_.Go.RowKit (wrap64)
theorem edge_or {l : List api_Slot} (hr : RightL l) {i : Int} (h0 : 0 ≤ i) (h1 : i < l.length) : decide ((rd l i).2.1 = 0) = isTrue (closed l i) := by
 by_cases c : closed l i
 · rw [isTrue_yes c, decide_eq_true]; exact (hr.1 i h0 h1).2.2.2.2.1 c
 · rw [isTrue_no c, decide_eq_false]
   have := ((hr.1 i h0 h1).2.2.2.2.2 c).1
   have : i ≠ 0 := fun e => c (.inl e)
   have := (hr.1 (i - 1) (by omega) (by omega)).2.2.1
   omega
theorem ref_edge_ev {l : List api_Slot} (hr : RightL l) {i : Int} (h0 : 0 ≤ i) (h1 : i ≤ l.length) : Ev (fun k => regletref13_edge.f k l i) (isTrue (closed l i)) := by
 refine Ev.dc (fun c => Ev.some_ (isTrue_yes (by rw [c]; exact hr.2)).symm) (fun c => Ev.at_ h0 (by omega) (Ev.some_ (edge_or hr h0 (by omega))))
theorem edge_ev {B : repage_Book} (hr : RightL B.1) {i : Int} (h0 : 0 ≤ i) (h1 : i ≤ B.1.length) : Ev (fun k => repage_Book_edge.f k B i) (isTrue (closed B.1 i)) := by
 refine Ev.dc (fun c => Ev.some_ (isTrue_yes (by rw [c]; exact hr.2)).symm) (fun c => Ev.at_ h0 (by omega) (Ev.some_ (edge_or hr h0 (by omega))))
structure MayBe (l come : List api_Slot) (first gone : Int) : Prop where
 fits : Fits l first gone
 one : closed l first
 two : closed l (first + gone)
 right : RightL come
theorem ref_May_ev {w : regletlaw13_Start} {come : List api_Slot} {first gone : Int} (hl : (w.1.length : Int) ≤ 1000000) (hr : RightL w.1) (hw : Wf come) :
 Ev (fun k => regletref13_May.f k w first gone come) (isTrue (MayBe w.1 come first gone)) := by
 refine Ev.dc (fun c => Ev.some_ (isTrue_no (fun m => by have := m.fits.f0; omega)).symm) (fun c1 => ?_)
 refine Ev.dc (fun c => Ev.some_ (isTrue_no (fun m => by have := m.fits.g0; omega)).symm) (fun c2 => ?_)
 refine Ev.dc (fun c => Ev.some_ (isTrue_no (fun m => by have := m.fits.le; have := m.fits.g0; omega)).symm) (fun c3 => ?_)
 rw [w64 (x := (w.1.length : Int) - first) (by omega) (by omega)]
 refine Ev.dc (fun c => Ev.some_ (isTrue_no (fun m => by have := m.fits.le; omega)).symm) (fun c4 => Ev.st (fun k => by rw [regletref13_May.j0]) ?_)
 refine Ev.bind (ref_edge_ev hr (by omega) (by omega)) (Ev.ifc (fun d1 => ?_) (fun d => Ev.some_ (isTrue_no (fun m => d (isTrue_yes m.one))).symm))
 rw [w64 (x := first + gone) (by omega) (by omega)]
 refine Ev.bind (ref_edge_ev hr (by omega) (by omega)) (Ev.ifc (fun d2 => ?_) (fun d => Ev.some_ (isTrue_no (fun m => d (isTrue_yes m.two))).symm))
 refine Ev.bind (ref_Right_ev hw) (Ev.some_ ?_)
 by_cases c : RightL come
 · rw [isTrue_yes c, isTrue_yes ⟨⟨by omega, by omega, by omega⟩, isTrue_iff.1 d1, isTrue_iff.1 d2, c⟩]
 · rw [isTrue_no c, isTrue_no (fun m => c m.right)]
theorem whole_ev {B : repage_Book} {come : List api_Slot} {first gone : Int} (hl : (B.1.length : Int) ≤ 1000000) (hr : RightL B.1) (m : MayBe B.1 come first gone) : Ev (fun k => repage_Book_whole.f k B first gone) true := by
 have f0 := m.fits.f0; have g0 := m.fits.g0; have le := m.fits.le
 refine Ev.dn (by omega) (Ev.dn (by omega) (Ev.dn (by omega) ?_))
 rw [w64 (x := (B.1.length : Int) - first) (by omega) (by omega)]
 refine Ev.dn (by omega) (Ev.st (fun k => by rw [repage_Book_whole.j0]) ?_)
 rw [w64 (x := first + gone) (by omega) (by omega)]
 exact Ev.bind (edge_ev hr (by omega) (by omega)) (Ev.ifp (isTrue_yes m.one) (Ev.bind (edge_ev hr (by omega) (by omega)) (Ev.some_ (isTrue_yes m.two))))
structure Repl (B : repage_Book) (come : List api_Slot) (first gone : Int) (p : Nat) (mid tail : List Int) : Prop where
 again : ∃ frm, Again B.1 come first gone B.2.2.2 B.2.2.1 B.2.1 frm mid tail
 chain : Chain (spl B.1 come first gone) B.2.2.2 B.2.2.1 0 (B.2.1.take p ++ mid ++ tail)
 le : p ≤ B.2.1.length
 at_ : ∃ v, LastAt B.2.1 first v ∧ (p : Int) = if 0 < v - 1 then v - 1 else 0
theorem again_f {B : repage_Book} {l : List api_Slot} {p : Nat} {behind sh frm : Int} {r : List Int × Int} (hp : p ≤ B.2.1.length) (hl : B.2.1.length ≤ 1000000) (hfrm : frm = if (p : Int) < B.2.1.length then rd B.2.1 p else 0)
 (h : Ev (fun k => repage_Book_again.l1 k B l behind sh (B.2.1.take p) frm 0) r) : Ev (fun k => repage_Book_again.f k B l (p : Int) behind sh) r := by
 have e0 : (if (B.2.1.length : Int) < (p : Int) then (B.2.1.length : Int) else (p : Int)) = p := if_neg (by omega)
 have e1 : (([] : List Int) ++ ((B.2.1.drop ((0 : Int).toNat)).take ((p : Int).toNat - (0 : Int).toNat))) = B.2.1.take p := by simp
 unfold repage_Book_again.f
 rw [e0]
 refine Ev.ifp ⟨by omega, by omega, by omega⟩ (Ev.ifp (by simp; omega) ?_)
 rw [e1]
 have go : ∀ {f}, f = frm → Ev (fun k => repage_Book_again.j0 k B l behind sh (B.2.1.take p) f) r := fun {f} e => Ev.st (fun k => by rw [repage_Book_again.j0]) (e ▸ h)
 refine Ev.dc (fun c => Ev.at_ (by omega) c (go ?_)) (fun c => go ?_)
 · rw [hfrm, if_pos c]
 · rw [hfrm, if_neg c]
theorem Replace_ev {B : repage_Book} {come : List api_Slot} {first gone : Int} (hl : (B.1.length : Int) ≤ 1000000) (hc : (come.length : Int) ≤ 1000000) (hw : Wf B.1) (hwc : Wf come) (hr : RightL B.1)
 (m : MayBe B.1 come first gone) (ch : Chain B.1 B.2.2.2 B.2.2.1 0 B.2.1) :
 ∃ p mid tail, Repl B come first gone p mid tail ∧ Ev (fun k => repage_Book_Replace.f k B first gone come) ((p : Int), (mid.length : Int), 0, (spl B.1 come first gone, B.2.1.take p ++ mid ++ tail, B.2.2)) := by
 have f0 := m.fits.f0; have g0 := m.fits.g0; have le := m.fits.le
 have len := spl_len (come := come) m.fits
 have sl := ch.length_le
 have hsr := spl_right m.fits hr m.right m.one m.two
 have hsw := spl_wf (come := come) m.fits hw hwc (by omega)
 obtain ⟨v, hv, he⟩ := find_ev (s := B.2.1) (by omega) ch.up first
 obtain ⟨v0, v1, v2, v3⟩ := hv
 obtain ⟨p, hp⟩ : ∃ p : Nat, (p : Int) = if 0 < v - 1 then v - 1 else 0 := by
  by_cases c : 0 < v - 1
  · exact ⟨(v - 1).toNat, by rw [if_pos c]; omega⟩
  · exact ⟨0, by rw [if_neg c]; rfl⟩
 have hple : p ≤ B.2.1.length := by split at hp <;> omega
 have hres : Ev (fun k => repage_Book_restart.f k B first) (p : Int) := by
  refine Ev.bind he (Ev.some_ ?_)
  rw [w64 (x := v - 1) (by omega) (by omega), hp]
 obtain ⟨frm, hfrm⟩ : ∃ frm, frm = if (p : Int) < B.2.1.length then rd B.2.1 p else 0 := ⟨_, rfl⟩
 have hfr : 0 ≤ frm ∧ frm ≤ (spl B.1 come first gone).length ∧ ∀ t, Chain (spl B.1 come first gone) B.2.2.2 B.2.2.1 frm t → Chain (spl B.1 come first gone) B.2.2.2 B.2.2.1 0 (B.2.1.take p ++ t) := by
  by_cases c : 0 < v - 1
  · rw [if_pos c] at hp
    have a1 := v2 v (by omega) (Int.le_refl _)
    have a2 := ch.up p v (by omega) (by omega) v1
    have a3 := (ch.ge _ (rd_mem (xs := B.2.1) (i := p) (by omega) (by omega))).1
    rw [if_pos (by omega)] at hfrm
    subst hfrm
    refine ⟨a3, by omega, fun t ht => chain_first m.fits hsr.high p 0 B.2.1 ch (by omega) (by rw [show ((p + 1 : Nat) : Int) = v by omega]; exact a1) ht⟩
  · rw [if_neg c] at hp
    obtain rfl : p = 0 := by omega
    have z : frm = 0 := by
     rw [hfrm]
     cases hs : B.2.1 with
     | nil => rfl
     | cons x s =>
      rw [hs] at ch
      rw [if_pos (by simp)]
      exact ch.head.1
    subst z
    exact ⟨by omega, by omega, fun t ht => ht⟩
 obtain ⟨mid, tail, hA, hE⟩ := again_loop m.fits hl hc hsw hsr ch ((spl B.1 come first gone).length - frm).toNat frm 0 (B.2.1.take p) hfr.1 (by omega) (by omega) (by omega) (by rw [List.length_take]; omega)
 rw [Int.zero_add] at hE
 refine ⟨p, mid, tail, ⟨⟨frm, hA⟩, by rw [List.append_assoc]; exact hfr.2.2 _ hA.chain, hple, v, ⟨v0, v1, v2, v3⟩, hp⟩, ?_⟩
 have e1 : (([] : List api_Slot) ++ ((B.1.drop (0 : Int).toNat).take (first.toNat - (0 : Int).toNat))) = B.1.take first.toNat := by simp
 have e2 : (B.1.drop (first + gone).toNat).take ((B.1.length : Int).toNat - (first + gone).toNat) = B.1.drop (first + gone).toNat := List.take_of_length_le (by simp)
 have e3 : B.1.take first.toNat ++ come ++ B.1.drop (first + gone).toNat = spl B.1 come first gone := rfl
 unfold repage_Book_Replace.f
 rw [w64 (x := first + gone) (by omega) (by omega), w64 (x := (come.length : Int) - gone) (by omega) (by omega), e1, e2, e3]
 refine Ev.bind (whole_ev hl hr m) (Ev.ifn (by simp) (Ev.bind (pages_Right_ev hwc) (Ev.xn (errOf_yes m.right) ?_)))
 refine Ev.ifp ⟨by omega, by omega, by omega⟩ (Ev.ifp (by simp; omega) (Ev.ifp (by simp; omega) (Ev.ifp (by simp; omega) ?_)))
 refine Ev.ifp ⟨by omega, by omega, by omega⟩ (Ev.ifp (by simp; omega) (Ev.ifp (by simp; omega) ?_))
 exact Ev.bind hres (Ev.bind (again_f hple (by omega) hfrm hE) (Ev.some_ rfl))
theorem begun_ev {s : regletlaw13_Start} (hw : Wf s.1) : Ev (fun k => regletlaw13_begun.f k s) (none, s, false) ∨
 ∃ g, (s.1.length : Int) ≤ 150 ∧ RightL s.1 ∧ Chain s.1 s.2.2 s.2.1 0 g ∧ HgtOk s.2.1 ∧ SetOk s.2.2 ∧ Ev (fun k => regletlaw13_begun.f k s) (some (s.1, g, s.2), s, true) := by
 by_cases c : (s.1.length : Int) ≤ 150
 · by_cases c2 : RightL s.1
   · by_cases c3 : HgtOk s.2.1 ∧ SetOk s.2.2
     · obtain ⟨g, hc, e1, e2⟩ := pages_Paginate_yes hw (few_of (by omega)) c3 c2
       have n := New_ok (by omega) e1
       refine .inr ⟨g, c, c2, hc, c3.1, c3.2, ?_⟩
       refine Ev.dn (by omega) (Ev.bind (ref_Right_ev hw) (Ev.ifn (by rw [isTrue_yes c2]; simp) (Ev.bind (ref_Check_ev s.2.1 s.2.2) (Ev.ifn (by rw [isTrue_yes c3]; simp) ?_))))
       refine Ev.st (fun k => by rw [regletlaw13_begun.j0]) (Ev.bind n ?_)
       show Ev (fun k => if (!decide ((0 : Int) = 0)) = true then some (none, s, true) else regletlaw13_begun.j1 k (([] : List api_Slot), 0, 0, 0, 0, 0, 0, 0, 0) s (s.1, g, s.2)) _
       exact Ev.xn rfl (Ev.st (fun k => by rw [regletlaw13_begun.j1]) (Ev.now _))
     · refine .inl (Ev.dn (by omega) (Ev.bind (ref_Right_ev hw) (Ev.ifn (by rw [isTrue_yes c2]; simp) (Ev.bind (ref_Check_ev s.2.1 s.2.2) (Ev.ifp (by rw [isTrue_no c3]; rfl) (Ev.now _))))))
   · exact .inl (Ev.dn (by omega) (Ev.bind (ref_Right_ev hw) (Ev.ifp (by rw [isTrue_no c2]; rfl) (Ev.now _))))
 · exact .inl (Ev.dp (by omega) (Ev.now _))
end Go.Proofs.Ytnlocbjojbgdcaa.Vm
