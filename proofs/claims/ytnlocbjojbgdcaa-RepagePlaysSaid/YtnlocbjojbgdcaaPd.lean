/- The plain law of books: what is begun with, and what is told of it. -/
import Derived.Test.YtnlocbjojbgdcaaPc
namespace Go.Proofs.Ytnlocbjojbgdcaa.Vm
open Go
open _root_.Go.RowKit (wrap64)
theorem same13_loop (l m : List api_Slot) (hl : (l.length : Int) ≤ 4611686018427387904) (h : l.length = m.length) : ∀ (d : Nat) (i : Int), 0 ≤ i → i + d = l.length → (∀ j, 0 ≤ j → j < i → rd l j = rd m j) →
 Ev (fun k => regletref13_Same.l0 k l m i) (isTrue (l = m)) := by
 intro d
 induction d with
 | zero =>
  intro i h0 hi hj
  exact Ev.st (fun k => by rw [regletref13_Same.l0]) (Ev.dn (by omega) (Ev.some_ (isTrue_yes (rd_ext h fun j a b => hj j a (by omega))).symm))
 | succ d ih =>
  intro i h0 hi hj
  refine Ev.st (fun k => by rw [regletref13_Same.l0]) (Ev.dp (by omega) ?_)
  refine Ev.at_ h0 (by omega) ?_
  refine Ev.at_ h0 (by omega) ?_
  have e : (decide ((rd l i).1 = (rd m i).1) && (decide ((rd l i).2.1 = (rd m i).2.1) && (decide ((rd l i).2.2.1 = (rd m i).2.2.1) && (decide ((rd l i).2.2.2 = (rd m i).2.2.2) && true)))) = decide (rd l i = rd m i) := by
   apply Bool.eq_iff_iff.2
   simp only [Bool.and_eq_true, decide_eq_true_eq, and_true, Prod.ext_iff]
  refine Ev.congr (fun k => by rw [e]) ?_
  refine Ev.xc (fun e => Ev.some_ (isTrue_no (fun q => e (by rw [q]))).symm) (fun e => ?_)
  rw [w64 (x := i + 1) (by omega) (by omega)]
  refine ih (i + 1) (by omega) (by omega) (fun j a b => ?_)
  by_cases c : j = i
  · subst c; exact e
  · exact hj j a (by omega)
theorem same13_ev (l m : List api_Slot) (hl : (l.length : Int) ≤ 4611686018427387904) : Ev (fun k => regletref13_Same.f k l m) (isTrue (l = m)) :=
 Ev.xc (fun h => Ev.some_ (isTrue_no (fun e => h (by rw [e]))).symm) (fun h => same13_loop l m hl (by omega) l.length 0 (by omega) (by omega) (fun j a b => by omega))
theorem starts_ev {b : repage_Book} (h : b.2.1.length ≤ 1000000) : Ev (fun k => repage_Book_Starts.f k b) b.2.1 :=
 Ev.ifp (by simp only [List.length_nil]; omega) (Ev.now _)
theorem slots_ev {b : repage_Book} (h : b.1.length ≤ 1000000) : Ev (fun k => repage_Book_Slots.f k b) b.1 :=
 Ev.ifp (by simp only [List.length_nil]; omega) (Ev.now _)
theorem awake_ev : Ev (fun k => regletlaw13_awake.f k) true := Ev.far 80 (fun k => by kernel_rfl)
theorem New_ok {l : List api_Slot} {h : Int} {b : api_Settings} {s : List Int} (hl : l.length ≤ 1000000) (hp : Ev (fun k => pages_Paginate.f k l h b) (s, 0)) :
 Ev (fun k => repage_New.f k l h b) (some (l, s, h, b), 0) :=
 Ev.bind hp (Ev.xn rfl (Ev.ifp (by simp only [List.length_nil]; omega) (Ev.now _)))
theorem New_no {l : List api_Slot} {h : Int} {b : api_Settings} {s : List Int} {e : Int} (he : e ≠ 0) (hp : Ev (fun k => pages_Paginate.f k l h b) (s, e)) :
 Ev (fun k => repage_New.f k l h b) (none, e) := Ev.bind hp (Ev.xp he (Ev.now _))
end Go.Proofs.Ytnlocbjojbgdcaa.Vm
