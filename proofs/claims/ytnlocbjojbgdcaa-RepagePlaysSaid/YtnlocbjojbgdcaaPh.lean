/- The plain law of books: a law's beginning, and small words for its loops. -/
import Derived.Test.YtnlocbjojbgdcaaPg
namespace Go.Proofs.Ytnlocbjojbgdcaa.Vm
open Go
open _root_.Go.RowKit (wrap64)
theorem rd_some {α : Type} [Inhabited α] {xs : List α} {i : Int} (h0 : 0 ≤ i) (h : i < xs.length) : xs[i.toNat]? = some (rd xs i) := by
 unfold rd
 rw [List.getD_eq_getElem?_getD, List.getElem?_eq_getElem (show i.toNat < xs.length by omega)]; rfl
theorem Ev.gx {α β : Type} [Inhabited α] {xs : List α} {i : Int} {F : Nat → α → Option β} {r : β} (h0 : 0 ≤ i) (h : i < xs.length) (k : Ev (fun n => F n (rd xs i)) r) :
 Ev (fun n => if 0 ≤ i ∧ i < (xs.length : Int) then (xs[i.toNat]?).bind (F n) else none) r := Ev.ifp ⟨h0, h⟩ (Ev.ix (rd_some h0 h) k)
theorem rd_map {f : Int → Int} {xs : List Int} {i : Int} (h0 : 0 ≤ i) (h : i < xs.length) : rd (xs.map f) i = f (rd xs i) := by
 unfold rd
 simp only [List.getD_eq_getElem?_getD]
 rw [List.getElem?_eq_getElem (show i.toNat < (xs.map f).length by simp; omega), List.getElem?_eq_getElem (show i.toNat < xs.length by omega)]
 simp
section
variable {B : repage_Book} {come : List api_Slot} {first gone : Int} {p : Nat} {mid tail : List Int}
theorem Repl.ahead (R : Repl B come first gone p mid tail) {i : Int} (h0 : 0 ≤ i) (h : i < p) : rd (B.2.1.take p ++ mid ++ tail) i = rd B.2.1 i := by
 have := R.le
 rw [List.append_assoc, rd_app _ _ h0, if_pos (by rw [List.length_take]; omega), rd_take _ h0 h]
theorem Repl.mids (R : Repl B come first gone p mid tail) {i : Int} (h0 : p ≤ i) (h : i < p + mid.length) : rd (B.2.1.take p ++ mid ++ tail) i ∈ mid := by
 have := R.le
 have e : (B.2.1.take p).length = p := by rw [List.length_take]; omega
 rw [List.append_assoc, rd_app _ _ (by omega), if_neg (by omega), rd_app _ _ (by omega), if_pos (by omega)]
 exact rd_mem (by omega) (by omega)
theorem Repl.tails (R : Repl B come first gone p mid tail) {i : Int} (h0 : p + mid.length ≤ i) : rd (B.2.1.take p ++ mid ++ tail) i = rd tail (i - (p + mid.length)) := by
 have := R.le
 have e : (B.2.1.take p).length = p := by rw [List.length_take]; omega
 rw [rd_app _ _ (by omega), if_neg (by rw [List.length_append]; omega), List.length_append, e]
 congr 1
theorem Repl.len (R : Repl B come first gone p mid tail) : (B.2.1.take p ++ mid ++ tail).length = p + mid.length + tail.length := by
 have := R.le
 simp only [List.length_append, List.length_take]; omega
theorem Repl.last (R : Repl B come first gone p mid tail) (ch : Chain B.1 B.2.2.2 B.2.2.1 0 B.2.1) : tail.length ≤ B.2.1.length ∧ ∀ i : Int, 1 ≤ i → i ≤ tail.length →
 rd tail (tail.length - i) = rd B.2.1 (B.2.1.length - i) + (come.length - gone) ∧ first + gone ≤ rd B.2.1 (B.2.1.length - i) := by
 obtain ⟨frm, A⟩ := R.again
 rcases A.stay with rfl | ⟨q, hq, hf, rfl⟩
 · exact ⟨by simp, fun i h0 h1 => by simp at h1; omega⟩
 · have e : ((B.2.1.drop q).map (· + ((come.length : Int) - gone))).length = B.2.1.length - q := by simp
   refine ⟨by rw [e]; omega, fun i h0 h1 => ?_⟩
   rw [e] at h1 ⊢
   rw [rd_map (by omega) (by rw [List.length_drop]; omega), rd_drop _ (by omega)]
   have e2 : (q : Int) + (((B.2.1.length - q : Nat) : Int) - i) = B.2.1.length - i := by omega
   rw [e2]
   refine ⟨rfl, ?_⟩
   by_cases c : (q : Int) = B.2.1.length - i
   · rw [← c]; exact hf
   · have := ch.up q (B.2.1.length - i) (by omega) (by omega) (by omega); omega
end
end Go.Proofs.Ytnlocbjojbgdcaa.Vm
