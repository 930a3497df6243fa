/- More small words for plain laws: rows of one's own, words without a sign, lists. -/
import Derived.Test.YtepeoiimdefnpaaEv
namespace Go.Proofs.Ytepeoiimdefnpaa.Vm
open Go
open _root_.Go.RowKit (wrap64)
theorem Ev.gx {α β : Type} [Inhabited α] {xs : List α} {i : Int} {F : Nat → α → Option β} {r : β} (h0 : 0 ≤ i) (h : i < xs.length) (k : Ev (fun n => F n (rd xs i)) r) :
    Ev (fun n => if 0 ≤ i ∧ i < (xs.length : Int) then (xs[i.toNat]?).bind (F n) else none) r := by
  refine Ev.ifp ⟨h0, h⟩ (Ev.ix ?_ k)
  unfold rd
  rw [List.getD_eq_getElem?_getD, List.getElem?_eq_getElem (show i.toNat < xs.length by omega)]; rfl
theorem Ev.bp {α : Type} {b : Bool} {x y : Nat → Option α} {r : α} (h : b = true) (k : Ev x r) : Ev (fun n => if b = true then x n else y n) r := Ev.ifp h k
theorem Ev.bn {α : Type} {b : Bool} {x y : Nat → Option α} {r : α} (h : b = false) (k : Ev y r) : Ev (fun n => if b = true then x n else y n) r := Ev.ifn (by rw [h]; exact Bool.false_ne_true) k
theorem Ev.bc {α : Type} {b : Bool} {x y : Nat → Option α} {r : α} (h : b = true → Ev x r) (k : b = false → Ev y r) : Ev (fun n => if b = true then x n else y n) r := by
  cases hb : b with
  | true => exact Ev.ifp rfl (h hb)
  | false => exact Ev.ifn (by simp) (k hb)
/-- a condition that is denied -/
theorem Ev.nc {α : Type} {b : Bool} {x y : Nat → Option α} {r : α} (h : b = false → Ev x r) (k : b = true → Ev y r) : Ev (fun n => if (!b) = true then x n else y n) r := by
  cases hb : b with
  | true => exact Ev.ifn (by simp) (k hb)
  | false => exact Ev.ifp rfl (h hb)
theorem Ev.uniq {α : Type} {g : Nat → Option α} {r s : α} (h : Ev g r) (k : Ev g s) : r = s := by
  obtain ⟨K, h⟩ := h
  obtain ⟨K', k⟩ := k
  have a := h (max K K') (Nat.le_max_left _ _)
  have b := k (max K K') (Nat.le_max_right _ _)
  exact Option.some.inj (a.symm.trans b)
theorem Ev.nilp {α β : Type} {x : Option α} {a : Nat → Option β} {f : Nat → α → Option β} {r : β} (h : x = none) (k : Ev a r) : Ev (fun n => optK x (a n) (f n)) r := by subst h; exact k
theorem Ev.somep {α β : Type} {x : Option α} {y : α} {a : Nat → Option β} {f : Nat → α → Option β} {r : β} (h : x = some y) (k : Ev (fun n => f n y) r) : Ev (fun n => optK x (a n) (f n)) r := by subst h; exact k
def U64 (x : Int) : Prop := 0 ≤ x ∧ x < 18446744073709551616
theorem u64id {x : Int} (h : 0 ≤ x) (h' : x < 18446744073709551616) : IntKind.u64.wrap x = x := by
  have e : IntKind.u64.wrap x = x % 18446744073709551616 := by simp [IntKind.wrap, IntKind.bits, IntKind.signed]
  rw [e]; omega
theorem rd_nat {α : Type} [Inhabited α] (xs : List α) (i : Nat) : rd xs (i : Int) = xs.getD i default := by simp [rd]
theorem rdn (xs : List Int) (i : Nat) : rd xs (i : Int) = xs.getD i 0 := by simp [rd]
theorem rd_get {α : Type} [Inhabited α] (xs : List α) (i : Nat) (h : i < xs.length) : rd xs (i : Int) = xs[i] := by
  rw [rd_nat, List.getD_eq_getElem?_getD, List.getElem?_eq_getElem h]; rfl
theorem drop_rd {α : Type} [Inhabited α] (l : List α) (i : Nat) (h : i < l.length) : l.drop i = rd l (i : Int) :: l.drop (i + 1) := by
  rw [rd_get l i h]; exact List.drop_eq_getElem_cons h
theorem take_rd {α : Type} [Inhabited α] (l : List α) (i : Nat) (h : i < l.length) : l.take (i + 1) = l.take i ++ [rd l (i : Int)] := by
  rw [rd_get l i h, List.take_add_one, List.getElem?_eq_getElem h]; rfl
theorem rd_in {α : Type} [Inhabited α] (l : List α) {i : Nat} (h : i < l.length) : rd l (i : Int) ∈ l := by rw [rd_get l i h]; exact List.getElem_mem _
theorem nx (i : Nat) (h : i < 4000000000000000000) : wrap64 ((i : Int) + 1) = ((i + 1 : Nat) : Int) := by rw [w64 (by omega) (by omega)]; omega
theorem nx2 (i j : Nat) (h : i + j < 4000000000000000000) : wrap64 ((i : Int) + (j : Int)) = ((i + j : Nat) : Int) := (w64 (by omega) (by omega)).trans (Int.natCast_add i j).symm
theorem rd_set_eq {α : Type} [Inhabited α] {s : List α} {i : Nat} (h : i < s.length) (v : α) : rd (s.set i v) (i : Int) = v := by
  rw [rd_nat, List.getD_eq_getElem?_getD, List.getElem?_set_self h]; rfl
theorem rd_set_ne {α : Type} [Inhabited α] {s : List α} {i j : Nat} (h : i ≠ j) (v : α) : rd (s.set i v) (j : Int) = rd s (j : Int) := by
  rw [rd_nat, rd_nat, List.getD_eq_getElem?_getD, List.getD_eq_getElem?_getD, List.getElem?_set_ne h]
theorem rd_app_lt {α : Type} [Inhabited α] {xs ys : List α} {i : Int} (h0 : 0 ≤ i) (h : i < xs.length) : rd (xs ++ ys) i = rd xs i := by
  unfold rd; rw [List.getD_eq_getElem?_getD, List.getD_eq_getElem?_getD, List.getElem?_append_left (by omega)]
theorem rd_app_ge {α : Type} [Inhabited α] {xs ys : List α} {i : Int} (h : (xs.length : Int) ≤ i) : rd (xs ++ ys) i = rd ys (i - xs.length) := by
  unfold rd; rw [List.getD_eq_getElem?_getD, List.getD_eq_getElem?_getD, List.getElem?_append_right (by omega)]
  congr 2; omega
open Classical in
noncomputable def isTrue (p : Prop) : Bool := if p then true else false
theorem isTrue_yes {p : Prop} (h : p) : isTrue p = true := by unfold isTrue; exact if_pos h
theorem isTrue_no {p : Prop} (h : ¬ p) : isTrue p = false := by unfold isTrue; exact if_neg h
theorem isTrue_iff {p : Prop} : isTrue p = true ↔ p := by
  by_cases h : p
  · exact ⟨fun _ => h, fun _ => isTrue_yes h⟩
  · exact ⟨(fun e => by rw [isTrue_no h] at e; cases e), fun q => absurd q h⟩
theorem isTrue_dec (p : Prop) [Decidable p] : isTrue p = decide p := by
  by_cases h : p
  · rw [isTrue_yes h, decide_eq_true h]
  · rw [isTrue_no h, decide_eq_false h]
theorem isTrue_bool {p : Prop} {b : Bool} (h : b = true ↔ p) : b = isTrue p := by
  by_cases q : p
  · rw [isTrue_yes q]; exact h.2 q
  · rw [isTrue_no q]; exact Bool.eq_false_iff.2 fun e => q (h.1 e)
end Go.Proofs.Ytepeoiimdefnpaa.Vm
