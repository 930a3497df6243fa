/- Small words for what a printed function comes to from some number of rounds on. -/
import Derived.Test.YtepeoiimdefnpaaV4
namespace Go.Proofs.Ytepeoiimdefnpaa.Vm
open Go
open _root_.Go.RowKit (wrap64)
def Ev {α : Type} (g : Nat → Option α) (r : α) : Prop := ∃ K, ∀ k, K ≤ k → g k = some r
theorem Ev.now {α : Type} (r : α) : Ev (fun _ => some r) r := ⟨0, fun _ _ => rfl⟩
theorem Ev.rounds {α : Type} {g : Nat → Option α} {r : α} (h : Ev g r) : ∃ k, g k = some r := by
  obtain ⟨K, h⟩ := h
  exact ⟨K, h K (Nat.le_refl _)⟩
theorem Ev.congr {α : Type} {g h : Nat → Option α} {r : α} (e : ∀ k, g k = h k) (H : Ev h r) : Ev g r := by
  obtain ⟨K, H⟩ := H
  exact ⟨K, fun k hk => (e k).trans (H k hk)⟩
theorem Ev.st {α : Type} {g h : Nat → Option α} {r : α} (e : ∀ k, g (k + 1) = h k) (H : Ev h r) : Ev g r := by
  obtain ⟨K, H⟩ := H
  refine ⟨K + 1, fun k hk => ?_⟩
  obtain ⟨j, rfl⟩ : ∃ j, k = j + 1 := ⟨k - 1, by omega⟩
  exact (e j).trans (H j (by omega))
theorem Ev.far {α : Type} {g : Nat → Option α} {r : α} (n : Nat) (e : ∀ k, g (k + n) = some r) : Ev g r := ⟨n, fun k hk => by
  obtain ⟨j, rfl⟩ : ∃ j, k = j + n := ⟨k - n, by omega⟩
  exact e j⟩
theorem Ev.bind {α β : Type} {g : Nat → Option α} {h : Nat → α → Option β} {a : α} {r : β} (A : Ev g a) (B : Ev (fun k => h k a) r) : Ev (fun k => (g k).bind (h k)) r := by
  obtain ⟨K, A⟩ := A
  obtain ⟨L, B⟩ := B
  exact ⟨max K L, fun k hk => by show (g k).bind (h k) = some r; rw [A k (by omega)]; exact B k (by omega)⟩
theorem Ev.ifp {α : Type} {c : Prop} [Decidable c] {a b : Nat → Option α} {r : α} (h : c) (k : Ev a r) : Ev (fun n => if c then a n else b n) r := Ev.congr (fun _ => if_pos h) k
theorem Ev.ifn {α : Type} {c : Prop} [Decidable c] {a b : Nat → Option α} {r : α} (h : ¬ c) (k : Ev b r) : Ev (fun n => if c then a n else b n) r := Ev.congr (fun _ => if_neg h) k
theorem Ev.ifc {α : Type} {c : Prop} [Decidable c] {a b : Nat → Option α} {r : α} (h : c → Ev a r) (k : ¬ c → Ev b r) : Ev (fun n => if c then a n else b n) r := by
  by_cases hc : c
  · exact Ev.ifp hc (h hc)
  · exact Ev.ifn hc (k hc)
theorem Ev.dp {α : Type} {c : Prop} [Decidable c] {a b : Nat → Option α} {r : α} (h : c) (k : Ev a r) : Ev (fun n => if (decide c) = true then a n else b n) r := Ev.ifp (decide_eq_true h) k
theorem Ev.dn {α : Type} {c : Prop} [Decidable c] {a b : Nat → Option α} {r : α} (h : ¬ c) (k : Ev b r) : Ev (fun n => if (decide c) = true then a n else b n) r := Ev.ifn (by simpa using h) k
theorem Ev.dc {α : Type} {c : Prop} [Decidable c] {a b : Nat → Option α} {r : α} (h : c → Ev a r) (k : ¬ c → Ev b r) : Ev (fun n => if (decide c) = true then a n else b n) r := by
  by_cases hc : c
  · exact Ev.dp hc (h hc)
  · exact Ev.dn hc (k hc)
theorem Ev.xp {α : Type} {c : Prop} [Decidable c] {a b : Nat → Option α} {r : α} (h : ¬ c) (k : Ev a r) : Ev (fun n => if (!decide c) = true then a n else b n) r := Ev.ifp (by simpa using h) k
theorem Ev.xn {α : Type} {c : Prop} [Decidable c] {a b : Nat → Option α} {r : α} (h : c) (k : Ev b r) : Ev (fun n => if (!decide c) = true then a n else b n) r := Ev.ifn (by simpa using h) k
theorem Ev.xc {α : Type} {c : Prop} [Decidable c] {a b : Nat → Option α} {r : α} (h : ¬ c → Ev a r) (k : c → Ev b r) : Ev (fun n => if (!decide c) = true then a n else b n) r := by
  by_cases hc : c
  · exact Ev.xn hc (k hc)
  · exact Ev.xp hc (h hc)
theorem Ev.some_ {α : Type} {x r : α} (h : x = r) : Ev (fun _ => some x) r := h ▸ Ev.now x
theorem Ev.opt {α : Type} {x : Option α} {r : α} (h : x = some r) : Ev (fun _ => x) r := ⟨0, fun _ _ => h⟩
theorem Ev.lift {α : Type} {g : Nat → Option α} {r s : α} (h : Ev g r) (e : r = s) : Ev g s := e ▸ h
/-- A list's element, or what is nothing. -/
def rd {α : Type} [Inhabited α] (xs : List α) (i : Int) : α := xs.getD i.toNat default
theorem at?_rd {α : Type} [Inhabited α] {xs : List α} {i : Int} (h0 : 0 ≤ i) (h : i < xs.length) : at? xs i = some (rd xs i) := by
  unfold at? rd
  rw [if_pos h0, List.getD_eq_getElem?_getD, List.getElem?_eq_getElem (show i.toNat < xs.length by omega)]; rfl
theorem Ev.at_ {α β : Type} [Inhabited α] {xs : List α} {i : Int} {F : Nat → α → Option β} {r : β} (h0 : 0 ≤ i) (h : i < xs.length) (k : Ev (fun n => F n (rd xs i)) r) : Ev (fun n => (at? xs i).bind (F n)) r :=
  Ev.bind (Ev.opt (at?_rd h0 h)) k
theorem Ev.ix {α β : Type} {xs : List α} {i : Int} {x : α} {F : Nat → α → Option β} {r : β} (h : xs[i.toNat]? = some x) (k : Ev (fun n => F n x) r) : Ev (fun n => (xs[i.toNat]?).bind (F n)) r :=
  Ev.bind (Ev.opt h) k
theorem w64 {x : Int} (h : -9223372036854775808 ≤ x) (h' : x ≤ 9223372036854775807) : wrap64 x = x := by unfold wrap64; omega
theorem lit64 {x : Int} (h : (Lit.int .i64 x).wf = true) : -9223372036854775808 ≤ x ∧ x ≤ 9223372036854775807 := by
  simp [Lit.wf, IntKind.min, IntKind.max, IntKind.signed, IntKind.bits] at h; omega
theorem rd_mem {α : Type} [Inhabited α] {xs : List α} {i : Int} (h0 : 0 ≤ i) (h : i < xs.length) : rd xs i ∈ xs := by
  unfold rd; rw [List.getD_eq_getElem?_getD, List.getElem?_eq_getElem (show i.toNat < xs.length by omega)]
  exact List.getElem_mem _
theorem rd_ext {α : Type} [Inhabited α] {xs ys : List α} (h : xs.length = ys.length) (e : ∀ i : Int, 0 ≤ i → i < xs.length → rd xs i = rd ys i) : xs = ys := by
  apply List.ext_getElem h
  intro n h1 h2
  have := e n (by omega) (by omega)
  simpa [rd, List.getD_eq_getElem?_getD, h1, h2] using this
end Go.Proofs.Ytepeoiimdefnpaa.Vm
