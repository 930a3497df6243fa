/- Own words: shorter forms of what the printed texts say often. -/
import Derived.Test.YtdkmmddakidieaaWs
namespace Go.Proofs.YtdkmmddakidieaaW.PrintWords
open Go.RowKit
theorem hb_up {w W : World} {a : Addr} {v : Value} (h : Below w.heap.size w W) (hx : w.cell? a = some v) : W.cell? a = some v := (h.cell (World.block_lt_of_cell? w _ hx)).trans hx
theorem ne_far1 {w : World} {p : Addr} {v : Value} {g : Nat} (h : w.cell? p = some v) (hg : w.heap.size ≤ g) : p.block ≠ g := Nat.ne_of_lt (Nat.lt_of_lt_of_le (World.block_lt_of_cell? _ _ h) hg)
end Go.Proofs.YtdkmmddakidieaaW.PrintWords
namespace Go.Proofs.YtdkmmddakidieaaW.PrintLast
open Go.RowKit Go.Proofs.YtdkmmddakidieaaW.PrintWords
def bl : Nat → Nat → List Bool
  | 0, _ => []
  | n + 1, x => (x % 2 == 1) :: bl n (x / 2)
/-- which operations of a region are done: bit by bit -/
def bm (n x : Nat) : Array Bool := ⟨bl n x⟩
theorem aP (a : Act) (n : Tmp) (v : Value) : a.put (some n) v = { a with tmps := a.tmps.setIfInBounds n v } := rfl
theorem aS {α : Type} (l : List α) (i : Nat) (x : α) : l.toArray.setIfInBounds i x = (l.set i x).toArray := List.setIfInBounds_toArray l i x
theorem aZ {α : Type} {x : α} {xs : List α} {y : α} : (x :: xs).set 0 y = y :: xs := List.set_cons_zero
theorem aC {α : Type} {x : α} {xs : List α} {i : Nat} {y : α} : (x :: xs).set (i + 1) y = x :: xs.set i y := List.set_cons_succ
theorem aW (n : Int) : IntKind.i64.wrap n = Go.RowKit.wrap64 n := by unfold Go.RowKit.wrap64; exact IntKind.wrap_i64 n
theorem aX (n : Int) : IntKind.i32.wrap n = Go.RowKit.wrap32 n := by unfold Go.RowKit.wrap32; exact IntKind.wrap_i32 n
theorem bN {B : Nat} {w W : World} (h : Below B w W) (n : Nat) : Below B w (W.drewN n) := pw_below_drewN h n
theorem bD {B : Nat} {w W : World} (h : Below B w W) : Below B w W.drew := below_drew h
theorem bA {w W : World} (h : Below w.heap.size w W) (o : Obj) : Below w.heap.size w (W.alloc o) := below_alloc h o
theorem kN {w : World} {g : Nat} {o : Obj} (h : w.heap[g]? = some o) (n : Nat) : (w.drewN n).heap[g]? = some o := h
theorem kD {w : World} {g : Nat} {o : Obj} (h : w.heap[g]? = some o) : w.drew.heap[g]? = some o := h
theorem kA {w : World} {g : Nat} {o : Obj} (h : w.heap[g]? = some o) (o' : Obj) : (w.alloc o').heap[g]? = some o := blk_alloc h o'
theorem aO {md} {ops} {T} {l} {l'} {i} (hT : Aside0 (rtab md ops = T)) (h : anyT T l.toList l'.toList i = true) : anyB md ops l l' i = true := any_of hT.out h
abbrev V8 := Value × Value × Value × Value × Value × Value × Value × Value
end Go.Proofs.YtdkmmddakidieaaW.PrintLast
