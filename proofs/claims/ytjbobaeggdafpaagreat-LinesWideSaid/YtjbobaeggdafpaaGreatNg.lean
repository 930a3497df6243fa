/- Chapter 9: the example, breakings alike. -/
import Derived.Test.YtjbobaeggdafpaaGreatNf
import Derived.Test.YtjbobaeggdafpaaGreatV3
namespace Go.Proofs.YtjbobaeggdafpaaGreat.Vm
open Go
open _root_.Go.RowKit (wrap64)
theorem Net.Way.len {N : Net} : ∀ {W : List Nat} {a : Nat} {c t u : Int}, N.Way a c t W u → a + W.length ≤ N.n
 | [], _, _, _, _, h => by have := h.1; simp; omega
 | j :: r, a, _, _, _, h => by
  have := Net.Way.len h.2
  have := h.1.1
  simp only [List.length_cons]; omega
theorem Brk.len {l : List api_Item} {w : Int} {s : api_Settings} {W : List Nat} {u : Int} {e : Bool} (h : Brk l w s W u e) : W.length ≤ (ends l).length := by
 have := h.first.1.len
 rwa [Nat.zero_add] at this
end Go.Proofs.YtjbobaeggdafpaaGreat.Vm
