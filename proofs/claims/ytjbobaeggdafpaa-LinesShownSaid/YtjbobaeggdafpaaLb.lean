/- Chapter 10: a rune's bytes behind others. -/
import Derived.Test.YtjbobaeggdafpaaLa
import Derived.Test.YtjbobaeggdafpaaTh
namespace Go.Proofs.Ytjbobaeggdafpaa.Vm
open Go
open _root_.Go.RowKit (wrap64)
theorem u8w {x : Int} : IntKind.u8.wrap x = x % 256 := by simp [IntKind.wrap, IntKind.bits, IntKind.signed]
theorem and63_all : ∀ e : Fin 256, decide (andI .u8 ((e.val : Nat) : Int) (63 : Int) = ((e.val % 64 : Nat) : Int)) = true := by decide +kernel
theorem or128_all : ∀ e : Fin 64, decide (orI .u8 (128 : Int) ((e.val : Nat) : Int) = ((128 + e.val : Nat) : Int)) = true := by decide +kernel
theorem or192_all : ∀ e : Fin 32, decide (orI .u8 (192 : Int) ((e.val : Nat) : Int) = ((192 + e.val : Nat) : Int)) = true := by decide +kernel
theorem or224_all : ∀ e : Fin 16, decide (orI .u8 (224 : Int) ((e.val : Nat) : Int) = ((224 + e.val : Nat) : Int)) = true := by decide +kernel
theorem or240_all : ∀ e : Fin 8, decide (orI .u8 (240 : Int) ((e.val : Nat) : Int) = ((240 + e.val : Nat) : Int)) = true := by decide +kernel
theorem shrI_ev (r s : Nat) (hs : s ≤ 32) : shrI .i32 (r : Int) (s : Int) = ((r / 2 ^ s : Nat) : Int) := by
  unfold shrI
  have e : min ((s : Int)).toNat (IntKind.i32).bits = s := by
    have : (IntKind.i32).bits = 32 := rfl
    omega
  have e2 : (2 : Int) ^ s = ((2 ^ s : Nat) : Int) := by norm_cast
  rw [e, e2, Int.fdiv_eq_ediv_of_nonneg _ (Int.natCast_nonneg _)]
  rfl
theorem low_ev (r s : Nat) (hs : s ≤ 32) {z : Int} (hz : z = (s : Int)) : Ev (fun k => runes_low.f k (r : Int) z) ((128 + r / 2 ^ s % 64 : Nat) : Int) := by
  subst hz
  refine Ev.ifp (by omega) (Ev.some_ ?_)
  rw [shrI_ev r s hs]
  generalize r / 2 ^ s = x
  rw [u8w, show ((x : Int) % 256) = ((x % 256 : Nat) : Int) from rfl]
  have a := of_decide_eq_true (and63_all ⟨x % 256, Nat.mod_lt _ (by omega)⟩)
  have b := of_decide_eq_true (or128_all ⟨x % 64, Nat.mod_lt _ (by omega)⟩)
  dsimp only at a b
  rw [a, show x % 256 % 64 = x % 64 by omega, b]
/-- a rune's bytes, as the list of one -/
def runeB (r : Int) : List Int := runeL r.toNat
theorem shr_lit {r s : Nat} {z : Int} (hz : z = (s : Int)) (hs : s ≤ 32) {m : Nat} (hm : 2 ^ s = m) (hb : r / m < 256) : IntKind.u8.wrap (shrI .i32 (r : Int) z) = ((r / m : Nat) : Int) := by
  subst hz hm
  rw [shrI_ev r s hs, u8w]
  generalize r / 2 ^ s = x at *
  exact congrArg Nat.cast (Nat.mod_eq_of_lt hb)
theorem apb (b xs : List Int) {r : List Int} (h : b.length ≤ 100000000) (h4 : xs.length ≤ 4) (e : b ++ xs = r) : Ev (fun _ => if ((([] : List Int) ++ b).length + xs.length) * 1 ≤ 140737488355328 then some ((([] : List Int) ++ b) ++ xs) else none) r := by
  subst e
  rw [List.nil_append]
  exact Ev.ifp (by omega) (Ev.now _)
theorem Append_ev (b : List Int) (hb : b.length ≤ 100000000) (r : Nat) (hr : r ≤ 1114111 ∧ (r < 55296 ∨ 57343 < r)) : Ev (fun k => runes_Append.f k b (r : Int)) (b ++ runeL r) := by
  have l0 := low_ev r 0 (by omega) (z := 0) rfl
  have l6 := low_ev r 6 (by omega) (z := 6) rfl
  have l12 := low_ev r 12 (by omega) (z := 12) rfl
  have r0 : runeL r = if r < 128 then [(r : Int)] else if r < 2048 then [((192 + r / 64 : Nat) : Int), ((128 + r % 64 : Nat) : Int)] else if r < 65536 then [((224 + r / 4096 : Nat) : Int), ((128 + r / 64 % 64 : Nat) : Int), ((128 + r % 64 : Nat) : Int)] else [((240 + r / 262144 : Nat) : Int), ((128 + r / 4096 % 64 : Nat) : Int), ((128 + r / 64 % 64 : Nat) : Int), ((128 + r % 64 : Nat) : Int)] := by
    unfold runeL; rw [if_neg (by omega)]
  rw [r0]
  rw [Nat.pow_zero, Nat.div_one] at l0
  rw [show (2 : Nat) ^ 6 = 64 from rfl] at l6
  rw [show (2 : Nat) ^ 12 = 4096 from rfl] at l12
  have go2 : ¬ r < 128 → r < 2048 → orI .u8 (192 : Int) (IntKind.u8.wrap (shrI .i32 (r : Int) (6 : Int))) = ((192 + r / 64 : Nat) : Int) := fun h h' => by
    rw [shr_lit (r := r) (s := 6) (z := 6) (m := 64) rfl (by omega) rfl (by omega)]
    exact of_decide_eq_true (or192_all ⟨r / 64, by omega⟩)
  have go3 : ¬ r < 2048 → r < 65536 → orI .u8 (224 : Int) (IntKind.u8.wrap (shrI .i32 (r : Int) (12 : Int))) = ((224 + r / 4096 : Nat) : Int) := fun h h' => by
    rw [shr_lit (r := r) (s := 12) (z := 12) (m := 4096) rfl (by omega) rfl (by omega)]
    exact of_decide_eq_true (or224_all ⟨r / 4096, by omega⟩)
  have go4 : ¬ r < 65536 → orI .u8 (240 : Int) (IntKind.u8.wrap (shrI .i32 (r : Int) (18 : Int))) = ((240 + r / 262144 : Nat) : Int) := fun h => by
    rw [shr_lit (r := r) (s := 18) (z := 18) (m := 262144) rfl (by omega) rfl (by omega)]
    exact of_decide_eq_true (or240_all ⟨r / 262144, by omega⟩)
  have j0 : ¬ r < 65536 → Ev (fun k => runes_Append.j0 k (r : Int) (([] : List Int) ++ b)) (b ++ [((240 + r / 262144 : Nat) : Int), ((128 + r / 4096 % 64 : Nat) : Int), ((128 + r / 64 % 64 : Nat) : Int), ((128 + r % 64 : Nat) : Int)]) := fun h => by
    refine Ev.st (fun k => by rw [runes_Append.j0]) (Ev.bind l12 (Ev.bind l6 (Ev.bind l0 ?_)))
    refine apb b _ hb ?_ ?_
    · simp
    · rw [go4 h]
  refine Ev.ifp (by simp only [List.length_nil]; omega) (Ev.dn (by omega) (Ev.dn (by omega) (Ev.dc (fun h => Ev.dn (by omega) ?_) (fun h => ?_))))
  all_goals
    refine Ev.dc (fun c => ?_) (fun c => ?_)
    · rw [if_pos (show r < 128 by omega)]
      refine apb b _ hb ?_ ?_
      · simp
      · rw [u8w, show (r : Int) % 256 = (r : Int) by omega]
    rw [if_neg (show ¬ r < 128 by omega)]
    refine Ev.dc (fun c => ?_) (fun c => ?_)
    · rw [if_pos (show r < 2048 by omega)]
      refine Ev.bind l0 ?_
      refine apb b _ hb ?_ ?_
      · simp
      · rw [go2 (by omega) (by omega)]
    rw [if_neg (show ¬ r < 2048 by omega)]
    refine Ev.dc (fun c => ?_) (fun c => ?_)
    · rw [if_pos (show r < 65536 by omega)]
      refine Ev.bind l6 (Ev.bind l0 ?_)
      refine apb b _ hb ?_ ?_
      · simp
      · rw [go3 (by omega) (by omega)]
    rw [if_neg (show ¬ r < 65536 by omega)]
    exact j0 (by omega)
end Go.Proofs.Ytjbobaeggdafpaa.Vm
