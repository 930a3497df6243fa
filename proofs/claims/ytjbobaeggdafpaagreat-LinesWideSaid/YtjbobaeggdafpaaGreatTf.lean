/- How many lines a text has; the first rune of a part; the reference's kinds. -/
import Derived.Test.YtjbobaeggdafpaaGreatTe
namespace Go.Proofs.YtjbobaeggdafpaaGreat.Vm
open Go
open _root_.Go.RowKit (wrap64)
def cnt (s : ByteArray) : Nat → Nat → Nat
 | 0, _ => 0
 | d + 1, p => (if by_ s p = 10 then 1 else 0) + cnt s d (p + 1)
theorem cnt_add (s : ByteArray) : ∀ (n d p : Nat), (∀ j, j < n → by_ s (p + j) ≠ 10) → cnt s (n + d) p = cnt s d (p + n)
 | 0, d, p, _ => by rw [Nat.zero_add, Nat.add_zero]
 | n + 1, d, p, h => by
  have h0 := h 0 (by omega)
  rw [Nat.add_zero] at h0
  rw [show n + 1 + d = (n + d) + 1 by omega, cnt, if_neg h0, Nat.zero_add, cnt_add s n d (p + 1) (fun j hj => by rw [show p + 1 + j = p + (j + 1) by omega]; exact h (j + 1) (by omega)), show p + 1 + n = p + (n + 1) by omega]
theorem Lines_l0 (s : ByteArray) (hs : s.size ≤ 1000000) {pos : Nat} {L A : List Int} (h : Dec s s.size pos L A) : ∀ n : Nat, n ≤ pos → Ev (fun k => runes_Lines.l0 k (n : Int) (s, pos)) ((n + cnt s (s.size - pos) pos : Nat) : Int) := by
 induction h with
 | done =>
  intro n hn
  refine Ev.st (fun k => by rw [runes_Lines.l0]) (Ev.ifn (by dsimp only; omega) (Ev.some_ ?_))
  rw [Nat.sub_self]; rfl
 | @step pos r m L A hE hD ih =>
  intro n hn
  have p1 := hE.pos1
  have p2 := hE.1
  have dl := hD.le
  refine Ev.st (fun k => by rw [runes_Lines.l0]) (Ev.ifp (by dsimp only; omega) ?_)
  dsimp only
  rw [decode_enc hE]
  refine Ev.bind (kind_ev _) ?_
  by_cases c : r = 10
  · subst c
    obtain ⟨rfl, e⟩ : m = 1 ∧ by_ s pos = 10 := by have := hE.2; omega
    refine Ev.dp (by decide) ?_
    rw [nx n (by omega)]
    have := ih (n + 1) (by omega)
    refine Ev.lift this ?_
    rw [show s.size - pos = (s.size - (pos + 1)) + 1 by omega, cnt, if_pos e]
    omega
  · have k8 : ¬ kindOf (r : Int) = 8 := by
     unfold kindOf kind1 kind2 kind3
     repeat' split
     all_goals omega
    refine Ev.dn k8 ?_
    have := ih n (by omega)
    refine Ev.lift this ?_
    rw [show s.size - pos = m + (s.size - (pos + m)) by omega, cnt_add s m _ pos (fun j hj => by
     have z := hE.2
     obtain rfl | rfl | rfl | rfl : j = 0 ∨ j = 1 ∨ j = 2 ∨ j = 3 := by omega
     · rw [Nat.add_zero]; omega
     · omega
     · omega
     · omega)]
theorem Lines_ev (s : ByteArray) (hs : s.size ≤ 1000000) (h : RightS s 0) : Ev (fun k => runes_Lines.f k s) (cnt s s.size 0 : Int) := by
 obtain ⟨L, A, q⟩ := h
 have := Lines_l0 s hs q 0 (Nat.le_refl _)
 rw [Nat.zero_add, Nat.sub_zero] at this
 exact this
end Go.Proofs.YtjbobaeggdafpaaGreat.Vm
