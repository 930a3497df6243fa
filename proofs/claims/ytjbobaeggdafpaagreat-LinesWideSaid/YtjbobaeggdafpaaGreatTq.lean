/- A paragraph's text and runs: the program's first fault is the reference's. -/
import Derived.Test.YtjbobaeggdafpaaGreatTp
namespace Go.Proofs.YtjbobaeggdafpaaGreat.Vm
open Go
open _root_.Go.RowKit (wrap64)
theorem iChk07_ev (l : List Styl) (s : ByteArray) (hs : s.size ≤ 1000000) (R : List (Int × Int)) (hR : R.length ≤ 1000000) : Ev (fun k => items_Check.f k l s R) (chkC l s R) := by
 unfold chkC
 have C := rCheck_ev s hs
 by_cases hr : RightS s 0
 · rw [isTrue_yes hr, if_pos rfl] at C
   rw [isTrue_yes hr, if_neg (by simp)]
   refine Ev.bind C (Ev.xn rfl (Ev.bind (Lines_ev s hs hr) ?_))
   refine Ev.dc (fun q => Ev.some_ (by rw [if_pos q])) (fun q => ?_)
   rw [if_neg q]
   have q0 : 0 < s.size := by
    rcases Nat.eq_zero_or_pos s.size with z | z
    · exact absurd (empty_size.2 z) q
    · exact z
   have e := cnt_last s (s.size - 1) 0
   rw [show s.size - 1 + 1 = s.size by omega, Nat.zero_add] at e
   have nl : NlBad s ↔ cnt s (s.size - 1) 0 ≠ 0 := by
    constructor
    · rintro ⟨i, h1, h2⟩ z
      have := (cnt_zero s (s.size - 1) 0).1 z i (by omega)
      rw [Nat.zero_add] at this
      exact this h2
    · intro h
      by_cases w : ∃ i, i + 1 < s.size ∧ by_ s i = 10
      · exact w
      · exact absurd ((cnt_zero s (s.size - 1) 0).2 (fun i hi q => w ⟨i, by omega, by rwa [Nat.zero_add] at q⟩)) h
   have go : ¬ NlBad s → Ev (fun k => items_Check.j0 k l s R) (if isTrue (NlBad s) = true then 70 else runC l.length s 0 R) := fun no => by
    rw [isTrue_no no, if_neg Bool.false_ne_true]
    refine Ev.st (fun k => by rw [items_Check.j0]) ?_
    exact iCheck_loop l s hs R hR R.length 0 0 (by omega) (Nat.zero_le _)
   have bad : NlBad s → Ev (fun _ => some (70 : Int)) (if isTrue (NlBad s) = true then 70 else runC l.length s 0 R) := fun h => Ev.some_ (by rw [isTrue_yes h, if_pos rfl])
   refine Ev.dc (fun h1 => bad (nl.2 fun z => by rw [z] at e; split at e <;> omega)) (fun h1 => ?_)
   refine Ev.dc (fun h2 => ?_) (fun h2 => go (fun w => by have := nl.1 w; split at e <;> omega))
   rw [w64 (x := (s.size : Int) - 1) (by omega) (by omega), show (s.size : Int) - 1 = ((s.size - 1 : Nat) : Int) by omega]
   refine Ev.byte (by omega) ?_
   refine Ev.xc (fun h3 => bad (nl.2 fun z => by rw [z, if_neg (by omega)] at e; omega)) (fun h3 => go (fun w => by have := nl.1 w; rw [if_pos (by omega)] at e; omega))
 · rw [isTrue_no hr, if_neg Bool.false_ne_true] at C
   rw [isTrue_no hr, if_pos rfl]
   exact Ev.bind C (Ev.xp (by decide) (Ev.now _))
end Go.Proofs.YtjbobaeggdafpaaGreat.Vm
