/- The program's reading of a text: how long the rune at a place is, whether all is right, and what runes are to a line. -/
import Derived.Test.YtjbobaeggdafpaaGreatTb
namespace Go.Proofs.YtjbobaeggdafpaaGreat.Vm
open Go
open _root_.Go.RowKit (wrap64)
def Tail (s : ByteArray) : Nat → Nat → Nat → Nat → Prop
 | 0, _, _, _ => True
 | n + 1, lo, hi, p => p < s.size ∧ lo ≤ by_ s p ∧ by_ s p ≤ hi ∧ Tail s n 128 191 (p + 1)
theorem tail_ev (s : ByteArray) (hs : s.size ≤ 1000000) (pos : Nat) : ∀ (n lo hi p : Nat), n ≤ 4 → pos ≤ p → p ≤ 1000010 → Ev (fun k => runes_size.j4 k s (pos : Int) (n : Int) (lo : Int) (hi : Int) (p : Int)) (if isTrue (Tail s n lo hi p) = true then ((p + n - pos : Nat) : Int) else 0)
 | 0, lo, hi, p, h4, hp, hl => by
  refine Ev.st (fun k => by rw [runes_size.j4]) ?_
  refine Ev.dp (by rfl) (Ev.some_ ?_)
  rw [isTrue_yes (show Tail s 0 lo hi p from trivial), if_pos rfl, w64 (by omega) (by omega)]
  omega
 | n + 1, lo, hi, p, h4, hp, hl => by
  have no : ¬ Tail s (n + 1) lo hi p → Ev (fun _ => some (0 : Int)) (if isTrue (Tail s (n + 1) lo hi p) = true then ((p + (n + 1) - pos : Nat) : Int) else 0) := fun h => Ev.some_ (by rw [isTrue_no h]; rfl)
  refine Ev.st (fun k => by rw [runes_size.j4]) (Ev.dn (by omega) ?_)
  refine Ev.dc (fun h => no fun q => by have := q.1; omega) (fun h => ?_)
  refine Ev.byte (by omega) ?_
  refine Ev.dc (fun h1 => no fun q => by have := q.2.1; omega) (fun h1 => ?_)
  refine Ev.byte (by omega) ?_
  refine Ev.dc (fun h2 => no fun q => by have := q.2.2.1; omega) (fun h2 => ?_)
  refine Ev.st (fun k => by rw [runes_size.j7]) ?_
  rw [w64 (x := ((n + 1 : Nat) : Int) - 1) (by omega) (by omega), show ((n + 1 : Nat) : Int) - 1 = (n : Int) by omega, nx p (by omega)]
  have go := tail_ev s hs pos n 128 191 (p + 1) (by omega) (by omega) (by omega)
  have e : isTrue (Tail s (n + 1) lo hi p) = isTrue (Tail s n 128 191 (p + 1)) := by
   by_cases q : Tail s n 128 191 (p + 1)
   · rw [isTrue_yes q, isTrue_yes (show Tail s (n + 1) lo hi p from ⟨by omega, by omega, by omega, q⟩)]
   · rw [isTrue_no q, isTrue_no (fun z : Tail s (n + 1) lo hi p => q z.2.2.2)]
  rw [e, show p + (n + 1) - pos = p + 1 + n - pos by omega]
  exact go
theorem size_ev (s : ByteArray) (hs : s.size ≤ 1000000) (pos : Nat) (h : pos < s.size) : (∃ r n : Nat, Enc s pos r n ∧ Ev (fun k => runes_size.f k s (pos : Int)) (n : Int)) ∨ ((∀ r n, ¬ Enc s pos r n) ∧ Ev (fun k => runes_size.f k s (pos : Int)) 0) := by
 have b := by_lt s pos
 have b1 := by_lt s (pos + 1)
 have b2 := by_lt s (pos + 2)
 have b3 := by_lt s (pos + 3)
 have pre : ∀ q, Ev (fun k => if (decide ((by_ s pos : Int) < 128)) = true then (some 1) else (if (decide ((by_ s pos : Int) < 194)) = true then (some 0) else (if (decide (244 < (by_ s pos : Int))) = true then (some 0) else (if (decide ((by_ s pos : Int) < 224)) = true then (runes_size.j1 k s (pos : Int) 1 128 191 ((pos + 1 : Nat) : Int)) else (if (decide ((by_ s pos : Int) < 240)) = true then (runes_size.j2 k s (pos : Int) 2 128 191 (by_ s pos : Int) ((pos + 1 : Nat) : Int)) else (runes_size.j3 k s (pos : Int) 3 128 191 (by_ s pos : Int) ((pos + 1 : Nat) : Int))))))) q → Ev (fun k => runes_size.f k s (pos : Int)) q := fun q v => by
  refine Ev.dn (by omega) (Ev.dn (by omega) ?_)
  refine Ev.st (fun k => by rw [runes_size.j0]) ?_
  refine Ev.byte h ?_
  rw [nx pos (by omega)]
  exact v
 have fin : ∀ (n lo hi : Nat), n ≤ 3 → (∀ q, Ev (fun k => runes_size.j4 k s (pos : Int) (n : Int) (lo : Int) (hi : Int) ((pos + 1 : Nat) : Int)) q → Ev (fun k => runes_size.f k s (pos : Int)) q) → (Tail s n lo hi (pos + 1) ↔ ∃ r, Enc s pos r (n + 1)) → (∀ r m, Enc s pos r m → m = n + 1) →
  (∃ r n : Nat, Enc s pos r n ∧ Ev (fun k => runes_size.f k s (pos : Int)) (n : Int)) ∨ ((∀ r n, ¬ Enc s pos r n) ∧ Ev (fun k => runes_size.f k s (pos : Int)) 0) := by
  intro n lo hi hn go iff only
  have T := tail_ev s hs pos n lo hi (pos + 1) (by omega) (by omega) (by omega)
  by_cases q : Tail s n lo hi (pos + 1)
  · obtain ⟨r, hr⟩ := iff.1 q
    rw [isTrue_yes q, if_pos rfl, show pos + 1 + n - pos = n + 1 by omega] at T
    exact .inl ⟨r, n + 1, hr, go _ T⟩
  · rw [isTrue_no q, if_neg Bool.false_ne_true] at T
    exact .inr ⟨fun r m e => q (iff.2 ⟨r, only r m e ▸ e⟩), go _ T⟩
 have j1 : ∀ (n lo hi : Nat) (q : Int), Ev (fun k => runes_size.j4 k s (pos : Int) (n : Int) (lo : Int) (hi : Int) ((pos + 1 : Nat) : Int)) q → Ev (fun k => runes_size.j1 k s (pos : Int) (n : Int) (lo : Int) (hi : Int) ((pos + 1 : Nat) : Int)) q := fun n lo hi q v => Ev.st (fun k => by rw [runes_size.j1]) v
 by_cases c1 : by_ s pos < 128
 · exact .inl ⟨by_ s pos, 1, ⟨by omega, .inl ⟨rfl, c1, rfl⟩⟩, pre _ (Ev.dp (by omega) (Ev.now _))⟩
 by_cases c2 : by_ s pos < 194
 · exact .inr ⟨fun r n e => by have := e.2; omega, pre _ (Ev.dn (by omega) (Ev.dp (by omega) (Ev.now _)))⟩
 by_cases c3 : 244 < by_ s pos
 · exact .inr ⟨fun r n e => by have := e.2; omega, pre _ (Ev.dn (by omega) (Ev.dn (by omega) (Ev.dp (by omega) (Ev.now _))))⟩
 by_cases c4 : by_ s pos < 224
 · refine fin 1 128 191 (by omega) (fun q v => pre q (Ev.dn (by omega) (Ev.dn (by omega) (Ev.dn (by omega) (Ev.dp (by omega) (j1 1 128 191 q v)))))) ⟨fun t => ?_, ?_⟩ (fun r m e => by have := e.2; omega)
   · obtain ⟨t1, t2, t3, _⟩ := t
     refine ⟨(by_ s pos - 192) * 64 + (by_ s (pos + 1) - 128), by omega, .inr (.inl ⟨rfl, by omega, by omega, by omega, by omega⟩)⟩
   · rintro ⟨r, e1, e2⟩
     exact ⟨by omega, by omega, by omega, trivial⟩
 by_cases c5 : by_ s pos < 240
 · have j5 : ∀ (lo : Nat) (q : Int), Ev (fun k => runes_size.j4 k s (pos : Int) 2 (lo : Int) ((if by_ s pos = 237 then 159 else 191 : Nat) : Int) ((pos + 1 : Nat) : Int)) q → Ev (fun k => runes_size.j5 k s (pos : Int) 2 (lo : Int) 191 (by_ s pos : Int) ((pos + 1 : Nat) : Int)) q := fun lo q v => by
    refine Ev.st (fun k => by rw [runes_size.j5]) (Ev.dc (fun z => ?_) (fun z => ?_))
    · rw [if_pos (by omega)] at v; exact j1 2 lo 159 q v
    · rw [if_neg (by omega)] at v; exact j1 2 lo 191 q v
   refine fin 2 (if by_ s pos = 224 then 160 else 128) (if by_ s pos = 237 then 159 else 191) (by omega) (fun q v => pre q (Ev.dn (by omega) (Ev.dn (by omega) (Ev.dn (by omega) (Ev.dn (by omega) (Ev.dp (by omega) ?_)))))) ⟨fun t => ?_, ?_⟩ (fun r m e => by have := e.2; omega)
   · refine Ev.st (fun k => by rw [runes_size.j2]) (Ev.dc (fun z => ?_) (fun z => ?_))
     · rw [if_pos (show by_ s pos = 224 by omega)] at v; exact j5 160 q v
     · rw [if_neg (show ¬ by_ s pos = 224 by omega)] at v; exact j5 128 q v
   · obtain ⟨t1, t2, t3, t4, t5, t6, _⟩ : pos + 1 < s.size ∧ (if by_ s pos = 224 then 160 else 128) ≤ by_ s (pos + 1) ∧ by_ s (pos + 1) ≤ (if by_ s pos = 237 then 159 else 191) ∧ pos + 2 < s.size ∧ 128 ≤ by_ s (pos + 2) ∧ by_ s (pos + 2) ≤ 191 ∧ True := t
     refine ⟨(by_ s pos - 224) * 4096 + (by_ s (pos + 1) - 128) * 64 + (by_ s (pos + 2) - 128), by omega, .inr (.inr (.inl ⟨rfl, ?_, ?_, ?_, ?_, ?_, ?_⟩))⟩
     all_goals (split at t2 <;> split at t3 <;> omega)
   · rintro ⟨r, e1, e2⟩
     show pos + 1 < s.size ∧ (if by_ s pos = 224 then 160 else 128) ≤ by_ s (pos + 1) ∧ by_ s (pos + 1) ≤ (if by_ s pos = 237 then 159 else 191) ∧ pos + 2 < s.size ∧ 128 ≤ by_ s (pos + 2) ∧ by_ s (pos + 2) ≤ 191 ∧ True
     refine ⟨by omega, ?_, ?_, by omega, by omega, by omega, trivial⟩
     · split <;> omega
     · split <;> omega
 · have j6 : ∀ (lo : Nat) (q : Int), Ev (fun k => runes_size.j4 k s (pos : Int) 3 (lo : Int) ((if by_ s pos = 244 then 143 else 191 : Nat) : Int) ((pos + 1 : Nat) : Int)) q → Ev (fun k => runes_size.j6 k s (pos : Int) 3 (lo : Int) 191 (by_ s pos : Int) ((pos + 1 : Nat) : Int)) q := fun lo q v => by
    refine Ev.st (fun k => by rw [runes_size.j6]) (Ev.dc (fun z => ?_) (fun z => ?_))
    · rw [if_pos (by omega)] at v; exact j1 3 lo 143 q v
    · rw [if_neg (by omega)] at v; exact j1 3 lo 191 q v
   refine fin 3 (if by_ s pos = 240 then 144 else 128) (if by_ s pos = 244 then 143 else 191) (by omega) (fun q v => pre q (Ev.dn (by omega) (Ev.dn (by omega) (Ev.dn (by omega) (Ev.dn (by omega) (Ev.dn (by omega) ?_)))))) ⟨fun t => ?_, ?_⟩ (fun r m e => by have := e.2; omega)
   · refine Ev.st (fun k => by rw [runes_size.j3]) (Ev.dc (fun z => ?_) (fun z => ?_))
     · rw [if_pos (show by_ s pos = 240 by omega)] at v; exact j6 144 q v
     · rw [if_neg (show ¬ by_ s pos = 240 by omega)] at v; exact j6 128 q v
   · obtain ⟨t1, t2, t3, t4, t5, t6, t7, t8, t9, _⟩ : pos + 1 < s.size ∧ (if by_ s pos = 240 then 144 else 128) ≤ by_ s (pos + 1) ∧ by_ s (pos + 1) ≤ (if by_ s pos = 244 then 143 else 191) ∧ pos + 2 < s.size ∧ 128 ≤ by_ s (pos + 2) ∧ by_ s (pos + 2) ≤ 191 ∧ pos + 3 < s.size ∧ 128 ≤ by_ s (pos + 3) ∧ by_ s (pos + 3) ≤ 191 ∧ True := t
     refine ⟨(by_ s pos - 240) * 262144 + (by_ s (pos + 1) - 128) * 4096 + (by_ s (pos + 2) - 128) * 64 + (by_ s (pos + 3) - 128), by omega, .inr (.inr (.inr ⟨rfl, ?_, ?_, ?_, ?_, ?_, ?_⟩))⟩
     all_goals (split at t2 <;> split at t3 <;> omega)
   · rintro ⟨r, e1, e2⟩
     show pos + 1 < s.size ∧ (if by_ s pos = 240 then 144 else 128) ≤ by_ s (pos + 1) ∧ by_ s (pos + 1) ≤ (if by_ s pos = 244 then 143 else 191) ∧ pos + 2 < s.size ∧ 128 ≤ by_ s (pos + 2) ∧ by_ s (pos + 2) ≤ 191 ∧ pos + 3 < s.size ∧ 128 ≤ by_ s (pos + 3) ∧ by_ s (pos + 3) ≤ 191 ∧ True
     refine ⟨by omega, ?_, ?_, by omega, by omega, by omega, by omega, by omega, by omega, trivial⟩
     · split <;> omega
     · split <;> omega
end Go.Proofs.YtjbobaeggdafpaaGreat.Vm
