/- Places between runes. -/
import Derived.Test.YtjbobaeggdafpaaGreatTd
namespace Go.Proofs.YtjbobaeggdafpaaGreat.Vm
open Go
open _root_.Go.RowKit (wrap64)
theorem inside_all : ∀ e : Fin 256, decide (andI .u8 ((e.val : Nat) : Int) (192 : Int) = 128) = decide (128 ≤ e.val ∧ e.val < 192) := by decide +kernel
theorem Inside_ev (e : Nat) (h : e < 256) : Ev (fun k => runes_Inside.f k (e : Int)) (decide (128 ≤ e ∧ e < 192)) := Ev.some_ (inside_all ⟨e, h⟩)
theorem Dec.mem_ge {s : ByteArray} {e pos : Nat} {L A : List Int} (h : Dec s e pos L A) : ∀ x, x ∈ A → (pos : Int) ≤ x := by
 induction h with
 | done => intro x hx; cases hx
 | step hE _ ih =>
  intro x hx
  have := hE.pos1
  rcases List.mem_cons.1 hx with rfl | hx
  · exact Int.le_refl _
  · have := ih x hx; omega
theorem Dec.start {s : ByteArray} {e pos : Nat} {L A : List Int} (h : Dec s e pos L A) : ∀ p : Nat, pos ≤ p → p < e → ((p : Int) ∈ A ↔ ¬ (128 ≤ by_ s p ∧ by_ s p < 192)) := by
 induction h with
 | done => intro p h1 h2; omega
 | @step pos r n L A hE hD ih =>
  intro p h1 h2
  have p1 := hE.pos1
  by_cases c : pos + n ≤ p
  · rw [List.mem_cons, ih p c h2]
    constructor
    · rintro (q | q)
      · omega
      · exact q
    · exact fun q => .inr q
  · by_cases c2 : p = pos
    · subst c2
      exact ⟨fun _ q => by have := hE.2; omega, fun _ => List.mem_cons_self ..⟩
    · constructor
      · intro q
        rcases List.mem_cons.1 q with q | q
        · omega
        · have := hD.mem_ge _ q; omega
      · intro q
        exfalso
        have z := hE.2
        obtain rfl | rfl | rfl : p = pos + 1 ∨ p = pos + 2 ∨ p = pos + 3 := by omega
        · omega
        · omega
        · omega
theorem Boundary_ev (s : ByteArray) (p : Nat) (h : p ≤ s.size) : Ev (fun k => runes_Boundary.f k s (p : Int)) (if p < s.size ∧ 128 ≤ by_ s p ∧ by_ s p < 192 then 21 else 0) := by
 refine Ev.dn (by omega) (Ev.dn (by omega) ?_)
 refine Ev.st (fun k => by rw [runes_Boundary.j0]) (Ev.dc (fun c => ?_) (fun c => Ev.some_ (if_neg (by omega)).symm))
 refine Ev.byte (by omega) ?_
 refine Ev.bind (Inside_ev _ (by_lt s p)) (Ev.dc (fun q => Ev.some_ (if_pos ⟨by omega, q⟩).symm) (fun q => Ev.some_ (if_neg fun z => q z.2).symm))
theorem between_l0 (s : ByteArray) (p : Nat) (A : List Int) (hA : A.length ≤ 2000000) : ∀ (d i : Nat), i + d = A.length → Ev (fun k => regletref02_Between.l0 k s (p : Int) A (i : Int)) (decide ((p : Int) ∈ A.drop i ∨ p = s.size)) := by
 intro d
 induction d with
 | zero =>
  intro i e
  refine Ev.st (fun k => by rw [regletref02_Between.l0]) (Ev.dn (by omega) (Ev.some_ ?_))
  rw [List.drop_of_length_le (by omega), decide_eq_decide]
  constructor
  · exact fun q => .inr (by omega)
  · rintro (q | q)
    · cases q
    · omega
 | succ d ih =>
  intro i e
  refine Ev.st (fun k => by rw [regletref02_Between.l0]) (Ev.dp (by omega) ?_)
  refine Ev.gx (xs := A) (by omega) (by omega) ?_
  rw [drop_rd A i (by omega)]
  refine Ev.dc (fun q => Ev.some_ ?_) (fun q => ?_)
  · rw [eq_comm, decide_eq_true_iff]; exact .inl (by rw [q]; exact List.mem_cons_self ..)
  · rw [nx i (by omega)]
    refine Ev.lift (ih (i + 1) (by omega)) ?_
    rw [decide_eq_decide, List.mem_cons]
    constructor
    · rintro (z | z)
      · exact .inl (.inr z)
      · exact .inr z
    · rintro ((z | z) | z)
      · exact absurd z.symm q
      · exact .inl z
      · exact .inr z
theorem Between_ev (s : ByteArray) (hs : s.size ≤ 1000000) (hr : RightS s 0) (p : Nat) (h : p ≤ s.size) : Ev (fun k => regletref02_Between.f k s (p : Int)) (!decide (p < s.size ∧ 128 ≤ by_ s p ∧ by_ s p < 192)) := by
 obtain ⟨L, A, b, v, q⟩ := Runes_ev s hs
 rcases q with ⟨q1, q2⟩ | ⟨e, rfl, q2, q3, q4⟩
 · have le := q2.le
   refine Ev.bind v ?_
   refine Ev.lift (between_l0 s p A (by omega) A.length 0 (by omega)) ?_
   rw [List.drop_zero]
   by_cases c : p < s.size
   · have m := q2.start p (Nat.zero_le _) c
     by_cases z : 128 ≤ by_ s p ∧ by_ s p < 192
     · rw [decide_eq_true (show p < s.size ∧ 128 ≤ by_ s p ∧ by_ s p < 192 from ⟨c, z⟩)]
       exact decide_eq_false fun w => by rcases w with w | w; exact m.1 w z; omega
     · rw [decide_eq_false (fun w : p < s.size ∧ 128 ≤ by_ s p ∧ by_ s p < 192 => z w.2)]
       exact decide_eq_true (.inl (m.2 z))
   · rw [decide_eq_false (fun w : p < s.size ∧ 128 ≤ by_ s p ∧ by_ s p < 192 => c w.1)]
     exact decide_eq_true (.inr (by omega))
 · exact absurd hr (q3.stop q4 q2)
end Go.Proofs.YtjbobaeggdafpaaGreat.Vm
