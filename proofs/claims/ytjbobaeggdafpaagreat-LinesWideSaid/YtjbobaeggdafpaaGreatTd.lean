/- What runes are to a line; whether all of a text is right. -/
import Derived.Test.YtjbobaeggdafpaaGreatTc
namespace Go.Proofs.YtjbobaeggdafpaaGreat.Vm
open Go
open _root_.Go.RowKit (wrap64)
def kind3 (r : Int) : Int := if r = 8232 then 7 else if r = 10 then 8 else 0
def kind2 (r : Int) : Int := if r = 45 ∨ r = 8208 then 6 else kind3 r
def kind1 (r : Int) : Int := if r = 173 then 3 else if r = 8203 then 4 else if r = 8288 ∨ r = 65279 then 5 else kind2 r
def kindOf (r : Int) : Int := if r = 32 ∨ r = 9 then 1 else if r = 160 ∨ r = 8239 then 2 else kind1 r
theorem kind_j3 (r : Int) (b : Bool) : Ev (fun k => runes_Kind.j3 k r b) (if b = true then 6 else kind3 r) := by
 refine Ev.st (fun k => by rw [runes_Kind.j3]) (Ev.bc (fun h => Ev.some_ (if_pos h).symm) (fun h => ?_))
 rw [h, if_neg (show ¬ (false = true) from Bool.false_ne_true)]
 unfold kind3
 refine Ev.dc (fun h => Ev.some_ (if_pos h).symm) (fun h => ?_)
 rw [if_neg h]
 exact Ev.dc (fun h => Ev.some_ (if_pos h).symm) (fun h => Ev.some_ (if_neg h).symm)
theorem kind_j2 (r : Int) (b : Bool) : Ev (fun k => runes_Kind.j2 k r b) (if b = true then 5 else kind2 r) := by
 refine Ev.st (fun k => by rw [runes_Kind.j2]) (Ev.bc (fun h => Ev.some_ (if_pos h).symm) (fun h => ?_))
 rw [h, if_neg (show ¬ (false = true) from Bool.false_ne_true)]
 unfold kind2
 refine Ev.dc (fun h => ?_) (fun h => ?_)
 · rw [if_pos (.inl h)]; exact kind_j3 r true
 · have := kind_j3 r (decide (r = 8208))
   refine Ev.lift this ?_
   by_cases q : r = 8208
   · rw [decide_eq_true q, if_pos rfl, if_pos (.inr q)]
   · rw [decide_eq_false q, if_neg Bool.false_ne_true, if_neg (fun z => z.elim h q)]
theorem kind_j1 (r : Int) (b : Bool) : Ev (fun k => runes_Kind.j1 k r b) (if b = true then 2 else kind1 r) := by
 refine Ev.st (fun k => by rw [runes_Kind.j1]) (Ev.bc (fun h => Ev.some_ (if_pos h).symm) (fun h => ?_))
 rw [h, if_neg (show ¬ (false = true) from Bool.false_ne_true)]
 unfold kind1
 refine Ev.dc (fun h => Ev.some_ (if_pos h).symm) (fun h => ?_)
 rw [if_neg h]
 refine Ev.dc (fun h => Ev.some_ (if_pos h).symm) (fun h => ?_)
 rw [if_neg h]
 refine Ev.dc (fun h => ?_) (fun h => ?_)
 · rw [if_pos (.inl h)]; exact kind_j2 r true
 · have := kind_j2 r (decide (r = 65279))
   refine Ev.lift this ?_
   by_cases q : r = 65279
   · rw [decide_eq_true q, if_pos rfl, if_pos (.inr q)]
   · rw [decide_eq_false q, if_neg Bool.false_ne_true, if_neg (fun z => z.elim h q)]
theorem kind_j0 (r : Int) (b : Bool) : Ev (fun k => runes_Kind.j0 k r b) (if b = true then 1 else if r = 160 ∨ r = 8239 then 2 else kind1 r) := by
 refine Ev.st (fun k => by rw [runes_Kind.j0]) (Ev.bc (fun h => Ev.some_ (if_pos h).symm) (fun h => ?_))
 rw [h, if_neg (show ¬ (false = true) from Bool.false_ne_true)]
 refine Ev.dc (fun h => ?_) (fun h => ?_)
 · rw [if_pos (.inl h)]; exact kind_j1 r true
 · have := kind_j1 r (decide (r = 8239))
   refine Ev.lift this ?_
   by_cases q : r = 8239
   · rw [decide_eq_true q, if_pos rfl, if_pos (.inr q)]
   · rw [decide_eq_false q, if_neg Bool.false_ne_true, if_neg (fun z => z.elim h q)]
theorem kind_ev (r : Int) : Ev (fun k => runes_Kind.f k r) (kindOf r) := by
 unfold kindOf
 refine Ev.dc (fun h => ?_) (fun h => ?_)
 · rw [if_pos (.inl h)]; exact kind_j0 r true
 · have := kind_j0 r (decide (r = 9))
   refine Ev.lift this ?_
   by_cases q : r = 9
   · rw [decide_eq_true q, if_pos rfl, if_pos (.inr q)]
   · rw [decide_eq_false q, if_neg Bool.false_ne_true, if_neg (show ¬ (r = 32 ∨ r = 9) from fun z => z.elim h q)]
def RightS (s : ByteArray) (pos : Nat) : Prop := ∃ L A, Dec s s.size pos L A
theorem rbad_loop (s : ByteArray) (hs : s.size ≤ 1000000) : ∀ (d pos : Nat), s.size - pos ≤ d → pos ≤ s.size → (RightS s pos ∧ Ev (fun k => runes_Bad.j0 k s (pos : Int)) (-1)) ∨ (¬ RightS s pos ∧ ∃ e : Nat, Ev (fun k => runes_Bad.j0 k s (pos : Int)) (e : Int)) := by
 intro d
 induction d with
 | zero =>
  intro pos h1 h2
  obtain rfl : pos = s.size := by omega
  exact .inl ⟨⟨[], [], .done⟩, Ev.st (fun k => by rw [runes_Bad.j0]) (Ev.dp rfl (Ev.now _))⟩
 | succ d ih =>
  intro pos h1 h2
  by_cases c : pos = s.size
  · subst c
    exact .inl ⟨⟨[], [], .done⟩, Ev.st (fun k => by rw [runes_Bad.j0]) (Ev.dp rfl (Ev.now _))⟩
  · rcases size_ev s hs pos (by omega) with ⟨r, n, he, v⟩ | ⟨no, v⟩
    · have p1 := he.pos1
      have p2 := he.1
      have on : ∀ q, Ev (fun k => runes_Bad.j0 k s ((pos + n : Nat) : Int)) q → Ev (fun k => runes_Bad.j0 k s (pos : Int)) q := fun q w => by
       refine Ev.st (fun k => by rw [runes_Bad.j0]) (Ev.dn (by omega) ?_)
       refine Ev.bind v ?_
       refine Ev.dn (by omega) ?_
       rw [nx2 pos n (by omega)]
       exact w
      rcases ih (pos + n) (by omega) (by omega) with ⟨⟨L, A, q⟩, w⟩ | ⟨q, e, w⟩
      · exact .inl ⟨⟨_, _, .step he q⟩, on _ w⟩
      · refine .inr ⟨?_, e, on _ w⟩
        rintro ⟨L, A, z⟩
        cases z with
        | done => omega
        | step he' z =>
         obtain ⟨_, rfl⟩ := he.uniq he'
         exact q ⟨_, _, z⟩
    · refine .inr ⟨?_, pos, Ev.st (fun k => by rw [runes_Bad.j0]) (Ev.dn (by omega) (Ev.bind v (Ev.dp rfl (Ev.now _))))⟩
      rintro ⟨L, A, z⟩
      cases z with
      | done => omega
      | step he' z => exact no _ _ he'
theorem rCheck_ev (s : ByteArray) (hs : s.size ≤ 1000000) : Ev (fun k => runes_Check.f k s) (if isTrue (RightS s 0) = true then 0 else 20) := by
 rcases rbad_loop s hs s.size 0 (by omega) (by omega) with ⟨q, v⟩ | ⟨q, e, v⟩
 · rw [isTrue_yes q, if_pos rfl]
   exact Ev.bind v (Ev.dn (by decide) (Ev.now _))
 · rw [isTrue_no q, if_neg Bool.false_ne_true]
   exact Ev.bind v (Ev.dp (by omega) (Ev.now _))
theorem Dec.stop {s : ByteArray} {e pos : Nat} {L A : List Int} (h : Dec s e pos L A) (no : ∀ r n, ¬ Enc s e r n) (he : e < s.size) : ¬ RightS s pos := by
 induction h with
 | done =>
  rintro ⟨L, A, z⟩
  cases z with
  | done => omega
  | step he' z => exact no _ _ he'
 | step hE _ ih =>
  rintro ⟨L, A, z⟩
  have := hE.pos1
  have := hE.1
  cases z with
  | done => omega
  | step he' z =>
   obtain ⟨_, rfl⟩ := hE.uniq he'
   exact ih ⟨_, _, z⟩
theorem rRightS_ev (s : ByteArray) (hs : s.size ≤ 1000000) : Ev (fun k => regletref02_Right.f k s) (isTrue (RightS s 0)) := by
 obtain ⟨L, A, b, v, q⟩ := Runes_ev s hs
 refine Ev.bind v (Ev.some_ ?_)
 rcases q with ⟨q1, q2⟩ | ⟨e, rfl, q2, q3, q4⟩
 · rw [isTrue_yes ⟨L, A, q2⟩]; exact decide_eq_true q1
 · rw [isTrue_no (q3.stop q4 q2)]; exact decide_eq_false (by dsimp only; omega)
end Go.Proofs.YtjbobaeggdafpaaGreat.Vm
