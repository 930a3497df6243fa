/- A list is summed up one behind the other; and where nothing is cut off, in any order. -/
import Derived.Test.YtedplhcdlkhbnaaPx10
import Derived.Test.YtedplhcdlkhbnaaPx11
import Derived.Test.YtedplhcdlkhbnaaSc4
import Derived.Test.YtedplhcdlkhbnaaOpened
namespace Go.Proofs.Ytedplhcdlkhbnaa.Pure
open Go.RowKit Go.Proofs.YtedplhcdlkhbnaaW.PrintWords Go.Proofs.YtedplhcdlkhbnaaW.PrintLast
open Go.Proofs.Ytedplhcdlkhbnaa.P
open Go.Proofs.Ytedplhcdlkhbnaa.BadM (clamp clamp_le clamp_ge clamp_id clamp_clamp)
/-- the sum of the first n -/
def sumTo (l : List Int) : Nat → Int
  | 0 => 0
  | n + 1 => addM (sumTo l n) (rd l n)
theorem addM_range (a b : Int) : -1152921504606846976 ≤ addM a b ∧ addM a b ≤ 1152921504606846976 := ⟨clamp_ge _, clamp_le _⟩
theorem sumTo_range (l : List Int) : ∀ n, -1152921504606846976 ≤ sumTo l n ∧ sumTo l n ≤ 1152921504606846976
  | 0 => by simp [sumTo]
  | n + 1 => addM_range _ _
theorem sum_loop {l : List Int} (hl : (l.length : Int) ≤ 4611686018427387904) : ∀ (d : Nat) (n : Nat), n + d = l.length → Ev (fun k => scaled_Sum.l0 k (sumTo l n) l (l.length : Int) (n : Int)) (sumTo l l.length) := by
  intro d
  induction d with
  | zero =>
    intro n hn
    have : n = l.length := by omega
    subst this
    exact scaled_Sum.l0.ev (Ev.ifn (by omega) (Ev.now _))
  | succ d ih =>
    intro n hn
    refine scaled_Sum.l0.ev (Ev.ifp (by omega) (Ev.ifp (by omega) (Ev.ifp (by omega) (Ev.bind (Ev.opt (scaled_Add_eq _ _)) ?_))))
    rw [w64 (x := (n : Int) + 1) (by omega) (by omega)]
    exact ih (n + 1) (by omega)
/-- exact sums, each number as far as it goes -/
def exact_ (l : List Int) : Nat → Int
  | 0 => 0
  | n + 1 => exact_ l n + clamp (rd l n)
def back_ (l : List Int) : Nat → Int
  | 0 => 0
  | n + 1 => back_ l n + clamp (rd l ((l.length : Int) - 1 - n))
theorem back_exact (l : List Int) : ∀ n, n ≤ l.length → back_ l n + exact_ l (l.length - n) = exact_ l l.length := by
  intro n
  induction n with
  | zero => intro _; simp [back_]
  | succ n ih =>
    intro hn
    have := ih (by omega)
    have e : l.length - n = (l.length - (n + 1)) + 1 := by omega
    rw [e] at this
    have ec : (l.length : Int) - 1 - n = ((l.length - (n + 1) : Nat) : Int) := by omega
    simp only [back_, exact_] at this ⊢
    rw [ec]; omega
theorem step_exact {s c x : Int} (hs : -1152921504606846976 < s ∧ s < 1152921504606846976) (he : s = c) (hn : addM s x ≠ 1152921504606846976) (hn' : addM s x ≠ -1152921504606846976) : addM s x = c + clamp x := by
  unfold addM at *
  rw [clamp_id (a := s) (by omega) (by omega)] at *
  unfold clamp at *
  omega
theorem ScaledSums : ∀ (l0 : List Int), (OkList 8 (fun n => (Lit.int .i64 n).wf = true)) l0 → ∃ k, regletlaw01_ScaledSums.f k l0 = some true := by
  intro l hok
  have hl : (l.length : Int) ≤ 4611686018427387904 := by have := hok.1; omega
  refine Ev.rounds (Ev.bind awake_ev (Ev.ifp rfl ?_))
  have loop : ∀ (d : Nat) (n : Nat) (b : Int) (cut : Bool), n + d = l.length → (cut = false → (-1152921504606846976 < sumTo l n ∧ sumTo l n < 1152921504606846976) ∧ (-1152921504606846976 < b ∧ b < 1152921504606846976) ∧ sumTo l n = exact_ l n ∧ b = back_ l n) →
      Ev (fun k => regletlaw01_ScaledSums.l0 k l (sumTo l n) b cut (n : Int)) true := by
    intro d
    induction d with
    | zero =>
      intro n b cut hn hc
      have : n = l.length := by omega
      subst this
      refine regletlaw01_ScaledSums.l0.ev (Ev.ifn (by omega) (Ev.bind (sum_loop hl l.length 0 (by omega)) (Ev.ifp rfl (Ev.ifc (fun _ => Ev.now _) (fun c => Ev.some_ ?_)))))
      obtain ⟨_, _, e1, e2⟩ := hc (by simpa using c)
      have := back_exact l l.length (Nat.le_refl _)
      rw [Nat.sub_self] at this
      simp only [exact_] at this
      rw [beq_iff_eq]; omega
    | succ d ih =>
      intro n b cut hn hc
      have en : wrap64 ((n : Int) + 1) = ((n + 1 : Nat) : Int) := w64 (by omega) (by omega)
      have ep : wrap64 (wrap64 ((l.length : Int) - 1) - n) = (l.length : Int) - 1 - n := by rw [w64 (x := (l.length : Int) - 1) (by omega) (by omega), w64 (by omega) (by omega)]
      refine regletlaw01_ScaledSums.l0.ev (Ev.ifp (by clear en ep; omega) (Ev.ifp (by clear en ep; omega) (Ev.bind (Ev.opt (ref_Add_eq _ _)) ?_)))
      rw [en, ep]
      clear en ep
      refine Ev.ifp (by omega) (Ev.ifp (by omega) (Ev.bind (Ev.opt (ref_Add_eq _ _)) ?_))
      have go : ∀ c, (c = false → (-1152921504606846976 < sumTo l (n + 1) ∧ sumTo l (n + 1) < 1152921504606846976) ∧ (-1152921504606846976 < addM b (rd l ((l.length : Int) - 1 - n)) ∧ addM b (rd l ((l.length : Int) - 1 - n)) < 1152921504606846976) ∧ sumTo l (n + 1) = exact_ l (n + 1) ∧ addM b (rd l ((l.length : Int) - 1 - n)) = back_ l (n + 1)) →
          Ev (fun k => regletlaw01_ScaledSums.l0 k l (addM (sumTo l n) (rd l n)) (addM b (rd l ((l.length : Int) - 1 - n))) c ((n + 1 : Nat) : Int)) true := fun c hc => ih (n + 1) _ c (by omega) hc
      refine Ev.ifc (fun _ => go true (fun h => by cases h)) (fun q0 => Ev.ifc (fun _ => go true (fun h => by cases h)) (fun q1 => Ev.ifc (fun _ => go true (fun h => by cases h)) (fun q2 => Ev.ifc (fun _ => go true (fun h => by cases h)) (fun q3 => go _ (fun h => ?_)))))
      obtain ⟨s1, s2, s3, s4⟩ := hc (by simpa using q0)
      have q4 : addM b (rd l ((l.length : Int) - 1 - n)) ≠ -1152921504606846976 := by simpa using h
      have r1 := addM_range (sumTo l n) (rd l n)
      have r2 := addM_range b (rd l ((l.length : Int) - 1 - n))
      have e1 := step_exact s1 s3 q1 q2
      have e2 := step_exact s2 s4 q3 q4
      exact ⟨⟨by show _ < addM _ _; omega, by show addM _ _ < _; omega⟩, ⟨by omega, by omega⟩, e1, e2⟩
  exact loop l.length 0 0 false (by omega) (fun _ => ⟨by simp [sumTo], by omega, rfl, rfl⟩)
end Go.Proofs.Ytedplhcdlkhbnaa.Pure
