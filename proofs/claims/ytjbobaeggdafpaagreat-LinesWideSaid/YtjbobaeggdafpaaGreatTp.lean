/- A paragraph's text and runs: the first fault, by the reference; and whole. -/
import Derived.Test.YtjbobaeggdafpaaGreatTo
namespace Go.Proofs.YtjbobaeggdafpaaGreat.Vm
open Go
open _root_.Go.RowKit (wrap64)
theorem rCheck_loop (l : List Styl) (s : ByteArray) (hs : s.size ≤ 1000000) (hr : RightS s 0) (R : List (Int × Int)) (hR : R.length ≤ 1000000) : ∀ (d i p : Nat), i + d = R.length → p ≤ s.size → Ev (fun k => regletref07_Check.l1 k l s R (p : Int) (i : Int)) (runC l.length s p (R.drop i)) := by
 intro d
 induction d with
 | zero =>
  intro i p e hp
  rw [List.drop_of_length_le (by omega)]
  refine Ev.st (fun k => by rw [regletref07_Check.l1]) (Ev.dn (by omega) ?_)
  unfold runC
  exact Ev.xc (fun h => Ev.some_ (by rw [if_neg (by omega)])) (fun h => Ev.some_ (by rw [if_pos (by omega)]))
 | succ d ih =>
  intro i p e hp
  rw [drop_rd R i (by omega)]
  refine Ev.st (fun k => by rw [regletref07_Check.l1]) (Ev.dp (by omega) ?_)
  have ih' := ih (i + 1) (p + (rd R (i : Int)).1.toNat) (by omega)
  rw [w64 (x := (s.size : Int) - (p : Int)) (by omega) (by omega)]
  unfold runC
  refine Ev.at_ (by omega) (by omega) ?_
  refine Ev.dc (fun h => Ev.some_ (by rw [if_pos (.inl h)])) (fun h => ?_)
  refine Ev.at_ (by omega) (by omega) ?_
  refine Ev.dc (fun h1 => Ev.some_ (by rw [if_pos (.inr h1)])) (fun h1 => ?_)
  rw [if_neg (by omega)]
  refine Ev.st (fun k => by rw [regletref07_Check.j2]) ?_
  refine Ev.at_ (by omega) (by omega) ?_
  refine Ev.dc (fun c => Ev.some_ (by rw [if_pos (by omega)])) (fun c => ?_)
  refine Ev.at_ (by omega) (by omega) ?_
  refine Ev.dc (fun c2 => Ev.some_ (by rw [if_pos (by omega)])) (fun c2 => ?_)
  rw [if_neg (show ¬ ¬ (0 ≤ (rd R (i : Int)).2 ∧ (rd R (i : Int)).2 < (l.length : Int)) from fun z => z (by omega))]
  refine Ev.st (fun k => by rw [regletref07_Check.j3]) ?_
  refine Ev.at_ (by omega) (by omega) ?_
  rw [w64 (x := (p : Int) + (rd R (i : Int)).1) (by omega) (by omega), show (p : Int) + (rd R (i : Int)).1 = ((p + (rd R (i : Int)).1.toNat : Nat) : Int) by omega]
  refine Ev.bind (Between_ev s hs hr _ (by omega)) ?_
  by_cases z : p + (rd R (i : Int)).1.toNat < s.size ∧ 128 ≤ by_ s (p + (rd R (i : Int)).1.toNat) ∧ by_ s (p + (rd R (i : Int)).1.toNat) < 192
  · rw [if_pos z, decide_eq_true z]
    exact Ev.bp rfl (Ev.now _)
  · rw [if_neg z, decide_eq_false z]
    refine Ev.bn rfl ?_
    rw [nx i (by omega)]
    exact ih' (by omega)
def NlBad (s : ByteArray) : Prop := ∃ i, i + 1 < s.size ∧ by_ s i = 10
noncomputable def chkC (l : List Styl) (s : ByteArray) (R : List (Int × Int)) : Int := if isTrue (RightS s 0) = false then 20 else if s = ByteArray.empty then 70 else if isTrue (NlBad s) = true then 70 else runC l.length s 0 R
theorem empty_size {s : ByteArray} : s = ByteArray.empty ↔ s.size = 0 := by
 constructor
 · rintro rfl; rfl
 · intro h; exact ByteArray.size_eq_zero_iff.1 h
theorem rChk07_ev (l : List Styl) (s : ByteArray) (hs : s.size ≤ 1000000) (R : List (Int × Int)) (hR : R.length ≤ 1000000) : Ev (fun k => regletref07_Check.f k l s R) (chkC l s R) := by
 unfold chkC
 refine Ev.bind (rRightS_ev s hs) (Ev.nc (fun h => Ev.some_ (by rw [if_pos h])) (fun h => ?_))
 rw [if_neg (by rw [h]; simp)]
 refine Ev.dc (fun q => Ev.some_ (by rw [if_pos q])) (fun q => ?_)
 rw [if_neg q]
 have loop : ∀ d i : Nat, i + d = s.size → (∀ j, j < i → by_ s j ≠ 10) → Ev (fun k => regletref07_Check.l0 k l s R (i : Int)) (if isTrue (NlBad s) = true then 70 else runC l.length s 0 R) := by
  have fin : ∀ i : Nat, ¬ i + 1 < s.size → i ≤ s.size → (∀ j, j < i → by_ s j ≠ 10) → Ev (fun k => regletref07_Check.l0 k l s R (i : Int)) (if isTrue (NlBad s) = true then 70 else runC l.length s 0 R) := fun i hi hi2 no => by
   refine Ev.st (fun k => by rw [regletref07_Check.l0]) ?_
   rw [nx i (by omega)]
   refine Ev.dn (by omega) ?_
   rw [isTrue_no (fun z : NlBad s => by obtain ⟨j, j1, j2⟩ := z; exact no j (by omega) j2), if_neg Bool.false_ne_true]
   exact rCheck_loop l s hs (isTrue_iff.1 h) R hR R.length 0 0 (by omega) (Nat.zero_le _)
  intro d
  induction d with
  | zero => exact fun i e no => fin i (by omega) (by omega) no
  | succ d ih =>
   intro i e no
   by_cases c : i + 1 < s.size
   · refine Ev.st (fun k => by rw [regletref07_Check.l0]) ?_
     rw [nx i (by omega)]
     refine Ev.dp (by omega) ?_
     refine Ev.byte (by omega) ?_
     refine Ev.dc (fun z => Ev.some_ (by rw [isTrue_yes (show NlBad s from ⟨i, c, by omega⟩), if_pos rfl])) (fun z => ?_)
     exact ih (i + 1) (by omega) (fun j hj => by
      by_cases ej : j = i
      · rw [ej]; omega
      · exact no j (by omega))
   · exact fin i c (by omega) no
 exact loop s.size 0 (by omega) (fun j hj => by omega)
end Go.Proofs.YtjbobaeggdafpaaGreat.Vm
