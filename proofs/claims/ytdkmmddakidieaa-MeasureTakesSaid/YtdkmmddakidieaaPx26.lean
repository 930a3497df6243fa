-- PRINTED by print.py (a twelfth state) out of the translation. Not trusted: Lean checks it.
import Derived.Test.YtdkmmddakidieaaPx0
import Derived.Test.YtdkmmddakidieaaPx24
import Derived.Test.YtdkmmddakidieaaPx25
import Derived.Test.YtdkmmddakidieaaWo
namespace Go.Proofs.Ytdkmmddakidieaa.P
open Go.RowKit Go.Proofs.YtdkmmddakidieaaW.PrintWords Go.Proofs.YtdkmmddakidieaaW.PrintLast Go.Proofs.YtdkmmddakidieaaW.PrintMore
attribute [local go_sem] max2_int min2_int max_two min_two max_three min_three max_four min_four   -- for this text's walks alone
set_option linter.unusedVariables false
set_option linter.unusedSimpArgs false

/-! ### items_Right: function 41 -/
mutual
def items_Right.j0 : Nat → List (S34) → Bool → Option (Int)
 | 0, _, _ => none
 | k + 1, x0, x23 => if x23 = true then (some 70) else (items_Right.l0 k 0 x0 (x0.length : Int) 0)
def items_Right.l0 : Nat → Int → List (S34) → Int → Int → Option (Int)
 | 0, _, _, _, _ => none
 | k + 1, x3, x24, x25, x26 => if x26 < x25 then (if 0 ≤ x26 then (if x26 < (x24.length : Int) then (if ((rd_T34 x24 x26).f7) = x3 then (if ((rd_T34 x24 x26).f8) < ((rd_T34 x24 x26).f7) then (some 70) else (if ((rd_T34 x24 x26).f8) > 65536 then (some 70) else ((items_fits.f k ((rd_T34 x24 x26).f0) ((rd_T34 x24 x26).f1) ((rd_T34 x24 x26).f2) ((rd_T34 x24 x26).f3) ((rd_T34 x24 x26).f4) ((rd_T34 x24 x26).f5) ((rd_T34 x24 x26).f6) ((rd_T34 x24 x26).f7) ((rd_T34 x24 x26).f8)).bind fun t340 => (if t340 = true then (items_Right.l0 k ((rd_T34 x24 x26).f8) x24 x25 (wrap64 (x26 + 1))) else (some 70))))) else (some 70)) else (none)) else (none)) else (some 0)
end
def items_Right.f (k : Nat) (l0 : List (S34)) : Option (Int) := if (l0.length : Int) = 0 then (items_Right.j0 k l0 true) else (if (l0.length : Int) > 262144 then (items_Right.j0 k l0 true) else (if 0 ≤ (wrap64 ((l0.length : Int) - 1)) then (if (wrap64 ((l0.length : Int) - 1)) < (l0.length : Int) then ((items_Forced.f ((rd_T34 l0 (wrap64 ((l0.length : Int) - 1))).f0) ((rd_T34 l0 (wrap64 ((l0.length : Int) - 1))).f1) ((rd_T34 l0 (wrap64 ((l0.length : Int) - 1))).f2) ((rd_T34 l0 (wrap64 ((l0.length : Int) - 1))).f3) ((rd_T34 l0 (wrap64 ((l0.length : Int) - 1))).f4) ((rd_T34 l0 (wrap64 ((l0.length : Int) - 1))).f5) ((rd_T34 l0 (wrap64 ((l0.length : Int) - 1))).f6) ((rd_T34 l0 (wrap64 ((l0.length : Int) - 1))).f7) ((rd_T34 l0 (wrap64 ((l0.length : Int) - 1))).f8)).bind fun t337 => (items_Right.j0 k l0 (!t337))) else (none)) else (none)))
theorem items_Right.mono_l : ∀ k, (∀ y0 y1, LeO (items_Right.j0 k y0 y1) (items_Right.j0 (k + 1) y0 y1)) ∧ (∀ y0 y1 y2 y3, LeO (items_Right.l0 k y0 y1 y2 y3) (items_Right.l0 (k + 1) y0 y1 y2 y3))
 | 0 => ⟨fun _ _ r h => by simp [items_Right.j0] at h, fun _ _ _ _ r h => by simp [items_Right.l0] at h⟩
 | k + 1 => by
  obtain ⟨ih0, ih1⟩ := items_Right.mono_l k; refine ⟨?_, ?_⟩
  · intro y0 y1
    unfold items_Right.j0
    repeat' first
    | (with_reducible exact ih0 _ _)
    | (with_reducible exact ih1 _ _ _ _)
    | (with_reducible exact items_fits.mono _ _ _ _ _ _ _ _ _ _)
    | (with_reducible exact LeO.refl _)
    | (with_reducible exact LeO.none _)
    | (with_reducible refine LeO.ite ?_ ?_)
    | (with_reducible refine LeO.bind ?_ (fun _ => ?_))
    | exact ih0 _ _
    | exact ih1 _ _ _ _
    | exact items_fits.mono _ _ _ _ _ _ _ _ _ _
    | exact LeO.none _
    | refine LeO.ite ?_ ?_
    | refine LeO.bind ?_ (fun _ => ?_)
  · intro y0 y1 y2 y3
    unfold items_Right.l0
    repeat' first
    | (with_reducible exact ih0 _ _)
    | (with_reducible exact ih1 _ _ _ _)
    | (with_reducible exact items_fits.mono _ _ _ _ _ _ _ _ _ _)
    | (with_reducible exact LeO.refl _)
    | (with_reducible exact LeO.none _)
    | (with_reducible refine LeO.ite ?_ ?_)
    | (with_reducible refine LeO.bind ?_ (fun _ => ?_))
    | exact ih0 _ _
    | exact ih1 _ _ _ _
    | exact items_fits.mono _ _ _ _ _ _ _ _ _ _
    | exact LeO.none _
    | refine LeO.ite ?_ ?_
    | refine LeO.bind ?_ (fun _ => ?_)
theorem items_Right.mono : ∀ a0 k, LeO (items_Right.f k a0) (items_Right.f (k + 1) a0) := by
 intro a0 k
 obtain ⟨ih0, ih1⟩ := items_Right.mono_l k
 unfold items_Right.f
 repeat' first
    | (with_reducible exact ih0 _ _)
    | (with_reducible exact ih1 _ _ _ _)
    | (with_reducible exact items_fits.mono _ _ _ _ _ _ _ _ _ _)
    | (with_reducible exact LeO.refl _)
    | (with_reducible exact LeO.none _)
    | (with_reducible refine LeO.ite ?_ ?_)
    | (with_reducible refine LeO.bind ?_ (fun _ => ?_))
    | exact ih0 _ _
    | exact ih1 _ _ _ _
    | exact items_fits.mono _ _ _ _ _ _ _ _ _ _
    | exact LeO.none _
    | refine LeO.ite ?_ ?_
    | refine LeO.bind ?_ (fun _ => ?_)
theorem items_Right.j0.ev {x0 : List (S34)} {x23 : Bool} {r_ : Int} (h : Ev (fun k => if x23 = true then (some 70) else (items_Right.l0 k 0 x0 (x0.length : Int) 0)) r_) : Ev (fun k => items_Right.j0 k x0 x23) r_ := Ev.step (fun k => by rw [items_Right.j0]) h
theorem items_Right.l0.ev {x3 : Int} {x24 : List (S34)} {x25 : Int} {x26 : Int} {r_ : Int} (h : Ev (fun k => if x26 < x25 then (if 0 ≤ x26 then (if x26 < (x24.length : Int) then (if ((rd_T34 x24 x26).f7) = x3 then (if ((rd_T34 x24 x26).f8) < ((rd_T34 x24 x26).f7) then (some 70) else (if ((rd_T34 x24 x26).f8) > 65536 then (some 70) else ((items_fits.f k ((rd_T34 x24 x26).f0) ((rd_T34 x24 x26).f1) ((rd_T34 x24 x26).f2) ((rd_T34 x24 x26).f3) ((rd_T34 x24 x26).f4) ((rd_T34 x24 x26).f5) ((rd_T34 x24 x26).f6) ((rd_T34 x24 x26).f7) ((rd_T34 x24 x26).f8)).bind fun t340 => (if t340 = true then (items_Right.l0 k ((rd_T34 x24 x26).f8) x24 x25 (wrap64 (x26 + 1))) else (some 70))))) else (some 70)) else (none)) else (none)) else (some 0)) r_) : Ev (fun k => items_Right.l0 k x3 x24 x25 x26) r_ := Ev.step (fun k => by rw [items_Right.l0]) h
set_option maxHeartbeats 8000000 in
set_option maxRecDepth 100000 in
theorem items_Right.calls (k : Nat) (A0 : Option Addr) (c0 : Nat) (l0 : List (S34)) (r : Int) (w : World) (hr0 : Kd.C k34 w A0 l0.length l0) (hc0 : l0.length ≤ c0) (h : items_Right.f k l0 = some r) :
  Calls Try.prog 41 #[.slice A0 l0.length c0] w fun e w' => e = .returned (.int .i64 r) ∧ Below w.heap.size w w' := by
 have hu34 := Try.underlying34
 have HR0 := Aside0.mk hr0
 have HC0 := Aside0.mk hc0
 clear hr0 hc0
 have HB := Aside0.mk (Below.refl w.heap.size w)
 have H : (if (l0.length : Int) = 0 then (items_Right.j0 k l0 true) else (if (l0.length : Int) > 262144 then (items_Right.j0 k l0 true) else (if 0 ≤ (wrap64 ((l0.length : Int) - 1)) then (if (wrap64 ((l0.length : Int) - 1)) < (l0.length : Int) then ((items_Forced.f ((rd_T34 l0 (wrap64 ((l0.length : Int) - 1))).f0) ((rd_T34 l0 (wrap64 ((l0.length : Int) - 1))).f1) ((rd_T34 l0 (wrap64 ((l0.length : Int) - 1))).f2) ((rd_T34 l0 (wrap64 ((l0.length : Int) - 1))).f3) ((rd_T34 l0 (wrap64 ((l0.length : Int) - 1))).f4) ((rd_T34 l0 (wrap64 ((l0.length : Int) - 1))).f5) ((rd_T34 l0 (wrap64 ((l0.length : Int) - 1))).f6) ((rd_T34 l0 (wrap64 ((l0.length : Int) - 1))).f7) ((rd_T34 l0 (wrap64 ((l0.length : Int) - 1))).f8)).bind fun t337 => (items_Right.j0 k l0 (!t337))) else (none)) else (none)))) = some r := h
 clear h
 have HC2 := Aside0.mk H
 clear H
 go_enter Try.func41, Try.ntmps41
 go_upto_region 1 with (fail)
 go_cut [23] (fun v23 wc => ∃ (kq : Nat) (x23_1 : Bool), v23 = .bool x23_1 ∧ Aside0 (items_Right.j0 kq l0 x23_1 = some r) ∧ Aside0 (kq ≤ k) ∧ Aside0 (Below w.heap.size w wc))
 case first =>
  have H := HC2.out; clear HC2; by_cases c3 : (l0.length : Int) = 0
  · rw [if_pos c3] at H
    have c3b0 : ((l0.length : Int) == 0) = true := beq_iff_eq.mpr c3
    have c3b1 : ((l0.length : Int) != 0) = false := bne_eq_false_iff_eq.mpr c3
    clear c3
    (first | rw [c3b0] | (simp only [i64_w, i32_w]; rw [c3b0]) | skip)
    have H' := Aside0.mk H; clear H; go_wp2
    go_meet
    case rel => exact ⟨_, (true), (by first | rfl | (simp; done) | (simp [*]; done)), H', ⟨by first | omega | exact Nat.le_refl _⟩, ⟨by repeat (first | (with_reducible first | exact HB.out | apply bA | apply bN | apply bD) | exact HB.out)⟩⟩
  rw [if_neg c3] at H
  have c3b0 : ((l0.length : Int) == 0) = false := beq_eq_false_iff_ne.mpr c3
  have c3b1 : ((l0.length : Int) != 0) = true := bne_iff_ne.mpr c3
  have c3b2 : ¬ (l0 = []) := fun h_ => c3 (by rw [h_]; rfl)
  (first | rw [c3b0] | (simp only [i64_w, i32_w]; rw [c3b0]) | skip)
  by_cases c4 : (l0.length : Int) > 262144
  · rw [if_pos c4] at H
    have c4b0 : decide (262144 < (l0.length : Int)) = true := decide_eq_true c4
    have c4b1 : decide (262144 < l0.length) = true := decide_eq_true (by omega)
    clear c4; have H' := Aside0.mk H; clear H; go_wp2
    go_meet
    case rel => exact ⟨_, (true), (by first | rfl | (simp; done) | (simp [*]; done)), H', ⟨by first | omega | exact Nat.le_refl _⟩, ⟨by repeat (first | (with_reducible first | exact HB.out | apply bA | apply bN | apply bD) | exact HB.out)⟩⟩
  rw [if_neg c4] at H
  have c4b0 : decide (262144 < (l0.length : Int)) = false := decide_eq_false c4
  have c4b1 : decide (262144 < l0.length) = false := decide_eq_false (by omega)
  clear c4; obtain ⟨ji5, hji5⟩ : ∃ j_ : Int, (wrap64 ((l0.length : Int) - 1)) = j_ := ⟨_, rfl⟩
  replace H : (if 0 ≤ (ji5) then (if (ji5) < (l0.length : Int) then ((items_Forced.f ((rd_T34 l0 (ji5)).f0) ((rd_T34 l0 (ji5)).f1) ((rd_T34 l0 (ji5)).f2) ((rd_T34 l0 (ji5)).f3) ((rd_T34 l0 (ji5)).f4) ((rd_T34 l0 (ji5)).f5) ((rd_T34 l0 (ji5)).f6) ((rd_T34 l0 (ji5)).f7) ((rd_T34 l0 (ji5)).f8)).bind fun t337 => (items_Right.j0 k l0 (!t337))) else (none)) else (none)) = some r := by first | (rw [hji5] at H; exact H) | (simp only [hji5] at H ⊢; exact H)
  have hji5w : (IntKind.i64.wrap ((l0.length : Int) - 1)) = ji5 := (i64_w _).trans hji5
  by_cases c6 : 0 ≤ (ji5)
  case neg =>
    rw [if_neg c6] at H
    exact absurd H (by simp)
  rw [if_pos c6] at H
  have c6b0 : decide (0 ≤ (ji5)) = true := decide_eq_true c6
  clear c6; by_cases c7 : (ji5) < (l0.length : Int)
  case neg =>
    rw [if_neg c7] at H
    exact absurd H (by simp)
  rw [if_pos c7] at H
  have c7b0 : decide ((ji5) < (l0.length : Int)) = true := decide_eq_true c7
  clear c7; replace H := Option.bind_eq_some_iff.mp H; obtain ⟨t337, A80, H⟩ := H; replace H : (items_Right.j0 k l0 (!t337)) = some r := H
  have A8 := Aside0.mk A80; clear A80; have H' := Aside0.mk H; clear H; have p336 : 0 ≤ ((ji5) : Int) := of_decide_eq_true (by first | (with_reducible assumption) | assumption)
  have q336 : (ji5) < (l0.length : Int) := of_decide_eq_true (by first | (with_reducible assumption) | assumption)
  obtain ⟨ad336, e336, hx336_0, hx336_1, hx336_2, hx336_3, hx336_4, hx336_5, hx336_6, hx336_7, hx336_8⟩ := at_T34 HR0.out (ji5) p336 q336
  cases e336; replace hx336_0 := hb_up HB.out hx336_0; replace hx336_1 := hb_up HB.out hx336_1; replace hx336_2 := hb_up HB.out hx336_2; replace hx336_3 := hb_up HB.out hx336_3; replace hx336_4 := hb_up HB.out hx336_4; replace hx336_5 := hb_up HB.out hx336_5; replace hx336_6 := hb_up HB.out hx336_6; replace hx336_7 := hb_up HB.out hx336_7; replace hx336_8 := hb_up HB.out hx336_8; replace p336 := eq_true p336; replace q336 := eq_true q336; go_wp2_with (first | (go_at_call 43; (with_reducible refine (items_Forced.calls ((rd_T34 l0 (ji5)).f0) ((rd_T34 l0 (ji5)).f1) ((rd_T34 l0 (ji5)).f2) ((rd_T34 l0 (ji5)).f3) ((rd_T34 l0 (ji5)).f4) ((rd_T34 l0 (ji5)).f5) ((rd_T34 l0 (ji5)).f6) ((rd_T34 l0 (ji5)).f7) ((rd_T34 l0 (ji5)).f8) t337 _ A8.out).mono ?_); rintro e w9 ⟨rfl, hb⟩; have n0_ := Aside0.mk (below_step (by repeat (first | (with_reducible first | exact HB.out | apply bA | apply bN | apply bD) | exact HB.out)) hb); clear HB; have HB := n0_; clear n0_; (try clear hb); (try clear hb2); (try clear hk); (try clear hi)))
  go_meet
  case rel => exact ⟨_, (!t337), (by first | rfl | (simp; done) | (simp [*]; done)), H', ⟨by first | omega | exact Nat.le_refl _⟩, ⟨by repeat (first | (with_reducible first | exact HB.out | apply bA | apply bN | apply bD) | exact HB.out)⟩⟩
 case rest =>
  clear HC2
  try clear p2
  try clear c3
  try clear c3b0
  try clear c3b1
  try clear c3b2
  try clear p3
  try clear q3
  try clear hx3
  try clear c4
  try clear c4b0
  try clear c4b1
  try clear c6
  try clear c6b0
  try clear p6
  try clear c7
  try clear c7b0
  try clear hx336_0
  try clear hx336_1
  try clear hx336_2
  try clear hx336_3
  try clear hx336_4
  try clear hx336_5
  try clear hx336_6
  try clear hx336_7
  try clear hx336_8
  try clear p336
  try clear q336
  obtain ⟨kq, x23_1, rfl, HA, HJ1, HB⟩ := hcut
  cases kq with
  | zero => exact absurd HA.out (by simp [items_Right.j0])
  | succ kj1 =>
    have H := HA.out; clear HA; simp only [items_Right.j0] at H
    by_cases c10 : x23_1 = true
    · subst c10
      have H1 : (some 70) = some r := by rw [if_pos rfl] at H; exact H
      clear H; have H := H1; clear H1; obtain rfl := Option.some.inj H
      go_wp2
      go_ret
      exact ⟨by first | rfl | (simp [errW_none, errW_some] <;> rfl) | (simp [*, errW_none, errW_some] <;> rfl), by repeat (first | (with_reducible first | exact HB.out | apply bA | apply bN | apply bD) | exact HB.out)⟩
    replace c10 := Bool.eq_false_iff.mpr c10
    subst c10
    have H1 : (items_Right.l0 kj1 0 l0 (l0.length : Int) 0) = some r := by rw [if_neg (show ¬ (false = true) by decide)] at H; exact H
    clear H; have H := H1; clear H1; have H' := Aside0.mk H; clear H; go_wp2
    go_loopg [3, 26] kj1 (fun kq v3 v26 w' => ∃ (x3_2 : Int) (x26_2 : Int), v3 = .int .i64 x3_2 ∧ v26 = .int .i64 x26_2 ∧ Aside0 (items_Right.l0 kq x3_2 l0 (l0.length : Int) x26_2 = some r) ∧ Aside0 (kq ≤ kj1) ∧ Aside0 (Below w.heap.size w w'))
    case atStart => exact ⟨(0), (0), (by first | rfl | (simp; done) | (simp [*]; done)), (by first | rfl | (simp; done) | (simp [*]; done)), H', ⟨Nat.le_refl _⟩, ⟨by repeat (first | (with_reducible first | exact HB.out | apply bA | apply bN | apply bD) | exact HB.out)⟩⟩
    case round =>
      clear H'
      try clear c1
      try clear p2
      try clear c3
      try clear c3b0
      try clear c3b1
      try clear c3b2
      try clear p3
      try clear q3
      try clear hx3
      try clear c4
      try clear c4b0
      try clear c4b1
      try clear c6
      try clear c6b0
      try clear p6
      try clear c7
      try clear c7b0
      try clear c10
      try clear hx336_0
      try clear hx336_1
      try clear hx336_2
      try clear hx336_3
      try clear hx336_4
      try clear hx336_5
      try clear hx336_6
      try clear hx336_7
      try clear hx336_8
      try clear p2
      try clear p3
      try clear p336
      try clear p6
      try clear q3
      try clear q336
      obtain ⟨x3_2, x26_2, rfl, rfl, HA, HK2, HB⟩ := hrel
      cases gk with
      | zero => exact absurd HA.out (by simp [items_Right.l0])
      | succ k2 =>
       have H := HA.out; clear HA; simp only [items_Right.l0] at H
       by_cases c11 : x26_2 < (l0.length : Int)
       case neg =>
         rw [if_neg c11] at H
         have c11b0 : decide (x26_2 < (l0.length : Int)) = false := decide_eq_false c11
         clear c11; obtain rfl := Option.some.inj H
         go_wp2
         go_ret
         exact ⟨by first | rfl | (simp [errW_none, errW_some] <;> rfl) | (simp [*, errW_none, errW_some] <;> rfl), by repeat (first | (with_reducible first | exact HB.out | apply bA | apply bN | apply bD) | exact HB.out)⟩
       rw [if_pos c11] at H
       have c11b0 : decide (x26_2 < (l0.length : Int)) = true := decide_eq_true c11
       clear c11; by_cases c12 : 0 ≤ x26_2
       case neg =>
         rw [if_neg c12] at H
         exact absurd H (by simp)
       rw [if_pos c12] at H
       have c12b0 : decide (0 ≤ x26_2) = true := decide_eq_true c12
       clear c12; by_cases c13 : x26_2 < (l0.length : Int)
       case neg =>
         rw [if_neg c13] at H
         exact absurd H (by simp)
       rw [if_pos c13] at H
       have c13b0 : decide (x26_2 < (l0.length : Int)) = true := decide_eq_true c13
       clear c13; by_cases c14 : ((rd_T34 l0 x26_2).f7) = x3_2
       case neg =>
         rw [if_neg c14] at H
         have c14b0 : (((rd_T34 l0 x26_2).f7) == x3_2) = false := beq_eq_false_iff_ne.mpr c14
         have c14b1 : (((rd_T34 l0 x26_2).f7) != x3_2) = true := bne_iff_ne.mpr c14
         obtain rfl := Option.some.inj H
         have p338 : 0 ≤ (x26_2 : Int) := of_decide_eq_true (by first | (with_reducible assumption) | assumption)
         have q338 : x26_2 < (l0.length : Int) := of_decide_eq_true (by first | (with_reducible assumption) | assumption)
         obtain ⟨ad338, e338, hx338_0, hx338_1, hx338_2, hx338_3, hx338_4, hx338_5, hx338_6, hx338_7, hx338_8⟩ := at_T34 HR0.out x26_2 p338 q338; cases e338; replace hx338_0 := hb_up HB.out hx338_0; replace hx338_1 := hb_up HB.out hx338_1; replace hx338_2 := hb_up HB.out hx338_2; replace hx338_3 := hb_up HB.out hx338_3; replace hx338_4 := hb_up HB.out hx338_4; replace hx338_5 := hb_up HB.out hx338_5; replace hx338_6 := hb_up HB.out hx338_6; replace hx338_7 := hb_up HB.out hx338_7; replace hx338_8 := hb_up HB.out hx338_8; replace p338 := eq_true p338; replace q338 := eq_true q338; go_wp2_with (first | ((with_reducible refine gate_dst (N := 5) rfl ?_); (try (refine gate_guard (by rfl) ?_; dsimp only)); refine box_event ?hg (N := 5) ?hd (cs := #[.int .i64 0, .int .i64 0, .int .i64 0, .int .i64 0, .bool false, .int .i64 0, .bool false, .int .i64 0, .int .i64 0]) (t := 34) ?hr ?_; (case hd => rfl); (case hg => rfl); (case hr => first | (go_simp; done) | (go_simp; rfl)); intro gb339 hg w30 hbox hb; have n0_ := Aside0.mk (below_step (by repeat (first | (with_reducible first | exact HB.out | apply bA | apply bN | apply bD) | exact HB.out)) hb); have n1_ := Aside0.mk (hbox); have n2_ := Aside0.mk ((by rw [hg]; exact (below_size (by repeat (first | (with_reducible first | exact HB.out | apply bA | apply bN | apply bD) | exact HB.out))) : w.heap.size ≤ gb339)); have n3_ := Aside0.mk ((by rw [hg]; exact (below_size (by repeat (first | (with_reducible first | exact HB.out | apply bA | apply bN | apply bD) | exact HB.out))) : w.heap.size ≤ gb339)); clear HB; have HB := n0_; have BK339 := n1_; have GW339 := n2_; have GE339 := n3_; clear n0_ n1_ n2_ n3_; clear hb hbox hg; have hcz31_0 : w30.cell? ⟨gb339, 0, none⟩ = some (.int .i64 0) := (blk_cell BK339.out 0).trans rfl; have hcz31_1 : w30.cell? ⟨gb339, 1, none⟩ = some (.int .i64 0) := (blk_cell BK339.out 1).trans rfl; have hcz31_2 : w30.cell? ⟨gb339, 2, none⟩ = some (.int .i64 0) := (blk_cell BK339.out 2).trans rfl; have hcz31_3 : w30.cell? ⟨gb339, 3, none⟩ = some (.int .i64 0) := (blk_cell BK339.out 3).trans rfl; have hcz31_4 : w30.cell? ⟨gb339, 4, none⟩ = some (.bool false) := (blk_cell BK339.out 4).trans rfl; have hcz31_5 : w30.cell? ⟨gb339, 5, none⟩ = some (.int .i64 0) := (blk_cell BK339.out 5).trans rfl; have hcz31_6 : w30.cell? ⟨gb339, 6, none⟩ = some (.bool false) := (blk_cell BK339.out 6).trans rfl; have hcz31_7 : w30.cell? ⟨gb339, 7, none⟩ = some (.int .i64 0) := (blk_cell BK339.out 7).trans rfl; have hcz31_8 : w30.cell? ⟨gb339, 8, none⟩ = some (.int .i64 0) := (blk_cell BK339.out 8).trans rfl; have hfz31_0 := blk_frozen BK339.out 0; have hfz31_1 := blk_frozen BK339.out 1; have hfz31_2 := blk_frozen BK339.out 2; have hfz31_3 := blk_frozen BK339.out 3; have hfz31_4 := blk_frozen BK339.out 4; have hfz31_5 := blk_frozen BK339.out 5; have hfz31_6 := blk_frozen BK339.out 6; have hfz31_7 := blk_frozen BK339.out 7; have hfz31_8 := blk_frozen BK339.out 8))
         go_ret
         exact ⟨by first | rfl | (simp [errW_none, errW_some] <;> rfl) | (simp [*, errW_none, errW_some] <;> rfl), by repeat (first | (with_reducible first | exact HB.out | apply bA | apply bN | apply bD | refine below_set ?_ GE339.out) | exact HB.out)⟩
       rw [if_pos c14] at H
       have c14b0 : (((rd_T34 l0 x26_2).f7) == x3_2) = true := beq_iff_eq.mpr c14
       have c14b1 : (((rd_T34 l0 x26_2).f7) != x3_2) = false := bne_eq_false_iff_eq.mpr c14
       clear c14; by_cases c15 : ((rd_T34 l0 x26_2).f8) < ((rd_T34 l0 x26_2).f7)
       · rw [if_pos c15] at H
         have c15b0 : decide (((rd_T34 l0 x26_2).f8) < ((rd_T34 l0 x26_2).f7)) = true := decide_eq_true c15
         clear c15; obtain rfl := Option.some.inj H
         have p338 : 0 ≤ (x26_2 : Int) := of_decide_eq_true (by first | (with_reducible assumption) | assumption)
         have q338 : x26_2 < (l0.length : Int) := of_decide_eq_true (by first | (with_reducible assumption) | assumption)
         obtain ⟨ad338, e338, hx338_0, hx338_1, hx338_2, hx338_3, hx338_4, hx338_5, hx338_6, hx338_7, hx338_8⟩ := at_T34 HR0.out x26_2 p338 q338; cases e338; replace hx338_0 := hb_up HB.out hx338_0; replace hx338_1 := hb_up HB.out hx338_1; replace hx338_2 := hb_up HB.out hx338_2; replace hx338_3 := hb_up HB.out hx338_3; replace hx338_4 := hb_up HB.out hx338_4; replace hx338_5 := hb_up HB.out hx338_5; replace hx338_6 := hb_up HB.out hx338_6; replace hx338_7 := hb_up HB.out hx338_7; replace hx338_8 := hb_up HB.out hx338_8; replace p338 := eq_true p338; replace q338 := eq_true q338; go_wp2_with (first | ((with_reducible refine gate_dst (N := 5) rfl ?_); (try (refine gate_guard (by rfl) ?_; dsimp only)); refine box_event ?hg (N := 5) ?hd (cs := #[.int .i64 0, .int .i64 0, .int .i64 0, .int .i64 0, .bool false, .int .i64 0, .bool false, .int .i64 0, .int .i64 0]) (t := 34) ?hr ?_; (case hd => rfl); (case hg => rfl); (case hr => first | (go_simp; done) | (go_simp; rfl)); intro gb339 hg w16 hbox hb; have n0_ := Aside0.mk (below_step (by repeat (first | (with_reducible first | exact HB.out | apply bA | apply bN | apply bD) | exact HB.out)) hb); have n1_ := Aside0.mk (hbox); have n2_ := Aside0.mk ((by rw [hg]; exact (below_size (by repeat (first | (with_reducible first | exact HB.out | apply bA | apply bN | apply bD) | exact HB.out))) : w.heap.size ≤ gb339)); have n3_ := Aside0.mk ((by rw [hg]; exact (below_size (by repeat (first | (with_reducible first | exact HB.out | apply bA | apply bN | apply bD) | exact HB.out))) : w.heap.size ≤ gb339)); clear HB; have HB := n0_; have BK339 := n1_; have GW339 := n2_; have GE339 := n3_; clear n0_ n1_ n2_ n3_; clear hb hbox hg; have hcz17_0 : w16.cell? ⟨gb339, 0, none⟩ = some (.int .i64 0) := (blk_cell BK339.out 0).trans rfl; have hcz17_1 : w16.cell? ⟨gb339, 1, none⟩ = some (.int .i64 0) := (blk_cell BK339.out 1).trans rfl; have hcz17_2 : w16.cell? ⟨gb339, 2, none⟩ = some (.int .i64 0) := (blk_cell BK339.out 2).trans rfl; have hcz17_3 : w16.cell? ⟨gb339, 3, none⟩ = some (.int .i64 0) := (blk_cell BK339.out 3).trans rfl; have hcz17_4 : w16.cell? ⟨gb339, 4, none⟩ = some (.bool false) := (blk_cell BK339.out 4).trans rfl; have hcz17_5 : w16.cell? ⟨gb339, 5, none⟩ = some (.int .i64 0) := (blk_cell BK339.out 5).trans rfl; have hcz17_6 : w16.cell? ⟨gb339, 6, none⟩ = some (.bool false) := (blk_cell BK339.out 6).trans rfl; have hcz17_7 : w16.cell? ⟨gb339, 7, none⟩ = some (.int .i64 0) := (blk_cell BK339.out 7).trans rfl; have hcz17_8 : w16.cell? ⟨gb339, 8, none⟩ = some (.int .i64 0) := (blk_cell BK339.out 8).trans rfl; have hfz17_0 := blk_frozen BK339.out 0; have hfz17_1 := blk_frozen BK339.out 1; have hfz17_2 := blk_frozen BK339.out 2; have hfz17_3 := blk_frozen BK339.out 3; have hfz17_4 := blk_frozen BK339.out 4; have hfz17_5 := blk_frozen BK339.out 5; have hfz17_6 := blk_frozen BK339.out 6; have hfz17_7 := blk_frozen BK339.out 7; have hfz17_8 := blk_frozen BK339.out 8))
         go_ret
         exact ⟨by first | rfl | (simp [errW_none, errW_some] <;> rfl) | (simp [*, errW_none, errW_some] <;> rfl), by repeat (first | (with_reducible first | exact HB.out | apply bA | apply bN | apply bD | refine below_set ?_ GE339.out) | exact HB.out)⟩
       rw [if_neg c15] at H
       have c15b0 : decide (((rd_T34 l0 x26_2).f8) < ((rd_T34 l0 x26_2).f7)) = false := decide_eq_false c15
       clear c15; by_cases c18 : ((rd_T34 l0 x26_2).f8) > 65536
       · rw [if_pos c18] at H
         have c18b0 : decide (65536 < ((rd_T34 l0 x26_2).f8)) = true := decide_eq_true c18
         clear c18; obtain rfl := Option.some.inj H
         have p338 : 0 ≤ (x26_2 : Int) := of_decide_eq_true (by first | (with_reducible assumption) | assumption)
         have q338 : x26_2 < (l0.length : Int) := of_decide_eq_true (by first | (with_reducible assumption) | assumption)
         obtain ⟨ad338, e338, hx338_0, hx338_1, hx338_2, hx338_3, hx338_4, hx338_5, hx338_6, hx338_7, hx338_8⟩ := at_T34 HR0.out x26_2 p338 q338; cases e338; replace hx338_0 := hb_up HB.out hx338_0; replace hx338_1 := hb_up HB.out hx338_1; replace hx338_2 := hb_up HB.out hx338_2; replace hx338_3 := hb_up HB.out hx338_3; replace hx338_4 := hb_up HB.out hx338_4; replace hx338_5 := hb_up HB.out hx338_5; replace hx338_6 := hb_up HB.out hx338_6; replace hx338_7 := hb_up HB.out hx338_7; replace hx338_8 := hb_up HB.out hx338_8; replace p338 := eq_true p338; replace q338 := eq_true q338; go_wp2_with (first | ((with_reducible refine gate_dst (N := 5) rfl ?_); (try (refine gate_guard (by rfl) ?_; dsimp only)); refine box_event ?hg (N := 5) ?hd (cs := #[.int .i64 0, .int .i64 0, .int .i64 0, .int .i64 0, .bool false, .int .i64 0, .bool false, .int .i64 0, .int .i64 0]) (t := 34) ?hr ?_; (case hd => rfl); (case hg => rfl); (case hr => first | (go_simp; done) | (go_simp; rfl)); intro gb339 hg w19 hbox hb; have n0_ := Aside0.mk (below_step (by repeat (first | (with_reducible first | exact HB.out | apply bA | apply bN | apply bD) | exact HB.out)) hb); have n1_ := Aside0.mk (hbox); have n2_ := Aside0.mk ((by rw [hg]; exact (below_size (by repeat (first | (with_reducible first | exact HB.out | apply bA | apply bN | apply bD) | exact HB.out))) : w.heap.size ≤ gb339)); have n3_ := Aside0.mk ((by rw [hg]; exact (below_size (by repeat (first | (with_reducible first | exact HB.out | apply bA | apply bN | apply bD) | exact HB.out))) : w.heap.size ≤ gb339)); clear HB; have HB := n0_; have BK339 := n1_; have GW339 := n2_; have GE339 := n3_; clear n0_ n1_ n2_ n3_; clear hb hbox hg; have hcz20_0 : w19.cell? ⟨gb339, 0, none⟩ = some (.int .i64 0) := (blk_cell BK339.out 0).trans rfl; have hcz20_1 : w19.cell? ⟨gb339, 1, none⟩ = some (.int .i64 0) := (blk_cell BK339.out 1).trans rfl; have hcz20_2 : w19.cell? ⟨gb339, 2, none⟩ = some (.int .i64 0) := (blk_cell BK339.out 2).trans rfl; have hcz20_3 : w19.cell? ⟨gb339, 3, none⟩ = some (.int .i64 0) := (blk_cell BK339.out 3).trans rfl; have hcz20_4 : w19.cell? ⟨gb339, 4, none⟩ = some (.bool false) := (blk_cell BK339.out 4).trans rfl; have hcz20_5 : w19.cell? ⟨gb339, 5, none⟩ = some (.int .i64 0) := (blk_cell BK339.out 5).trans rfl; have hcz20_6 : w19.cell? ⟨gb339, 6, none⟩ = some (.bool false) := (blk_cell BK339.out 6).trans rfl; have hcz20_7 : w19.cell? ⟨gb339, 7, none⟩ = some (.int .i64 0) := (blk_cell BK339.out 7).trans rfl; have hcz20_8 : w19.cell? ⟨gb339, 8, none⟩ = some (.int .i64 0) := (blk_cell BK339.out 8).trans rfl; have hfz20_0 := blk_frozen BK339.out 0; have hfz20_1 := blk_frozen BK339.out 1; have hfz20_2 := blk_frozen BK339.out 2; have hfz20_3 := blk_frozen BK339.out 3; have hfz20_4 := blk_frozen BK339.out 4; have hfz20_5 := blk_frozen BK339.out 5; have hfz20_6 := blk_frozen BK339.out 6; have hfz20_7 := blk_frozen BK339.out 7; have hfz20_8 := blk_frozen BK339.out 8))
         go_ret
         exact ⟨by first | rfl | (simp [errW_none, errW_some] <;> rfl) | (simp [*, errW_none, errW_some] <;> rfl), by repeat (first | (with_reducible first | exact HB.out | apply bA | apply bN | apply bD | refine below_set ?_ GE339.out) | exact HB.out)⟩
       rw [if_neg c18] at H
       have c18b0 : decide (65536 < ((rd_T34 l0 x26_2).f8)) = false := decide_eq_false c18
       clear c18; replace H := Option.bind_eq_some_iff.mp H; obtain ⟨t340, A210, H⟩ := H; replace H : (if t340 = true then (items_Right.l0 k2 ((rd_T34 l0 x26_2).f8) l0 (l0.length : Int) (wrap64 (x26_2 + 1))) else (some 70)) = some r := H
       have A21 := Aside0.mk A210; clear A210; by_cases c22 : t340 = true
       case neg =>
         replace c22 := Bool.eq_false_iff.mpr c22
         subst c22
         have H1 : (some 70) = some r := by rw [if_neg (show ¬ (false = true) by decide)] at H; exact H
         clear H; have H := H1; clear H1; obtain rfl := Option.some.inj H
         have p338 : 0 ≤ (x26_2 : Int) := of_decide_eq_true (by first | (with_reducible assumption) | assumption)
         have q338 : x26_2 < (l0.length : Int) := of_decide_eq_true (by first | (with_reducible assumption) | assumption)
         obtain ⟨ad338, e338, hx338_0, hx338_1, hx338_2, hx338_3, hx338_4, hx338_5, hx338_6, hx338_7, hx338_8⟩ := at_T34 HR0.out x26_2 p338 q338; cases e338; replace hx338_0 := hb_up HB.out hx338_0; replace hx338_1 := hb_up HB.out hx338_1; replace hx338_2 := hb_up HB.out hx338_2; replace hx338_3 := hb_up HB.out hx338_3; replace hx338_4 := hb_up HB.out hx338_4; replace hx338_5 := hb_up HB.out hx338_5; replace hx338_6 := hb_up HB.out hx338_6; replace hx338_7 := hb_up HB.out hx338_7; replace hx338_8 := hb_up HB.out hx338_8; replace p338 := eq_true p338; replace q338 := eq_true q338; go_wp2_with (first | ((with_reducible refine gate_dst (N := 5) rfl ?_); (try (refine gate_guard (by rfl) ?_; dsimp only)); refine box_event ?hg (N := 5) ?hd (cs := #[.int .i64 0, .int .i64 0, .int .i64 0, .int .i64 0, .bool false, .int .i64 0, .bool false, .int .i64 0, .int .i64 0]) (t := 34) ?hr ?_; (case hd => rfl); (case hg => rfl); (case hr => first | (go_simp; done) | (go_simp; rfl)); intro gb339 hg w27 hbox hb; have n0_ := Aside0.mk (below_step (by repeat (first | (with_reducible first | exact HB.out | apply bA | apply bN | apply bD) | exact HB.out)) hb); have n1_ := Aside0.mk (hbox); have n2_ := Aside0.mk ((by rw [hg]; exact (below_size (by repeat (first | (with_reducible first | exact HB.out | apply bA | apply bN | apply bD) | exact HB.out))) : w.heap.size ≤ gb339)); have n3_ := Aside0.mk ((by rw [hg]; exact (below_size (by repeat (first | (with_reducible first | exact HB.out | apply bA | apply bN | apply bD) | exact HB.out))) : w.heap.size ≤ gb339)); clear HB; have HB := n0_; have BK339 := n1_; have GW339 := n2_; have GE339 := n3_; clear n0_ n1_ n2_ n3_; clear hb hbox hg; have hcz28_0 : w27.cell? ⟨gb339, 0, none⟩ = some (.int .i64 0) := (blk_cell BK339.out 0).trans rfl; have hcz28_1 : w27.cell? ⟨gb339, 1, none⟩ = some (.int .i64 0) := (blk_cell BK339.out 1).trans rfl; have hcz28_2 : w27.cell? ⟨gb339, 2, none⟩ = some (.int .i64 0) := (blk_cell BK339.out 2).trans rfl; have hcz28_3 : w27.cell? ⟨gb339, 3, none⟩ = some (.int .i64 0) := (blk_cell BK339.out 3).trans rfl; have hcz28_4 : w27.cell? ⟨gb339, 4, none⟩ = some (.bool false) := (blk_cell BK339.out 4).trans rfl; have hcz28_5 : w27.cell? ⟨gb339, 5, none⟩ = some (.int .i64 0) := (blk_cell BK339.out 5).trans rfl; have hcz28_6 : w27.cell? ⟨gb339, 6, none⟩ = some (.bool false) := (blk_cell BK339.out 6).trans rfl; have hcz28_7 : w27.cell? ⟨gb339, 7, none⟩ = some (.int .i64 0) := (blk_cell BK339.out 7).trans rfl; have hcz28_8 : w27.cell? ⟨gb339, 8, none⟩ = some (.int .i64 0) := (blk_cell BK339.out 8).trans rfl; have hfz28_0 := blk_frozen BK339.out 0; have hfz28_1 := blk_frozen BK339.out 1; have hfz28_2 := blk_frozen BK339.out 2; have hfz28_3 := blk_frozen BK339.out 3; have hfz28_4 := blk_frozen BK339.out 4; have hfz28_5 := blk_frozen BK339.out 5; have hfz28_6 := blk_frozen BK339.out 6; have hfz28_7 := blk_frozen BK339.out 7; have hfz28_8 := blk_frozen BK339.out 8) | (go_at_call 55; (with_reducible refine (items_fits.calls k2 ((rd_T34 l0 x26_2).f0) ((rd_T34 l0 x26_2).f1) ((rd_T34 l0 x26_2).f2) ((rd_T34 l0 x26_2).f3) ((rd_T34 l0 x26_2).f4) ((rd_T34 l0 x26_2).f5) ((rd_T34 l0 x26_2).f6) ((rd_T34 l0 x26_2).f7) ((rd_T34 l0 x26_2).f8) false _ A21.out).mono ?_); rintro e w29 ⟨rfl, hb⟩; have n0_ := Aside0.mk (blk_below (g := gb339) (o := .cells #[.int .i64 ((rd_T34 l0 x26_2).f0), .int .i64 ((rd_T34 l0 x26_2).f1), .int .i64 ((rd_T34 l0 x26_2).f2), .int .i64 ((rd_T34 l0 x26_2).f3), .bool ((rd_T34 l0 x26_2).f4), .int .i64 ((rd_T34 l0 x26_2).f5), .bool ((rd_T34 l0 x26_2).f6), .int .i64 ((rd_T34 l0 x26_2).f7), .int .i64 ((rd_T34 l0 x26_2).f8)] 34 (0, 0)) (by (with_reducible repeat first | apply kN | apply kD | apply kA); refine blk_put (cs := #[.int .i64 ((rd_T34 l0 x26_2).f0), .int .i64 ((rd_T34 l0 x26_2).f1), .int .i64 ((rd_T34 l0 x26_2).f2), .int .i64 ((rd_T34 l0 x26_2).f3), .bool ((rd_T34 l0 x26_2).f4), .int .i64 ((rd_T34 l0 x26_2).f5), .bool ((rd_T34 l0 x26_2).f6), .int .i64 ((rd_T34 l0 x26_2).f7), .int .i64 0]) ?_ 8 _ rfl; (with_reducible repeat first | apply kN | apply kD | apply kA); refine blk_put (cs := #[.int .i64 ((rd_T34 l0 x26_2).f0), .int .i64 ((rd_T34 l0 x26_2).f1), .int .i64 ((rd_T34 l0 x26_2).f2), .int .i64 ((rd_T34 l0 x26_2).f3), .bool ((rd_T34 l0 x26_2).f4), .int .i64 ((rd_T34 l0 x26_2).f5), .bool ((rd_T34 l0 x26_2).f6), .int .i64 0, .int .i64 0]) ?_ 7 _ rfl; (with_reducible repeat first | apply kN | apply kD | apply kA); refine blk_put (cs := #[.int .i64 ((rd_T34 l0 x26_2).f0), .int .i64 ((rd_T34 l0 x26_2).f1), .int .i64 ((rd_T34 l0 x26_2).f2), .int .i64 ((rd_T34 l0 x26_2).f3), .bool ((rd_T34 l0 x26_2).f4), .int .i64 ((rd_T34 l0 x26_2).f5), .bool false, .int .i64 0, .int .i64 0]) ?_ 6 _ rfl; (with_reducible repeat first | apply kN | apply kD | apply kA); refine blk_put (cs := #[.int .i64 ((rd_T34 l0 x26_2).f0), .int .i64 ((rd_T34 l0 x26_2).f1), .int .i64 ((rd_T34 l0 x26_2).f2), .int .i64 ((rd_T34 l0 x26_2).f3), .bool ((rd_T34 l0 x26_2).f4), .int .i64 0, .bool false, .int .i64 0, .int .i64 0]) ?_ 5 _ rfl; (with_reducible repeat first | apply kN | apply kD | apply kA); refine blk_put (cs := #[.int .i64 ((rd_T34 l0 x26_2).f0), .int .i64 ((rd_T34 l0 x26_2).f1), .int .i64 ((rd_T34 l0 x26_2).f2), .int .i64 ((rd_T34 l0 x26_2).f3), .bool false, .int .i64 0, .bool false, .int .i64 0, .int .i64 0]) ?_ 4 _ rfl; (with_reducible repeat first | apply kN | apply kD | apply kA); refine blk_put (cs := #[.int .i64 ((rd_T34 l0 x26_2).f0), .int .i64 ((rd_T34 l0 x26_2).f1), .int .i64 ((rd_T34 l0 x26_2).f2), .int .i64 0, .bool false, .int .i64 0, .bool false, .int .i64 0, .int .i64 0]) ?_ 3 _ rfl; (with_reducible repeat first | apply kN | apply kD | apply kA); refine blk_put (cs := #[.int .i64 ((rd_T34 l0 x26_2).f0), .int .i64 ((rd_T34 l0 x26_2).f1), .int .i64 0, .int .i64 0, .bool false, .int .i64 0, .bool false, .int .i64 0, .int .i64 0]) ?_ 2 _ rfl; (with_reducible repeat first | apply kN | apply kD | apply kA); refine blk_put (cs := #[.int .i64 ((rd_T34 l0 x26_2).f0), .int .i64 0, .int .i64 0, .int .i64 0, .bool false, .int .i64 0, .bool false, .int .i64 0, .int .i64 0]) ?_ 1 _ rfl; (with_reducible repeat first | apply kN | apply kD | apply kA); refine blk_put (cs := #[.int .i64 0, .int .i64 0, .int .i64 0, .int .i64 0, .bool false, .int .i64 0, .bool false, .int .i64 0, .int .i64 0]) ?_ 0 _ rfl; (with_reducible repeat first | apply kN | apply kD | apply kA); exact BK339.out) hb); have n1_ := Aside0.mk (below_step (by repeat (first | (with_reducible first | exact HB.out | apply bA | apply bN | apply bD | refine below_set ?_ GE339.out) | exact HB.out)) hb); clear BK339; clear HB; have BK339 := n0_; have HB := n1_; clear n0_ n1_; (try clear hb); (try clear hb2); (try clear hk); (try clear hi)))
         go_ret
         exact ⟨by first | rfl | (simp [errW_none, errW_some] <;> rfl) | (simp [*, errW_none, errW_some] <;> rfl), by repeat (first | (with_reducible first | exact HB.out | apply bA | apply bN | apply bD | refine below_set ?_ GE339.out) | exact HB.out)⟩
       subst c22
       have H1 : (items_Right.l0 k2 ((rd_T34 l0 x26_2).f8) l0 (l0.length : Int) (wrap64 (x26_2 + 1))) = some r := by rw [if_pos rfl] at H; exact H
       clear H; have H := H1; clear H1; have H' := Aside0.mk H; clear H; have p338 : 0 ≤ (x26_2 : Int) := of_decide_eq_true (by first | (with_reducible assumption) | assumption)
       have q338 : x26_2 < (l0.length : Int) := of_decide_eq_true (by first | (with_reducible assumption) | assumption)
       obtain ⟨ad338, e338, hx338_0, hx338_1, hx338_2, hx338_3, hx338_4, hx338_5, hx338_6, hx338_7, hx338_8⟩ := at_T34 HR0.out x26_2 p338 q338; cases e338; replace hx338_0 := hb_up HB.out hx338_0; replace hx338_1 := hb_up HB.out hx338_1; replace hx338_2 := hb_up HB.out hx338_2; replace hx338_3 := hb_up HB.out hx338_3; replace hx338_4 := hb_up HB.out hx338_4; replace hx338_5 := hb_up HB.out hx338_5; replace hx338_6 := hb_up HB.out hx338_6; replace hx338_7 := hb_up HB.out hx338_7; replace hx338_8 := hb_up HB.out hx338_8; replace p338 := eq_true p338; replace q338 := eq_true q338; go_wp2_with (first | ((with_reducible refine gate_dst (N := 5) rfl ?_); (try (refine gate_guard (by rfl) ?_; dsimp only)); refine box_event ?hg (N := 5) ?hd (cs := #[.int .i64 0, .int .i64 0, .int .i64 0, .int .i64 0, .bool false, .int .i64 0, .bool false, .int .i64 0, .int .i64 0]) (t := 34) ?hr ?_; (case hd => rfl); (case hg => rfl); (case hr => first | (go_simp; done) | (go_simp; rfl)); intro gb339 hg w23 hbox hb; have n0_ := Aside0.mk (below_step (by repeat (first | (with_reducible first | exact HB.out | apply bA | apply bN | apply bD) | exact HB.out)) hb); have n1_ := Aside0.mk (hbox); have n2_ := Aside0.mk ((by rw [hg]; exact (below_size (by repeat (first | (with_reducible first | exact HB.out | apply bA | apply bN | apply bD) | exact HB.out))) : w.heap.size ≤ gb339)); have n3_ := Aside0.mk ((by rw [hg]; exact (below_size (by repeat (first | (with_reducible first | exact HB.out | apply bA | apply bN | apply bD) | exact HB.out))) : w.heap.size ≤ gb339)); clear HB; have HB := n0_; have BK339 := n1_; have GW339 := n2_; have GE339 := n3_; clear n0_ n1_ n2_ n3_; clear hb hbox hg; have hcz24_0 : w23.cell? ⟨gb339, 0, none⟩ = some (.int .i64 0) := (blk_cell BK339.out 0).trans rfl; have hcz24_1 : w23.cell? ⟨gb339, 1, none⟩ = some (.int .i64 0) := (blk_cell BK339.out 1).trans rfl; have hcz24_2 : w23.cell? ⟨gb339, 2, none⟩ = some (.int .i64 0) := (blk_cell BK339.out 2).trans rfl; have hcz24_3 : w23.cell? ⟨gb339, 3, none⟩ = some (.int .i64 0) := (blk_cell BK339.out 3).trans rfl; have hcz24_4 : w23.cell? ⟨gb339, 4, none⟩ = some (.bool false) := (blk_cell BK339.out 4).trans rfl; have hcz24_5 : w23.cell? ⟨gb339, 5, none⟩ = some (.int .i64 0) := (blk_cell BK339.out 5).trans rfl; have hcz24_6 : w23.cell? ⟨gb339, 6, none⟩ = some (.bool false) := (blk_cell BK339.out 6).trans rfl; have hcz24_7 : w23.cell? ⟨gb339, 7, none⟩ = some (.int .i64 0) := (blk_cell BK339.out 7).trans rfl; have hcz24_8 : w23.cell? ⟨gb339, 8, none⟩ = some (.int .i64 0) := (blk_cell BK339.out 8).trans rfl; have hfz24_0 := blk_frozen BK339.out 0; have hfz24_1 := blk_frozen BK339.out 1; have hfz24_2 := blk_frozen BK339.out 2; have hfz24_3 := blk_frozen BK339.out 3; have hfz24_4 := blk_frozen BK339.out 4; have hfz24_5 := blk_frozen BK339.out 5; have hfz24_6 := blk_frozen BK339.out 6; have hfz24_7 := blk_frozen BK339.out 7; have hfz24_8 := blk_frozen BK339.out 8) | (go_at_call 55; (with_reducible refine (items_fits.calls k2 ((rd_T34 l0 x26_2).f0) ((rd_T34 l0 x26_2).f1) ((rd_T34 l0 x26_2).f2) ((rd_T34 l0 x26_2).f3) ((rd_T34 l0 x26_2).f4) ((rd_T34 l0 x26_2).f5) ((rd_T34 l0 x26_2).f6) ((rd_T34 l0 x26_2).f7) ((rd_T34 l0 x26_2).f8) true _ A21.out).mono ?_); rintro e w25 ⟨rfl, hb⟩; have n0_ := Aside0.mk (blk_below (g := gb339) (o := .cells #[.int .i64 ((rd_T34 l0 x26_2).f0), .int .i64 ((rd_T34 l0 x26_2).f1), .int .i64 ((rd_T34 l0 x26_2).f2), .int .i64 ((rd_T34 l0 x26_2).f3), .bool ((rd_T34 l0 x26_2).f4), .int .i64 ((rd_T34 l0 x26_2).f5), .bool ((rd_T34 l0 x26_2).f6), .int .i64 ((rd_T34 l0 x26_2).f7), .int .i64 ((rd_T34 l0 x26_2).f8)] 34 (0, 0)) (by (with_reducible repeat first | apply kN | apply kD | apply kA); refine blk_put (cs := #[.int .i64 ((rd_T34 l0 x26_2).f0), .int .i64 ((rd_T34 l0 x26_2).f1), .int .i64 ((rd_T34 l0 x26_2).f2), .int .i64 ((rd_T34 l0 x26_2).f3), .bool ((rd_T34 l0 x26_2).f4), .int .i64 ((rd_T34 l0 x26_2).f5), .bool ((rd_T34 l0 x26_2).f6), .int .i64 ((rd_T34 l0 x26_2).f7), .int .i64 0]) ?_ 8 _ rfl; (with_reducible repeat first | apply kN | apply kD | apply kA); refine blk_put (cs := #[.int .i64 ((rd_T34 l0 x26_2).f0), .int .i64 ((rd_T34 l0 x26_2).f1), .int .i64 ((rd_T34 l0 x26_2).f2), .int .i64 ((rd_T34 l0 x26_2).f3), .bool ((rd_T34 l0 x26_2).f4), .int .i64 ((rd_T34 l0 x26_2).f5), .bool ((rd_T34 l0 x26_2).f6), .int .i64 0, .int .i64 0]) ?_ 7 _ rfl; (with_reducible repeat first | apply kN | apply kD | apply kA); refine blk_put (cs := #[.int .i64 ((rd_T34 l0 x26_2).f0), .int .i64 ((rd_T34 l0 x26_2).f1), .int .i64 ((rd_T34 l0 x26_2).f2), .int .i64 ((rd_T34 l0 x26_2).f3), .bool ((rd_T34 l0 x26_2).f4), .int .i64 ((rd_T34 l0 x26_2).f5), .bool false, .int .i64 0, .int .i64 0]) ?_ 6 _ rfl; (with_reducible repeat first | apply kN | apply kD | apply kA); refine blk_put (cs := #[.int .i64 ((rd_T34 l0 x26_2).f0), .int .i64 ((rd_T34 l0 x26_2).f1), .int .i64 ((rd_T34 l0 x26_2).f2), .int .i64 ((rd_T34 l0 x26_2).f3), .bool ((rd_T34 l0 x26_2).f4), .int .i64 0, .bool false, .int .i64 0, .int .i64 0]) ?_ 5 _ rfl; (with_reducible repeat first | apply kN | apply kD | apply kA); refine blk_put (cs := #[.int .i64 ((rd_T34 l0 x26_2).f0), .int .i64 ((rd_T34 l0 x26_2).f1), .int .i64 ((rd_T34 l0 x26_2).f2), .int .i64 ((rd_T34 l0 x26_2).f3), .bool false, .int .i64 0, .bool false, .int .i64 0, .int .i64 0]) ?_ 4 _ rfl; (with_reducible repeat first | apply kN | apply kD | apply kA); refine blk_put (cs := #[.int .i64 ((rd_T34 l0 x26_2).f0), .int .i64 ((rd_T34 l0 x26_2).f1), .int .i64 ((rd_T34 l0 x26_2).f2), .int .i64 0, .bool false, .int .i64 0, .bool false, .int .i64 0, .int .i64 0]) ?_ 3 _ rfl; (with_reducible repeat first | apply kN | apply kD | apply kA); refine blk_put (cs := #[.int .i64 ((rd_T34 l0 x26_2).f0), .int .i64 ((rd_T34 l0 x26_2).f1), .int .i64 0, .int .i64 0, .bool false, .int .i64 0, .bool false, .int .i64 0, .int .i64 0]) ?_ 2 _ rfl; (with_reducible repeat first | apply kN | apply kD | apply kA); refine blk_put (cs := #[.int .i64 ((rd_T34 l0 x26_2).f0), .int .i64 0, .int .i64 0, .int .i64 0, .bool false, .int .i64 0, .bool false, .int .i64 0, .int .i64 0]) ?_ 1 _ rfl; (with_reducible repeat first | apply kN | apply kD | apply kA); refine blk_put (cs := #[.int .i64 0, .int .i64 0, .int .i64 0, .int .i64 0, .bool false, .int .i64 0, .bool false, .int .i64 0, .int .i64 0]) ?_ 0 _ rfl; (with_reducible repeat first | apply kN | apply kD | apply kA); exact BK339.out) hb); have n1_ := Aside0.mk (below_step (by repeat (first | (with_reducible first | exact HB.out | apply bA | apply bN | apply bD | refine below_set ?_ GE339.out) | exact HB.out)) hb); clear BK339; clear HB; have BK339 := n0_; have HB := n1_; clear n0_ n1_; (try clear hb); (try clear hb2); (try clear hk); (try clear hi); have hcz26_0 : w25.cell? ⟨gb339, 0, none⟩ = some (.int .i64 ((rd_T34 l0 x26_2).f0)) := (blk_cell BK339.out 0).trans rfl; have hcz26_1 : w25.cell? ⟨gb339, 1, none⟩ = some (.int .i64 ((rd_T34 l0 x26_2).f1)) := (blk_cell BK339.out 1).trans rfl; have hcz26_2 : w25.cell? ⟨gb339, 2, none⟩ = some (.int .i64 ((rd_T34 l0 x26_2).f2)) := (blk_cell BK339.out 2).trans rfl; have hcz26_3 : w25.cell? ⟨gb339, 3, none⟩ = some (.int .i64 ((rd_T34 l0 x26_2).f3)) := (blk_cell BK339.out 3).trans rfl; have hcz26_4 : w25.cell? ⟨gb339, 4, none⟩ = some (.bool ((rd_T34 l0 x26_2).f4)) := (blk_cell BK339.out 4).trans rfl; have hcz26_5 : w25.cell? ⟨gb339, 5, none⟩ = some (.int .i64 ((rd_T34 l0 x26_2).f5)) := (blk_cell BK339.out 5).trans rfl; have hcz26_6 : w25.cell? ⟨gb339, 6, none⟩ = some (.bool ((rd_T34 l0 x26_2).f6)) := (blk_cell BK339.out 6).trans rfl; have hcz26_7 : w25.cell? ⟨gb339, 7, none⟩ = some (.int .i64 ((rd_T34 l0 x26_2).f7)) := (blk_cell BK339.out 7).trans rfl; have hcz26_8 : w25.cell? ⟨gb339, 8, none⟩ = some (.int .i64 ((rd_T34 l0 x26_2).f8)) := (blk_cell BK339.out 8).trans rfl; have hfz26_0 := blk_frozen BK339.out 0; have hfz26_1 := blk_frozen BK339.out 1; have hfz26_2 := blk_frozen BK339.out 2; have hfz26_3 := blk_frozen BK339.out 3; have hfz26_4 := blk_frozen BK339.out 4; have hfz26_5 := blk_frozen BK339.out 5; have hfz26_6 := blk_frozen BK339.out 6; have hfz26_7 := blk_frozen BK339.out 7; have hfz26_8 := blk_frozen BK339.out 8))
       go_roundg k2
       case measure => have := HJ1.out; have := HK2.out; omega
       case rel => exact ⟨((rd_T34 l0 x26_2).f8), (wrap64 (x26_2 + 1)), (by first | rfl | (simp; done) | (simp [*]; done)), (by first | rfl | (simp; done) | (simp [*]; done)), H', ⟨by have := HJ1.out; have := HK2.out; omega⟩, ⟨by repeat (first | (with_reducible first | exact HB.out | apply bA | apply bN | apply bD | refine below_set ?_ GE339.out) | exact HB.out)⟩⟩

end Go.Proofs.Ytdkmmddakidieaa.P
