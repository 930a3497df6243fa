-- PRINTED by print.py (a twelfth state) out of the translation. Not trusted: Lean checks it.
import Derived.Test.YtdkmmddakidieaaPx0
namespace Go.Proofs.Ytdkmmddakidieaa.P
open Go.RowKit Go.Proofs.YtdkmmddakidieaaW.PrintWords Go.Proofs.YtdkmmddakidieaaW.PrintLast Go.Proofs.YtdkmmddakidieaaW.PrintMore
attribute [local go_sem] max2_int min2_int max_two min_two max_three min_three max_four min_four   -- for this text's walks alone
set_option linter.unusedVariables false
set_option linter.unusedSimpArgs false

/-! ### regletref07_Legal: function 46 -/
def regletref07_Legal.j0 : Nat → List (S34) → Int → Bool → Option (Bool)
 | 0, _, _, _ => none
 | k + 1, x0, x1, x12 => if x12 = true then (some false) else (if 0 ≤ x1 then (if x1 < (x0.length : Int) then (if ((rd_T34 x0 x1).f0) = 3 then (some (decide (((rd_T34 x0 x1).f5) < 10000))) else (if ((rd_T34 x0 x1).f0) = 2 then (if ((rd_T34 x0 x1).f4 = true) then (some false) else (if x1 > 0 then (if 0 ≤ (wrap64 (x1 - 1)) then (if (wrap64 (x1 - 1)) < (x0.length : Int) then (some (((rd_T34 x0 (wrap64 (x1 - 1))).f0) == 1)) else (none)) else (none)) else (some false))) else (some false))) else (none)) else (none))
def regletref07_Legal.f (k : Nat) (l0 : List (S34)) (a1 : Int) : Option (Bool) := if a1 < 0 then (regletref07_Legal.j0 k l0 a1 true) else (regletref07_Legal.j0 k l0 a1 (decide (a1 ≥ (l0.length : Int))))
theorem regletref07_Legal.mono_l : ∀ k, (∀ y0 y1 y2, LeO (regletref07_Legal.j0 k y0 y1 y2) (regletref07_Legal.j0 (k + 1) y0 y1 y2))
 | 0 => fun _ _ _ r h => by simp [regletref07_Legal.j0] at h
 | k + 1 => by
  have ih0 := regletref07_Legal.mono_l k
  · intro y0 y1 y2
    unfold regletref07_Legal.j0
    repeat' first
    | (with_reducible exact ih0 _ _ _)
    | (with_reducible exact LeO.refl _)
    | (with_reducible exact LeO.none _)
    | (with_reducible refine LeO.ite ?_ ?_)
    | (with_reducible refine LeO.bind ?_ (fun _ => ?_))
    | exact ih0 _ _ _
    | exact LeO.none _
    | refine LeO.ite ?_ ?_
    | refine LeO.bind ?_ (fun _ => ?_)
theorem regletref07_Legal.mono : ∀ a0 a1 k, LeO (regletref07_Legal.f k a0 a1) (regletref07_Legal.f (k + 1) a0 a1) := by
 intro a0 a1 k
 have ih0 := regletref07_Legal.mono_l k
 unfold regletref07_Legal.f
 repeat' first
    | (with_reducible exact ih0 _ _ _)
    | (with_reducible exact LeO.refl _)
    | (with_reducible exact LeO.none _)
    | (with_reducible refine LeO.ite ?_ ?_)
    | (with_reducible refine LeO.bind ?_ (fun _ => ?_))
    | exact ih0 _ _ _
    | exact LeO.none _
    | refine LeO.ite ?_ ?_
    | refine LeO.bind ?_ (fun _ => ?_)
theorem regletref07_Legal.j0.ev {x0 : List (S34)} {x1 : Int} {x12 : Bool} {r_ : Bool} (h : Ev (fun k => if x12 = true then (some false) else (if 0 ≤ x1 then (if x1 < (x0.length : Int) then (if ((rd_T34 x0 x1).f0) = 3 then (some (decide (((rd_T34 x0 x1).f5) < 10000))) else (if ((rd_T34 x0 x1).f0) = 2 then (if ((rd_T34 x0 x1).f4 = true) then (some false) else (if x1 > 0 then (if 0 ≤ (wrap64 (x1 - 1)) then (if (wrap64 (x1 - 1)) < (x0.length : Int) then (some (((rd_T34 x0 (wrap64 (x1 - 1))).f0) == 1)) else (none)) else (none)) else (some false))) else (some false))) else (none)) else (none))) r_) : Ev (fun k => regletref07_Legal.j0 k x0 x1 x12) r_ := Ev.step (fun k => by rw [regletref07_Legal.j0]) h
set_option maxHeartbeats 8000000 in
set_option maxRecDepth 100000 in
theorem regletref07_Legal.calls (k : Nat) (A0 : Option Addr) (c0 : Nat) (l0 : List (S34)) (a1 : Int) (r : Bool) (w : World) (hr0 : Kd.C k34 w A0 l0.length l0) (hc0 : l0.length ≤ c0) (h : regletref07_Legal.f k l0 a1 = some r) :
  Calls Try.prog 46 #[.slice A0 l0.length c0, .int .i64 a1] w fun e w' => e = .returned (.bool r) ∧ Drawn0 w w' := by
 have HR0 := Aside0.mk hr0
 have HC0 := Aside0.mk hc0
 clear hr0 hc0
 have H : (if a1 < 0 then (regletref07_Legal.j0 k l0 a1 true) else (regletref07_Legal.j0 k l0 a1 (decide (a1 ≥ (l0.length : Int))))) = some r := h
 clear h
 have HC3 := Aside0.mk H
 clear H
 go_enter Try.func46, Try.ntmps46
 go_upto_region 1 with (fail)
 go_cut [12] (fun v12 wc => ∃ (kq : Nat) (x12_2 : Bool), v12 = .bool x12_2 ∧ Aside0 (regletref07_Legal.j0 kq l0 a1 x12_2 = some r) ∧ Aside0 (kq ≤ k) ∧ Drawn0 w wc)
 case first =>
  have H := HC3.out; clear HC3; by_cases c4 : a1 < 0
  · rw [if_pos c4] at H
    have c4b0 : decide (a1 < 0) = true := decide_eq_true c4
    clear c4
    (first | rw [c4b0] | (simp only [i64_w, i32_w]; rw [c4b0]) | skip)
    have H' := Aside0.mk H; clear H; go_wp2
    go_meet
    case rel => exact ⟨_, (true), (by first | rfl | (simp; done) | (simp [*]; done)), H', ⟨by first | omega | exact Nat.le_refl _⟩, by repeat (first | exact Drawn0.refl _ | apply Drawn0.step)⟩
  rw [if_neg c4] at H
  have c4b0 : decide (a1 < 0) = false := decide_eq_false c4
  clear c4
  (first | rw [c4b0] | (simp only [i64_w, i32_w]; rw [c4b0]) | skip)
  have H' := Aside0.mk H; clear H; go_wp2
  go_meet
  case rel => exact ⟨_, (decide (a1 ≥ (l0.length : Int))), (by first | rfl | (simp; done) | (simp [*]; done)), H', ⟨by first | omega | exact Nat.le_refl _⟩, by repeat (first | exact Drawn0.refl _ | apply Drawn0.step)⟩
 case rest =>
  clear HC3
  try clear p2
  try clear c4
  try clear c4b0
  obtain ⟨kq, x12_2, rfl, HA, HJ2, ⟨mc2, rfl⟩⟩ := hcut
  cases kq with
  | zero => exact absurd HA.out (by simp [regletref07_Legal.j0])
  | succ kj2 =>
    have H := HA.out; clear HA; simp only [regletref07_Legal.j0] at H
    by_cases c5 : x12_2 = true
    · subst c5
      have H1 : (some false) = some r := by rw [if_pos rfl] at H; exact H
      clear H; have H := H1; clear H1; obtain rfl := Option.some.inj H
      go_wp2
      go_ret
      exact ⟨by first | rfl | (simp; done) | (simp [*]; done), by repeat (first | exact Drawn0.refl _ | apply Drawn0.step)⟩
    replace c5 := Bool.eq_false_iff.mpr c5
    subst c5
    have H1 : (if 0 ≤ a1 then (if a1 < (l0.length : Int) then (if ((rd_T34 l0 a1).f0) = 3 then (some (decide (((rd_T34 l0 a1).f5) < 10000))) else (if ((rd_T34 l0 a1).f0) = 2 then (if ((rd_T34 l0 a1).f4 = true) then (some false) else (if a1 > 0 then (if 0 ≤ (wrap64 (a1 - 1)) then (if (wrap64 (a1 - 1)) < (l0.length : Int) then (some (((rd_T34 l0 (wrap64 (a1 - 1))).f0) == 1)) else (none)) else (none)) else (some false))) else (some false))) else (none)) else (none)) = some r := by rw [if_neg (show ¬ (false = true) by decide)] at H; exact H
    clear H; have H := H1; clear H1; by_cases c6 : 0 ≤ a1
    case neg =>
      rw [if_neg c6] at H
      exact absurd H (by simp)
    rw [if_pos c6] at H
    have c6b0 : decide (0 ≤ a1) = true := decide_eq_true c6
    clear c6; by_cases c7 : a1 < (l0.length : Int)
    case neg =>
      rw [if_neg c7] at H
      exact absurd H (by simp)
    rw [if_pos c7] at H
    have c7b0 : decide (a1 < (l0.length : Int)) = true := decide_eq_true c7
    clear c7; by_cases c8 : ((rd_T34 l0 a1).f0) = 3
    · rw [if_pos c8] at H
      have c8b0 : (((rd_T34 l0 a1).f0) == 3) = true := beq_iff_eq.mpr c8
      have c8b1 : (((rd_T34 l0 a1).f0) != 3) = false := bne_eq_false_iff_eq.mpr c8
      clear c8; obtain rfl := Option.some.inj H
      have p372 : 0 ≤ (a1 : Int) := of_decide_eq_true (by first | (with_reducible assumption) | assumption)
      have q372 : a1 < (l0.length : Int) := of_decide_eq_true (by first | (with_reducible assumption) | assumption)
      obtain ⟨ad372, e372, hx372_0, hx372_1, hx372_2, hx372_3, hx372_4, hx372_5, hx372_6, hx372_7, hx372_8⟩ := at_T34 HR0.out a1 p372 q372; cases e372; replace p372 := eq_true p372; replace q372 := eq_true q372; have p373 : 0 ≤ (a1 : Int) := of_decide_eq_true (by first | (with_reducible assumption) | assumption)
      have q373 : a1 < (l0.length : Int) := of_decide_eq_true (by first | (with_reducible assumption) | assumption)
      obtain ⟨ad373, e373, hx373_0, hx373_1, hx373_2, hx373_3, hx373_4, hx373_5, hx373_6, hx373_7, hx373_8⟩ := at_T34 HR0.out a1 p373 q373; obtain rfl : ad372 = ad373 := (by injection e373)
      replace p373 := eq_true p373; replace q373 := eq_true q373; go_wp2
      go_ret
      exact ⟨by first | rfl | (simp; done) | (simp [*]; done), by repeat (first | exact Drawn0.refl _ | apply Drawn0.step)⟩
    rw [if_neg c8] at H
    have c8b0 : (((rd_T34 l0 a1).f0) == 3) = false := beq_eq_false_iff_ne.mpr c8
    have c8b1 : (((rd_T34 l0 a1).f0) != 3) = true := bne_iff_ne.mpr c8
    by_cases c9 : ((rd_T34 l0 a1).f0) = 2
    case neg =>
      rw [if_neg c9] at H
      have c9b0 : (((rd_T34 l0 a1).f0) == 2) = false := beq_eq_false_iff_ne.mpr c9
      have c9b1 : (((rd_T34 l0 a1).f0) != 2) = true := bne_iff_ne.mpr c9
      obtain rfl := Option.some.inj H
      have p372 : 0 ≤ (a1 : Int) := of_decide_eq_true (by first | (with_reducible assumption) | assumption)
      have q372 : a1 < (l0.length : Int) := of_decide_eq_true (by first | (with_reducible assumption) | assumption)
      obtain ⟨ad372, e372, hx372_0, hx372_1, hx372_2, hx372_3, hx372_4, hx372_5, hx372_6, hx372_7, hx372_8⟩ := at_T34 HR0.out a1 p372 q372; cases e372; replace p372 := eq_true p372; replace q372 := eq_true q372; have p374 : 0 ≤ (a1 : Int) := of_decide_eq_true (by first | (with_reducible assumption) | assumption)
      have q374 : a1 < (l0.length : Int) := of_decide_eq_true (by first | (with_reducible assumption) | assumption)
      obtain ⟨ad374, e374, hx374_0, hx374_1, hx374_2, hx374_3, hx374_4, hx374_5, hx374_6, hx374_7, hx374_8⟩ := at_T34 HR0.out a1 p374 q374; obtain rfl : ad372 = ad374 := (by injection e374)
      replace p374 := eq_true p374; replace q374 := eq_true q374; go_wp2
      go_ret
      exact ⟨by first | rfl | (simp; done) | (simp [*]; done), by repeat (first | exact Drawn0.refl _ | apply Drawn0.step)⟩
    rw [if_pos c9] at H
    have c9b0 : (((rd_T34 l0 a1).f0) == 2) = true := beq_iff_eq.mpr c9
    have c9b1 : (((rd_T34 l0 a1).f0) != 2) = false := bne_eq_false_iff_eq.mpr c9
    clear c9; obtain ⟨bq10, hbq10⟩ : ∃ b_ : Bool, b_ = ((rd_T34 l0 a1).f4) := ⟨_, rfl⟩
    replace H : (if (bq10 = true) then (some false) else (if a1 > 0 then (if 0 ≤ (wrap64 (a1 - 1)) then (if (wrap64 (a1 - 1)) < (l0.length : Int) then (some (((rd_T34 l0 (wrap64 (a1 - 1))).f0) == 1)) else (none)) else (none)) else (some false))) = some r := by rw [← hbq10] at H; exact H
    have Nbq10 := Aside0.mk hbq10; clear hbq10; by_cases c11 : (bq10 = true)
    · subst c11
      have H1 : (some false) = some r := by rw [if_pos rfl] at H; exact H
      clear H; have H := H1; clear H1; obtain rfl := Option.some.inj H
      have p372 : 0 ≤ (a1 : Int) := of_decide_eq_true (by first | (with_reducible assumption) | assumption)
      have q372 : a1 < (l0.length : Int) := of_decide_eq_true (by first | (with_reducible assumption) | assumption)
      obtain ⟨ad372, e372, hx372_0, hx372_1, hx372_2, hx372_3, hx372_4, hx372_5, hx372_6, hx372_7, hx372_8⟩ := at_T34 HR0.out a1 p372 q372
      (try rw [← Nbq10.out] at hx372_4)
      (try rw [← Nbq10.out] at hx372_6)
      cases e372; replace p372 := eq_true p372; replace q372 := eq_true q372; have p374 : 0 ≤ (a1 : Int) := of_decide_eq_true (by first | (with_reducible assumption) | assumption)
      have q374 : a1 < (l0.length : Int) := of_decide_eq_true (by first | (with_reducible assumption) | assumption)
      obtain ⟨ad374, e374, hx374_0, hx374_1, hx374_2, hx374_3, hx374_4, hx374_5, hx374_6, hx374_7, hx374_8⟩ := at_T34 HR0.out a1 p374 q374
      (try rw [← Nbq10.out] at hx374_4)
      (try rw [← Nbq10.out] at hx374_6)
      obtain rfl : ad372 = ad374 := (by injection e374)
      replace p374 := eq_true p374; replace q374 := eq_true q374; have p375 : 0 ≤ (a1 : Int) := of_decide_eq_true (by first | (with_reducible assumption) | assumption)
      have q375 : a1 < (l0.length : Int) := of_decide_eq_true (by first | (with_reducible assumption) | assumption)
      obtain ⟨ad375, e375, hx375_0, hx375_1, hx375_2, hx375_3, hx375_4, hx375_5, hx375_6, hx375_7, hx375_8⟩ := at_T34 HR0.out a1 p375 q375
      (try rw [← Nbq10.out] at hx375_4)
      (try rw [← Nbq10.out] at hx375_6)
      obtain rfl : ad372 = ad375 := (by injection e375)
      replace p375 := eq_true p375; replace q375 := eq_true q375; go_wp2
      go_ret
      exact ⟨by first | rfl | (simp; done) | (simp [*]; done), by repeat (first | exact Drawn0.refl _ | apply Drawn0.step)⟩
    replace c11 := Bool.eq_false_iff.mpr c11
    subst c11
    have H1 : (if a1 > 0 then (if 0 ≤ (wrap64 (a1 - 1)) then (if (wrap64 (a1 - 1)) < (l0.length : Int) then (some (((rd_T34 l0 (wrap64 (a1 - 1))).f0) == 1)) else (none)) else (none)) else (some false)) = some r := by rw [if_neg (show ¬ (false = true) by decide)] at H; exact H
    clear H; have H := H1; clear H1; by_cases c12 : a1 > 0
    case neg =>
      rw [if_neg c12] at H
      have c12b0 : decide (0 < a1) = false := decide_eq_false c12
      clear c12; obtain rfl := Option.some.inj H
      have p372 : 0 ≤ (a1 : Int) := of_decide_eq_true (by first | (with_reducible assumption) | assumption)
      have q372 : a1 < (l0.length : Int) := of_decide_eq_true (by first | (with_reducible assumption) | assumption)
      obtain ⟨ad372, e372, hx372_0, hx372_1, hx372_2, hx372_3, hx372_4, hx372_5, hx372_6, hx372_7, hx372_8⟩ := at_T34 HR0.out a1 p372 q372
      (try rw [← Nbq10.out] at hx372_4)
      (try rw [← Nbq10.out] at hx372_6)
      cases e372; replace p372 := eq_true p372; replace q372 := eq_true q372; have p374 : 0 ≤ (a1 : Int) := of_decide_eq_true (by first | (with_reducible assumption) | assumption)
      have q374 : a1 < (l0.length : Int) := of_decide_eq_true (by first | (with_reducible assumption) | assumption)
      obtain ⟨ad374, e374, hx374_0, hx374_1, hx374_2, hx374_3, hx374_4, hx374_5, hx374_6, hx374_7, hx374_8⟩ := at_T34 HR0.out a1 p374 q374
      (try rw [← Nbq10.out] at hx374_4)
      (try rw [← Nbq10.out] at hx374_6)
      obtain rfl : ad372 = ad374 := (by injection e374)
      replace p374 := eq_true p374; replace q374 := eq_true q374; have p375 : 0 ≤ (a1 : Int) := of_decide_eq_true (by first | (with_reducible assumption) | assumption)
      have q375 : a1 < (l0.length : Int) := of_decide_eq_true (by first | (with_reducible assumption) | assumption)
      obtain ⟨ad375, e375, hx375_0, hx375_1, hx375_2, hx375_3, hx375_4, hx375_5, hx375_6, hx375_7, hx375_8⟩ := at_T34 HR0.out a1 p375 q375
      (try rw [← Nbq10.out] at hx375_4)
      (try rw [← Nbq10.out] at hx375_6)
      obtain rfl : ad372 = ad375 := (by injection e375)
      replace p375 := eq_true p375; replace q375 := eq_true q375; go_wp2
      go_ret
      exact ⟨by first | rfl | (simp; done) | (simp [*]; done), by repeat (first | exact Drawn0.refl _ | apply Drawn0.step)⟩
    rw [if_pos c12] at H
    have c12b0 : decide (0 < a1) = true := decide_eq_true c12
    clear c12; obtain ⟨ji13, hji13⟩ : ∃ j_ : Int, (wrap64 (a1 - 1)) = j_ := ⟨_, rfl⟩
    replace H : (if 0 ≤ (ji13) then (if (ji13) < (l0.length : Int) then (some (((rd_T34 l0 (ji13)).f0) == 1)) else (none)) else (none)) = some r := by first | (rw [hji13] at H; exact H) | (simp only [hji13] at H ⊢; exact H)
    have hji13w : (IntKind.i64.wrap (a1 - 1)) = ji13 := (i64_w _).trans hji13
    by_cases c14 : 0 ≤ (ji13)
    case neg =>
      rw [if_neg c14] at H
      exact absurd H (by simp)
    rw [if_pos c14] at H
    have c14b0 : decide (0 ≤ (ji13)) = true := decide_eq_true c14
    clear c14; by_cases c15 : (ji13) < (l0.length : Int)
    case neg =>
      rw [if_neg c15] at H
      exact absurd H (by simp)
    rw [if_pos c15] at H
    have c15b0 : decide ((ji13) < (l0.length : Int)) = true := decide_eq_true c15
    clear c15; obtain rfl := Option.some.inj H
    have p372 : 0 ≤ (a1 : Int) := of_decide_eq_true (by first | (with_reducible assumption) | assumption)
    have q372 : a1 < (l0.length : Int) := of_decide_eq_true (by first | (with_reducible assumption) | assumption)
    obtain ⟨ad372, e372, hx372_0, hx372_1, hx372_2, hx372_3, hx372_4, hx372_5, hx372_6, hx372_7, hx372_8⟩ := at_T34 HR0.out a1 p372 q372
    (try rw [← Nbq10.out] at hx372_4)
    (try rw [← Nbq10.out] at hx372_6)
    cases e372; replace p372 := eq_true p372; replace q372 := eq_true q372; have p374 : 0 ≤ (a1 : Int) := of_decide_eq_true (by first | (with_reducible assumption) | assumption)
    have q374 : a1 < (l0.length : Int) := of_decide_eq_true (by first | (with_reducible assumption) | assumption)
    obtain ⟨ad374, e374, hx374_0, hx374_1, hx374_2, hx374_3, hx374_4, hx374_5, hx374_6, hx374_7, hx374_8⟩ := at_T34 HR0.out a1 p374 q374
    (try rw [← Nbq10.out] at hx374_4)
    (try rw [← Nbq10.out] at hx374_6)
    obtain rfl : ad372 = ad374 := (by injection e374)
    replace p374 := eq_true p374; replace q374 := eq_true q374; have p375 : 0 ≤ (a1 : Int) := of_decide_eq_true (by first | (with_reducible assumption) | assumption)
    have q375 : a1 < (l0.length : Int) := of_decide_eq_true (by first | (with_reducible assumption) | assumption)
    obtain ⟨ad375, e375, hx375_0, hx375_1, hx375_2, hx375_3, hx375_4, hx375_5, hx375_6, hx375_7, hx375_8⟩ := at_T34 HR0.out a1 p375 q375
    (try rw [← Nbq10.out] at hx375_4)
    (try rw [← Nbq10.out] at hx375_6)
    obtain rfl : ad372 = ad375 := (by injection e375)
    replace p375 := eq_true p375; replace q375 := eq_true q375; have p376 : 0 ≤ ((ji13) : Int) := of_decide_eq_true (by first | (with_reducible assumption) | assumption)
    have q376 : (ji13) < (l0.length : Int) := of_decide_eq_true (by first | (with_reducible assumption) | assumption)
    obtain ⟨ad376, e376, hx376_0, hx376_1, hx376_2, hx376_3, hx376_4, hx376_5, hx376_6, hx376_7, hx376_8⟩ := at_T34 HR0.out (ji13) p376 q376
    (try rw [← Nbq10.out] at hx376_4)
    (try rw [← Nbq10.out] at hx376_6)
    obtain rfl : ad372 = ad376 := (by injection e376)
    replace p376 := eq_true p376; replace q376 := eq_true q376; go_wp2
    go_ret
    exact ⟨by first | rfl | (simp; done) | (simp only [← hji13] <;> (first | rfl | simp)) | (simp [*]; done), by repeat (first | exact Drawn0.refl _ | apply Drawn0.step)⟩

end Go.Proofs.Ytdkmmddakidieaa.P
