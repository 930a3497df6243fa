-- PRINTED by print.py (a twelfth state) out of the translation. Not trusted: Lean checks it.
import Derived.Test.YtljbfmehdgfcfaaPx0
namespace Go.Proofs.Ytljbfmehdgfcfaa.P
open Go.RowKit Go.Proofs.YtljbfmehdgfcfaaW.PrintWords Go.Proofs.YtljbfmehdgfcfaaW.PrintLast Go.Proofs.YtljbfmehdgfcfaaW.PrintMore
attribute [local go_sem] max2_int min2_int max_two min_two max_three min_three max_four min_four   -- for this text's walks alone
set_option linter.unusedVariables false
set_option linter.unusedSimpArgs false

/-! ### runes_Kind: function 37 -/
mutual
def runes_Kind.j0 : Nat → Int → Bool → Option (Int)
 | 0, _, _ => none
 | k + 1, x3, x4 => if x4 = true then (some 1) else (if x3 = 160 then (runes_Kind.j1 k x3 (x3 == 160)) else (runes_Kind.j1 k x3 (x3 == 8239)))
def runes_Kind.j1 : Nat → Int → Bool → Option (Int)
 | 0, _, _ => none
 | k + 1, x3, x7 => if x7 = true then (some 2) else (if x3 = 173 then (some 3) else (if x3 = 8203 then (some 4) else (if x3 = 8288 then (runes_Kind.j2 k x3 (x3 == 8288)) else (runes_Kind.j2 k x3 (x3 == 65279)))))
def runes_Kind.j2 : Nat → Int → Bool → Option (Int)
 | 0, _, _ => none
 | k + 1, x3, x14 => if x14 = true then (some 5) else (if x3 = 45 then (runes_Kind.j3 k x3 (x3 == 45)) else (runes_Kind.j3 k x3 (x3 == 8208)))
def runes_Kind.j3 : Nat → Int → Bool → Option (Int)
 | 0, _, _ => none
 | k + 1, x3, x17 => if x17 = true then (some 6) else (if x3 = 8232 then (some 7) else (if x3 = 10 then (some 8) else (some 0)))
end
def runes_Kind.f (k : Nat) (a0 : Int) : Option (Int) := if a0 = 32 then (runes_Kind.j0 k a0 (a0 == 32)) else (runes_Kind.j0 k a0 (a0 == 9))
theorem runes_Kind.mono_l : ∀ k, (∀ y0 y1, LeO (runes_Kind.j0 k y0 y1) (runes_Kind.j0 (k + 1) y0 y1)) ∧ (∀ y0 y1, LeO (runes_Kind.j1 k y0 y1) (runes_Kind.j1 (k + 1) y0 y1)) ∧ (∀ y0 y1, LeO (runes_Kind.j2 k y0 y1) (runes_Kind.j2 (k + 1) y0 y1)) ∧ (∀ y0 y1, LeO (runes_Kind.j3 k y0 y1) (runes_Kind.j3 (k + 1) y0 y1))
 | 0 => ⟨fun _ _ r h => by simp [runes_Kind.j0] at h, fun _ _ r h => by simp [runes_Kind.j1] at h, fun _ _ r h => by simp [runes_Kind.j2] at h, fun _ _ r h => by simp [runes_Kind.j3] at h⟩
 | k + 1 => by
  obtain ⟨ih0, ih1, ih2, ih3⟩ := runes_Kind.mono_l k
  refine ⟨?_, ?_, ?_, ?_⟩
  · intro y0 y1
    unfold runes_Kind.j0
    repeat' first
    | (with_reducible exact ih0 _ _)
    | (with_reducible exact ih1 _ _)
    | (with_reducible exact ih2 _ _)
    | (with_reducible exact ih3 _ _)
    | (with_reducible exact LeO.refl _)
    | (with_reducible exact LeO.none _)
    | (with_reducible refine LeO.ite ?_ ?_)
    | (with_reducible refine LeO.bind ?_ (fun _ => ?_))
    | exact ih0 _ _
    | exact ih1 _ _
    | exact ih2 _ _
    | exact ih3 _ _
    | exact LeO.none _
    | refine LeO.ite ?_ ?_
    | refine LeO.bind ?_ (fun _ => ?_)
  · intro y0 y1
    unfold runes_Kind.j1
    repeat' first
    | (with_reducible exact ih0 _ _)
    | (with_reducible exact ih1 _ _)
    | (with_reducible exact ih2 _ _)
    | (with_reducible exact ih3 _ _)
    | (with_reducible exact LeO.refl _)
    | (with_reducible exact LeO.none _)
    | (with_reducible refine LeO.ite ?_ ?_)
    | (with_reducible refine LeO.bind ?_ (fun _ => ?_))
    | exact ih0 _ _
    | exact ih1 _ _
    | exact ih2 _ _
    | exact ih3 _ _
    | exact LeO.none _
    | refine LeO.ite ?_ ?_
    | refine LeO.bind ?_ (fun _ => ?_)
  · intro y0 y1
    unfold runes_Kind.j2
    repeat' first
    | (with_reducible exact ih0 _ _)
    | (with_reducible exact ih1 _ _)
    | (with_reducible exact ih2 _ _)
    | (with_reducible exact ih3 _ _)
    | (with_reducible exact LeO.refl _)
    | (with_reducible exact LeO.none _)
    | (with_reducible refine LeO.ite ?_ ?_)
    | (with_reducible refine LeO.bind ?_ (fun _ => ?_))
    | exact ih0 _ _
    | exact ih1 _ _
    | exact ih2 _ _
    | exact ih3 _ _
    | exact LeO.none _
    | refine LeO.ite ?_ ?_
    | refine LeO.bind ?_ (fun _ => ?_)
  · intro y0 y1
    unfold runes_Kind.j3
    repeat' first
    | (with_reducible exact ih0 _ _)
    | (with_reducible exact ih1 _ _)
    | (with_reducible exact ih2 _ _)
    | (with_reducible exact ih3 _ _)
    | (with_reducible exact LeO.refl _)
    | (with_reducible exact LeO.none _)
    | (with_reducible refine LeO.ite ?_ ?_)
    | (with_reducible refine LeO.bind ?_ (fun _ => ?_))
    | exact ih0 _ _
    | exact ih1 _ _
    | exact ih2 _ _
    | exact ih3 _ _
    | exact LeO.none _
    | refine LeO.ite ?_ ?_
    | refine LeO.bind ?_ (fun _ => ?_)
theorem runes_Kind.mono : ∀ a0 k, LeO (runes_Kind.f k a0) (runes_Kind.f (k + 1) a0) := by
 intro a0 k
 obtain ⟨ih0, ih1, ih2, ih3⟩ := runes_Kind.mono_l k
 unfold runes_Kind.f
 repeat' first
    | (with_reducible exact ih0 _ _)
    | (with_reducible exact ih1 _ _)
    | (with_reducible exact ih2 _ _)
    | (with_reducible exact ih3 _ _)
    | (with_reducible exact LeO.refl _)
    | (with_reducible exact LeO.none _)
    | (with_reducible refine LeO.ite ?_ ?_)
    | (with_reducible refine LeO.bind ?_ (fun _ => ?_))
    | exact ih0 _ _
    | exact ih1 _ _
    | exact ih2 _ _
    | exact ih3 _ _
    | exact LeO.none _
    | refine LeO.ite ?_ ?_
    | refine LeO.bind ?_ (fun _ => ?_)
theorem runes_Kind.j0.ev {x3 : Int} {x4 : Bool} {r_ : Int} (h : Ev (fun k => if x4 = true then (some 1) else (if x3 = 160 then (runes_Kind.j1 k x3 (x3 == 160)) else (runes_Kind.j1 k x3 (x3 == 8239)))) r_) : Ev (fun k => runes_Kind.j0 k x3 x4) r_ := Ev.step (fun k => by rw [runes_Kind.j0]) h
theorem runes_Kind.j1.ev {x3 : Int} {x7 : Bool} {r_ : Int} (h : Ev (fun k => if x7 = true then (some 2) else (if x3 = 173 then (some 3) else (if x3 = 8203 then (some 4) else (if x3 = 8288 then (runes_Kind.j2 k x3 (x3 == 8288)) else (runes_Kind.j2 k x3 (x3 == 65279)))))) r_) : Ev (fun k => runes_Kind.j1 k x3 x7) r_ := Ev.step (fun k => by rw [runes_Kind.j1]) h
theorem runes_Kind.j2.ev {x3 : Int} {x14 : Bool} {r_ : Int} (h : Ev (fun k => if x14 = true then (some 5) else (if x3 = 45 then (runes_Kind.j3 k x3 (x3 == 45)) else (runes_Kind.j3 k x3 (x3 == 8208)))) r_) : Ev (fun k => runes_Kind.j2 k x3 x14) r_ := Ev.step (fun k => by rw [runes_Kind.j2]) h
theorem runes_Kind.j3.ev {x3 : Int} {x17 : Bool} {r_ : Int} (h : Ev (fun k => if x17 = true then (some 6) else (if x3 = 8232 then (some 7) else (if x3 = 10 then (some 8) else (some 0)))) r_) : Ev (fun k => runes_Kind.j3 k x3 x17) r_ := Ev.step (fun k => by rw [runes_Kind.j3]) h
set_option maxHeartbeats 8000000 in
set_option maxRecDepth 100000 in
theorem runes_Kind.calls (k : Nat) (a0 : Int) (r : Int) (w : World) (h : runes_Kind.f k a0 = some r) :
  Calls Try.prog 37 #[.int .i32 a0] w fun e w' => e = .returned (.int .i64 r) ∧ Drawn0 w w' := by
 have H : (if a0 = 32 then (runes_Kind.j0 k a0 (a0 == 32)) else (runes_Kind.j0 k a0 (a0 == 9))) = some r := h
 clear h
 have HC2 := Aside0.mk H
 clear H
 go_enter Try.func37, Try.ntmps37
 go_upto_if 4 with (fail)
 go_cut [4] (fun v4 wc => ∃ (kq : Nat) (x4_1 : Bool), v4 = .bool x4_1 ∧ Aside0 (runes_Kind.j0 kq a0 x4_1 = some r) ∧ Aside0 (kq ≤ k) ∧ Drawn0 w wc)
 case first =>
  have H := HC2.out
  clear HC2
  by_cases c3 : a0 = 32
  · rw [if_pos c3] at H
    have c3b0 : (a0 == 32) = true := beq_iff_eq.mpr c3
    have c3b1 : (a0 != 32) = false := bne_eq_false_iff_eq.mpr c3
    clear c3
    (first | rw [c3b0] | (simp only [i64_w, i32_w]; rw [c3b0]) | skip)
    have H' := Aside0.mk H
    clear H
    go_wp2
    go_meet
    case rel => exact ⟨_, ((a0 == 32)), (by first | rfl | (simp; done) | (simp [*]; done)), H', ⟨by first | omega | exact Nat.le_refl _⟩, by repeat (first | exact Drawn0.refl _ | apply Drawn0.step)⟩
  · rw [if_neg c3] at H
    have c3b0 : (a0 == 32) = false := beq_eq_false_iff_ne.mpr c3
    have c3b1 : (a0 != 32) = true := bne_iff_ne.mpr c3
    (first | rw [c3b0] | (simp only [i64_w, i32_w]; rw [c3b0]) | skip)
    have H' := Aside0.mk H
    clear H
    go_wp2
    go_meet
    case rel => exact ⟨_, ((a0 == 9)), (by first | rfl | (simp; done) | (simp [*]; done)), H', ⟨by first | omega | exact Nat.le_refl _⟩, by repeat (first | exact Drawn0.refl _ | apply Drawn0.step)⟩
 case rest =>
  clear HC2
  try clear p2
  try clear c3
  try clear c3b0
  try clear c3b1
  obtain ⟨kq, x4_1, rfl, HA, HJ1, ⟨mc1, rfl⟩⟩ := hcut
  cases kq with
  | zero => exact absurd HA.out (by simp [runes_Kind.j0])
  | succ kj1 =>
    have H := HA.out
    clear HA
    simp only [runes_Kind.j0] at H
    by_cases c4 : x4_1 = true
    · subst c4
      have H1 : (some 1) = some r := by rw [if_pos rfl] at H; exact H
      clear H
      have H := H1
      clear H1
      obtain rfl := Option.some.inj H
      go_wp2
      go_ret
      exact ⟨by first | rfl | (simp; done) | (simp [*]; done), by repeat (first | exact Drawn0.refl _ | apply Drawn0.step)⟩
    · replace c4 := Bool.eq_false_iff.mpr c4
      subst c4
      have H1 : (if a0 = 160 then (runes_Kind.j1 kj1 a0 (a0 == 160)) else (runes_Kind.j1 kj1 a0 (a0 == 8239))) = some r := by rw [if_neg (show ¬ (false = true) by decide)] at H; exact H
      clear H
      have H := H1
      clear H1
      have HC5 := Aside0.mk H
      clear H
      go_upto_if 7 with (fail)
      go_cut [7] (fun v7 wc => ∃ (kq : Nat) (x7_4 : Bool), v7 = .bool x7_4 ∧ Aside0 (runes_Kind.j1 kq a0 x7_4 = some r) ∧ Aside0 (kq ≤ kj1) ∧ Drawn0 w wc)
      case first =>
       have H := HC5.out
       clear HC5
       by_cases c6 : a0 = 160
       · rw [if_pos c6] at H
         have c6b0 : (a0 == 160) = true := beq_iff_eq.mpr c6
         have c6b1 : (a0 != 160) = false := bne_eq_false_iff_eq.mpr c6
         clear c6
         (first | rw [c6b0] | (simp only [i64_w, i32_w]; rw [c6b0]) | skip)
         have H' := Aside0.mk H
         clear H
         go_wp2
         go_meet
         case rel => exact ⟨_, ((a0 == 160)), (by first | rfl | (simp; done) | (simp [*]; done)), H', ⟨by have := HJ1.out; first | omega | exact Nat.le_refl _⟩, by repeat (first | exact Drawn0.refl _ | apply Drawn0.step)⟩
       · rw [if_neg c6] at H
         have c6b0 : (a0 == 160) = false := beq_eq_false_iff_ne.mpr c6
         have c6b1 : (a0 != 160) = true := bne_iff_ne.mpr c6
         (first | rw [c6b0] | (simp only [i64_w, i32_w]; rw [c6b0]) | skip)
         have H' := Aside0.mk H
         clear H
         go_wp2
         go_meet
         case rel => exact ⟨_, ((a0 == 8239)), (by first | rfl | (simp; done) | (simp [*]; done)), H', ⟨by have := HJ1.out; first | omega | exact Nat.le_refl _⟩, by repeat (first | exact Drawn0.refl _ | apply Drawn0.step)⟩
      case rest =>
       clear HC5
       try clear c1
       try clear p2
       try clear c3
       try clear c3b0
       try clear c3b1
       try clear c4
       try clear c6
       try clear c6b0
       try clear c6b1
       try clear p2
       obtain ⟨kq, x7_4, rfl, HA, HJ4, ⟨mc4, rfl⟩⟩ := hcut
       cases kq with
       | zero => exact absurd HA.out (by simp [runes_Kind.j1])
       | succ kj4 =>
         have H := HA.out
         clear HA
         simp only [runes_Kind.j1] at H
         by_cases c7 : x7_4 = true
         · subst c7
           have H1 : (some 2) = some r := by rw [if_pos rfl] at H; exact H
           clear H
           have H := H1
           clear H1
           obtain rfl := Option.some.inj H
           go_wp2
           go_ret
           exact ⟨by first | rfl | (simp; done) | (simp [*]; done), by repeat (first | exact Drawn0.refl _ | apply Drawn0.step)⟩
         · replace c7 := Bool.eq_false_iff.mpr c7
           subst c7
           have H1 : (if a0 = 173 then (some 3) else (if a0 = 8203 then (some 4) else (if a0 = 8288 then (runes_Kind.j2 kj4 a0 (a0 == 8288)) else (runes_Kind.j2 kj4 a0 (a0 == 65279))))) = some r := by rw [if_neg (show ¬ (false = true) by decide)] at H; exact H
           clear H
           have H := H1
           clear H1
           by_cases c8 : a0 = 173
           · rw [if_pos c8] at H
             have c8b0 : (a0 == 173) = true := beq_iff_eq.mpr c8
             have c8b1 : (a0 != 173) = false := bne_eq_false_iff_eq.mpr c8
             clear c8
             obtain rfl := Option.some.inj H
             go_wp2
             go_ret
             exact ⟨by first | rfl | (simp; done) | (simp [*]; done), by repeat (first | exact Drawn0.refl _ | apply Drawn0.step)⟩
           · rw [if_neg c8] at H
             have c8b0 : (a0 == 173) = false := beq_eq_false_iff_ne.mpr c8
             have c8b1 : (a0 != 173) = true := bne_iff_ne.mpr c8
             by_cases c9 : a0 = 8203
             · rw [if_pos c9] at H
               have c9b0 : (a0 == 8203) = true := beq_iff_eq.mpr c9
               have c9b1 : (a0 != 8203) = false := bne_eq_false_iff_eq.mpr c9
               clear c9
               obtain rfl := Option.some.inj H
               go_wp2
               go_ret
               exact ⟨by first | rfl | (simp; done) | (simp [*]; done), by repeat (first | exact Drawn0.refl _ | apply Drawn0.step)⟩
             · rw [if_neg c9] at H
               have c9b0 : (a0 == 8203) = false := beq_eq_false_iff_ne.mpr c9
               have c9b1 : (a0 != 8203) = true := bne_iff_ne.mpr c9
               have HC10 := Aside0.mk H
               clear H
               go_upto_if 14 with (fail)
               go_cut [14] (fun v14 wc => ∃ (kq : Nat) (x14_9 : Bool), v14 = .bool x14_9 ∧ Aside0 (runes_Kind.j2 kq a0 x14_9 = some r) ∧ Aside0 (kq ≤ kj4) ∧ Drawn0 w wc)
               case first =>
                have H := HC10.out
                clear HC10
                by_cases c11 : a0 = 8288
                · rw [if_pos c11] at H
                  have c11b0 : (a0 == 8288) = true := beq_iff_eq.mpr c11
                  have c11b1 : (a0 != 8288) = false := bne_eq_false_iff_eq.mpr c11
                  clear c11
                  (first | rw [c11b0] | (simp only [i64_w, i32_w]; rw [c11b0]) | skip)
                  have H' := Aside0.mk H
                  clear H
                  go_wp2
                  go_meet
                  case rel => exact ⟨_, ((a0 == 8288)), (by first | rfl | (simp; done) | (simp [*]; done)), H', ⟨by have := HJ1.out; have := HJ4.out; first | omega | exact Nat.le_refl _⟩, by repeat (first | exact Drawn0.refl _ | apply Drawn0.step)⟩
                · rw [if_neg c11] at H
                  have c11b0 : (a0 == 8288) = false := beq_eq_false_iff_ne.mpr c11
                  have c11b1 : (a0 != 8288) = true := bne_iff_ne.mpr c11
                  (first | rw [c11b0] | (simp only [i64_w, i32_w]; rw [c11b0]) | skip)
                  have H' := Aside0.mk H
                  clear H
                  go_wp2
                  go_meet
                  case rel => exact ⟨_, ((a0 == 65279)), (by first | rfl | (simp; done) | (simp [*]; done)), H', ⟨by have := HJ1.out; have := HJ4.out; first | omega | exact Nat.le_refl _⟩, by repeat (first | exact Drawn0.refl _ | apply Drawn0.step)⟩
               case rest =>
                clear HC10
                try clear c1
                try clear p2
                try clear c3
                try clear c3b0
                try clear c3b1
                try clear c4
                try clear c6
                try clear c6b0
                try clear c6b1
                try clear c7
                try clear c8
                try clear c8b0
                try clear c8b1
                try clear c9
                try clear c9b0
                try clear c9b1
                try clear c11
                try clear c11b0
                try clear c11b1
                try clear p2
                obtain ⟨kq, x14_9, rfl, HA, HJ9, ⟨mc9, rfl⟩⟩ := hcut
                cases kq with
                | zero => exact absurd HA.out (by simp [runes_Kind.j2])
                | succ kj9 =>
                  have H := HA.out
                  clear HA
                  simp only [runes_Kind.j2] at H
                  by_cases c12 : x14_9 = true
                  · subst c12
                    have H1 : (some 5) = some r := by rw [if_pos rfl] at H; exact H
                    clear H
                    have H := H1
                    clear H1
                    obtain rfl := Option.some.inj H
                    go_wp2
                    go_ret
                    exact ⟨by first | rfl | (simp; done) | (simp [*]; done), by repeat (first | exact Drawn0.refl _ | apply Drawn0.step)⟩
                  · replace c12 := Bool.eq_false_iff.mpr c12
                    subst c12
                    have H1 : (if a0 = 45 then (runes_Kind.j3 kj9 a0 (a0 == 45)) else (runes_Kind.j3 kj9 a0 (a0 == 8208))) = some r := by rw [if_neg (show ¬ (false = true) by decide)] at H; exact H
                    clear H
                    have H := H1
                    clear H1
                    have HC13 := Aside0.mk H
                    clear H
                    go_upto_if 17 with (fail)
                    go_cut [17] (fun v17 wc => ∃ (kq : Nat) (x17_12 : Bool), v17 = .bool x17_12 ∧ Aside0 (runes_Kind.j3 kq a0 x17_12 = some r) ∧ Aside0 (kq ≤ kj9) ∧ Drawn0 w wc)
                    case first =>
                     have H := HC13.out
                     clear HC13
                     by_cases c14 : a0 = 45
                     · rw [if_pos c14] at H
                       have c14b0 : (a0 == 45) = true := beq_iff_eq.mpr c14
                       have c14b1 : (a0 != 45) = false := bne_eq_false_iff_eq.mpr c14
                       clear c14
                       (first | rw [c14b0] | (simp only [i64_w, i32_w]; rw [c14b0]) | skip)
                       have H' := Aside0.mk H
                       clear H
                       go_wp2
                       go_meet
                       case rel => exact ⟨_, ((a0 == 45)), (by first | rfl | (simp; done) | (simp [*]; done)), H', ⟨by have := HJ1.out; have := HJ4.out; have := HJ9.out; first | omega | exact Nat.le_refl _⟩, by repeat (first | exact Drawn0.refl _ | apply Drawn0.step)⟩
                     · rw [if_neg c14] at H
                       have c14b0 : (a0 == 45) = false := beq_eq_false_iff_ne.mpr c14
                       have c14b1 : (a0 != 45) = true := bne_iff_ne.mpr c14
                       (first | rw [c14b0] | (simp only [i64_w, i32_w]; rw [c14b0]) | skip)
                       have H' := Aside0.mk H
                       clear H
                       go_wp2
                       go_meet
                       case rel => exact ⟨_, ((a0 == 8208)), (by first | rfl | (simp; done) | (simp [*]; done)), H', ⟨by have := HJ1.out; have := HJ4.out; have := HJ9.out; first | omega | exact Nat.le_refl _⟩, by repeat (first | exact Drawn0.refl _ | apply Drawn0.step)⟩
                    case rest =>
                     clear HC13
                     try clear c1
                     try clear p2
                     try clear c3
                     try clear c3b0
                     try clear c3b1
                     try clear c4
                     try clear c6
                     try clear c6b0
                     try clear c6b1
                     try clear c7
                     try clear c8
                     try clear c8b0
                     try clear c8b1
                     try clear c9
                     try clear c9b0
                     try clear c9b1
                     try clear c11
                     try clear c11b0
                     try clear c11b1
                     try clear c12
                     try clear c14
                     try clear c14b0
                     try clear c14b1
                     try clear p2
                     obtain ⟨kq, x17_12, rfl, HA, HJ12, ⟨mc12, rfl⟩⟩ := hcut
                     cases kq with
                     | zero => exact absurd HA.out (by simp [runes_Kind.j3])
                     | succ kj12 =>
                       have H := HA.out
                       clear HA
                       simp only [runes_Kind.j3] at H
                       by_cases c15 : x17_12 = true
                       · subst c15
                         have H1 : (some 6) = some r := by rw [if_pos rfl] at H; exact H
                         clear H
                         have H := H1
                         clear H1
                         obtain rfl := Option.some.inj H
                         go_wp2
                         go_ret
                         exact ⟨by first | rfl | (simp; done) | (simp [*]; done), by repeat (first | exact Drawn0.refl _ | apply Drawn0.step)⟩
                       · replace c15 := Bool.eq_false_iff.mpr c15
                         subst c15
                         have H1 : (if a0 = 8232 then (some 7) else (if a0 = 10 then (some 8) else (some 0))) = some r := by rw [if_neg (show ¬ (false = true) by decide)] at H; exact H
                         clear H
                         have H := H1
                         clear H1
                         by_cases c16 : a0 = 8232
                         · rw [if_pos c16] at H
                           have c16b0 : (a0 == 8232) = true := beq_iff_eq.mpr c16
                           have c16b1 : (a0 != 8232) = false := bne_eq_false_iff_eq.mpr c16
                           clear c16
                           obtain rfl := Option.some.inj H
                           go_wp2
                           go_ret
                           exact ⟨by first | rfl | (simp; done) | (simp [*]; done), by repeat (first | exact Drawn0.refl _ | apply Drawn0.step)⟩
                         · rw [if_neg c16] at H
                           have c16b0 : (a0 == 8232) = false := beq_eq_false_iff_ne.mpr c16
                           have c16b1 : (a0 != 8232) = true := bne_iff_ne.mpr c16
                           by_cases c17 : a0 = 10
                           · rw [if_pos c17] at H
                             have c17b0 : (a0 == 10) = true := beq_iff_eq.mpr c17
                             have c17b1 : (a0 != 10) = false := bne_eq_false_iff_eq.mpr c17
                             clear c17
                             obtain rfl := Option.some.inj H
                             go_wp2
                             go_ret
                             exact ⟨by first | rfl | (simp; done) | (simp [*]; done), by repeat (first | exact Drawn0.refl _ | apply Drawn0.step)⟩
                           · rw [if_neg c17] at H
                             have c17b0 : (a0 == 10) = false := beq_eq_false_iff_ne.mpr c17
                             have c17b1 : (a0 != 10) = true := bne_iff_ne.mpr c17
                             obtain rfl := Option.some.inj H
                             go_wp2
                             go_ret
                             exact ⟨by first | rfl | (simp; done) | (simp [*]; done), by repeat (first | exact Drawn0.refl _ | apply Drawn0.step)⟩

end Go.Proofs.Ytljbfmehdgfcfaa.P
