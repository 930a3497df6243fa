-- PRINTED by print.py (a twelfth state) out of the translation. Not trusted: Lean checks it.
import Derived.Test.YtljbfmehdgfcfaaPx0
namespace Go.Proofs.Ytljbfmehdgfcfaa.P
open Go.RowKit Go.Proofs.YtljbfmehdgfcfaaW.PrintWords Go.Proofs.YtljbfmehdgfcfaaW.PrintLast Go.Proofs.YtljbfmehdgfcfaaW.PrintMore
attribute [local go_sem] max2_int min2_int max_two min_two max_three min_three max_four min_four   -- for this text's walks alone
set_option linter.unusedVariables false
set_option linter.unusedSimpArgs false

/-! ### regletref02_value: function 47 -/
def regletref02_value.l0 : Nat → ByteArray → Int → Int → Int → Int → Option (Int)
 | 0, _, _, _, _, _ => none
 | k + 1, x0, x1, x2, x8, x9 => if x9 < x2 then (if 0 ≤ (wrap64 (x1 + x9)) then (if (wrap64 (x1 + x9)) < (x0.size : Int) then (regletref02_value.l0 k x0 x1 x2 (wrap64 ((wrap64 (x8 * 64)) + (Int.tmod (wrap64 (bt x0 (wrap64 (x1 + x9)))) 64))) (wrap64 (x9 + 1))) else (none)) else (none)) else (some x8)
def regletref02_value.f (k : Nat) (a0 : ByteArray) (a1 : Int) (a2 : Int) : Option (Int) := if 0 ≤ a1 then (if a1 < (a0.size : Int) then (if a2 = 1 then (some (wrap64 (bt a0 a1))) else (if 0 ≤ (wrap64 (7 - a2)) then (if (shl .i64 1 (wrap64 (7 - a2))) = 0 then (none) else (regletref02_value.l0 k a0 a1 a2 (Int.tmod (wrap64 (bt a0 a1)) (shl .i64 1 (wrap64 (7 - a2)))) 1)) else (none))) else (none)) else (none)
theorem regletref02_value.mono_l : ∀ k, (∀ y0 y1 y2 y3 y4, LeO (regletref02_value.l0 k y0 y1 y2 y3 y4) (regletref02_value.l0 (k + 1) y0 y1 y2 y3 y4))
 | 0 => fun _ _ _ _ _ r h => by simp [regletref02_value.l0] at h
 | k + 1 => by
   have ih0 := regletref02_value.mono_l k
   · intro y0 y1 y2 y3 y4
     unfold regletref02_value.l0
     repeat' first
     | (with_reducible exact ih0 _ _ _ _ _)
     | (with_reducible exact LeO.refl _)
     | (with_reducible exact LeO.none _)
     | (with_reducible refine LeO.ite ?_ ?_)
     | (with_reducible refine LeO.bind ?_ (fun _ => ?_))
     | exact ih0 _ _ _ _ _
     | exact LeO.none _
     | refine LeO.ite ?_ ?_
     | refine LeO.bind ?_ (fun _ => ?_)
theorem regletref02_value.mono : ∀ a0 a1 a2 k, LeO (regletref02_value.f k a0 a1 a2) (regletref02_value.f (k + 1) a0 a1 a2) := by
 intro a0 a1 a2 k
 have ih0 := regletref02_value.mono_l k
 unfold regletref02_value.f
 repeat' first
     | (with_reducible exact ih0 _ _ _ _ _)
     | (with_reducible exact LeO.refl _)
     | (with_reducible exact LeO.none _)
     | (with_reducible refine LeO.ite ?_ ?_)
     | (with_reducible refine LeO.bind ?_ (fun _ => ?_))
     | exact ih0 _ _ _ _ _
     | exact LeO.none _
     | refine LeO.ite ?_ ?_
     | refine LeO.bind ?_ (fun _ => ?_)
theorem regletref02_value.l0.ev {x0 : ByteArray} {x1 : Int} {x2 : Int} {x8 : Int} {x9 : Int} {r_ : Int} (h : Ev (fun k => if x9 < x2 then (if 0 ≤ (wrap64 (x1 + x9)) then (if (wrap64 (x1 + x9)) < (x0.size : Int) then (regletref02_value.l0 k x0 x1 x2 (wrap64 ((wrap64 (x8 * 64)) + (Int.tmod (wrap64 (bt x0 (wrap64 (x1 + x9)))) 64))) (wrap64 (x9 + 1))) else (none)) else (none)) else (some x8)) r_) : Ev (fun k => regletref02_value.l0 k x0 x1 x2 x8 x9) r_ := Ev.step (fun k => by rw [regletref02_value.l0]) h
set_option maxHeartbeats 8000000 in
set_option maxRecDepth 100000 in
theorem regletref02_value.calls (k : Nat) (a0 : ByteArray) (a1 : Int) (a2 : Int) (r : Int) (w : World) (h : regletref02_value.f k a0 a1 a2 = some r) :
   Calls Try.prog 47 #[.string a0, .int .i64 a1, .int .i64 a2] w fun e w' => e = .returned (.int .i64 r) ∧ Drawn0 w w' := by
 have H : (if 0 ≤ a1 then (if a1 < (a0.size : Int) then (if a2 = 1 then (some (wrap64 (bt a0 a1))) else (if 0 ≤ (wrap64 (7 - a2)) then (if (shl .i64 1 (wrap64 (7 - a2))) = 0 then (none) else (regletref02_value.l0 k a0 a1 a2 (Int.tmod (wrap64 (bt a0 a1)) (shl .i64 1 (wrap64 (7 - a2)))) 1)) else (none))) else (none)) else (none)) = some r := h
 clear h
 by_cases c4 : 0 ≤ a1
 · rw [if_pos c4] at H
   have c4b0 : decide (0 ≤ a1) = true := decide_eq_true c4
   clear c4
   by_cases c5 : a1 < (a0.size : Int)
   · rw [if_pos c5] at H
     have c5b0 : decide (a1 < (a0.size : Int)) = true := decide_eq_true c5
     clear c5
     by_cases c7 : a2 = 1
     · rw [if_pos c7] at H
       have c7b0 : (a2 == 1) = true := beq_iff_eq.mpr c7
       have c7b1 : (a2 != 1) = false := bne_eq_false_iff_eq.mpr c7
       clear c7
       obtain rfl := Option.some.inj H
       have p6 : 0 ≤ (a1 : Int) := of_decide_eq_true (by first | (with_reducible assumption) | assumption)
       have q6 : a1 < (a0.size : Int) := of_decide_eq_true (by first | (with_reducible assumption) | assumption)
       have hx6 := bt_at a0 a1
       replace p6 := eq_true p6
       replace q6 := eq_true q6
       go_enter Try.func47, Try.ntmps47
       go_wp2
       go_ret
       exact ⟨by first | rfl | (simp; done) | (simp [*]; done), by repeat (first | exact Drawn0.refl _ | apply Drawn0.step)⟩
     · rw [if_neg c7] at H
       have c7b0 : (a2 == 1) = false := beq_eq_false_iff_ne.mpr c7
       have c7b1 : (a2 != 1) = true := bne_iff_ne.mpr c7
       obtain ⟨ji8, hji8⟩ : ∃ j_ : Int, (wrap64 (7 - a2)) = j_ := ⟨_, rfl⟩
       replace H : (if 0 ≤ (ji8) then (if (shl .i64 1 (ji8)) = 0 then (none) else (regletref02_value.l0 k a0 a1 a2 (Int.tmod (wrap64 (bt a0 a1)) (shl .i64 1 (ji8))) 1)) else (none)) = some r := by first | (rw [hji8] at H; exact H) | (simp only [hji8] at H ⊢; exact H)
       have hji8w : (IntKind.i64.wrap (7 - a2)) = ji8 := (i64_w _).trans hji8
       by_cases c9 : 0 ≤ (ji8)
       · rw [if_pos c9] at H
         have c9b0 := eq_true c9
         have c9b1 : decide (0 ≤ (ji8)) = true := decide_eq_true c9
         clear c9
         obtain ⟨ji10, hji10⟩ : ∃ j_ : Int, (shl .i64 1 (ji8)) = j_ := ⟨_, rfl⟩
         replace H : (if (ji10) = 0 then (none) else (regletref02_value.l0 k a0 a1 a2 (Int.tmod (wrap64 (bt a0 a1)) (ji10)) 1)) = some r := by first | (rw [hji10] at H; exact H) | (simp only [hji10] at H ⊢; exact H)
         have hji10_ : (IntKind.i64.wrap (1 * 2 ^ min (ji8).toNat 64)) = ji10 := hji10
         have hji10z : (ji8) ≤ 64 → (IntKind.i64.wrap (1 * 2 ^ (ji8).toNat)) = ji10 := shl_small hji10
         have hji10u : (IntKind.i64.wrap (2 ^ min (ji8).toNat 64)) = ji10 := by have h_ := hji10_; rw [Int.one_mul] at h_; exact h_
         have hji10v : (ji8) ≤ 64 → (IntKind.i64.wrap (2 ^ (ji8).toNat)) = ji10 := fun hle_ => by have h_ := hji10z hle_; rw [Int.one_mul] at h_; exact h_
         have hji10y : (wrap64 (1 * 2 ^ min (ji8).toNat 64)) = ji10 := (i64_w _).symm.trans hji10_
         have hji10x : (ji8) ≤ 64 → (wrap64 (1 * 2 ^ (ji8).toNat)) = ji10 := fun h_ => (i64_w _).symm.trans (hji10z h_)
         by_cases c11 : (ji10) = 0
         · rw [if_pos c11] at H
           exact absurd H (by simp)
         · rw [if_neg c11] at H
           have c11b0 : ((ji10) == 0) = false := beq_eq_false_iff_ne.mpr c11
           have c11b1 : ((ji10) != 0) = true := bne_iff_ne.mpr c11
           have H' := Aside0.mk H
           clear H
           have p6 : 0 ≤ (a1 : Int) := of_decide_eq_true (by first | (with_reducible assumption) | assumption)
           have q6 : a1 < (a0.size : Int) := of_decide_eq_true (by first | (with_reducible assumption) | assumption)
           have hx6 := bt_at a0 a1
           replace p6 := eq_true p6
           replace q6 := eq_true q6
           go_enter Try.func47, Try.ntmps47
           go_wp2
           go_loopg [8, 9] k (fun kq v8 v9 w' => ∃ (x8_1 : Int) (x9_1 : Int), v8 = .int .i64 x8_1 ∧ v9 = .int .i64 x9_1 ∧ Aside0 (regletref02_value.l0 kq a0 a1 a2 x8_1 x9_1 = some r) ∧ Aside0 (kq ≤ k) ∧ Drawn0 w w')
           case atStart => exact ⟨(Int.tmod (wrap64 (bt a0 a1)) (ji10)), (1), (by first | rfl | (simp; done) | (simp only [← hji10] <;> (first | rfl | simp)) | (simp [*]; done)), (by first | rfl | (simp; done) | (simp [*]; done)), H', ⟨Nat.le_refl _⟩, by repeat (first | exact Drawn0.refl _ | apply Drawn0.step)⟩
           case round =>
            clear H'
            try clear c1
            try clear p2
            try clear c4
            try clear c4b0
            try clear c5
            try clear c5b0
            try clear p6
            try clear q6
            try clear hx6
            try clear c7
            try clear c7b0
            try clear c7b1
            try clear c9
            try clear c9b0
            try clear c9b1
            try clear c11
            try clear c11b0
            try clear c11b1
            try clear p6
            try clear q6
            obtain ⟨x8_1, x9_1, rfl, rfl, HA, HK1, ⟨m1, rfl⟩⟩ := hrel
            cases gk with
            | zero => exact absurd HA.out (by simp [regletref02_value.l0])
            | succ k1 =>
             have H := HA.out
             clear HA
             simp only [regletref02_value.l0] at H
             by_cases c12 : x9_1 < a2
             · rw [if_pos c12] at H
               have c12b0 : decide (x9_1 < a2) = true := decide_eq_true c12
               clear c12
               obtain ⟨ji13, hji13⟩ : ∃ j_ : Int, (wrap64 (a1 + x9_1)) = j_ := ⟨_, rfl⟩
               replace H : (if 0 ≤ (ji13) then (if (ji13) < (a0.size : Int) then (regletref02_value.l0 k1 a0 a1 a2 (wrap64 ((wrap64 (x8_1 * 64)) + (Int.tmod (wrap64 (bt a0 (ji13))) 64))) (wrap64 (x9_1 + 1))) else (none)) else (none)) = some r := by first | (rw [hji13] at H; exact H) | (simp only [hji13] at H ⊢; exact H)
               have hji13w : (IntKind.i64.wrap (a1 + x9_1)) = ji13 := (i64_w _).trans hji13
               by_cases c14 : 0 ≤ (ji13)
               · rw [if_pos c14] at H
                 have c14b0 : decide (0 ≤ (ji13)) = true := decide_eq_true c14
                 clear c14
                 by_cases c15 : (ji13) < (a0.size : Int)
                 · rw [if_pos c15] at H
                   have c15b0 : decide ((ji13) < (a0.size : Int)) = true := decide_eq_true c15
                   clear c15
                   have H' := Aside0.mk H
                   clear H
                   have p16 : 0 ≤ ((ji13) : Int) := of_decide_eq_true (by first | (with_reducible assumption) | assumption)
                   have q16 : (ji13) < (a0.size : Int) := of_decide_eq_true (by first | (with_reducible assumption) | assumption)
                   have hx16 := bt_at a0 (ji13)
                   replace p16 := eq_true p16
                   replace q16 := eq_true q16
                   go_wp2
                   go_roundg k1
                   case measure => have := HK1.out; omega
                   case rel => exact ⟨(wrap64 ((wrap64 (x8_1 * 64)) + (Int.tmod (wrap64 (bt a0 (ji13))) 64))), (wrap64 (x9_1 + 1)), (by first | rfl | (simp; done) | (simp only [← hji13] <;> (first | rfl | simp)) | (simp [*]; done)), (by first | rfl | (simp; done) | (simp [*]; done)), H', ⟨by have := HK1.out; omega⟩, by repeat (first | exact Drawn0.refl _ | apply Drawn0.step)⟩
                 · rw [if_neg c15] at H
                   exact absurd H (by simp)
               · rw [if_neg c14] at H
                 exact absurd H (by simp)
             · rw [if_neg c12] at H
               have c12b0 : decide (x9_1 < a2) = false := decide_eq_false c12
               clear c12
               obtain rfl := Option.some.inj H
               go_wp2
               go_ret
               exact ⟨by first | rfl | (simp; done) | (simp only [← hji8, ← hji10] <;> (first | rfl | simp)) | (simp [*]; done), by repeat (first | exact Drawn0.refl _ | apply Drawn0.step)⟩
       · rw [if_neg c9] at H
         exact absurd H (by simp)
   · rw [if_neg c5] at H
     exact absurd H (by simp)
 · rw [if_neg c4] at H
   exact absurd H (by simp)

/-! ### regletref02_IsRune: function 51 -/
def regletref02_IsRune.f (a0 : Int) : Option (Bool) := if a0 ≥ 0 then (if a0 ≤ 1114111 then (if a0 < 55296 then (some true) else (some (decide (a0 > 57343)))) else (some false)) else (some false)
set_option maxHeartbeats 8000000 in
set_option maxRecDepth 100000 in
theorem regletref02_IsRune.calls (a0 : Int) (r : Bool) (w : World) (h : regletref02_IsRune.f a0 = some r) :
   Calls Try.prog 51 #[.int .i64 a0] w fun e w' => e = .returned (.bool r) ∧ Drawn0 w w' := by
 have H : (if a0 ≥ 0 then (if a0 ≤ 1114111 then (if a0 < 55296 then (some true) else (some (decide (a0 > 57343)))) else (some false)) else (some false)) = some r := h
 clear h
 by_cases c2 : a0 ≥ 0
 · rw [if_pos c2] at H
   have c2b0 : decide (0 ≤ a0) = true := decide_eq_true c2
   clear c2
   by_cases c3 : a0 ≤ 1114111
   · rw [if_pos c3] at H
     have c3b0 : decide (a0 ≤ 1114111) = true := decide_eq_true c3
     clear c3
     by_cases c4 : a0 < 55296
     · rw [if_pos c4] at H
       have c4b0 : decide (a0 < 55296) = true := decide_eq_true c4
       clear c4
       obtain rfl := Option.some.inj H
       go_enter Try.func51, Try.ntmps51
       go_wp2
       go_ret
       exact ⟨by first | rfl | (simp; done) | (simp [*]; done), by repeat (first | exact Drawn0.refl _ | apply Drawn0.step)⟩
     · rw [if_neg c4] at H
       have c4b0 : decide (a0 < 55296) = false := decide_eq_false c4
       clear c4
       obtain rfl := Option.some.inj H
       go_enter Try.func51, Try.ntmps51
       go_wp2
       go_ret
       exact ⟨by first | rfl | (simp; done) | (simp [*]; done), by repeat (first | exact Drawn0.refl _ | apply Drawn0.step)⟩
   · rw [if_neg c3] at H
     have c3b0 : decide (a0 ≤ 1114111) = false := decide_eq_false c3
     clear c3
     obtain rfl := Option.some.inj H
     go_enter Try.func51, Try.ntmps51
     go_wp2
     go_ret
     exact ⟨by first | rfl | (simp; done) | (simp [*]; done), by repeat (first | exact Drawn0.refl _ | apply Drawn0.step)⟩
 · rw [if_neg c2] at H
   have c2b0 : decide (0 ≤ a0) = false := decide_eq_false c2
   clear c2
   obtain rfl := Option.some.inj H
   go_enter Try.func51, Try.ntmps51
   go_wp2
   go_ret
   exact ⟨by first | rfl | (simp; done) | (simp [*]; done), by repeat (first | exact Drawn0.refl _ | apply Drawn0.step)⟩

/-! ### regletref02_Bytes: function 48 -/
def regletref02_Bytes.f (a0 : Int) : Option (List Int) := (regletref02_IsRune.f a0).bind fun t244 => (if t244 = true then (if a0 < 128 then (some (([a0] : List Int))) else (if a0 < 2048 then (some (([wrap64 (192 + (wrap64 (Int.tdiv a0 64))), wrap64 (128 + (Int.tmod a0 64))] : List Int))) else (if a0 < 65536 then (some (([wrap64 (224 + (wrap64 (Int.tdiv a0 4096))), wrap64 (128 + (Int.tmod (wrap64 (Int.tdiv a0 64)) 64)), wrap64 (128 + (Int.tmod a0 64))] : List Int))) else (some (([wrap64 (240 + (wrap64 (Int.tdiv a0 262144))), wrap64 (128 + (Int.tmod (wrap64 (Int.tdiv a0 4096)) 64)), wrap64 (128 + (Int.tmod (wrap64 (Int.tdiv a0 64)) 64)), wrap64 (128 + (Int.tmod a0 64))] : List Int)))))) else (some ([] : List Int)))
set_option maxHeartbeats 8000000 in
set_option maxRecDepth 100000 in
theorem regletref02_Bytes.calls (a0 : Int) (r : List Int) (w : World) (h : regletref02_Bytes.f a0 = some r) :
   Calls Try.prog 48 #[.int .i64 a0] w fun e w' => ∃ v0_ : Value, e = .returned (v0_) ∧ Kd.R (Kd.int .i64) 3 w' w.heap.size (fun _ => True) v0_ r ∧ Below w.heap.size w w' := by
 have HB := Aside0.mk (Below.refl w.heap.size w)
 have H : ((regletref02_IsRune.f a0).bind fun t244 => (if t244 = true then (if a0 < 128 then (some (([a0] : List Int))) else (if a0 < 2048 then (some (([wrap64 (192 + (wrap64 (Int.tdiv a0 64))), wrap64 (128 + (Int.tmod a0 64))] : List Int))) else (if a0 < 65536 then (some (([wrap64 (224 + (wrap64 (Int.tdiv a0 4096))), wrap64 (128 + (Int.tmod (wrap64 (Int.tdiv a0 64)) 64)), wrap64 (128 + (Int.tmod a0 64))] : List Int))) else (some (([wrap64 (240 + (wrap64 (Int.tdiv a0 262144))), wrap64 (128 + (Int.tmod (wrap64 (Int.tdiv a0 4096)) 64)), wrap64 (128 + (Int.tmod (wrap64 (Int.tdiv a0 64)) 64)), wrap64 (128 + (Int.tmod a0 64))] : List Int)))))) else (some ([] : List Int)))) = some r := h
 clear h
 replace H := Option.bind_eq_some_iff.mp H
 obtain ⟨t244, A20, H⟩ := H
 replace H : (if t244 = true then (if a0 < 128 then (some (([a0] : List Int))) else (if a0 < 2048 then (some (([wrap64 (192 + (wrap64 (Int.tdiv a0 64))), wrap64 (128 + (Int.tmod a0 64))] : List Int))) else (if a0 < 65536 then (some (([wrap64 (224 + (wrap64 (Int.tdiv a0 4096))), wrap64 (128 + (Int.tmod (wrap64 (Int.tdiv a0 64)) 64)), wrap64 (128 + (Int.tmod a0 64))] : List Int))) else (some (([wrap64 (240 + (wrap64 (Int.tdiv a0 262144))), wrap64 (128 + (Int.tmod (wrap64 (Int.tdiv a0 4096)) 64)), wrap64 (128 + (Int.tmod (wrap64 (Int.tdiv a0 64)) 64)), wrap64 (128 + (Int.tmod a0 64))] : List Int)))))) else (some ([] : List Int))) = some r := H
 have A2 := Aside0.mk A20
 clear A20
 by_cases c3 : t244 = true
 · subst c3
   have H1 : (if a0 < 128 then (some (([a0] : List Int))) else (if a0 < 2048 then (some (([wrap64 (192 + (wrap64 (Int.tdiv a0 64))), wrap64 (128 + (Int.tmod a0 64))] : List Int))) else (if a0 < 65536 then (some (([wrap64 (224 + (wrap64 (Int.tdiv a0 4096))), wrap64 (128 + (Int.tmod (wrap64 (Int.tdiv a0 64)) 64)), wrap64 (128 + (Int.tmod a0 64))] : List Int))) else (some (([wrap64 (240 + (wrap64 (Int.tdiv a0 262144))), wrap64 (128 + (Int.tmod (wrap64 (Int.tdiv a0 4096)) 64)), wrap64 (128 + (Int.tmod (wrap64 (Int.tdiv a0 64)) 64)), wrap64 (128 + (Int.tmod a0 64))] : List Int)))))) = some r := by rw [if_pos rfl] at H; exact H
   clear H
   have H := H1
   clear H1
   by_cases c4 : a0 < 128
   · rw [if_pos c4] at H
     have c4b0 : decide (a0 < 128) = true := decide_eq_true c4
     clear c4
     obtain ⟨y245, hy245⟩ : ∃ y_ : List Int, y_ = (([a0] : List Int)) := ⟨_, rfl⟩
     replace H : (some y245) = some r := by first | (rw [hy245]; with_reducible exact H) | (have H2_ := (Option.bind_some _ _).symm.trans H; rw [hy245]; with_reducible exact H2_) | (have H2_ := (Option.bind_some _ _).symm.trans H; with_reducible exact H2_) | with_reducible exact H | (rw [hy245]; exact H) | exact H
     have Ny245 := Aside0.mk hy245
     clear hy245
     obtain rfl := Option.some.inj H
     go_enter Try.func48, Try.ntmps48
     go_wp2_with (first | ((with_reducible refine gate_callee (f := 51) rfl ?_); refine goesL_ (some 4) rfl rfl Try.func51 (by kernel_rfl) rfl #[.int .i64 a0] rfl (by (try simp only [List.map_toArray, List.map_cons, List.map_nil]); first | done | rfl | (simp only [List.length_drop, List.length_take]; rfl)) ?_; (with_reducible refine (regletref02_IsRune.calls a0 true _ A2.out).mono ?_); rintro e w' ⟨rfl, ⟨nd, rfl⟩⟩; refine ⟨_, rfl, ?_⟩) | ((with_reducible refine gate_dst (N := 9) rfl ?_); refine Kd.R_lit (Kd.int .i64) _ 3 ?hg (N := 9) ?hd (xs := ([a0] : List Int)) (inner := [.int .i64 a0]) (ok := fun _ => True) (okp := fun _ => True) ?hr ?hp (fun _ hk => hk) trivial (Below.refl _ _) (Nat.le_refl _) (by simp) ?_; (case hd => rfl); (case hg => rfl); (case hr => first | (go_simp; done) | (go_simp; rfl)); (case hp => exact (Reps.one (show Kd.M (Kd.int .i64) _ _ _ a0 [.int .i64 a0] from rfl) (Reps.none _ _))); intro v246 w5 ho6 hb hg_ hnew_; clear hg_ hnew_; (first | rw [← Ny245.out] at ho6 | (simp only [Int.reduceToNat] at ho6; rw [← Ny245.out] at ho6)); have n0_ := Aside0.mk (Kd.R_lower ho6 (below_size (by repeat (first | (with_reducible first | exact HB.out | apply below_alloc | apply pw_below_drewN | apply below_drew1) | exact HB.out)))); have n1_ := Aside0.mk (below_step (by repeat (first | (with_reducible first | exact HB.out | apply below_alloc | apply pw_below_drewN | apply below_drew1) | exact HB.out)) hb); clear HB; have HO247 := n0_; have HB := n1_; clear n0_ n1_; clear hb ho6))
     go_ret
     exact ⟨_, by first | rfl | (simp [errW_none, errW_some] <;> rfl) | (simp [*, errW_none, errW_some] <;> rfl), by (with_reducible repeat (first | apply Kd.R_alloc | apply Kd.R_drewN | apply Kd.R_drew)); exact HO247.out, by repeat (first | (with_reducible first | exact HB.out | apply below_alloc | apply pw_below_drewN | apply below_drew1) | exact HB.out)⟩
   · rw [if_neg c4] at H
     have c4b0 : decide (a0 < 128) = false := decide_eq_false c4
     clear c4
     by_cases c7 : a0 < 2048
     · rw [if_pos c7] at H
       have c7b0 : decide (a0 < 2048) = true := decide_eq_true c7
       clear c7
       obtain ⟨y248, hy248⟩ : ∃ y_ : List Int, y_ = (([wrap64 (192 + (wrap64 (Int.tdiv a0 64))), wrap64 (128 + (Int.tmod a0 64))] : List Int)) := ⟨_, rfl⟩
       replace H : (some y248) = some r := by first | (rw [hy248]; with_reducible exact H) | (have H2_ := (Option.bind_some _ _).symm.trans H; rw [hy248]; with_reducible exact H2_) | (have H2_ := (Option.bind_some _ _).symm.trans H; with_reducible exact H2_) | with_reducible exact H | (rw [hy248]; exact H) | exact H
       have Ny248 := Aside0.mk hy248
       clear hy248
       obtain rfl := Option.some.inj H
       go_enter Try.func48, Try.ntmps48
       go_wp2_with (first | ((with_reducible refine gate_callee (f := 51) rfl ?_); refine goesL_ (some 4) rfl rfl Try.func51 (by kernel_rfl) rfl #[.int .i64 a0] rfl (by (try simp only [List.map_toArray, List.map_cons, List.map_nil]); first | done | rfl | (simp only [List.length_drop, List.length_take]; rfl)) ?_; (with_reducible refine (regletref02_IsRune.calls a0 true _ A2.out).mono ?_); rintro e w' ⟨rfl, ⟨nd, rfl⟩⟩; refine ⟨_, rfl, ?_⟩) | ((with_reducible refine gate_dst (N := 18) rfl ?_); refine Kd.R_lit (Kd.int .i64) _ 3 ?hg (N := 18) ?hd (xs := ([wrap64 (192 + (wrap64 (Int.tdiv a0 64))), wrap64 (128 + (Int.tmod a0 64))] : List Int)) (inner := [.int .i64 (wrap64 (192 + (wrap64 (Int.tdiv a0 64)))), .int .i64 (wrap64 (128 + (Int.tmod a0 64)))]) (ok := fun _ => True) (okp := fun _ => True) ?hr ?hp (fun _ hk => hk) trivial (Below.refl _ _) (Nat.le_refl _) (by simp) ?_; (case hd => rfl); (case hg => rfl); (case hr => first | (go_simp; done) | (go_simp; rfl)); (case hp => exact (Reps.one (show Kd.M (Kd.int .i64) _ _ _ (wrap64 (192 + (wrap64 (Int.tdiv a0 64)))) [.int .i64 (wrap64 (192 + (wrap64 (Int.tdiv a0 64))))] from rfl) (Reps.one (show Kd.M (Kd.int .i64) _ _ _ (wrap64 (128 + (Int.tmod a0 64))) [.int .i64 (wrap64 (128 + (Int.tmod a0 64)))] from rfl) (Reps.none _ _)))); intro v249 w8 ho9 hb hg_ hnew_; clear hg_ hnew_; (first | rw [← Ny248.out] at ho9 | (simp only [Int.reduceToNat] at ho9; rw [← Ny248.out] at ho9)); have n0_ := Aside0.mk (Kd.R_lower ho9 (below_size (by repeat (first | (with_reducible first | exact HB.out | apply below_alloc | apply pw_below_drewN | apply below_drew1) | exact HB.out)))); have n1_ := Aside0.mk (below_step (by repeat (first | (with_reducible first | exact HB.out | apply below_alloc | apply pw_below_drewN | apply below_drew1) | exact HB.out)) hb); clear HB; have HO250 := n0_; have HB := n1_; clear n0_ n1_; clear hb ho9))
       go_ret
       exact ⟨_, by first | rfl | (simp [errW_none, errW_some] <;> rfl) | (simp [*, errW_none, errW_some] <;> rfl), by (with_reducible repeat (first | apply Kd.R_alloc | apply Kd.R_drewN | apply Kd.R_drew)); exact HO250.out, by repeat (first | (with_reducible first | exact HB.out | apply below_alloc | apply pw_below_drewN | apply below_drew1) | exact HB.out)⟩
     · rw [if_neg c7] at H
       have c7b0 : decide (a0 < 2048) = false := decide_eq_false c7
       clear c7
       by_cases c10 : a0 < 65536
       · rw [if_pos c10] at H
         have c10b0 : decide (a0 < 65536) = true := decide_eq_true c10
         clear c10
         obtain ⟨y251, hy251⟩ : ∃ y_ : List Int, y_ = (([wrap64 (224 + (wrap64 (Int.tdiv a0 4096))), wrap64 (128 + (Int.tmod (wrap64 (Int.tdiv a0 64)) 64)), wrap64 (128 + (Int.tmod a0 64))] : List Int)) := ⟨_, rfl⟩
         replace H : (some y251) = some r := by first | (rw [hy251]; with_reducible exact H) | (have H2_ := (Option.bind_some _ _).symm.trans H; rw [hy251]; with_reducible exact H2_) | (have H2_ := (Option.bind_some _ _).symm.trans H; with_reducible exact H2_) | with_reducible exact H | (rw [hy251]; exact H) | exact H
         have Ny251 := Aside0.mk hy251
         clear hy251
         obtain rfl := Option.some.inj H
         go_enter Try.func48, Try.ntmps48
         go_wp2_with (first | ((with_reducible refine gate_callee (f := 51) rfl ?_); refine goesL_ (some 4) rfl rfl Try.func51 (by kernel_rfl) rfl #[.int .i64 a0] rfl (by (try simp only [List.map_toArray, List.map_cons, List.map_nil]); first | done | rfl | (simp only [List.length_drop, List.length_take]; rfl)) ?_; (with_reducible refine (regletref02_IsRune.calls a0 true _ A2.out).mono ?_); rintro e w' ⟨rfl, ⟨nd, rfl⟩⟩; refine ⟨_, rfl, ?_⟩) | ((with_reducible refine gate_dst (N := 31) rfl ?_); refine Kd.R_lit (Kd.int .i64) _ 3 ?hg (N := 31) ?hd (xs := ([wrap64 (224 + (wrap64 (Int.tdiv a0 4096))), wrap64 (128 + (Int.tmod (wrap64 (Int.tdiv a0 64)) 64)), wrap64 (128 + (Int.tmod a0 64))] : List Int)) (inner := [.int .i64 (wrap64 (224 + (wrap64 (Int.tdiv a0 4096)))), .int .i64 (wrap64 (128 + (Int.tmod (wrap64 (Int.tdiv a0 64)) 64))), .int .i64 (wrap64 (128 + (Int.tmod a0 64)))]) (ok := fun _ => True) (okp := fun _ => True) ?hr ?hp (fun _ hk => hk) trivial (Below.refl _ _) (Nat.le_refl _) (by simp) ?_; (case hd => rfl); (case hg => rfl); (case hr => first | (go_simp; done) | (go_simp; rfl)); (case hp => exact (Reps.one (show Kd.M (Kd.int .i64) _ _ _ (wrap64 (224 + (wrap64 (Int.tdiv a0 4096)))) [.int .i64 (wrap64 (224 + (wrap64 (Int.tdiv a0 4096))))] from rfl) (Reps.one (show Kd.M (Kd.int .i64) _ _ _ (wrap64 (128 + (Int.tmod (wrap64 (Int.tdiv a0 64)) 64))) [.int .i64 (wrap64 (128 + (Int.tmod (wrap64 (Int.tdiv a0 64)) 64)))] from rfl) (Reps.one (show Kd.M (Kd.int .i64) _ _ _ (wrap64 (128 + (Int.tmod a0 64))) [.int .i64 (wrap64 (128 + (Int.tmod a0 64)))] from rfl) (Reps.none _ _))))); intro v252 w11 ho12 hb hg_ hnew_; clear hg_ hnew_; (first | rw [← Ny251.out] at ho12 | (simp only [Int.reduceToNat] at ho12; rw [← Ny251.out] at ho12)); have n0_ := Aside0.mk (Kd.R_lower ho12 (below_size (by repeat (first | (with_reducible first | exact HB.out | apply below_alloc | apply pw_below_drewN | apply below_drew1) | exact HB.out)))); have n1_ := Aside0.mk (below_step (by repeat (first | (with_reducible first | exact HB.out | apply below_alloc | apply pw_below_drewN | apply below_drew1) | exact HB.out)) hb); clear HB; have HO253 := n0_; have HB := n1_; clear n0_ n1_; clear hb ho12))
         go_ret
         exact ⟨_, by first | rfl | (simp [errW_none, errW_some] <;> rfl) | (simp [*, errW_none, errW_some] <;> rfl), by (with_reducible repeat (first | apply Kd.R_alloc | apply Kd.R_drewN | apply Kd.R_drew)); exact HO253.out, by repeat (first | (with_reducible first | exact HB.out | apply below_alloc | apply pw_below_drewN | apply below_drew1) | exact HB.out)⟩
       · rw [if_neg c10] at H
         have c10b0 : decide (a0 < 65536) = false := decide_eq_false c10
         clear c10
         obtain ⟨y254, hy254⟩ : ∃ y_ : List Int, y_ = (([wrap64 (240 + (wrap64 (Int.tdiv a0 262144))), wrap64 (128 + (Int.tmod (wrap64 (Int.tdiv a0 4096)) 64)), wrap64 (128 + (Int.tmod (wrap64 (Int.tdiv a0 64)) 64)), wrap64 (128 + (Int.tmod a0 64))] : List Int)) := ⟨_, rfl⟩
         replace H : (some y254) = some r := by first | (rw [hy254]; with_reducible exact H) | (have H2_ := (Option.bind_some _ _).symm.trans H; rw [hy254]; with_reducible exact H2_) | (have H2_ := (Option.bind_some _ _).symm.trans H; with_reducible exact H2_) | with_reducible exact H | (rw [hy254]; exact H) | exact H
         have Ny254 := Aside0.mk hy254
         clear hy254
         obtain rfl := Option.some.inj H
         go_enter Try.func48, Try.ntmps48
         go_wp2_with (first | ((with_reducible refine gate_callee (f := 51) rfl ?_); refine goesL_ (some 4) rfl rfl Try.func51 (by kernel_rfl) rfl #[.int .i64 a0] rfl (by (try simp only [List.map_toArray, List.map_cons, List.map_nil]); first | done | rfl | (simp only [List.length_drop, List.length_take]; rfl)) ?_; (with_reducible refine (regletref02_IsRune.calls a0 true _ A2.out).mono ?_); rintro e w' ⟨rfl, ⟨nd, rfl⟩⟩; refine ⟨_, rfl, ?_⟩) | ((with_reducible refine gate_dst (N := 46) rfl ?_); refine Kd.R_lit (Kd.int .i64) _ 3 ?hg (N := 46) ?hd (xs := ([wrap64 (240 + (wrap64 (Int.tdiv a0 262144))), wrap64 (128 + (Int.tmod (wrap64 (Int.tdiv a0 4096)) 64)), wrap64 (128 + (Int.tmod (wrap64 (Int.tdiv a0 64)) 64)), wrap64 (128 + (Int.tmod a0 64))] : List Int)) (inner := [.int .i64 (wrap64 (240 + (wrap64 (Int.tdiv a0 262144)))), .int .i64 (wrap64 (128 + (Int.tmod (wrap64 (Int.tdiv a0 4096)) 64))), .int .i64 (wrap64 (128 + (Int.tmod (wrap64 (Int.tdiv a0 64)) 64))), .int .i64 (wrap64 (128 + (Int.tmod a0 64)))]) (ok := fun _ => True) (okp := fun _ => True) ?hr ?hp (fun _ hk => hk) trivial (Below.refl _ _) (Nat.le_refl _) (by simp) ?_; (case hd => rfl); (case hg => rfl); (case hr => first | (go_simp; done) | (go_simp; rfl)); (case hp => exact (Reps.one (show Kd.M (Kd.int .i64) _ _ _ (wrap64 (240 + (wrap64 (Int.tdiv a0 262144)))) [.int .i64 (wrap64 (240 + (wrap64 (Int.tdiv a0 262144))))] from rfl) (Reps.one (show Kd.M (Kd.int .i64) _ _ _ (wrap64 (128 + (Int.tmod (wrap64 (Int.tdiv a0 4096)) 64))) [.int .i64 (wrap64 (128 + (Int.tmod (wrap64 (Int.tdiv a0 4096)) 64)))] from rfl) (Reps.one (show Kd.M (Kd.int .i64) _ _ _ (wrap64 (128 + (Int.tmod (wrap64 (Int.tdiv a0 64)) 64))) [.int .i64 (wrap64 (128 + (Int.tmod (wrap64 (Int.tdiv a0 64)) 64)))] from rfl) (Reps.one (show Kd.M (Kd.int .i64) _ _ _ (wrap64 (128 + (Int.tmod a0 64))) [.int .i64 (wrap64 (128 + (Int.tmod a0 64)))] from rfl) (Reps.none _ _)))))); intro v255 w13 ho14 hb hg_ hnew_; clear hg_ hnew_; (first | rw [← Ny254.out] at ho14 | (simp only [Int.reduceToNat] at ho14; rw [← Ny254.out] at ho14)); have n0_ := Aside0.mk (Kd.R_lower ho14 (below_size (by repeat (first | (with_reducible first | exact HB.out | apply below_alloc | apply pw_below_drewN | apply below_drew1) | exact HB.out)))); have n1_ := Aside0.mk (below_step (by repeat (first | (with_reducible first | exact HB.out | apply below_alloc | apply pw_below_drewN | apply below_drew1) | exact HB.out)) hb); clear HB; have HO256 := n0_; have HB := n1_; clear n0_ n1_; clear hb ho14))
         go_ret
         exact ⟨_, by first | rfl | (simp [errW_none, errW_some] <;> rfl) | (simp [*, errW_none, errW_some] <;> rfl), by (with_reducible repeat (first | apply Kd.R_alloc | apply Kd.R_drewN | apply Kd.R_drew)); exact HO256.out, by repeat (first | (with_reducible first | exact HB.out | apply below_alloc | apply pw_below_drewN | apply below_drew1) | exact HB.out)⟩
 · replace c3 := Bool.eq_false_iff.mpr c3
   subst c3
   have H1 : (some ([] : List Int)) = some r := by rw [if_neg (show ¬ (false = true) by decide)] at H; exact H
   clear H
   have H := H1
   clear H1
   obtain rfl := Option.some.inj H
   go_enter Try.func48, Try.ntmps48
   go_wp2_with (first | ((with_reducible refine gate_callee (f := 51) rfl ?_); refine goesL_ (some 4) rfl rfl Try.func51 (by kernel_rfl) rfl #[.int .i64 a0] rfl (by (try simp only [List.map_toArray, List.map_cons, List.map_nil]); first | done | rfl | (simp only [List.length_drop, List.length_take]; rfl)) ?_; (with_reducible refine (regletref02_IsRune.calls a0 false _ A2.out).mono ?_); rintro e w' ⟨rfl, ⟨nd, rfl⟩⟩; refine ⟨_, rfl, ?_⟩))
   go_ret
   exact ⟨_, by first | rfl | (simp [errW_none, errW_some] <;> rfl) | (simp [*, errW_none, errW_some] <;> rfl), by first | exact Kd.R_nil _ _ _ _ _ | exact Kd.N_nil _ _ _ _ _ | exact Kd.V_nil _ _ _ _ _ | exact Kd.Q_nil _ _ _ _ _ | exact Kd.S_nil _ _ _ _ _, by repeat (first | (with_reducible first | exact HB.out | apply below_alloc | apply pw_below_drewN | apply below_drew1) | exact HB.out)⟩

end Go.Proofs.Ytljbfmehdgfcfaa.P
