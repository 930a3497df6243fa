-- PRINTED by print.py (a twelfth state) out of the translation. Not trusted: Lean checks it.
import Derived.Test.YtedplhcdlkhbnaaPx0
import Derived.Test.YtedplhcdlkhbnaaPx1
import Derived.Test.YtedplhcdlkhbnaaPx2
namespace Go.Proofs.Ytedplhcdlkhbnaa.P
open Go.RowKit Go.Proofs.YtedplhcdlkhbnaaW.PrintWords Go.Proofs.YtedplhcdlkhbnaaW.PrintLast Go.Proofs.YtedplhcdlkhbnaaW.PrintMore
attribute [local go_sem] max2_int min2_int max_two min_two max_three min_three max_four min_four   -- for this text's walks alone
set_option linter.unusedVariables false
set_option linter.unusedSimpArgs false

/-! ### regletlaw01_ScaledRises: function 4 -/
def regletlaw01_ScaledRises.j0 : Nat → Int → Int → Int → Int → Bool → Option (Bool)
 | 0, _, _, _, _, _ => none
 | k + 1, x0, x1, x2, x7, x28 => if x28 = true then (some (decide (x1 < 0))) else ((scaled_Bad.f k (wrap64 (x0 + x1)) x2).bind fun t257 => (if t257 ≥ x7 then ((scaled_Bad.f k x0 (wrap64 (x2 - x1))).bind fun t258 => (if t258 ≥ x7 then (if x0 ≤ 0 then (some true) else (if x2 ≤ 0 then (some true) else (some ((decide (x7 ≥ 100)) == (decide (x0 ≥ x2)))))) else (some false))) else (some false)))
def regletlaw01_ScaledRises.f (k : Nat) (a0 : Int) (a1 : Int) (a2 : Int) : Option (Bool) := (regletlaw01_awake.f k).bind fun t252 => (if t252 = true then ((regletref01_Clamp.f a0).bind fun t253 => ((regletref01_Clamp.f a1).bind fun t254 => ((regletref01_Clamp.f a2).bind fun t255 => ((scaled_Bad.f k t253 t255).bind fun t256 => (if t256 < 0 then (regletlaw01_ScaledRises.j0 k t253 t254 t255 t256 true) else (if t256 > 10000 then (regletlaw01_ScaledRises.j0 k t253 t254 t255 t256 true) else (regletlaw01_ScaledRises.j0 k t253 t254 t255 t256 (decide (t254 < 0))))))))) else (some false))
theorem regletlaw01_ScaledRises.mono_l : ∀ k, (∀ y0 y1 y2 y3 y4, LeO (regletlaw01_ScaledRises.j0 k y0 y1 y2 y3 y4) (regletlaw01_ScaledRises.j0 (k + 1) y0 y1 y2 y3 y4))
 | 0 => fun _ _ _ _ _ r h => by simp [regletlaw01_ScaledRises.j0] at h
 | k + 1 => by
   have ih0 := regletlaw01_ScaledRises.mono_l k
   · intro y0 y1 y2 y3 y4
     unfold regletlaw01_ScaledRises.j0
     repeat' first
     | (with_reducible exact ih0 _ _ _ _ _)
     | (with_reducible exact regletlaw01_awake.mono _)
     | (with_reducible exact scaled_Bad.mono _ _ _)
     | (with_reducible exact LeO.refl _)
     | (with_reducible exact LeO.none _)
     | (with_reducible refine LeO.ite ?_ ?_)
     | (with_reducible refine LeO.bind ?_ (fun _ => ?_))
     | exact ih0 _ _ _ _ _
     | exact regletlaw01_awake.mono _
     | exact scaled_Bad.mono _ _ _
     | exact LeO.none _
     | refine LeO.ite ?_ ?_
     | refine LeO.bind ?_ (fun _ => ?_)
theorem regletlaw01_ScaledRises.mono : ∀ a0 a1 a2 k, LeO (regletlaw01_ScaledRises.f k a0 a1 a2) (regletlaw01_ScaledRises.f (k + 1) a0 a1 a2) := by
 intro a0 a1 a2 k
 have ih0 := regletlaw01_ScaledRises.mono_l k
 unfold regletlaw01_ScaledRises.f
 repeat' first
     | (with_reducible exact ih0 _ _ _ _ _)
     | (with_reducible exact regletlaw01_awake.mono _)
     | (with_reducible exact scaled_Bad.mono _ _ _)
     | (with_reducible exact LeO.refl _)
     | (with_reducible exact LeO.none _)
     | (with_reducible refine LeO.ite ?_ ?_)
     | (with_reducible refine LeO.bind ?_ (fun _ => ?_))
     | exact ih0 _ _ _ _ _
     | exact regletlaw01_awake.mono _
     | exact scaled_Bad.mono _ _ _
     | exact LeO.none _
     | refine LeO.ite ?_ ?_
     | refine LeO.bind ?_ (fun _ => ?_)
theorem regletlaw01_ScaledRises.j0.ev {x0 : Int} {x1 : Int} {x2 : Int} {x7 : Int} {x28 : Bool} {r_ : Bool} (h : Ev (fun k => if x28 = true then (some (decide (x1 < 0))) else ((scaled_Bad.f k (wrap64 (x0 + x1)) x2).bind fun t257 => (if t257 ≥ x7 then ((scaled_Bad.f k x0 (wrap64 (x2 - x1))).bind fun t258 => (if t258 ≥ x7 then (if x0 ≤ 0 then (some true) else (if x2 ≤ 0 then (some true) else (some ((decide (x7 ≥ 100)) == (decide (x0 ≥ x2)))))) else (some false))) else (some false)))) r_) : Ev (fun k => regletlaw01_ScaledRises.j0 k x0 x1 x2 x7 x28) r_ := Ev.step (fun k => by rw [regletlaw01_ScaledRises.j0]) h
set_option maxHeartbeats 8000000 in
set_option maxRecDepth 100000 in
theorem regletlaw01_ScaledRises.calls (k : Nat) (a0 : Int) (a1 : Int) (a2 : Int) (r : Bool) (w : World) (h : regletlaw01_ScaledRises.f k a0 a1 a2 = some r) :
   Calls Try.prog 4 #[.int .i64 a0, .int .i64 a1, .int .i64 a2] w fun e w' => e = .returned (.bool r) ∧ Below w.heap.size w w' := by
 have HB := Aside0.mk (Below.refl w.heap.size w)
 have H : ((regletlaw01_awake.f k).bind fun t252 => (if t252 = true then ((regletref01_Clamp.f a0).bind fun t253 => ((regletref01_Clamp.f a1).bind fun t254 => ((regletref01_Clamp.f a2).bind fun t255 => ((scaled_Bad.f k t253 t255).bind fun t256 => (if t256 < 0 then (regletlaw01_ScaledRises.j0 k t253 t254 t255 t256 true) else (if t256 > 10000 then (regletlaw01_ScaledRises.j0 k t253 t254 t255 t256 true) else (regletlaw01_ScaledRises.j0 k t253 t254 t255 t256 (decide (t254 < 0))))))))) else (some false))) = some r := h
 clear h
 replace H := Option.bind_eq_some_iff.mp H
 obtain ⟨t252, A40, H⟩ := H
 replace H : (if t252 = true then ((regletref01_Clamp.f a0).bind fun t253 => ((regletref01_Clamp.f a1).bind fun t254 => ((regletref01_Clamp.f a2).bind fun t255 => ((scaled_Bad.f k t253 t255).bind fun t256 => (if t256 < 0 then (regletlaw01_ScaledRises.j0 k t253 t254 t255 t256 true) else (if t256 > 10000 then (regletlaw01_ScaledRises.j0 k t253 t254 t255 t256 true) else (regletlaw01_ScaledRises.j0 k t253 t254 t255 t256 (decide (t254 < 0))))))))) else (some false)) = some r := H
 have A4 := Aside0.mk A40
 clear A40
 by_cases c5 : t252 = true
 · subst c5
   have H1 : ((regletref01_Clamp.f a0).bind fun t253 => ((regletref01_Clamp.f a1).bind fun t254 => ((regletref01_Clamp.f a2).bind fun t255 => ((scaled_Bad.f k t253 t255).bind fun t256 => (if t256 < 0 then (regletlaw01_ScaledRises.j0 k t253 t254 t255 t256 true) else (if t256 > 10000 then (regletlaw01_ScaledRises.j0 k t253 t254 t255 t256 true) else (regletlaw01_ScaledRises.j0 k t253 t254 t255 t256 (decide (t254 < 0))))))))) = some r := by rw [if_pos rfl] at H; exact H
   clear H
   have H := H1
   clear H1
   replace H := Option.bind_eq_some_iff.mp H
   obtain ⟨t253, A60, H⟩ := H
   replace H : ((regletref01_Clamp.f a1).bind fun t254 => ((regletref01_Clamp.f a2).bind fun t255 => ((scaled_Bad.f k t253 t255).bind fun t256 => (if t256 < 0 then (regletlaw01_ScaledRises.j0 k t253 t254 t255 t256 true) else (if t256 > 10000 then (regletlaw01_ScaledRises.j0 k t253 t254 t255 t256 true) else (regletlaw01_ScaledRises.j0 k t253 t254 t255 t256 (decide (t254 < 0)))))))) = some r := H
   have A6 := Aside0.mk A60
   clear A60
   replace H := Option.bind_eq_some_iff.mp H
   obtain ⟨t254, A70, H⟩ := H
   replace H : ((regletref01_Clamp.f a2).bind fun t255 => ((scaled_Bad.f k t253 t255).bind fun t256 => (if t256 < 0 then (regletlaw01_ScaledRises.j0 k t253 t254 t255 t256 true) else (if t256 > 10000 then (regletlaw01_ScaledRises.j0 k t253 t254 t255 t256 true) else (regletlaw01_ScaledRises.j0 k t253 t254 t255 t256 (decide (t254 < 0))))))) = some r := H
   have A7 := Aside0.mk A70
   clear A70
   replace H := Option.bind_eq_some_iff.mp H
   obtain ⟨t255, A80, H⟩ := H
   replace H : ((scaled_Bad.f k t253 t255).bind fun t256 => (if t256 < 0 then (regletlaw01_ScaledRises.j0 k t253 t254 t255 t256 true) else (if t256 > 10000 then (regletlaw01_ScaledRises.j0 k t253 t254 t255 t256 true) else (regletlaw01_ScaledRises.j0 k t253 t254 t255 t256 (decide (t254 < 0)))))) = some r := H
   have A8 := Aside0.mk A80
   clear A80
   replace H := Option.bind_eq_some_iff.mp H
   obtain ⟨t256, A90, H⟩ := H
   replace H : (if t256 < 0 then (regletlaw01_ScaledRises.j0 k t253 t254 t255 t256 true) else (if t256 > 10000 then (regletlaw01_ScaledRises.j0 k t253 t254 t255 t256 true) else (regletlaw01_ScaledRises.j0 k t253 t254 t255 t256 (decide (t254 < 0))))) = some r := H
   have A9 := Aside0.mk A90
   clear A90
   have HC10 := Aside0.mk H
   clear H
   go_enter Try.func4, Try.ntmps4
   go_upto_region 6 with (first | ((with_reducible refine gate_callee (f := 13) rfl ?_); refine goesL_ (some 8) rfl rfl Try.func13 (by kernel_rfl) rfl #[] rfl (by (try simp only [List.map_toArray, List.map_cons, List.map_nil]); first | done | rfl | (simp only [List.length_drop, List.length_take]; rfl)) ?_; (with_reducible refine (regletlaw01_awake.calls k  true _ A4.out).mono ?_); rintro e w11 ⟨rfl, hb⟩; refine ⟨_, rfl, ?_⟩; have n0_ := Aside0.mk (below_step (by repeat (first | (with_reducible first | exact HB.out | apply below_alloc | apply pw_below_drewN | apply below_drew1) | exact HB.out)) hb); clear HB; have HB := n0_; clear n0_; (try clear hb); (try clear hb2); (try clear hk); (try clear hi)) | ((with_reducible refine gate_callee (f := 16) rfl ?_); refine goesL_ (some 11) rfl rfl Try.func16 (by kernel_rfl) rfl #[.int .i64 a0] rfl (by (try simp only [List.map_toArray, List.map_cons, List.map_nil]); first | done | rfl | (simp only [List.length_drop, List.length_take]; rfl)) ?_; (with_reducible refine (regletref01_Clamp.calls a0 t253 _ A6.out).mono ?_); rintro e w' ⟨rfl, ⟨nd, rfl⟩⟩; refine ⟨_, rfl, ?_⟩) | ((with_reducible refine gate_callee (f := 16) rfl ?_); refine goesL_ (some 13) rfl rfl Try.func16 (by kernel_rfl) rfl #[.int .i64 a1] rfl (by (try simp only [List.map_toArray, List.map_cons, List.map_nil]); first | done | rfl | (simp only [List.length_drop, List.length_take]; rfl)) ?_; (with_reducible refine (regletref01_Clamp.calls a1 t254 _ A7.out).mono ?_); rintro e w' ⟨rfl, ⟨nd, rfl⟩⟩; refine ⟨_, rfl, ?_⟩) | ((with_reducible refine gate_callee (f := 16) rfl ?_); refine goesL_ (some 15) rfl rfl Try.func16 (by kernel_rfl) rfl #[.int .i64 a2] rfl (by (try simp only [List.map_toArray, List.map_cons, List.map_nil]); first | done | rfl | (simp only [List.length_drop, List.length_take]; rfl)) ?_; (with_reducible refine (regletref01_Clamp.calls a2 t255 _ A8.out).mono ?_); rintro e w' ⟨rfl, ⟨nd, rfl⟩⟩; refine ⟨_, rfl, ?_⟩) | ((with_reducible refine gate_callee (f := 14) rfl ?_); refine goesL_ (some 18) rfl rfl Try.func14 (by kernel_rfl) rfl #[.int .i64 t253, .int .i64 t255] rfl (by (try simp only [List.map_toArray, List.map_cons, List.map_nil]); first | done | rfl | (simp only [List.length_drop, List.length_take]; rfl)) ?_; (with_reducible refine (scaled_Bad.calls k t253 t255 t256 _ A9.out).mono ?_); rintro e w12 ⟨rfl, hb⟩; refine ⟨_, rfl, ?_⟩; have n0_ := Aside0.mk (below_step (by repeat (first | (with_reducible first | exact HB.out | apply below_alloc | apply pw_below_drewN | apply below_drew1) | exact HB.out)) hb); clear HB; have HB := n0_; clear n0_; (try clear hb); (try clear hb2); (try clear hk); (try clear hi)))
   (try simp only [Act.put, List.setIfInBounds_toArray, List.set_cons_zero, List.set_cons_succ])
   go_cut [28] (fun v28 wc => ∃ (kq : Nat) (x28_9 : Bool), v28 = .bool x28_9 ∧ Aside0 (regletlaw01_ScaledRises.j0 kq t253 t254 t255 t256 x28_9 = some r) ∧ Aside0 (kq ≤ k) ∧ Aside0 (Below w.heap.size w wc))
   case first =>
     have H := HC10.out
     clear HC10
     by_cases c13 : t256 < 0
     · rw [if_pos c13] at H
       have c13b0 : decide (t256 < 0) = true := decide_eq_true c13
       clear c13
       (first | rw [c13b0] | (simp only [i64_w, i32_w]; rw [c13b0]) | skip)
       have H' := Aside0.mk H
       clear H
       go_wp2
       go_meet
       case rel => exact ⟨_, (true), (by first | rfl | (simp; done) | (simp [*]; done)), H', ⟨by first | omega | exact Nat.le_refl _⟩, ⟨by repeat (first | (with_reducible first | exact HB.out | apply below_alloc | apply pw_below_drewN | apply below_drew1) | exact HB.out)⟩⟩
     · rw [if_neg c13] at H
       have c13b0 : decide (t256 < 0) = false := decide_eq_false c13
       clear c13
       (first | rw [c13b0] | (simp only [i64_w, i32_w]; rw [c13b0]) | skip)
       by_cases c14 : t256 > 10000
       · rw [if_pos c14] at H
         have c14b0 : decide (10000 < t256) = true := decide_eq_true c14
         clear c14
         have H' := Aside0.mk H
         clear H
         go_wp2
         go_meet
         case rel => exact ⟨_, (true), (by first | rfl | (simp; done) | (simp [*]; done)), H', ⟨by first | omega | exact Nat.le_refl _⟩, ⟨by repeat (first | (with_reducible first | exact HB.out | apply below_alloc | apply pw_below_drewN | apply below_drew1) | exact HB.out)⟩⟩
       · rw [if_neg c14] at H
         have c14b0 : decide (10000 < t256) = false := decide_eq_false c14
         clear c14
         have H' := Aside0.mk H
         clear H
         go_wp2
         go_meet
         case rel => exact ⟨_, (decide (t254 < 0)), (by first | rfl | (simp; done) | (simp [*]; done)), H', ⟨by first | omega | exact Nat.le_refl _⟩, ⟨by repeat (first | (with_reducible first | exact HB.out | apply below_alloc | apply pw_below_drewN | apply below_drew1) | exact HB.out)⟩⟩
   case rest =>
     clear HC10
     try clear c1
     try clear p2
     try clear c4
     try clear c5
     try clear c13
     try clear c13b0
     try clear c14
     try clear c14b0
     obtain ⟨kq, x28_9, rfl, HA, HJ9, HB⟩ := hcut
     cases kq with
     | zero => exact absurd HA.out (by simp [regletlaw01_ScaledRises.j0])
     | succ kj9 =>
       have H := HA.out
       clear HA
       simp only [regletlaw01_ScaledRises.j0] at H
       by_cases c15 : x28_9 = true
       · subst c15
         have H1 : (some (decide (t254 < 0))) = some r := by rw [if_pos rfl] at H; exact H
         clear H
         have H := H1
         clear H1
         obtain rfl := Option.some.inj H
         go_wp2
         go_ret
         exact ⟨by first | rfl | (simp [errW_none, errW_some] <;> rfl) | (simp [*, errW_none, errW_some] <;> rfl), by repeat (first | (with_reducible first | exact HB.out | apply below_alloc | apply pw_below_drewN | apply below_drew1) | exact HB.out)⟩
       · replace c15 := Bool.eq_false_iff.mpr c15
         subst c15
         have H1 : ((scaled_Bad.f kj9 (wrap64 (t253 + t254)) t255).bind fun t257 => (if t257 ≥ t256 then ((scaled_Bad.f kj9 t253 (wrap64 (t255 - t254))).bind fun t258 => (if t258 ≥ t256 then (if t253 ≤ 0 then (some true) else (if t255 ≤ 0 then (some true) else (some ((decide (t256 ≥ 100)) == (decide (t253 ≥ t255)))))) else (some false))) else (some false))) = some r := by rw [if_neg (show ¬ (false = true) by decide)] at H; exact H
         clear H
         have H := H1
         clear H1
         replace H := Option.bind_eq_some_iff.mp H
         obtain ⟨t257, A160, H⟩ := H
         replace H : (if t257 ≥ t256 then ((scaled_Bad.f kj9 t253 (wrap64 (t255 - t254))).bind fun t258 => (if t258 ≥ t256 then (if t253 ≤ 0 then (some true) else (if t255 ≤ 0 then (some true) else (some ((decide (t256 ≥ 100)) == (decide (t253 ≥ t255)))))) else (some false))) else (some false)) = some r := H
         have A16 := Aside0.mk A160
         clear A160
         by_cases c17 : t257 ≥ t256
         · rw [if_pos c17] at H
           have c17b0 : decide (t256 ≤ t257) = true := decide_eq_true c17
           clear c17
           replace H := Option.bind_eq_some_iff.mp H
           obtain ⟨t258, A180, H⟩ := H
           replace H : (if t258 ≥ t256 then (if t253 ≤ 0 then (some true) else (if t255 ≤ 0 then (some true) else (some ((decide (t256 ≥ 100)) == (decide (t253 ≥ t255)))))) else (some false)) = some r := H
           have A18 := Aside0.mk A180
           clear A180
           by_cases c19 : t258 ≥ t256
           · rw [if_pos c19] at H
             have c19b0 : decide (t256 ≤ t258) = true := decide_eq_true c19
             clear c19
             by_cases c20 : t253 ≤ 0
             · rw [if_pos c20] at H
               have c20b0 : decide (t253 ≤ 0) = true := decide_eq_true c20
               clear c20
               obtain rfl := Option.some.inj H
               go_wp2_with (first | ((with_reducible refine gate_callee (f := 14) rfl ?_); refine goesL_ (some 35) rfl rfl Try.func14 (by kernel_rfl) rfl #[.int .i64 (wrap64 (t253 + t254)), .int .i64 t255] rfl (by (try simp only [List.map_toArray, List.map_cons, List.map_nil]); first | done | rfl | (simp only [List.length_drop, List.length_take]; rfl)) ?_; (with_reducible refine (scaled_Bad.calls kj9 (wrap64 (t253 + t254)) t255 t257 _ A16.out).mono ?_); rintro e w21 ⟨rfl, hb⟩; refine ⟨_, rfl, ?_⟩; have n0_ := Aside0.mk (below_step (by repeat (first | (with_reducible first | exact HB.out | apply below_alloc | apply pw_below_drewN | apply below_drew1) | exact HB.out)) hb); clear HB; have HB := n0_; clear n0_; (try clear hb); (try clear hb2); (try clear hk); (try clear hi)) | (go_at_call 14; (with_reducible refine (scaled_Bad.calls kj9 t253 (wrap64 (t255 - t254)) t258 _ A18.out).mono ?_); rintro e w22 ⟨rfl, hb⟩; have n0_ := Aside0.mk (below_step (by repeat (first | (with_reducible first | exact HB.out | apply below_alloc | apply pw_below_drewN | apply below_drew1) | exact HB.out)) hb); clear HB; have HB := n0_; clear n0_; (try clear hb); (try clear hb2); (try clear hk); (try clear hi)))
               go_ret
               exact ⟨by first | rfl | (simp [errW_none, errW_some] <;> rfl) | (simp [*, errW_none, errW_some] <;> rfl), by repeat (first | (with_reducible first | exact HB.out | apply below_alloc | apply pw_below_drewN | apply below_drew1) | exact HB.out)⟩
             · rw [if_neg c20] at H
               have c20b0 : decide (t253 ≤ 0) = false := decide_eq_false c20
               clear c20
               by_cases c23 : t255 ≤ 0
               · rw [if_pos c23] at H
                 have c23b0 : decide (t255 ≤ 0) = true := decide_eq_true c23
                 clear c23
                 obtain rfl := Option.some.inj H
                 go_wp2_with (first | ((with_reducible refine gate_callee (f := 14) rfl ?_); refine goesL_ (some 35) rfl rfl Try.func14 (by kernel_rfl) rfl #[.int .i64 (wrap64 (t253 + t254)), .int .i64 t255] rfl (by (try simp only [List.map_toArray, List.map_cons, List.map_nil]); first | done | rfl | (simp only [List.length_drop, List.length_take]; rfl)) ?_; (with_reducible refine (scaled_Bad.calls kj9 (wrap64 (t253 + t254)) t255 t257 _ A16.out).mono ?_); rintro e w24 ⟨rfl, hb⟩; refine ⟨_, rfl, ?_⟩; have n0_ := Aside0.mk (below_step (by repeat (first | (with_reducible first | exact HB.out | apply below_alloc | apply pw_below_drewN | apply below_drew1) | exact HB.out)) hb); clear HB; have HB := n0_; clear n0_; (try clear hb); (try clear hb2); (try clear hk); (try clear hi)) | (go_at_call 14; (with_reducible refine (scaled_Bad.calls kj9 t253 (wrap64 (t255 - t254)) t258 _ A18.out).mono ?_); rintro e w25 ⟨rfl, hb⟩; have n0_ := Aside0.mk (below_step (by repeat (first | (with_reducible first | exact HB.out | apply below_alloc | apply pw_below_drewN | apply below_drew1) | exact HB.out)) hb); clear HB; have HB := n0_; clear n0_; (try clear hb); (try clear hb2); (try clear hk); (try clear hi)))
                 go_ret
                 exact ⟨by first | rfl | (simp [errW_none, errW_some] <;> rfl) | (simp [*, errW_none, errW_some] <;> rfl), by repeat (first | (with_reducible first | exact HB.out | apply below_alloc | apply pw_below_drewN | apply below_drew1) | exact HB.out)⟩
               · rw [if_neg c23] at H
                 have c23b0 : decide (t255 ≤ 0) = false := decide_eq_false c23
                 clear c23
                 obtain rfl := Option.some.inj H
                 go_wp2_with (first | ((with_reducible refine gate_callee (f := 14) rfl ?_); refine goesL_ (some 35) rfl rfl Try.func14 (by kernel_rfl) rfl #[.int .i64 (wrap64 (t253 + t254)), .int .i64 t255] rfl (by (try simp only [List.map_toArray, List.map_cons, List.map_nil]); first | done | rfl | (simp only [List.length_drop, List.length_take]; rfl)) ?_; (with_reducible refine (scaled_Bad.calls kj9 (wrap64 (t253 + t254)) t255 t257 _ A16.out).mono ?_); rintro e w26 ⟨rfl, hb⟩; refine ⟨_, rfl, ?_⟩; have n0_ := Aside0.mk (below_step (by repeat (first | (with_reducible first | exact HB.out | apply below_alloc | apply pw_below_drewN | apply below_drew1) | exact HB.out)) hb); clear HB; have HB := n0_; clear n0_; (try clear hb); (try clear hb2); (try clear hk); (try clear hi)) | (go_at_call 14; (with_reducible refine (scaled_Bad.calls kj9 t253 (wrap64 (t255 - t254)) t258 _ A18.out).mono ?_); rintro e w27 ⟨rfl, hb⟩; have n0_ := Aside0.mk (below_step (by repeat (first | (with_reducible first | exact HB.out | apply below_alloc | apply pw_below_drewN | apply below_drew1) | exact HB.out)) hb); clear HB; have HB := n0_; clear n0_; (try clear hb); (try clear hb2); (try clear hk); (try clear hi)))
                 go_ret
                 exact ⟨by first | rfl | (simp [errW_none, errW_some] <;> rfl) | (simp [*, errW_none, errW_some] <;> rfl), by repeat (first | (with_reducible first | exact HB.out | apply below_alloc | apply pw_below_drewN | apply below_drew1) | exact HB.out)⟩
           · rw [if_neg c19] at H
             have c19b0 : decide (t256 ≤ t258) = false := decide_eq_false c19
             clear c19
             obtain rfl := Option.some.inj H
             go_wp2_with (first | ((with_reducible refine gate_callee (f := 14) rfl ?_); refine goesL_ (some 35) rfl rfl Try.func14 (by kernel_rfl) rfl #[.int .i64 (wrap64 (t253 + t254)), .int .i64 t255] rfl (by (try simp only [List.map_toArray, List.map_cons, List.map_nil]); first | done | rfl | (simp only [List.length_drop, List.length_take]; rfl)) ?_; (with_reducible refine (scaled_Bad.calls kj9 (wrap64 (t253 + t254)) t255 t257 _ A16.out).mono ?_); rintro e w28 ⟨rfl, hb⟩; refine ⟨_, rfl, ?_⟩; have n0_ := Aside0.mk (below_step (by repeat (first | (with_reducible first | exact HB.out | apply below_alloc | apply pw_below_drewN | apply below_drew1) | exact HB.out)) hb); clear HB; have HB := n0_; clear n0_; (try clear hb); (try clear hb2); (try clear hk); (try clear hi)) | (go_at_call 14; (with_reducible refine (scaled_Bad.calls kj9 t253 (wrap64 (t255 - t254)) t258 _ A18.out).mono ?_); rintro e w29 ⟨rfl, hb⟩; have n0_ := Aside0.mk (below_step (by repeat (first | (with_reducible first | exact HB.out | apply below_alloc | apply pw_below_drewN | apply below_drew1) | exact HB.out)) hb); clear HB; have HB := n0_; clear n0_; (try clear hb); (try clear hb2); (try clear hk); (try clear hi)))
             go_ret
             exact ⟨by first | rfl | (simp [errW_none, errW_some] <;> rfl) | (simp [*, errW_none, errW_some] <;> rfl), by repeat (first | (with_reducible first | exact HB.out | apply below_alloc | apply pw_below_drewN | apply below_drew1) | exact HB.out)⟩
         · rw [if_neg c17] at H
           have c17b0 : decide (t256 ≤ t257) = false := decide_eq_false c17
           clear c17
           obtain rfl := Option.some.inj H
           go_wp2_with (first | ((with_reducible refine gate_callee (f := 14) rfl ?_); refine goesL_ (some 35) rfl rfl Try.func14 (by kernel_rfl) rfl #[.int .i64 (wrap64 (t253 + t254)), .int .i64 t255] rfl (by (try simp only [List.map_toArray, List.map_cons, List.map_nil]); first | done | rfl | (simp only [List.length_drop, List.length_take]; rfl)) ?_; (with_reducible refine (scaled_Bad.calls kj9 (wrap64 (t253 + t254)) t255 t257 _ A16.out).mono ?_); rintro e w30 ⟨rfl, hb⟩; refine ⟨_, rfl, ?_⟩; have n0_ := Aside0.mk (below_step (by repeat (first | (with_reducible first | exact HB.out | apply below_alloc | apply pw_below_drewN | apply below_drew1) | exact HB.out)) hb); clear HB; have HB := n0_; clear n0_; (try clear hb); (try clear hb2); (try clear hk); (try clear hi)))
           go_ret
           exact ⟨by first | rfl | (simp [errW_none, errW_some] <;> rfl) | (simp [*, errW_none, errW_some] <;> rfl), by repeat (first | (with_reducible first | exact HB.out | apply below_alloc | apply pw_below_drewN | apply below_drew1) | exact HB.out)⟩
 · replace c5 := Bool.eq_false_iff.mpr c5
   subst c5
   have H1 : (some false) = some r := by rw [if_neg (show ¬ (false = true) by decide)] at H; exact H
   clear H
   have H := H1
   clear H1
   obtain rfl := Option.some.inj H
   go_enter Try.func4, Try.ntmps4
   go_wp2_with (first | ((with_reducible refine gate_callee (f := 13) rfl ?_); refine goesL_ (some 8) rfl rfl Try.func13 (by kernel_rfl) rfl #[] rfl (by (try simp only [List.map_toArray, List.map_cons, List.map_nil]); first | done | rfl | (simp only [List.length_drop, List.length_take]; rfl)) ?_; (with_reducible refine (regletlaw01_awake.calls k  false _ A4.out).mono ?_); rintro e w31 ⟨rfl, hb⟩; refine ⟨_, rfl, ?_⟩; have n0_ := Aside0.mk (below_step (by repeat (first | (with_reducible first | exact HB.out | apply below_alloc | apply pw_below_drewN | apply below_drew1) | exact HB.out)) hb); clear HB; have HB := n0_; clear n0_; (try clear hb); (try clear hb2); (try clear hk); (try clear hi)))
   go_ret
   exact ⟨by first | rfl | (simp [errW_none, errW_some] <;> rfl) | (simp [*, errW_none, errW_some] <;> rfl), by repeat (first | (with_reducible first | exact HB.out | apply below_alloc | apply pw_below_drewN | apply below_drew1) | exact HB.out)⟩

end Go.Proofs.Ytedplhcdlkhbnaa.P
