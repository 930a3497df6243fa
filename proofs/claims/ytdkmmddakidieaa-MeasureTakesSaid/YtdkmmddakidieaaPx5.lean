-- PRINTED by print.py (a twelfth state) out of the translation. Not trusted: Lean checks it.
import Derived.Test.YtdkmmddakidieaaPx0
import Derived.Test.YtdkmmddakidieaaPx4
import Derived.Test.YtdkmmddakidieaaWo
namespace Go.Proofs.Ytdkmmddakidieaa.P
open Go.RowKit Go.Proofs.YtdkmmddakidieaaW.PrintWords Go.Proofs.YtdkmmddakidieaaW.PrintLast Go.Proofs.YtdkmmddakidieaaW.PrintMore
attribute [local go_sem] max2_int min2_int max_two min_two max_three min_three max_four min_four   -- for this text's walks alone
set_option linter.unusedVariables false
set_option linter.unusedSimpArgs false

/-! ### scaled_Bad: function 48 -/
mutual
def scaled_Bad.j0 : Nat → Int → Int → Bool → Option (Int)
 | 0, _, _, _ => none
 | k + 1, x0, x1, x23 => if x23 = true then (some 10000) else ((scaled_product.f (IntKind.u64.wrap (x0)) (IntKind.u64.wrap (x0))).bind fun bt107 => ((scaled_wide_times.f bt107.1 bt107.2.1 bt107.2.2.1 bt107.2.2.2 (IntKind.u64.wrap (x0))).bind fun bt111 => ((scaled_wide_times.f bt111.1 bt111.2.1 bt111.2.2.1 bt111.2.2.2 100).bind fun bt115 => ((scaled_product.f (IntKind.u64.wrap (x1)) (IntKind.u64.wrap (x1))).bind fun bt120 => ((scaled_wide_times.f bt120.1 bt120.2.1 bt120.2.2.1 bt120.2.2.2 (IntKind.u64.wrap (x1))).bind fun bt124 => (scaled_Bad.l0 k 0 10000 bt115.1 bt115.2.1 bt115.2.2.1 bt115.2.2.2 bt124.1 bt124.2.1 bt124.2.2.1 bt124.2.2.2))))))
def scaled_Bad.l0 : Nat → Int → Int → Int → Int → Int → Int → Int → Int → Int → Int → Option (Int)
 | 0, _, _, _, _, _, _, _, _, _, _ => none
 | k + 1, x7, x8, x120000, x120001, x120002, x120003, x129000, x129001, x129002, x129003 => if x7 < x8 then ((scaled_wide_times.f x129000 x129001 x129002 x129003 (IntKind.u64.wrap (wrap64 (Int.tdiv (wrap64 ((wrap64 (x7 + x8)) + 1)) 2)))).bind fun bt129 => ((scaled_smaller.f x120000 x120001 x120002 x120003 bt129.1 bt129.2.1 bt129.2.2.1 bt129.2.2.2).bind fun t133 => (if t133 = true then (scaled_Bad.l0 k x7 (wrap64 ((wrap64 (Int.tdiv (wrap64 ((wrap64 (x7 + x8)) + 1)) 2)) - 1)) x120000 x120001 x120002 x120003 x129000 x129001 x129002 x129003) else (scaled_Bad.l0 k (wrap64 (Int.tdiv (wrap64 ((wrap64 (x7 + x8)) + 1)) 2)) x8 x120000 x120001 x120002 x120003 x129000 x129001 x129002 x129003)))) else (some x7)
end
def scaled_Bad.f (k : Nat) (a0 : Int) (a1 : Int) : Option (Int) := (scaled_Clamp.f a0).bind fun t105 => ((scaled_Clamp.f a1).bind fun t106 => (if t105 ≤ 0 then (some 0) else (if t106 ≤ 0 then (scaled_Bad.j0 k t105 t106 true) else (if t106 = 0 then (none) else (scaled_Bad.j0 k t105 t106 (decide ((wrap64 (Int.tdiv t105 t106)) ≥ 5)))))))
theorem scaled_Bad.mono_l : ∀ k, (∀ y0 y1 y2, LeO (scaled_Bad.j0 k y0 y1 y2) (scaled_Bad.j0 (k + 1) y0 y1 y2)) ∧ (∀ y0 y1 y2 y3 y4 y5 y6 y7 y8 y9, LeO (scaled_Bad.l0 k y0 y1 y2 y3 y4 y5 y6 y7 y8 y9) (scaled_Bad.l0 (k + 1) y0 y1 y2 y3 y4 y5 y6 y7 y8 y9))
 | 0 => ⟨fun _ _ _ r h => by simp [scaled_Bad.j0] at h, fun _ _ _ _ _ _ _ _ _ _ r h => by simp [scaled_Bad.l0] at h⟩
 | k + 1 => by
   obtain ⟨ih0, ih1⟩ := scaled_Bad.mono_l k; refine ⟨?_, ?_⟩
   · intro y0 y1 y2
     unfold scaled_Bad.j0
     repeat' first
     | (with_reducible exact ih0 _ _ _)
     | (with_reducible exact ih1 _ _ _ _ _ _ _ _ _ _)
     | (with_reducible exact LeO.refl _)
     | (with_reducible exact LeO.none _)
     | (with_reducible refine LeO.ite ?_ ?_)
     | (with_reducible refine LeO.bind ?_ (fun _ => ?_))
     | exact ih0 _ _ _
     | exact ih1 _ _ _ _ _ _ _ _ _ _
     | exact LeO.none _
     | refine LeO.ite ?_ ?_
     | refine LeO.bind ?_ (fun _ => ?_)
   · intro y0 y1 y2 y3 y4 y5 y6 y7 y8 y9
     unfold scaled_Bad.l0
     repeat' first
     | (with_reducible exact ih0 _ _ _)
     | (with_reducible exact ih1 _ _ _ _ _ _ _ _ _ _)
     | (with_reducible exact LeO.refl _)
     | (with_reducible exact LeO.none _)
     | (with_reducible refine LeO.ite ?_ ?_)
     | (with_reducible refine LeO.bind ?_ (fun _ => ?_))
     | exact ih0 _ _ _
     | exact ih1 _ _ _ _ _ _ _ _ _ _
     | exact LeO.none _
     | refine LeO.ite ?_ ?_
     | refine LeO.bind ?_ (fun _ => ?_)
theorem scaled_Bad.mono : ∀ a0 a1 k, LeO (scaled_Bad.f k a0 a1) (scaled_Bad.f (k + 1) a0 a1) := by
 intro a0 a1 k
 obtain ⟨ih0, ih1⟩ := scaled_Bad.mono_l k
 unfold scaled_Bad.f
 repeat' first
     | (with_reducible exact ih0 _ _ _)
     | (with_reducible exact ih1 _ _ _ _ _ _ _ _ _ _)
     | (with_reducible exact LeO.refl _)
     | (with_reducible exact LeO.none _)
     | (with_reducible refine LeO.ite ?_ ?_)
     | (with_reducible refine LeO.bind ?_ (fun _ => ?_))
     | exact ih0 _ _ _
     | exact ih1 _ _ _ _ _ _ _ _ _ _
     | exact LeO.none _
     | refine LeO.ite ?_ ?_
     | refine LeO.bind ?_ (fun _ => ?_)
theorem scaled_Bad.j0.ev {x0 : Int} {x1 : Int} {x23 : Bool} {r_ : Int} (h : Ev (fun k => if x23 = true then (some 10000) else ((scaled_product.f (IntKind.u64.wrap (x0)) (IntKind.u64.wrap (x0))).bind fun bt107 => ((scaled_wide_times.f bt107.1 bt107.2.1 bt107.2.2.1 bt107.2.2.2 (IntKind.u64.wrap (x0))).bind fun bt111 => ((scaled_wide_times.f bt111.1 bt111.2.1 bt111.2.2.1 bt111.2.2.2 100).bind fun bt115 => ((scaled_product.f (IntKind.u64.wrap (x1)) (IntKind.u64.wrap (x1))).bind fun bt120 => ((scaled_wide_times.f bt120.1 bt120.2.1 bt120.2.2.1 bt120.2.2.2 (IntKind.u64.wrap (x1))).bind fun bt124 => (scaled_Bad.l0 k 0 10000 bt115.1 bt115.2.1 bt115.2.2.1 bt115.2.2.2 bt124.1 bt124.2.1 bt124.2.2.1 bt124.2.2.2))))))) r_) : Ev (fun k => scaled_Bad.j0 k x0 x1 x23) r_ := Ev.step (fun k => by rw [scaled_Bad.j0]) h
theorem scaled_Bad.l0.ev {x7 : Int} {x8 : Int} {x120000 : Int} {x120001 : Int} {x120002 : Int} {x120003 : Int} {x129000 : Int} {x129001 : Int} {x129002 : Int} {x129003 : Int} {r_ : Int} (h : Ev (fun k => if x7 < x8 then ((scaled_wide_times.f x129000 x129001 x129002 x129003 (IntKind.u64.wrap (wrap64 (Int.tdiv (wrap64 ((wrap64 (x7 + x8)) + 1)) 2)))).bind fun bt129 => ((scaled_smaller.f x120000 x120001 x120002 x120003 bt129.1 bt129.2.1 bt129.2.2.1 bt129.2.2.2).bind fun t133 => (if t133 = true then (scaled_Bad.l0 k x7 (wrap64 ((wrap64 (Int.tdiv (wrap64 ((wrap64 (x7 + x8)) + 1)) 2)) - 1)) x120000 x120001 x120002 x120003 x129000 x129001 x129002 x129003) else (scaled_Bad.l0 k (wrap64 (Int.tdiv (wrap64 ((wrap64 (x7 + x8)) + 1)) 2)) x8 x120000 x120001 x120002 x120003 x129000 x129001 x129002 x129003)))) else (some x7)) r_) : Ev (fun k => scaled_Bad.l0 k x7 x8 x120000 x120001 x120002 x120003 x129000 x129001 x129002 x129003) r_ := Ev.step (fun k => by rw [scaled_Bad.l0]) h
set_option maxHeartbeats 8000000 in
set_option maxRecDepth 100000 in
theorem scaled_Bad.calls (k : Nat) (a0 : Int) (a1 : Int) (r : Int) (w : World) (h : scaled_Bad.f k a0 a1 = some r) :
   Calls Try.prog 48 #[.int .i64 a0, .int .i64 a1] w fun e w' => e = .returned (.int .i64 r) ∧ Below w.heap.size w w' := by
 have hu83 := Try.underlying83
 have HB := Aside0.mk (Below.refl w.heap.size w)
 have H : ((scaled_Clamp.f a0).bind fun t105 => ((scaled_Clamp.f a1).bind fun t106 => (if t105 ≤ 0 then (some 0) else (if t106 ≤ 0 then (scaled_Bad.j0 k t105 t106 true) else (if t106 = 0 then (none) else (scaled_Bad.j0 k t105 t106 (decide ((wrap64 (Int.tdiv t105 t106)) ≥ 5)))))))) = some r := h
 clear h
 replace H := Option.bind_eq_some_iff.mp H
 obtain ⟨t105, A30, H⟩ := H
 replace H : ((scaled_Clamp.f a1).bind fun t106 => (if t105 ≤ 0 then (some 0) else (if t106 ≤ 0 then (scaled_Bad.j0 k t105 t106 true) else (if t106 = 0 then (none) else (scaled_Bad.j0 k t105 t106 (decide ((wrap64 (Int.tdiv t105 t106)) ≥ 5))))))) = some r := H
 have A3 := Aside0.mk A30
 clear A30
 replace H := Option.bind_eq_some_iff.mp H
 obtain ⟨t106, A40, H⟩ := H
 replace H : (if t105 ≤ 0 then (some 0) else (if t106 ≤ 0 then (scaled_Bad.j0 k t105 t106 true) else (if t106 = 0 then (none) else (scaled_Bad.j0 k t105 t106 (decide ((wrap64 (Int.tdiv t105 t106)) ≥ 5)))))) = some r := H
 have A4 := Aside0.mk A40
 clear A40
 by_cases c5 : t105 ≤ 0
 · rw [if_pos c5] at H
   have c5b0 : decide (t105 ≤ 0) = true := decide_eq_true c5
   clear c5; obtain rfl := Option.some.inj H
   go_enter Try.func48, Try.ntmps48
   go_wp2_with (first | ((with_reducible refine gate_callee (f := 50) rfl ?_); refine goesL_ (some 11) rfl rfl Try.func50 (by kernel_rfl) rfl #[.int .i64 a0] rfl (by (try simp only [List.map_toArray, List.map_cons, List.map_nil]); first | done | rfl | (simp only [List.length_drop, List.length_take]; rfl)) ?_; (with_reducible refine (scaled_Clamp.calls a0 t105 _ A3.out).mono ?_); rintro e w6 ⟨rfl, hb⟩; refine ⟨_, rfl, ?_⟩; have n0_ := Aside0.mk (below_step (by repeat (first | (with_reducible first | exact HB.out | apply bA | apply bN | apply bD) | exact HB.out)) hb); clear HB; have HB := n0_; clear n0_; (try clear hb); (try clear hb2); (try clear hk); (try clear hi)) | ((with_reducible refine gate_callee (f := 50) rfl ?_); refine goesL_ (some 13) rfl rfl Try.func50 (by kernel_rfl) rfl #[.int .i64 a1] rfl (by (try simp only [List.map_toArray, List.map_cons, List.map_nil]); first | done | rfl | (simp only [List.length_drop, List.length_take]; rfl)) ?_; (with_reducible refine (scaled_Clamp.calls a1 t106 _ A4.out).mono ?_); rintro e w7 ⟨rfl, hb⟩; refine ⟨_, rfl, ?_⟩; have n0_ := Aside0.mk (below_step (by repeat (first | (with_reducible first | exact HB.out | apply bA | apply bN | apply bD) | exact HB.out)) hb); clear HB; have HB := n0_; clear n0_; (try clear hb); (try clear hb2); (try clear hk); (try clear hi)))
   go_ret
   exact ⟨by first | rfl | (simp [errW_none, errW_some] <;> rfl) | (simp [*, errW_none, errW_some] <;> rfl), by repeat (first | (with_reducible first | exact HB.out | apply bA | apply bN | apply bD) | exact HB.out)⟩
 rw [if_neg c5] at H
 have c5b0 : decide (t105 ≤ 0) = false := decide_eq_false c5
 clear c5
 have HC8 := Aside0.mk H
 clear H
 go_enter Try.func48, Try.ntmps48
 go_upto_region 4 with (first | ((with_reducible refine gate_callee (f := 50) rfl ?_); refine goesL_ (some 11) rfl rfl Try.func50 (by kernel_rfl) rfl #[.int .i64 a0] rfl (by (try simp only [List.map_toArray, List.map_cons, List.map_nil]); first | done | rfl | (simp only [List.length_drop, List.length_take]; rfl)) ?_; (with_reducible refine (scaled_Clamp.calls a0 t105 _ A3.out).mono ?_); rintro e w9 ⟨rfl, hb⟩; refine ⟨_, rfl, ?_⟩; have n0_ := Aside0.mk (below_step (by repeat (first | (with_reducible first | exact HB.out | apply bA | apply bN | apply bD) | exact HB.out)) hb); clear HB; have HB := n0_; clear n0_; (try clear hb); (try clear hb2); (try clear hk); (try clear hi)) | ((with_reducible refine gate_callee (f := 50) rfl ?_); refine goesL_ (some 13) rfl rfl Try.func50 (by kernel_rfl) rfl #[.int .i64 a1] rfl (by (try simp only [List.map_toArray, List.map_cons, List.map_nil]); first | done | rfl | (simp only [List.length_drop, List.length_take]; rfl)) ?_; (with_reducible refine (scaled_Clamp.calls a1 t106 _ A4.out).mono ?_); rintro e w10 ⟨rfl, hb⟩; refine ⟨_, rfl, ?_⟩; have n0_ := Aside0.mk (below_step (by repeat (first | (with_reducible first | exact HB.out | apply bA | apply bN | apply bD) | exact HB.out)) hb); clear HB; have HB := n0_; clear n0_; (try clear hb); (try clear hb2); (try clear hk); (try clear hi)))
 (try simp only [Act.put, List.setIfInBounds_toArray, List.set_cons_zero, List.set_cons_succ])
 go_cut [23] (fun v23 wc => ∃ (kq : Nat) (x23_7 : Bool), v23 = .bool x23_7 ∧ Aside0 (scaled_Bad.j0 kq t105 t106 x23_7 = some r) ∧ Aside0 (kq ≤ k) ∧ Aside0 (Below w.heap.size w wc))
 case first =>
   have H := HC8.out; clear HC8; by_cases c11 : t106 ≤ 0
   · rw [if_pos c11] at H
     have c11b0 : decide (t106 ≤ 0) = true := decide_eq_true c11
     clear c11
     (first | rw [c11b0] | (simp only [i64_w, i32_w]; rw [c11b0]) | skip)
     have H' := Aside0.mk H; clear H; go_wp2
     go_meet
     case rel => exact ⟨_, (true), (by first | rfl | (simp; done) | (simp [*]; done)), H', ⟨by first | omega | exact Nat.le_refl _⟩, ⟨by repeat (first | (with_reducible first | exact HB.out | apply bA | apply bN | apply bD) | exact HB.out)⟩⟩
   rw [if_neg c11] at H
   have c11b0 : decide (t106 ≤ 0) = false := decide_eq_false c11
   clear c11
   (first | rw [c11b0] | (simp only [i64_w, i32_w]; rw [c11b0]) | skip)
   by_cases c12 : t106 = 0
   · rw [if_pos c12] at H
     exact absurd H (by simp)
   rw [if_neg c12] at H
   have c12b0 : (t106 == 0) = false := beq_eq_false_iff_ne.mpr c12
   have c12b1 : (t106 != 0) = true := bne_iff_ne.mpr c12
   have H' := Aside0.mk H; clear H; go_wp2
   go_meet
   case rel => exact ⟨_, (decide ((wrap64 (Int.tdiv t105 t106)) ≥ 5)), (by first | rfl | (simp; done) | (simp [*]; done)), H', ⟨by first | omega | exact Nat.le_refl _⟩, ⟨by repeat (first | (with_reducible first | exact HB.out | apply bA | apply bN | apply bD) | exact HB.out)⟩⟩
 case rest =>
   clear HC8
   try clear c1
   try clear p2
   try clear c4
   try clear c5
   try clear c5b0
   try clear p6
   try clear c11
   try clear c11b0
   try clear c12
   try clear c12b0
   try clear c12b1
   obtain ⟨kq, x23_7, rfl, HA, HJ7, HB⟩ := hcut
   cases kq with
   | zero => exact absurd HA.out (by simp [scaled_Bad.j0])
   | succ kj7 =>
     have H := HA.out; clear HA; simp only [scaled_Bad.j0] at H
     by_cases c13 : x23_7 = true
     · subst c13
       have H1 : (some 10000) = some r := by rw [if_pos rfl] at H; exact H
       clear H; have H := H1; clear H1; obtain rfl := Option.some.inj H
       go_wp2
       go_ret
       exact ⟨by first | rfl | (simp [errW_none, errW_some] <;> rfl) | (simp [*, errW_none, errW_some] <;> rfl), by repeat (first | (with_reducible first | exact HB.out | apply bA | apply bN | apply bD) | exact HB.out)⟩
     replace c13 := Bool.eq_false_iff.mpr c13
     subst c13
     have H1 : ((scaled_product.f (IntKind.u64.wrap (t105)) (IntKind.u64.wrap (t105))).bind fun bt107 => ((scaled_wide_times.f bt107.1 bt107.2.1 bt107.2.2.1 bt107.2.2.2 (IntKind.u64.wrap (t105))).bind fun bt111 => ((scaled_wide_times.f bt111.1 bt111.2.1 bt111.2.2.1 bt111.2.2.2 100).bind fun bt115 => ((scaled_product.f (IntKind.u64.wrap (t106)) (IntKind.u64.wrap (t106))).bind fun bt120 => ((scaled_wide_times.f bt120.1 bt120.2.1 bt120.2.2.1 bt120.2.2.2 (IntKind.u64.wrap (t106))).bind fun bt124 => (scaled_Bad.l0 kj7 0 10000 bt115.1 bt115.2.1 bt115.2.2.1 bt115.2.2.2 bt124.1 bt124.2.1 bt124.2.2.1 bt124.2.2.2)))))) = some r := by rw [if_neg (show ¬ (false = true) by decide)] at H; exact H
     clear H; have H := H1; clear H1; replace H := Option.bind_eq_some_iff.mp H; obtain ⟨⟨t107, t108, t109, t110⟩, A140, H⟩ := H
     replace H : ((scaled_wide_times.f t107 t108 t109 t110 (IntKind.u64.wrap (t105))).bind fun bt111 => ((scaled_wide_times.f bt111.1 bt111.2.1 bt111.2.2.1 bt111.2.2.2 100).bind fun bt115 => ((scaled_product.f (IntKind.u64.wrap (t106)) (IntKind.u64.wrap (t106))).bind fun bt120 => ((scaled_wide_times.f bt120.1 bt120.2.1 bt120.2.2.1 bt120.2.2.2 (IntKind.u64.wrap (t106))).bind fun bt124 => (scaled_Bad.l0 kj7 0 10000 bt115.1 bt115.2.1 bt115.2.2.1 bt115.2.2.2 bt124.1 bt124.2.1 bt124.2.2.1 bt124.2.2.2))))) = some r := H
     have A14 := Aside0.mk A140; clear A140; replace H := Option.bind_eq_some_iff.mp H; obtain ⟨⟨t111, t112, t113, t114⟩, A150, H⟩ := H
     replace H : ((scaled_wide_times.f t111 t112 t113 t114 100).bind fun bt115 => ((scaled_product.f (IntKind.u64.wrap (t106)) (IntKind.u64.wrap (t106))).bind fun bt120 => ((scaled_wide_times.f bt120.1 bt120.2.1 bt120.2.2.1 bt120.2.2.2 (IntKind.u64.wrap (t106))).bind fun bt124 => (scaled_Bad.l0 kj7 0 10000 bt115.1 bt115.2.1 bt115.2.2.1 bt115.2.2.2 bt124.1 bt124.2.1 bt124.2.2.1 bt124.2.2.2)))) = some r := H
     have A15 := Aside0.mk A150; clear A150; replace H := Option.bind_eq_some_iff.mp H; obtain ⟨⟨t115, t116, t117, t118⟩, A160, H⟩ := H
     replace H : ((scaled_product.f (IntKind.u64.wrap (t106)) (IntKind.u64.wrap (t106))).bind fun bt120 => ((scaled_wide_times.f bt120.1 bt120.2.1 bt120.2.2.1 bt120.2.2.2 (IntKind.u64.wrap (t106))).bind fun bt124 => (scaled_Bad.l0 kj7 0 10000 t115 t116 t117 t118 bt124.1 bt124.2.1 bt124.2.2.1 bt124.2.2.2))) = some r := H
     have A16 := Aside0.mk A160; clear A160; replace H := Option.bind_eq_some_iff.mp H; obtain ⟨⟨t120, t121, t122, t123⟩, A170, H⟩ := H
     replace H : ((scaled_wide_times.f t120 t121 t122 t123 (IntKind.u64.wrap (t106))).bind fun bt124 => (scaled_Bad.l0 kj7 0 10000 t115 t116 t117 t118 bt124.1 bt124.2.1 bt124.2.2.1 bt124.2.2.2)) = some r := H
     have A17 := Aside0.mk A170; clear A170; replace H := Option.bind_eq_some_iff.mp H; obtain ⟨⟨t124, t125, t126, t127⟩, A180, H⟩ := H
     replace H : (scaled_Bad.l0 kj7 0 10000 t115 t116 t117 t118 t124 t125 t126 t127) = some r := H
     have A18 := Aside0.mk A180; clear A180; have H' := Aside0.mk H; clear H; go_wp2_with (first | ((with_reducible refine gate_callee (f := 59) rfl ?_); refine goesL_ (some 28) rfl rfl Try.func59 (by kernel_rfl) rfl #[.int .u64 (IntKind.u64.wrap (t105)), .int .u64 (IntKind.u64.wrap (t105))] rfl (by (try simp only [List.map_toArray, List.map_cons, List.map_nil]); first | done | rfl | (simp only [List.length_drop, List.length_take]; rfl)) ?_; (with_reducible refine (scaled_product.calls (IntKind.u64.wrap (t105)) (IntKind.u64.wrap (t105)) t107 t108 t109 t110 _ A14.out).mono ?_); rintro e w19 ⟨rfl, hb⟩; refine ⟨_, rfl, ?_⟩; have n0_ := Aside0.mk (below_step (by repeat (first | (with_reducible first | exact HB.out | apply bA | apply bN | apply bD) | exact HB.out)) hb); clear HB; have HB := n0_; clear n0_; (try clear hb); (try clear hb2); (try clear hk); (try clear hi)) | ((with_reducible refine gate_callee (f := 60) rfl ?_); refine goesL_ (some 31) rfl rfl Try.func60 (by kernel_rfl) rfl #[.agg #[.int .u64 t107, .int .u64 t108, .int .u64 t109, .int .u64 t110], .int .u64 (IntKind.u64.wrap (t105))] rfl (by (try simp only [List.map_toArray, List.map_cons, List.map_nil]); first | done | rfl | (simp only [List.length_drop, List.length_take]; rfl)) ?_; (with_reducible refine (scaled_wide_times.calls t107 t108 t109 t110 (IntKind.u64.wrap (t105)) t111 t112 t113 t114 _ A15.out).mono ?_); rintro e w20 ⟨rfl, hb⟩; refine ⟨_, rfl, ?_⟩; have n0_ := Aside0.mk (below_step (by repeat (first | (with_reducible first | exact HB.out | apply bA | apply bN | apply bD) | exact HB.out)) hb); clear HB; have HB := n0_; clear n0_; (try clear hb); (try clear hb2); (try clear hk); (try clear hi)) | ((with_reducible refine gate_callee (f := 60) rfl ?_); refine goesL_ (some 32) rfl rfl Try.func60 (by kernel_rfl) rfl #[.agg #[.int .u64 t111, .int .u64 t112, .int .u64 t113, .int .u64 t114], .int .u64 100] rfl (by (try simp only [List.map_toArray, List.map_cons, List.map_nil]); first | done | rfl | (simp only [List.length_drop, List.length_take]; rfl)) ?_; (with_reducible refine (scaled_wide_times.calls t111 t112 t113 t114 100 t115 t116 t117 t118 _ A16.out).mono ?_); rintro e w21 ⟨rfl, hb⟩; refine ⟨_, rfl, ?_⟩; have n0_ := Aside0.mk (below_step (by repeat (first | (with_reducible first | exact HB.out | apply bA | apply bN | apply bD) | exact HB.out)) hb); clear HB; have HB := n0_; clear n0_; (try clear hb); (try clear hb2); (try clear hk); (try clear hi)) | ((with_reducible refine gate_dst (N := 5) rfl ?_); refine box_event ?hg (N := 5) ?hd (cs := #[.int .u64 0, .int .u64 0, .int .u64 0, .int .u64 0]) (t := 83) ?hr ?_; (case hd => rfl); (case hg => rfl); (case hr => first | (go_simp; done) | (go_simp; rfl)); intro gb119 hg w22 hbox hb; have n0_ := Aside0.mk (below_step (by repeat (first | (with_reducible first | exact HB.out | apply bA | apply bN | apply bD) | exact HB.out)) hb); have n1_ := Aside0.mk (hbox); have n2_ := Aside0.mk ((by rw [hg]; exact (below_size (by repeat (first | (with_reducible first | exact HB.out | apply bA | apply bN | apply bD) | exact HB.out))) : w.heap.size ≤ gb119)); have n3_ := Aside0.mk ((by rw [hg]; exact (below_size (by repeat (first | (with_reducible first | exact HB.out | apply bA | apply bN | apply bD) | exact HB.out))) : w.heap.size ≤ gb119)); clear HB; have HB := n0_; have BK119 := n1_; have GW119 := n2_; have GE119 := n3_; clear n0_ n1_ n2_ n3_; clear hb hbox hg; have hcz23_0 : w22.cell? ⟨gb119, 0, none⟩ = some (.int .u64 0) := (blk_cell BK119.out 0).trans rfl; have hcz23_1 : w22.cell? ⟨gb119, 1, none⟩ = some (.int .u64 0) := (blk_cell BK119.out 1).trans rfl; have hcz23_2 : w22.cell? ⟨gb119, 2, none⟩ = some (.int .u64 0) := (blk_cell BK119.out 2).trans rfl; have hcz23_3 : w22.cell? ⟨gb119, 3, none⟩ = some (.int .u64 0) := (blk_cell BK119.out 3).trans rfl; have hfz23_0 := blk_frozen BK119.out 0; have hfz23_1 := blk_frozen BK119.out 1; have hfz23_2 := blk_frozen BK119.out 2; have hfz23_3 := blk_frozen BK119.out 3) | ((with_reducible refine gate_callee (f := 59) rfl ?_); refine goesL_ (some 37) rfl rfl Try.func59 (by kernel_rfl) rfl #[.int .u64 (IntKind.u64.wrap (t106)), .int .u64 (IntKind.u64.wrap (t106))] rfl (by (try simp only [List.map_toArray, List.map_cons, List.map_nil]); first | done | rfl | (simp only [List.length_drop, List.length_take]; rfl)) ?_; (with_reducible refine (scaled_product.calls (IntKind.u64.wrap (t106)) (IntKind.u64.wrap (t106)) t120 t121 t122 t123 _ A17.out).mono ?_); rintro e w24 ⟨rfl, hb⟩; refine ⟨_, rfl, ?_⟩; have n0_ := Aside0.mk (blk_below (g := gb119) (o := .cells #[.int .u64 t115, .int .u64 t116, .int .u64 t117, .int .u64 t118] 83 (0, 0)) (by (with_reducible repeat first | apply kN | apply kD | apply kA); refine blk_put (cs := #[.int .u64 t115, .int .u64 t116, .int .u64 t117, .int .u64 0]) ?_ 3 _ rfl; (with_reducible repeat first | apply kN | apply kD | apply kA); refine blk_put (cs := #[.int .u64 t115, .int .u64 t116, .int .u64 0, .int .u64 0]) ?_ 2 _ rfl; (with_reducible repeat first | apply kN | apply kD | apply kA); refine blk_put (cs := #[.int .u64 t115, .int .u64 0, .int .u64 0, .int .u64 0]) ?_ 1 _ rfl; (with_reducible repeat first | apply kN | apply kD | apply kA); refine blk_put (cs := #[.int .u64 0, .int .u64 0, .int .u64 0, .int .u64 0]) ?_ 0 _ rfl; (with_reducible repeat first | apply kN | apply kD | apply kA); exact BK119.out) hb); have n1_ := Aside0.mk (below_step (by repeat (first | (with_reducible first | exact HB.out | apply bA | apply bN | apply bD | refine below_set ?_ GE119.out) | exact HB.out)) hb); clear BK119; clear HB; have BK119 := n0_; have HB := n1_; clear n0_ n1_; (try clear hb); (try clear hb2); (try clear hk); (try clear hi)) | ((with_reducible refine gate_callee (f := 60) rfl ?_); refine goesL_ (some 40) rfl rfl Try.func60 (by kernel_rfl) rfl #[.agg #[.int .u64 t120, .int .u64 t121, .int .u64 t122, .int .u64 t123], .int .u64 (IntKind.u64.wrap (t106))] rfl (by (try simp only [List.map_toArray, List.map_cons, List.map_nil]); first | done | rfl | (simp only [List.length_drop, List.length_take]; rfl)) ?_; (with_reducible refine (scaled_wide_times.calls t120 t121 t122 t123 (IntKind.u64.wrap (t106)) t124 t125 t126 t127 _ A18.out).mono ?_); rintro e w25 ⟨rfl, hb⟩; refine ⟨_, rfl, ?_⟩; have n0_ := Aside0.mk (blk_below (g := gb119) (o := .cells #[.int .u64 t115, .int .u64 t116, .int .u64 t117, .int .u64 t118] 83 (0, 0)) (by (with_reducible repeat first | apply kN | apply kD | apply kA); exact BK119.out) hb); have n1_ := Aside0.mk (below_step (by repeat (first | (with_reducible first | exact HB.out | apply bA | apply bN | apply bD | refine below_set ?_ GE119.out) | exact HB.out)) hb); clear BK119; clear HB; have BK119 := n0_; have HB := n1_; clear n0_ n1_; (try clear hb); (try clear hb2); (try clear hk); (try clear hi)) | ((with_reducible refine gate_dst (N := 6) rfl ?_); refine box_event ?hg (N := 6) ?hd (cs := #[.int .u64 0, .int .u64 0, .int .u64 0, .int .u64 0]) (t := 83) ?hr ?_; (case hd => rfl); (case hg => rfl); (case hr => first | (go_simp; done) | (go_simp; rfl)); intro gb128 hg w26 hbox hb; have n0_ := Aside0.mk (blk_below (g := gb119) (o := .cells #[.int .u64 t115, .int .u64 t116, .int .u64 t117, .int .u64 t118] 83 (0, 0)) (by (with_reducible repeat first | apply kN | apply kD | apply kA); exact BK119.out) hb); have n1_ := Aside0.mk (below_step (by repeat (first | (with_reducible first | exact HB.out | apply bA | apply bN | apply bD | refine below_set ?_ GE119.out) | exact HB.out)) hb); have n2_ := Aside0.mk (hbox); have n3_ := Aside0.mk ((by rw [hg]; exact (below_size (by repeat (first | (with_reducible first | exact HB.out | apply bA | apply bN | apply bD | refine below_set ?_ GE119.out) | exact HB.out))) : w.heap.size ≤ gb128)); have n4_ := Aside0.mk ((by rw [hg]; exact (below_size (by repeat (first | (with_reducible first | exact HB.out | apply bA | apply bN | apply bD | refine below_set ?_ GE119.out) | exact HB.out))) : w.heap.size ≤ gb128)); have n5_ := Aside0.mk ((by rw [hg]; exact Nat.ne_of_lt (blk_lt (g := gb119) (o := .cells #[.int .u64 t115, .int .u64 t116, .int .u64 t117, .int .u64 t118] 83 (0, 0)) (by (with_reducible repeat first | apply kN | apply kD | apply kA); exact BK119.out)) : gb119 ≠ gb128)); have n6_ := Aside0.mk ((by rw [hg]; exact Nat.ne_of_gt (blk_lt (g := gb119) (o := .cells #[.int .u64 t115, .int .u64 t116, .int .u64 t117, .int .u64 t118] 83 (0, 0)) (by (with_reducible repeat first | apply kN | apply kD | apply kA); exact BK119.out)) : gb128 ≠ gb119)); clear BK119; clear HB; have BK119 := n0_; have HB := n1_; have BK128 := n2_; have GW128 := n3_; have GE128 := n4_; have NB119_128 := n5_; have NB128_119 := n6_; clear n0_ n1_ n2_ n3_ n4_ n5_ n6_; clear hb hbox hg; have hnb27 := NB128_119.out; have hnc27 := NB119_128.out; have hcz28_0 : w26.cell? ⟨gb128, 0, none⟩ = some (.int .u64 0) := (blk_cell BK128.out 0).trans rfl; have hcz28_1 : w26.cell? ⟨gb128, 1, none⟩ = some (.int .u64 0) := (blk_cell BK128.out 1).trans rfl; have hcz28_2 : w26.cell? ⟨gb128, 2, none⟩ = some (.int .u64 0) := (blk_cell BK128.out 2).trans rfl; have hcz28_3 : w26.cell? ⟨gb128, 3, none⟩ = some (.int .u64 0) := (blk_cell BK128.out 3).trans rfl; have hfz28_0 := blk_frozen BK128.out 0; have hfz28_1 := blk_frozen BK128.out 1; have hfz28_2 := blk_frozen BK128.out 2; have hfz28_3 := blk_frozen BK128.out 3))
     go_loopg [7, 8] kj7 (fun kq v7 v8 w' => ∃ (x7_2 : Int) (x8_2 : Int), v7 = .int .i64 x7_2 ∧ v8 = .int .i64 x8_2 ∧ Aside0 (scaled_Bad.l0 kq x7_2 x8_2 t115 t116 t117 t118 t124 t125 t126 t127 = some r) ∧ Aside0 (kq ≤ kj7) ∧ Aside0 (w'.heap[gb119]? = some (.cells #[.int .u64 t115, .int .u64 t116, .int .u64 t117, .int .u64 t118] 83 (0, 0))) ∧ Aside0 (w'.heap[gb128]? = some (.cells #[.int .u64 t124, .int .u64 t125, .int .u64 t126, .int .u64 t127] 83 (0, 0))) ∧ Aside0 (Below w.heap.size w w'))
     case atStart => exact ⟨(0), (10000), (by first | rfl | (simp; done) | (simp [*]; done)), (by first | rfl | (simp; done) | (simp [*]; done)), H', ⟨Nat.le_refl _⟩, ⟨by (with_reducible repeat first | apply kN | apply kD | apply kA); refine blk_far ?_ NB119_128.out _; (with_reducible repeat first | apply kN | apply kD | apply kA); refine blk_far ?_ NB119_128.out _; (with_reducible repeat first | apply kN | apply kD | apply kA); refine blk_far ?_ NB119_128.out _; (with_reducible repeat first | apply kN | apply kD | apply kA); refine blk_far ?_ NB119_128.out _; (with_reducible repeat first | apply kN | apply kD | apply kA); exact BK119.out⟩, ⟨by (with_reducible repeat first | apply kN | apply kD | apply kA); refine blk_put (cs := #[.int .u64 t124, .int .u64 t125, .int .u64 t126, .int .u64 0]) ?_ 3 _ rfl; (with_reducible repeat first | apply kN | apply kD | apply kA); refine blk_put (cs := #[.int .u64 t124, .int .u64 t125, .int .u64 0, .int .u64 0]) ?_ 2 _ rfl; (with_reducible repeat first | apply kN | apply kD | apply kA); refine blk_put (cs := #[.int .u64 t124, .int .u64 0, .int .u64 0, .int .u64 0]) ?_ 1 _ rfl; (with_reducible repeat first | apply kN | apply kD | apply kA); refine blk_put (cs := #[.int .u64 0, .int .u64 0, .int .u64 0, .int .u64 0]) ?_ 0 _ rfl; (with_reducible repeat first | apply kN | apply kD | apply kA); exact BK128.out⟩, ⟨by repeat (first | (with_reducible first | exact HB.out | apply bA | apply bN | apply bD | refine below_set ?_ GE119.out | refine below_set ?_ GE128.out) | exact HB.out)⟩⟩
     case round =>
       clear H'
       try clear c1
       try clear c2
       try clear p2
       try clear c4
       try clear c5
       try clear c5b0
       try clear c6
       try clear p6
       try clear c11
       try clear c11b0
       try clear c12
       try clear c12b0
       try clear c12b1
       try clear c13
       try clear c27
       try clear hcz23_0
       try clear hcz23_1
       try clear hcz23_2
       try clear hcz23_3
       try clear hcz28_0
       try clear hcz28_1
       try clear hcz28_2
       try clear hcz28_3
       try clear hfz23_0
       try clear hfz23_1
       try clear hfz23_2
       try clear hfz23_3
       try clear hfz28_0
       try clear hfz28_1
       try clear hfz28_2
       try clear hfz28_3
       try clear p2
       try clear p6
       obtain ⟨x7_2, x8_2, rfl, rfl, HA, HK2, BK119, BK128, HB⟩ := hrel
       cases gk with
       | zero => exact absurd HA.out (by simp [scaled_Bad.l0])
       | succ k2 =>
        have H := HA.out; clear HA; simp only [scaled_Bad.l0] at H
        by_cases c29 : x7_2 < x8_2
        case neg =>
          rw [if_neg c29] at H
          have c29b0 : decide (x7_2 < x8_2) = false := decide_eq_false c29
          clear c29; obtain rfl := Option.some.inj H
          go_wp2
          go_ret
          exact ⟨by first | rfl | (simp [errW_none, errW_some] <;> rfl) | (simp [*, errW_none, errW_some] <;> rfl), by repeat (first | (with_reducible first | exact HB.out | apply bA | apply bN | apply bD | refine below_set ?_ GE119.out | refine below_set ?_ GE128.out) | exact HB.out)⟩
        rw [if_pos c29] at H
        have c29b0 : decide (x7_2 < x8_2) = true := decide_eq_true c29
        clear c29; replace H := Option.bind_eq_some_iff.mp H; obtain ⟨⟨t129, t130, t131, t132⟩, A300, H⟩ := H
        replace H : ((scaled_smaller.f t115 t116 t117 t118 t129 t130 t131 t132).bind fun t133 => (if t133 = true then (scaled_Bad.l0 k2 x7_2 (wrap64 ((wrap64 (Int.tdiv (wrap64 ((wrap64 (x7_2 + x8_2)) + 1)) 2)) - 1)) t115 t116 t117 t118 t124 t125 t126 t127) else (scaled_Bad.l0 k2 (wrap64 (Int.tdiv (wrap64 ((wrap64 (x7_2 + x8_2)) + 1)) 2)) x8_2 t115 t116 t117 t118 t124 t125 t126 t127))) = some r := H
        have A30 := Aside0.mk A300; clear A300; replace H := Option.bind_eq_some_iff.mp H; obtain ⟨t133, A310, H⟩ := H; replace H : (if t133 = true then (scaled_Bad.l0 k2 x7_2 (wrap64 ((wrap64 (Int.tdiv (wrap64 ((wrap64 (x7_2 + x8_2)) + 1)) 2)) - 1)) t115 t116 t117 t118 t124 t125 t126 t127) else (scaled_Bad.l0 k2 (wrap64 (Int.tdiv (wrap64 ((wrap64 (x7_2 + x8_2)) + 1)) 2)) x8_2 t115 t116 t117 t118 t124 t125 t126 t127)) = some r := H
        have A31 := Aside0.mk A310; clear A310; by_cases c32 : t133 = true
        · subst c32
          have H1 : (scaled_Bad.l0 k2 x7_2 (wrap64 ((wrap64 (Int.tdiv (wrap64 ((wrap64 (x7_2 + x8_2)) + 1)) 2)) - 1)) t115 t116 t117 t118 t124 t125 t126 t127) = some r := by rw [if_pos rfl] at H; exact H
          clear H; have H := H1; clear H1; have H' := Aside0.mk H; clear H
          try go_wp2
          have n0_ := Aside0.mk (blk_drew BK119.out)
          have n1_ := Aside0.mk (blk_drew BK128.out)
          have n2_ := Aside0.mk (below_drew1 HB.out)
          clear BK119; clear BK128; clear HB; have BK119 := n0_; have BK128 := n1_; have HB := n2_; clear n0_ n1_ n2_; refine start_ (n := 6) (S := fun w' => w'.cell? ⟨gb119, 0, none⟩ = some (.int .u64 t115) ∧ w'.cell? ⟨gb119, 1, none⟩ = some (.int .u64 t116) ∧ w'.cell? ⟨gb119, 2, none⟩ = some (.int .u64 t117) ∧ w'.cell? ⟨gb119, 3, none⟩ = some (.int .u64 t118) ∧ w'.cell? ⟨gb128, 0, none⟩ = some (.int .u64 t124) ∧ w'.cell? ⟨gb128, 1, none⟩ = some (.int .u64 t125) ∧ w'.cell? ⟨gb128, 2, none⟩ = some (.int .u64 t126) ∧ w'.cell? ⟨gb128, 3, none⟩ = some (.int .u64 t127)) (ds := []) (bm 6 0) (by kernel_rfl) rfl rfl ⟨(blk_cell BK119.out 0).trans rfl, (blk_cell BK119.out 1).trans rfl, (blk_cell BK119.out 2).trans rfl, (blk_cell BK119.out 3).trans rfl, (blk_cell BK128.out 0).trans rfl, (blk_cell BK128.out 1).trans rfl, (blk_cell BK128.out 2).trans rfl, (blk_cell BK128.out 3).trans rfl⟩ (fun hHeld => ?_)
          generalize wr.drew = w33 at BK119 BK128 HB hHeld ⊢
          refine pure_ (i := 2) (N := some 51) (v := ?_) (a' := ?_) (bm 6 4) rfl rfl (by kernel_rfl) (fun _ _ _ h => h) (Or.inl ⟨by rfl, ?_⟩) ?_ ?_; rotate_left; intro w'; go_simp; with_reducible rfl; rotate_left; simp only [aP, aS, aZ, aC, aW, aX]; rfl
          refine pure_ (i := 3) (N := some 52) (v := ?_) (a' := ?_) (bm 6 12) rfl rfl (by kernel_rfl) (fun _ _ _ h => h) (Or.inl ⟨by rfl, ?_⟩) ?_ ?_; rotate_left; intro w'; go_simp; with_reducible rfl; rotate_left; simp only [aP, aS, aZ, aC, aW, aX]; rfl
          refine take_ (i := 0) (N := some 49) (v := ?_) (a' := ?_) (bm 6 13) rfl rfl (by kernel_rfl) (fun _ _ _ h => h) (Or.inl ⟨by rfl, ?_⟩) hHeld ?_ ?_; rotate_left; rintro w' ⟨s0, s1, s2, s3, s4, s5, s6, s7⟩; go_simp; with_reducible rfl; rotate_left; simp only [aP, aS, aZ, aC, aW, aX]; rfl
          refine take_ (i := 1) (N := some 50) (v := ?_) (a' := ?_) (bm 6 15) rfl rfl (by kernel_rfl) (fun _ _ _ h => h) (Or.inl ⟨by rfl, ?_⟩) hHeld ?_ ?_; rotate_left; rintro w' ⟨s0, s1, s2, s3, s4, s5, s6, s7⟩; go_simp; with_reducible rfl; rotate_left; simp only [aP, aS, aZ, aC, aW, aX]; rfl
          refine one_ (i := 4) (N := some 53) (bm 6 31) rfl rfl (by kernel_rfl) (by decide) (fun K hK => ?_)
          refine goes_ Try.func60 (by kernel_rfl) rfl #[.agg #[.int .u64 t124, .int .u64 t125, .int .u64 t126, .int .u64 t127], .int .u64 (IntKind.u64.wrap (wrap64 (Int.tdiv (wrap64 ((wrap64 (x7_2 + x8_2)) + 1)) 2)))] (by rfl) rfl rfl (by (try simp only [List.map_toArray, List.map_cons, List.map_nil]); first | done | rfl | (simp only [List.length_drop, List.length_take]; rfl)) ?_
          with_reducible refine (scaled_wide_times.calls t124 t125 t126 t127 (IntKind.u64.wrap (wrap64 (Int.tdiv (wrap64 ((wrap64 (x7_2 + x8_2)) + 1)) 2))) t129 t130 t131 t132 _ A30.out).mono ?_
          rintro e w34 ⟨rfl, hb⟩
          refine ⟨_, rfl, ?_⟩
          have n0_ := Aside0.mk (blk_below (g := gb119) (o := .cells #[.int .u64 t115, .int .u64 t116, .int .u64 t117, .int .u64 t118] 83 (0, 0)) (by (with_reducible repeat first | apply kN | apply kD | apply kA); exact BK119.out) hb)
          have n1_ := Aside0.mk (blk_below (g := gb128) (o := .cells #[.int .u64 t124, .int .u64 t125, .int .u64 t126, .int .u64 t127] 83 (0, 0)) (by (with_reducible repeat first | apply kN | apply kD | apply kA); exact BK128.out) hb)
          have n2_ := Aside0.mk (below_step (by repeat (first | (with_reducible first | exact HB.out | apply bA | apply bN | apply bD | refine below_set ?_ GE119.out | refine below_set ?_ GE128.out) | exact HB.out)) hb)
          clear BK119; clear BK128; clear HB; have BK119 := n0_; have BK128 := n1_; have HB := n2_; clear n0_ n1_ n2_
          (try clear hb)
          (try clear hb2)
          (try clear hk)
          (try clear hi)
          refine hK.out _ _ ⟨(blk_cell BK119.out 0).trans rfl, (blk_cell BK119.out 1).trans rfl, (blk_cell BK119.out 2).trans rfl, (blk_cell BK119.out 3).trans rfl, (blk_cell BK128.out 0).trans rfl, (blk_cell BK128.out 1).trans rfl, (blk_cell BK128.out 2).trans rfl, (blk_cell BK128.out 3).trans rfl⟩ (fun hHeld => ?_)
          clear hK K; refine norm_ (a' := ?_) ?_ ?_
          rotate_left
          · show Act.put _ (some 53) _ = _
            simp only [aP, aS, aZ, aC, aW, aX]
            rfl
          refine one_ (i := 5) (N := some 54) (bm 6 63) rfl rfl (by kernel_rfl) (by decide) (fun K hK => ?_)
          refine goes_ Try.func61 (by kernel_rfl) rfl #[.agg #[.int .u64 t115, .int .u64 t116, .int .u64 t117, .int .u64 t118], .agg #[.int .u64 t129, .int .u64 t130, .int .u64 t131, .int .u64 t132]] (by rfl) rfl rfl (by (try simp only [List.map_toArray, List.map_cons, List.map_nil]); first | done | rfl | (simp only [List.length_drop, List.length_take]; rfl)) ?_
          with_reducible refine (scaled_smaller.calls t115 t116 t117 t118 t129 t130 t131 t132 true _ A31.out).mono ?_
          rintro e w35 ⟨rfl, hb⟩
          refine ⟨_, rfl, ?_⟩
          have n0_ := Aside0.mk (blk_below (g := gb119) (o := .cells #[.int .u64 t115, .int .u64 t116, .int .u64 t117, .int .u64 t118] 83 (0, 0)) (by (with_reducible repeat first | apply kN | apply kD | apply kA); exact BK119.out) hb)
          have n1_ := Aside0.mk (blk_below (g := gb128) (o := .cells #[.int .u64 t124, .int .u64 t125, .int .u64 t126, .int .u64 t127] 83 (0, 0)) (by (with_reducible repeat first | apply kN | apply kD | apply kA); exact BK128.out) hb)
          have n2_ := Aside0.mk (below_step (by repeat (first | (with_reducible first | exact HB.out | apply bA | apply bN | apply bD | refine below_set ?_ GE119.out | refine below_set ?_ GE128.out) | exact HB.out)) hb)
          clear BK119; clear BK128; clear HB; have BK119 := n0_; have BK128 := n1_; have HB := n2_; clear n0_ n1_ n2_
          (try clear hb)
          (try clear hb2)
          (try clear hk)
          (try clear hi)
          refine hK.out _ _ ⟨(blk_cell BK119.out 0).trans rfl, (blk_cell BK119.out 1).trans rfl, (blk_cell BK119.out 2).trans rfl, (blk_cell BK119.out 3).trans rfl, (blk_cell BK128.out 0).trans rfl, (blk_cell BK128.out 1).trans rfl, (blk_cell BK128.out 2).trans rfl, (blk_cell BK128.out 3).trans rfl⟩ (fun hHeld => ?_)
          clear hK K; refine norm_ (a' := ?_) ?_ ?_
          rotate_left
          · show Act.put _ (some 54) _ = _
            simp only [aP, aS, aZ, aC, aW, aX]
            rfl
          refine done_ (by kernel_rfl) ?_
          try go_wp2
          go_roundg k2
          case measure => have := HJ7.out; have := HK2.out; omega
          case rel => exact ⟨(x7_2), (wrap64 ((wrap64 (Int.tdiv (wrap64 ((wrap64 (x7_2 + x8_2)) + 1)) 2)) - 1)), (by first | rfl | (simp; done) | (simp [*]; done)), (by first | rfl | (simp; done) | (simp [*]; done)), H', ⟨by have := HJ7.out; have := HK2.out; omega⟩, ⟨by (with_reducible repeat first | apply kN | apply kD | apply kA); exact BK119.out⟩, ⟨by (with_reducible repeat first | apply kN | apply kD | apply kA); exact BK128.out⟩, ⟨by repeat (first | (with_reducible first | exact HB.out | apply bA | apply bN | apply bD | refine below_set ?_ GE119.out | refine below_set ?_ GE128.out) | exact HB.out)⟩⟩
        replace c32 := Bool.eq_false_iff.mpr c32
        subst c32
        have H1 : (scaled_Bad.l0 k2 (wrap64 (Int.tdiv (wrap64 ((wrap64 (x7_2 + x8_2)) + 1)) 2)) x8_2 t115 t116 t117 t118 t124 t125 t126 t127) = some r := by rw [if_neg (show ¬ (false = true) by decide)] at H; exact H
        clear H; have H := H1; clear H1; have H' := Aside0.mk H; clear H
        try go_wp2
        have n0_ := Aside0.mk (blk_drew BK119.out)
        have n1_ := Aside0.mk (blk_drew BK128.out)
        have n2_ := Aside0.mk (below_drew1 HB.out)
        clear BK119; clear BK128; clear HB; have BK119 := n0_; have BK128 := n1_; have HB := n2_; clear n0_ n1_ n2_; refine start_ (n := 6) (S := fun w' => w'.cell? ⟨gb119, 0, none⟩ = some (.int .u64 t115) ∧ w'.cell? ⟨gb119, 1, none⟩ = some (.int .u64 t116) ∧ w'.cell? ⟨gb119, 2, none⟩ = some (.int .u64 t117) ∧ w'.cell? ⟨gb119, 3, none⟩ = some (.int .u64 t118) ∧ w'.cell? ⟨gb128, 0, none⟩ = some (.int .u64 t124) ∧ w'.cell? ⟨gb128, 1, none⟩ = some (.int .u64 t125) ∧ w'.cell? ⟨gb128, 2, none⟩ = some (.int .u64 t126) ∧ w'.cell? ⟨gb128, 3, none⟩ = some (.int .u64 t127)) (ds := []) (bm 6 0) (by kernel_rfl) rfl rfl ⟨(blk_cell BK119.out 0).trans rfl, (blk_cell BK119.out 1).trans rfl, (blk_cell BK119.out 2).trans rfl, (blk_cell BK119.out 3).trans rfl, (blk_cell BK128.out 0).trans rfl, (blk_cell BK128.out 1).trans rfl, (blk_cell BK128.out 2).trans rfl, (blk_cell BK128.out 3).trans rfl⟩ (fun hHeld => ?_)
        generalize wr.drew = w36 at BK119 BK128 HB hHeld ⊢
        refine pure_ (i := 2) (N := some 51) (v := ?_) (a' := ?_) (bm 6 4) rfl rfl (by kernel_rfl) (fun _ _ _ h => h) (Or.inl ⟨by rfl, ?_⟩) ?_ ?_; rotate_left; intro w'; go_simp; with_reducible rfl; rotate_left; simp only [aP, aS, aZ, aC, aW, aX]; rfl
        refine pure_ (i := 3) (N := some 52) (v := ?_) (a' := ?_) (bm 6 12) rfl rfl (by kernel_rfl) (fun _ _ _ h => h) (Or.inl ⟨by rfl, ?_⟩) ?_ ?_; rotate_left; intro w'; go_simp; with_reducible rfl; rotate_left; simp only [aP, aS, aZ, aC, aW, aX]; rfl
        refine take_ (i := 0) (N := some 49) (v := ?_) (a' := ?_) (bm 6 13) rfl rfl (by kernel_rfl) (fun _ _ _ h => h) (Or.inl ⟨by rfl, ?_⟩) hHeld ?_ ?_; rotate_left; rintro w' ⟨s0, s1, s2, s3, s4, s5, s6, s7⟩; go_simp; with_reducible rfl; rotate_left; simp only [aP, aS, aZ, aC, aW, aX]; rfl
        refine take_ (i := 1) (N := some 50) (v := ?_) (a' := ?_) (bm 6 15) rfl rfl (by kernel_rfl) (fun _ _ _ h => h) (Or.inl ⟨by rfl, ?_⟩) hHeld ?_ ?_; rotate_left; rintro w' ⟨s0, s1, s2, s3, s4, s5, s6, s7⟩; go_simp; with_reducible rfl; rotate_left; simp only [aP, aS, aZ, aC, aW, aX]; rfl
        refine one_ (i := 4) (N := some 53) (bm 6 31) rfl rfl (by kernel_rfl) (by decide) (fun K hK => ?_)
        refine goes_ Try.func60 (by kernel_rfl) rfl #[.agg #[.int .u64 t124, .int .u64 t125, .int .u64 t126, .int .u64 t127], .int .u64 (IntKind.u64.wrap (wrap64 (Int.tdiv (wrap64 ((wrap64 (x7_2 + x8_2)) + 1)) 2)))] (by rfl) rfl rfl (by (try simp only [List.map_toArray, List.map_cons, List.map_nil]); first | done | rfl | (simp only [List.length_drop, List.length_take]; rfl)) ?_
        with_reducible refine (scaled_wide_times.calls t124 t125 t126 t127 (IntKind.u64.wrap (wrap64 (Int.tdiv (wrap64 ((wrap64 (x7_2 + x8_2)) + 1)) 2))) t129 t130 t131 t132 _ A30.out).mono ?_
        rintro e w37 ⟨rfl, hb⟩
        refine ⟨_, rfl, ?_⟩
        have n0_ := Aside0.mk (blk_below (g := gb119) (o := .cells #[.int .u64 t115, .int .u64 t116, .int .u64 t117, .int .u64 t118] 83 (0, 0)) (by (with_reducible repeat first | apply kN | apply kD | apply kA); exact BK119.out) hb)
        have n1_ := Aside0.mk (blk_below (g := gb128) (o := .cells #[.int .u64 t124, .int .u64 t125, .int .u64 t126, .int .u64 t127] 83 (0, 0)) (by (with_reducible repeat first | apply kN | apply kD | apply kA); exact BK128.out) hb)
        have n2_ := Aside0.mk (below_step (by repeat (first | (with_reducible first | exact HB.out | apply bA | apply bN | apply bD | refine below_set ?_ GE119.out | refine below_set ?_ GE128.out) | exact HB.out)) hb)
        clear BK119; clear BK128; clear HB; have BK119 := n0_; have BK128 := n1_; have HB := n2_; clear n0_ n1_ n2_
        (try clear hb)
        (try clear hb2)
        (try clear hk)
        (try clear hi)
        refine hK.out _ _ ⟨(blk_cell BK119.out 0).trans rfl, (blk_cell BK119.out 1).trans rfl, (blk_cell BK119.out 2).trans rfl, (blk_cell BK119.out 3).trans rfl, (blk_cell BK128.out 0).trans rfl, (blk_cell BK128.out 1).trans rfl, (blk_cell BK128.out 2).trans rfl, (blk_cell BK128.out 3).trans rfl⟩ (fun hHeld => ?_)
        clear hK K; refine norm_ (a' := ?_) ?_ ?_
        rotate_left
        · show Act.put _ (some 53) _ = _
          simp only [aP, aS, aZ, aC, aW, aX]
          rfl
        refine one_ (i := 5) (N := some 54) (bm 6 63) rfl rfl (by kernel_rfl) (by decide) (fun K hK => ?_)
        refine goes_ Try.func61 (by kernel_rfl) rfl #[.agg #[.int .u64 t115, .int .u64 t116, .int .u64 t117, .int .u64 t118], .agg #[.int .u64 t129, .int .u64 t130, .int .u64 t131, .int .u64 t132]] (by rfl) rfl rfl (by (try simp only [List.map_toArray, List.map_cons, List.map_nil]); first | done | rfl | (simp only [List.length_drop, List.length_take]; rfl)) ?_
        with_reducible refine (scaled_smaller.calls t115 t116 t117 t118 t129 t130 t131 t132 false _ A31.out).mono ?_
        rintro e w38 ⟨rfl, hb⟩
        refine ⟨_, rfl, ?_⟩
        have n0_ := Aside0.mk (blk_below (g := gb119) (o := .cells #[.int .u64 t115, .int .u64 t116, .int .u64 t117, .int .u64 t118] 83 (0, 0)) (by (with_reducible repeat first | apply kN | apply kD | apply kA); exact BK119.out) hb)
        have n1_ := Aside0.mk (blk_below (g := gb128) (o := .cells #[.int .u64 t124, .int .u64 t125, .int .u64 t126, .int .u64 t127] 83 (0, 0)) (by (with_reducible repeat first | apply kN | apply kD | apply kA); exact BK128.out) hb)
        have n2_ := Aside0.mk (below_step (by repeat (first | (with_reducible first | exact HB.out | apply bA | apply bN | apply bD | refine below_set ?_ GE119.out | refine below_set ?_ GE128.out) | exact HB.out)) hb)
        clear BK119; clear BK128; clear HB; have BK119 := n0_; have BK128 := n1_; have HB := n2_; clear n0_ n1_ n2_
        (try clear hb)
        (try clear hb2)
        (try clear hk)
        (try clear hi)
        refine hK.out _ _ ⟨(blk_cell BK119.out 0).trans rfl, (blk_cell BK119.out 1).trans rfl, (blk_cell BK119.out 2).trans rfl, (blk_cell BK119.out 3).trans rfl, (blk_cell BK128.out 0).trans rfl, (blk_cell BK128.out 1).trans rfl, (blk_cell BK128.out 2).trans rfl, (blk_cell BK128.out 3).trans rfl⟩ (fun hHeld => ?_)
        clear hK K; refine norm_ (a' := ?_) ?_ ?_
        rotate_left
        · show Act.put _ (some 54) _ = _
          simp only [aP, aS, aZ, aC, aW, aX]
          rfl
        refine done_ (by kernel_rfl) ?_
        try go_wp2
        go_roundg k2
        case measure => have := HJ7.out; have := HK2.out; omega
        case rel => exact ⟨(wrap64 (Int.tdiv (wrap64 ((wrap64 (x7_2 + x8_2)) + 1)) 2)), (x8_2), (by first | rfl | (simp; done) | (simp [*]; done)), (by first | rfl | (simp; done) | (simp [*]; done)), H', ⟨by have := HJ7.out; have := HK2.out; omega⟩, ⟨by (with_reducible repeat first | apply kN | apply kD | apply kA); exact BK119.out⟩, ⟨by (with_reducible repeat first | apply kN | apply kD | apply kA); exact BK128.out⟩, ⟨by repeat (first | (with_reducible first | exact HB.out | apply bA | apply bN | apply bD | refine below_set ?_ GE119.out | refine below_set ?_ GE128.out) | exact HB.out)⟩⟩

end Go.Proofs.Ytdkmmddakidieaa.P
