-- PRINTED by print.py (a twelfth state) out of the translation. Not trusted: Lean checks it.
import Derived.Test.YtedplhcdlkhbnaaPx0
import Derived.Test.YtedplhcdlkhbnaaPx1
import Derived.Test.YtedplhcdlkhbnaaPx12
import Derived.Test.YtedplhcdlkhbnaaPx20
namespace Go.Proofs.Ytedplhcdlkhbnaa.P
open Go.RowKit Go.Proofs.YtedplhcdlkhbnaaW.PrintWords Go.Proofs.YtedplhcdlkhbnaaW.PrintLast Go.Proofs.YtedplhcdlkhbnaaW.PrintMore
attribute [local go_sem] max2_int min2_int max_two min_two max_three min_three max_four min_four   -- for this text's walks alone
set_option linter.unusedVariables false
set_option linter.unusedSimpArgs false

/-! ### scaled_MulDiv: function 37 -/
def scaled_MulDiv.j0 : Nat → Bool → Int → Bool → Option (Int × Bool)
 | 0, _, _, _ => none
 | k + 1, x8, x12, x58 => if x58 = true then (if x12 ≥ 1152921504606846976 then (some ((-1152921504606846976), true)) else (if x8 = true then ((scaled_signed.f k (decide ((IntKind.u64.wrap (x12 + 1)) > 0)) 0 (IntKind.u64.wrap (x12 + 1))).bind fun t447 => (some (t447, true))) else ((scaled_signed.f k false 0 (IntKind.u64.wrap (x12 + 1))).bind fun t448 => (some (t448, true))))) else (if x8 = true then ((scaled_signed.f k (decide (x12 > 0)) 0 x12).bind fun t449 => (some (t449, true))) else ((scaled_signed.f k false 0 x12).bind fun t450 => (some (t450, true))))
def scaled_MulDiv.f (k : Nat) (a0 : Int) (a1 : Int) (a2 : Int) : Option (Int × Bool) := (scaled_Clamp.f a2).bind fun t437 => (if t437 = 0 then (some (0, false)) else ((scaled_size.f a0).bind fun t438 => ((scaled_size.f a1).bind fun t439 => ((bits_Mul64.f t438 t439).bind fun bt440 => ((scaled_size.f t437).bind fun t442 => (if bt440.1 ≥ t442 then (if (((decide (a0 < 0)) != (decide (a1 < 0))) != (decide (t437 < 0))) = true then ((scaled_signed.f k (decide ((Go.bits .or .u64 bt440.1 bt440.2) > 0)) 1 0).bind fun t443 => (some (t443, true))) else ((scaled_signed.f k false 1 0).bind fun t444 => (some (t444, true)))) else ((bits_Div64.f k bt440.1 bt440.2 t442).bind fun bt445 => (if (((decide (a0 < 0)) != (decide (a1 < 0))) != (decide (t437 < 0))) = true then (scaled_MulDiv.j0 k (((decide (a0 < 0)) != (decide (a1 < 0))) != (decide (t437 < 0))) bt445.1 (decide (bt445.2 > 0))) else (scaled_MulDiv.j0 k (((decide (a0 < 0)) != (decide (a1 < 0))) != (decide (t437 < 0))) bt445.1 false)))))))))
theorem scaled_MulDiv.mono_l : ∀ k, (∀ y0 y1 y2, LeO (scaled_MulDiv.j0 k y0 y1 y2) (scaled_MulDiv.j0 (k + 1) y0 y1 y2))
 | 0 => fun _ _ _ r h => by simp [scaled_MulDiv.j0] at h
 | k + 1 => by
   have ih0 := scaled_MulDiv.mono_l k
   · intro y0 y1 y2
     unfold scaled_MulDiv.j0
     repeat' first
     | (with_reducible exact ih0 _ _ _)
     | (with_reducible exact bits_Div64.mono _ _ _ _)
     | (with_reducible exact scaled_signed.mono _ _ _ _)
     | (with_reducible exact LeO.refl _)
     | (with_reducible exact LeO.none _)
     | (with_reducible refine LeO.ite ?_ ?_)
     | (with_reducible refine LeO.bind ?_ (fun _ => ?_))
     | exact ih0 _ _ _
     | exact bits_Div64.mono _ _ _ _
     | exact scaled_signed.mono _ _ _ _
     | exact LeO.none _
     | refine LeO.ite ?_ ?_
     | refine LeO.bind ?_ (fun _ => ?_)
theorem scaled_MulDiv.mono : ∀ a0 a1 a2 k, LeO (scaled_MulDiv.f k a0 a1 a2) (scaled_MulDiv.f (k + 1) a0 a1 a2) := by
 intro a0 a1 a2 k
 have ih0 := scaled_MulDiv.mono_l k
 unfold scaled_MulDiv.f
 repeat' first
     | (with_reducible exact ih0 _ _ _)
     | (with_reducible exact bits_Div64.mono _ _ _ _)
     | (with_reducible exact scaled_signed.mono _ _ _ _)
     | (with_reducible exact LeO.refl _)
     | (with_reducible exact LeO.none _)
     | (with_reducible refine LeO.ite ?_ ?_)
     | (with_reducible refine LeO.bind ?_ (fun _ => ?_))
     | exact ih0 _ _ _
     | exact bits_Div64.mono _ _ _ _
     | exact scaled_signed.mono _ _ _ _
     | exact LeO.none _
     | refine LeO.ite ?_ ?_
     | refine LeO.bind ?_ (fun _ => ?_)
theorem scaled_MulDiv.j0.ev {x8 : Bool} {x12 : Int} {x58 : Bool} {r_ : Int × Bool} (h : Ev (fun k => if x58 = true then (if x12 ≥ 1152921504606846976 then (some ((-1152921504606846976), true)) else (if x8 = true then ((scaled_signed.f k (decide ((IntKind.u64.wrap (x12 + 1)) > 0)) 0 (IntKind.u64.wrap (x12 + 1))).bind fun t447 => (some (t447, true))) else ((scaled_signed.f k false 0 (IntKind.u64.wrap (x12 + 1))).bind fun t448 => (some (t448, true))))) else (if x8 = true then ((scaled_signed.f k (decide (x12 > 0)) 0 x12).bind fun t449 => (some (t449, true))) else ((scaled_signed.f k false 0 x12).bind fun t450 => (some (t450, true))))) r_) : Ev (fun k => scaled_MulDiv.j0 k x8 x12 x58) r_ := Ev.step (fun k => by rw [scaled_MulDiv.j0]) h
set_option maxHeartbeats 8000000 in
set_option maxRecDepth 100000 in
theorem scaled_MulDiv.calls (k : Nat) (a0 : Int) (a1 : Int) (a2 : Int) (r1 : Int) (r2 : Bool) (w : World) (h : scaled_MulDiv.f k a0 a1 a2 = some (r1, r2)) :
   Calls Try.prog 37 #[.int .i64 a0, .int .i64 a1, .int .i64 a2] w fun e w' => e = .returned (.tuple #[.int .i64 r1, .bool r2]) ∧ Below w.heap.size w w' := by
 have HB := Aside0.mk (Below.refl w.heap.size w)
 have H : ((scaled_Clamp.f a2).bind fun t437 => (if t437 = 0 then (some (0, false)) else ((scaled_size.f a0).bind fun t438 => ((scaled_size.f a1).bind fun t439 => ((bits_Mul64.f t438 t439).bind fun bt440 => ((scaled_size.f t437).bind fun t442 => (if bt440.1 ≥ t442 then (if (((decide (a0 < 0)) != (decide (a1 < 0))) != (decide (t437 < 0))) = true then ((scaled_signed.f k (decide ((Go.bits .or .u64 bt440.1 bt440.2) > 0)) 1 0).bind fun t443 => (some (t443, true))) else ((scaled_signed.f k false 1 0).bind fun t444 => (some (t444, true)))) else ((bits_Div64.f k bt440.1 bt440.2 t442).bind fun bt445 => (if (((decide (a0 < 0)) != (decide (a1 < 0))) != (decide (t437 < 0))) = true then (scaled_MulDiv.j0 k (((decide (a0 < 0)) != (decide (a1 < 0))) != (decide (t437 < 0))) bt445.1 (decide (bt445.2 > 0))) else (scaled_MulDiv.j0 k (((decide (a0 < 0)) != (decide (a1 < 0))) != (decide (t437 < 0))) bt445.1 false)))))))))) = some (r1, r2) := h
 clear h
 replace H := Option.bind_eq_some_iff.mp H
 obtain ⟨t437, A40, H⟩ := H
 replace H : (if t437 = 0 then (some (0, false)) else ((scaled_size.f a0).bind fun t438 => ((scaled_size.f a1).bind fun t439 => ((bits_Mul64.f t438 t439).bind fun bt440 => ((scaled_size.f t437).bind fun t442 => (if bt440.1 ≥ t442 then (if (((decide (a0 < 0)) != (decide (a1 < 0))) != (decide (t437 < 0))) = true then ((scaled_signed.f k (decide ((Go.bits .or .u64 bt440.1 bt440.2) > 0)) 1 0).bind fun t443 => (some (t443, true))) else ((scaled_signed.f k false 1 0).bind fun t444 => (some (t444, true)))) else ((bits_Div64.f k bt440.1 bt440.2 t442).bind fun bt445 => (if (((decide (a0 < 0)) != (decide (a1 < 0))) != (decide (t437 < 0))) = true then (scaled_MulDiv.j0 k (((decide (a0 < 0)) != (decide (a1 < 0))) != (decide (t437 < 0))) bt445.1 (decide (bt445.2 > 0))) else (scaled_MulDiv.j0 k (((decide (a0 < 0)) != (decide (a1 < 0))) != (decide (t437 < 0))) bt445.1 false))))))))) = some (r1, r2) := H
 have A4 := Aside0.mk A40
 clear A40
 by_cases c5 : t437 = 0
 · rw [if_pos c5] at H
   have c5b0 : (t437 == 0) = true := beq_iff_eq.mpr c5
   have c5b1 : (t437 != 0) = false := bne_eq_false_iff_eq.mpr c5
   clear c5
   simp only [Option.some.injEq, Prod.mk.injEq] at H
   obtain ⟨rfl, rfl⟩ := H
   go_enter Try.func37, Try.ntmps37
   go_wp2_with (first | ((with_reducible refine gate_callee (f := 21) rfl ?_); refine goesL_ (some 15) rfl rfl Try.func21 (by kernel_rfl) rfl #[.int .i64 a2] rfl (by (try simp only [List.map_toArray, List.map_cons, List.map_nil]); first | done | rfl | (simp only [List.length_drop, List.length_take]; rfl)) ?_; (with_reducible refine (scaled_Clamp.calls a2 t437 _ A4.out).mono ?_); rintro e w6 ⟨rfl, hb⟩; refine ⟨_, rfl, ?_⟩; have n0_ := Aside0.mk (below_step (by repeat (first | (with_reducible first | exact HB.out | apply below_alloc | apply pw_below_drewN | apply below_drew1) | exact HB.out)) hb); clear HB; have HB := n0_; clear n0_; (try clear hb); (try clear hb2); (try clear hk); (try clear hi)))
   go_ret2
   exact ⟨by first | rfl | (simp [errW_none, errW_some] <;> rfl) | (simp [*, errW_none, errW_some] <;> rfl), by repeat (first | (with_reducible first | exact HB.out | apply below_alloc | apply pw_below_drewN | apply below_drew1) | exact HB.out)⟩
 · rw [if_neg c5] at H
   have c5b0 : (t437 == 0) = false := beq_eq_false_iff_ne.mpr c5
   have c5b1 : (t437 != 0) = true := bne_iff_ne.mpr c5
   replace H := Option.bind_eq_some_iff.mp H
   obtain ⟨t438, A70, H⟩ := H
   replace H : ((scaled_size.f a1).bind fun t439 => ((bits_Mul64.f t438 t439).bind fun bt440 => ((scaled_size.f t437).bind fun t442 => (if bt440.1 ≥ t442 then (if (((decide (a0 < 0)) != (decide (a1 < 0))) != (decide (t437 < 0))) = true then ((scaled_signed.f k (decide ((Go.bits .or .u64 bt440.1 bt440.2) > 0)) 1 0).bind fun t443 => (some (t443, true))) else ((scaled_signed.f k false 1 0).bind fun t444 => (some (t444, true)))) else ((bits_Div64.f k bt440.1 bt440.2 t442).bind fun bt445 => (if (((decide (a0 < 0)) != (decide (a1 < 0))) != (decide (t437 < 0))) = true then (scaled_MulDiv.j0 k (((decide (a0 < 0)) != (decide (a1 < 0))) != (decide (t437 < 0))) bt445.1 (decide (bt445.2 > 0))) else (scaled_MulDiv.j0 k (((decide (a0 < 0)) != (decide (a1 < 0))) != (decide (t437 < 0))) bt445.1 false))))))) = some (r1, r2) := H
   have A7 := Aside0.mk A70
   clear A70
   replace H := Option.bind_eq_some_iff.mp H
   obtain ⟨t439, A80, H⟩ := H
   replace H : ((bits_Mul64.f t438 t439).bind fun bt440 => ((scaled_size.f t437).bind fun t442 => (if bt440.1 ≥ t442 then (if (((decide (a0 < 0)) != (decide (a1 < 0))) != (decide (t437 < 0))) = true then ((scaled_signed.f k (decide ((Go.bits .or .u64 bt440.1 bt440.2) > 0)) 1 0).bind fun t443 => (some (t443, true))) else ((scaled_signed.f k false 1 0).bind fun t444 => (some (t444, true)))) else ((bits_Div64.f k bt440.1 bt440.2 t442).bind fun bt445 => (if (((decide (a0 < 0)) != (decide (a1 < 0))) != (decide (t437 < 0))) = true then (scaled_MulDiv.j0 k (((decide (a0 < 0)) != (decide (a1 < 0))) != (decide (t437 < 0))) bt445.1 (decide (bt445.2 > 0))) else (scaled_MulDiv.j0 k (((decide (a0 < 0)) != (decide (a1 < 0))) != (decide (t437 < 0))) bt445.1 false)))))) = some (r1, r2) := H
   have A8 := Aside0.mk A80
   clear A80
   replace H := Option.bind_eq_some_iff.mp H
   obtain ⟨⟨t440, t441⟩, A90, H⟩ := H
   replace H : ((scaled_size.f t437).bind fun t442 => (if t440 ≥ t442 then (if (((decide (a0 < 0)) != (decide (a1 < 0))) != (decide (t437 < 0))) = true then ((scaled_signed.f k (decide ((Go.bits .or .u64 t440 t441) > 0)) 1 0).bind fun t443 => (some (t443, true))) else ((scaled_signed.f k false 1 0).bind fun t444 => (some (t444, true)))) else ((bits_Div64.f k t440 t441 t442).bind fun bt445 => (if (((decide (a0 < 0)) != (decide (a1 < 0))) != (decide (t437 < 0))) = true then (scaled_MulDiv.j0 k (((decide (a0 < 0)) != (decide (a1 < 0))) != (decide (t437 < 0))) bt445.1 (decide (bt445.2 > 0))) else (scaled_MulDiv.j0 k (((decide (a0 < 0)) != (decide (a1 < 0))) != (decide (t437 < 0))) bt445.1 false))))) = some (r1, r2) := H
   have A9 := Aside0.mk A90
   clear A90
   replace H := Option.bind_eq_some_iff.mp H
   obtain ⟨t442, A100, H⟩ := H
   replace H : (if t440 ≥ t442 then (if (((decide (a0 < 0)) != (decide (a1 < 0))) != (decide (t437 < 0))) = true then ((scaled_signed.f k (decide ((Go.bits .or .u64 t440 t441) > 0)) 1 0).bind fun t443 => (some (t443, true))) else ((scaled_signed.f k false 1 0).bind fun t444 => (some (t444, true)))) else ((bits_Div64.f k t440 t441 t442).bind fun bt445 => (if (((decide (a0 < 0)) != (decide (a1 < 0))) != (decide (t437 < 0))) = true then (scaled_MulDiv.j0 k (((decide (a0 < 0)) != (decide (a1 < 0))) != (decide (t437 < 0))) bt445.1 (decide (bt445.2 > 0))) else (scaled_MulDiv.j0 k (((decide (a0 < 0)) != (decide (a1 < 0))) != (decide (t437 < 0))) bt445.1 false)))) = some (r1, r2) := H
   have A10 := Aside0.mk A100
   clear A100
   by_cases c11 : t440 ≥ t442
   · rw [if_pos c11] at H
     have c11b0 : decide (t442 ≤ t440) = true := decide_eq_true c11
     clear c11
     by_cases c12 : (((decide (a0 < 0)) != (decide (a1 < 0))) != (decide (t437 < 0))) = true
     · rw [if_pos c12] at H
       have c12b0 : (((decide (a0 < 0)) != (decide (a1 < 0))) != (decide (t437 < 0))) = true := c12
       have c12b9 : (!((!((decide (a0 < 0)) == (decide (a1 < 0)))) == (decide (t437 < 0)))) = true := c12b0
       (try (have c12b1 : decide (((decide (a0 < 0)) != (decide (a1 < 0))) = (decide (t437 < 0))) = false := by simpa using c12))
       (try (have c12b2 : (((decide (a0 < 0)) != (decide (a1 < 0))) == (decide (t437 < 0))) = false := by simpa using c12))
       (try (have c12b3 : ¬ (((decide (a0 < 0)) != (decide (a1 < 0))) = (decide (t437 < 0))) := by simpa using c12))
       clear c12
       replace H := Option.bind_eq_some_iff.mp H
       obtain ⟨t443, A130, H⟩ := H
       replace H : (some (t443, true)) = some (r1, r2) := H
       have A13 := Aside0.mk A130
       clear A130
       simp only [Option.some.injEq, Prod.mk.injEq] at H
       obtain ⟨rfl, rfl⟩ := H
       go_enter Try.func37, Try.ntmps37
       go_wp2_with (first | ((with_reducible refine gate_callee (f := 21) rfl ?_); refine goesL_ (some 15) rfl rfl Try.func21 (by kernel_rfl) rfl #[.int .i64 a2] rfl (by (try simp only [List.map_toArray, List.map_cons, List.map_nil]); first | done | rfl | (simp only [List.length_drop, List.length_take]; rfl)) ?_; (with_reducible refine (scaled_Clamp.calls a2 t437 _ A4.out).mono ?_); rintro e w14 ⟨rfl, hb⟩; refine ⟨_, rfl, ?_⟩; have n0_ := Aside0.mk (below_step (by repeat (first | (with_reducible first | exact HB.out | apply below_alloc | apply pw_below_drewN | apply below_drew1) | exact HB.out)) hb); clear HB; have HB := n0_; clear n0_; (try clear hb); (try clear hb2); (try clear hk); (try clear hi)) | ((with_reducible refine gate_callee (f := 48) rfl ?_); refine goesL_ (some 28) rfl rfl Try.func48 (by kernel_rfl) rfl #[.int .i64 a0] rfl (by (try simp only [List.map_toArray, List.map_cons, List.map_nil]); first | done | rfl | (simp only [List.length_drop, List.length_take]; rfl)) ?_; (with_reducible refine (scaled_size.calls a0 t438 _ A7.out).mono ?_); rintro e w15 ⟨rfl, hb⟩; refine ⟨_, rfl, ?_⟩; have n0_ := Aside0.mk (below_step (by repeat (first | (with_reducible first | exact HB.out | apply below_alloc | apply pw_below_drewN | apply below_drew1) | exact HB.out)) hb); clear HB; have HB := n0_; clear n0_; (try clear hb); (try clear hb2); (try clear hk); (try clear hi)) | ((with_reducible refine gate_callee (f := 48) rfl ?_); refine goesL_ (some 30) rfl rfl Try.func48 (by kernel_rfl) rfl #[.int .i64 a1] rfl (by (try simp only [List.map_toArray, List.map_cons, List.map_nil]); first | done | rfl | (simp only [List.length_drop, List.length_take]; rfl)) ?_; (with_reducible refine (scaled_size.calls a1 t439 _ A8.out).mono ?_); rintro e w16 ⟨rfl, hb⟩; refine ⟨_, rfl, ?_⟩; have n0_ := Aside0.mk (below_step (by repeat (first | (with_reducible first | exact HB.out | apply below_alloc | apply pw_below_drewN | apply below_drew1) | exact HB.out)) hb); clear HB; have HB := n0_; clear n0_; (try clear hb); (try clear hb2); (try clear hk); (try clear hi)) | ((with_reducible refine gate_callee (f := 47) rfl ?_); refine goesL_ (some 31) rfl rfl Try.func47 (by kernel_rfl) rfl #[.int .u64 t438, .int .u64 t439] rfl (by (try simp only [List.map_toArray, List.map_cons, List.map_nil]); first | done | rfl | (simp only [List.length_drop, List.length_take]; rfl)) ?_; (with_reducible refine (bits_Mul64.calls t438 t439 t440 t441 _ A9.out).mono ?_); rintro e w' ⟨rfl, ⟨nd, rfl⟩⟩; refine ⟨_, rfl, ?_⟩) | ((with_reducible refine gate_callee (f := 48) rfl ?_); refine goesL_ (some 35) rfl rfl Try.func48 (by kernel_rfl) rfl #[.int .i64 t437] rfl (by (try simp only [List.map_toArray, List.map_cons, List.map_nil]); first | done | rfl | (simp only [List.length_drop, List.length_take]; rfl)) ?_; (with_reducible refine (scaled_size.calls t437 t442 _ A10.out).mono ?_); rintro e w17 ⟨rfl, hb⟩; refine ⟨_, rfl, ?_⟩; have n0_ := Aside0.mk (below_step (by repeat (first | (with_reducible first | exact HB.out | apply below_alloc | apply pw_below_drewN | apply below_drew1) | exact HB.out)) hb); clear HB; have HB := n0_; clear n0_; (try clear hb); (try clear hb2); (try clear hk); (try clear hi)) | ((with_reducible refine gate_callee (f := 49) rfl ?_); refine goesL_ (some 46) rfl rfl Try.func49 (by kernel_rfl) rfl #[.bool (decide ((Go.bits .or .u64 t440 t441) > 0)), .int .u64 1, .int .u64 0] rfl (by (try simp only [List.map_toArray, List.map_cons, List.map_nil]); first | done | rfl | (simp only [List.length_drop, List.length_take]; rfl)) ?_; (with_reducible refine (scaled_signed.calls k (decide ((Go.bits .or .u64 t440 t441) > 0)) 1 0 t443 _ A13.out).mono ?_); rintro e w' ⟨rfl, ⟨nd, rfl⟩⟩; refine ⟨_, rfl, ?_⟩))
       go_ret2
       exact ⟨by first | rfl | (simp [errW_none, errW_some] <;> rfl) | (simp [*, errW_none, errW_some] <;> rfl), by repeat (first | (with_reducible first | exact HB.out | apply below_alloc | apply pw_below_drewN | apply below_drew1) | exact HB.out)⟩
     · rw [if_neg c12] at H
       have c12b0 : (((decide (a0 < 0)) != (decide (a1 < 0))) != (decide (t437 < 0))) = false := by simpa using c12
       have c12b9 : (!((!((decide (a0 < 0)) == (decide (a1 < 0)))) == (decide (t437 < 0)))) = false := c12b0
       (try (have c12b1 : decide (((decide (a0 < 0)) != (decide (a1 < 0))) = (decide (t437 < 0))) = true := by simpa using c12))
       (try (have c12b2 : (((decide (a0 < 0)) != (decide (a1 < 0))) == (decide (t437 < 0))) = true := by simpa using c12))
       clear c12
       replace H := Option.bind_eq_some_iff.mp H
       obtain ⟨t444, A180, H⟩ := H
       replace H : (some (t444, true)) = some (r1, r2) := H
       have A18 := Aside0.mk A180
       clear A180
       simp only [Option.some.injEq, Prod.mk.injEq] at H
       obtain ⟨rfl, rfl⟩ := H
       go_enter Try.func37, Try.ntmps37
       go_wp2_with (first | ((with_reducible refine gate_callee (f := 21) rfl ?_); refine goesL_ (some 15) rfl rfl Try.func21 (by kernel_rfl) rfl #[.int .i64 a2] rfl (by (try simp only [List.map_toArray, List.map_cons, List.map_nil]); first | done | rfl | (simp only [List.length_drop, List.length_take]; rfl)) ?_; (with_reducible refine (scaled_Clamp.calls a2 t437 _ A4.out).mono ?_); rintro e w19 ⟨rfl, hb⟩; refine ⟨_, rfl, ?_⟩; have n0_ := Aside0.mk (below_step (by repeat (first | (with_reducible first | exact HB.out | apply below_alloc | apply pw_below_drewN | apply below_drew1) | exact HB.out)) hb); clear HB; have HB := n0_; clear n0_; (try clear hb); (try clear hb2); (try clear hk); (try clear hi)) | ((with_reducible refine gate_callee (f := 48) rfl ?_); refine goesL_ (some 28) rfl rfl Try.func48 (by kernel_rfl) rfl #[.int .i64 a0] rfl (by (try simp only [List.map_toArray, List.map_cons, List.map_nil]); first | done | rfl | (simp only [List.length_drop, List.length_take]; rfl)) ?_; (with_reducible refine (scaled_size.calls a0 t438 _ A7.out).mono ?_); rintro e w20 ⟨rfl, hb⟩; refine ⟨_, rfl, ?_⟩; have n0_ := Aside0.mk (below_step (by repeat (first | (with_reducible first | exact HB.out | apply below_alloc | apply pw_below_drewN | apply below_drew1) | exact HB.out)) hb); clear HB; have HB := n0_; clear n0_; (try clear hb); (try clear hb2); (try clear hk); (try clear hi)) | ((with_reducible refine gate_callee (f := 48) rfl ?_); refine goesL_ (some 30) rfl rfl Try.func48 (by kernel_rfl) rfl #[.int .i64 a1] rfl (by (try simp only [List.map_toArray, List.map_cons, List.map_nil]); first | done | rfl | (simp only [List.length_drop, List.length_take]; rfl)) ?_; (with_reducible refine (scaled_size.calls a1 t439 _ A8.out).mono ?_); rintro e w21 ⟨rfl, hb⟩; refine ⟨_, rfl, ?_⟩; have n0_ := Aside0.mk (below_step (by repeat (first | (with_reducible first | exact HB.out | apply below_alloc | apply pw_below_drewN | apply below_drew1) | exact HB.out)) hb); clear HB; have HB := n0_; clear n0_; (try clear hb); (try clear hb2); (try clear hk); (try clear hi)) | ((with_reducible refine gate_callee (f := 47) rfl ?_); refine goesL_ (some 31) rfl rfl Try.func47 (by kernel_rfl) rfl #[.int .u64 t438, .int .u64 t439] rfl (by (try simp only [List.map_toArray, List.map_cons, List.map_nil]); first | done | rfl | (simp only [List.length_drop, List.length_take]; rfl)) ?_; (with_reducible refine (bits_Mul64.calls t438 t439 t440 t441 _ A9.out).mono ?_); rintro e w' ⟨rfl, ⟨nd, rfl⟩⟩; refine ⟨_, rfl, ?_⟩) | ((with_reducible refine gate_callee (f := 48) rfl ?_); refine goesL_ (some 35) rfl rfl Try.func48 (by kernel_rfl) rfl #[.int .i64 t437] rfl (by (try simp only [List.map_toArray, List.map_cons, List.map_nil]); first | done | rfl | (simp only [List.length_drop, List.length_take]; rfl)) ?_; (with_reducible refine (scaled_size.calls t437 t442 _ A10.out).mono ?_); rintro e w22 ⟨rfl, hb⟩; refine ⟨_, rfl, ?_⟩; have n0_ := Aside0.mk (below_step (by repeat (first | (with_reducible first | exact HB.out | apply below_alloc | apply pw_below_drewN | apply below_drew1) | exact HB.out)) hb); clear HB; have HB := n0_; clear n0_; (try clear hb); (try clear hb2); (try clear hk); (try clear hi)) | ((with_reducible refine gate_callee (f := 49) rfl ?_); refine goesL_ (some 46) rfl rfl Try.func49 (by kernel_rfl) rfl #[.bool false, .int .u64 1, .int .u64 0] rfl (by (try simp only [List.map_toArray, List.map_cons, List.map_nil]); first | done | rfl | (simp only [List.length_drop, List.length_take]; rfl)) ?_; (with_reducible refine (scaled_signed.calls k false 1 0 t444 _ A18.out).mono ?_); rintro e w' ⟨rfl, ⟨nd, rfl⟩⟩; refine ⟨_, rfl, ?_⟩))
       go_ret2
       exact ⟨by first | rfl | (simp [errW_none, errW_some] <;> rfl) | (simp [*, errW_none, errW_some] <;> rfl), by repeat (first | (with_reducible first | exact HB.out | apply below_alloc | apply pw_below_drewN | apply below_drew1) | exact HB.out)⟩
   · rw [if_neg c11] at H
     have c11b0 : decide (t442 ≤ t440) = false := decide_eq_false c11
     clear c11
     replace H := Option.bind_eq_some_iff.mp H
     obtain ⟨⟨t445, t446⟩, A230, H⟩ := H
     replace H : (if (((decide (a0 < 0)) != (decide (a1 < 0))) != (decide (t437 < 0))) = true then (scaled_MulDiv.j0 k (((decide (a0 < 0)) != (decide (a1 < 0))) != (decide (t437 < 0))) t445 (decide (t446 > 0))) else (scaled_MulDiv.j0 k (((decide (a0 < 0)) != (decide (a1 < 0))) != (decide (t437 < 0))) t445 false)) = some (r1, r2) := H
     have A23 := Aside0.mk A230
     clear A230
     have HC24 := Aside0.mk H
     clear H
     go_enter Try.func37, Try.ntmps37
     go_upto_region 10 with (first | ((with_reducible refine gate_callee (f := 21) rfl ?_); refine goesL_ (some 15) rfl rfl Try.func21 (by kernel_rfl) rfl #[.int .i64 a2] rfl (by (try simp only [List.map_toArray, List.map_cons, List.map_nil]); first | done | rfl | (simp only [List.length_drop, List.length_take]; rfl)) ?_; (with_reducible refine (scaled_Clamp.calls a2 t437 _ A4.out).mono ?_); rintro e w25 ⟨rfl, hb⟩; refine ⟨_, rfl, ?_⟩; have n0_ := Aside0.mk (below_step (by repeat (first | (with_reducible first | exact HB.out | apply below_alloc | apply pw_below_drewN | apply below_drew1) | exact HB.out)) hb); clear HB; have HB := n0_; clear n0_; (try clear hb); (try clear hb2); (try clear hk); (try clear hi)) | ((with_reducible refine gate_callee (f := 48) rfl ?_); refine goesL_ (some 28) rfl rfl Try.func48 (by kernel_rfl) rfl #[.int .i64 a0] rfl (by (try simp only [List.map_toArray, List.map_cons, List.map_nil]); first | done | rfl | (simp only [List.length_drop, List.length_take]; rfl)) ?_; (with_reducible refine (scaled_size.calls a0 t438 _ A7.out).mono ?_); rintro e w26 ⟨rfl, hb⟩; refine ⟨_, rfl, ?_⟩; have n0_ := Aside0.mk (below_step (by repeat (first | (with_reducible first | exact HB.out | apply below_alloc | apply pw_below_drewN | apply below_drew1) | exact HB.out)) hb); clear HB; have HB := n0_; clear n0_; (try clear hb); (try clear hb2); (try clear hk); (try clear hi)) | ((with_reducible refine gate_callee (f := 48) rfl ?_); refine goesL_ (some 30) rfl rfl Try.func48 (by kernel_rfl) rfl #[.int .i64 a1] rfl (by (try simp only [List.map_toArray, List.map_cons, List.map_nil]); first | done | rfl | (simp only [List.length_drop, List.length_take]; rfl)) ?_; (with_reducible refine (scaled_size.calls a1 t439 _ A8.out).mono ?_); rintro e w27 ⟨rfl, hb⟩; refine ⟨_, rfl, ?_⟩; have n0_ := Aside0.mk (below_step (by repeat (first | (with_reducible first | exact HB.out | apply below_alloc | apply pw_below_drewN | apply below_drew1) | exact HB.out)) hb); clear HB; have HB := n0_; clear n0_; (try clear hb); (try clear hb2); (try clear hk); (try clear hi)) | ((with_reducible refine gate_callee (f := 47) rfl ?_); refine goesL_ (some 31) rfl rfl Try.func47 (by kernel_rfl) rfl #[.int .u64 t438, .int .u64 t439] rfl (by (try simp only [List.map_toArray, List.map_cons, List.map_nil]); first | done | rfl | (simp only [List.length_drop, List.length_take]; rfl)) ?_; (with_reducible refine (bits_Mul64.calls t438 t439 t440 t441 _ A9.out).mono ?_); rintro e w' ⟨rfl, ⟨nd, rfl⟩⟩; refine ⟨_, rfl, ?_⟩) | ((with_reducible refine gate_callee (f := 48) rfl ?_); refine goesL_ (some 35) rfl rfl Try.func48 (by kernel_rfl) rfl #[.int .i64 t437] rfl (by (try simp only [List.map_toArray, List.map_cons, List.map_nil]); first | done | rfl | (simp only [List.length_drop, List.length_take]; rfl)) ?_; (with_reducible refine (scaled_size.calls t437 t442 _ A10.out).mono ?_); rintro e w28 ⟨rfl, hb⟩; refine ⟨_, rfl, ?_⟩; have n0_ := Aside0.mk (below_step (by repeat (first | (with_reducible first | exact HB.out | apply below_alloc | apply pw_below_drewN | apply below_drew1) | exact HB.out)) hb); clear HB; have HB := n0_; clear n0_; (try clear hb); (try clear hb2); (try clear hk); (try clear hi)) | ((with_reducible refine gate_callee (f := 51) rfl ?_); refine goesL_ (some 51) rfl rfl Try.func51 (by kernel_rfl) rfl #[.int .u64 t440, .int .u64 t441, .int .u64 t442] rfl (by (try simp only [List.map_toArray, List.map_cons, List.map_nil]); first | done | rfl | (simp only [List.length_drop, List.length_take]; rfl)) ?_; (with_reducible refine (bits_Div64.calls k t440 t441 t442 t445 t446 _ A23.out).mono ?_); rintro e w' ⟨rfl, ⟨nd, rfl⟩⟩; refine ⟨_, rfl, ?_⟩))
     (try simp only [Act.put, List.setIfInBounds_toArray, List.set_cons_zero, List.set_cons_succ])
     go_cut [58] (fun v58 wc => ∃ (kq : Nat) (x58_23 : Bool), v58 = .bool x58_23 ∧ Aside0 (scaled_MulDiv.j0 kq (((decide (a0 < 0)) != (decide (a1 < 0))) != (decide (t437 < 0))) t445 x58_23 = some (r1, r2)) ∧ Aside0 (kq ≤ k) ∧ Aside0 (Below w.heap.size w wc))
     case first =>
       have H := HC24.out
       clear HC24
       by_cases c29 : (((decide (a0 < 0)) != (decide (a1 < 0))) != (decide (t437 < 0))) = true
       · rw [if_pos c29] at H
         have c29b0 : (((decide (a0 < 0)) != (decide (a1 < 0))) != (decide (t437 < 0))) = true := c29
         have c29b9 : (!((!((decide (a0 < 0)) == (decide (a1 < 0)))) == (decide (t437 < 0)))) = true := c29b0
         (try (have c29b1 : decide (((decide (a0 < 0)) != (decide (a1 < 0))) = (decide (t437 < 0))) = false := by simpa using c29))
         (try (have c29b2 : (((decide (a0 < 0)) != (decide (a1 < 0))) == (decide (t437 < 0))) = false := by simpa using c29))
         (try (have c29b3 : ¬ (((decide (a0 < 0)) != (decide (a1 < 0))) = (decide (t437 < 0))) := by simpa using c29))
         clear c29
         (first | rw [c29b0] | (simp only [i64_w, i32_w]; rw [c29b0]) | skip)
         have H' := Aside0.mk H
         clear H
         go_wp2
         rw (occs := .pos [1]) [show (Value.bool true) = Value.bool (!((!((decide (a0 < 0)) == (decide (a1 < 0)))) == (decide (t437 < 0)))) from congrArg Value.bool c29b9.symm]
         go_meet
         case rel => exact ⟨_, (decide (t446 > 0)), (by first | rfl | (simp; done) | (simp [*]; done)), H', ⟨by first | omega | exact Nat.le_refl _⟩, ⟨by repeat (first | (with_reducible first | exact HB.out | apply below_alloc | apply pw_below_drewN | apply below_drew1) | exact HB.out)⟩⟩
       · rw [if_neg c29] at H
         have c29b0 : (((decide (a0 < 0)) != (decide (a1 < 0))) != (decide (t437 < 0))) = false := by simpa using c29
         have c29b9 : (!((!((decide (a0 < 0)) == (decide (a1 < 0)))) == (decide (t437 < 0)))) = false := c29b0
         (try (have c29b1 : decide (((decide (a0 < 0)) != (decide (a1 < 0))) = (decide (t437 < 0))) = true := by simpa using c29))
         (try (have c29b2 : (((decide (a0 < 0)) != (decide (a1 < 0))) == (decide (t437 < 0))) = true := by simpa using c29))
         clear c29
         (first | rw [c29b0] | (simp only [i64_w, i32_w]; rw [c29b0]) | skip)
         have H' := Aside0.mk H
         clear H
         go_wp2
         rw (occs := .pos [2]) [show (Value.bool false) = Value.bool (!((!((decide (a0 < 0)) == (decide (a1 < 0)))) == (decide (t437 < 0)))) from congrArg Value.bool c29b9.symm]
         go_meet
         case rel => exact ⟨_, (false), (by first | rfl | (simp; done) | (simp [*]; done)), H', ⟨by first | omega | exact Nat.le_refl _⟩, ⟨by repeat (first | (with_reducible first | exact HB.out | apply below_alloc | apply pw_below_drewN | apply below_drew1) | exact HB.out)⟩⟩
     case rest =>
       clear HC24
       try clear c1
       try clear c2
       try clear p2
       try clear c3
       try clear c4
       try clear c5
       try clear c5b0
       try clear c5b1
       try clear c11
       try clear c11b0
       try clear c12
       try clear c12b0
       try clear c12b1
       try clear c12b2
       try clear c21
       try clear c29
       try clear c29b0
       try clear c29b1
       try clear c29b2
       obtain ⟨kq, x58_23, rfl, HA, HJ23, HB⟩ := hcut
       cases kq with
       | zero => exact absurd HA.out (by simp [scaled_MulDiv.j0])
       | succ kj23 =>
         have H := HA.out
         clear HA
         simp only [scaled_MulDiv.j0] at H
         by_cases c30 : x58_23 = true
         · subst c30
           have H1 : (if t445 ≥ 1152921504606846976 then (some ((-1152921504606846976), true)) else (if (((decide (a0 < 0)) != (decide (a1 < 0))) != (decide (t437 < 0))) = true then ((scaled_signed.f kj23 (decide ((IntKind.u64.wrap (t445 + 1)) > 0)) 0 (IntKind.u64.wrap (t445 + 1))).bind fun t447 => (some (t447, true))) else ((scaled_signed.f kj23 false 0 (IntKind.u64.wrap (t445 + 1))).bind fun t448 => (some (t448, true))))) = some (r1, r2) := by rw [if_pos rfl] at H; exact H
           clear H
           have H := H1
           clear H1
           by_cases c31 : t445 ≥ 1152921504606846976
           · rw [if_pos c31] at H
             have c31b0 : decide (1152921504606846976 ≤ t445) = true := decide_eq_true c31
             clear c31
             simp only [Option.some.injEq, Prod.mk.injEq] at H
             obtain ⟨rfl, rfl⟩ := H
             go_wp2
             go_ret2
             exact ⟨by first | rfl | (simp [errW_none, errW_some] <;> rfl) | (simp [*, errW_none, errW_some] <;> rfl), by repeat (first | (with_reducible first | exact HB.out | apply below_alloc | apply pw_below_drewN | apply below_drew1) | exact HB.out)⟩
           · rw [if_neg c31] at H
             have c31b0 : decide (1152921504606846976 ≤ t445) = false := decide_eq_false c31
             clear c31
             by_cases c32 : (((decide (a0 < 0)) != (decide (a1 < 0))) != (decide (t437 < 0))) = true
             · rw [if_pos c32] at H
               have c32b0 : (((decide (a0 < 0)) != (decide (a1 < 0))) != (decide (t437 < 0))) = true := c32
               have c32b9 : (!((!((decide (a0 < 0)) == (decide (a1 < 0)))) == (decide (t437 < 0)))) = true := c32b0
               (try (have c32b1 : decide (((decide (a0 < 0)) != (decide (a1 < 0))) = (decide (t437 < 0))) = false := by simpa using c32))
               (try (have c32b2 : (((decide (a0 < 0)) != (decide (a1 < 0))) == (decide (t437 < 0))) = false := by simpa using c32))
               (try (have c32b3 : ¬ (((decide (a0 < 0)) != (decide (a1 < 0))) = (decide (t437 < 0))) := by simpa using c32))
               clear c32
               replace H := Option.bind_eq_some_iff.mp H
               obtain ⟨t447, A330, H⟩ := H
               replace H : (some (t447, true)) = some (r1, r2) := H
               have A33 := Aside0.mk A330
               clear A330
               simp only [Option.some.injEq, Prod.mk.injEq] at H
               obtain ⟨rfl, rfl⟩ := H
               go_wp2_with (first | ((with_reducible refine gate_callee (f := 49) rfl ?_); refine goesL_ (some 69) rfl rfl Try.func49 (by kernel_rfl) rfl #[.bool (decide ((IntKind.u64.wrap (t445 + 1)) > 0)), .int .u64 0, .int .u64 (IntKind.u64.wrap (t445 + 1))] rfl (by (try simp only [List.map_toArray, List.map_cons, List.map_nil]); first | done | rfl | (simp only [List.length_drop, List.length_take]; rfl)) ?_; (with_reducible refine (scaled_signed.calls kj23 (decide ((IntKind.u64.wrap (t445 + 1)) > 0)) 0 (IntKind.u64.wrap (t445 + 1)) t447 _ A33.out).mono ?_); rintro e w' ⟨rfl, ⟨nd, rfl⟩⟩; refine ⟨_, rfl, ?_⟩))
               go_ret2
               exact ⟨by first | rfl | (simp [errW_none, errW_some] <;> rfl) | (simp [*, errW_none, errW_some] <;> rfl), by repeat (first | (with_reducible first | exact HB.out | apply below_alloc | apply pw_below_drewN | apply below_drew1) | exact HB.out)⟩
             · rw [if_neg c32] at H
               have c32b0 : (((decide (a0 < 0)) != (decide (a1 < 0))) != (decide (t437 < 0))) = false := by simpa using c32
               have c32b9 : (!((!((decide (a0 < 0)) == (decide (a1 < 0)))) == (decide (t437 < 0)))) = false := c32b0
               (try (have c32b1 : decide (((decide (a0 < 0)) != (decide (a1 < 0))) = (decide (t437 < 0))) = true := by simpa using c32))
               (try (have c32b2 : (((decide (a0 < 0)) != (decide (a1 < 0))) == (decide (t437 < 0))) = true := by simpa using c32))
               clear c32
               replace H := Option.bind_eq_some_iff.mp H
               obtain ⟨t448, A340, H⟩ := H
               replace H : (some (t448, true)) = some (r1, r2) := H
               have A34 := Aside0.mk A340
               clear A340
               simp only [Option.some.injEq, Prod.mk.injEq] at H
               obtain ⟨rfl, rfl⟩ := H
               go_wp2_with (first | ((with_reducible refine gate_callee (f := 49) rfl ?_); refine goesL_ (some 69) rfl rfl Try.func49 (by kernel_rfl) rfl #[.bool false, .int .u64 0, .int .u64 (IntKind.u64.wrap (t445 + 1))] rfl (by (try simp only [List.map_toArray, List.map_cons, List.map_nil]); first | done | rfl | (simp only [List.length_drop, List.length_take]; rfl)) ?_; (with_reducible refine (scaled_signed.calls kj23 false 0 (IntKind.u64.wrap (t445 + 1)) t448 _ A34.out).mono ?_); rintro e w' ⟨rfl, ⟨nd, rfl⟩⟩; refine ⟨_, rfl, ?_⟩))
               go_ret2
               exact ⟨by first | rfl | (simp [errW_none, errW_some] <;> rfl) | (simp [*, errW_none, errW_some] <;> rfl), by repeat (first | (with_reducible first | exact HB.out | apply below_alloc | apply pw_below_drewN | apply below_drew1) | exact HB.out)⟩
         · replace c30 := Bool.eq_false_iff.mpr c30
           subst c30
           have H1 : (if (((decide (a0 < 0)) != (decide (a1 < 0))) != (decide (t437 < 0))) = true then ((scaled_signed.f kj23 (decide (t445 > 0)) 0 t445).bind fun t449 => (some (t449, true))) else ((scaled_signed.f kj23 false 0 t445).bind fun t450 => (some (t450, true)))) = some (r1, r2) := by rw [if_neg (show ¬ (false = true) by decide)] at H; exact H
           clear H
           have H := H1
           clear H1
           by_cases c35 : (((decide (a0 < 0)) != (decide (a1 < 0))) != (decide (t437 < 0))) = true
           · rw [if_pos c35] at H
             have c35b0 : (((decide (a0 < 0)) != (decide (a1 < 0))) != (decide (t437 < 0))) = true := c35
             have c35b9 : (!((!((decide (a0 < 0)) == (decide (a1 < 0)))) == (decide (t437 < 0)))) = true := c35b0
             (try (have c35b1 : decide (((decide (a0 < 0)) != (decide (a1 < 0))) = (decide (t437 < 0))) = false := by simpa using c35))
             (try (have c35b2 : (((decide (a0 < 0)) != (decide (a1 < 0))) == (decide (t437 < 0))) = false := by simpa using c35))
             (try (have c35b3 : ¬ (((decide (a0 < 0)) != (decide (a1 < 0))) = (decide (t437 < 0))) := by simpa using c35))
             clear c35
             replace H := Option.bind_eq_some_iff.mp H
             obtain ⟨t449, A360, H⟩ := H
             replace H : (some (t449, true)) = some (r1, r2) := H
             have A36 := Aside0.mk A360
             clear A360
             simp only [Option.some.injEq, Prod.mk.injEq] at H
             obtain ⟨rfl, rfl⟩ := H
             go_wp2_with (first | ((with_reducible refine gate_callee (f := 49) rfl ?_); refine goesL_ (some 69) rfl rfl Try.func49 (by kernel_rfl) rfl #[.bool (decide (t445 > 0)), .int .u64 0, .int .u64 t445] rfl (by (try simp only [List.map_toArray, List.map_cons, List.map_nil]); first | done | rfl | (simp only [List.length_drop, List.length_take]; rfl)) ?_; (with_reducible refine (scaled_signed.calls kj23 (decide (t445 > 0)) 0 t445 t449 _ A36.out).mono ?_); rintro e w' ⟨rfl, ⟨nd, rfl⟩⟩; refine ⟨_, rfl, ?_⟩))
             go_ret2
             exact ⟨by first | rfl | (simp [errW_none, errW_some] <;> rfl) | (simp [*, errW_none, errW_some] <;> rfl), by repeat (first | (with_reducible first | exact HB.out | apply below_alloc | apply pw_below_drewN | apply below_drew1) | exact HB.out)⟩
           · rw [if_neg c35] at H
             have c35b0 : (((decide (a0 < 0)) != (decide (a1 < 0))) != (decide (t437 < 0))) = false := by simpa using c35
             have c35b9 : (!((!((decide (a0 < 0)) == (decide (a1 < 0)))) == (decide (t437 < 0)))) = false := c35b0
             (try (have c35b1 : decide (((decide (a0 < 0)) != (decide (a1 < 0))) = (decide (t437 < 0))) = true := by simpa using c35))
             (try (have c35b2 : (((decide (a0 < 0)) != (decide (a1 < 0))) == (decide (t437 < 0))) = true := by simpa using c35))
             clear c35
             replace H := Option.bind_eq_some_iff.mp H
             obtain ⟨t450, A370, H⟩ := H
             replace H : (some (t450, true)) = some (r1, r2) := H
             have A37 := Aside0.mk A370
             clear A370
             simp only [Option.some.injEq, Prod.mk.injEq] at H
             obtain ⟨rfl, rfl⟩ := H
             go_wp2_with (first | ((with_reducible refine gate_callee (f := 49) rfl ?_); refine goesL_ (some 69) rfl rfl Try.func49 (by kernel_rfl) rfl #[.bool false, .int .u64 0, .int .u64 t445] rfl (by (try simp only [List.map_toArray, List.map_cons, List.map_nil]); first | done | rfl | (simp only [List.length_drop, List.length_take]; rfl)) ?_; (with_reducible refine (scaled_signed.calls kj23 false 0 t445 t450 _ A37.out).mono ?_); rintro e w' ⟨rfl, ⟨nd, rfl⟩⟩; refine ⟨_, rfl, ?_⟩))
             go_ret2
             exact ⟨by first | rfl | (simp [errW_none, errW_some] <;> rfl) | (simp [*, errW_none, errW_some] <;> rfl), by repeat (first | (with_reducible first | exact HB.out | apply below_alloc | apply pw_below_drewN | apply below_drew1) | exact HB.out)⟩

/-! ### scaled_Scale: function 39 -/
def scaled_Scale.f (k : Nat) (a0 : Int) (a1 : Int) (a2 : Int) : Option (Int) := if a2 ≤ 0 then (some 0) else ((scaled_MulDiv.f k a0 a1 a2).bind fun bt451 => (some bt451.1))
theorem scaled_Scale.mono : ∀ a0 a1 a2 k, LeO (scaled_Scale.f k a0 a1 a2) (scaled_Scale.f (k + 1) a0 a1 a2) := by
 intro a0 a1 a2 k
 unfold scaled_Scale.f
 repeat' first
     | (with_reducible exact scaled_MulDiv.mono _ _ _ _)
     | (with_reducible exact LeO.refl _)
     | (with_reducible exact LeO.none _)
     | (with_reducible refine LeO.ite ?_ ?_)
     | (with_reducible refine LeO.bind ?_ (fun _ => ?_))
     | exact scaled_MulDiv.mono _ _ _ _
     | exact LeO.none _
     | refine LeO.ite ?_ ?_
     | refine LeO.bind ?_ (fun _ => ?_)
set_option maxHeartbeats 8000000 in
set_option maxRecDepth 100000 in
theorem scaled_Scale.calls (k : Nat) (a0 : Int) (a1 : Int) (a2 : Int) (r : Int) (w : World) (h : scaled_Scale.f k a0 a1 a2 = some r) :
   Calls Try.prog 39 #[.int .i64 a0, .int .i64 a1, .int .i64 a2] w fun e w' => e = .returned (.int .i64 r) ∧ Below w.heap.size w w' := by
 have HB := Aside0.mk (Below.refl w.heap.size w)
 have H : (if a2 ≤ 0 then (some 0) else ((scaled_MulDiv.f k a0 a1 a2).bind fun bt451 => (some bt451.1))) = some r := h
 clear h
 by_cases c4 : a2 ≤ 0
 · rw [if_pos c4] at H
   have c4b0 : decide (a2 ≤ 0) = true := decide_eq_true c4
   clear c4
   obtain rfl := Option.some.inj H
   go_enter Try.func39, Try.ntmps39
   go_wp2
   go_ret
   exact ⟨by first | rfl | (simp [errW_none, errW_some] <;> rfl) | (simp [*, errW_none, errW_some] <;> rfl), by repeat (first | (with_reducible first | exact HB.out | apply below_alloc | apply pw_below_drewN | apply below_drew1) | exact HB.out)⟩
 · rw [if_neg c4] at H
   have c4b0 : decide (a2 ≤ 0) = false := decide_eq_false c4
   clear c4
   replace H := Option.bind_eq_some_iff.mp H
   obtain ⟨⟨t451, t452⟩, A50, H⟩ := H
   replace H : (some t451) = some r := H
   have A5 := Aside0.mk A50
   clear A50
   obtain rfl := Option.some.inj H
   go_enter Try.func39, Try.ntmps39
   go_wp2_with (first | ((with_reducible refine gate_callee (f := 37) rfl ?_); refine goesL_ (some 15) rfl rfl Try.func37 (by kernel_rfl) rfl #[.int .i64 a0, .int .i64 a1, .int .i64 a2] rfl (by (try simp only [List.map_toArray, List.map_cons, List.map_nil]); first | done | rfl | (simp only [List.length_drop, List.length_take]; rfl)) ?_; (with_reducible refine (scaled_MulDiv.calls k a0 a1 a2 t451 t452 _ A5.out).mono ?_); rintro e w6 ⟨rfl, hb⟩; refine ⟨_, rfl, ?_⟩; have n0_ := Aside0.mk (below_step (by repeat (first | (with_reducible first | exact HB.out | apply below_alloc | apply pw_below_drewN | apply below_drew1) | exact HB.out)) hb); clear HB; have HB := n0_; clear n0_; (try clear hb); (try clear hb2); (try clear hk); (try clear hi)))
   go_ret
   exact ⟨by first | rfl | (simp [errW_none, errW_some] <;> rfl) | (simp [*, errW_none, errW_some] <;> rfl), by repeat (first | (with_reducible first | exact HB.out | apply below_alloc | apply pw_below_drewN | apply below_drew1) | exact HB.out)⟩

end Go.Proofs.Ytedplhcdlkhbnaa.P
