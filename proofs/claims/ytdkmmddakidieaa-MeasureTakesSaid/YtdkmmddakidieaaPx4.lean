-- PRINTED by print.py (a twelfth state) out of the translation. Not trusted: Lean checks it.
import Derived.Test.YtdkmmddakidieaaPx0
import Derived.Test.YtdkmmddakidieaaWo
namespace Go.Proofs.Ytdkmmddakidieaa.P
open Go.RowKit Go.Proofs.YtdkmmddakidieaaW.PrintWords Go.Proofs.YtdkmmddakidieaaW.PrintLast Go.Proofs.YtdkmmddakidieaaW.PrintMore
attribute [local go_sem] max2_int min2_int max_two min_two max_three min_three max_four min_four   -- for this text's walks alone
set_option linter.unusedVariables false
set_option linter.unusedSimpArgs false

/-! ### measure_Usual: function 15 -/
def measure_Usual.f  : Option (Int × Int × Int × Int × Int × Int × Int) := some (200, 10, 10000, 10000, 5000, 2, 2)
set_option maxHeartbeats 8000000 in
set_option maxRecDepth 100000 in
theorem measure_Usual.calls  (r1 : Int) (r2 : Int) (r3 : Int) (r4 : Int) (r5 : Int) (r6 : Int) (r7 : Int) (w : World) (h : measure_Usual.f  = some (r1, r2, r3, r4, r5, r6, r7)) :
   Calls Try.prog 15 #[] w fun e w' => e = .returned (.agg #[.int .i64 r1, .int .i64 r2, .int .i64 r3, .int .i64 r4, .int .i64 r5, .int .i64 r6, .int .i64 r7]) ∧ Below w.heap.size w w' := by
 have hu26 := Try.underlying26
 have HB := Aside0.mk (Below.refl w.heap.size w)
 have H : (some (200, 10, 10000, 10000, 5000, 2, 2)) = some (r1, r2, r3, r4, r5, r6, r7) := h
 clear h
 simp only [Option.some.injEq, Prod.mk.injEq] at H
 obtain ⟨rfl, rfl, rfl, rfl, rfl, rfl, rfl⟩ := H
 go_enter Try.func15, Try.ntmps15
 go_wp2_with (first | ((with_reducible refine gate_dst (N := 0) rfl ?_); refine box_event ?hg (N := 0) ?hd (cs := #[.int .i64 0, .int .i64 0, .int .i64 0, .int .i64 0, .int .i64 0, .int .i64 0, .int .i64 0]) (t := 26) ?hr ?_; (case hd => rfl); (case hg => rfl); (case hr => first | (go_simp; done) | (go_simp; rfl)); intro gb101 hg w1 hbox hb; have n0_ := Aside0.mk (below_step (by repeat (first | (with_reducible first | exact HB.out | apply bA | apply bN | apply bD) | exact HB.out)) hb); have n1_ := Aside0.mk (hbox); have n2_ := Aside0.mk ((by rw [hg]; exact (below_size (by repeat (first | (with_reducible first | exact HB.out | apply bA | apply bN | apply bD) | exact HB.out))) : w.heap.size ≤ gb101)); have n3_ := Aside0.mk ((by rw [hg]; exact (below_size (by repeat (first | (with_reducible first | exact HB.out | apply bA | apply bN | apply bD) | exact HB.out))) : w.heap.size ≤ gb101)); clear HB; have HB := n0_; have BK101 := n1_; have GW101 := n2_; have GE101 := n3_; clear n0_ n1_ n2_ n3_; clear hb hbox hg; have hcz2_0 : w1.cell? ⟨gb101, 0, none⟩ = some (.int .i64 0) := (blk_cell BK101.out 0).trans rfl; have hcz2_1 : w1.cell? ⟨gb101, 1, none⟩ = some (.int .i64 0) := (blk_cell BK101.out 1).trans rfl; have hcz2_2 : w1.cell? ⟨gb101, 2, none⟩ = some (.int .i64 0) := (blk_cell BK101.out 2).trans rfl; have hcz2_3 : w1.cell? ⟨gb101, 3, none⟩ = some (.int .i64 0) := (blk_cell BK101.out 3).trans rfl; have hcz2_4 : w1.cell? ⟨gb101, 4, none⟩ = some (.int .i64 0) := (blk_cell BK101.out 4).trans rfl; have hcz2_5 : w1.cell? ⟨gb101, 5, none⟩ = some (.int .i64 0) := (blk_cell BK101.out 5).trans rfl; have hcz2_6 : w1.cell? ⟨gb101, 6, none⟩ = some (.int .i64 0) := (blk_cell BK101.out 6).trans rfl; have hfz2_0 := blk_frozen BK101.out 0; have hfz2_1 := blk_frozen BK101.out 1; have hfz2_2 := blk_frozen BK101.out 2; have hfz2_3 := blk_frozen BK101.out 3; have hfz2_4 := blk_frozen BK101.out 4; have hfz2_5 := blk_frozen BK101.out 5; have hfz2_6 := blk_frozen BK101.out 6))
 refine bodyPost_ret (results_cell_row rfl _ _ gb101 26 #[.int .i64 200, .int .i64 10, .int .i64 10000, .int .i64 10000, .int .i64 5000, .int .i64 2, .int .i64 2] (0, 0) _ rfl (by (with_reducible repeat first | apply kN | apply kD | apply kA); refine blk_put (cs := #[.int .i64 200, .int .i64 10, .int .i64 10000, .int .i64 10000, .int .i64 5000, .int .i64 2, .int .i64 0]) ?_ 6 _ rfl; (with_reducible repeat first | apply kN | apply kD | apply kA); refine blk_put (cs := #[.int .i64 200, .int .i64 10, .int .i64 10000, .int .i64 10000, .int .i64 5000, .int .i64 0, .int .i64 0]) ?_ 5 _ rfl; (with_reducible repeat first | apply kN | apply kD | apply kA); refine blk_put (cs := #[.int .i64 200, .int .i64 10, .int .i64 10000, .int .i64 10000, .int .i64 0, .int .i64 0, .int .i64 0]) ?_ 4 _ rfl; (with_reducible repeat first | apply kN | apply kD | apply kA); refine blk_put (cs := #[.int .i64 200, .int .i64 10, .int .i64 10000, .int .i64 0, .int .i64 0, .int .i64 0, .int .i64 0]) ?_ 3 _ rfl; (with_reducible repeat first | apply kN | apply kD | apply kA); refine blk_put (cs := #[.int .i64 200, .int .i64 10, .int .i64 0, .int .i64 0, .int .i64 0, .int .i64 0, .int .i64 0]) ?_ 2 _ rfl; (with_reducible repeat first | apply kN | apply kD | apply kA); refine blk_put (cs := #[.int .i64 200, .int .i64 0, .int .i64 0, .int .i64 0, .int .i64 0, .int .i64 0, .int .i64 0]) ?_ 1 _ rfl; (with_reducible repeat first | apply kN | apply kD | apply kA); refine blk_put (cs := #[.int .i64 0, .int .i64 0, .int .i64 0, .int .i64 0, .int .i64 0, .int .i64 0, .int .i64 0]) ?_ 0 _ rfl; (with_reducible repeat first | apply kN | apply kD | apply kA); exact BK101.out) Try.underlying26 rfl (by kernel_rfl)) rfl ?_
 exact ⟨by first | rfl | (simp [errW_none, errW_some] <;> rfl) | (simp [*, errW_none, errW_some] <;> rfl), by repeat (first | (with_reducible first | exact HB.out | apply bA | apply bN | apply bD | refine below_set ?_ GE101.out) | exact HB.out)⟩

/-! ### scaled_Clamp: function 50 -/
def scaled_Clamp.f (a0 : Int) : Option (Int) := some (mx (-1152921504606846976) (mn 1152921504606846976 a0))
set_option maxHeartbeats 8000000 in
set_option maxRecDepth 100000 in
theorem scaled_Clamp.calls (a0 : Int) (r : Int) (w : World) (h : scaled_Clamp.f a0 = some r) :
   Calls Try.prog 50 #[.int .i64 a0] w fun e w' => e = .returned (.int .i64 r) ∧ Below w.heap.size w w' := by
 have HB := Aside0.mk (Below.refl w.heap.size w)
 have H : (some (mx (-1152921504606846976) (mn 1152921504606846976 a0))) = some r := h
 clear h
 obtain ⟨ji2, hji2⟩ : ∃ j_ : Int, (mn 1152921504606846976 a0) = j_ := ⟨_, rfl⟩
 replace H : (some (mx (-1152921504606846976) (ji2))) = some r := by first | (rw [hji2] at H; exact H) | (simp only [hji2] at H ⊢; exact H)
 (try (have hji2h : ji2 ≤ 1152921504606846976 := by (rw [← hji2]; unfold mn; (repeat' split) <;> omega)))
 (try (have hji2g : ji2 ≤ 64 := by omega))
 have hji2_ : (if a0 < 1152921504606846976 then a0 else 1152921504606846976) = ji2 := hji2
 obtain ⟨ji3, hji3⟩ : ∃ j_ : Int, (mx (-1152921504606846976) (ji2)) = j_ := ⟨_, rfl⟩
 replace H : (some ji3) = some r := by first | (rw [hji3] at H; exact H) | (simp only [hji3] at H ⊢; exact H)
 have hji3_ : (if (-1152921504606846976) < (ji2) then (ji2) else (-1152921504606846976)) = ji3 := hji3
 obtain rfl := Option.some.inj H
 go_enter Try.func50, Try.ntmps50
 go_wp2
 go_ret
 exact ⟨by first | rfl | (simp [errW_none, errW_some] <;> rfl) | (simp only [← hji2, ← hji3]; first | rfl | (simp [errW_none, errW_some] <;> rfl)) | (simp [*, errW_none, errW_some] <;> rfl), by repeat (first | (with_reducible first | exact HB.out | apply bA | apply bN | apply bD) | exact HB.out)⟩

/-! ### bits_Mul64: function 63 -/
def bits_Mul64.f (a0 : Int) (a1 : Int) : Option (Int × Int) := some (IntKind.u64.wrap ((IntKind.u64.wrap ((IntKind.u64.wrap ((a0 / 4294967296) * (a1 / 4294967296))) + ((IntKind.u64.wrap ((IntKind.u64.wrap ((a0 / 4294967296) * (Go.bits .and .u64 a1 4294967295))) + ((IntKind.u64.wrap ((Go.bits .and .u64 a0 4294967295) * (Go.bits .and .u64 a1 4294967295))) / 4294967296))) / 4294967296))) + ((IntKind.u64.wrap ((Go.bits .and .u64 (IntKind.u64.wrap ((IntKind.u64.wrap ((a0 / 4294967296) * (Go.bits .and .u64 a1 4294967295))) + ((IntKind.u64.wrap ((Go.bits .and .u64 a0 4294967295) * (Go.bits .and .u64 a1 4294967295))) / 4294967296))) 4294967295) + (IntKind.u64.wrap ((Go.bits .and .u64 a0 4294967295) * (a1 / 4294967296))))) / 4294967296)), IntKind.u64.wrap (a0 * a1))
set_option maxHeartbeats 8000000 in
set_option maxRecDepth 100000 in
theorem bits_Mul64.calls (a0 : Int) (a1 : Int) (r1 : Int) (r2 : Int) (w : World) (h : bits_Mul64.f a0 a1 = some (r1, r2)) :
   Calls Try.prog 63 #[.int .u64 a0, .int .u64 a1] w fun e w' => e = .returned (.tuple #[.int .u64 r1, .int .u64 r2]) ∧ Drawn0 w w' := by
 have H : (some (IntKind.u64.wrap ((IntKind.u64.wrap ((IntKind.u64.wrap ((a0 / 4294967296) * (a1 / 4294967296))) + ((IntKind.u64.wrap ((IntKind.u64.wrap ((a0 / 4294967296) * (Go.bits .and .u64 a1 4294967295))) + ((IntKind.u64.wrap ((Go.bits .and .u64 a0 4294967295) * (Go.bits .and .u64 a1 4294967295))) / 4294967296))) / 4294967296))) + ((IntKind.u64.wrap ((Go.bits .and .u64 (IntKind.u64.wrap ((IntKind.u64.wrap ((a0 / 4294967296) * (Go.bits .and .u64 a1 4294967295))) + ((IntKind.u64.wrap ((Go.bits .and .u64 a0 4294967295) * (Go.bits .and .u64 a1 4294967295))) / 4294967296))) 4294967295) + (IntKind.u64.wrap ((Go.bits .and .u64 a0 4294967295) * (a1 / 4294967296))))) / 4294967296)), IntKind.u64.wrap (a0 * a1))) = some (r1, r2) := h
 clear h
 simp only [Option.some.injEq, Prod.mk.injEq] at H
 obtain ⟨rfl, rfl⟩ := H
 go_enter Try.func63, Try.ntmps63
 go_wp2
 go_ret2
 exact ⟨by first | rfl | (simp; done) | (simp [*]; done), by repeat (first | exact Drawn0.refl _ | apply Drawn0.step)⟩

/-! ### scaled_product: function 59 -/
def scaled_product.f (a0 : Int) (a1 : Int) : Option (Int × Int × Int × Int) := (bits_Mul64.f a0 a1).bind fun bt103 => (some (bt103.2, bt103.1, 0, 0))
set_option maxHeartbeats 8000000 in
set_option maxRecDepth 100000 in
theorem scaled_product.calls (a0 : Int) (a1 : Int) (r1 : Int) (r2 : Int) (r3 : Int) (r4 : Int) (w : World) (h : scaled_product.f a0 a1 = some (r1, r2, r3, r4)) :
   Calls Try.prog 59 #[.int .u64 a0, .int .u64 a1] w fun e w' => e = .returned (.agg #[.int .u64 r1, .int .u64 r2, .int .u64 r3, .int .u64 r4]) ∧ Below w.heap.size w w' := by
 have hu83 := Try.underlying83
 have HB := Aside0.mk (Below.refl w.heap.size w)
 have H : ((bits_Mul64.f a0 a1).bind fun bt103 => (some (bt103.2, bt103.1, 0, 0))) = some (r1, r2, r3, r4) := h
 clear h
 replace H := Option.bind_eq_some_iff.mp H
 obtain ⟨⟨t103, t104⟩, A30, H⟩ := H
 replace H : (some (t104, t103, 0, 0)) = some (r1, r2, r3, r4) := H
 have A3 := Aside0.mk A30
 clear A30
 simp only [Option.some.injEq, Prod.mk.injEq] at H
 obtain ⟨rfl, rfl, rfl, rfl⟩ := H
 go_enter Try.func59, Try.ntmps59
 go_wp2_with (first | ((with_reducible refine gate_dst (N := 4) rfl ?_); refine box_event ?hg (N := 4) ?hd (cs := #[.int .u64 0, .int .u64 0, .int .u64 0, .int .u64 0]) (t := 83) ?hr ?_; (case hd => rfl); (case hg => rfl); (case hr => first | (go_simp; done) | (go_simp; rfl)); intro gb102 hg w4 hbox hb; have n0_ := Aside0.mk (below_step (by repeat (first | (with_reducible first | exact HB.out | apply bA | apply bN | apply bD) | exact HB.out)) hb); have n1_ := Aside0.mk (hbox); have n2_ := Aside0.mk ((by rw [hg]; exact (below_size (by repeat (first | (with_reducible first | exact HB.out | apply bA | apply bN | apply bD) | exact HB.out))) : w.heap.size ≤ gb102)); have n3_ := Aside0.mk ((by rw [hg]; exact (below_size (by repeat (first | (with_reducible first | exact HB.out | apply bA | apply bN | apply bD) | exact HB.out))) : w.heap.size ≤ gb102)); clear HB; have HB := n0_; have BK102 := n1_; have GW102 := n2_; have GE102 := n3_; clear n0_ n1_ n2_ n3_; clear hb hbox hg) | ((with_reducible refine gate_callee (f := 63) rfl ?_); refine goesL_ (some 10) rfl rfl Try.func63 (by kernel_rfl) rfl #[.int .u64 a0, .int .u64 a1] rfl (by (try simp only [List.map_toArray, List.map_cons, List.map_nil]); first | done | rfl | (simp only [List.length_drop, List.length_take]; rfl)) ?_; (with_reducible refine (bits_Mul64.calls a0 a1 t103 t104 _ A3.out).mono ?_); rintro e w' ⟨rfl, ⟨nd, rfl⟩⟩; refine ⟨_, rfl, ?_⟩; (try (rw [drewN_self w4]; generalize hq_ : World.drewN w4 _ = w4; have n0_ : Aside0 (w4.heap[gb102]? = some (.cells #[.int .u64 0, .int .u64 0, .int .u64 0, .int .u64 0] 83 (0, 0))) := ⟨by rw [← hq_]; exact (by (with_reducible repeat first | apply kN | apply kD | apply kA); exact BK102.out)⟩; have n1_ : Aside0 (Below w.heap.size w w4) := ⟨by rw [← hq_]; exact (by repeat (first | (with_reducible first | exact HB.out | apply bA | apply bN | apply bD | refine below_set ?_ GE102.out) | exact HB.out))⟩; clear BK102 HB hq_; have BK102 := n0_; have HB := n1_; clear n0_ n1_)); have hcz5_0 : w4.cell? ⟨gb102, 0, none⟩ = some (.int .u64 0) := (blk_cell BK102.out 0).trans rfl; have hcz5_1 : w4.cell? ⟨gb102, 1, none⟩ = some (.int .u64 0) := (blk_cell BK102.out 1).trans rfl; have hcz5_2 : w4.cell? ⟨gb102, 2, none⟩ = some (.int .u64 0) := (blk_cell BK102.out 2).trans rfl; have hcz5_3 : w4.cell? ⟨gb102, 3, none⟩ = some (.int .u64 0) := (blk_cell BK102.out 3).trans rfl; have hfz5_0 := blk_frozen BK102.out 0; have hfz5_1 := blk_frozen BK102.out 1; have hfz5_2 := blk_frozen BK102.out 2; have hfz5_3 := blk_frozen BK102.out 3))
 refine bodyPost_ret (results_cell_row rfl _ _ gb102 83 #[.int .u64 t104, .int .u64 t103, .int .u64 0, .int .u64 0] (0, 0) _ rfl (by (with_reducible repeat first | apply kN | apply kD | apply kA); refine blk_put (cs := #[.int .u64 t104, .int .u64 t103, .int .u64 0, .int .u64 0]) ?_ 3 _ rfl; (with_reducible repeat first | apply kN | apply kD | apply kA); refine blk_put (cs := #[.int .u64 t104, .int .u64 t103, .int .u64 0, .int .u64 0]) ?_ 2 _ rfl; (with_reducible repeat first | apply kN | apply kD | apply kA); refine blk_put (cs := #[.int .u64 t104, .int .u64 0, .int .u64 0, .int .u64 0]) ?_ 1 _ rfl; (with_reducible repeat first | apply kN | apply kD | apply kA); refine blk_put (cs := #[.int .u64 0, .int .u64 0, .int .u64 0, .int .u64 0]) ?_ 0 _ rfl; (with_reducible repeat first | apply kN | apply kD | apply kA); exact BK102.out) Try.underlying83 rfl (by kernel_rfl)) rfl ?_
 exact ⟨by first | rfl | (simp [errW_none, errW_some] <;> rfl) | (simp [*, errW_none, errW_some] <;> rfl), by repeat (first | (with_reducible first | exact HB.out | apply bA | apply bN | apply bD | refine below_set ?_ GE102.out) | exact HB.out)⟩

-- NOT PRINTED: function 74 (bits_Add64)

/-! ### scaled_wide_times: function 60 -/

set_option maxHeartbeats 2000000 in
set_option maxRecDepth 100000 in
theorem times_walk (w0 w1 w2 w3 b c1 c2 c3 : Int) (hi0 lo0 s0 v0 : Int) (hi1 lo1 s1 v1 : Int) (hi2 lo2 s2 v2 : Int) (hi3 lo3 s3 v3 : Int) (w : World) (m0 : bits_Mul64.f w0 b = some (hi0, lo0)) (m1 : bits_Mul64.f w1 b = some (hi1, lo1)) (m2 : bits_Mul64.f w2 b = some (hi2, lo2)) (m3 : bits_Mul64.f w3 b = some (hi3, lo3))
   (A0 : ∀ w, (callFunc 74 #[.int .u64 lo0, .int .u64 0, .int .u64 0]).run Try.prog w = .ok (.value (.tuple #[.int .u64 s0, .int .u64 v0])) w) (A1 : ∀ w, (callFunc 74 #[.int .u64 lo1, .int .u64 c1, .int .u64 0]).run Try.prog w = .ok (.value (.tuple #[.int .u64 s1, .int .u64 v1])) w) (A2 : ∀ w, (callFunc 74 #[.int .u64 lo2, .int .u64 c2, .int .u64 0]).run Try.prog w = .ok (.value (.tuple #[.int .u64 s2, .int .u64 v2])) w) (A3 : ∀ w, (callFunc 74 #[.int .u64 lo3, .int .u64 c3, .int .u64 0]).run Try.prog w = .ok (.value (.tuple #[.int .u64 s3, .int .u64 v3])) w)
   (e0 : IntKind.u64.wrap (hi0 + v0) = c1) (e1 : IntKind.u64.wrap (hi1 + v1) = c2) (e2 : IntKind.u64.wrap (hi2 + v2) = c3) :
   Calls Try.prog 60 #[.agg #[.int .u64 w0, .int .u64 w1, .int .u64 w2, .int .u64 w3], .int .u64 b] w
    fun e w' => e = .returned (.agg #[.int .u64 s0, .int .u64 s1, .int .u64 s2, .int .u64 s3]) ∧ Below w.heap.size w w' := by
 have i0 : ∀ w, (Instr.index 83 (.agg #[.int .u64 w0, .int .u64 w1, .int .u64 w2, .int .u64 w3]) (.int .i64 0)).run Try.prog w = .ok (.int .u64 w0) w := fun _ => by kernel_rfl
 have i1 : ∀ w, (Instr.index 83 (.agg #[.int .u64 w0, .int .u64 w1, .int .u64 w2, .int .u64 w3]) (.int .i64 1)).run Try.prog w = .ok (.int .u64 w1) w := fun _ => by kernel_rfl
 have i2 : ∀ w, (Instr.index 83 (.agg #[.int .u64 w0, .int .u64 w1, .int .u64 w2, .int .u64 w3]) (.int .i64 2)).run Try.prog w = .ok (.int .u64 w2) w := fun _ => by kernel_rfl
 have i3 : ∀ w, (Instr.index 83 (.agg #[.int .u64 w0, .int .u64 w1, .int .u64 w2, .int .u64 w3]) (.int .i64 3)).run Try.prog w = .ok (.int .u64 w3) w := fun _ => by kernel_rfl
 go_enter Try.func60, Try.ntmps60
 go_wp2
 refine wp_loop_rounds 5 ?_
 rw [rounds_succ]
 go_wp2_with (go_at_call 63; refine (bits_Mul64.calls _ _ _ _ _ m0).mono ?_; rintro e w' ⟨rfl, ⟨⟨n0, rfl⟩⟩⟩)
 rw [rounds_succ]
 go_wp2_with (go_at_call 63; refine (bits_Mul64.calls _ _ _ _ _ m1).mono ?_; rintro e w' ⟨rfl, ⟨⟨n1, rfl⟩⟩⟩)
 rw [rounds_succ]
 go_wp2_with (go_at_call 63; refine (bits_Mul64.calls _ _ _ _ _ m2).mono ?_; rintro e w' ⟨rfl, ⟨⟨n2, rfl⟩⟩⟩)
 rw [rounds_succ]
 go_wp2_with (go_at_call 63; refine (bits_Mul64.calls _ _ _ _ _ m3).mono ?_; rintro e w' ⟨rfl, ⟨⟨n3, rfl⟩⟩⟩)
 rw [rounds_succ]
 go_wp2
 refine bodyPost_ret (v := .agg #[.int .u64 s0, .int .u64 s1, .int .u64 s2, .int .u64 s3]) (by simp [results, Try.results60, go_sem]) rfl ⟨rfl, ?_⟩
 repeat (first | (with_reducible exact Below.refl _ _) | (with_reducible refine below_alloc ?_ _) | (with_reducible refine pw_below_drewN ?_ _) | (with_reducible refine Below.setCell ?_ (by dsimp only; omega) _))

def U64 (a : Int) : Prop := 0 ≤ a ∧ a < 18446744073709551616
instance (a : Int) : Decidable (U64 a) := by unfold U64; infer_instance
theorem mul64_eq {a b : Int} (ha : U64 a) (hb : U64 b) : bits_Mul64.f a b = some (a * b / 18446744073709551616, a * b % 18446744073709551616) := by
 obtain ⟨x, rfl⟩ := Int.eq_ofNat_of_zero_le ha.1
 obtain ⟨y, rfl⟩ := Int.eq_ofNat_of_zero_le hb.1
 have hx : x < 18446744073709551616 := by have := ha.2; omega
 have hy : y < 18446744073709551616 := by have := hb.2; omega
 obtain ⟨bd, bt, bw, hhi⟩ := Lib.mul64_hi x y hx hy
 have ba := Lib.half_mul_le (a := x / 4294967296) (b := y / 4294967296) (by omega) (by omega)
 have bb := Lib.half_mul_le (a := x / 4294967296) (b := y % 4294967296) (by omega) (by omega)
 have bc := Lib.half_mul_le (a := x % 4294967296) (b := y / 4294967296) (by omega) (by omega)
 have ba' : x / 4294967296 * (y / 4294967296) < 18446744073709551616 := by omega
 have bb' : x / 4294967296 * (y % 4294967296) < 18446744073709551616 := by omega
 have bc' : x % 4294967296 * (y / 4294967296) < 18446744073709551616 := by omega
 have bh1 : x / 4294967296 * (y / 4294967296) + (x / 4294967296 * (y % 4294967296) + x % 4294967296 * (y % 4294967296) / 4294967296) / 4294967296 < 18446744073709551616 := by omega
 have bh : x / 4294967296 * (y / 4294967296) + (x / 4294967296 * (y % 4294967296) + x % 4294967296 * (y % 4294967296) / 4294967296) / 4294967296 + ((x / 4294967296 * (y % 4294967296) + x % 4294967296 * (y % 4294967296) / 4294967296) % 4294967296 + x % 4294967296 * (y / 4294967296)) / 4294967296 < 18446744073709551616 := by omega
 unfold bits_Mul64.f
 simp only [Mul64.maskN x hx, Mul64.maskN y hy, Mul64.divN, Mul64.mulN, Mul64.addN, Mul64.wrapN _ bd, Mul64.wrapN _ bb', Mul64.wrapN _ bt, Mul64.maskN _ bt, Mul64.wrapN _ bc', Mul64.wrapN _ bw, Mul64.wrapN _ ba', Mul64.wrapN _ bh1, Mul64.wrapN _ bh, Mul64.wrapM (x * y)]
 rw [hhi]
 rfl
theorem add64_run {x y : Int} (hx : U64 x) (hy : U64 y) (w : World) : (callFunc 74 #[.int .u64 x, .int .u64 y, .int .u64 0]).run Try.prog w = .ok (.value (.tuple #[.int .u64 ((x + y) % 18446744073709551616), .int .u64 ((x + y) / 18446744073709551616)])) w := by
 rw [run_callFunc_extern Try.func74 (by kernel_rfl) (by kernel_rfl) (by kernel_rfl) (e := add64Entry) (by kernel_rfl), run_add64 x y 0 hx.1 hy.1 (by omega) (by omega)]
 simp only [Result.andThen, Int.add_zero]
def scaled_wide_times.f (w0 w1 w2 w3 b : Int) : Option (Int × Int × Int × Int) :=
 if U64 w0 ∧ U64 w1 ∧ U64 w2 ∧ U64 w3 ∧ U64 b then
   some ((w0 * b) % 18446744073709551616, (w1 * b + w0 * b / 18446744073709551616) % 18446744073709551616, (w2 * b + (w1 * b + w0 * b / 18446744073709551616) / 18446744073709551616) % 18446744073709551616, (w3 * b + (w2 * b + (w1 * b + w0 * b / 18446744073709551616) / 18446744073709551616) / 18446744073709551616) % 18446744073709551616)
 else none
theorem times_bound {a b : Int} (ha : U64 a) (hb : U64 b) : 0 ≤ a * b ∧ a * b ≤ 340282366920938463426481119284349108225 := by
 unfold U64 at ha hb
 refine ⟨Int.mul_nonneg ha.1 hb.1, ?_⟩
 have := Int.mul_le_mul (show a ≤ 18446744073709551615 by omega) (show b ≤ 18446744073709551615 by omega) hb.1 (by omega)
 omega
theorem scaled_wide_times.calls (w0 w1 w2 w3 b r1 r2 r3 r4 : Int) (w : World) (h : scaled_wide_times.f w0 w1 w2 w3 b = some (r1, r2, r3, r4)) :
   Calls Try.prog 60 #[.agg #[.int .u64 w0, .int .u64 w1, .int .u64 w2, .int .u64 w3], .int .u64 b] w fun e w' => e = .returned (.agg #[.int .u64 r1, .int .u64 r2, .int .u64 r3, .int .u64 r4]) ∧ Below w.heap.size w w' := by
 unfold scaled_wide_times.f at h
 split at h
 · rename_i hu
   obtain ⟨u0, u1, u2, u3, ub⟩ := hu; have h := Option.some.inj h; simp only [Prod.mk.injEq] at h
   obtain ⟨rfl, rfl, rfl, rfl⟩ := h; have p0 := times_bound u0 ub; have p1 := times_bound u1 ub; have p2 := times_bound u2 ub; have p3 := times_bound u3 ub; have m0 := mul64_eq u0 ub; have m1 := mul64_eq u1 ub; have m2 := mul64_eq u2 ub; have m3 := mul64_eq u3 ub
   generalize w0 * b = q0 at *
   generalize w1 * b = q1 at *
   generalize w2 * b = q2 at *
   generalize w3 * b = q3 at *
   have A0 := fun w => add64_run (x := q0 % 18446744073709551616) (y := 0) (by unfold U64; omega) (by unfold U64; omega) w
   have A1 := fun w => add64_run (x := q1 % 18446744073709551616) (y := q0 / 18446744073709551616) (by unfold U64; omega) (by unfold U64; omega) w
   have A2 := fun w => add64_run (x := q2 % 18446744073709551616) (y := (q1 + q0 / 18446744073709551616) / 18446744073709551616) (by unfold U64; omega) (by unfold U64; omega) w
   have A3 := fun w => add64_run (x := q3 % 18446744073709551616) (y := (q2 + (q1 + q0 / 18446744073709551616) / 18446744073709551616) / 18446744073709551616) (by unfold U64; omega) (by unfold U64; omega) w
   have t := times_walk w0 w1 w2 w3 b (q0 / 18446744073709551616) ((q1 + q0 / 18446744073709551616) / 18446744073709551616) ((q2 + (q1 + q0 / 18446744073709551616) / 18446744073709551616) / 18446744073709551616) _ _ _ _ _ _ _ _ _ _ _ _ _ _ _ _ w m0 m1 m2 m3 A0 A1 A2 A3
    (by rw [IntKind.wrap_u64]; omega) (by rw [IntKind.wrap_u64]; omega) (by rw [IntKind.wrap_u64]; omega)
   rw [show (q0 % 18446744073709551616 + 0) % 18446744073709551616 = q0 % 18446744073709551616 by omega, show (q1 % 18446744073709551616 + q0 / 18446744073709551616) % 18446744073709551616 = (q1 + q0 / 18446744073709551616) % 18446744073709551616 by omega,
    show (q2 % 18446744073709551616 + (q1 + q0 / 18446744073709551616) / 18446744073709551616) % 18446744073709551616 = (q2 + (q1 + q0 / 18446744073709551616) / 18446744073709551616) % 18446744073709551616 by omega,
    show (q3 % 18446744073709551616 + (q2 + (q1 + q0 / 18446744073709551616) / 18446744073709551616) / 18446744073709551616) % 18446744073709551616 = (q3 + (q2 + (q1 + q0 / 18446744073709551616) / 18446744073709551616) / 18446744073709551616) % 18446744073709551616 by omega] at t
   exact t
 · cases h

/-! ### scaled_smaller: function 61 -/

set_option maxHeartbeats 1000000 in
set_option maxRecDepth 100000 in
theorem smaller_3 (a0 a1 a2 a3 b0 b1 b2 b3 : Int) (w : World) (h3 : (a3 != b3) = true) :
   Calls Try.prog 61 #[.agg #[.int .u64 a0, .int .u64 a1, .int .u64 a2, .int .u64 a3], .agg #[.int .u64 b0, .int .u64 b1, .int .u64 b2, .int .u64 b3]] w
    fun e w' => e = .returned (.bool (decide (a3 < b3))) ∧ Below w.heap.size w w' := by
 go_enter Try.func61, Try.ntmps61
 go_wp2
 refine wp_loop_rounds 1 ?_
 rw [rounds_succ]
 go_wp2
 go_quiet (fail)
 go_wp2
 go_quiet (fail)
 go_wp2
 go_ret
 exact ⟨rfl, by repeat (first | exact Below.refl _ _ | refine pw_below_drewN ?_ _ | refine below_alloc ?_ _)⟩

set_option maxHeartbeats 1000000 in
set_option maxRecDepth 100000 in
theorem smaller_2 (a0 a1 a2 a3 b0 b1 b2 b3 : Int) (w : World) (h3 : (a3 != b3) = false) (h2 : (a2 != b2) = true) :
   Calls Try.prog 61 #[.agg #[.int .u64 a0, .int .u64 a1, .int .u64 a2, .int .u64 a3], .agg #[.int .u64 b0, .int .u64 b1, .int .u64 b2, .int .u64 b3]] w
    fun e w' => e = .returned (.bool (decide (a2 < b2))) ∧ Below w.heap.size w w' := by
 go_enter Try.func61, Try.ntmps61
 go_wp2
 refine wp_loop_rounds 2 ?_
 rw [rounds_succ]
 go_wp2
 go_quiet (fail)
 go_wp2
 rw [rounds_succ]
 go_wp2
 go_quiet (fail)
 go_wp2
 go_quiet (fail)
 go_wp2
 go_ret
 exact ⟨rfl, by repeat (first | exact Below.refl _ _ | refine pw_below_drewN ?_ _ | refine below_alloc ?_ _)⟩

set_option maxHeartbeats 1000000 in
set_option maxRecDepth 100000 in
theorem smaller_1 (a0 a1 a2 a3 b0 b1 b2 b3 : Int) (w : World) (h3 : (a3 != b3) = false) (h2 : (a2 != b2) = false) (h1 : (a1 != b1) = true) :
   Calls Try.prog 61 #[.agg #[.int .u64 a0, .int .u64 a1, .int .u64 a2, .int .u64 a3], .agg #[.int .u64 b0, .int .u64 b1, .int .u64 b2, .int .u64 b3]] w
    fun e w' => e = .returned (.bool (decide (a1 < b1))) ∧ Below w.heap.size w w' := by
 go_enter Try.func61, Try.ntmps61
 go_wp2
 refine wp_loop_rounds 3 ?_
 rw [rounds_succ]
 go_wp2
 go_quiet (fail)
 go_wp2
 rw [rounds_succ]
 go_wp2
 go_quiet (fail)
 go_wp2
 rw [rounds_succ]
 go_wp2
 go_quiet (fail)
 go_wp2
 go_quiet (fail)
 go_wp2
 go_ret
 exact ⟨rfl, by repeat (first | exact Below.refl _ _ | refine pw_below_drewN ?_ _ | refine below_alloc ?_ _)⟩

set_option maxHeartbeats 1000000 in
set_option maxRecDepth 100000 in
theorem smaller_0 (a0 a1 a2 a3 b0 b1 b2 b3 : Int) (w : World) (h3 : (a3 != b3) = false) (h2 : (a2 != b2) = false) (h1 : (a1 != b1) = false) (h0 : (a0 != b0) = true) :
   Calls Try.prog 61 #[.agg #[.int .u64 a0, .int .u64 a1, .int .u64 a2, .int .u64 a3], .agg #[.int .u64 b0, .int .u64 b1, .int .u64 b2, .int .u64 b3]] w
    fun e w' => e = .returned (.bool (decide (a0 < b0))) ∧ Below w.heap.size w w' := by
 go_enter Try.func61, Try.ntmps61
 go_wp2
 refine wp_loop_rounds 4 ?_
 rw [rounds_succ]
 go_wp2
 go_quiet (fail)
 go_wp2
 rw [rounds_succ]
 go_wp2
 go_quiet (fail)
 go_wp2
 rw [rounds_succ]
 go_wp2
 go_quiet (fail)
 go_wp2
 rw [rounds_succ]
 go_wp2
 go_quiet (fail)
 go_wp2
 go_quiet (fail)
 go_wp2
 go_ret
 exact ⟨rfl, by repeat (first | exact Below.refl _ _ | refine pw_below_drewN ?_ _ | refine below_alloc ?_ _)⟩

set_option maxHeartbeats 1000000 in
set_option maxRecDepth 100000 in
theorem smaller_n (a0 a1 a2 a3 b0 b1 b2 b3 : Int) (w : World) (h3 : (a3 != b3) = false) (h2 : (a2 != b2) = false) (h1 : (a1 != b1) = false) (h0 : (a0 != b0) = false) :
   Calls Try.prog 61 #[.agg #[.int .u64 a0, .int .u64 a1, .int .u64 a2, .int .u64 a3], .agg #[.int .u64 b0, .int .u64 b1, .int .u64 b2, .int .u64 b3]] w
    fun e w' => e = .returned (.bool (false)) ∧ Below w.heap.size w w' := by
 go_enter Try.func61, Try.ntmps61
 go_wp2
 refine wp_loop_rounds 5 ?_
 rw [rounds_succ]
 go_wp2
 go_quiet (fail)
 go_wp2
 rw [rounds_succ]
 go_wp2
 go_quiet (fail)
 go_wp2
 rw [rounds_succ]
 go_wp2
 go_quiet (fail)
 go_wp2
 rw [rounds_succ]
 go_wp2
 go_quiet (fail)
 go_wp2
 rw [rounds_succ]
 go_wp2
 go_ret
 exact ⟨rfl, by repeat (first | exact Below.refl _ _ | refine pw_below_drewN ?_ _ | refine below_alloc ?_ _)⟩

def scaled_smaller.f (a0 a1 a2 a3 b0 b1 b2 b3 : Int) : Option (Bool) :=
 some (if a3 ≠ b3 then decide (a3 < b3) else if a2 ≠ b2 then decide (a2 < b2) else if a1 ≠ b1 then decide (a1 < b1) else if a0 ≠ b0 then decide (a0 < b0) else false)
theorem scaled_smaller.calls (a0 a1 a2 a3 b0 b1 b2 b3 : Int) (r : Bool) (w : World) (h : scaled_smaller.f a0 a1 a2 a3 b0 b1 b2 b3 = some r) :
   Calls Try.prog 61 #[.agg #[.int .u64 a0, .int .u64 a1, .int .u64 a2, .int .u64 a3], .agg #[.int .u64 b0, .int .u64 b1, .int .u64 b2, .int .u64 b3]] w fun e w' => e = .returned (.bool r) ∧ Below w.heap.size w w' := by
 have h := Option.some.inj h
 subst h
 by_cases h3 : a3 = b3
 case neg =>
   rw [if_pos h3]; exact smaller_3 a0 a1 a2 a3 b0 b1 b2 b3 w (by simpa using h3)
 have g3 : (a3 != b3) = false := by simpa using h3
 rw [if_neg (fun n => n h3)]
 by_cases h2 : a2 = b2
 case neg =>
   rw [if_pos h2]; exact smaller_2 a0 a1 a2 a3 b0 b1 b2 b3 w g3 (by simpa using h2)
 have g2 : (a2 != b2) = false := by simpa using h2
 rw [if_neg (fun n => n h2)]
 by_cases h1 : a1 = b1
 case neg =>
   rw [if_pos h1]; exact smaller_1 a0 a1 a2 a3 b0 b1 b2 b3 w g3 g2 (by simpa using h1)
 have g1 : (a1 != b1) = false := by simpa using h1
 rw [if_neg (fun n => n h1)]
 by_cases h0 : a0 = b0
 case neg =>
   rw [if_pos h0]; exact smaller_0 a0 a1 a2 a3 b0 b1 b2 b3 w g3 g2 g1 (by simpa using h0)
 have g0 : (a0 != b0) = false := by simpa using h0
 rw [if_neg (fun n => n h0)]
 exact smaller_n a0 a1 a2 a3 b0 b1 b2 b3 w g3 g2 g1 g0


end Go.Proofs.Ytdkmmddakidieaa.P
