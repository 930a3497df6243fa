-- PRINTED by print.py (a twelfth state) out of the translation. Not trusted: Lean checks it.
import Derived.Test.YtedplhcdlkhbnaaPx0
namespace Go.Proofs.Ytedplhcdlkhbnaa.P
open Go.RowKit Go.Proofs.YtedplhcdlkhbnaaW.PrintWords Go.Proofs.YtedplhcdlkhbnaaW.PrintLast Go.Proofs.YtedplhcdlkhbnaaW.PrintMore
attribute [local go_sem] max2_int min2_int max_two min_two max_three min_three max_four min_four   -- for this text's walks alone
set_option linter.unusedVariables false
set_option linter.unusedSimpArgs false

/-! ### scaled_Clamp: function 21 -/
def scaled_Clamp.f (a0 : Int) : Option (Int) := some (mx (-1152921504606846976) (mn 1152921504606846976 a0))
set_option maxHeartbeats 8000000 in
set_option maxRecDepth 100000 in
theorem scaled_Clamp.calls (a0 : Int) (r : Int) (w : World) (h : scaled_Clamp.f a0 = some r) :
   Calls Try.prog 21 #[.int .i64 a0] w fun e w' => e = .returned (.int .i64 r) ∧ Below w.heap.size w w' := by
 have HB := Aside0.mk (Below.refl w.heap.size w)
 have H : (some (mx (-1152921504606846976) (mn 1152921504606846976 a0))) = some r := h
 clear h
 obtain ⟨ji2, hji2⟩ : ∃ j_ : Int, (mn 1152921504606846976 a0) = j_ := ⟨_, rfl⟩
 replace H : (some (mx (-1152921504606846976) (ji2))) = some r := by first | (rw [hji2] at H; exact H) | (simp only [hji2] at H ⊢; exact H)
 (try (have hji2h : ji2 ≤ 1152921504606846976 := by (rw [← hji2]; unfold mn; (repeat' split) <;> omega)))
 (try (have hji2g : ji2 ≤ 64 := by omega))
 have hji2_ : (if a0 < 1152921504606846976 then a0 else 1152921504606846976) = ji2 := hji2
 obtain ⟨ji3, hji3⟩ : ∃ j_ : Int, (mx (-1152921504606846976) (ji2)) = j_ := ⟨_, rfl⟩
 replace H : (some ji3) = some r := by first | (rw [hji3] at H; exact H) | (simp only [hji3] at H ⊢; exact H)
 have hji3_ : (if (-1152921504606846976) < (ji2) then (ji2) else (-1152921504606846976)) = ji3 := hji3
 obtain rfl := Option.some.inj H
 go_enter Try.func21, Try.ntmps21
 go_wp2
 go_ret
 exact ⟨by first | rfl | (simp [errW_none, errW_some] <;> rfl) | (simp only [← hji2, ← hji3]; first | rfl | (simp [errW_none, errW_some] <;> rfl)) | (simp [*, errW_none, errW_some] <;> rfl), by repeat (first | (with_reducible first | exact HB.out | apply below_alloc | apply pw_below_drewN | apply below_drew1) | exact HB.out)⟩

/-! ### bits_Mul64: function 47 -/
def bits_Mul64.f (a0 : Int) (a1 : Int) : Option (Int × Int) := some (IntKind.u64.wrap ((IntKind.u64.wrap ((IntKind.u64.wrap ((a0 / 4294967296) * (a1 / 4294967296))) + ((IntKind.u64.wrap ((IntKind.u64.wrap ((a0 / 4294967296) * (Go.bits .and .u64 a1 4294967295))) + ((IntKind.u64.wrap ((Go.bits .and .u64 a0 4294967295) * (Go.bits .and .u64 a1 4294967295))) / 4294967296))) / 4294967296))) + ((IntKind.u64.wrap ((Go.bits .and .u64 (IntKind.u64.wrap ((IntKind.u64.wrap ((a0 / 4294967296) * (Go.bits .and .u64 a1 4294967295))) + ((IntKind.u64.wrap ((Go.bits .and .u64 a0 4294967295) * (Go.bits .and .u64 a1 4294967295))) / 4294967296))) 4294967295) + (IntKind.u64.wrap ((Go.bits .and .u64 a0 4294967295) * (a1 / 4294967296))))) / 4294967296)), IntKind.u64.wrap (a0 * a1))
set_option maxHeartbeats 8000000 in
set_option maxRecDepth 100000 in
theorem bits_Mul64.calls (a0 : Int) (a1 : Int) (r1 : Int) (r2 : Int) (w : World) (h : bits_Mul64.f a0 a1 = some (r1, r2)) :
   Calls Try.prog 47 #[.int .u64 a0, .int .u64 a1] w fun e w' => e = .returned (.tuple #[.int .u64 r1, .int .u64 r2]) ∧ Drawn0 w w' := by
 have H : (some (IntKind.u64.wrap ((IntKind.u64.wrap ((IntKind.u64.wrap ((a0 / 4294967296) * (a1 / 4294967296))) + ((IntKind.u64.wrap ((IntKind.u64.wrap ((a0 / 4294967296) * (Go.bits .and .u64 a1 4294967295))) + ((IntKind.u64.wrap ((Go.bits .and .u64 a0 4294967295) * (Go.bits .and .u64 a1 4294967295))) / 4294967296))) / 4294967296))) + ((IntKind.u64.wrap ((Go.bits .and .u64 (IntKind.u64.wrap ((IntKind.u64.wrap ((a0 / 4294967296) * (Go.bits .and .u64 a1 4294967295))) + ((IntKind.u64.wrap ((Go.bits .and .u64 a0 4294967295) * (Go.bits .and .u64 a1 4294967295))) / 4294967296))) 4294967295) + (IntKind.u64.wrap ((Go.bits .and .u64 a0 4294967295) * (a1 / 4294967296))))) / 4294967296)), IntKind.u64.wrap (a0 * a1))) = some (r1, r2) := h
 clear h
 simp only [Option.some.injEq, Prod.mk.injEq] at H
 obtain ⟨rfl, rfl⟩ := H
 go_enter Try.func47, Try.ntmps47
 go_wp2
 go_ret2
 exact ⟨by first | rfl | (simp; done) | (simp [*]; done), by repeat (first | exact Drawn0.refl _ | apply Drawn0.step)⟩

/-! ### scaled_product: function 40 -/
def scaled_product.f (a0 : Int) (a1 : Int) : Option (Int × Int × Int × Int) := (bits_Mul64.f a0 a1).bind fun bt102 => (some (bt102.2, bt102.1, 0, 0))
set_option maxHeartbeats 8000000 in
set_option maxRecDepth 100000 in
theorem scaled_product.calls (a0 : Int) (a1 : Int) (r1 : Int) (r2 : Int) (r3 : Int) (r4 : Int) (w : World) (h : scaled_product.f a0 a1 = some (r1, r2, r3, r4)) :
   Calls Try.prog 40 #[.int .u64 a0, .int .u64 a1] w fun e w' => e = .returned (.agg #[.int .u64 r1, .int .u64 r2, .int .u64 r3, .int .u64 r4]) ∧ Below w.heap.size w w' := by
 have hu41 := Try.underlying41
 have HB := Aside0.mk (Below.refl w.heap.size w)
 have H : ((bits_Mul64.f a0 a1).bind fun bt102 => (some (bt102.2, bt102.1, 0, 0))) = some (r1, r2, r3, r4) := h
 clear h
 replace H := Option.bind_eq_some_iff.mp H
 obtain ⟨⟨t102, t103⟩, A30, H⟩ := H
 replace H : (some (t103, t102, 0, 0)) = some (r1, r2, r3, r4) := H
 have A3 := Aside0.mk A30
 clear A30
 simp only [Option.some.injEq, Prod.mk.injEq] at H
 obtain ⟨rfl, rfl, rfl, rfl⟩ := H
 go_enter Try.func40, Try.ntmps40
 go_wp2_with (first | ((with_reducible refine gate_dst (N := 4) rfl ?_); refine box_event ?hg (N := 4) ?hd (cs := #[.int .u64 0, .int .u64 0, .int .u64 0, .int .u64 0]) (t := 41) ?hr ?_; (case hd => rfl); (case hg => rfl); (case hr => first | (go_simp; done) | (go_simp; rfl)); intro gb101 hg w4 hbox hb; have n0_ := Aside0.mk (below_step (by repeat (first | (with_reducible first | exact HB.out | apply below_alloc | apply pw_below_drewN | apply below_drew1) | exact HB.out)) hb); have n1_ := Aside0.mk (hbox); have n2_ := Aside0.mk ((by rw [hg]; exact (below_size (by repeat (first | (with_reducible first | exact HB.out | apply below_alloc | apply pw_below_drewN | apply below_drew1) | exact HB.out))) : w.heap.size ≤ gb101)); have n3_ := Aside0.mk ((by rw [hg]; exact (below_size (by repeat (first | (with_reducible first | exact HB.out | apply below_alloc | apply pw_below_drewN | apply below_drew1) | exact HB.out))) : w.heap.size ≤ gb101)); clear HB; have HB := n0_; have BK101 := n1_; have GW101 := n2_; have GE101 := n3_; clear n0_ n1_ n2_ n3_; clear hb hbox hg) | ((with_reducible refine gate_callee (f := 47) rfl ?_); refine goesL_ (some 10) rfl rfl Try.func47 (by kernel_rfl) rfl #[.int .u64 a0, .int .u64 a1] rfl (by (try simp only [List.map_toArray, List.map_cons, List.map_nil]); first | done | rfl | (simp only [List.length_drop, List.length_take]; rfl)) ?_; (with_reducible refine (bits_Mul64.calls a0 a1 t102 t103 _ A3.out).mono ?_); rintro e w' ⟨rfl, ⟨nd, rfl⟩⟩; refine ⟨_, rfl, ?_⟩; (try (rw [drewN_self w4]; generalize hq_ : World.drewN w4 _ = w4; have n0_ : Aside0 (w4.heap[gb101]? = some (.cells #[.int .u64 0, .int .u64 0, .int .u64 0, .int .u64 0] 41 (0, 0))) := ⟨by rw [← hq_]; exact (by (with_reducible repeat (first | refine blk_drewN ?_ _ | refine blk_drew ?_ | refine blk_alloc ?_ _)); exact BK101.out)⟩; have n1_ : Aside0 (Below w.heap.size w w4) := ⟨by rw [← hq_]; exact (by repeat (first | (with_reducible first | exact HB.out | apply below_alloc | apply pw_below_drewN | apply below_drew1 | refine below_set ?_ GE101.out) | exact HB.out))⟩; clear BK101 HB hq_; have BK101 := n0_; have HB := n1_; clear n0_ n1_)); have hcz5_0 : w4.cell? ⟨gb101, 0, none⟩ = some (.int .u64 0) := (blk_cell BK101.out 0).trans rfl; have hcz5_1 : w4.cell? ⟨gb101, 1, none⟩ = some (.int .u64 0) := (blk_cell BK101.out 1).trans rfl; have hcz5_2 : w4.cell? ⟨gb101, 2, none⟩ = some (.int .u64 0) := (blk_cell BK101.out 2).trans rfl; have hcz5_3 : w4.cell? ⟨gb101, 3, none⟩ = some (.int .u64 0) := (blk_cell BK101.out 3).trans rfl; have hfz5_0 := blk_frozen BK101.out 0; have hfz5_1 := blk_frozen BK101.out 1; have hfz5_2 := blk_frozen BK101.out 2; have hfz5_3 := blk_frozen BK101.out 3))
 refine bodyPost_ret (results_cell_row rfl _ _ gb101 41 #[.int .u64 t103, .int .u64 t102, .int .u64 0, .int .u64 0] (0, 0) _ rfl (by (with_reducible repeat (first | refine blk_drewN ?_ _ | refine blk_drew ?_ | refine blk_alloc ?_ _)); refine blk_put (cs := #[.int .u64 t103, .int .u64 t102, .int .u64 0, .int .u64 0]) ?_ 3 _ rfl; (with_reducible repeat (first | refine blk_drewN ?_ _ | refine blk_drew ?_ | refine blk_alloc ?_ _)); refine blk_put (cs := #[.int .u64 t103, .int .u64 t102, .int .u64 0, .int .u64 0]) ?_ 2 _ rfl; (with_reducible repeat (first | refine blk_drewN ?_ _ | refine blk_drew ?_ | refine blk_alloc ?_ _)); refine blk_put (cs := #[.int .u64 t103, .int .u64 0, .int .u64 0, .int .u64 0]) ?_ 1 _ rfl; (with_reducible repeat (first | refine blk_drewN ?_ _ | refine blk_drew ?_ | refine blk_alloc ?_ _)); refine blk_put (cs := #[.int .u64 0, .int .u64 0, .int .u64 0, .int .u64 0]) ?_ 0 _ rfl; (with_reducible repeat (first | refine blk_drewN ?_ _ | refine blk_drew ?_ | refine blk_alloc ?_ _)); exact BK101.out) Try.underlying41 rfl (by kernel_rfl)) rfl ?_
 exact ⟨by first | rfl | (simp [errW_none, errW_some] <;> rfl) | (simp [*, errW_none, errW_some] <;> rfl), by repeat (first | (with_reducible first | exact HB.out | apply below_alloc | apply pw_below_drewN | apply below_drew1 | refine below_set ?_ GE101.out) | exact HB.out)⟩

-- NOT PRINTED: function 52 (bits_Add64)

/-! ### scaled_wide_times: function 41 -/

set_option maxHeartbeats 2000000 in
set_option maxRecDepth 100000 in
theorem times_walk (w0 w1 w2 w3 b c1 c2 c3 : Int) (hi0 lo0 s0 v0 : Int) (hi1 lo1 s1 v1 : Int) (hi2 lo2 s2 v2 : Int) (hi3 lo3 s3 v3 : Int) (w : World) (m0 : bits_Mul64.f w0 b = some (hi0, lo0)) (m1 : bits_Mul64.f w1 b = some (hi1, lo1)) (m2 : bits_Mul64.f w2 b = some (hi2, lo2)) (m3 : bits_Mul64.f w3 b = some (hi3, lo3))
   (A0 : ∀ w, (callFunc 52 #[.int .u64 lo0, .int .u64 0, .int .u64 0]).run Try.prog w = .ok (.value (.tuple #[.int .u64 s0, .int .u64 v0])) w) (A1 : ∀ w, (callFunc 52 #[.int .u64 lo1, .int .u64 c1, .int .u64 0]).run Try.prog w = .ok (.value (.tuple #[.int .u64 s1, .int .u64 v1])) w) (A2 : ∀ w, (callFunc 52 #[.int .u64 lo2, .int .u64 c2, .int .u64 0]).run Try.prog w = .ok (.value (.tuple #[.int .u64 s2, .int .u64 v2])) w) (A3 : ∀ w, (callFunc 52 #[.int .u64 lo3, .int .u64 c3, .int .u64 0]).run Try.prog w = .ok (.value (.tuple #[.int .u64 s3, .int .u64 v3])) w)
   (e0 : IntKind.u64.wrap (hi0 + v0) = c1) (e1 : IntKind.u64.wrap (hi1 + v1) = c2) (e2 : IntKind.u64.wrap (hi2 + v2) = c3) :
   Calls Try.prog 41 #[.agg #[.int .u64 w0, .int .u64 w1, .int .u64 w2, .int .u64 w3], .int .u64 b] w
     fun e w' => e = .returned (.agg #[.int .u64 s0, .int .u64 s1, .int .u64 s2, .int .u64 s3]) ∧ Below w.heap.size w w' := by
 have i0 : ∀ w, (Instr.index 41 (.agg #[.int .u64 w0, .int .u64 w1, .int .u64 w2, .int .u64 w3]) (.int .i64 0)).run Try.prog w = .ok (.int .u64 w0) w := fun _ => by kernel_rfl
 have i1 : ∀ w, (Instr.index 41 (.agg #[.int .u64 w0, .int .u64 w1, .int .u64 w2, .int .u64 w3]) (.int .i64 1)).run Try.prog w = .ok (.int .u64 w1) w := fun _ => by kernel_rfl
 have i2 : ∀ w, (Instr.index 41 (.agg #[.int .u64 w0, .int .u64 w1, .int .u64 w2, .int .u64 w3]) (.int .i64 2)).run Try.prog w = .ok (.int .u64 w2) w := fun _ => by kernel_rfl
 have i3 : ∀ w, (Instr.index 41 (.agg #[.int .u64 w0, .int .u64 w1, .int .u64 w2, .int .u64 w3]) (.int .i64 3)).run Try.prog w = .ok (.int .u64 w3) w := fun _ => by kernel_rfl
 go_enter Try.func41, Try.ntmps41
 go_wp2
 refine wp_loop_rounds 5 ?_
 rw [rounds_succ]
 go_wp2_with (go_at_call 47; refine (bits_Mul64.calls _ _ _ _ _ m0).mono ?_; rintro e w' ⟨rfl, ⟨⟨n0, rfl⟩⟩⟩)
 rw [rounds_succ]
 go_wp2_with (go_at_call 47; refine (bits_Mul64.calls _ _ _ _ _ m1).mono ?_; rintro e w' ⟨rfl, ⟨⟨n1, rfl⟩⟩⟩)
 rw [rounds_succ]
 go_wp2_with (go_at_call 47; refine (bits_Mul64.calls _ _ _ _ _ m2).mono ?_; rintro e w' ⟨rfl, ⟨⟨n2, rfl⟩⟩⟩)
 rw [rounds_succ]
 go_wp2_with (go_at_call 47; refine (bits_Mul64.calls _ _ _ _ _ m3).mono ?_; rintro e w' ⟨rfl, ⟨⟨n3, rfl⟩⟩⟩)
 rw [rounds_succ]
 go_wp2
 refine bodyPost_ret (v := .agg #[.int .u64 s0, .int .u64 s1, .int .u64 s2, .int .u64 s3]) (by simp [results, Try.results41, go_sem]) rfl ⟨rfl, ?_⟩
 repeat (first | (with_reducible exact Below.refl _ _) | (with_reducible refine below_alloc ?_ _) | (with_reducible refine pw_below_drewN ?_ _) | (with_reducible refine Below.setCell ?_ (by dsimp only; omega) _))

def U64 (a : Int) : Prop := 0 ≤ a ∧ a < 18446744073709551616
instance (a : Int) : Decidable (U64 a) := by unfold U64; infer_instance
theorem mul64_eq {a b : Int} (ha : U64 a) (hb : U64 b) : bits_Mul64.f a b = some (a * b / 18446744073709551616, a * b % 18446744073709551616) := by
 obtain ⟨x, rfl⟩ := Int.eq_ofNat_of_zero_le ha.1
 obtain ⟨y, rfl⟩ := Int.eq_ofNat_of_zero_le hb.1
 have hx : x < 18446744073709551616 := by have := ha.2; omega
 have hy : y < 18446744073709551616 := by have := hb.2; omega
 obtain ⟨bd, bt, bw, hhi⟩ := Lib.mul64_hi x y hx hy
 have ba := Lib.half_mul_le (a := x / 4294967296) (b := y / 4294967296) (by omega) (by omega)
 have bb := Lib.half_mul_le (a := x / 4294967296) (b := y % 4294967296) (by omega) (by omega)
 have bc := Lib.half_mul_le (a := x % 4294967296) (b := y / 4294967296) (by omega) (by omega)
 have ba' : x / 4294967296 * (y / 4294967296) < 18446744073709551616 := by omega
 have bb' : x / 4294967296 * (y % 4294967296) < 18446744073709551616 := by omega
 have bc' : x % 4294967296 * (y / 4294967296) < 18446744073709551616 := by omega
 have bh1 : x / 4294967296 * (y / 4294967296) + (x / 4294967296 * (y % 4294967296) + x % 4294967296 * (y % 4294967296) / 4294967296) / 4294967296 < 18446744073709551616 := by omega
 have bh : x / 4294967296 * (y / 4294967296) + (x / 4294967296 * (y % 4294967296) + x % 4294967296 * (y % 4294967296) / 4294967296) / 4294967296 + ((x / 4294967296 * (y % 4294967296) + x % 4294967296 * (y % 4294967296) / 4294967296) % 4294967296 + x % 4294967296 * (y / 4294967296)) / 4294967296 < 18446744073709551616 := by omega
 unfold bits_Mul64.f
 simp only [Mul64.maskN x hx, Mul64.maskN y hy, Mul64.divN, Mul64.mulN, Mul64.addN, Mul64.wrapN _ bd, Mul64.wrapN _ bb', Mul64.wrapN _ bt, Mul64.maskN _ bt, Mul64.wrapN _ bc', Mul64.wrapN _ bw, Mul64.wrapN _ ba', Mul64.wrapN _ bh1, Mul64.wrapN _ bh, Mul64.wrapM (x * y)]
 rw [hhi]
 rfl
theorem add64_run {x y : Int} (hx : U64 x) (hy : U64 y) (w : World) : (callFunc 52 #[.int .u64 x, .int .u64 y, .int .u64 0]).run Try.prog w = .ok (.value (.tuple #[.int .u64 ((x + y) % 18446744073709551616), .int .u64 ((x + y) / 18446744073709551616)])) w := by
 rw [run_callFunc_extern Try.func52 (by kernel_rfl) (by kernel_rfl) (by kernel_rfl) (e := add64Entry) (by kernel_rfl), run_add64 x y 0 hx.1 hy.1 (by omega) (by omega)]
 simp only [Result.andThen, Int.add_zero]
def scaled_wide_times.f (w0 w1 w2 w3 b : Int) : Option (Int × Int × Int × Int) :=
 if U64 w0 ∧ U64 w1 ∧ U64 w2 ∧ U64 w3 ∧ U64 b then
   some ((w0 * b) % 18446744073709551616, (w1 * b + w0 * b / 18446744073709551616) % 18446744073709551616, (w2 * b + (w1 * b + w0 * b / 18446744073709551616) / 18446744073709551616) % 18446744073709551616, (w3 * b + (w2 * b + (w1 * b + w0 * b / 18446744073709551616) / 18446744073709551616) / 18446744073709551616) % 18446744073709551616)
 else none
theorem times_bound {a b : Int} (ha : U64 a) (hb : U64 b) : 0 ≤ a * b ∧ a * b ≤ 340282366920938463426481119284349108225 := by
 unfold U64 at ha hb
 refine ⟨Int.mul_nonneg ha.1 hb.1, ?_⟩
 have := Int.mul_le_mul (show a ≤ 18446744073709551615 by omega) (show b ≤ 18446744073709551615 by omega) hb.1 (by omega)
 omega
theorem scaled_wide_times.calls (w0 w1 w2 w3 b r1 r2 r3 r4 : Int) (w : World) (h : scaled_wide_times.f w0 w1 w2 w3 b = some (r1, r2, r3, r4)) :
   Calls Try.prog 41 #[.agg #[.int .u64 w0, .int .u64 w1, .int .u64 w2, .int .u64 w3], .int .u64 b] w fun e w' => e = .returned (.agg #[.int .u64 r1, .int .u64 r2, .int .u64 r3, .int .u64 r4]) ∧ Below w.heap.size w w' := by
 unfold scaled_wide_times.f at h
 split at h
 · rename_i hu
   obtain ⟨u0, u1, u2, u3, ub⟩ := hu
   have h := Option.some.inj h
   simp only [Prod.mk.injEq] at h
   obtain ⟨rfl, rfl, rfl, rfl⟩ := h
   have p0 := times_bound u0 ub
   have p1 := times_bound u1 ub
   have p2 := times_bound u2 ub
   have p3 := times_bound u3 ub
   have m0 := mul64_eq u0 ub
   have m1 := mul64_eq u1 ub
   have m2 := mul64_eq u2 ub
   have m3 := mul64_eq u3 ub
   generalize w0 * b = q0 at *
   generalize w1 * b = q1 at *
   generalize w2 * b = q2 at *
   generalize w3 * b = q3 at *
   have A0 := fun w => add64_run (x := q0 % 18446744073709551616) (y := 0) (by unfold U64; omega) (by unfold U64; omega) w
   have A1 := fun w => add64_run (x := q1 % 18446744073709551616) (y := q0 / 18446744073709551616) (by unfold U64; omega) (by unfold U64; omega) w
   have A2 := fun w => add64_run (x := q2 % 18446744073709551616) (y := (q1 + q0 / 18446744073709551616) / 18446744073709551616) (by unfold U64; omega) (by unfold U64; omega) w
   have A3 := fun w => add64_run (x := q3 % 18446744073709551616) (y := (q2 + (q1 + q0 / 18446744073709551616) / 18446744073709551616) / 18446744073709551616) (by unfold U64; omega) (by unfold U64; omega) w
   have t := times_walk w0 w1 w2 w3 b (q0 / 18446744073709551616) ((q1 + q0 / 18446744073709551616) / 18446744073709551616) ((q2 + (q1 + q0 / 18446744073709551616) / 18446744073709551616) / 18446744073709551616) _ _ _ _ _ _ _ _ _ _ _ _ _ _ _ _ w m0 m1 m2 m3 A0 A1 A2 A3
     (by rw [IntKind.wrap_u64]; omega) (by rw [IntKind.wrap_u64]; omega) (by rw [IntKind.wrap_u64]; omega)
   rw [show (q0 % 18446744073709551616 + 0) % 18446744073709551616 = q0 % 18446744073709551616 by omega, show (q1 % 18446744073709551616 + q0 / 18446744073709551616) % 18446744073709551616 = (q1 + q0 / 18446744073709551616) % 18446744073709551616 by omega,
     show (q2 % 18446744073709551616 + (q1 + q0 / 18446744073709551616) / 18446744073709551616) % 18446744073709551616 = (q2 + (q1 + q0 / 18446744073709551616) / 18446744073709551616) % 18446744073709551616 by omega,
     show (q3 % 18446744073709551616 + (q2 + (q1 + q0 / 18446744073709551616) / 18446744073709551616) / 18446744073709551616) % 18446744073709551616 = (q3 + (q2 + (q1 + q0 / 18446744073709551616) / 18446744073709551616) / 18446744073709551616) % 18446744073709551616 by omega] at t
   exact t
 · cases h

/-! ### scaled_smaller: function 42 -/

set_option maxHeartbeats 1000000 in
set_option maxRecDepth 100000 in
theorem smaller_3 (a0 a1 a2 a3 b0 b1 b2 b3 : Int) (w : World) (h3 : (a3 != b3) = true) :
   Calls Try.prog 42 #[.agg #[.int .u64 a0, .int .u64 a1, .int .u64 a2, .int .u64 a3], .agg #[.int .u64 b0, .int .u64 b1, .int .u64 b2, .int .u64 b3]] w
     fun e w' => e = .returned (.bool (decide (a3 < b3))) ∧ Below w.heap.size w w' := by
 go_enter Try.func42, Try.ntmps42
 go_wp2
 refine wp_loop_rounds 1 ?_
 rw [rounds_succ]
 go_wp2
 go_quiet (fail)
 go_wp2
 go_quiet (fail)
 go_wp2
 go_ret
 exact ⟨rfl, by repeat (first | exact Below.refl _ _ | refine pw_below_drewN ?_ _ | refine below_alloc ?_ _)⟩

set_option maxHeartbeats 1000000 in
set_option maxRecDepth 100000 in
theorem smaller_2 (a0 a1 a2 a3 b0 b1 b2 b3 : Int) (w : World) (h3 : (a3 != b3) = false) (h2 : (a2 != b2) = true) :
   Calls Try.prog 42 #[.agg #[.int .u64 a0, .int .u64 a1, .int .u64 a2, .int .u64 a3], .agg #[.int .u64 b0, .int .u64 b1, .int .u64 b2, .int .u64 b3]] w
     fun e w' => e = .returned (.bool (decide (a2 < b2))) ∧ Below w.heap.size w w' := by
 go_enter Try.func42, Try.ntmps42
 go_wp2
 refine wp_loop_rounds 2 ?_
 rw [rounds_succ]
 go_wp2
 go_quiet (fail)
 go_wp2
 rw [rounds_succ]
 go_wp2
 go_quiet (fail)
 go_wp2
 go_quiet (fail)
 go_wp2
 go_ret
 exact ⟨rfl, by repeat (first | exact Below.refl _ _ | refine pw_below_drewN ?_ _ | refine below_alloc ?_ _)⟩

set_option maxHeartbeats 1000000 in
set_option maxRecDepth 100000 in
theorem smaller_1 (a0 a1 a2 a3 b0 b1 b2 b3 : Int) (w : World) (h3 : (a3 != b3) = false) (h2 : (a2 != b2) = false) (h1 : (a1 != b1) = true) :
   Calls Try.prog 42 #[.agg #[.int .u64 a0, .int .u64 a1, .int .u64 a2, .int .u64 a3], .agg #[.int .u64 b0, .int .u64 b1, .int .u64 b2, .int .u64 b3]] w
     fun e w' => e = .returned (.bool (decide (a1 < b1))) ∧ Below w.heap.size w w' := by
 go_enter Try.func42, Try.ntmps42
 go_wp2
 refine wp_loop_rounds 3 ?_
 rw [rounds_succ]
 go_wp2
 go_quiet (fail)
 go_wp2
 rw [rounds_succ]
 go_wp2
 go_quiet (fail)
 go_wp2
 rw [rounds_succ]
 go_wp2
 go_quiet (fail)
 go_wp2
 go_quiet (fail)
 go_wp2
 go_ret
 exact ⟨rfl, by repeat (first | exact Below.refl _ _ | refine pw_below_drewN ?_ _ | refine below_alloc ?_ _)⟩

set_option maxHeartbeats 1000000 in
set_option maxRecDepth 100000 in
theorem smaller_0 (a0 a1 a2 a3 b0 b1 b2 b3 : Int) (w : World) (h3 : (a3 != b3) = false) (h2 : (a2 != b2) = false) (h1 : (a1 != b1) = false) (h0 : (a0 != b0) = true) :
   Calls Try.prog 42 #[.agg #[.int .u64 a0, .int .u64 a1, .int .u64 a2, .int .u64 a3], .agg #[.int .u64 b0, .int .u64 b1, .int .u64 b2, .int .u64 b3]] w
     fun e w' => e = .returned (.bool (decide (a0 < b0))) ∧ Below w.heap.size w w' := by
 go_enter Try.func42, Try.ntmps42
 go_wp2
 refine wp_loop_rounds 4 ?_
 rw [rounds_succ]
 go_wp2
 go_quiet (fail)
 go_wp2
 rw [rounds_succ]
 go_wp2
 go_quiet (fail)
 go_wp2
 rw [rounds_succ]
 go_wp2
 go_quiet (fail)
 go_wp2
 rw [rounds_succ]
 go_wp2
 go_quiet (fail)
 go_wp2
 go_quiet (fail)
 go_wp2
 go_ret
 exact ⟨rfl, by repeat (first | exact Below.refl _ _ | refine pw_below_drewN ?_ _ | refine below_alloc ?_ _)⟩

set_option maxHeartbeats 1000000 in
set_option maxRecDepth 100000 in
theorem smaller_n (a0 a1 a2 a3 b0 b1 b2 b3 : Int) (w : World) (h3 : (a3 != b3) = false) (h2 : (a2 != b2) = false) (h1 : (a1 != b1) = false) (h0 : (a0 != b0) = false) :
   Calls Try.prog 42 #[.agg #[.int .u64 a0, .int .u64 a1, .int .u64 a2, .int .u64 a3], .agg #[.int .u64 b0, .int .u64 b1, .int .u64 b2, .int .u64 b3]] w
     fun e w' => e = .returned (.bool (false)) ∧ Below w.heap.size w w' := by
 go_enter Try.func42, Try.ntmps42
 go_wp2
 refine wp_loop_rounds 5 ?_
 rw [rounds_succ]
 go_wp2
 go_quiet (fail)
 go_wp2
 rw [rounds_succ]
 go_wp2
 go_quiet (fail)
 go_wp2
 rw [rounds_succ]
 go_wp2
 go_quiet (fail)
 go_wp2
 rw [rounds_succ]
 go_wp2
 go_quiet (fail)
 go_wp2
 rw [rounds_succ]
 go_wp2
 go_ret
 exact ⟨rfl, by repeat (first | exact Below.refl _ _ | refine pw_below_drewN ?_ _ | refine below_alloc ?_ _)⟩

def scaled_smaller.f (a0 a1 a2 a3 b0 b1 b2 b3 : Int) : Option (Bool) :=
 some (if a3 ≠ b3 then decide (a3 < b3) else if a2 ≠ b2 then decide (a2 < b2) else if a1 ≠ b1 then decide (a1 < b1) else if a0 ≠ b0 then decide (a0 < b0) else false)
theorem scaled_smaller.calls (a0 a1 a2 a3 b0 b1 b2 b3 : Int) (r : Bool) (w : World) (h : scaled_smaller.f a0 a1 a2 a3 b0 b1 b2 b3 = some r) :
   Calls Try.prog 42 #[.agg #[.int .u64 a0, .int .u64 a1, .int .u64 a2, .int .u64 a3], .agg #[.int .u64 b0, .int .u64 b1, .int .u64 b2, .int .u64 b3]] w fun e w' => e = .returned (.bool r) ∧ Below w.heap.size w w' := by
 have h := Option.some.inj h
 subst h
 by_cases h3 : a3 = b3
 · have g3 : (a3 != b3) = false := by simpa using h3
   rw [if_neg (fun n => n h3)]
   by_cases h2 : a2 = b2
   · have g2 : (a2 != b2) = false := by simpa using h2
     rw [if_neg (fun n => n h2)]
     by_cases h1 : a1 = b1
     · have g1 : (a1 != b1) = false := by simpa using h1
       rw [if_neg (fun n => n h1)]
       by_cases h0 : a0 = b0
       · have g0 : (a0 != b0) = false := by simpa using h0
         rw [if_neg (fun n => n h0)]
         exact smaller_n a0 a1 a2 a3 b0 b1 b2 b3 w g3 g2 g1 g0
       · rw [if_pos h0]; exact smaller_0 a0 a1 a2 a3 b0 b1 b2 b3 w g3 g2 g1 (by simpa using h0)
     · rw [if_pos h1]; exact smaller_1 a0 a1 a2 a3 b0 b1 b2 b3 w g3 g2 (by simpa using h1)
   · rw [if_pos h2]; exact smaller_2 a0 a1 a2 a3 b0 b1 b2 b3 w g3 (by simpa using h2)
 · rw [if_pos h3]; exact smaller_3 a0 a1 a2 a3 b0 b1 b2 b3 w (by simpa using h3)


/-! ### scaled_Bad: function 14 -/
mutual
def scaled_Bad.j0 : Nat → Int → Int → Bool → Option (Int)
 | 0, _, _, _ => none
 | k + 1, x0, x1, x23 => if x23 = true then (some 10000) else ((scaled_product.f (IntKind.u64.wrap (x0)) (IntKind.u64.wrap (x0))).bind fun bt106 => ((scaled_wide_times.f bt106.1 bt106.2.1 bt106.2.2.1 bt106.2.2.2 (IntKind.u64.wrap (x0))).bind fun bt110 => ((scaled_wide_times.f bt110.1 bt110.2.1 bt110.2.2.1 bt110.2.2.2 100).bind fun bt114 => ((scaled_product.f (IntKind.u64.wrap (x1)) (IntKind.u64.wrap (x1))).bind fun bt119 => ((scaled_wide_times.f bt119.1 bt119.2.1 bt119.2.2.1 bt119.2.2.2 (IntKind.u64.wrap (x1))).bind fun bt123 => (scaled_Bad.l0 k 0 10000 bt114.1 bt114.2.1 bt114.2.2.1 bt114.2.2.2 bt123.1 bt123.2.1 bt123.2.2.1 bt123.2.2.2))))))
def scaled_Bad.l0 : Nat → Int → Int → Int → Int → Int → Int → Int → Int → Int → Int → Option (Int)
 | 0, _, _, _, _, _, _, _, _, _, _ => none
 | k + 1, x7, x8, x119000, x119001, x119002, x119003, x128000, x128001, x128002, x128003 => if x7 < x8 then ((scaled_wide_times.f x128000 x128001 x128002 x128003 (IntKind.u64.wrap (wrap64 (Int.tdiv (wrap64 ((wrap64 (x7 + x8)) + 1)) 2)))).bind fun bt128 => ((scaled_smaller.f x119000 x119001 x119002 x119003 bt128.1 bt128.2.1 bt128.2.2.1 bt128.2.2.2).bind fun t132 => (if t132 = true then (scaled_Bad.l0 k x7 (wrap64 ((wrap64 (Int.tdiv (wrap64 ((wrap64 (x7 + x8)) + 1)) 2)) - 1)) x119000 x119001 x119002 x119003 x128000 x128001 x128002 x128003) else (scaled_Bad.l0 k (wrap64 (Int.tdiv (wrap64 ((wrap64 (x7 + x8)) + 1)) 2)) x8 x119000 x119001 x119002 x119003 x128000 x128001 x128002 x128003)))) else (some x7)
end
def scaled_Bad.f (k : Nat) (a0 : Int) (a1 : Int) : Option (Int) := (scaled_Clamp.f a0).bind fun t104 => ((scaled_Clamp.f a1).bind fun t105 => (if t104 ≤ 0 then (some 0) else (if t105 ≤ 0 then (scaled_Bad.j0 k t104 t105 true) else (if t105 = 0 then (none) else (scaled_Bad.j0 k t104 t105 (decide ((wrap64 (Int.tdiv t104 t105)) ≥ 5)))))))
theorem scaled_Bad.mono_l : ∀ k, (∀ y0 y1 y2, LeO (scaled_Bad.j0 k y0 y1 y2) (scaled_Bad.j0 (k + 1) y0 y1 y2)) ∧ (∀ y0 y1 y2 y3 y4 y5 y6 y7 y8 y9, LeO (scaled_Bad.l0 k y0 y1 y2 y3 y4 y5 y6 y7 y8 y9) (scaled_Bad.l0 (k + 1) y0 y1 y2 y3 y4 y5 y6 y7 y8 y9))
 | 0 => ⟨fun _ _ _ r h => by simp [scaled_Bad.j0] at h, fun _ _ _ _ _ _ _ _ _ _ r h => by simp [scaled_Bad.l0] at h⟩
 | k + 1 => by
   obtain ⟨ih0, ih1⟩ := scaled_Bad.mono_l k
   refine ⟨?_, ?_⟩
   · intro y0 y1 y2
     unfold scaled_Bad.j0
     repeat' first
     | (with_reducible exact ih0 _ _ _)
     | (with_reducible exact ih1 _ _ _ _ _ _ _ _ _ _)
     | (with_reducible exact LeO.refl _)
     | (with_reducible exact LeO.none _)
     | (with_reducible refine LeO.ite ?_ ?_)
     | (with_reducible refine LeO.bind ?_ (fun _ => ?_))
     | exact ih0 _ _ _
     | exact ih1 _ _ _ _ _ _ _ _ _ _
     | exact LeO.none _
     | refine LeO.ite ?_ ?_
     | refine LeO.bind ?_ (fun _ => ?_)
   · intro y0 y1 y2 y3 y4 y5 y6 y7 y8 y9
     unfold scaled_Bad.l0
     repeat' first
     | (with_reducible exact ih0 _ _ _)
     | (with_reducible exact ih1 _ _ _ _ _ _ _ _ _ _)
     | (with_reducible exact LeO.refl _)
     | (with_reducible exact LeO.none _)
     | (with_reducible refine LeO.ite ?_ ?_)
     | (with_reducible refine LeO.bind ?_ (fun _ => ?_))
     | exact ih0 _ _ _
     | exact ih1 _ _ _ _ _ _ _ _ _ _
     | exact LeO.none _
     | refine LeO.ite ?_ ?_
     | refine LeO.bind ?_ (fun _ => ?_)
theorem scaled_Bad.mono : ∀ a0 a1 k, LeO (scaled_Bad.f k a0 a1) (scaled_Bad.f (k + 1) a0 a1) := by
 intro a0 a1 k
 obtain ⟨ih0, ih1⟩ := scaled_Bad.mono_l k
 unfold scaled_Bad.f
 repeat' first
     | (with_reducible exact ih0 _ _ _)
     | (with_reducible exact ih1 _ _ _ _ _ _ _ _ _ _)
     | (with_reducible exact LeO.refl _)
     | (with_reducible exact LeO.none _)
     | (with_reducible refine LeO.ite ?_ ?_)
     | (with_reducible refine LeO.bind ?_ (fun _ => ?_))
     | exact ih0 _ _ _
     | exact ih1 _ _ _ _ _ _ _ _ _ _
     | exact LeO.none _
     | refine LeO.ite ?_ ?_
     | refine LeO.bind ?_ (fun _ => ?_)
theorem scaled_Bad.j0.ev {x0 : Int} {x1 : Int} {x23 : Bool} {r_ : Int} (h : Ev (fun k => if x23 = true then (some 10000) else ((scaled_product.f (IntKind.u64.wrap (x0)) (IntKind.u64.wrap (x0))).bind fun bt106 => ((scaled_wide_times.f bt106.1 bt106.2.1 bt106.2.2.1 bt106.2.2.2 (IntKind.u64.wrap (x0))).bind fun bt110 => ((scaled_wide_times.f bt110.1 bt110.2.1 bt110.2.2.1 bt110.2.2.2 100).bind fun bt114 => ((scaled_product.f (IntKind.u64.wrap (x1)) (IntKind.u64.wrap (x1))).bind fun bt119 => ((scaled_wide_times.f bt119.1 bt119.2.1 bt119.2.2.1 bt119.2.2.2 (IntKind.u64.wrap (x1))).bind fun bt123 => (scaled_Bad.l0 k 0 10000 bt114.1 bt114.2.1 bt114.2.2.1 bt114.2.2.2 bt123.1 bt123.2.1 bt123.2.2.1 bt123.2.2.2))))))) r_) : Ev (fun k => scaled_Bad.j0 k x0 x1 x23) r_ := Ev.step (fun k => by rw [scaled_Bad.j0]) h
theorem scaled_Bad.l0.ev {x7 : Int} {x8 : Int} {x119000 : Int} {x119001 : Int} {x119002 : Int} {x119003 : Int} {x128000 : Int} {x128001 : Int} {x128002 : Int} {x128003 : Int} {r_ : Int} (h : Ev (fun k => if x7 < x8 then ((scaled_wide_times.f x128000 x128001 x128002 x128003 (IntKind.u64.wrap (wrap64 (Int.tdiv (wrap64 ((wrap64 (x7 + x8)) + 1)) 2)))).bind fun bt128 => ((scaled_smaller.f x119000 x119001 x119002 x119003 bt128.1 bt128.2.1 bt128.2.2.1 bt128.2.2.2).bind fun t132 => (if t132 = true then (scaled_Bad.l0 k x7 (wrap64 ((wrap64 (Int.tdiv (wrap64 ((wrap64 (x7 + x8)) + 1)) 2)) - 1)) x119000 x119001 x119002 x119003 x128000 x128001 x128002 x128003) else (scaled_Bad.l0 k (wrap64 (Int.tdiv (wrap64 ((wrap64 (x7 + x8)) + 1)) 2)) x8 x119000 x119001 x119002 x119003 x128000 x128001 x128002 x128003)))) else (some x7)) r_) : Ev (fun k => scaled_Bad.l0 k x7 x8 x119000 x119001 x119002 x119003 x128000 x128001 x128002 x128003) r_ := Ev.step (fun k => by rw [scaled_Bad.l0]) h
set_option maxHeartbeats 8000000 in
set_option maxRecDepth 100000 in
theorem scaled_Bad.calls (k : Nat) (a0 : Int) (a1 : Int) (r : Int) (w : World) (h : scaled_Bad.f k a0 a1 = some r) :
   Calls Try.prog 14 #[.int .i64 a0, .int .i64 a1] w fun e w' => e = .returned (.int .i64 r) ∧ Below w.heap.size w w' := by
 have hu41 := Try.underlying41
 have HB := Aside0.mk (Below.refl w.heap.size w)
 have H : ((scaled_Clamp.f a0).bind fun t104 => ((scaled_Clamp.f a1).bind fun t105 => (if t104 ≤ 0 then (some 0) else (if t105 ≤ 0 then (scaled_Bad.j0 k t104 t105 true) else (if t105 = 0 then (none) else (scaled_Bad.j0 k t104 t105 (decide ((wrap64 (Int.tdiv t104 t105)) ≥ 5)))))))) = some r := h
 clear h
 replace H := Option.bind_eq_some_iff.mp H
 obtain ⟨t104, A30, H⟩ := H
 replace H : ((scaled_Clamp.f a1).bind fun t105 => (if t104 ≤ 0 then (some 0) else (if t105 ≤ 0 then (scaled_Bad.j0 k t104 t105 true) else (if t105 = 0 then (none) else (scaled_Bad.j0 k t104 t105 (decide ((wrap64 (Int.tdiv t104 t105)) ≥ 5))))))) = some r := H
 have A3 := Aside0.mk A30
 clear A30
 replace H := Option.bind_eq_some_iff.mp H
 obtain ⟨t105, A40, H⟩ := H
 replace H : (if t104 ≤ 0 then (some 0) else (if t105 ≤ 0 then (scaled_Bad.j0 k t104 t105 true) else (if t105 = 0 then (none) else (scaled_Bad.j0 k t104 t105 (decide ((wrap64 (Int.tdiv t104 t105)) ≥ 5)))))) = some r := H
 have A4 := Aside0.mk A40
 clear A40
 by_cases c5 : t104 ≤ 0
 · rw [if_pos c5] at H
   have c5b0 : decide (t104 ≤ 0) = true := decide_eq_true c5
   clear c5
   obtain rfl := Option.some.inj H
   go_enter Try.func14, Try.ntmps14
   go_wp2_with (first | ((with_reducible refine gate_callee (f := 21) rfl ?_); refine goesL_ (some 11) rfl rfl Try.func21 (by kernel_rfl) rfl #[.int .i64 a0] rfl (by (try simp only [List.map_toArray, List.map_cons, List.map_nil]); first | done | rfl | (simp only [List.length_drop, List.length_take]; rfl)) ?_; (with_reducible refine (scaled_Clamp.calls a0 t104 _ A3.out).mono ?_); rintro e w6 ⟨rfl, hb⟩; refine ⟨_, rfl, ?_⟩; have n0_ := Aside0.mk (below_step (by repeat (first | (with_reducible first | exact HB.out | apply below_alloc | apply pw_below_drewN | apply below_drew1) | exact HB.out)) hb); clear HB; have HB := n0_; clear n0_; (try clear hb); (try clear hb2); (try clear hk); (try clear hi)) | ((with_reducible refine gate_callee (f := 21) rfl ?_); refine goesL_ (some 13) rfl rfl Try.func21 (by kernel_rfl) rfl #[.int .i64 a1] rfl (by (try simp only [List.map_toArray, List.map_cons, List.map_nil]); first | done | rfl | (simp only [List.length_drop, List.length_take]; rfl)) ?_; (with_reducible refine (scaled_Clamp.calls a1 t105 _ A4.out).mono ?_); rintro e w7 ⟨rfl, hb⟩; refine ⟨_, rfl, ?_⟩; have n0_ := Aside0.mk (below_step (by repeat (first | (with_reducible first | exact HB.out | apply below_alloc | apply pw_below_drewN | apply below_drew1) | exact HB.out)) hb); clear HB; have HB := n0_; clear n0_; (try clear hb); (try clear hb2); (try clear hk); (try clear hi)))
   go_ret
   exact ⟨by first | rfl | (simp [errW_none, errW_some] <;> rfl) | (simp [*, errW_none, errW_some] <;> rfl), by repeat (first | (with_reducible first | exact HB.out | apply below_alloc | apply pw_below_drewN | apply below_drew1) | exact HB.out)⟩
 · rw [if_neg c5] at H
   have c5b0 : decide (t104 ≤ 0) = false := decide_eq_false c5
   clear c5
   have HC8 := Aside0.mk H
   clear H
   go_enter Try.func14, Try.ntmps14
   go_upto_region 4 with (first | ((with_reducible refine gate_callee (f := 21) rfl ?_); refine goesL_ (some 11) rfl rfl Try.func21 (by kernel_rfl) rfl #[.int .i64 a0] rfl (by (try simp only [List.map_toArray, List.map_cons, List.map_nil]); first | done | rfl | (simp only [List.length_drop, List.length_take]; rfl)) ?_; (with_reducible refine (scaled_Clamp.calls a0 t104 _ A3.out).mono ?_); rintro e w9 ⟨rfl, hb⟩; refine ⟨_, rfl, ?_⟩; have n0_ := Aside0.mk (below_step (by repeat (first | (with_reducible first | exact HB.out | apply below_alloc | apply pw_below_drewN | apply below_drew1) | exact HB.out)) hb); clear HB; have HB := n0_; clear n0_; (try clear hb); (try clear hb2); (try clear hk); (try clear hi)) | ((with_reducible refine gate_callee (f := 21) rfl ?_); refine goesL_ (some 13) rfl rfl Try.func21 (by kernel_rfl) rfl #[.int .i64 a1] rfl (by (try simp only [List.map_toArray, List.map_cons, List.map_nil]); first | done | rfl | (simp only [List.length_drop, List.length_take]; rfl)) ?_; (with_reducible refine (scaled_Clamp.calls a1 t105 _ A4.out).mono ?_); rintro e w10 ⟨rfl, hb⟩; refine ⟨_, rfl, ?_⟩; have n0_ := Aside0.mk (below_step (by repeat (first | (with_reducible first | exact HB.out | apply below_alloc | apply pw_below_drewN | apply below_drew1) | exact HB.out)) hb); clear HB; have HB := n0_; clear n0_; (try clear hb); (try clear hb2); (try clear hk); (try clear hi)))
   (try simp only [Act.put, List.setIfInBounds_toArray, List.set_cons_zero, List.set_cons_succ])
   go_cut [23] (fun v23 wc => ∃ (kq : Nat) (x23_7 : Bool), v23 = .bool x23_7 ∧ Aside0 (scaled_Bad.j0 kq t104 t105 x23_7 = some r) ∧ Aside0 (kq ≤ k) ∧ Aside0 (Below w.heap.size w wc))
   case first =>
     have H := HC8.out
     clear HC8
     by_cases c11 : t105 ≤ 0
     · rw [if_pos c11] at H
       have c11b0 : decide (t105 ≤ 0) = true := decide_eq_true c11
       clear c11
       (first | rw [c11b0] | (simp only [i64_w, i32_w]; rw [c11b0]) | skip)
       have H' := Aside0.mk H
       clear H
       go_wp2
       go_meet
       case rel => exact ⟨_, (true), (by first | rfl | (simp; done) | (simp [*]; done)), H', ⟨by first | omega | exact Nat.le_refl _⟩, ⟨by repeat (first | (with_reducible first | exact HB.out | apply below_alloc | apply pw_below_drewN | apply below_drew1) | exact HB.out)⟩⟩
     · rw [if_neg c11] at H
       have c11b0 : decide (t105 ≤ 0) = false := decide_eq_false c11
       clear c11
       (first | rw [c11b0] | (simp only [i64_w, i32_w]; rw [c11b0]) | skip)
       by_cases c12 : t105 = 0
       · rw [if_pos c12] at H
         exact absurd H (by simp)
       · rw [if_neg c12] at H
         have c12b0 : (t105 == 0) = false := beq_eq_false_iff_ne.mpr c12
         have c12b1 : (t105 != 0) = true := bne_iff_ne.mpr c12
         have H' := Aside0.mk H
         clear H
         go_wp2
         go_meet
         case rel => exact ⟨_, (decide ((wrap64 (Int.tdiv t104 t105)) ≥ 5)), (by first | rfl | (simp; done) | (simp [*]; done)), H', ⟨by first | omega | exact Nat.le_refl _⟩, ⟨by repeat (first | (with_reducible first | exact HB.out | apply below_alloc | apply pw_below_drewN | apply below_drew1) | exact HB.out)⟩⟩
   case rest =>
     clear HC8
     try clear c1
     try clear c2
     try clear p2
     try clear c5
     try clear c5b0
     try clear p6
     try clear c11
     try clear c11b0
     try clear c12
     try clear c12b0
     try clear c12b1
     obtain ⟨kq, x23_7, rfl, HA, HJ7, HB⟩ := hcut
     cases kq with
     | zero => exact absurd HA.out (by simp [scaled_Bad.j0])
     | succ kj7 =>
       have H := HA.out
       clear HA
       simp only [scaled_Bad.j0] at H
       by_cases c13 : x23_7 = true
       · subst c13
         have H1 : (some 10000) = some r := by rw [if_pos rfl] at H; exact H
         clear H
         have H := H1
         clear H1
         obtain rfl := Option.some.inj H
         go_wp2
         go_ret
         exact ⟨by first | rfl | (simp [errW_none, errW_some] <;> rfl) | (simp [*, errW_none, errW_some] <;> rfl), by repeat (first | (with_reducible first | exact HB.out | apply below_alloc | apply pw_below_drewN | apply below_drew1) | exact HB.out)⟩
       · replace c13 := Bool.eq_false_iff.mpr c13
         subst c13
         have H1 : ((scaled_product.f (IntKind.u64.wrap (t104)) (IntKind.u64.wrap (t104))).bind fun bt106 => ((scaled_wide_times.f bt106.1 bt106.2.1 bt106.2.2.1 bt106.2.2.2 (IntKind.u64.wrap (t104))).bind fun bt110 => ((scaled_wide_times.f bt110.1 bt110.2.1 bt110.2.2.1 bt110.2.2.2 100).bind fun bt114 => ((scaled_product.f (IntKind.u64.wrap (t105)) (IntKind.u64.wrap (t105))).bind fun bt119 => ((scaled_wide_times.f bt119.1 bt119.2.1 bt119.2.2.1 bt119.2.2.2 (IntKind.u64.wrap (t105))).bind fun bt123 => (scaled_Bad.l0 kj7 0 10000 bt114.1 bt114.2.1 bt114.2.2.1 bt114.2.2.2 bt123.1 bt123.2.1 bt123.2.2.1 bt123.2.2.2)))))) = some r := by rw [if_neg (show ¬ (false = true) by decide)] at H; exact H
         clear H
         have H := H1
         clear H1
         replace H := Option.bind_eq_some_iff.mp H
         obtain ⟨⟨t106, t107, t108, t109⟩, A140, H⟩ := H
         replace H : ((scaled_wide_times.f t106 t107 t108 t109 (IntKind.u64.wrap (t104))).bind fun bt110 => ((scaled_wide_times.f bt110.1 bt110.2.1 bt110.2.2.1 bt110.2.2.2 100).bind fun bt114 => ((scaled_product.f (IntKind.u64.wrap (t105)) (IntKind.u64.wrap (t105))).bind fun bt119 => ((scaled_wide_times.f bt119.1 bt119.2.1 bt119.2.2.1 bt119.2.2.2 (IntKind.u64.wrap (t105))).bind fun bt123 => (scaled_Bad.l0 kj7 0 10000 bt114.1 bt114.2.1 bt114.2.2.1 bt114.2.2.2 bt123.1 bt123.2.1 bt123.2.2.1 bt123.2.2.2))))) = some r := H
         have A14 := Aside0.mk A140
         clear A140
         replace H := Option.bind_eq_some_iff.mp H
         obtain ⟨⟨t110, t111, t112, t113⟩, A150, H⟩ := H
         replace H : ((scaled_wide_times.f t110 t111 t112 t113 100).bind fun bt114 => ((scaled_product.f (IntKind.u64.wrap (t105)) (IntKind.u64.wrap (t105))).bind fun bt119 => ((scaled_wide_times.f bt119.1 bt119.2.1 bt119.2.2.1 bt119.2.2.2 (IntKind.u64.wrap (t105))).bind fun bt123 => (scaled_Bad.l0 kj7 0 10000 bt114.1 bt114.2.1 bt114.2.2.1 bt114.2.2.2 bt123.1 bt123.2.1 bt123.2.2.1 bt123.2.2.2)))) = some r := H
         have A15 := Aside0.mk A150
         clear A150
         replace H := Option.bind_eq_some_iff.mp H
         obtain ⟨⟨t114, t115, t116, t117⟩, A160, H⟩ := H
         replace H : ((scaled_product.f (IntKind.u64.wrap (t105)) (IntKind.u64.wrap (t105))).bind fun bt119 => ((scaled_wide_times.f bt119.1 bt119.2.1 bt119.2.2.1 bt119.2.2.2 (IntKind.u64.wrap (t105))).bind fun bt123 => (scaled_Bad.l0 kj7 0 10000 t114 t115 t116 t117 bt123.1 bt123.2.1 bt123.2.2.1 bt123.2.2.2))) = some r := H
         have A16 := Aside0.mk A160
         clear A160
         replace H := Option.bind_eq_some_iff.mp H
         obtain ⟨⟨t119, t120, t121, t122⟩, A170, H⟩ := H
         replace H : ((scaled_wide_times.f t119 t120 t121 t122 (IntKind.u64.wrap (t105))).bind fun bt123 => (scaled_Bad.l0 kj7 0 10000 t114 t115 t116 t117 bt123.1 bt123.2.1 bt123.2.2.1 bt123.2.2.2)) = some r := H
         have A17 := Aside0.mk A170
         clear A170
         replace H := Option.bind_eq_some_iff.mp H
         obtain ⟨⟨t123, t124, t125, t126⟩, A180, H⟩ := H
         replace H : (scaled_Bad.l0 kj7 0 10000 t114 t115 t116 t117 t123 t124 t125 t126) = some r := H
         have A18 := Aside0.mk A180
         clear A180
         have H' := Aside0.mk H
         clear H
         go_wp2_with (first | ((with_reducible refine gate_callee (f := 40) rfl ?_); refine goesL_ (some 28) rfl rfl Try.func40 (by kernel_rfl) rfl #[.int .u64 (IntKind.u64.wrap (t104)), .int .u64 (IntKind.u64.wrap (t104))] rfl (by (try simp only [List.map_toArray, List.map_cons, List.map_nil]); first | done | rfl | (simp only [List.length_drop, List.length_take]; rfl)) ?_; (with_reducible refine (scaled_product.calls (IntKind.u64.wrap (t104)) (IntKind.u64.wrap (t104)) t106 t107 t108 t109 _ A14.out).mono ?_); rintro e w19 ⟨rfl, hb⟩; refine ⟨_, rfl, ?_⟩; have n0_ := Aside0.mk (below_step (by repeat (first | (with_reducible first | exact HB.out | apply below_alloc | apply pw_below_drewN | apply below_drew1) | exact HB.out)) hb); clear HB; have HB := n0_; clear n0_; (try clear hb); (try clear hb2); (try clear hk); (try clear hi)) | ((with_reducible refine gate_callee (f := 41) rfl ?_); refine goesL_ (some 31) rfl rfl Try.func41 (by kernel_rfl) rfl #[.agg #[.int .u64 t106, .int .u64 t107, .int .u64 t108, .int .u64 t109], .int .u64 (IntKind.u64.wrap (t104))] rfl (by (try simp only [List.map_toArray, List.map_cons, List.map_nil]); first | done | rfl | (simp only [List.length_drop, List.length_take]; rfl)) ?_; (with_reducible refine (scaled_wide_times.calls t106 t107 t108 t109 (IntKind.u64.wrap (t104)) t110 t111 t112 t113 _ A15.out).mono ?_); rintro e w20 ⟨rfl, hb⟩; refine ⟨_, rfl, ?_⟩; have n0_ := Aside0.mk (below_step (by repeat (first | (with_reducible first | exact HB.out | apply below_alloc | apply pw_below_drewN | apply below_drew1) | exact HB.out)) hb); clear HB; have HB := n0_; clear n0_; (try clear hb); (try clear hb2); (try clear hk); (try clear hi)) | ((with_reducible refine gate_callee (f := 41) rfl ?_); refine goesL_ (some 32) rfl rfl Try.func41 (by kernel_rfl) rfl #[.agg #[.int .u64 t110, .int .u64 t111, .int .u64 t112, .int .u64 t113], .int .u64 100] rfl (by (try simp only [List.map_toArray, List.map_cons, List.map_nil]); first | done | rfl | (simp only [List.length_drop, List.length_take]; rfl)) ?_; (with_reducible refine (scaled_wide_times.calls t110 t111 t112 t113 100 t114 t115 t116 t117 _ A16.out).mono ?_); rintro e w21 ⟨rfl, hb⟩; refine ⟨_, rfl, ?_⟩; have n0_ := Aside0.mk (below_step (by repeat (first | (with_reducible first | exact HB.out | apply below_alloc | apply pw_below_drewN | apply below_drew1) | exact HB.out)) hb); clear HB; have HB := n0_; clear n0_; (try clear hb); (try clear hb2); (try clear hk); (try clear hi)) | ((with_reducible refine gate_dst (N := 5) rfl ?_); refine box_event ?hg (N := 5) ?hd (cs := #[.int .u64 0, .int .u64 0, .int .u64 0, .int .u64 0]) (t := 41) ?hr ?_; (case hd => rfl); (case hg => rfl); (case hr => first | (go_simp; done) | (go_simp; rfl)); intro gb118 hg w22 hbox hb; have n0_ := Aside0.mk (below_step (by repeat (first | (with_reducible first | exact HB.out | apply below_alloc | apply pw_below_drewN | apply below_drew1) | exact HB.out)) hb); have n1_ := Aside0.mk (hbox); have n2_ := Aside0.mk ((by rw [hg]; exact (below_size (by repeat (first | (with_reducible first | exact HB.out | apply below_alloc | apply pw_below_drewN | apply below_drew1) | exact HB.out))) : w.heap.size ≤ gb118)); have n3_ := Aside0.mk ((by rw [hg]; exact (below_size (by repeat (first | (with_reducible first | exact HB.out | apply below_alloc | apply pw_below_drewN | apply below_drew1) | exact HB.out))) : w.heap.size ≤ gb118)); clear HB; have HB := n0_; have BK118 := n1_; have GW118 := n2_; have GE118 := n3_; clear n0_ n1_ n2_ n3_; clear hb hbox hg; have hcz23_0 : w22.cell? ⟨gb118, 0, none⟩ = some (.int .u64 0) := (blk_cell BK118.out 0).trans rfl; have hcz23_1 : w22.cell? ⟨gb118, 1, none⟩ = some (.int .u64 0) := (blk_cell BK118.out 1).trans rfl; have hcz23_2 : w22.cell? ⟨gb118, 2, none⟩ = some (.int .u64 0) := (blk_cell BK118.out 2).trans rfl; have hcz23_3 : w22.cell? ⟨gb118, 3, none⟩ = some (.int .u64 0) := (blk_cell BK118.out 3).trans rfl; have hfz23_0 := blk_frozen BK118.out 0; have hfz23_1 := blk_frozen BK118.out 1; have hfz23_2 := blk_frozen BK118.out 2; have hfz23_3 := blk_frozen BK118.out 3) | ((with_reducible refine gate_callee (f := 40) rfl ?_); refine goesL_ (some 37) rfl rfl Try.func40 (by kernel_rfl) rfl #[.int .u64 (IntKind.u64.wrap (t105)), .int .u64 (IntKind.u64.wrap (t105))] rfl (by (try simp only [List.map_toArray, List.map_cons, List.map_nil]); first | done | rfl | (simp only [List.length_drop, List.length_take]; rfl)) ?_; (with_reducible refine (scaled_product.calls (IntKind.u64.wrap (t105)) (IntKind.u64.wrap (t105)) t119 t120 t121 t122 _ A17.out).mono ?_); rintro e w24 ⟨rfl, hb⟩; refine ⟨_, rfl, ?_⟩; have n0_ := Aside0.mk (blk_below (g := gb118) (o := .cells #[.int .u64 t114, .int .u64 t115, .int .u64 t116, .int .u64 t117] 41 (0, 0)) (by (with_reducible repeat (first | refine blk_drewN ?_ _ | refine blk_drew ?_ | refine blk_alloc ?_ _)); refine blk_put (cs := #[.int .u64 t114, .int .u64 t115, .int .u64 t116, .int .u64 0]) ?_ 3 _ rfl; (with_reducible repeat (first | refine blk_drewN ?_ _ | refine blk_drew ?_ | refine blk_alloc ?_ _)); refine blk_put (cs := #[.int .u64 t114, .int .u64 t115, .int .u64 0, .int .u64 0]) ?_ 2 _ rfl; (with_reducible repeat (first | refine blk_drewN ?_ _ | refine blk_drew ?_ | refine blk_alloc ?_ _)); refine blk_put (cs := #[.int .u64 t114, .int .u64 0, .int .u64 0, .int .u64 0]) ?_ 1 _ rfl; (with_reducible repeat (first | refine blk_drewN ?_ _ | refine blk_drew ?_ | refine blk_alloc ?_ _)); refine blk_put (cs := #[.int .u64 0, .int .u64 0, .int .u64 0, .int .u64 0]) ?_ 0 _ rfl; (with_reducible repeat (first | refine blk_drewN ?_ _ | refine blk_drew ?_ | refine blk_alloc ?_ _)); exact BK118.out) hb); have n1_ := Aside0.mk (below_step (by repeat (first | (with_reducible first | exact HB.out | apply below_alloc | apply pw_below_drewN | apply below_drew1 | refine below_set ?_ GE118.out) | exact HB.out)) hb); clear BK118; clear HB; have BK118 := n0_; have HB := n1_; clear n0_ n1_; (try clear hb); (try clear hb2); (try clear hk); (try clear hi)) | ((with_reducible refine gate_callee (f := 41) rfl ?_); refine goesL_ (some 40) rfl rfl Try.func41 (by kernel_rfl) rfl #[.agg #[.int .u64 t119, .int .u64 t120, .int .u64 t121, .int .u64 t122], .int .u64 (IntKind.u64.wrap (t105))] rfl (by (try simp only [List.map_toArray, List.map_cons, List.map_nil]); first | done | rfl | (simp only [List.length_drop, List.length_take]; rfl)) ?_; (with_reducible refine (scaled_wide_times.calls t119 t120 t121 t122 (IntKind.u64.wrap (t105)) t123 t124 t125 t126 _ A18.out).mono ?_); rintro e w25 ⟨rfl, hb⟩; refine ⟨_, rfl, ?_⟩; have n0_ := Aside0.mk (blk_below (g := gb118) (o := .cells #[.int .u64 t114, .int .u64 t115, .int .u64 t116, .int .u64 t117] 41 (0, 0)) (by (with_reducible repeat (first | refine blk_drewN ?_ _ | refine blk_drew ?_ | refine blk_alloc ?_ _)); exact BK118.out) hb); have n1_ := Aside0.mk (below_step (by repeat (first | (with_reducible first | exact HB.out | apply below_alloc | apply pw_below_drewN | apply below_drew1 | refine below_set ?_ GE118.out) | exact HB.out)) hb); clear BK118; clear HB; have BK118 := n0_; have HB := n1_; clear n0_ n1_; (try clear hb); (try clear hb2); (try clear hk); (try clear hi)) | ((with_reducible refine gate_dst (N := 6) rfl ?_); refine box_event ?hg (N := 6) ?hd (cs := #[.int .u64 0, .int .u64 0, .int .u64 0, .int .u64 0]) (t := 41) ?hr ?_; (case hd => rfl); (case hg => rfl); (case hr => first | (go_simp; done) | (go_simp; rfl)); intro gb127 hg w26 hbox hb; have n0_ := Aside0.mk (blk_below (g := gb118) (o := .cells #[.int .u64 t114, .int .u64 t115, .int .u64 t116, .int .u64 t117] 41 (0, 0)) (by (with_reducible repeat (first | refine blk_drewN ?_ _ | refine blk_drew ?_ | refine blk_alloc ?_ _)); exact BK118.out) hb); have n1_ := Aside0.mk (below_step (by repeat (first | (with_reducible first | exact HB.out | apply below_alloc | apply pw_below_drewN | apply below_drew1 | refine below_set ?_ GE118.out) | exact HB.out)) hb); have n2_ := Aside0.mk (hbox); have n3_ := Aside0.mk ((by rw [hg]; exact (below_size (by repeat (first | (with_reducible first | exact HB.out | apply below_alloc | apply pw_below_drewN | apply below_drew1 | refine below_set ?_ GE118.out) | exact HB.out))) : w.heap.size ≤ gb127)); have n4_ := Aside0.mk ((by rw [hg]; exact (below_size (by repeat (first | (with_reducible first | exact HB.out | apply below_alloc | apply pw_below_drewN | apply below_drew1 | refine below_set ?_ GE118.out) | exact HB.out))) : w.heap.size ≤ gb127)); have n5_ := Aside0.mk ((by rw [hg]; exact Nat.ne_of_lt (blk_lt (g := gb118) (o := .cells #[.int .u64 t114, .int .u64 t115, .int .u64 t116, .int .u64 t117] 41 (0, 0)) (by (with_reducible repeat (first | refine blk_drewN ?_ _ | refine blk_drew ?_ | refine blk_alloc ?_ _)); exact BK118.out)) : gb118 ≠ gb127)); have n6_ := Aside0.mk ((by rw [hg]; exact Nat.ne_of_gt (blk_lt (g := gb118) (o := .cells #[.int .u64 t114, .int .u64 t115, .int .u64 t116, .int .u64 t117] 41 (0, 0)) (by (with_reducible repeat (first | refine blk_drewN ?_ _ | refine blk_drew ?_ | refine blk_alloc ?_ _)); exact BK118.out)) : gb127 ≠ gb118)); clear BK118; clear HB; have BK118 := n0_; have HB := n1_; have BK127 := n2_; have GW127 := n3_; have GE127 := n4_; have NB118_127 := n5_; have NB127_118 := n6_; clear n0_ n1_ n2_ n3_ n4_ n5_ n6_; clear hb hbox hg; have hnb27 := NB127_118.out; have hnc27 := NB118_127.out; have hcz28_0 : w26.cell? ⟨gb127, 0, none⟩ = some (.int .u64 0) := (blk_cell BK127.out 0).trans rfl; have hcz28_1 : w26.cell? ⟨gb127, 1, none⟩ = some (.int .u64 0) := (blk_cell BK127.out 1).trans rfl; have hcz28_2 : w26.cell? ⟨gb127, 2, none⟩ = some (.int .u64 0) := (blk_cell BK127.out 2).trans rfl; have hcz28_3 : w26.cell? ⟨gb127, 3, none⟩ = some (.int .u64 0) := (blk_cell BK127.out 3).trans rfl; have hfz28_0 := blk_frozen BK127.out 0; have hfz28_1 := blk_frozen BK127.out 1; have hfz28_2 := blk_frozen BK127.out 2; have hfz28_3 := blk_frozen BK127.out 3))
         go_loopg [7, 8] kj7 (fun kq v7 v8 w' => ∃ (x7_2 : Int) (x8_2 : Int), v7 = .int .i64 x7_2 ∧ v8 = .int .i64 x8_2 ∧ Aside0 (scaled_Bad.l0 kq x7_2 x8_2 t114 t115 t116 t117 t123 t124 t125 t126 = some r) ∧ Aside0 (kq ≤ kj7) ∧ Aside0 (w'.heap[gb118]? = some (.cells #[.int .u64 t114, .int .u64 t115, .int .u64 t116, .int .u64 t117] 41 (0, 0))) ∧ Aside0 (w'.heap[gb127]? = some (.cells #[.int .u64 t123, .int .u64 t124, .int .u64 t125, .int .u64 t126] 41 (0, 0))) ∧ Aside0 (Below w.heap.size w w'))
         case atStart => exact ⟨(0), (10000), (by first | rfl | (simp; done) | (simp [*]; done)), (by first | rfl | (simp; done) | (simp [*]; done)), H', ⟨Nat.le_refl _⟩, ⟨by (with_reducible repeat (first | refine blk_drewN ?_ _ | refine blk_drew ?_ | refine blk_alloc ?_ _)); refine blk_far ?_ NB118_127.out _; (with_reducible repeat (first | refine blk_drewN ?_ _ | refine blk_drew ?_ | refine blk_alloc ?_ _)); refine blk_far ?_ NB118_127.out _; (with_reducible repeat (first | refine blk_drewN ?_ _ | refine blk_drew ?_ | refine blk_alloc ?_ _)); refine blk_far ?_ NB118_127.out _; (with_reducible repeat (first | refine blk_drewN ?_ _ | refine blk_drew ?_ | refine blk_alloc ?_ _)); refine blk_far ?_ NB118_127.out _; (with_reducible repeat (first | refine blk_drewN ?_ _ | refine blk_drew ?_ | refine blk_alloc ?_ _)); exact BK118.out⟩, ⟨by (with_reducible repeat (first | refine blk_drewN ?_ _ | refine blk_drew ?_ | refine blk_alloc ?_ _)); refine blk_put (cs := #[.int .u64 t123, .int .u64 t124, .int .u64 t125, .int .u64 0]) ?_ 3 _ rfl; (with_reducible repeat (first | refine blk_drewN ?_ _ | refine blk_drew ?_ | refine blk_alloc ?_ _)); refine blk_put (cs := #[.int .u64 t123, .int .u64 t124, .int .u64 0, .int .u64 0]) ?_ 2 _ rfl; (with_reducible repeat (first | refine blk_drewN ?_ _ | refine blk_drew ?_ | refine blk_alloc ?_ _)); refine blk_put (cs := #[.int .u64 t123, .int .u64 0, .int .u64 0, .int .u64 0]) ?_ 1 _ rfl; (with_reducible repeat (first | refine blk_drewN ?_ _ | refine blk_drew ?_ | refine blk_alloc ?_ _)); refine blk_put (cs := #[.int .u64 0, .int .u64 0, .int .u64 0, .int .u64 0]) ?_ 0 _ rfl; (with_reducible repeat (first | refine blk_drewN ?_ _ | refine blk_drew ?_ | refine blk_alloc ?_ _)); exact BK127.out⟩, ⟨by repeat (first | (with_reducible first | exact HB.out | apply below_alloc | apply pw_below_drewN | apply below_drew1 | refine below_set ?_ GE118.out | refine below_set ?_ GE127.out) | exact HB.out)⟩⟩
         case round =>
          clear H'
          try clear c1
          try clear c2
          try clear p2
          try clear c4
          try clear c5
          try clear c5b0
          try clear p6
          try clear c11
          try clear c11b0
          try clear c12
          try clear c12b0
          try clear c12b1
          try clear c13
          try clear c14
          try clear c21
          try clear c27
          try clear hcz23_0
          try clear hcz23_1
          try clear hcz23_2
          try clear hcz23_3
          try clear hcz28_0
          try clear hcz28_1
          try clear hcz28_2
          try clear hcz28_3
          try clear hfz23_0
          try clear hfz23_1
          try clear hfz23_2
          try clear hfz23_3
          try clear hfz28_0
          try clear hfz28_1
          try clear hfz28_2
          try clear hfz28_3
          try clear p2
          try clear p6
          obtain ⟨x7_2, x8_2, rfl, rfl, HA, HK2, BK118, BK127, HB⟩ := hrel
          cases gk with
          | zero => exact absurd HA.out (by simp [scaled_Bad.l0])
          | succ k2 =>
           have H := HA.out
           clear HA
           simp only [scaled_Bad.l0] at H
           by_cases c29 : x7_2 < x8_2
           · rw [if_pos c29] at H
             have c29b0 : decide (x7_2 < x8_2) = true := decide_eq_true c29
             clear c29
             replace H := Option.bind_eq_some_iff.mp H
             obtain ⟨⟨t128, t129, t130, t131⟩, A300, H⟩ := H
             replace H : ((scaled_smaller.f t114 t115 t116 t117 t128 t129 t130 t131).bind fun t132 => (if t132 = true then (scaled_Bad.l0 k2 x7_2 (wrap64 ((wrap64 (Int.tdiv (wrap64 ((wrap64 (x7_2 + x8_2)) + 1)) 2)) - 1)) t114 t115 t116 t117 t123 t124 t125 t126) else (scaled_Bad.l0 k2 (wrap64 (Int.tdiv (wrap64 ((wrap64 (x7_2 + x8_2)) + 1)) 2)) x8_2 t114 t115 t116 t117 t123 t124 t125 t126))) = some r := H
             have A30 := Aside0.mk A300
             clear A300
             replace H := Option.bind_eq_some_iff.mp H
             obtain ⟨t132, A310, H⟩ := H
             replace H : (if t132 = true then (scaled_Bad.l0 k2 x7_2 (wrap64 ((wrap64 (Int.tdiv (wrap64 ((wrap64 (x7_2 + x8_2)) + 1)) 2)) - 1)) t114 t115 t116 t117 t123 t124 t125 t126) else (scaled_Bad.l0 k2 (wrap64 (Int.tdiv (wrap64 ((wrap64 (x7_2 + x8_2)) + 1)) 2)) x8_2 t114 t115 t116 t117 t123 t124 t125 t126)) = some r := H
             have A31 := Aside0.mk A310
             clear A310
             by_cases c32 : t132 = true
             · subst c32
               have H1 : (scaled_Bad.l0 k2 x7_2 (wrap64 ((wrap64 (Int.tdiv (wrap64 ((wrap64 (x7_2 + x8_2)) + 1)) 2)) - 1)) t114 t115 t116 t117 t123 t124 t125 t126) = some r := by rw [if_pos rfl] at H; exact H
               clear H
               have H := H1
               clear H1
               have H' := Aside0.mk H
               clear H
               try go_wp2
               have n0_ := Aside0.mk (blk_drew BK118.out)
               have n1_ := Aside0.mk (blk_drew BK127.out)
               have n2_ := Aside0.mk (below_drew1 HB.out)
               clear BK118
               clear BK127
               clear HB
               have BK118 := n0_
               have BK127 := n1_
               have HB := n2_
               clear n0_ n1_ n2_
               refine start_ (n := 6) (S := fun w' => w'.cell? ⟨gb118, 0, none⟩ = some (.int .u64 t114) ∧ w'.cell? ⟨gb118, 1, none⟩ = some (.int .u64 t115) ∧ w'.cell? ⟨gb118, 2, none⟩ = some (.int .u64 t116) ∧ w'.cell? ⟨gb118, 3, none⟩ = some (.int .u64 t117) ∧ w'.cell? ⟨gb127, 0, none⟩ = some (.int .u64 t123) ∧ w'.cell? ⟨gb127, 1, none⟩ = some (.int .u64 t124) ∧ w'.cell? ⟨gb127, 2, none⟩ = some (.int .u64 t125) ∧ w'.cell? ⟨gb127, 3, none⟩ = some (.int .u64 t126)) (ds := []) #[false, false, false, false, false, false] (by kernel_rfl) rfl rfl ⟨(blk_cell BK118.out 0).trans rfl, (blk_cell BK118.out 1).trans rfl, (blk_cell BK118.out 2).trans rfl, (blk_cell BK118.out 3).trans rfl, (blk_cell BK127.out 0).trans rfl, (blk_cell BK127.out 1).trans rfl, (blk_cell BK127.out 2).trans rfl, (blk_cell BK127.out 3).trans rfl⟩ (fun hHeld => ?_)
               generalize wr.drew = w33 at BK118 BK127 HB hHeld ⊢
               refine pure_ (i := 2) (N := some 51) (v := ?_) (a' := ?_) #[false, false, true, false, false, false] rfl rfl (by kernel_rfl) (fun _ _ _ h => h) (Or.inl ⟨by rfl, ?_⟩) ?_ ?_
               rotate_left
               · intro w'
                 go_simp
                 with_reducible rfl
               rotate_left
               · simp only [Act.put, List.setIfInBounds_toArray, List.set_cons_zero, List.set_cons_succ, i64_w, i32_w]
                 rfl
               refine pure_ (i := 3) (N := some 52) (v := ?_) (a' := ?_) #[false, false, true, true, false, false] rfl rfl (by kernel_rfl) (fun _ _ _ h => h) (Or.inl ⟨by rfl, ?_⟩) ?_ ?_
               rotate_left
               · intro w'
                 go_simp
                 with_reducible rfl
               rotate_left
               · simp only [Act.put, List.setIfInBounds_toArray, List.set_cons_zero, List.set_cons_succ, i64_w, i32_w]
                 rfl
               refine take_ (i := 0) (N := some 49) (v := ?_) (a' := ?_) #[true, false, true, true, false, false] rfl rfl (by kernel_rfl) (fun _ _ _ h => h) (Or.inl ⟨by rfl, ?_⟩) hHeld ?_ ?_
               rotate_left
               · rintro w' ⟨s0, s1, s2, s3, s4, s5, s6, s7⟩
                 go_simp
                 with_reducible rfl
               rotate_left
               · simp only [Act.put, List.setIfInBounds_toArray, List.set_cons_zero, List.set_cons_succ, i64_w, i32_w]
                 rfl
               refine take_ (i := 1) (N := some 50) (v := ?_) (a' := ?_) #[true, true, true, true, false, false] rfl rfl (by kernel_rfl) (fun _ _ _ h => h) (Or.inl ⟨by rfl, ?_⟩) hHeld ?_ ?_
               rotate_left
               · rintro w' ⟨s0, s1, s2, s3, s4, s5, s6, s7⟩
                 go_simp
                 with_reducible rfl
               rotate_left
               · simp only [Act.put, List.setIfInBounds_toArray, List.set_cons_zero, List.set_cons_succ, i64_w, i32_w]
                 rfl
               refine one_ (i := 4) (N := some 53) #[true, true, true, true, true, false] rfl rfl (by kernel_rfl) (by decide) (fun K hK => ?_)
               refine goes_ Try.func41 (by kernel_rfl) rfl #[.agg #[.int .u64 t123, .int .u64 t124, .int .u64 t125, .int .u64 t126], .int .u64 (IntKind.u64.wrap (wrap64 (Int.tdiv (wrap64 ((wrap64 (x7_2 + x8_2)) + 1)) 2)))] (by rfl) rfl rfl (by (try simp only [List.map_toArray, List.map_cons, List.map_nil]); first | done | rfl | (simp only [List.length_drop, List.length_take]; rfl)) ?_
               with_reducible refine (scaled_wide_times.calls t123 t124 t125 t126 (IntKind.u64.wrap (wrap64 (Int.tdiv (wrap64 ((wrap64 (x7_2 + x8_2)) + 1)) 2))) t128 t129 t130 t131 _ A30.out).mono ?_
               rintro e w34 ⟨rfl, hb⟩
               refine ⟨_, rfl, ?_⟩
               have n0_ := Aside0.mk (blk_below (g := gb118) (o := .cells #[.int .u64 t114, .int .u64 t115, .int .u64 t116, .int .u64 t117] 41 (0, 0)) (by (with_reducible repeat (first | refine blk_drewN ?_ _ | refine blk_drew ?_ | refine blk_alloc ?_ _)); exact BK118.out) hb)
               have n1_ := Aside0.mk (blk_below (g := gb127) (o := .cells #[.int .u64 t123, .int .u64 t124, .int .u64 t125, .int .u64 t126] 41 (0, 0)) (by (with_reducible repeat (first | refine blk_drewN ?_ _ | refine blk_drew ?_ | refine blk_alloc ?_ _)); exact BK127.out) hb)
               have n2_ := Aside0.mk (below_step (by repeat (first | (with_reducible first | exact HB.out | apply below_alloc | apply pw_below_drewN | apply below_drew1 | refine below_set ?_ GE118.out | refine below_set ?_ GE127.out) | exact HB.out)) hb)
               clear BK118
               clear BK127
               clear HB
               have BK118 := n0_
               have BK127 := n1_
               have HB := n2_
               clear n0_ n1_ n2_
               (try clear hb)
               (try clear hb2)
               (try clear hk)
               (try clear hi)
               refine hK.out _ _ ⟨(blk_cell BK118.out 0).trans rfl, (blk_cell BK118.out 1).trans rfl, (blk_cell BK118.out 2).trans rfl, (blk_cell BK118.out 3).trans rfl, (blk_cell BK127.out 0).trans rfl, (blk_cell BK127.out 1).trans rfl, (blk_cell BK127.out 2).trans rfl, (blk_cell BK127.out 3).trans rfl⟩ (fun hHeld => ?_)
               clear hK K
               refine norm_ (a' := ?_) ?_ ?_
               rotate_left
               · show Act.put _ (some 53) _ = _
                 simp only [Act.put, List.setIfInBounds_toArray, List.set_cons_zero, List.set_cons_succ, i64_w, i32_w]
                 rfl
               refine one_ (i := 5) (N := some 54) #[true, true, true, true, true, true] rfl rfl (by kernel_rfl) (by decide) (fun K hK => ?_)
               refine goes_ Try.func42 (by kernel_rfl) rfl #[.agg #[.int .u64 t114, .int .u64 t115, .int .u64 t116, .int .u64 t117], .agg #[.int .u64 t128, .int .u64 t129, .int .u64 t130, .int .u64 t131]] (by rfl) rfl rfl (by (try simp only [List.map_toArray, List.map_cons, List.map_nil]); first | done | rfl | (simp only [List.length_drop, List.length_take]; rfl)) ?_
               with_reducible refine (scaled_smaller.calls t114 t115 t116 t117 t128 t129 t130 t131 true _ A31.out).mono ?_
               rintro e w35 ⟨rfl, hb⟩
               refine ⟨_, rfl, ?_⟩
               have n0_ := Aside0.mk (blk_below (g := gb118) (o := .cells #[.int .u64 t114, .int .u64 t115, .int .u64 t116, .int .u64 t117] 41 (0, 0)) (by (with_reducible repeat (first | refine blk_drewN ?_ _ | refine blk_drew ?_ | refine blk_alloc ?_ _)); exact BK118.out) hb)
               have n1_ := Aside0.mk (blk_below (g := gb127) (o := .cells #[.int .u64 t123, .int .u64 t124, .int .u64 t125, .int .u64 t126] 41 (0, 0)) (by (with_reducible repeat (first | refine blk_drewN ?_ _ | refine blk_drew ?_ | refine blk_alloc ?_ _)); exact BK127.out) hb)
               have n2_ := Aside0.mk (below_step (by repeat (first | (with_reducible first | exact HB.out | apply below_alloc | apply pw_below_drewN | apply below_drew1 | refine below_set ?_ GE118.out | refine below_set ?_ GE127.out) | exact HB.out)) hb)
               clear BK118
               clear BK127
               clear HB
               have BK118 := n0_
               have BK127 := n1_
               have HB := n2_
               clear n0_ n1_ n2_
               (try clear hb)
               (try clear hb2)
               (try clear hk)
               (try clear hi)
               refine hK.out _ _ ⟨(blk_cell BK118.out 0).trans rfl, (blk_cell BK118.out 1).trans rfl, (blk_cell BK118.out 2).trans rfl, (blk_cell BK118.out 3).trans rfl, (blk_cell BK127.out 0).trans rfl, (blk_cell BK127.out 1).trans rfl, (blk_cell BK127.out 2).trans rfl, (blk_cell BK127.out 3).trans rfl⟩ (fun hHeld => ?_)
               clear hK K
               refine norm_ (a' := ?_) ?_ ?_
               rotate_left
               · show Act.put _ (some 54) _ = _
                 simp only [Act.put, List.setIfInBounds_toArray, List.set_cons_zero, List.set_cons_succ, i64_w, i32_w]
                 rfl
               refine done_ (by kernel_rfl) ?_
               try go_wp2
               go_roundg k2
               case measure => have := HJ7.out; have := HK2.out; omega
               case rel => exact ⟨(x7_2), (wrap64 ((wrap64 (Int.tdiv (wrap64 ((wrap64 (x7_2 + x8_2)) + 1)) 2)) - 1)), (by first | rfl | (simp; done) | (simp [*]; done)), (by first | rfl | (simp; done) | (simp [*]; done)), H', ⟨by have := HJ7.out; have := HK2.out; omega⟩, ⟨by (with_reducible repeat (first | refine blk_drewN ?_ _ | refine blk_drew ?_ | refine blk_alloc ?_ _)); exact BK118.out⟩, ⟨by (with_reducible repeat (first | refine blk_drewN ?_ _ | refine blk_drew ?_ | refine blk_alloc ?_ _)); exact BK127.out⟩, ⟨by repeat (first | (with_reducible first | exact HB.out | apply below_alloc | apply pw_below_drewN | apply below_drew1 | refine below_set ?_ GE118.out | refine below_set ?_ GE127.out) | exact HB.out)⟩⟩
             · replace c32 := Bool.eq_false_iff.mpr c32
               subst c32
               have H1 : (scaled_Bad.l0 k2 (wrap64 (Int.tdiv (wrap64 ((wrap64 (x7_2 + x8_2)) + 1)) 2)) x8_2 t114 t115 t116 t117 t123 t124 t125 t126) = some r := by rw [if_neg (show ¬ (false = true) by decide)] at H; exact H
               clear H
               have H := H1
               clear H1
               have H' := Aside0.mk H
               clear H
               try go_wp2
               have n0_ := Aside0.mk (blk_drew BK118.out)
               have n1_ := Aside0.mk (blk_drew BK127.out)
               have n2_ := Aside0.mk (below_drew1 HB.out)
               clear BK118
               clear BK127
               clear HB
               have BK118 := n0_
               have BK127 := n1_
               have HB := n2_
               clear n0_ n1_ n2_
               refine start_ (n := 6) (S := fun w' => w'.cell? ⟨gb118, 0, none⟩ = some (.int .u64 t114) ∧ w'.cell? ⟨gb118, 1, none⟩ = some (.int .u64 t115) ∧ w'.cell? ⟨gb118, 2, none⟩ = some (.int .u64 t116) ∧ w'.cell? ⟨gb118, 3, none⟩ = some (.int .u64 t117) ∧ w'.cell? ⟨gb127, 0, none⟩ = some (.int .u64 t123) ∧ w'.cell? ⟨gb127, 1, none⟩ = some (.int .u64 t124) ∧ w'.cell? ⟨gb127, 2, none⟩ = some (.int .u64 t125) ∧ w'.cell? ⟨gb127, 3, none⟩ = some (.int .u64 t126)) (ds := []) #[false, false, false, false, false, false] (by kernel_rfl) rfl rfl ⟨(blk_cell BK118.out 0).trans rfl, (blk_cell BK118.out 1).trans rfl, (blk_cell BK118.out 2).trans rfl, (blk_cell BK118.out 3).trans rfl, (blk_cell BK127.out 0).trans rfl, (blk_cell BK127.out 1).trans rfl, (blk_cell BK127.out 2).trans rfl, (blk_cell BK127.out 3).trans rfl⟩ (fun hHeld => ?_)
               generalize wr.drew = w36 at BK118 BK127 HB hHeld ⊢
               refine pure_ (i := 2) (N := some 51) (v := ?_) (a' := ?_) #[false, false, true, false, false, false] rfl rfl (by kernel_rfl) (fun _ _ _ h => h) (Or.inl ⟨by rfl, ?_⟩) ?_ ?_
               rotate_left
               · intro w'
                 go_simp
                 with_reducible rfl
               rotate_left
               · simp only [Act.put, List.setIfInBounds_toArray, List.set_cons_zero, List.set_cons_succ, i64_w, i32_w]
                 rfl
               refine pure_ (i := 3) (N := some 52) (v := ?_) (a' := ?_) #[false, false, true, true, false, false] rfl rfl (by kernel_rfl) (fun _ _ _ h => h) (Or.inl ⟨by rfl, ?_⟩) ?_ ?_
               rotate_left
               · intro w'
                 go_simp
                 with_reducible rfl
               rotate_left
               · simp only [Act.put, List.setIfInBounds_toArray, List.set_cons_zero, List.set_cons_succ, i64_w, i32_w]
                 rfl
               refine take_ (i := 0) (N := some 49) (v := ?_) (a' := ?_) #[true, false, true, true, false, false] rfl rfl (by kernel_rfl) (fun _ _ _ h => h) (Or.inl ⟨by rfl, ?_⟩) hHeld ?_ ?_
               rotate_left
               · rintro w' ⟨s0, s1, s2, s3, s4, s5, s6, s7⟩
                 go_simp
                 with_reducible rfl
               rotate_left
               · simp only [Act.put, List.setIfInBounds_toArray, List.set_cons_zero, List.set_cons_succ, i64_w, i32_w]
                 rfl
               refine take_ (i := 1) (N := some 50) (v := ?_) (a' := ?_) #[true, true, true, true, false, false] rfl rfl (by kernel_rfl) (fun _ _ _ h => h) (Or.inl ⟨by rfl, ?_⟩) hHeld ?_ ?_
               rotate_left
               · rintro w' ⟨s0, s1, s2, s3, s4, s5, s6, s7⟩
                 go_simp
                 with_reducible rfl
               rotate_left
               · simp only [Act.put, List.setIfInBounds_toArray, List.set_cons_zero, List.set_cons_succ, i64_w, i32_w]
                 rfl
               refine one_ (i := 4) (N := some 53) #[true, true, true, true, true, false] rfl rfl (by kernel_rfl) (by decide) (fun K hK => ?_)
               refine goes_ Try.func41 (by kernel_rfl) rfl #[.agg #[.int .u64 t123, .int .u64 t124, .int .u64 t125, .int .u64 t126], .int .u64 (IntKind.u64.wrap (wrap64 (Int.tdiv (wrap64 ((wrap64 (x7_2 + x8_2)) + 1)) 2)))] (by rfl) rfl rfl (by (try simp only [List.map_toArray, List.map_cons, List.map_nil]); first | done | rfl | (simp only [List.length_drop, List.length_take]; rfl)) ?_
               with_reducible refine (scaled_wide_times.calls t123 t124 t125 t126 (IntKind.u64.wrap (wrap64 (Int.tdiv (wrap64 ((wrap64 (x7_2 + x8_2)) + 1)) 2))) t128 t129 t130 t131 _ A30.out).mono ?_
               rintro e w37 ⟨rfl, hb⟩
               refine ⟨_, rfl, ?_⟩
               have n0_ := Aside0.mk (blk_below (g := gb118) (o := .cells #[.int .u64 t114, .int .u64 t115, .int .u64 t116, .int .u64 t117] 41 (0, 0)) (by (with_reducible repeat (first | refine blk_drewN ?_ _ | refine blk_drew ?_ | refine blk_alloc ?_ _)); exact BK118.out) hb)
               have n1_ := Aside0.mk (blk_below (g := gb127) (o := .cells #[.int .u64 t123, .int .u64 t124, .int .u64 t125, .int .u64 t126] 41 (0, 0)) (by (with_reducible repeat (first | refine blk_drewN ?_ _ | refine blk_drew ?_ | refine blk_alloc ?_ _)); exact BK127.out) hb)
               have n2_ := Aside0.mk (below_step (by repeat (first | (with_reducible first | exact HB.out | apply below_alloc | apply pw_below_drewN | apply below_drew1 | refine below_set ?_ GE118.out | refine below_set ?_ GE127.out) | exact HB.out)) hb)
               clear BK118
               clear BK127
               clear HB
               have BK118 := n0_
               have BK127 := n1_
               have HB := n2_
               clear n0_ n1_ n2_
               (try clear hb)
               (try clear hb2)
               (try clear hk)
               (try clear hi)
               refine hK.out _ _ ⟨(blk_cell BK118.out 0).trans rfl, (blk_cell BK118.out 1).trans rfl, (blk_cell BK118.out 2).trans rfl, (blk_cell BK118.out 3).trans rfl, (blk_cell BK127.out 0).trans rfl, (blk_cell BK127.out 1).trans rfl, (blk_cell BK127.out 2).trans rfl, (blk_cell BK127.out 3).trans rfl⟩ (fun hHeld => ?_)
               clear hK K
               refine norm_ (a' := ?_) ?_ ?_
               rotate_left
               · show Act.put _ (some 53) _ = _
                 simp only [Act.put, List.setIfInBounds_toArray, List.set_cons_zero, List.set_cons_succ, i64_w, i32_w]
                 rfl
               refine one_ (i := 5) (N := some 54) #[true, true, true, true, true, true] rfl rfl (by kernel_rfl) (by decide) (fun K hK => ?_)
               refine goes_ Try.func42 (by kernel_rfl) rfl #[.agg #[.int .u64 t114, .int .u64 t115, .int .u64 t116, .int .u64 t117], .agg #[.int .u64 t128, .int .u64 t129, .int .u64 t130, .int .u64 t131]] (by rfl) rfl rfl (by (try simp only [List.map_toArray, List.map_cons, List.map_nil]); first | done | rfl | (simp only [List.length_drop, List.length_take]; rfl)) ?_
               with_reducible refine (scaled_smaller.calls t114 t115 t116 t117 t128 t129 t130 t131 false _ A31.out).mono ?_
               rintro e w38 ⟨rfl, hb⟩
               refine ⟨_, rfl, ?_⟩
               have n0_ := Aside0.mk (blk_below (g := gb118) (o := .cells #[.int .u64 t114, .int .u64 t115, .int .u64 t116, .int .u64 t117] 41 (0, 0)) (by (with_reducible repeat (first | refine blk_drewN ?_ _ | refine blk_drew ?_ | refine blk_alloc ?_ _)); exact BK118.out) hb)
               have n1_ := Aside0.mk (blk_below (g := gb127) (o := .cells #[.int .u64 t123, .int .u64 t124, .int .u64 t125, .int .u64 t126] 41 (0, 0)) (by (with_reducible repeat (first | refine blk_drewN ?_ _ | refine blk_drew ?_ | refine blk_alloc ?_ _)); exact BK127.out) hb)
               have n2_ := Aside0.mk (below_step (by repeat (first | (with_reducible first | exact HB.out | apply below_alloc | apply pw_below_drewN | apply below_drew1 | refine below_set ?_ GE118.out | refine below_set ?_ GE127.out) | exact HB.out)) hb)
               clear BK118
               clear BK127
               clear HB
               have BK118 := n0_
               have BK127 := n1_
               have HB := n2_
               clear n0_ n1_ n2_
               (try clear hb)
               (try clear hb2)
               (try clear hk)
               (try clear hi)
               refine hK.out _ _ ⟨(blk_cell BK118.out 0).trans rfl, (blk_cell BK118.out 1).trans rfl, (blk_cell BK118.out 2).trans rfl, (blk_cell BK118.out 3).trans rfl, (blk_cell BK127.out 0).trans rfl, (blk_cell BK127.out 1).trans rfl, (blk_cell BK127.out 2).trans rfl, (blk_cell BK127.out 3).trans rfl⟩ (fun hHeld => ?_)
               clear hK K
               refine norm_ (a' := ?_) ?_ ?_
               rotate_left
               · show Act.put _ (some 54) _ = _
                 simp only [Act.put, List.setIfInBounds_toArray, List.set_cons_zero, List.set_cons_succ, i64_w, i32_w]
                 rfl
               refine done_ (by kernel_rfl) ?_
               try go_wp2
               go_roundg k2
               case measure => have := HJ7.out; have := HK2.out; omega
               case rel => exact ⟨(wrap64 (Int.tdiv (wrap64 ((wrap64 (x7_2 + x8_2)) + 1)) 2)), (x8_2), (by first | rfl | (simp; done) | (simp [*]; done)), (by first | rfl | (simp; done) | (simp [*]; done)), H', ⟨by have := HJ7.out; have := HK2.out; omega⟩, ⟨by (with_reducible repeat (first | refine blk_drewN ?_ _ | refine blk_drew ?_ | refine blk_alloc ?_ _)); exact BK118.out⟩, ⟨by (with_reducible repeat (first | refine blk_drewN ?_ _ | refine blk_drew ?_ | refine blk_alloc ?_ _)); exact BK127.out⟩, ⟨by repeat (first | (with_reducible first | exact HB.out | apply below_alloc | apply pw_below_drewN | apply below_drew1 | refine below_set ?_ GE118.out | refine below_set ?_ GE127.out) | exact HB.out)⟩⟩
           · rw [if_neg c29] at H
             have c29b0 : decide (x7_2 < x8_2) = false := decide_eq_false c29
             clear c29
             obtain rfl := Option.some.inj H
             go_wp2
             go_ret
             exact ⟨by first | rfl | (simp [errW_none, errW_some] <;> rfl) | (simp [*, errW_none, errW_some] <;> rfl), by repeat (first | (with_reducible first | exact HB.out | apply below_alloc | apply pw_below_drewN | apply below_drew1 | refine below_set ?_ GE118.out | refine below_set ?_ GE127.out) | exact HB.out)⟩

/-! ### scaled_Div: function 17 -/
def scaled_Div.f (a0 : Int) (a1 : Int) : Option (Int × Bool) := (scaled_Clamp.f a0).bind fun t133 => ((scaled_Clamp.f a1).bind fun t134 => (if t134 = 0 then (some (0, false)) else (if (Int.tmod t133 t134) = 0 then (some (wrap64 (Int.tdiv t133 t134), true)) else (if ((decide (t133 < 0)) != (decide (t134 < 0))) = true then (some (wrap64 ((wrap64 (Int.tdiv t133 t134)) - 1), true)) else (some (wrap64 (Int.tdiv t133 t134), true))))))
set_option maxHeartbeats 8000000 in
set_option maxRecDepth 100000 in
theorem scaled_Div.calls (a0 : Int) (a1 : Int) (r1 : Int) (r2 : Bool) (w : World) (h : scaled_Div.f a0 a1 = some (r1, r2)) :
   Calls Try.prog 17 #[.int .i64 a0, .int .i64 a1] w fun e w' => e = .returned (.tuple #[.int .i64 r1, .bool r2]) ∧ Below w.heap.size w w' := by
 have HB := Aside0.mk (Below.refl w.heap.size w)
 have H : ((scaled_Clamp.f a0).bind fun t133 => ((scaled_Clamp.f a1).bind fun t134 => (if t134 = 0 then (some (0, false)) else (if (Int.tmod t133 t134) = 0 then (some (wrap64 (Int.tdiv t133 t134), true)) else (if ((decide (t133 < 0)) != (decide (t134 < 0))) = true then (some (wrap64 ((wrap64 (Int.tdiv t133 t134)) - 1), true)) else (some (wrap64 (Int.tdiv t133 t134), true))))))) = some (r1, r2) := h
 clear h
 replace H := Option.bind_eq_some_iff.mp H
 obtain ⟨t133, A30, H⟩ := H
 replace H : ((scaled_Clamp.f a1).bind fun t134 => (if t134 = 0 then (some (0, false)) else (if (Int.tmod t133 t134) = 0 then (some (wrap64 (Int.tdiv t133 t134), true)) else (if ((decide (t133 < 0)) != (decide (t134 < 0))) = true then (some (wrap64 ((wrap64 (Int.tdiv t133 t134)) - 1), true)) else (some (wrap64 (Int.tdiv t133 t134), true)))))) = some (r1, r2) := H
 have A3 := Aside0.mk A30
 clear A30
 replace H := Option.bind_eq_some_iff.mp H
 obtain ⟨t134, A40, H⟩ := H
 replace H : (if t134 = 0 then (some (0, false)) else (if (Int.tmod t133 t134) = 0 then (some (wrap64 (Int.tdiv t133 t134), true)) else (if ((decide (t133 < 0)) != (decide (t134 < 0))) = true then (some (wrap64 ((wrap64 (Int.tdiv t133 t134)) - 1), true)) else (some (wrap64 (Int.tdiv t133 t134), true))))) = some (r1, r2) := H
 have A4 := Aside0.mk A40
 clear A40
 by_cases c5 : t134 = 0
 · rw [if_pos c5] at H
   have c5b0 : (t134 == 0) = true := beq_iff_eq.mpr c5
   have c5b1 : (t134 != 0) = false := bne_eq_false_iff_eq.mpr c5
   clear c5
   simp only [Option.some.injEq, Prod.mk.injEq] at H
   obtain ⟨rfl, rfl⟩ := H
   go_enter Try.func17, Try.ntmps17
   go_wp2_with (first | ((with_reducible refine gate_callee (f := 21) rfl ?_); refine goesL_ (some 8) rfl rfl Try.func21 (by kernel_rfl) rfl #[.int .i64 a0] rfl (by (try simp only [List.map_toArray, List.map_cons, List.map_nil]); first | done | rfl | (simp only [List.length_drop, List.length_take]; rfl)) ?_; (with_reducible refine (scaled_Clamp.calls a0 t133 _ A3.out).mono ?_); rintro e w6 ⟨rfl, hb⟩; refine ⟨_, rfl, ?_⟩; have n0_ := Aside0.mk (below_step (by repeat (first | (with_reducible first | exact HB.out | apply below_alloc | apply pw_below_drewN | apply below_drew1) | exact HB.out)) hb); clear HB; have HB := n0_; clear n0_; (try clear hb); (try clear hb2); (try clear hk); (try clear hi)) | ((with_reducible refine gate_callee (f := 21) rfl ?_); refine goesL_ (some 10) rfl rfl Try.func21 (by kernel_rfl) rfl #[.int .i64 a1] rfl (by (try simp only [List.map_toArray, List.map_cons, List.map_nil]); first | done | rfl | (simp only [List.length_drop, List.length_take]; rfl)) ?_; (with_reducible refine (scaled_Clamp.calls a1 t134 _ A4.out).mono ?_); rintro e w7 ⟨rfl, hb⟩; refine ⟨_, rfl, ?_⟩; have n0_ := Aside0.mk (below_step (by repeat (first | (with_reducible first | exact HB.out | apply below_alloc | apply pw_below_drewN | apply below_drew1) | exact HB.out)) hb); clear HB; have HB := n0_; clear n0_; (try clear hb); (try clear hb2); (try clear hk); (try clear hi)))
   go_ret2
   exact ⟨by first | rfl | (simp [errW_none, errW_some] <;> rfl) | (simp [*, errW_none, errW_some] <;> rfl), by repeat (first | (with_reducible first | exact HB.out | apply below_alloc | apply pw_below_drewN | apply below_drew1) | exact HB.out)⟩
 · rw [if_neg c5] at H
   have c5b0 : (t134 == 0) = false := beq_eq_false_iff_ne.mpr c5
   have c5b1 : (t134 != 0) = true := bne_iff_ne.mpr c5
   by_cases c8 : (Int.tmod t133 t134) = 0
   · rw [if_pos c8] at H
     have c8b0 : ((Int.tmod t133 t134) == 0) = true := beq_iff_eq.mpr c8
     have c8b1 : ((Int.tmod t133 t134) != 0) = false := bne_eq_false_iff_eq.mpr c8
     clear c8
     simp only [Option.some.injEq, Prod.mk.injEq] at H
     obtain ⟨rfl, rfl⟩ := H
     go_enter Try.func17, Try.ntmps17
     go_wp2_with (first | ((with_reducible refine gate_callee (f := 21) rfl ?_); refine goesL_ (some 8) rfl rfl Try.func21 (by kernel_rfl) rfl #[.int .i64 a0] rfl (by (try simp only [List.map_toArray, List.map_cons, List.map_nil]); first | done | rfl | (simp only [List.length_drop, List.length_take]; rfl)) ?_; (with_reducible refine (scaled_Clamp.calls a0 t133 _ A3.out).mono ?_); rintro e w9 ⟨rfl, hb⟩; refine ⟨_, rfl, ?_⟩; have n0_ := Aside0.mk (below_step (by repeat (first | (with_reducible first | exact HB.out | apply below_alloc | apply pw_below_drewN | apply below_drew1) | exact HB.out)) hb); clear HB; have HB := n0_; clear n0_; (try clear hb); (try clear hb2); (try clear hk); (try clear hi)) | ((with_reducible refine gate_callee (f := 21) rfl ?_); refine goesL_ (some 10) rfl rfl Try.func21 (by kernel_rfl) rfl #[.int .i64 a1] rfl (by (try simp only [List.map_toArray, List.map_cons, List.map_nil]); first | done | rfl | (simp only [List.length_drop, List.length_take]; rfl)) ?_; (with_reducible refine (scaled_Clamp.calls a1 t134 _ A4.out).mono ?_); rintro e w10 ⟨rfl, hb⟩; refine ⟨_, rfl, ?_⟩; have n0_ := Aside0.mk (below_step (by repeat (first | (with_reducible first | exact HB.out | apply below_alloc | apply pw_below_drewN | apply below_drew1) | exact HB.out)) hb); clear HB; have HB := n0_; clear n0_; (try clear hb); (try clear hb2); (try clear hk); (try clear hi)))
     go_ret2
     exact ⟨by first | rfl | (simp [errW_none, errW_some] <;> rfl) | (simp [*, errW_none, errW_some] <;> rfl), by repeat (first | (with_reducible first | exact HB.out | apply below_alloc | apply pw_below_drewN | apply below_drew1) | exact HB.out)⟩
   · rw [if_neg c8] at H
     have c8b0 : ((Int.tmod t133 t134) == 0) = false := beq_eq_false_iff_ne.mpr c8
     have c8b1 : ((Int.tmod t133 t134) != 0) = true := bne_iff_ne.mpr c8
     by_cases c11 : ((decide (t133 < 0)) != (decide (t134 < 0))) = true
     · rw [if_pos c11] at H
       have c11b0 : ((decide (t133 < 0)) != (decide (t134 < 0))) = true := c11
       (try (have c11b1 : decide ((decide (t133 < 0)) = (decide (t134 < 0))) = false := by simpa using c11))
       (try (have c11b2 : ((decide (t133 < 0)) == (decide (t134 < 0))) = false := by simpa using c11))
       (try (have c11b3 : ¬ ((decide (t133 < 0)) = (decide (t134 < 0))) := by simpa using c11))
       clear c11
       simp only [Option.some.injEq, Prod.mk.injEq] at H
       obtain ⟨rfl, rfl⟩ := H
       go_enter Try.func17, Try.ntmps17
       go_wp2_with (first | ((with_reducible refine gate_callee (f := 21) rfl ?_); refine goesL_ (some 8) rfl rfl Try.func21 (by kernel_rfl) rfl #[.int .i64 a0] rfl (by (try simp only [List.map_toArray, List.map_cons, List.map_nil]); first | done | rfl | (simp only [List.length_drop, List.length_take]; rfl)) ?_; (with_reducible refine (scaled_Clamp.calls a0 t133 _ A3.out).mono ?_); rintro e w12 ⟨rfl, hb⟩; refine ⟨_, rfl, ?_⟩; have n0_ := Aside0.mk (below_step (by repeat (first | (with_reducible first | exact HB.out | apply below_alloc | apply pw_below_drewN | apply below_drew1) | exact HB.out)) hb); clear HB; have HB := n0_; clear n0_; (try clear hb); (try clear hb2); (try clear hk); (try clear hi)) | ((with_reducible refine gate_callee (f := 21) rfl ?_); refine goesL_ (some 10) rfl rfl Try.func21 (by kernel_rfl) rfl #[.int .i64 a1] rfl (by (try simp only [List.map_toArray, List.map_cons, List.map_nil]); first | done | rfl | (simp only [List.length_drop, List.length_take]; rfl)) ?_; (with_reducible refine (scaled_Clamp.calls a1 t134 _ A4.out).mono ?_); rintro e w13 ⟨rfl, hb⟩; refine ⟨_, rfl, ?_⟩; have n0_ := Aside0.mk (below_step (by repeat (first | (with_reducible first | exact HB.out | apply below_alloc | apply pw_below_drewN | apply below_drew1) | exact HB.out)) hb); clear HB; have HB := n0_; clear n0_; (try clear hb); (try clear hb2); (try clear hk); (try clear hi)))
       go_ret2
       exact ⟨by first | rfl | (simp [errW_none, errW_some] <;> rfl) | (simp [*, errW_none, errW_some] <;> rfl), by repeat (first | (with_reducible first | exact HB.out | apply below_alloc | apply pw_below_drewN | apply below_drew1) | exact HB.out)⟩
     · rw [if_neg c11] at H
       have c11b0 : ((decide (t133 < 0)) != (decide (t134 < 0))) = false := by simpa using c11
       (try (have c11b1 : decide ((decide (t133 < 0)) = (decide (t134 < 0))) = true := by simpa using c11))
       (try (have c11b2 : ((decide (t133 < 0)) == (decide (t134 < 0))) = true := by simpa using c11))
       clear c11
       simp only [Option.some.injEq, Prod.mk.injEq] at H
       obtain ⟨rfl, rfl⟩ := H
       go_enter Try.func17, Try.ntmps17
       go_wp2_with (first | ((with_reducible refine gate_callee (f := 21) rfl ?_); refine goesL_ (some 8) rfl rfl Try.func21 (by kernel_rfl) rfl #[.int .i64 a0] rfl (by (try simp only [List.map_toArray, List.map_cons, List.map_nil]); first | done | rfl | (simp only [List.length_drop, List.length_take]; rfl)) ?_; (with_reducible refine (scaled_Clamp.calls a0 t133 _ A3.out).mono ?_); rintro e w14 ⟨rfl, hb⟩; refine ⟨_, rfl, ?_⟩; have n0_ := Aside0.mk (below_step (by repeat (first | (with_reducible first | exact HB.out | apply below_alloc | apply pw_below_drewN | apply below_drew1) | exact HB.out)) hb); clear HB; have HB := n0_; clear n0_; (try clear hb); (try clear hb2); (try clear hk); (try clear hi)) | ((with_reducible refine gate_callee (f := 21) rfl ?_); refine goesL_ (some 10) rfl rfl Try.func21 (by kernel_rfl) rfl #[.int .i64 a1] rfl (by (try simp only [List.map_toArray, List.map_cons, List.map_nil]); first | done | rfl | (simp only [List.length_drop, List.length_take]; rfl)) ?_; (with_reducible refine (scaled_Clamp.calls a1 t134 _ A4.out).mono ?_); rintro e w15 ⟨rfl, hb⟩; refine ⟨_, rfl, ?_⟩; have n0_ := Aside0.mk (below_step (by repeat (first | (with_reducible first | exact HB.out | apply below_alloc | apply pw_below_drewN | apply below_drew1) | exact HB.out)) hb); clear HB; have HB := n0_; clear n0_; (try clear hb); (try clear hb2); (try clear hk); (try clear hi)))
       go_ret2
       exact ⟨by first | rfl | (simp [errW_none, errW_some] <;> rfl) | (simp [*, errW_none, errW_some] <;> rfl), by repeat (first | (with_reducible first | exact HB.out | apply below_alloc | apply pw_below_drewN | apply below_drew1) | exact HB.out)⟩

end Go.Proofs.Ytedplhcdlkhbnaa.P
