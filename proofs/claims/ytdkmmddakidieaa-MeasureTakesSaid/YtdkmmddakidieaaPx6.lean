-- PRINTED by print.py (a twelfth state) out of the translation. Not trusted: Lean checks it.
import Derived.Test.YtdkmmddakidieaaPx0
import Derived.Test.YtdkmmddakidieaaPx4
import Derived.Test.YtdkmmddakidieaaWo
namespace Go.Proofs.Ytdkmmddakidieaa.P
open Go.RowKit Go.Proofs.YtdkmmddakidieaaW.PrintWords Go.Proofs.YtdkmmddakidieaaW.PrintLast Go.Proofs.YtdkmmddakidieaaW.PrintMore
attribute [local go_sem] max2_int min2_int max_two min_two max_three min_three max_four min_four   -- for this text's walks alone
set_option linter.unusedVariables false
set_option linter.unusedSimpArgs false

/-! ### scaled_size: function 64 -/
def scaled_size.f (a0 : Int) : Option (Int) := (scaled_Clamp.f a0).bind fun t134 => (if t134 < 0 then (some (IntKind.u64.wrap (wrap64 (-t134)))) else (some (IntKind.u64.wrap (t134))))
set_option maxHeartbeats 8000000 in
set_option maxRecDepth 100000 in
theorem scaled_size.calls (a0 : Int) (r : Int) (w : World) (h : scaled_size.f a0 = some r) :
   Calls Try.prog 64 #[.int .i64 a0] w fun e w' => e = .returned (.int .u64 r) ∧ Below w.heap.size w w' := by
 have HB := Aside0.mk (Below.refl w.heap.size w)
 have H : ((scaled_Clamp.f a0).bind fun t134 => (if t134 < 0 then (some (IntKind.u64.wrap (wrap64 (-t134)))) else (some (IntKind.u64.wrap (t134))))) = some r := h
 clear h
 replace H := Option.bind_eq_some_iff.mp H
 obtain ⟨t134, A20, H⟩ := H
 replace H : (if t134 < 0 then (some (IntKind.u64.wrap (wrap64 (-t134)))) else (some (IntKind.u64.wrap (t134)))) = some r := H
 have A2 := Aside0.mk A20
 clear A20
 by_cases c3 : t134 < 0
 · rw [if_pos c3] at H
   have c3b0 : decide (t134 < 0) = true := decide_eq_true c3
   clear c3; obtain rfl := Option.some.inj H
   go_enter Try.func64, Try.ntmps64
   go_wp2_with (first | ((with_reducible refine gate_callee (f := 50) rfl ?_); refine goesL_ (some 4) rfl rfl Try.func50 (by kernel_rfl) rfl #[.int .i64 a0] rfl (by (try simp only [List.map_toArray, List.map_cons, List.map_nil]); first | done | rfl | (simp only [List.length_drop, List.length_take]; rfl)) ?_; (with_reducible refine (scaled_Clamp.calls a0 t134 _ A2.out).mono ?_); rintro e w4 ⟨rfl, hb⟩; refine ⟨_, rfl, ?_⟩; have n0_ := Aside0.mk (below_step (by repeat (first | (with_reducible first | exact HB.out | apply bA | apply bN | apply bD) | exact HB.out)) hb); clear HB; have HB := n0_; clear n0_; (try clear hb); (try clear hb2); (try clear hk); (try clear hi)))
   go_ret
   exact ⟨by first | rfl | (simp [errW_none, errW_some] <;> rfl) | (simp [*, errW_none, errW_some] <;> rfl), by repeat (first | (with_reducible first | exact HB.out | apply bA | apply bN | apply bD) | exact HB.out)⟩
 rw [if_neg c3] at H
 have c3b0 : decide (t134 < 0) = false := decide_eq_false c3
 clear c3
 obtain rfl := Option.some.inj H
 go_enter Try.func64, Try.ntmps64
 go_wp2_with (first | ((with_reducible refine gate_callee (f := 50) rfl ?_); refine goesL_ (some 4) rfl rfl Try.func50 (by kernel_rfl) rfl #[.int .i64 a0] rfl (by (try simp only [List.map_toArray, List.map_cons, List.map_nil]); first | done | rfl | (simp only [List.length_drop, List.length_take]; rfl)) ?_; (with_reducible refine (scaled_Clamp.calls a0 t134 _ A2.out).mono ?_); rintro e w5 ⟨rfl, hb⟩; refine ⟨_, rfl, ?_⟩; have n0_ := Aside0.mk (below_step (by repeat (first | (with_reducible first | exact HB.out | apply bA | apply bN | apply bD) | exact HB.out)) hb); clear HB; have HB := n0_; clear n0_; (try clear hb); (try clear hb2); (try clear hk); (try clear hi)))
 go_ret
 exact ⟨by first | rfl | (simp [errW_none, errW_some] <;> rfl) | (simp [*, errW_none, errW_some] <;> rfl), by repeat (first | (with_reducible first | exact HB.out | apply bA | apply bN | apply bD) | exact HB.out)⟩

/-! ### scaled_Gcd: function 62 -/
def scaled_Gcd.l0 : Nat → Int → Int → Option (Int)
 | 0, _, _ => none
 | k + 1, x5, x6 => if x6 > 0 then (if x6 = 0 then (none) else (scaled_Gcd.l0 k x6 (Int.tmod x5 x6))) else (some (wrap64 (x5)))
def scaled_Gcd.f (k : Nat) (a0 : Int) (a1 : Int) : Option (Int) := (scaled_size.f a0).bind fun t135 => ((scaled_size.f a1).bind fun t136 => (scaled_Gcd.l0 k t135 t136))
theorem scaled_Gcd.mono_l : ∀ k, (∀ y0 y1, LeO (scaled_Gcd.l0 k y0 y1) (scaled_Gcd.l0 (k + 1) y0 y1))
 | 0 => fun _ _ r h => by simp [scaled_Gcd.l0] at h
 | k + 1 => by
   have ih0 := scaled_Gcd.mono_l k
   · intro y0 y1
     unfold scaled_Gcd.l0
     repeat' first
     | (with_reducible exact ih0 _ _)
     | (with_reducible exact LeO.refl _)
     | (with_reducible exact LeO.none _)
     | (with_reducible refine LeO.ite ?_ ?_)
     | (with_reducible refine LeO.bind ?_ (fun _ => ?_))
     | exact ih0 _ _
     | exact LeO.none _
     | refine LeO.ite ?_ ?_
     | refine LeO.bind ?_ (fun _ => ?_)
theorem scaled_Gcd.mono : ∀ a0 a1 k, LeO (scaled_Gcd.f k a0 a1) (scaled_Gcd.f (k + 1) a0 a1) := by
 intro a0 a1 k
 have ih0 := scaled_Gcd.mono_l k
 unfold scaled_Gcd.f
 repeat' first
     | (with_reducible exact ih0 _ _)
     | (with_reducible exact LeO.refl _)
     | (with_reducible exact LeO.none _)
     | (with_reducible refine LeO.ite ?_ ?_)
     | (with_reducible refine LeO.bind ?_ (fun _ => ?_))
     | exact ih0 _ _
     | exact LeO.none _
     | refine LeO.ite ?_ ?_
     | refine LeO.bind ?_ (fun _ => ?_)
theorem scaled_Gcd.l0.ev {x5 : Int} {x6 : Int} {r_ : Int} (h : Ev (fun k => if x6 > 0 then (if x6 = 0 then (none) else (scaled_Gcd.l0 k x6 (Int.tmod x5 x6))) else (some (wrap64 (x5)))) r_) : Ev (fun k => scaled_Gcd.l0 k x5 x6) r_ := Ev.step (fun k => by rw [scaled_Gcd.l0]) h
set_option maxHeartbeats 8000000 in
set_option maxRecDepth 100000 in
theorem scaled_Gcd.calls (k : Nat) (a0 : Int) (a1 : Int) (r : Int) (w : World) (h : scaled_Gcd.f k a0 a1 = some r) :
   Calls Try.prog 62 #[.int .i64 a0, .int .i64 a1] w fun e w' => e = .returned (.int .i64 r) ∧ Below w.heap.size w w' := by
 have HB := Aside0.mk (Below.refl w.heap.size w)
 have H : ((scaled_size.f a0).bind fun t135 => ((scaled_size.f a1).bind fun t136 => (scaled_Gcd.l0 k t135 t136))) = some r := h
 clear h
 replace H := Option.bind_eq_some_iff.mp H
 obtain ⟨t135, A30, H⟩ := H
 replace H : ((scaled_size.f a1).bind fun t136 => (scaled_Gcd.l0 k t135 t136)) = some r := H
 have A3 := Aside0.mk A30
 clear A30
 replace H := Option.bind_eq_some_iff.mp H
 obtain ⟨t136, A40, H⟩ := H
 replace H : (scaled_Gcd.l0 k t135 t136) = some r := H
 have A4 := Aside0.mk A40
 clear A40
 have H' := Aside0.mk H
 clear H
 go_enter Try.func62, Try.ntmps62
 go_wp2_with (first | (go_at_call 64; (with_reducible refine (scaled_size.calls a0 t135 _ A3.out).mono ?_); rintro e w5 ⟨rfl, hb⟩; have n0_ := Aside0.mk (below_step (by repeat (first | (with_reducible first | exact HB.out | apply bA | apply bN | apply bD) | exact HB.out)) hb); clear HB; have HB := n0_; clear n0_; (try clear hb); (try clear hb2); (try clear hk); (try clear hi)) | (go_at_call 64; (with_reducible refine (scaled_size.calls a1 t136 _ A4.out).mono ?_); rintro e w6 ⟨rfl, hb⟩; have n0_ := Aside0.mk (below_step (by repeat (first | (with_reducible first | exact HB.out | apply bA | apply bN | apply bD) | exact HB.out)) hb); clear HB; have HB := n0_; clear n0_; (try clear hb); (try clear hb2); (try clear hk); (try clear hi)))
 repeat (go_quiet (first | (go_at_call 64; (with_reducible refine (scaled_size.calls a0 t135 _ A3.out).mono ?_); rintro e w5 ⟨rfl, hb⟩; have n0_ := Aside0.mk (below_step (by repeat (first | (with_reducible first | exact HB.out | apply bA | apply bN | apply bD) | exact HB.out)) hb); clear HB; have HB := n0_; clear n0_; (try clear hb); (try clear hb2); (try clear hk); (try clear hi)) | (go_at_call 64; (with_reducible refine (scaled_size.calls a1 t136 _ A4.out).mono ?_); rintro e w6 ⟨rfl, hb⟩; have n0_ := Aside0.mk (below_step (by repeat (first | (with_reducible first | exact HB.out | apply bA | apply bN | apply bD) | exact HB.out)) hb); clear HB; have HB := n0_; clear n0_; (try clear hb); (try clear hb2); (try clear hk); (try clear hi))); try go_wp2_with (first | (go_at_call 64; (with_reducible refine (scaled_size.calls a0 t135 _ A3.out).mono ?_); rintro e w5 ⟨rfl, hb⟩; have n0_ := Aside0.mk (below_step (by repeat (first | (with_reducible first | exact HB.out | apply bA | apply bN | apply bD) | exact HB.out)) hb); clear HB; have HB := n0_; clear n0_; (try clear hb); (try clear hb2); (try clear hk); (try clear hi)) | (go_at_call 64; (with_reducible refine (scaled_size.calls a1 t136 _ A4.out).mono ?_); rintro e w6 ⟨rfl, hb⟩; have n0_ := Aside0.mk (below_step (by repeat (first | (with_reducible first | exact HB.out | apply bA | apply bN | apply bD) | exact HB.out)) hb); clear HB; have HB := n0_; clear n0_; (try clear hb); (try clear hb2); (try clear hk); (try clear hi))))
 go_loopg [5, 6] k (fun kq v5 v6 w' => ∃ (x5_1 : Int) (x6_1 : Int), v5 = .int .u64 x5_1 ∧ v6 = .int .u64 x6_1 ∧ Aside0 (scaled_Gcd.l0 kq x5_1 x6_1 = some r) ∧ Aside0 (kq ≤ k) ∧ Aside0 (Below w.heap.size w w'))
 case atStart => exact ⟨(t135), (t136), (by first | rfl | (simp; done) | (simp [*]; done)), (by first | rfl | (simp; done) | (simp [*]; done)), H', ⟨Nat.le_refl _⟩, ⟨by repeat (first | (with_reducible first | exact HB.out | apply bA | apply bN | apply bD) | exact HB.out)⟩⟩
 case round =>
   clear H'
   try clear p2
   try clear c6
   obtain ⟨x5_1, x6_1, rfl, rfl, HA, HK1, HB⟩ := hrel
   cases gk with
   | zero => exact absurd HA.out (by simp [scaled_Gcd.l0])
   | succ k1 =>
     have H := HA.out; clear HA; simp only [scaled_Gcd.l0] at H
     by_cases c7 : x6_1 > 0
     case neg =>
       rw [if_neg c7] at H
       have c7b0 : decide (0 < x6_1) = false := decide_eq_false c7
       clear c7; obtain rfl := Option.some.inj H
       go_wp2
       repeat (go_quiet (fail); try go_wp2)
       go_ret
       exact ⟨by first | rfl | (simp [errW_none, errW_some] <;> rfl) | (simp [*, errW_none, errW_some] <;> rfl), by repeat (first | (with_reducible first | exact HB.out | apply bA | apply bN | apply bD) | exact HB.out)⟩
     rw [if_pos c7] at H
     have c7b0 : decide (0 < x6_1) = true := decide_eq_true c7
     clear c7; by_cases c8 : x6_1 = 0
     · rw [if_pos c8] at H
       exact absurd H (by simp)
     rw [if_neg c8] at H
     have c8b0 : (x6_1 == 0) = false := beq_eq_false_iff_ne.mpr c8
     have c8b1 : (x6_1 != 0) = true := bne_iff_ne.mpr c8
     have H' := Aside0.mk H; clear H; go_wp2
     repeat (go_quiet (fail); try go_wp2)
     go_roundg k1
     case measure => have := HK1.out; omega
     case rel => exact ⟨(x6_1), (Int.tmod x5_1 x6_1), (by first | rfl | (simp; done) | (simp [*]; done)), (by first | rfl | (simp; done) | (simp [*]; done)), H', ⟨by have := HK1.out; omega⟩, ⟨by repeat (first | (with_reducible first | exact HB.out | apply bA | apply bN | apply bD) | exact HB.out)⟩⟩

/-! ### scaled_Lowest: function 49 -/
def scaled_Lowest.f (k : Nat) (a0 : Int) (a1 : Int) : Option (Int × Int) := (scaled_Clamp.f a0).bind fun t137 => ((scaled_Clamp.f a1).bind fun t138 => (if t138 = 0 then (some (0, 1)) else (if t138 < 0 then ((scaled_Gcd.f k (wrap64 (-t137)) (wrap64 (-t138))).bind fun t139 => (if t139 = 0 then (none) else (some (wrap64 (Int.tdiv (wrap64 (-t137)) t139), wrap64 (Int.tdiv (wrap64 (-t138)) t139))))) else ((scaled_Gcd.f k t137 t138).bind fun t140 => (if t140 = 0 then (none) else (some (wrap64 (Int.tdiv t137 t140), wrap64 (Int.tdiv t138 t140))))))))
theorem scaled_Lowest.mono : ∀ a0 a1 k, LeO (scaled_Lowest.f k a0 a1) (scaled_Lowest.f (k + 1) a0 a1) := by
 intro a0 a1 k
 unfold scaled_Lowest.f
 repeat' first
     | (with_reducible exact scaled_Gcd.mono _ _ _)
     | (with_reducible exact LeO.refl _)
     | (with_reducible exact LeO.none _)
     | (with_reducible refine LeO.ite ?_ ?_)
     | (with_reducible refine LeO.bind ?_ (fun _ => ?_))
     | exact scaled_Gcd.mono _ _ _
     | exact LeO.none _
     | refine LeO.ite ?_ ?_
     | refine LeO.bind ?_ (fun _ => ?_)
set_option maxHeartbeats 8000000 in
set_option maxRecDepth 100000 in
theorem scaled_Lowest.calls (k : Nat) (a0 : Int) (a1 : Int) (r1 : Int) (r2 : Int) (w : World) (h : scaled_Lowest.f k a0 a1 = some (r1, r2)) :
   Calls Try.prog 49 #[.int .i64 a0, .int .i64 a1] w fun e w' => e = .returned (.tuple #[.int .i64 r1, .int .i64 r2]) ∧ Below w.heap.size w w' := by
 have HB := Aside0.mk (Below.refl w.heap.size w)
 have H : ((scaled_Clamp.f a0).bind fun t137 => ((scaled_Clamp.f a1).bind fun t138 => (if t138 = 0 then (some (0, 1)) else (if t138 < 0 then ((scaled_Gcd.f k (wrap64 (-t137)) (wrap64 (-t138))).bind fun t139 => (if t139 = 0 then (none) else (some (wrap64 (Int.tdiv (wrap64 (-t137)) t139), wrap64 (Int.tdiv (wrap64 (-t138)) t139))))) else ((scaled_Gcd.f k t137 t138).bind fun t140 => (if t140 = 0 then (none) else (some (wrap64 (Int.tdiv t137 t140), wrap64 (Int.tdiv t138 t140))))))))) = some (r1, r2) := h
 clear h
 replace H := Option.bind_eq_some_iff.mp H
 obtain ⟨t137, A30, H⟩ := H
 replace H : ((scaled_Clamp.f a1).bind fun t138 => (if t138 = 0 then (some (0, 1)) else (if t138 < 0 then ((scaled_Gcd.f k (wrap64 (-t137)) (wrap64 (-t138))).bind fun t139 => (if t139 = 0 then (none) else (some (wrap64 (Int.tdiv (wrap64 (-t137)) t139), wrap64 (Int.tdiv (wrap64 (-t138)) t139))))) else ((scaled_Gcd.f k t137 t138).bind fun t140 => (if t140 = 0 then (none) else (some (wrap64 (Int.tdiv t137 t140), wrap64 (Int.tdiv t138 t140)))))))) = some (r1, r2) := H
 have A3 := Aside0.mk A30
 clear A30
 replace H := Option.bind_eq_some_iff.mp H
 obtain ⟨t138, A40, H⟩ := H
 replace H : (if t138 = 0 then (some (0, 1)) else (if t138 < 0 then ((scaled_Gcd.f k (wrap64 (-t137)) (wrap64 (-t138))).bind fun t139 => (if t139 = 0 then (none) else (some (wrap64 (Int.tdiv (wrap64 (-t137)) t139), wrap64 (Int.tdiv (wrap64 (-t138)) t139))))) else ((scaled_Gcd.f k t137 t138).bind fun t140 => (if t140 = 0 then (none) else (some (wrap64 (Int.tdiv t137 t140), wrap64 (Int.tdiv t138 t140))))))) = some (r1, r2) := H
 have A4 := Aside0.mk A40
 clear A40
 by_cases c5 : t138 = 0
 · rw [if_pos c5] at H
   have c5b0 : (t138 == 0) = true := beq_iff_eq.mpr c5
   have c5b1 : (t138 != 0) = false := bne_eq_false_iff_eq.mpr c5
   clear c5; simp only [Option.some.injEq, Prod.mk.injEq] at H
   obtain ⟨rfl, rfl⟩ := H; go_enter Try.func49, Try.ntmps49
   go_wp2_with (first | (go_at_call 50; (with_reducible refine (scaled_Clamp.calls a0 t137 _ A3.out).mono ?_); rintro e w6 ⟨rfl, hb⟩; have n0_ := Aside0.mk (below_step (by repeat (first | (with_reducible first | exact HB.out | apply bA | apply bN | apply bD) | exact HB.out)) hb); clear HB; have HB := n0_; clear n0_; (try clear hb); (try clear hb2); (try clear hk); (try clear hi)) | (go_at_call 50; (with_reducible refine (scaled_Clamp.calls a1 t138 _ A4.out).mono ?_); rintro e w7 ⟨rfl, hb⟩; have n0_ := Aside0.mk (below_step (by repeat (first | (with_reducible first | exact HB.out | apply bA | apply bN | apply bD) | exact HB.out)) hb); clear HB; have HB := n0_; clear n0_; (try clear hb); (try clear hb2); (try clear hk); (try clear hi)))
   repeat (go_quiet (first | (go_at_call 50; (with_reducible refine (scaled_Clamp.calls a0 t137 _ A3.out).mono ?_); rintro e w6 ⟨rfl, hb⟩; have n0_ := Aside0.mk (below_step (by repeat (first | (with_reducible first | exact HB.out | apply bA | apply bN | apply bD) | exact HB.out)) hb); clear HB; have HB := n0_; clear n0_; (try clear hb); (try clear hb2); (try clear hk); (try clear hi)) | (go_at_call 50; (with_reducible refine (scaled_Clamp.calls a1 t138 _ A4.out).mono ?_); rintro e w7 ⟨rfl, hb⟩; have n0_ := Aside0.mk (below_step (by repeat (first | (with_reducible first | exact HB.out | apply bA | apply bN | apply bD) | exact HB.out)) hb); clear HB; have HB := n0_; clear n0_; (try clear hb); (try clear hb2); (try clear hk); (try clear hi))); try go_wp2_with (first | (go_at_call 50; (with_reducible refine (scaled_Clamp.calls a0 t137 _ A3.out).mono ?_); rintro e w6 ⟨rfl, hb⟩; have n0_ := Aside0.mk (below_step (by repeat (first | (with_reducible first | exact HB.out | apply bA | apply bN | apply bD) | exact HB.out)) hb); clear HB; have HB := n0_; clear n0_; (try clear hb); (try clear hb2); (try clear hk); (try clear hi)) | (go_at_call 50; (with_reducible refine (scaled_Clamp.calls a1 t138 _ A4.out).mono ?_); rintro e w7 ⟨rfl, hb⟩; have n0_ := Aside0.mk (below_step (by repeat (first | (with_reducible first | exact HB.out | apply bA | apply bN | apply bD) | exact HB.out)) hb); clear HB; have HB := n0_; clear n0_; (try clear hb); (try clear hb2); (try clear hk); (try clear hi))))
   go_ret2
   exact ⟨by first | rfl | (simp [errW_none, errW_some] <;> rfl) | (simp [*, errW_none, errW_some] <;> rfl), by repeat (first | (with_reducible first | exact HB.out | apply bA | apply bN | apply bD) | exact HB.out)⟩
 rw [if_neg c5] at H
 have c5b0 : (t138 == 0) = false := beq_eq_false_iff_ne.mpr c5
 have c5b1 : (t138 != 0) = true := bne_iff_ne.mpr c5
 by_cases c8 : t138 < 0
 case neg =>
   rw [if_neg c8] at H
   have c8b0 : decide (t138 < 0) = false := decide_eq_false c8
   clear c8; replace H := Option.bind_eq_some_iff.mp H; obtain ⟨t140, A140, H⟩ := H; replace H : (if t140 = 0 then (none) else (some (wrap64 (Int.tdiv t137 t140), wrap64 (Int.tdiv t138 t140)))) = some (r1, r2) := H
   have A14 := Aside0.mk A140; clear A140; by_cases c15 : t140 = 0
   · rw [if_pos c15] at H
     exact absurd H (by simp)
   rw [if_neg c15] at H
   have c15b0 : (t140 == 0) = false := beq_eq_false_iff_ne.mpr c15
   have c15b1 : (t140 != 0) = true := bne_iff_ne.mpr c15
   simp only [Option.some.injEq, Prod.mk.injEq] at H
   obtain ⟨rfl, rfl⟩ := H; go_enter Try.func49, Try.ntmps49
   go_wp2_with (first | (go_at_call 50; (with_reducible refine (scaled_Clamp.calls a0 t137 _ A3.out).mono ?_); rintro e w16 ⟨rfl, hb⟩; have n0_ := Aside0.mk (below_step (by repeat (first | (with_reducible first | exact HB.out | apply bA | apply bN | apply bD) | exact HB.out)) hb); clear HB; have HB := n0_; clear n0_; (try clear hb); (try clear hb2); (try clear hk); (try clear hi)) | (go_at_call 50; (with_reducible refine (scaled_Clamp.calls a1 t138 _ A4.out).mono ?_); rintro e w17 ⟨rfl, hb⟩; have n0_ := Aside0.mk (below_step (by repeat (first | (with_reducible first | exact HB.out | apply bA | apply bN | apply bD) | exact HB.out)) hb); clear HB; have HB := n0_; clear n0_; (try clear hb); (try clear hb2); (try clear hk); (try clear hi)) | (go_at_call 62; (with_reducible refine (scaled_Gcd.calls k t137 t138 t140 _ A14.out).mono ?_); rintro e w18 ⟨rfl, hb⟩; have n0_ := Aside0.mk (below_step (by repeat (first | (with_reducible first | exact HB.out | apply bA | apply bN | apply bD) | exact HB.out)) hb); clear HB; have HB := n0_; clear n0_; (try clear hb); (try clear hb2); (try clear hk); (try clear hi)))
   repeat (go_quiet (first | (go_at_call 50; (with_reducible refine (scaled_Clamp.calls a0 t137 _ A3.out).mono ?_); rintro e w16 ⟨rfl, hb⟩; have n0_ := Aside0.mk (below_step (by repeat (first | (with_reducible first | exact HB.out | apply bA | apply bN | apply bD) | exact HB.out)) hb); clear HB; have HB := n0_; clear n0_; (try clear hb); (try clear hb2); (try clear hk); (try clear hi)) | (go_at_call 50; (with_reducible refine (scaled_Clamp.calls a1 t138 _ A4.out).mono ?_); rintro e w17 ⟨rfl, hb⟩; have n0_ := Aside0.mk (below_step (by repeat (first | (with_reducible first | exact HB.out | apply bA | apply bN | apply bD) | exact HB.out)) hb); clear HB; have HB := n0_; clear n0_; (try clear hb); (try clear hb2); (try clear hk); (try clear hi)) | (go_at_call 62; (with_reducible refine (scaled_Gcd.calls k t137 t138 t140 _ A14.out).mono ?_); rintro e w18 ⟨rfl, hb⟩; have n0_ := Aside0.mk (below_step (by repeat (first | (with_reducible first | exact HB.out | apply bA | apply bN | apply bD) | exact HB.out)) hb); clear HB; have HB := n0_; clear n0_; (try clear hb); (try clear hb2); (try clear hk); (try clear hi))); try go_wp2_with (first | (go_at_call 50; (with_reducible refine (scaled_Clamp.calls a0 t137 _ A3.out).mono ?_); rintro e w16 ⟨rfl, hb⟩; have n0_ := Aside0.mk (below_step (by repeat (first | (with_reducible first | exact HB.out | apply bA | apply bN | apply bD) | exact HB.out)) hb); clear HB; have HB := n0_; clear n0_; (try clear hb); (try clear hb2); (try clear hk); (try clear hi)) | (go_at_call 50; (with_reducible refine (scaled_Clamp.calls a1 t138 _ A4.out).mono ?_); rintro e w17 ⟨rfl, hb⟩; have n0_ := Aside0.mk (below_step (by repeat (first | (with_reducible first | exact HB.out | apply bA | apply bN | apply bD) | exact HB.out)) hb); clear HB; have HB := n0_; clear n0_; (try clear hb); (try clear hb2); (try clear hk); (try clear hi)) | (go_at_call 62; (with_reducible refine (scaled_Gcd.calls k t137 t138 t140 _ A14.out).mono ?_); rintro e w18 ⟨rfl, hb⟩; have n0_ := Aside0.mk (below_step (by repeat (first | (with_reducible first | exact HB.out | apply bA | apply bN | apply bD) | exact HB.out)) hb); clear HB; have HB := n0_; clear n0_; (try clear hb); (try clear hb2); (try clear hk); (try clear hi))))
   go_ret2
   exact ⟨by first | rfl | (simp [errW_none, errW_some] <;> rfl) | (simp [*, errW_none, errW_some] <;> rfl), by repeat (first | (with_reducible first | exact HB.out | apply bA | apply bN | apply bD) | exact HB.out)⟩
 rw [if_pos c8] at H
 have c8b0 : decide (t138 < 0) = true := decide_eq_true c8
 clear c8
 replace H := Option.bind_eq_some_iff.mp H
 obtain ⟨t139, A90, H⟩ := H
 replace H : (if t139 = 0 then (none) else (some (wrap64 (Int.tdiv (wrap64 (-t137)) t139), wrap64 (Int.tdiv (wrap64 (-t138)) t139)))) = some (r1, r2) := H
 have A9 := Aside0.mk A90
 clear A90
 by_cases c10 : t139 = 0
 · rw [if_pos c10] at H
   exact absurd H (by simp)
 rw [if_neg c10] at H
 have c10b0 : (t139 == 0) = false := beq_eq_false_iff_ne.mpr c10
 have c10b1 : (t139 != 0) = true := bne_iff_ne.mpr c10
 simp only [Option.some.injEq, Prod.mk.injEq] at H
 obtain ⟨rfl, rfl⟩ := H
 go_enter Try.func49, Try.ntmps49
 go_wp2_with (first | (go_at_call 50; (with_reducible refine (scaled_Clamp.calls a0 t137 _ A3.out).mono ?_); rintro e w11 ⟨rfl, hb⟩; have n0_ := Aside0.mk (below_step (by repeat (first | (with_reducible first | exact HB.out | apply bA | apply bN | apply bD) | exact HB.out)) hb); clear HB; have HB := n0_; clear n0_; (try clear hb); (try clear hb2); (try clear hk); (try clear hi)) | (go_at_call 50; (with_reducible refine (scaled_Clamp.calls a1 t138 _ A4.out).mono ?_); rintro e w12 ⟨rfl, hb⟩; have n0_ := Aside0.mk (below_step (by repeat (first | (with_reducible first | exact HB.out | apply bA | apply bN | apply bD) | exact HB.out)) hb); clear HB; have HB := n0_; clear n0_; (try clear hb); (try clear hb2); (try clear hk); (try clear hi)) | (go_at_call 62; (with_reducible refine (scaled_Gcd.calls k (wrap64 (-t137)) (wrap64 (-t138)) t139 _ A9.out).mono ?_); rintro e w13 ⟨rfl, hb⟩; have n0_ := Aside0.mk (below_step (by repeat (first | (with_reducible first | exact HB.out | apply bA | apply bN | apply bD) | exact HB.out)) hb); clear HB; have HB := n0_; clear n0_; (try clear hb); (try clear hb2); (try clear hk); (try clear hi)))
 repeat (go_quiet (first | (go_at_call 50; (with_reducible refine (scaled_Clamp.calls a0 t137 _ A3.out).mono ?_); rintro e w11 ⟨rfl, hb⟩; have n0_ := Aside0.mk (below_step (by repeat (first | (with_reducible first | exact HB.out | apply bA | apply bN | apply bD) | exact HB.out)) hb); clear HB; have HB := n0_; clear n0_; (try clear hb); (try clear hb2); (try clear hk); (try clear hi)) | (go_at_call 50; (with_reducible refine (scaled_Clamp.calls a1 t138 _ A4.out).mono ?_); rintro e w12 ⟨rfl, hb⟩; have n0_ := Aside0.mk (below_step (by repeat (first | (with_reducible first | exact HB.out | apply bA | apply bN | apply bD) | exact HB.out)) hb); clear HB; have HB := n0_; clear n0_; (try clear hb); (try clear hb2); (try clear hk); (try clear hi)) | (go_at_call 62; (with_reducible refine (scaled_Gcd.calls k (wrap64 (-t137)) (wrap64 (-t138)) t139 _ A9.out).mono ?_); rintro e w13 ⟨rfl, hb⟩; have n0_ := Aside0.mk (below_step (by repeat (first | (with_reducible first | exact HB.out | apply bA | apply bN | apply bD) | exact HB.out)) hb); clear HB; have HB := n0_; clear n0_; (try clear hb); (try clear hb2); (try clear hk); (try clear hi))); try go_wp2_with (first | (go_at_call 50; (with_reducible refine (scaled_Clamp.calls a0 t137 _ A3.out).mono ?_); rintro e w11 ⟨rfl, hb⟩; have n0_ := Aside0.mk (below_step (by repeat (first | (with_reducible first | exact HB.out | apply bA | apply bN | apply bD) | exact HB.out)) hb); clear HB; have HB := n0_; clear n0_; (try clear hb); (try clear hb2); (try clear hk); (try clear hi)) | (go_at_call 50; (with_reducible refine (scaled_Clamp.calls a1 t138 _ A4.out).mono ?_); rintro e w12 ⟨rfl, hb⟩; have n0_ := Aside0.mk (below_step (by repeat (first | (with_reducible first | exact HB.out | apply bA | apply bN | apply bD) | exact HB.out)) hb); clear HB; have HB := n0_; clear n0_; (try clear hb); (try clear hb2); (try clear hk); (try clear hi)) | (go_at_call 62; (with_reducible refine (scaled_Gcd.calls k (wrap64 (-t137)) (wrap64 (-t138)) t139 _ A9.out).mono ?_); rintro e w13 ⟨rfl, hb⟩; have n0_ := Aside0.mk (below_step (by repeat (first | (with_reducible first | exact HB.out | apply bA | apply bN | apply bD) | exact HB.out)) hb); clear HB; have HB := n0_; clear n0_; (try clear hb); (try clear hb2); (try clear hk); (try clear hi))))
 go_ret2
 exact ⟨by first | rfl | (simp [errW_none, errW_some] <;> rfl) | (simp [*, errW_none, errW_some] <;> rfl), by repeat (first | (with_reducible first | exact HB.out | apply bA | apply bN | apply bD) | exact HB.out)⟩

end Go.Proofs.Ytdkmmddakidieaa.P
