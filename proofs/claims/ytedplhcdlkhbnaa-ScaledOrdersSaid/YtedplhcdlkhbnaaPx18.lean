-- PRINTED by print.py (a twelfth state) out of the translation. Not trusted: Lean checks it.
import Derived.Test.YtedplhcdlkhbnaaPx0
import Derived.Test.YtedplhcdlkhbnaaPx1
import Derived.Test.YtedplhcdlkhbnaaPx2
import Derived.Test.YtedplhcdlkhbnaaPx3
import Derived.Test.YtedplhcdlkhbnaaPx4
import Derived.Test.YtedplhcdlkhbnaaPx12
namespace Go.Proofs.Ytedplhcdlkhbnaa.P
open Go.RowKit Go.Proofs.YtedplhcdlkhbnaaW.PrintWords Go.Proofs.YtedplhcdlkhbnaaW.PrintLast Go.Proofs.YtedplhcdlkhbnaaW.PrintMore
attribute [local go_sem] max2_int min2_int max_two min_two max_three min_three max_four min_four   -- for this text's walks alone
set_option linter.unusedVariables false
set_option linter.unusedSimpArgs false

/-! ### scaled_Less: function 35 -/
mutual
def scaled_Less.j0 : Nat → Int → Int → Bool → Int → Int → Int → Int → Int → Int → Int → Int → Option (Bool)
 | 0, _, _, _, _, _, _, _, _, _, _, _ => none
 | k + 1, x0, x2, x21, x394000, x394001, x394002, x394003, x401000, x401001, x401002, x401003 => if x21 = true then (some true) else (if x0 ≥ 0 then (scaled_Less.j1 k x0 (decide (x2 < 0)) x394000 x394001 x394002 x394003 x401000 x401001 x401002 x401003) else (scaled_Less.j1 k x0 false x394000 x394001 x394002 x394003 x401000 x401001 x401002 x401003))
def scaled_Less.j1 : Nat → Int → Bool → Int → Int → Int → Int → Int → Int → Int → Int → Option (Bool)
 | 0, _, _, _, _, _, _, _, _, _, _ => none
 | k + 1, x0, x28, x394000, x394001, x394002, x394003, x401000, x401001, x401002, x401003 => if x28 = true then (some false) else (if x0 < 0 then ((scaled_smaller.f x401000 x401001 x401002 x401003 x394000 x394001 x394002 x394003).bind fun t401 => (some t401)) else ((scaled_smaller.f x394000 x394001 x394002 x394003 x401000 x401001 x401002 x401003).bind fun t402 => (some t402)))
end
def scaled_Less.f (k : Nat) (a0 : Int) (a1 : Int) (a2 : Int) (a3 : Int) : Option (Bool) := (scaled_size.f a0).bind fun t387 => ((scaled_size.f a3).bind fun t388 => ((scaled_product.f t387 t388).bind fun bt389 => ((scaled_size.f a2).bind fun t394 => ((scaled_size.f a1).bind fun t395 => ((scaled_product.f t394 t395).bind fun bt396 => (if a0 < 0 then (scaled_Less.j0 k a0 a2 (decide (a2 ≥ 0)) bt389.1 bt389.2.1 bt389.2.2.1 bt389.2.2.2 bt396.1 bt396.2.1 bt396.2.2.1 bt396.2.2.2) else (scaled_Less.j0 k a0 a2 false bt389.1 bt389.2.1 bt389.2.2.1 bt389.2.2.2 bt396.1 bt396.2.1 bt396.2.2.1 bt396.2.2.2)))))))
theorem scaled_Less.mono_l : ∀ k, (∀ y0 y1 y2 y3 y4 y5 y6 y7 y8 y9 y10, LeO (scaled_Less.j0 k y0 y1 y2 y3 y4 y5 y6 y7 y8 y9 y10) (scaled_Less.j0 (k + 1) y0 y1 y2 y3 y4 y5 y6 y7 y8 y9 y10)) ∧ (∀ y0 y1 y2 y3 y4 y5 y6 y7 y8 y9, LeO (scaled_Less.j1 k y0 y1 y2 y3 y4 y5 y6 y7 y8 y9) (scaled_Less.j1 (k + 1) y0 y1 y2 y3 y4 y5 y6 y7 y8 y9))
 | 0 => ⟨fun _ _ _ _ _ _ _ _ _ _ _ r h => by simp [scaled_Less.j0] at h, fun _ _ _ _ _ _ _ _ _ _ r h => by simp [scaled_Less.j1] at h⟩
 | k + 1 => by
  obtain ⟨ih0, ih1⟩ := scaled_Less.mono_l k
  refine ⟨?_, ?_⟩
  · intro y0 y1 y2 y3 y4 y5 y6 y7 y8 y9 y10
    unfold scaled_Less.j0
    repeat' first
    | (with_reducible exact ih0 _ _ _ _ _ _ _ _ _ _ _)
    | (with_reducible exact ih1 _ _ _ _ _ _ _ _ _ _)
    | (with_reducible exact LeO.refl _)
    | (with_reducible exact LeO.none _)
    | (with_reducible refine LeO.ite ?_ ?_)
    | (with_reducible refine LeO.bind ?_ (fun _ => ?_))
    | exact ih0 _ _ _ _ _ _ _ _ _ _ _
    | exact ih1 _ _ _ _ _ _ _ _ _ _
    | exact LeO.none _
    | refine LeO.ite ?_ ?_
    | refine LeO.bind ?_ (fun _ => ?_)
  · intro y0 y1 y2 y3 y4 y5 y6 y7 y8 y9
    unfold scaled_Less.j1
    repeat' first
    | (with_reducible exact ih0 _ _ _ _ _ _ _ _ _ _ _)
    | (with_reducible exact ih1 _ _ _ _ _ _ _ _ _ _)
    | (with_reducible exact LeO.refl _)
    | (with_reducible exact LeO.none _)
    | (with_reducible refine LeO.ite ?_ ?_)
    | (with_reducible refine LeO.bind ?_ (fun _ => ?_))
    | exact ih0 _ _ _ _ _ _ _ _ _ _ _
    | exact ih1 _ _ _ _ _ _ _ _ _ _
    | exact LeO.none _
    | refine LeO.ite ?_ ?_
    | refine LeO.bind ?_ (fun _ => ?_)
theorem scaled_Less.mono : ∀ a0 a1 a2 a3 k, LeO (scaled_Less.f k a0 a1 a2 a3) (scaled_Less.f (k + 1) a0 a1 a2 a3) := by
 intro a0 a1 a2 a3 k
 obtain ⟨ih0, ih1⟩ := scaled_Less.mono_l k
 unfold scaled_Less.f
 repeat' first
    | (with_reducible exact ih0 _ _ _ _ _ _ _ _ _ _ _)
    | (with_reducible exact ih1 _ _ _ _ _ _ _ _ _ _)
    | (with_reducible exact LeO.refl _)
    | (with_reducible exact LeO.none _)
    | (with_reducible refine LeO.ite ?_ ?_)
    | (with_reducible refine LeO.bind ?_ (fun _ => ?_))
    | exact ih0 _ _ _ _ _ _ _ _ _ _ _
    | exact ih1 _ _ _ _ _ _ _ _ _ _
    | exact LeO.none _
    | refine LeO.ite ?_ ?_
    | refine LeO.bind ?_ (fun _ => ?_)
theorem scaled_Less.j0.ev {x0 : Int} {x2 : Int} {x21 : Bool} {x394000 : Int} {x394001 : Int} {x394002 : Int} {x394003 : Int} {x401000 : Int} {x401001 : Int} {x401002 : Int} {x401003 : Int} {r_ : Bool} (h : Ev (fun k => if x21 = true then (some true) else (if x0 ≥ 0 then (scaled_Less.j1 k x0 (decide (x2 < 0)) x394000 x394001 x394002 x394003 x401000 x401001 x401002 x401003) else (scaled_Less.j1 k x0 false x394000 x394001 x394002 x394003 x401000 x401001 x401002 x401003))) r_) : Ev (fun k => scaled_Less.j0 k x0 x2 x21 x394000 x394001 x394002 x394003 x401000 x401001 x401002 x401003) r_ := Ev.step (fun k => by rw [scaled_Less.j0]) h
theorem scaled_Less.j1.ev {x0 : Int} {x28 : Bool} {x394000 : Int} {x394001 : Int} {x394002 : Int} {x394003 : Int} {x401000 : Int} {x401001 : Int} {x401002 : Int} {x401003 : Int} {r_ : Bool} (h : Ev (fun k => if x28 = true then (some false) else (if x0 < 0 then ((scaled_smaller.f x401000 x401001 x401002 x401003 x394000 x394001 x394002 x394003).bind fun t401 => (some t401)) else ((scaled_smaller.f x394000 x394001 x394002 x394003 x401000 x401001 x401002 x401003).bind fun t402 => (some t402)))) r_) : Ev (fun k => scaled_Less.j1 k x0 x28 x394000 x394001 x394002 x394003 x401000 x401001 x401002 x401003) r_ := Ev.step (fun k => by rw [scaled_Less.j1]) h
set_option maxHeartbeats 8000000 in
set_option maxRecDepth 100000 in
theorem scaled_Less.calls (k : Nat) (a0 : Int) (a1 : Int) (a2 : Int) (a3 : Int) (r : Bool) (w : World) (h : scaled_Less.f k a0 a1 a2 a3 = some r) :
  Calls Try.prog 35 #[.int .i64 a0, .int .i64 a1, .int .i64 a2, .int .i64 a3] w fun e w' => e = .returned (.bool r) ∧ Below w.heap.size w w' := by
 have hu41 := Try.underlying41
 have HB := Aside0.mk (Below.refl w.heap.size w)
 have H : ((scaled_size.f a0).bind fun t387 => ((scaled_size.f a3).bind fun t388 => ((scaled_product.f t387 t388).bind fun bt389 => ((scaled_size.f a2).bind fun t394 => ((scaled_size.f a1).bind fun t395 => ((scaled_product.f t394 t395).bind fun bt396 => (if a0 < 0 then (scaled_Less.j0 k a0 a2 (decide (a2 ≥ 0)) bt389.1 bt389.2.1 bt389.2.2.1 bt389.2.2.2 bt396.1 bt396.2.1 bt396.2.2.1 bt396.2.2.2) else (scaled_Less.j0 k a0 a2 false bt389.1 bt389.2.1 bt389.2.2.1 bt389.2.2.2 bt396.1 bt396.2.1 bt396.2.2.1 bt396.2.2.2)))))))) = some r := h
 clear h
 replace H := Option.bind_eq_some_iff.mp H
 obtain ⟨t387, A50, H⟩ := H
 replace H : ((scaled_size.f a3).bind fun t388 => ((scaled_product.f t387 t388).bind fun bt389 => ((scaled_size.f a2).bind fun t394 => ((scaled_size.f a1).bind fun t395 => ((scaled_product.f t394 t395).bind fun bt396 => (if a0 < 0 then (scaled_Less.j0 k a0 a2 (decide (a2 ≥ 0)) bt389.1 bt389.2.1 bt389.2.2.1 bt389.2.2.2 bt396.1 bt396.2.1 bt396.2.2.1 bt396.2.2.2) else (scaled_Less.j0 k a0 a2 false bt389.1 bt389.2.1 bt389.2.2.1 bt389.2.2.2 bt396.1 bt396.2.1 bt396.2.2.1 bt396.2.2.2))))))) = some r := H
 have A5 := Aside0.mk A50
 clear A50
 replace H := Option.bind_eq_some_iff.mp H
 obtain ⟨t388, A60, H⟩ := H
 replace H : ((scaled_product.f t387 t388).bind fun bt389 => ((scaled_size.f a2).bind fun t394 => ((scaled_size.f a1).bind fun t395 => ((scaled_product.f t394 t395).bind fun bt396 => (if a0 < 0 then (scaled_Less.j0 k a0 a2 (decide (a2 ≥ 0)) bt389.1 bt389.2.1 bt389.2.2.1 bt389.2.2.2 bt396.1 bt396.2.1 bt396.2.2.1 bt396.2.2.2) else (scaled_Less.j0 k a0 a2 false bt389.1 bt389.2.1 bt389.2.2.1 bt389.2.2.2 bt396.1 bt396.2.1 bt396.2.2.1 bt396.2.2.2)))))) = some r := H
 have A6 := Aside0.mk A60
 clear A60
 replace H := Option.bind_eq_some_iff.mp H
 obtain ⟨⟨t389, t390, t391, t392⟩, A70, H⟩ := H
 replace H : ((scaled_size.f a2).bind fun t394 => ((scaled_size.f a1).bind fun t395 => ((scaled_product.f t394 t395).bind fun bt396 => (if a0 < 0 then (scaled_Less.j0 k a0 a2 (decide (a2 ≥ 0)) t389 t390 t391 t392 bt396.1 bt396.2.1 bt396.2.2.1 bt396.2.2.2) else (scaled_Less.j0 k a0 a2 false t389 t390 t391 t392 bt396.1 bt396.2.1 bt396.2.2.1 bt396.2.2.2))))) = some r := H
 have A7 := Aside0.mk A70
 clear A70
 replace H := Option.bind_eq_some_iff.mp H
 obtain ⟨t394, A80, H⟩ := H
 replace H : ((scaled_size.f a1).bind fun t395 => ((scaled_product.f t394 t395).bind fun bt396 => (if a0 < 0 then (scaled_Less.j0 k a0 a2 (decide (a2 ≥ 0)) t389 t390 t391 t392 bt396.1 bt396.2.1 bt396.2.2.1 bt396.2.2.2) else (scaled_Less.j0 k a0 a2 false t389 t390 t391 t392 bt396.1 bt396.2.1 bt396.2.2.1 bt396.2.2.2)))) = some r := H
 have A8 := Aside0.mk A80
 clear A80
 replace H := Option.bind_eq_some_iff.mp H
 obtain ⟨t395, A90, H⟩ := H
 replace H : ((scaled_product.f t394 t395).bind fun bt396 => (if a0 < 0 then (scaled_Less.j0 k a0 a2 (decide (a2 ≥ 0)) t389 t390 t391 t392 bt396.1 bt396.2.1 bt396.2.2.1 bt396.2.2.2) else (scaled_Less.j0 k a0 a2 false t389 t390 t391 t392 bt396.1 bt396.2.1 bt396.2.2.1 bt396.2.2.2))) = some r := H
 have A9 := Aside0.mk A90
 clear A90
 replace H := Option.bind_eq_some_iff.mp H
 obtain ⟨⟨t396, t397, t398, t399⟩, A100, H⟩ := H
 replace H : (if a0 < 0 then (scaled_Less.j0 k a0 a2 (decide (a2 ≥ 0)) t389 t390 t391 t392 t396 t397 t398 t399) else (scaled_Less.j0 k a0 a2 false t389 t390 t391 t392 t396 t397 t398 t399)) = some r := H
 have A10 := Aside0.mk A100
 clear A100
 have HC11 := Aside0.mk H
 clear H
 go_enter Try.func35, Try.ntmps35
 go_upto_region 3 with (first | ((with_reducible refine gate_callee (f := 48) rfl ?_); refine goesL_ (some 12) rfl rfl Try.func48 (by kernel_rfl) rfl #[.int .i64 a0] rfl (by (try simp only [List.map_toArray, List.map_cons, List.map_nil]); first | done | rfl | (simp only [List.length_drop, List.length_take]; rfl)) ?_; (with_reducible refine (scaled_size.calls a0 t387 _ A5.out).mono ?_); rintro e w12 ⟨rfl, hb⟩; refine ⟨_, rfl, ?_⟩; have n0_ := Aside0.mk (below_step (by repeat (first | (with_reducible first | exact HB.out | apply below_alloc | apply pw_below_drewN | apply below_drew1) | exact HB.out)) hb); clear HB; have HB := n0_; clear n0_; (try clear hb); (try clear hb2); (try clear hk); (try clear hi)) | ((with_reducible refine gate_callee (f := 48) rfl ?_); refine goesL_ (some 14) rfl rfl Try.func48 (by kernel_rfl) rfl #[.int .i64 a3] rfl (by (try simp only [List.map_toArray, List.map_cons, List.map_nil]); first | done | rfl | (simp only [List.length_drop, List.length_take]; rfl)) ?_; (with_reducible refine (scaled_size.calls a3 t388 _ A6.out).mono ?_); rintro e w13 ⟨rfl, hb⟩; refine ⟨_, rfl, ?_⟩; have n0_ := Aside0.mk (below_step (by repeat (first | (with_reducible first | exact HB.out | apply below_alloc | apply pw_below_drewN | apply below_drew1) | exact HB.out)) hb); clear HB; have HB := n0_; clear n0_; (try clear hb); (try clear hb2); (try clear hk); (try clear hi)) | ((with_reducible refine gate_callee (f := 40) rfl ?_); refine goesL_ (some 15) rfl rfl Try.func40 (by kernel_rfl) rfl #[.int .u64 t387, .int .u64 t388] rfl (by (try simp only [List.map_toArray, List.map_cons, List.map_nil]); first | done | rfl | (simp only [List.length_drop, List.length_take]; rfl)) ?_; (with_reducible refine (scaled_product.calls t387 t388 t389 t390 t391 t392 _ A7.out).mono ?_); rintro e w14 ⟨rfl, hb⟩; refine ⟨_, rfl, ?_⟩; have n0_ := Aside0.mk (below_step (by repeat (first | (with_reducible first | exact HB.out | apply below_alloc | apply pw_below_drewN | apply below_drew1) | exact HB.out)) hb); clear HB; have HB := n0_; clear n0_; (try clear hb); (try clear hb2); (try clear hk); (try clear hi)) | ((with_reducible refine gate_dst (N := 9) rfl ?_); refine box_event ?hg (N := 9) ?hd (cs := #[.int .u64 0, .int .u64 0, .int .u64 0, .int .u64 0]) (t := 41) ?hr ?_; (case hd => rfl); (case hg => rfl); (case hr => first | (go_simp; done) | (go_simp; rfl)); intro gb393 hg w15 hbox hb; have n0_ := Aside0.mk (below_step (by repeat (first | (with_reducible first | exact HB.out | apply below_alloc | apply pw_below_drewN | apply below_drew1) | exact HB.out)) hb); have n1_ := Aside0.mk (hbox); have n2_ := Aside0.mk ((by rw [hg]; exact (below_size (by repeat (first | (with_reducible first | exact HB.out | apply below_alloc | apply pw_below_drewN | apply below_drew1) | exact HB.out))) : w.heap.size ≤ gb393)); have n3_ := Aside0.mk ((by rw [hg]; exact (below_size (by repeat (first | (with_reducible first | exact HB.out | apply below_alloc | apply pw_below_drewN | apply below_drew1) | exact HB.out))) : w.heap.size ≤ gb393)); clear HB; have HB := n0_; have BK393 := n1_; have GW393 := n2_; have GE393 := n3_; clear n0_ n1_ n2_ n3_; clear hb hbox hg; have hcz16_0 : w15.cell? ⟨gb393, 0, none⟩ = some (.int .u64 0) := (blk_cell BK393.out 0).trans rfl; have hcz16_1 : w15.cell? ⟨gb393, 1, none⟩ = some (.int .u64 0) := (blk_cell BK393.out 1).trans rfl; have hcz16_2 : w15.cell? ⟨gb393, 2, none⟩ = some (.int .u64 0) := (blk_cell BK393.out 2).trans rfl; have hcz16_3 : w15.cell? ⟨gb393, 3, none⟩ = some (.int .u64 0) := (blk_cell BK393.out 3).trans rfl; have hfz16_0 := blk_frozen BK393.out 0; have hfz16_1 := blk_frozen BK393.out 1; have hfz16_2 := blk_frozen BK393.out 2; have hfz16_3 := blk_frozen BK393.out 3) | ((with_reducible refine gate_callee (f := 48) rfl ?_); refine goesL_ (some 17) rfl rfl Try.func48 (by kernel_rfl) rfl #[.int .i64 a2] rfl (by (try simp only [List.map_toArray, List.map_cons, List.map_nil]); first | done | rfl | (simp only [List.length_drop, List.length_take]; rfl)) ?_; (with_reducible refine (scaled_size.calls a2 t394 _ A8.out).mono ?_); rintro e w17 ⟨rfl, hb⟩; refine ⟨_, rfl, ?_⟩; have n0_ := Aside0.mk (blk_below (g := gb393) (o := .cells #[.int .u64 t389, .int .u64 t390, .int .u64 t391, .int .u64 t392] 41 (0, 0)) (by (with_reducible repeat (first | refine blk_drewN ?_ _ | refine blk_drew ?_ | refine blk_alloc ?_ _)); refine blk_put (cs := #[.int .u64 t389, .int .u64 t390, .int .u64 t391, .int .u64 0]) ?_ 3 _ rfl; (with_reducible repeat (first | refine blk_drewN ?_ _ | refine blk_drew ?_ | refine blk_alloc ?_ _)); refine blk_put (cs := #[.int .u64 t389, .int .u64 t390, .int .u64 0, .int .u64 0]) ?_ 2 _ rfl; (with_reducible repeat (first | refine blk_drewN ?_ _ | refine blk_drew ?_ | refine blk_alloc ?_ _)); refine blk_put (cs := #[.int .u64 t389, .int .u64 0, .int .u64 0, .int .u64 0]) ?_ 1 _ rfl; (with_reducible repeat (first | refine blk_drewN ?_ _ | refine blk_drew ?_ | refine blk_alloc ?_ _)); refine blk_put (cs := #[.int .u64 0, .int .u64 0, .int .u64 0, .int .u64 0]) ?_ 0 _ rfl; (with_reducible repeat (first | refine blk_drewN ?_ _ | refine blk_drew ?_ | refine blk_alloc ?_ _)); exact BK393.out) hb); have n1_ := Aside0.mk (below_step (by repeat (first | (with_reducible first | exact HB.out | apply below_alloc | apply pw_below_drewN | apply below_drew1 | refine below_set ?_ GE393.out) | exact HB.out)) hb); clear BK393; clear HB; have BK393 := n0_; have HB := n1_; clear n0_ n1_; (try clear hb); (try clear hb2); (try clear hk); (try clear hi)) | ((with_reducible refine gate_callee (f := 48) rfl ?_); refine goesL_ (some 19) rfl rfl Try.func48 (by kernel_rfl) rfl #[.int .i64 a1] rfl (by (try simp only [List.map_toArray, List.map_cons, List.map_nil]); first | done | rfl | (simp only [List.length_drop, List.length_take]; rfl)) ?_; (with_reducible refine (scaled_size.calls a1 t395 _ A9.out).mono ?_); rintro e w18 ⟨rfl, hb⟩; refine ⟨_, rfl, ?_⟩; have n0_ := Aside0.mk (blk_below (g := gb393) (o := .cells #[.int .u64 t389, .int .u64 t390, .int .u64 t391, .int .u64 t392] 41 (0, 0)) (by (with_reducible repeat (first | refine blk_drewN ?_ _ | refine blk_drew ?_ | refine blk_alloc ?_ _)); exact BK393.out) hb); have n1_ := Aside0.mk (below_step (by repeat (first | (with_reducible first | exact HB.out | apply below_alloc | apply pw_below_drewN | apply below_drew1 | refine below_set ?_ GE393.out) | exact HB.out)) hb); clear BK393; clear HB; have BK393 := n0_; have HB := n1_; clear n0_ n1_; (try clear hb); (try clear hb2); (try clear hk); (try clear hi)) | ((with_reducible refine gate_callee (f := 40) rfl ?_); refine goesL_ (some 20) rfl rfl Try.func40 (by kernel_rfl) rfl #[.int .u64 t394, .int .u64 t395] rfl (by (try simp only [List.map_toArray, List.map_cons, List.map_nil]); first | done | rfl | (simp only [List.length_drop, List.length_take]; rfl)) ?_; (with_reducible refine (scaled_product.calls t394 t395 t396 t397 t398 t399 _ A10.out).mono ?_); rintro e w19 ⟨rfl, hb⟩; refine ⟨_, rfl, ?_⟩; have n0_ := Aside0.mk (blk_below (g := gb393) (o := .cells #[.int .u64 t389, .int .u64 t390, .int .u64 t391, .int .u64 t392] 41 (0, 0)) (by (with_reducible repeat (first | refine blk_drewN ?_ _ | refine blk_drew ?_ | refine blk_alloc ?_ _)); exact BK393.out) hb); have n1_ := Aside0.mk (below_step (by repeat (first | (with_reducible first | exact HB.out | apply below_alloc | apply pw_below_drewN | apply below_drew1 | refine below_set ?_ GE393.out) | exact HB.out)) hb); clear BK393; clear HB; have BK393 := n0_; have HB := n1_; clear n0_ n1_; (try clear hb); (try clear hb2); (try clear hk); (try clear hi)) | ((with_reducible refine gate_dst (N := 10) rfl ?_); refine box_event ?hg (N := 10) ?hd (cs := #[.int .u64 0, .int .u64 0, .int .u64 0, .int .u64 0]) (t := 41) ?hr ?_; (case hd => rfl); (case hg => rfl); (case hr => first | (go_simp; done) | (go_simp; rfl)); intro gb400 hg w20 hbox hb; have n0_ := Aside0.mk (blk_below (g := gb393) (o := .cells #[.int .u64 t389, .int .u64 t390, .int .u64 t391, .int .u64 t392] 41 (0, 0)) (by (with_reducible repeat (first | refine blk_drewN ?_ _ | refine blk_drew ?_ | refine blk_alloc ?_ _)); exact BK393.out) hb); have n1_ := Aside0.mk (below_step (by repeat (first | (with_reducible first | exact HB.out | apply below_alloc | apply pw_below_drewN | apply below_drew1 | refine below_set ?_ GE393.out) | exact HB.out)) hb); have n2_ := Aside0.mk (hbox); have n3_ := Aside0.mk ((by rw [hg]; exact (below_size (by repeat (first | (with_reducible first | exact HB.out | apply below_alloc | apply pw_below_drewN | apply below_drew1 | refine below_set ?_ GE393.out) | exact HB.out))) : w.heap.size ≤ gb400)); have n4_ := Aside0.mk ((by rw [hg]; exact (below_size (by repeat (first | (with_reducible first | exact HB.out | apply below_alloc | apply pw_below_drewN | apply below_drew1 | refine below_set ?_ GE393.out) | exact HB.out))) : w.heap.size ≤ gb400)); have n5_ := Aside0.mk ((by rw [hg]; exact Nat.ne_of_lt (blk_lt (g := gb393) (o := .cells #[.int .u64 t389, .int .u64 t390, .int .u64 t391, .int .u64 t392] 41 (0, 0)) (by (with_reducible repeat (first | refine blk_drewN ?_ _ | refine blk_drew ?_ | refine blk_alloc ?_ _)); exact BK393.out)) : gb393 ≠ gb400)); have n6_ := Aside0.mk ((by rw [hg]; exact Nat.ne_of_gt (blk_lt (g := gb393) (o := .cells #[.int .u64 t389, .int .u64 t390, .int .u64 t391, .int .u64 t392] 41 (0, 0)) (by (with_reducible repeat (first | refine blk_drewN ?_ _ | refine blk_drew ?_ | refine blk_alloc ?_ _)); exact BK393.out)) : gb400 ≠ gb393)); clear BK393; clear HB; have BK393 := n0_; have HB := n1_; have BK400 := n2_; have GW400 := n3_; have GE400 := n4_; have NB393_400 := n5_; have NB400_393 := n6_; clear n0_ n1_ n2_ n3_ n4_ n5_ n6_; clear hb hbox hg; have hnb21 := NB400_393.out; have hnc21 := NB393_400.out; have hcz22_0 : w20.cell? ⟨gb400, 0, none⟩ = some (.int .u64 0) := (blk_cell BK400.out 0).trans rfl; have hcz22_1 : w20.cell? ⟨gb400, 1, none⟩ = some (.int .u64 0) := (blk_cell BK400.out 1).trans rfl; have hcz22_2 : w20.cell? ⟨gb400, 2, none⟩ = some (.int .u64 0) := (blk_cell BK400.out 2).trans rfl; have hcz22_3 : w20.cell? ⟨gb400, 3, none⟩ = some (.int .u64 0) := (blk_cell BK400.out 3).trans rfl; have hfz22_0 := blk_frozen BK400.out 0; have hfz22_1 := blk_frozen BK400.out 1; have hfz22_2 := blk_frozen BK400.out 2; have hfz22_3 := blk_frozen BK400.out 3))
 (try simp only [Act.put, List.setIfInBounds_toArray, List.set_cons_zero, List.set_cons_succ])
 go_cut [21] (fun v21 wc => ∃ (kq : Nat) (x21_10 : Bool), v21 = .bool x21_10 ∧ Aside0 (scaled_Less.j0 kq a0 a2 x21_10 t389 t390 t391 t392 t396 t397 t398 t399 = some r) ∧ Aside0 (kq ≤ k) ∧ Aside0 (wc.heap[gb393]? = some (.cells #[.int .u64 t389, .int .u64 t390, .int .u64 t391, .int .u64 t392] 41 (0, 0))) ∧ Aside0 (wc.heap[gb400]? = some (.cells #[.int .u64 t396, .int .u64 t397, .int .u64 t398, .int .u64 t399] 41 (0, 0))) ∧ Aside0 (Below w.heap.size w wc))
 case first =>
  have H := HC11.out
  clear HC11
  by_cases c23 : a0 < 0
  · rw [if_pos c23] at H
    have c23b0 : decide (a0 < 0) = true := decide_eq_true c23
    clear c23
    (first | rw [c23b0] | (simp only [i64_w, i32_w]; rw [c23b0]) | skip)
    have H' := Aside0.mk H
    clear H
    go_wp2
    go_meet
    case rel => exact ⟨_, (decide (a2 ≥ 0)), (by first | rfl | (simp; done) | (simp [*]; done)), H', ⟨by first | omega | exact Nat.le_refl _⟩, ⟨by (with_reducible repeat (first | refine blk_drewN ?_ _ | refine blk_drew ?_ | refine blk_alloc ?_ _)); refine blk_far ?_ NB393_400.out _; (with_reducible repeat (first | refine blk_drewN ?_ _ | refine blk_drew ?_ | refine blk_alloc ?_ _)); refine blk_far ?_ NB393_400.out _; (with_reducible repeat (first | refine blk_drewN ?_ _ | refine blk_drew ?_ | refine blk_alloc ?_ _)); refine blk_far ?_ NB393_400.out _; (with_reducible repeat (first | refine blk_drewN ?_ _ | refine blk_drew ?_ | refine blk_alloc ?_ _)); refine blk_far ?_ NB393_400.out _; (with_reducible repeat (first | refine blk_drewN ?_ _ | refine blk_drew ?_ | refine blk_alloc ?_ _)); exact BK393.out⟩, ⟨by (with_reducible repeat (first | refine blk_drewN ?_ _ | refine blk_drew ?_ | refine blk_alloc ?_ _)); refine blk_put (cs := #[.int .u64 t396, .int .u64 t397, .int .u64 t398, .int .u64 0]) ?_ 3 _ rfl; (with_reducible repeat (first | refine blk_drewN ?_ _ | refine blk_drew ?_ | refine blk_alloc ?_ _)); refine blk_put (cs := #[.int .u64 t396, .int .u64 t397, .int .u64 0, .int .u64 0]) ?_ 2 _ rfl; (with_reducible repeat (first | refine blk_drewN ?_ _ | refine blk_drew ?_ | refine blk_alloc ?_ _)); refine blk_put (cs := #[.int .u64 t396, .int .u64 0, .int .u64 0, .int .u64 0]) ?_ 1 _ rfl; (with_reducible repeat (first | refine blk_drewN ?_ _ | refine blk_drew ?_ | refine blk_alloc ?_ _)); refine blk_put (cs := #[.int .u64 0, .int .u64 0, .int .u64 0, .int .u64 0]) ?_ 0 _ rfl; (with_reducible repeat (first | refine blk_drewN ?_ _ | refine blk_drew ?_ | refine blk_alloc ?_ _)); exact BK400.out⟩, ⟨by repeat (first | (with_reducible first | exact HB.out | apply below_alloc | apply pw_below_drewN | apply below_drew1 | refine below_set ?_ GE393.out | refine below_set ?_ GE400.out) | exact HB.out)⟩⟩
  · rw [if_neg c23] at H
    have c23b0 : decide (a0 < 0) = false := decide_eq_false c23
    clear c23
    (first | rw [c23b0] | (simp only [i64_w, i32_w]; rw [c23b0]) | skip)
    have H' := Aside0.mk H
    clear H
    go_wp2
    go_meet
    case rel => exact ⟨_, (false), (by first | rfl | (simp; done) | (simp [*]; done)), H', ⟨by first | omega | exact Nat.le_refl _⟩, ⟨by (with_reducible repeat (first | refine blk_drewN ?_ _ | refine blk_drew ?_ | refine blk_alloc ?_ _)); refine blk_far ?_ NB393_400.out _; (with_reducible repeat (first | refine blk_drewN ?_ _ | refine blk_drew ?_ | refine blk_alloc ?_ _)); refine blk_far ?_ NB393_400.out _; (with_reducible repeat (first | refine blk_drewN ?_ _ | refine blk_drew ?_ | refine blk_alloc ?_ _)); refine blk_far ?_ NB393_400.out _; (with_reducible repeat (first | refine blk_drewN ?_ _ | refine blk_drew ?_ | refine blk_alloc ?_ _)); refine blk_far ?_ NB393_400.out _; (with_reducible repeat (first | refine blk_drewN ?_ _ | refine blk_drew ?_ | refine blk_alloc ?_ _)); exact BK393.out⟩, ⟨by (with_reducible repeat (first | refine blk_drewN ?_ _ | refine blk_drew ?_ | refine blk_alloc ?_ _)); refine blk_put (cs := #[.int .u64 t396, .int .u64 t397, .int .u64 t398, .int .u64 0]) ?_ 3 _ rfl; (with_reducible repeat (first | refine blk_drewN ?_ _ | refine blk_drew ?_ | refine blk_alloc ?_ _)); refine blk_put (cs := #[.int .u64 t396, .int .u64 t397, .int .u64 0, .int .u64 0]) ?_ 2 _ rfl; (with_reducible repeat (first | refine blk_drewN ?_ _ | refine blk_drew ?_ | refine blk_alloc ?_ _)); refine blk_put (cs := #[.int .u64 t396, .int .u64 0, .int .u64 0, .int .u64 0]) ?_ 1 _ rfl; (with_reducible repeat (first | refine blk_drewN ?_ _ | refine blk_drew ?_ | refine blk_alloc ?_ _)); refine blk_put (cs := #[.int .u64 0, .int .u64 0, .int .u64 0, .int .u64 0]) ?_ 0 _ rfl; (with_reducible repeat (first | refine blk_drewN ?_ _ | refine blk_drew ?_ | refine blk_alloc ?_ _)); exact BK400.out⟩, ⟨by repeat (first | (with_reducible first | exact HB.out | apply below_alloc | apply pw_below_drewN | apply below_drew1 | refine below_set ?_ GE393.out | refine below_set ?_ GE400.out) | exact HB.out)⟩⟩
 case rest =>
  clear HC11
  try clear c2
  try clear p2
  try clear c3
  try clear c4
  try clear c21
  try clear c23
  try clear c23b0
  try clear hcz16_0
  try clear hcz16_1
  try clear hcz16_2
  try clear hcz16_3
  try clear hcz22_0
  try clear hcz22_1
  try clear hcz22_2
  try clear hcz22_3
  try clear hfz16_0
  try clear hfz16_1
  try clear hfz16_2
  try clear hfz16_3
  try clear hfz22_0
  try clear hfz22_1
  try clear hfz22_2
  try clear hfz22_3
  obtain ⟨kq, x21_10, rfl, HA, HJ10, BK393, BK400, HB⟩ := hcut
  cases kq with
  | zero => exact absurd HA.out (by simp [scaled_Less.j0])
  | succ kj10 =>
    have H := HA.out
    clear HA
    simp only [scaled_Less.j0] at H
    by_cases c24 : x21_10 = true
    · subst c24
      have H1 : (some true) = some r := by rw [if_pos rfl] at H; exact H
      clear H
      have H := H1
      clear H1
      obtain rfl := Option.some.inj H
      go_wp2
      go_ret
      exact ⟨by first | rfl | (simp [errW_none, errW_some] <;> rfl) | (simp [*, errW_none, errW_some] <;> rfl), by repeat (first | (with_reducible first | exact HB.out | apply below_alloc | apply pw_below_drewN | apply below_drew1 | refine below_set ?_ GE393.out | refine below_set ?_ GE400.out) | exact HB.out)⟩
    · replace c24 := Bool.eq_false_iff.mpr c24
      subst c24
      have H1 : (if a0 ≥ 0 then (scaled_Less.j1 kj10 a0 (decide (a2 < 0)) t389 t390 t391 t392 t396 t397 t398 t399) else (scaled_Less.j1 kj10 a0 false t389 t390 t391 t392 t396 t397 t398 t399)) = some r := by rw [if_neg (show ¬ (false = true) by decide)] at H; exact H
      clear H
      have H := H1
      clear H1
      have HC25 := Aside0.mk H
      clear H
      go_upto_region 5 with (fail)
      go_cut [28] (fun v28 wc => ∃ (kq : Nat) (x28_24 : Bool), v28 = .bool x28_24 ∧ Aside0 (scaled_Less.j1 kq a0 x28_24 t389 t390 t391 t392 t396 t397 t398 t399 = some r) ∧ Aside0 (kq ≤ kj10) ∧ Aside0 (wc.heap[gb393]? = some (.cells #[.int .u64 t389, .int .u64 t390, .int .u64 t391, .int .u64 t392] 41 (0, 0))) ∧ Aside0 (wc.heap[gb400]? = some (.cells #[.int .u64 t396, .int .u64 t397, .int .u64 t398, .int .u64 t399] 41 (0, 0))) ∧ Aside0 (Below w.heap.size w wc))
      case first =>
        have H := HC25.out
        clear HC25
        by_cases c26 : a0 ≥ 0
        · rw [if_pos c26] at H
          have c26b0 : decide (0 ≤ a0) = true := decide_eq_true c26
          clear c26
          (first | rw [c26b0] | (simp only [i64_w, i32_w]; rw [c26b0]) | skip)
          have H' := Aside0.mk H
          clear H
          go_wp2
          go_meet
          case rel => exact ⟨_, (decide (a2 < 0)), (by first | rfl | (simp; done) | (simp [*]; done)), H', ⟨by have := HJ10.out; first | omega | exact Nat.le_refl _⟩, ⟨by (with_reducible repeat (first | refine blk_drewN ?_ _ | refine blk_drew ?_ | refine blk_alloc ?_ _)); exact BK393.out⟩, ⟨by (with_reducible repeat (first | refine blk_drewN ?_ _ | refine blk_drew ?_ | refine blk_alloc ?_ _)); exact BK400.out⟩, ⟨by repeat (first | (with_reducible first | exact HB.out | apply below_alloc | apply pw_below_drewN | apply below_drew1 | refine below_set ?_ GE393.out | refine below_set ?_ GE400.out) | exact HB.out)⟩⟩
        · rw [if_neg c26] at H
          have c26b0 : decide (0 ≤ a0) = false := decide_eq_false c26
          clear c26
          (first | rw [c26b0] | (simp only [i64_w, i32_w]; rw [c26b0]) | skip)
          have H' := Aside0.mk H
          clear H
          go_wp2
          go_meet
          case rel => exact ⟨_, (false), (by first | rfl | (simp; done) | (simp [*]; done)), H', ⟨by have := HJ10.out; first | omega | exact Nat.le_refl _⟩, ⟨by (with_reducible repeat (first | refine blk_drewN ?_ _ | refine blk_drew ?_ | refine blk_alloc ?_ _)); exact BK393.out⟩, ⟨by (with_reducible repeat (first | refine blk_drewN ?_ _ | refine blk_drew ?_ | refine blk_alloc ?_ _)); exact BK400.out⟩, ⟨by repeat (first | (with_reducible first | exact HB.out | apply below_alloc | apply pw_below_drewN | apply below_drew1 | refine below_set ?_ GE393.out | refine below_set ?_ GE400.out) | exact HB.out)⟩⟩
      case rest =>
        clear HC25
        try clear c2
        try clear p2
        try clear c3
        try clear c4
        try clear c21
        try clear c23
        try clear c23b0
        try clear c24
        try clear c26
        try clear c26b0
        try clear hcz16_0
        try clear hcz16_1
        try clear hcz16_2
        try clear hcz16_3
        try clear hcz22_0
        try clear hcz22_1
        try clear hcz22_2
        try clear hcz22_3
        try clear hfz16_0
        try clear hfz16_1
        try clear hfz16_2
        try clear hfz16_3
        try clear hfz22_0
        try clear hfz22_1
        try clear hfz22_2
        try clear hfz22_3
        try clear p2
        obtain ⟨kq, x28_24, rfl, HA, HJ24, BK393, BK400, HB⟩ := hcut
        cases kq with
        | zero => exact absurd HA.out (by simp [scaled_Less.j1])
        | succ kj24 =>
          have H := HA.out
          clear HA
          simp only [scaled_Less.j1] at H
          by_cases c27 : x28_24 = true
          · subst c27
            have H1 : (some false) = some r := by rw [if_pos rfl] at H; exact H
            clear H
            have H := H1
            clear H1
            obtain rfl := Option.some.inj H
            go_wp2
            go_ret
            exact ⟨by first | rfl | (simp [errW_none, errW_some] <;> rfl) | (simp [*, errW_none, errW_some] <;> rfl), by repeat (first | (with_reducible first | exact HB.out | apply below_alloc | apply pw_below_drewN | apply below_drew1 | refine below_set ?_ GE393.out | refine below_set ?_ GE400.out) | exact HB.out)⟩
          · replace c27 := Bool.eq_false_iff.mpr c27
            subst c27
            have H1 : (if a0 < 0 then ((scaled_smaller.f t396 t397 t398 t399 t389 t390 t391 t392).bind fun t401 => (some t401)) else ((scaled_smaller.f t389 t390 t391 t392 t396 t397 t398 t399).bind fun t402 => (some t402))) = some r := by rw [if_neg (show ¬ (false = true) by decide)] at H; exact H
            clear H
            have H := H1
            clear H1
            by_cases c28 : a0 < 0
            · rw [if_pos c28] at H
              have c28b0 : decide (a0 < 0) = true := decide_eq_true c28
              clear c28
              replace H := Option.bind_eq_some_iff.mp H
              obtain ⟨t401, A290, H⟩ := H
              replace H : (some t401) = some r := H
              have A29 := Aside0.mk A290
              clear A290
              obtain rfl := Option.some.inj H
              have hnb30 := NB400_393.out
              have hnc30 := NB393_400.out
              have hcz31_0 : wc.cell? ⟨gb400, 0, none⟩ = some (.int .u64 t396) := (blk_cell BK400.out 0).trans rfl
              have hcz31_1 : wc.cell? ⟨gb400, 1, none⟩ = some (.int .u64 t397) := (blk_cell BK400.out 1).trans rfl
              have hcz31_2 : wc.cell? ⟨gb400, 2, none⟩ = some (.int .u64 t398) := (blk_cell BK400.out 2).trans rfl
              have hcz31_3 : wc.cell? ⟨gb400, 3, none⟩ = some (.int .u64 t399) := (blk_cell BK400.out 3).trans rfl
              have hfz31_0 := blk_frozen BK400.out 0
              have hfz31_1 := blk_frozen BK400.out 1
              have hfz31_2 := blk_frozen BK400.out 2
              have hfz31_3 := blk_frozen BK400.out 3
              have hcz32_0 : wc.cell? ⟨gb393, 0, none⟩ = some (.int .u64 t389) := (blk_cell BK393.out 0).trans rfl
              have hcz32_1 : wc.cell? ⟨gb393, 1, none⟩ = some (.int .u64 t390) := (blk_cell BK393.out 1).trans rfl
              have hcz32_2 : wc.cell? ⟨gb393, 2, none⟩ = some (.int .u64 t391) := (blk_cell BK393.out 2).trans rfl
              have hcz32_3 : wc.cell? ⟨gb393, 3, none⟩ = some (.int .u64 t392) := (blk_cell BK393.out 3).trans rfl
              have hfz32_0 := blk_frozen BK393.out 0
              have hfz32_1 := blk_frozen BK393.out 1
              have hfz32_2 := blk_frozen BK393.out 2
              have hfz32_3 := blk_frozen BK393.out 3
              go_wp2_with (first | ((with_reducible refine gate_callee (f := 42) rfl ?_); refine goesL_ (some 40) rfl rfl Try.func42 (by kernel_rfl) rfl #[.agg #[.int .u64 t396, .int .u64 t397, .int .u64 t398, .int .u64 t399], .agg #[.int .u64 t389, .int .u64 t390, .int .u64 t391, .int .u64 t392]] rfl (by (try simp only [List.map_toArray, List.map_cons, List.map_nil]); first | done | rfl | (simp only [List.length_drop, List.length_take]; rfl)) ?_; (with_reducible refine (scaled_smaller.calls t396 t397 t398 t399 t389 t390 t391 t392 t401 _ A29.out).mono ?_); rintro e w33 ⟨rfl, hb⟩; refine ⟨_, rfl, ?_⟩; have n0_ := Aside0.mk (blk_below (g := gb393) (o := .cells #[.int .u64 t389, .int .u64 t390, .int .u64 t391, .int .u64 t392] 41 (0, 0)) (by (with_reducible repeat (first | refine blk_drewN ?_ _ | refine blk_drew ?_ | refine blk_alloc ?_ _)); exact BK393.out) hb); have n1_ := Aside0.mk (blk_below (g := gb400) (o := .cells #[.int .u64 t396, .int .u64 t397, .int .u64 t398, .int .u64 t399] 41 (0, 0)) (by (with_reducible repeat (first | refine blk_drewN ?_ _ | refine blk_drew ?_ | refine blk_alloc ?_ _)); exact BK400.out) hb); have n2_ := Aside0.mk (below_step (by repeat (first | (with_reducible first | exact HB.out | apply below_alloc | apply pw_below_drewN | apply below_drew1 | refine below_set ?_ GE393.out | refine below_set ?_ GE400.out) | exact HB.out)) hb); clear BK393; clear BK400; clear HB; have BK393 := n0_; have BK400 := n1_; have HB := n2_; clear n0_ n1_ n2_; (try clear hb); (try clear hb2); (try clear hk); (try clear hi)))
              go_ret
              exact ⟨by first | rfl | (simp [errW_none, errW_some] <;> rfl) | (simp [*, errW_none, errW_some] <;> rfl), by repeat (first | (with_reducible first | exact HB.out | apply below_alloc | apply pw_below_drewN | apply below_drew1 | refine below_set ?_ GE393.out | refine below_set ?_ GE400.out) | exact HB.out)⟩
            · rw [if_neg c28] at H
              have c28b0 : decide (a0 < 0) = false := decide_eq_false c28
              clear c28
              replace H := Option.bind_eq_some_iff.mp H
              obtain ⟨t402, A340, H⟩ := H
              replace H : (some t402) = some r := H
              have A34 := Aside0.mk A340
              clear A340
              obtain rfl := Option.some.inj H
              have hnb35 := NB393_400.out
              have hnc35 := NB400_393.out
              have hcz36_0 : wc.cell? ⟨gb393, 0, none⟩ = some (.int .u64 t389) := (blk_cell BK393.out 0).trans rfl
              have hcz36_1 : wc.cell? ⟨gb393, 1, none⟩ = some (.int .u64 t390) := (blk_cell BK393.out 1).trans rfl
              have hcz36_2 : wc.cell? ⟨gb393, 2, none⟩ = some (.int .u64 t391) := (blk_cell BK393.out 2).trans rfl
              have hcz36_3 : wc.cell? ⟨gb393, 3, none⟩ = some (.int .u64 t392) := (blk_cell BK393.out 3).trans rfl
              have hfz36_0 := blk_frozen BK393.out 0
              have hfz36_1 := blk_frozen BK393.out 1
              have hfz36_2 := blk_frozen BK393.out 2
              have hfz36_3 := blk_frozen BK393.out 3
              have hcz37_0 : wc.cell? ⟨gb400, 0, none⟩ = some (.int .u64 t396) := (blk_cell BK400.out 0).trans rfl
              have hcz37_1 : wc.cell? ⟨gb400, 1, none⟩ = some (.int .u64 t397) := (blk_cell BK400.out 1).trans rfl
              have hcz37_2 : wc.cell? ⟨gb400, 2, none⟩ = some (.int .u64 t398) := (blk_cell BK400.out 2).trans rfl
              have hcz37_3 : wc.cell? ⟨gb400, 3, none⟩ = some (.int .u64 t399) := (blk_cell BK400.out 3).trans rfl
              have hfz37_0 := blk_frozen BK400.out 0
              have hfz37_1 := blk_frozen BK400.out 1
              have hfz37_2 := blk_frozen BK400.out 2
              have hfz37_3 := blk_frozen BK400.out 3
              go_wp2_with (first | ((with_reducible refine gate_callee (f := 42) rfl ?_); refine goesL_ (some 43) rfl rfl Try.func42 (by kernel_rfl) rfl #[.agg #[.int .u64 t389, .int .u64 t390, .int .u64 t391, .int .u64 t392], .agg #[.int .u64 t396, .int .u64 t397, .int .u64 t398, .int .u64 t399]] rfl (by (try simp only [List.map_toArray, List.map_cons, List.map_nil]); first | done | rfl | (simp only [List.length_drop, List.length_take]; rfl)) ?_; (with_reducible refine (scaled_smaller.calls t389 t390 t391 t392 t396 t397 t398 t399 t402 _ A34.out).mono ?_); rintro e w38 ⟨rfl, hb⟩; refine ⟨_, rfl, ?_⟩; have n0_ := Aside0.mk (blk_below (g := gb393) (o := .cells #[.int .u64 t389, .int .u64 t390, .int .u64 t391, .int .u64 t392] 41 (0, 0)) (by (with_reducible repeat (first | refine blk_drewN ?_ _ | refine blk_drew ?_ | refine blk_alloc ?_ _)); exact BK393.out) hb); have n1_ := Aside0.mk (blk_below (g := gb400) (o := .cells #[.int .u64 t396, .int .u64 t397, .int .u64 t398, .int .u64 t399] 41 (0, 0)) (by (with_reducible repeat (first | refine blk_drewN ?_ _ | refine blk_drew ?_ | refine blk_alloc ?_ _)); exact BK400.out) hb); have n2_ := Aside0.mk (below_step (by repeat (first | (with_reducible first | exact HB.out | apply below_alloc | apply pw_below_drewN | apply below_drew1 | refine below_set ?_ GE393.out | refine below_set ?_ GE400.out) | exact HB.out)) hb); clear BK393; clear BK400; clear HB; have BK393 := n0_; have BK400 := n1_; have HB := n2_; clear n0_ n1_ n2_; (try clear hb); (try clear hb2); (try clear hk); (try clear hi)))
              go_ret
              exact ⟨by first | rfl | (simp [errW_none, errW_some] <;> rfl) | (simp [*, errW_none, errW_some] <;> rfl), by repeat (first | (with_reducible first | exact HB.out | apply below_alloc | apply pw_below_drewN | apply below_drew1 | refine below_set ?_ GE393.out | refine below_set ?_ GE400.out) | exact HB.out)⟩

/-! ### regletref01_Less: function 36 -/
def regletref01_Less.j0 : Nat → Int → Int → Int → Bool → Option (Bool)
 | 0, _, _, _, _ => none
 | k + 1, x0, x2, x9, x34 => if x34 = true then (some (decide (x9 > 0))) else (if x0 < 0 then (some (decide (x0 < 0))) else (if x2 < 0 then (some (decide (x0 < 0))) else (some (decide (x9 < 0)))))
def regletref01_Less.f (k : Nat) (a0 : Int) (a1 : Int) (a2 : Int) (a3 : Int) : Option (Bool) := (regletref01_Clamp.f a0).bind fun t403 => ((regletref01_Clamp.f a1).bind fun t404 => ((regletref01_Clamp.f a2).bind fun t405 => ((regletref01_Clamp.f a3).bind fun t406 => ((regletref01_Of.f k t403).bind fun t407 => ((regletref01_Of.f k t406).bind fun t410 => ((regletref01_Times.f k t407 t410).bind fun t413 => ((regletref01_Of.f k t405).bind fun t416 => ((regletref01_Of.f k t404).bind fun t419 => ((regletref01_Times.f k t416 t419).bind fun t422 => ((regletref01_Compare.f k t413 t422).bind fun t425 => (if t403 < 0 then (regletref01_Less.j0 k t403 t405 t425 (decide (t405 < 0))) else (regletref01_Less.j0 k t403 t405 t425 false))))))))))))
theorem regletref01_Less.mono_l : ∀ k, (∀ y0 y1 y2 y3, LeO (regletref01_Less.j0 k y0 y1 y2 y3) (regletref01_Less.j0 (k + 1) y0 y1 y2 y3))
 | 0 => fun _ _ _ _ r h => by simp [regletref01_Less.j0] at h
 | k + 1 => by
  have ih0 := regletref01_Less.mono_l k
  · intro y0 y1 y2 y3
    unfold regletref01_Less.j0
    repeat' first
    | (with_reducible exact ih0 _ _ _ _)
    | (with_reducible exact regletref01_Compare.mono _ _ _)
    | (with_reducible exact regletref01_Of.mono _ _)
    | (with_reducible exact regletref01_Times.mono _ _ _)
    | (with_reducible exact LeO.refl _)
    | (with_reducible exact LeO.none _)
    | (with_reducible refine LeO.ite ?_ ?_)
    | (with_reducible refine LeO.bind ?_ (fun _ => ?_))
    | exact ih0 _ _ _ _
    | exact regletref01_Compare.mono _ _ _
    | exact regletref01_Of.mono _ _
    | exact regletref01_Times.mono _ _ _
    | exact LeO.none _
    | refine LeO.ite ?_ ?_
    | refine LeO.bind ?_ (fun _ => ?_)
theorem regletref01_Less.mono : ∀ a0 a1 a2 a3 k, LeO (regletref01_Less.f k a0 a1 a2 a3) (regletref01_Less.f (k + 1) a0 a1 a2 a3) := by
 intro a0 a1 a2 a3 k
 have ih0 := regletref01_Less.mono_l k
 unfold regletref01_Less.f
 repeat' first
    | (with_reducible exact ih0 _ _ _ _)
    | (with_reducible exact regletref01_Compare.mono _ _ _)
    | (with_reducible exact regletref01_Of.mono _ _)
    | (with_reducible exact regletref01_Times.mono _ _ _)
    | (with_reducible exact LeO.refl _)
    | (with_reducible exact LeO.none _)
    | (with_reducible refine LeO.ite ?_ ?_)
    | (with_reducible refine LeO.bind ?_ (fun _ => ?_))
    | exact ih0 _ _ _ _
    | exact regletref01_Compare.mono _ _ _
    | exact regletref01_Of.mono _ _
    | exact regletref01_Times.mono _ _ _
    | exact LeO.none _
    | refine LeO.ite ?_ ?_
    | refine LeO.bind ?_ (fun _ => ?_)
theorem regletref01_Less.j0.ev {x0 : Int} {x2 : Int} {x9 : Int} {x34 : Bool} {r_ : Bool} (h : Ev (fun k => if x34 = true then (some (decide (x9 > 0))) else (if x0 < 0 then (some (decide (x0 < 0))) else (if x2 < 0 then (some (decide (x0 < 0))) else (some (decide (x9 < 0)))))) r_) : Ev (fun k => regletref01_Less.j0 k x0 x2 x9 x34) r_ := Ev.step (fun k => by rw [regletref01_Less.j0]) h
set_option maxHeartbeats 8000000 in
set_option maxRecDepth 100000 in
theorem regletref01_Less.calls (k : Nat) (a0 : Int) (a1 : Int) (a2 : Int) (a3 : Int) (r : Bool) (w : World) (h : regletref01_Less.f k a0 a1 a2 a3 = some r) :
  Calls Try.prog 36 #[.int .i64 a0, .int .i64 a1, .int .i64 a2, .int .i64 a3] w fun e w' => e = .returned (.bool r) ∧ Below w.heap.size w w' := by
 have HB := Aside0.mk (Below.refl w.heap.size w)
 have H : ((regletref01_Clamp.f a0).bind fun t403 => ((regletref01_Clamp.f a1).bind fun t404 => ((regletref01_Clamp.f a2).bind fun t405 => ((regletref01_Clamp.f a3).bind fun t406 => ((regletref01_Of.f k t403).bind fun t407 => ((regletref01_Of.f k t406).bind fun t410 => ((regletref01_Times.f k t407 t410).bind fun t413 => ((regletref01_Of.f k t405).bind fun t416 => ((regletref01_Of.f k t404).bind fun t419 => ((regletref01_Times.f k t416 t419).bind fun t422 => ((regletref01_Compare.f k t413 t422).bind fun t425 => (if t403 < 0 then (regletref01_Less.j0 k t403 t405 t425 (decide (t405 < 0))) else (regletref01_Less.j0 k t403 t405 t425 false))))))))))))) = some r := h
 clear h
 replace H := Option.bind_eq_some_iff.mp H
 obtain ⟨t403, A50, H⟩ := H
 replace H : ((regletref01_Clamp.f a1).bind fun t404 => ((regletref01_Clamp.f a2).bind fun t405 => ((regletref01_Clamp.f a3).bind fun t406 => ((regletref01_Of.f k t403).bind fun t407 => ((regletref01_Of.f k t406).bind fun t410 => ((regletref01_Times.f k t407 t410).bind fun t413 => ((regletref01_Of.f k t405).bind fun t416 => ((regletref01_Of.f k t404).bind fun t419 => ((regletref01_Times.f k t416 t419).bind fun t422 => ((regletref01_Compare.f k t413 t422).bind fun t425 => (if t403 < 0 then (regletref01_Less.j0 k t403 t405 t425 (decide (t405 < 0))) else (regletref01_Less.j0 k t403 t405 t425 false)))))))))))) = some r := H
 have A5 := Aside0.mk A50
 clear A50
 replace H := Option.bind_eq_some_iff.mp H
 obtain ⟨t404, A60, H⟩ := H
 replace H : ((regletref01_Clamp.f a2).bind fun t405 => ((regletref01_Clamp.f a3).bind fun t406 => ((regletref01_Of.f k t403).bind fun t407 => ((regletref01_Of.f k t406).bind fun t410 => ((regletref01_Times.f k t407 t410).bind fun t413 => ((regletref01_Of.f k t405).bind fun t416 => ((regletref01_Of.f k t404).bind fun t419 => ((regletref01_Times.f k t416 t419).bind fun t422 => ((regletref01_Compare.f k t413 t422).bind fun t425 => (if t403 < 0 then (regletref01_Less.j0 k t403 t405 t425 (decide (t405 < 0))) else (regletref01_Less.j0 k t403 t405 t425 false))))))))))) = some r := H
 have A6 := Aside0.mk A60
 clear A60
 replace H := Option.bind_eq_some_iff.mp H
 obtain ⟨t405, A70, H⟩ := H
 replace H : ((regletref01_Clamp.f a3).bind fun t406 => ((regletref01_Of.f k t403).bind fun t407 => ((regletref01_Of.f k t406).bind fun t410 => ((regletref01_Times.f k t407 t410).bind fun t413 => ((regletref01_Of.f k t405).bind fun t416 => ((regletref01_Of.f k t404).bind fun t419 => ((regletref01_Times.f k t416 t419).bind fun t422 => ((regletref01_Compare.f k t413 t422).bind fun t425 => (if t403 < 0 then (regletref01_Less.j0 k t403 t405 t425 (decide (t405 < 0))) else (regletref01_Less.j0 k t403 t405 t425 false)))))))))) = some r := H
 have A7 := Aside0.mk A70
 clear A70
 replace H := Option.bind_eq_some_iff.mp H
 obtain ⟨t406, A80, H⟩ := H
 replace H : ((regletref01_Of.f k t403).bind fun t407 => ((regletref01_Of.f k t406).bind fun t410 => ((regletref01_Times.f k t407 t410).bind fun t413 => ((regletref01_Of.f k t405).bind fun t416 => ((regletref01_Of.f k t404).bind fun t419 => ((regletref01_Times.f k t416 t419).bind fun t422 => ((regletref01_Compare.f k t413 t422).bind fun t425 => (if t403 < 0 then (regletref01_Less.j0 k t403 t405 t425 (decide (t405 < 0))) else (regletref01_Less.j0 k t403 t405 t425 false))))))))) = some r := H
 have A8 := Aside0.mk A80
 clear A80
 replace H := Option.bind_eq_some_iff.mp H
 obtain ⟨t407, A90, H⟩ := H
 replace H : ((regletref01_Of.f k t406).bind fun t410 => ((regletref01_Times.f k t407 t410).bind fun t413 => ((regletref01_Of.f k t405).bind fun t416 => ((regletref01_Of.f k t404).bind fun t419 => ((regletref01_Times.f k t416 t419).bind fun t422 => ((regletref01_Compare.f k t413 t422).bind fun t425 => (if t403 < 0 then (regletref01_Less.j0 k t403 t405 t425 (decide (t405 < 0))) else (regletref01_Less.j0 k t403 t405 t425 false)))))))) = some r := H
 have A9 := Aside0.mk A90
 clear A90
 replace H := Option.bind_eq_some_iff.mp H
 obtain ⟨t410, A100, H⟩ := H
 replace H : ((regletref01_Times.f k t407 t410).bind fun t413 => ((regletref01_Of.f k t405).bind fun t416 => ((regletref01_Of.f k t404).bind fun t419 => ((regletref01_Times.f k t416 t419).bind fun t422 => ((regletref01_Compare.f k t413 t422).bind fun t425 => (if t403 < 0 then (regletref01_Less.j0 k t403 t405 t425 (decide (t405 < 0))) else (regletref01_Less.j0 k t403 t405 t425 false))))))) = some r := H
 have A10 := Aside0.mk A100
 clear A100
 replace H := Option.bind_eq_some_iff.mp H
 obtain ⟨t413, A110, H⟩ := H
 replace H : ((regletref01_Of.f k t405).bind fun t416 => ((regletref01_Of.f k t404).bind fun t419 => ((regletref01_Times.f k t416 t419).bind fun t422 => ((regletref01_Compare.f k t413 t422).bind fun t425 => (if t403 < 0 then (regletref01_Less.j0 k t403 t405 t425 (decide (t405 < 0))) else (regletref01_Less.j0 k t403 t405 t425 false)))))) = some r := H
 have A11 := Aside0.mk A110
 clear A110
 replace H := Option.bind_eq_some_iff.mp H
 obtain ⟨t416, A120, H⟩ := H
 replace H : ((regletref01_Of.f k t404).bind fun t419 => ((regletref01_Times.f k t416 t419).bind fun t422 => ((regletref01_Compare.f k t413 t422).bind fun t425 => (if t403 < 0 then (regletref01_Less.j0 k t403 t405 t425 (decide (t405 < 0))) else (regletref01_Less.j0 k t403 t405 t425 false))))) = some r := H
 have A12 := Aside0.mk A120
 clear A120
 replace H := Option.bind_eq_some_iff.mp H
 obtain ⟨t419, A130, H⟩ := H
 replace H : ((regletref01_Times.f k t416 t419).bind fun t422 => ((regletref01_Compare.f k t413 t422).bind fun t425 => (if t403 < 0 then (regletref01_Less.j0 k t403 t405 t425 (decide (t405 < 0))) else (regletref01_Less.j0 k t403 t405 t425 false)))) = some r := H
 have A13 := Aside0.mk A130
 clear A130
 replace H := Option.bind_eq_some_iff.mp H
 obtain ⟨t422, A140, H⟩ := H
 replace H : ((regletref01_Compare.f k t413 t422).bind fun t425 => (if t403 < 0 then (regletref01_Less.j0 k t403 t405 t425 (decide (t405 < 0))) else (regletref01_Less.j0 k t403 t405 t425 false))) = some r := H
 have A14 := Aside0.mk A140
 clear A140
 replace H := Option.bind_eq_some_iff.mp H
 obtain ⟨t425, A150, H⟩ := H
 replace H : (if t403 < 0 then (regletref01_Less.j0 k t403 t405 t425 (decide (t405 < 0))) else (regletref01_Less.j0 k t403 t405 t425 false)) = some r := H
 have A15 := Aside0.mk A150
 clear A150
 have HC16 := Aside0.mk H
 clear H
 go_enter Try.func36, Try.ntmps36
 go_upto_region 3 with (first | ((with_reducible refine gate_callee (f := 16) rfl ?_); refine goesL_ (some 11) rfl rfl Try.func16 (by kernel_rfl) rfl #[.int .i64 a0] rfl (by (try simp only [List.map_toArray, List.map_cons, List.map_nil]); first | done | rfl | (simp only [List.length_drop, List.length_take]; rfl)) ?_; (with_reducible refine (regletref01_Clamp.calls a0 t403 _ A5.out).mono ?_); rintro e w' ⟨rfl, ⟨nd, rfl⟩⟩; refine ⟨_, rfl, ?_⟩) | ((with_reducible refine gate_callee (f := 16) rfl ?_); refine goesL_ (some 13) rfl rfl Try.func16 (by kernel_rfl) rfl #[.int .i64 a1] rfl (by (try simp only [List.map_toArray, List.map_cons, List.map_nil]); first | done | rfl | (simp only [List.length_drop, List.length_take]; rfl)) ?_; (with_reducible refine (regletref01_Clamp.calls a1 t404 _ A6.out).mono ?_); rintro e w' ⟨rfl, ⟨nd, rfl⟩⟩; refine ⟨_, rfl, ?_⟩) | ((with_reducible refine gate_callee (f := 16) rfl ?_); refine goesL_ (some 15) rfl rfl Try.func16 (by kernel_rfl) rfl #[.int .i64 a2] rfl (by (try simp only [List.map_toArray, List.map_cons, List.map_nil]); first | done | rfl | (simp only [List.length_drop, List.length_take]; rfl)) ?_; (with_reducible refine (regletref01_Clamp.calls a2 t405 _ A7.out).mono ?_); rintro e w' ⟨rfl, ⟨nd, rfl⟩⟩; refine ⟨_, rfl, ?_⟩) | ((with_reducible refine gate_callee (f := 16) rfl ?_); refine goesL_ (some 17) rfl rfl Try.func16 (by kernel_rfl) rfl #[.int .i64 a3] rfl (by (try simp only [List.map_toArray, List.map_cons, List.map_nil]); first | done | rfl | (simp only [List.length_drop, List.length_take]; rfl)) ?_; (with_reducible refine (regletref01_Clamp.calls a3 t406 _ A8.out).mono ?_); rintro e w' ⟨rfl, ⟨nd, rfl⟩⟩; refine ⟨_, rfl, ?_⟩) | ((with_reducible refine gate_callee (f := 44) rfl ?_); refine goesL_ (some 19) rfl rfl Try.func44 (by kernel_rfl) rfl #[.int .i64 t403] rfl (by (try simp only [List.map_toArray, List.map_cons, List.map_nil]); first | done | rfl | (simp only [List.length_drop, List.length_take]; rfl)) ?_; (with_reducible refine (regletref01_Of.calls k t403 t407 _ A9.out).mono ?_); rintro e w17 ⟨v408, rfl, ho0, hb⟩; refine ⟨_, rfl, ?_⟩; have n0_ := Aside0.mk (Kd.R_lower ho0 (below_size (by repeat (first | (with_reducible first | exact HB.out | apply below_alloc | apply pw_below_drewN | apply below_drew1) | exact HB.out)))); have n1_ := Aside0.mk (below_step (by repeat (first | (with_reducible first | exact HB.out | apply below_alloc | apply pw_below_drewN | apply below_drew1) | exact HB.out)) hb); clear HB; have HO409 := n0_; have HB := n1_; clear n0_ n1_; (try clear hb); (try clear hb2); (try clear hk); (try clear hi); (try clear ho0)) | ((with_reducible refine gate_callee (f := 44) rfl ?_); refine goesL_ (some 21) rfl rfl Try.func44 (by kernel_rfl) rfl #[.int .i64 t406] rfl (by (try simp only [List.map_toArray, List.map_cons, List.map_nil]); first | done | rfl | (simp only [List.length_drop, List.length_take]; rfl)) ?_; (with_reducible refine (regletref01_Of.calls k t406 t410 _ A10.out).mono ?_); rintro e w18 ⟨v411, rfl, ho0, hb⟩; refine ⟨_, rfl, ?_⟩; have n0_ := Aside0.mk (Kd.R_elder' (by (with_reducible repeat (first | apply Kd.R_alloc | apply Kd.R_drewN | apply Kd.R_drew)); exact HO409.out) (Kd.R_base ho0) hb); have n1_ := Aside0.mk (Kd.R_lower (Kd.R_new' ho0 (Kd.R_lt (by (with_reducible repeat (first | apply Kd.R_alloc | apply Kd.R_drewN | apply Kd.R_drew)); exact HO409.out))) (below_size (by repeat (first | (with_reducible first | exact HB.out | apply below_alloc | apply pw_below_drewN | apply below_drew1) | exact HB.out)))); have n2_ := Aside0.mk (below_step (by repeat (first | (with_reducible first | exact HB.out | apply below_alloc | apply pw_below_drewN | apply below_drew1) | exact HB.out)) hb); clear HO409; clear HB; have HO409 := n0_; have HO412 := n1_; have HB := n2_; clear n0_ n1_ n2_; (try clear hb); (try clear hb2); (try clear hk); (try clear hi); (try clear ho0); obtain ⟨Ao19, co19, eo19⟩ := Kd.R_slice HO409.out; subst eo19; obtain ⟨Ao20, co20, eo20⟩ := Kd.R_slice HO412.out; subst eo20) | ((with_reducible refine gate_callee (f := 43) rfl ?_); refine goesL_ (some 22) rfl rfl Try.func43 (by kernel_rfl) rfl #[.slice Ao19 t407.length co19, .slice Ao20 t410.length co20] rfl (by (try simp only [List.map_toArray, List.map_cons, List.map_nil]); first | done | rfl | (simp only [List.length_drop, List.length_take]; rfl)) ?_; (with_reducible refine (regletref01_Times.calls k _ _ t407 _ _ t410 t413 _ ?side1 ?side2 ?side3 ?side4 A11.out).mono ?_); (case side1 => repeat (first | exact (Kd.R_reads' HO409.out).2.2 | (with_reducible refine Kd.C_alloc ?_ _) | (with_reducible refine Kd.C_drewN ?_ _) | (with_reducible refine Kd.C_drew ?_))); (case side2 => exact (Kd.R_reads' HO409.out).2.1); (case side3 => repeat (first | exact (Kd.R_reads' HO412.out).2.2 | (with_reducible refine Kd.C_alloc ?_ _) | (with_reducible refine Kd.C_drewN ?_ _) | (with_reducible refine Kd.C_drew ?_))); (case side4 => exact (Kd.R_reads' HO412.out).2.1); rintro e w21 ⟨v414, rfl, ho0, hb⟩; refine ⟨_, rfl, ?_⟩; have n0_ := Aside0.mk (Kd.R_elder' (by (with_reducible repeat (first | apply Kd.R_alloc | apply Kd.R_drewN | apply Kd.R_drew)); exact HO409.out) (Kd.R_base ho0) hb); have n1_ := Aside0.mk (Kd.R_elder' (by (with_reducible repeat (first | apply Kd.R_alloc | apply Kd.R_drewN | apply Kd.R_drew)); exact HO412.out) (Kd.R_base ho0) hb); have n2_ := Aside0.mk (Kd.R_lower (Kd.R_new' (Kd.R_new' ho0 (Kd.R_lt (by (with_reducible repeat (first | apply Kd.R_alloc | apply Kd.R_drewN | apply Kd.R_drew)); exact HO409.out))) (Kd.R_lt (by (with_reducible repeat (first | apply Kd.R_alloc | apply Kd.R_drewN | apply Kd.R_drew)); exact HO412.out))) (below_size (by repeat (first | (with_reducible first | exact HB.out | apply below_alloc | apply pw_below_drewN | apply below_drew1) | exact HB.out)))); have n3_ := Aside0.mk (below_step (by repeat (first | (with_reducible first | exact HB.out | apply below_alloc | apply pw_below_drewN | apply below_drew1) | exact HB.out)) hb); clear HO409; clear HO412; clear HB; have HO409 := n0_; have HO412 := n1_; have HO415 := n2_; have HB := n3_; clear n0_ n1_ n2_ n3_; (try clear hb); (try clear hb2); (try clear hk); (try clear hi); (try clear ho0)) | ((with_reducible refine gate_callee (f := 44) rfl ?_); refine goesL_ (some 24) rfl rfl Try.func44 (by kernel_rfl) rfl #[.int .i64 t405] rfl (by (try simp only [List.map_toArray, List.map_cons, List.map_nil]); first | done | rfl | (simp only [List.length_drop, List.length_take]; rfl)) ?_; (with_reducible refine (regletref01_Of.calls k t405 t416 _ A12.out).mono ?_); rintro e w22 ⟨v417, rfl, ho0, hb⟩; refine ⟨_, rfl, ?_⟩; have n0_ := Aside0.mk (Kd.R_elder' (by (with_reducible repeat (first | apply Kd.R_alloc | apply Kd.R_drewN | apply Kd.R_drew)); exact HO409.out) (Kd.R_base ho0) hb); have n1_ := Aside0.mk (Kd.R_elder' (by (with_reducible repeat (first | apply Kd.R_alloc | apply Kd.R_drewN | apply Kd.R_drew)); exact HO412.out) (Kd.R_base ho0) hb); have n2_ := Aside0.mk (Kd.R_elder' (by (with_reducible repeat (first | apply Kd.R_alloc | apply Kd.R_drewN | apply Kd.R_drew)); exact HO415.out) (Kd.R_base ho0) hb); have n3_ := Aside0.mk (Kd.R_lower (Kd.R_new' (Kd.R_new' (Kd.R_new' ho0 (Kd.R_lt (by (with_reducible repeat (first | apply Kd.R_alloc | apply Kd.R_drewN | apply Kd.R_drew)); exact HO409.out))) (Kd.R_lt (by (with_reducible repeat (first | apply Kd.R_alloc | apply Kd.R_drewN | apply Kd.R_drew)); exact HO412.out))) (Kd.R_lt (by (with_reducible repeat (first | apply Kd.R_alloc | apply Kd.R_drewN | apply Kd.R_drew)); exact HO415.out))) (below_size (by repeat (first | (with_reducible first | exact HB.out | apply below_alloc | apply pw_below_drewN | apply below_drew1) | exact HB.out)))); have n4_ := Aside0.mk (below_step (by repeat (first | (with_reducible first | exact HB.out | apply below_alloc | apply pw_below_drewN | apply below_drew1) | exact HB.out)) hb); clear HO409; clear HO412; clear HO415; clear HB; have HO409 := n0_; have HO412 := n1_; have HO415 := n2_; have HO418 := n3_; have HB := n4_; clear n0_ n1_ n2_ n3_ n4_; (try clear hb); (try clear hb2); (try clear hk); (try clear hi); (try clear ho0)) | ((with_reducible refine gate_callee (f := 44) rfl ?_); refine goesL_ (some 26) rfl rfl Try.func44 (by kernel_rfl) rfl #[.int .i64 t404] rfl (by (try simp only [List.map_toArray, List.map_cons, List.map_nil]); first | done | rfl | (simp only [List.length_drop, List.length_take]; rfl)) ?_; (with_reducible refine (regletref01_Of.calls k t404 t419 _ A13.out).mono ?_); rintro e w23 ⟨v420, rfl, ho0, hb⟩; refine ⟨_, rfl, ?_⟩; have n0_ := Aside0.mk (Kd.R_elder' (by (with_reducible repeat (first | apply Kd.R_alloc | apply Kd.R_drewN | apply Kd.R_drew)); exact HO409.out) (Kd.R_base ho0) hb); have n1_ := Aside0.mk (Kd.R_elder' (by (with_reducible repeat (first | apply Kd.R_alloc | apply Kd.R_drewN | apply Kd.R_drew)); exact HO412.out) (Kd.R_base ho0) hb); have n2_ := Aside0.mk (Kd.R_elder' (by (with_reducible repeat (first | apply Kd.R_alloc | apply Kd.R_drewN | apply Kd.R_drew)); exact HO415.out) (Kd.R_base ho0) hb); have n3_ := Aside0.mk (Kd.R_elder' (by (with_reducible repeat (first | apply Kd.R_alloc | apply Kd.R_drewN | apply Kd.R_drew)); exact HO418.out) (Kd.R_base ho0) hb); have n4_ := Aside0.mk (Kd.R_lower (Kd.R_new' (Kd.R_new' (Kd.R_new' (Kd.R_new' ho0 (Kd.R_lt (by (with_reducible repeat (first | apply Kd.R_alloc | apply Kd.R_drewN | apply Kd.R_drew)); exact HO409.out))) (Kd.R_lt (by (with_reducible repeat (first | apply Kd.R_alloc | apply Kd.R_drewN | apply Kd.R_drew)); exact HO412.out))) (Kd.R_lt (by (with_reducible repeat (first | apply Kd.R_alloc | apply Kd.R_drewN | apply Kd.R_drew)); exact HO415.out))) (Kd.R_lt (by (with_reducible repeat (first | apply Kd.R_alloc | apply Kd.R_drewN | apply Kd.R_drew)); exact HO418.out))) (below_size (by repeat (first | (with_reducible first | exact HB.out | apply below_alloc | apply pw_below_drewN | apply below_drew1) | exact HB.out)))); have n5_ := Aside0.mk (below_step (by repeat (first | (with_reducible first | exact HB.out | apply below_alloc | apply pw_below_drewN | apply below_drew1) | exact HB.out)) hb); clear HO409; clear HO412; clear HO415; clear HO418; clear HB; have HO409 := n0_; have HO412 := n1_; have HO415 := n2_; have HO418 := n3_; have HO421 := n4_; have HB := n5_; clear n0_ n1_ n2_ n3_ n4_ n5_; (try clear hb); (try clear hb2); (try clear hk); (try clear hi); (try clear ho0); obtain ⟨Ao24, co24, eo24⟩ := Kd.R_slice HO418.out; subst eo24; obtain ⟨Ao25, co25, eo25⟩ := Kd.R_slice HO421.out; subst eo25) | ((with_reducible refine gate_callee (f := 43) rfl ?_); refine goesL_ (some 27) rfl rfl Try.func43 (by kernel_rfl) rfl #[.slice Ao24 t416.length co24, .slice Ao25 t419.length co25] rfl (by (try simp only [List.map_toArray, List.map_cons, List.map_nil]); first | done | rfl | (simp only [List.length_drop, List.length_take]; rfl)) ?_; (with_reducible refine (regletref01_Times.calls k _ _ t416 _ _ t419 t422 _ ?side1 ?side2 ?side3 ?side4 A14.out).mono ?_); (case side1 => repeat (first | exact (Kd.R_reads' HO418.out).2.2 | (with_reducible refine Kd.C_alloc ?_ _) | (with_reducible refine Kd.C_drewN ?_ _) | (with_reducible refine Kd.C_drew ?_))); (case side2 => exact (Kd.R_reads' HO418.out).2.1); (case side3 => repeat (first | exact (Kd.R_reads' HO421.out).2.2 | (with_reducible refine Kd.C_alloc ?_ _) | (with_reducible refine Kd.C_drewN ?_ _) | (with_reducible refine Kd.C_drew ?_))); (case side4 => exact (Kd.R_reads' HO421.out).2.1); rintro e w26 ⟨v423, rfl, ho0, hb⟩; refine ⟨_, rfl, ?_⟩; have n0_ := Aside0.mk (Kd.R_elder' (by (with_reducible repeat (first | apply Kd.R_alloc | apply Kd.R_drewN | apply Kd.R_drew)); exact HO409.out) (Kd.R_base ho0) hb); have n1_ := Aside0.mk (Kd.R_elder' (by (with_reducible repeat (first | apply Kd.R_alloc | apply Kd.R_drewN | apply Kd.R_drew)); exact HO412.out) (Kd.R_base ho0) hb); have n2_ := Aside0.mk (Kd.R_elder' (by (with_reducible repeat (first | apply Kd.R_alloc | apply Kd.R_drewN | apply Kd.R_drew)); exact HO415.out) (Kd.R_base ho0) hb); have n3_ := Aside0.mk (Kd.R_elder' (by (with_reducible repeat (first | apply Kd.R_alloc | apply Kd.R_drewN | apply Kd.R_drew)); exact HO418.out) (Kd.R_base ho0) hb); have n4_ := Aside0.mk (Kd.R_elder' (by (with_reducible repeat (first | apply Kd.R_alloc | apply Kd.R_drewN | apply Kd.R_drew)); exact HO421.out) (Kd.R_base ho0) hb); have n5_ := Aside0.mk (Kd.R_lower (Kd.R_new' (Kd.R_new' (Kd.R_new' (Kd.R_new' (Kd.R_new' ho0 (Kd.R_lt (by (with_reducible repeat (first | apply Kd.R_alloc | apply Kd.R_drewN | apply Kd.R_drew)); exact HO409.out))) (Kd.R_lt (by (with_reducible repeat (first | apply Kd.R_alloc | apply Kd.R_drewN | apply Kd.R_drew)); exact HO412.out))) (Kd.R_lt (by (with_reducible repeat (first | apply Kd.R_alloc | apply Kd.R_drewN | apply Kd.R_drew)); exact HO415.out))) (Kd.R_lt (by (with_reducible repeat (first | apply Kd.R_alloc | apply Kd.R_drewN | apply Kd.R_drew)); exact HO418.out))) (Kd.R_lt (by (with_reducible repeat (first | apply Kd.R_alloc | apply Kd.R_drewN | apply Kd.R_drew)); exact HO421.out))) (below_size (by repeat (first | (with_reducible first | exact HB.out | apply below_alloc | apply pw_below_drewN | apply below_drew1) | exact HB.out)))); have n6_ := Aside0.mk (below_step (by repeat (first | (with_reducible first | exact HB.out | apply below_alloc | apply pw_below_drewN | apply below_drew1) | exact HB.out)) hb); clear HO409; clear HO412; clear HO415; clear HO418; clear HO421; clear HB; have HO409 := n0_; have HO412 := n1_; have HO415 := n2_; have HO418 := n3_; have HO421 := n4_; have HO424 := n5_; have HB := n6_; clear n0_ n1_ n2_ n3_ n4_ n5_ n6_; (try clear hb); (try clear hb2); (try clear hk); (try clear hi); (try clear ho0); obtain ⟨Ao27, co27, eo27⟩ := Kd.R_slice HO415.out; subst eo27; obtain ⟨Ao28, co28, eo28⟩ := Kd.R_slice HO424.out; subst eo28) | ((with_reducible refine gate_callee (f := 45) rfl ?_); refine goesL_ (some 28) rfl rfl Try.func45 (by kernel_rfl) rfl #[.slice Ao27 t413.length co27, .slice Ao28 t422.length co28] rfl (by (try simp only [List.map_toArray, List.map_cons, List.map_nil]); first | done | rfl | (simp only [List.length_drop, List.length_take]; rfl)) ?_; (with_reducible refine (regletref01_Compare.calls k _ _ t413 _ _ t422 t425 _ ?side1 ?side2 ?side3 ?side4 A15.out).mono ?_); (case side1 => repeat (first | exact (Kd.R_reads' HO415.out).2.2 | (with_reducible refine Kd.C_alloc ?_ _) | (with_reducible refine Kd.C_drewN ?_ _) | (with_reducible refine Kd.C_drew ?_))); (case side2 => exact (Kd.R_reads' HO415.out).2.1); (case side3 => repeat (first | exact (Kd.R_reads' HO424.out).2.2 | (with_reducible refine Kd.C_alloc ?_ _) | (with_reducible refine Kd.C_drewN ?_ _) | (with_reducible refine Kd.C_drew ?_))); (case side4 => exact (Kd.R_reads' HO424.out).2.1); rintro e w29 ⟨rfl, hb⟩; refine ⟨_, rfl, ?_⟩; have n0_ := Aside0.mk (Kd.R_below (by (with_reducible repeat (first | apply Kd.R_alloc | apply Kd.R_drewN | apply Kd.R_drew)); exact HO409.out) hb); have n1_ := Aside0.mk (Kd.R_below (by (with_reducible repeat (first | apply Kd.R_alloc | apply Kd.R_drewN | apply Kd.R_drew)); exact HO412.out) hb); have n2_ := Aside0.mk (Kd.R_below (by (with_reducible repeat (first | apply Kd.R_alloc | apply Kd.R_drewN | apply Kd.R_drew)); exact HO415.out) hb); have n3_ := Aside0.mk (Kd.R_below (by (with_reducible repeat (first | apply Kd.R_alloc | apply Kd.R_drewN | apply Kd.R_drew)); exact HO418.out) hb); have n4_ := Aside0.mk (Kd.R_below (by (with_reducible repeat (first | apply Kd.R_alloc | apply Kd.R_drewN | apply Kd.R_drew)); exact HO421.out) hb); have n5_ := Aside0.mk (Kd.R_below (by (with_reducible repeat (first | apply Kd.R_alloc | apply Kd.R_drewN | apply Kd.R_drew)); exact HO424.out) hb); have n6_ := Aside0.mk (below_step (by repeat (first | (with_reducible first | exact HB.out | apply below_alloc | apply pw_below_drewN | apply below_drew1) | exact HB.out)) hb); clear HO409; clear HO412; clear HO415; clear HO418; clear HO421; clear HO424; clear HB; have HO409 := n0_; have HO412 := n1_; have HO415 := n2_; have HO418 := n3_; have HO421 := n4_; have HO424 := n5_; have HB := n6_; clear n0_ n1_ n2_ n3_ n4_ n5_ n6_; (try clear hb); (try clear hb2); (try clear hk); (try clear hi)))
 (try simp only [Act.put, List.setIfInBounds_toArray, List.set_cons_zero, List.set_cons_succ])
 go_cut [34] (fun v34 wc => ∃ (kq : Nat) (x34_15 : Bool), v34 = .bool x34_15 ∧ Aside0 (regletref01_Less.j0 kq t403 t405 t425 x34_15 = some r) ∧ Aside0 (kq ≤ k) ∧ Aside0 (Below w.heap.size w wc))
 case first =>
  have H := HC16.out
  clear HC16
  by_cases c30 : t403 < 0
  · rw [if_pos c30] at H
    have c30b0 : decide (t403 < 0) = true := decide_eq_true c30
    clear c30
    (first | rw [c30b0] | (simp only [i64_w, i32_w]; rw [c30b0]) | skip)
    have H' := Aside0.mk H
    clear H
    go_wp2
    go_meet
    case rel => exact ⟨_, (decide (t405 < 0)), (by first | rfl | (simp; done) | (simp [*]; done)), H', ⟨by first | omega | exact Nat.le_refl _⟩, ⟨by repeat (first | (with_reducible first | exact HB.out | apply below_alloc | apply pw_below_drewN | apply below_drew1) | exact HB.out)⟩⟩
  · rw [if_neg c30] at H
    have c30b0 : decide (t403 < 0) = false := decide_eq_false c30
    clear c30
    (first | rw [c30b0] | (simp only [i64_w, i32_w]; rw [c30b0]) | skip)
    have H' := Aside0.mk H
    clear H
    go_wp2
    go_meet
    case rel => exact ⟨_, (false), (by first | rfl | (simp; done) | (simp [*]; done)), H', ⟨by first | omega | exact Nat.le_refl _⟩, ⟨by repeat (first | (with_reducible first | exact HB.out | apply below_alloc | apply pw_below_drewN | apply below_drew1) | exact HB.out)⟩⟩
 case rest =>
  clear HC16
  try clear c1
  try clear p2
  try clear c3
  try clear c4
  try clear c16
  try clear c30
  try clear c30b0
  obtain ⟨kq, x34_15, rfl, HA, HJ15, HB⟩ := hcut
  cases kq with
  | zero => exact absurd HA.out (by simp [regletref01_Less.j0])
  | succ kj15 =>
    have H := HA.out
    clear HA
    simp only [regletref01_Less.j0] at H
    by_cases c31 : x34_15 = true
    · subst c31
      have H1 : (some (decide (t425 > 0))) = some r := by rw [if_pos rfl] at H; exact H
      clear H
      have H := H1
      clear H1
      obtain rfl := Option.some.inj H
      go_wp2
      go_ret
      exact ⟨by first | rfl | (simp [errW_none, errW_some] <;> rfl) | (simp [*, errW_none, errW_some] <;> rfl), by repeat (first | (with_reducible first | exact HB.out | apply below_alloc | apply pw_below_drewN | apply below_drew1) | exact HB.out)⟩
    · replace c31 := Bool.eq_false_iff.mpr c31
      subst c31
      have H1 : (if t403 < 0 then (some (decide (t403 < 0))) else (if t405 < 0 then (some (decide (t403 < 0))) else (some (decide (t425 < 0))))) = some r := by rw [if_neg (show ¬ (false = true) by decide)] at H; exact H
      clear H
      have H := H1
      clear H1
      by_cases c32 : t403 < 0
      · rw [if_pos c32] at H
        have c32b0 : decide (t403 < 0) = true := decide_eq_true c32
        clear c32
        obtain rfl := Option.some.inj H
        go_wp2
        go_ret
        exact ⟨by first | rfl | (simp [errW_none, errW_some] <;> rfl) | (simp [*, errW_none, errW_some] <;> rfl), by repeat (first | (with_reducible first | exact HB.out | apply below_alloc | apply pw_below_drewN | apply below_drew1) | exact HB.out)⟩
      · rw [if_neg c32] at H
        have c32b0 : decide (t403 < 0) = false := decide_eq_false c32
        clear c32
        by_cases c33 : t405 < 0
        · rw [if_pos c33] at H
          have c33b0 : decide (t405 < 0) = true := decide_eq_true c33
          clear c33
          obtain rfl := Option.some.inj H
          go_wp2
          go_ret
          exact ⟨by first | rfl | (simp [errW_none, errW_some] <;> rfl) | (simp [*, errW_none, errW_some] <;> rfl), by repeat (first | (with_reducible first | exact HB.out | apply below_alloc | apply pw_below_drewN | apply below_drew1) | exact HB.out)⟩
        · rw [if_neg c33] at H
          have c33b0 : decide (t405 < 0) = false := decide_eq_false c33
          clear c33
          obtain rfl := Option.some.inj H
          go_wp2
          go_ret
          exact ⟨by first | rfl | (simp [errW_none, errW_some] <;> rfl) | (simp [*, errW_none, errW_some] <;> rfl), by repeat (first | (with_reducible first | exact HB.out | apply below_alloc | apply pw_below_drewN | apply below_drew1) | exact HB.out)⟩

end Go.Proofs.Ytedplhcdlkhbnaa.P
