-- PRINTED by print.py (a twelfth state) out of the translation. Not trusted: Lean checks it.
import Derived.Test.YtdkmmddakidieaaPx0
import Derived.Test.YtdkmmddakidieaaPx6
import Derived.Test.YtdkmmddakidieaaPx13
import Derived.Test.YtdkmmddakidieaaPx20
namespace Go.Proofs.Ytdkmmddakidieaa.P
open Go.RowKit Go.Proofs.YtdkmmddakidieaaW.PrintWords Go.Proofs.YtdkmmddakidieaaW.PrintLast Go.Proofs.YtdkmmddakidieaaW.PrintMore
attribute [local go_sem] max2_int min2_int max_two min_two max_three min_three max_four min_four   -- for this text's walks alone
set_option linter.unusedVariables false
set_option linter.unusedSimpArgs false

/-! ### regletlaw08_MeasureCosts: function 5 -/
def regletlaw08_MeasureCosts.j0 : Nat → Int → Bool → Int → Int → Int → Int → Int → Int → Int → Int → Int → Int → Int → Bool → Int → Int → Int → Int → Bool → Int → Bool → Int → Int → Bool → Bool → Option (Bool)
 | 0, _, _, _, _, _, _, _, _, _, _, _, _, _, _, _, _, _, _, _, _, _, _, _, _, _ => none
 | k + 1, x2, x27, x327000, x327001, x327002, x327003, x327004, x327005, x327006, x328000, x328001, x328002, x328003, x328004, x328005, x328006, x328007, x328008, x328009, x328010, x328011, x328012, x328013, x328014, x328015 => if x27 = true then (some true) else ((measure_Cost.f k x327000 x327001 x327002 x327003 x327004 x327005 x327006 x328000 x328001 x328002 x328003 x328004 x328005 x328006 x328007 x328008 x328009 x328010 x328011 x328012 x328013 x2 x328014 x328015).bind fun t329 => ((regletref08_Cost.f k x327000 x327001 x327002 x327003 x327004 x327005 x327006 x328000 x328001 x328002 x328003 x328004 x328005 x328006 x328007 x328008 x328009 x328010 x328011 x328012 x328013 x2 x328014 x328015).bind fun t330 => (some (t329 == t330))))
def regletlaw08_MeasureCosts.f (k : Nat) (a0_0 : Int) (a0_1 : Int) (a0_2 : Int) (a0_3 : Int) (a0_4 : Int) (a0_5 : Int) (a0_6 : Int) (a1_0 : Int) (a1_1 : Int) (a1_2 : Int) (a1_3 : Int) (a1_4 : Bool) (a1_5 : Int) (a1_6 : Int) (a1_7 : Int) (a1_8 : Int) (a1_9 : Bool) (a1_10 : Int) (a1_11 : Bool) (a1_12 : Int) (a1_13 : Int) (a1_14 : Bool) (a1_15 : Bool) (a2 : Int) : Option (Bool) := (regletlaw08_awake.f k).bind fun t328 => (if t328 = true then (if a2 < (-1000) then (regletlaw08_MeasureCosts.j0 k a2 true a0_0 a0_1 a0_2 a0_3 a0_4 a0_5 a0_6 a1_0 a1_1 a1_2 a1_3 a1_4 a1_5 a1_6 a1_7 a1_8 a1_9 a1_10 a1_11 a1_12 a1_13 a1_14 a1_15) else (if a2 > 1000 then (regletlaw08_MeasureCosts.j0 k a2 true a0_0 a0_1 a0_2 a0_3 a0_4 a0_5 a0_6 a1_0 a1_1 a1_2 a1_3 a1_4 a1_5 a1_6 a1_7 a1_8 a1_9 a1_10 a1_11 a1_12 a1_13 a1_14 a1_15) else (if a1_3 < (-1000) then (regletlaw08_MeasureCosts.j0 k a2 true a0_0 a0_1 a0_2 a0_3 a0_4 a0_5 a0_6 a1_0 a1_1 a1_2 a1_3 a1_4 a1_5 a1_6 a1_7 a1_8 a1_9 a1_10 a1_11 a1_12 a1_13 a1_14 a1_15) else (regletlaw08_MeasureCosts.j0 k a2 (decide (a1_3 > 1000)) a0_0 a0_1 a0_2 a0_3 a0_4 a0_5 a0_6 a1_0 a1_1 a1_2 a1_3 a1_4 a1_5 a1_6 a1_7 a1_8 a1_9 a1_10 a1_11 a1_12 a1_13 a1_14 a1_15)))) else (some false))
theorem regletlaw08_MeasureCosts.mono_l : ∀ k, (∀ y0 y1 y2 y3 y4 y5 y6 y7 y8 y9 y10 y11 y12 y13 y14 y15 y16 y17 y18 y19 y20 y21 y22 y23 y24, LeO (regletlaw08_MeasureCosts.j0 k y0 y1 y2 y3 y4 y5 y6 y7 y8 y9 y10 y11 y12 y13 y14 y15 y16 y17 y18 y19 y20 y21 y22 y23 y24) (regletlaw08_MeasureCosts.j0 (k + 1) y0 y1 y2 y3 y4 y5 y6 y7 y8 y9 y10 y11 y12 y13 y14 y15 y16 y17 y18 y19 y20 y21 y22 y23 y24))
 | 0 => fun _ _ _ _ _ _ _ _ _ _ _ _ _ _ _ _ _ _ _ _ _ _ _ _ _ r h => by simp [regletlaw08_MeasureCosts.j0] at h
 | k + 1 => by
   have ih0 := regletlaw08_MeasureCosts.mono_l k
   · intro y0 y1 y2 y3 y4 y5 y6 y7 y8 y9 y10 y11 y12 y13 y14 y15 y16 y17 y18 y19 y20 y21 y22 y23 y24
     unfold regletlaw08_MeasureCosts.j0
     repeat' first
     | (with_reducible exact ih0 _ _ _ _ _ _ _ _ _ _ _ _ _ _ _ _ _ _ _ _ _ _ _ _ _)
     | (with_reducible exact measure_Cost.mono _ _ _ _ _ _ _ _ _ _ _ _ _ _ _ _ _ _ _ _ _ _ _ _ _)
     | (with_reducible exact regletlaw08_awake.mono _)
     | (with_reducible exact regletref08_Cost.mono _ _ _ _ _ _ _ _ _ _ _ _ _ _ _ _ _ _ _ _ _ _ _ _ _)
     | (with_reducible exact LeO.refl _)
     | (with_reducible exact LeO.none _)
     | (with_reducible refine LeO.ite ?_ ?_)
     | (with_reducible refine LeO.bind ?_ (fun _ => ?_))
     | exact ih0 _ _ _ _ _ _ _ _ _ _ _ _ _ _ _ _ _ _ _ _ _ _ _ _ _
     | exact measure_Cost.mono _ _ _ _ _ _ _ _ _ _ _ _ _ _ _ _ _ _ _ _ _ _ _ _ _
     | exact regletlaw08_awake.mono _
     | exact regletref08_Cost.mono _ _ _ _ _ _ _ _ _ _ _ _ _ _ _ _ _ _ _ _ _ _ _ _ _
     | exact LeO.none _
     | refine LeO.ite ?_ ?_
     | refine LeO.bind ?_ (fun _ => ?_)
theorem regletlaw08_MeasureCosts.mono : ∀ a0 a1 a2 a3 a4 a5 a6 a7 a8 a9 a10 a11 a12 a13 a14 a15 a16 a17 a18 a19 a20 a21 a22 a23 k, LeO (regletlaw08_MeasureCosts.f k a0 a1 a2 a3 a4 a5 a6 a7 a8 a9 a10 a11 a12 a13 a14 a15 a16 a17 a18 a19 a20 a21 a22 a23) (regletlaw08_MeasureCosts.f (k + 1) a0 a1 a2 a3 a4 a5 a6 a7 a8 a9 a10 a11 a12 a13 a14 a15 a16 a17 a18 a19 a20 a21 a22 a23) := by
 intro a0 a1 a2 a3 a4 a5 a6 a7 a8 a9 a10 a11 a12 a13 a14 a15 a16 a17 a18 a19 a20 a21 a22 a23 k
 have ih0 := regletlaw08_MeasureCosts.mono_l k
 unfold regletlaw08_MeasureCosts.f
 repeat' first
     | (with_reducible exact ih0 _ _ _ _ _ _ _ _ _ _ _ _ _ _ _ _ _ _ _ _ _ _ _ _ _)
     | (with_reducible exact measure_Cost.mono _ _ _ _ _ _ _ _ _ _ _ _ _ _ _ _ _ _ _ _ _ _ _ _ _)
     | (with_reducible exact regletlaw08_awake.mono _)
     | (with_reducible exact regletref08_Cost.mono _ _ _ _ _ _ _ _ _ _ _ _ _ _ _ _ _ _ _ _ _ _ _ _ _)
     | (with_reducible exact LeO.refl _)
     | (with_reducible exact LeO.none _)
     | (with_reducible refine LeO.ite ?_ ?_)
     | (with_reducible refine LeO.bind ?_ (fun _ => ?_))
     | exact ih0 _ _ _ _ _ _ _ _ _ _ _ _ _ _ _ _ _ _ _ _ _ _ _ _ _
     | exact measure_Cost.mono _ _ _ _ _ _ _ _ _ _ _ _ _ _ _ _ _ _ _ _ _ _ _ _ _
     | exact regletlaw08_awake.mono _
     | exact regletref08_Cost.mono _ _ _ _ _ _ _ _ _ _ _ _ _ _ _ _ _ _ _ _ _ _ _ _ _
     | exact LeO.none _
     | refine LeO.ite ?_ ?_
     | refine LeO.bind ?_ (fun _ => ?_)
theorem regletlaw08_MeasureCosts.j0.ev {x2 : Int} {x27 : Bool} {x327000 : Int} {x327001 : Int} {x327002 : Int} {x327003 : Int} {x327004 : Int} {x327005 : Int} {x327006 : Int} {x328000 : Int} {x328001 : Int} {x328002 : Int} {x328003 : Int} {x328004 : Bool} {x328005 : Int} {x328006 : Int} {x328007 : Int} {x328008 : Int} {x328009 : Bool} {x328010 : Int} {x328011 : Bool} {x328012 : Int} {x328013 : Int} {x328014 : Bool} {x328015 : Bool} {r_ : Bool} (h : Ev (fun k => if x27 = true then (some true) else ((measure_Cost.f k x327000 x327001 x327002 x327003 x327004 x327005 x327006 x328000 x328001 x328002 x328003 x328004 x328005 x328006 x328007 x328008 x328009 x328010 x328011 x328012 x328013 x2 x328014 x328015).bind fun t329 => ((regletref08_Cost.f k x327000 x327001 x327002 x327003 x327004 x327005 x327006 x328000 x328001 x328002 x328003 x328004 x328005 x328006 x328007 x328008 x328009 x328010 x328011 x328012 x328013 x2 x328014 x328015).bind fun t330 => (some (t329 == t330))))) r_) : Ev (fun k => regletlaw08_MeasureCosts.j0 k x2 x27 x327000 x327001 x327002 x327003 x327004 x327005 x327006 x328000 x328001 x328002 x328003 x328004 x328005 x328006 x328007 x328008 x328009 x328010 x328011 x328012 x328013 x328014 x328015) r_ := Ev.step (fun k => by rw [regletlaw08_MeasureCosts.j0]) h
set_option maxHeartbeats 8000000 in
set_option maxRecDepth 100000 in
theorem regletlaw08_MeasureCosts.calls (k : Nat) (a0_0 : Int) (a0_1 : Int) (a0_2 : Int) (a0_3 : Int) (a0_4 : Int) (a0_5 : Int) (a0_6 : Int) (a1_0 : Int) (a1_1 : Int) (a1_2 : Int) (a1_3 : Int) (a1_4 : Bool) (a1_5 : Int) (a1_6 : Int) (a1_7 : Int) (a1_8 : Int) (a1_9 : Bool) (a1_10 : Int) (a1_11 : Bool) (a1_12 : Int) (a1_13 : Int) (a1_14 : Bool) (a1_15 : Bool) (a2 : Int) (r : Bool) (w : World) (h : regletlaw08_MeasureCosts.f k a0_0 a0_1 a0_2 a0_3 a0_4 a0_5 a0_6 a1_0 a1_1 a1_2 a1_3 a1_4 a1_5 a1_6 a1_7 a1_8 a1_9 a1_10 a1_11 a1_12 a1_13 a1_14 a1_15 a2 = some r) :
   Calls Try.prog 5 #[.agg #[.int .i64 a0_0, .int .i64 a0_1, .int .i64 a0_2, .int .i64 a0_3, .int .i64 a0_4, .int .i64 a0_5, .int .i64 a0_6], .agg #[.int .i64 a1_0, .int .i64 a1_1, .int .i64 a1_2, .int .i64 a1_3, .bool a1_4, .int .i64 a1_5, .int .i64 a1_6, .int .i64 a1_7, .int .i64 a1_8, .bool a1_9, .int .i64 a1_10, .bool a1_11, .int .i64 a1_12, .int .i64 a1_13, .bool a1_14, .bool a1_15], .int .i64 a2] w fun e w' => e = .returned (.bool r) ∧ Below w.heap.size w w' := by
 have hu26 := Try.underlying26
 have hu36 := Try.underlying36
 have hu32 := Try.underlying32
 have hu34 := Try.underlying34
 have hu39 := Try.underlying39
 have HB := Aside0.mk (Below.refl w.heap.size w)
 have H : ((regletlaw08_awake.f k).bind fun t328 => (if t328 = true then (if a2 < (-1000) then (regletlaw08_MeasureCosts.j0 k a2 true a0_0 a0_1 a0_2 a0_3 a0_4 a0_5 a0_6 a1_0 a1_1 a1_2 a1_3 a1_4 a1_5 a1_6 a1_7 a1_8 a1_9 a1_10 a1_11 a1_12 a1_13 a1_14 a1_15) else (if a2 > 1000 then (regletlaw08_MeasureCosts.j0 k a2 true a0_0 a0_1 a0_2 a0_3 a0_4 a0_5 a0_6 a1_0 a1_1 a1_2 a1_3 a1_4 a1_5 a1_6 a1_7 a1_8 a1_9 a1_10 a1_11 a1_12 a1_13 a1_14 a1_15) else (if a1_3 < (-1000) then (regletlaw08_MeasureCosts.j0 k a2 true a0_0 a0_1 a0_2 a0_3 a0_4 a0_5 a0_6 a1_0 a1_1 a1_2 a1_3 a1_4 a1_5 a1_6 a1_7 a1_8 a1_9 a1_10 a1_11 a1_12 a1_13 a1_14 a1_15) else (regletlaw08_MeasureCosts.j0 k a2 (decide (a1_3 > 1000)) a0_0 a0_1 a0_2 a0_3 a0_4 a0_5 a0_6 a1_0 a1_1 a1_2 a1_3 a1_4 a1_5 a1_6 a1_7 a1_8 a1_9 a1_10 a1_11 a1_12 a1_13 a1_14 a1_15)))) else (some false))) = some r := h
 clear h
 replace H := Option.bind_eq_some_iff.mp H
 obtain ⟨t328, A40, H⟩ := H
 replace H : (if t328 = true then (if a2 < (-1000) then (regletlaw08_MeasureCosts.j0 k a2 true a0_0 a0_1 a0_2 a0_3 a0_4 a0_5 a0_6 a1_0 a1_1 a1_2 a1_3 a1_4 a1_5 a1_6 a1_7 a1_8 a1_9 a1_10 a1_11 a1_12 a1_13 a1_14 a1_15) else (if a2 > 1000 then (regletlaw08_MeasureCosts.j0 k a2 true a0_0 a0_1 a0_2 a0_3 a0_4 a0_5 a0_6 a1_0 a1_1 a1_2 a1_3 a1_4 a1_5 a1_6 a1_7 a1_8 a1_9 a1_10 a1_11 a1_12 a1_13 a1_14 a1_15) else (if a1_3 < (-1000) then (regletlaw08_MeasureCosts.j0 k a2 true a0_0 a0_1 a0_2 a0_3 a0_4 a0_5 a0_6 a1_0 a1_1 a1_2 a1_3 a1_4 a1_5 a1_6 a1_7 a1_8 a1_9 a1_10 a1_11 a1_12 a1_13 a1_14 a1_15) else (regletlaw08_MeasureCosts.j0 k a2 (decide (a1_3 > 1000)) a0_0 a0_1 a0_2 a0_3 a0_4 a0_5 a0_6 a1_0 a1_1 a1_2 a1_3 a1_4 a1_5 a1_6 a1_7 a1_8 a1_9 a1_10 a1_11 a1_12 a1_13 a1_14 a1_15)))) else (some false)) = some r := H
 have A4 := Aside0.mk A40
 clear A40
 by_cases c5 : t328 = true
 · subst c5
   have H1 : (if a2 < (-1000) then (regletlaw08_MeasureCosts.j0 k a2 true a0_0 a0_1 a0_2 a0_3 a0_4 a0_5 a0_6 a1_0 a1_1 a1_2 a1_3 a1_4 a1_5 a1_6 a1_7 a1_8 a1_9 a1_10 a1_11 a1_12 a1_13 a1_14 a1_15) else (if a2 > 1000 then (regletlaw08_MeasureCosts.j0 k a2 true a0_0 a0_1 a0_2 a0_3 a0_4 a0_5 a0_6 a1_0 a1_1 a1_2 a1_3 a1_4 a1_5 a1_6 a1_7 a1_8 a1_9 a1_10 a1_11 a1_12 a1_13 a1_14 a1_15) else (if a1_3 < (-1000) then (regletlaw08_MeasureCosts.j0 k a2 true a0_0 a0_1 a0_2 a0_3 a0_4 a0_5 a0_6 a1_0 a1_1 a1_2 a1_3 a1_4 a1_5 a1_6 a1_7 a1_8 a1_9 a1_10 a1_11 a1_12 a1_13 a1_14 a1_15) else (regletlaw08_MeasureCosts.j0 k a2 (decide (a1_3 > 1000)) a0_0 a0_1 a0_2 a0_3 a0_4 a0_5 a0_6 a1_0 a1_1 a1_2 a1_3 a1_4 a1_5 a1_6 a1_7 a1_8 a1_9 a1_10 a1_11 a1_12 a1_13 a1_14 a1_15)))) = some r := by rw [if_pos rfl] at H; exact H
   clear H
   have H := H1
   clear H1
   have HC6 := Aside0.mk H
   clear H
   go_enter Try.func5, Try.ntmps5
   go_upto_region 3 with (first | ((with_reducible refine gate_dst (N := 3) rfl ?_); refine box_event ?hg (N := 3) ?hd (cs := #[.int .i64 a0_0, .int .i64 a0_1, .int .i64 a0_2, .int .i64 a0_3, .int .i64 a0_4, .int .i64 a0_5, .int .i64 a0_6]) (t := 26) ?hr ?_; (case hd => rfl); (case hg => rfl); (case hr => first | (go_simp; done) | (go_simp; rfl)); intro gb326 hg w7 hbox hb; have n0_ := Aside0.mk (below_step (by repeat (first | (with_reducible first | exact HB.out | apply below_alloc | apply pw_below_drewN | apply below_drew1) | exact HB.out)) hb); have n1_ := Aside0.mk (hbox); have n2_ := Aside0.mk ((by rw [hg]; exact (below_size (by repeat (first | (with_reducible first | exact HB.out | apply below_alloc | apply pw_below_drewN | apply below_drew1) | exact HB.out))) : w.heap.size ≤ gb326)); have n3_ := Aside0.mk ((by rw [hg]; exact (below_size (by repeat (first | (with_reducible first | exact HB.out | apply below_alloc | apply pw_below_drewN | apply below_drew1) | exact HB.out))) : w.heap.size ≤ gb326)); clear HB; have HB := n0_; have BK326 := n1_; have GW326 := n2_; have GE326 := n3_; clear n0_ n1_ n2_ n3_; clear hb hbox hg) | ((with_reducible refine gate_dst (N := 4) rfl ?_); refine box_event ?hg (N := 4) ?hd (cs := #[.int .i64 a1_0, .int .i64 a1_1, .int .i64 a1_2, .int .i64 a1_3, .bool a1_4, .int .i64 a1_5, .int .i64 a1_6, .int .i64 a1_7, .int .i64 a1_8, .bool a1_9, .int .i64 a1_10, .bool a1_11, .int .i64 a1_12, .int .i64 a1_13, .bool a1_14, .bool a1_15]) (t := 36) ?hr ?_; (case hd => rfl); (case hg => rfl); (case hr => first | (go_simp; done) | (go_simp; rfl)); intro gb327 hg w8 hbox hb; have n0_ := Aside0.mk (blk_below (g := gb326) (o := .cells #[.int .i64 a0_0, .int .i64 a0_1, .int .i64 a0_2, .int .i64 a0_3, .int .i64 a0_4, .int .i64 a0_5, .int .i64 a0_6] 26 (0, 0)) (by (with_reducible repeat (first | refine blk_drewN ?_ _ | refine blk_drew ?_ | refine blk_alloc ?_ _)); exact BK326.out) hb); have n1_ := Aside0.mk (below_step (by repeat (first | (with_reducible first | exact HB.out | apply below_alloc | apply pw_below_drewN | apply below_drew1 | refine below_set ?_ GE326.out) | exact HB.out)) hb); have n2_ := Aside0.mk (hbox); have n3_ := Aside0.mk ((by rw [hg]; exact (below_size (by repeat (first | (with_reducible first | exact HB.out | apply below_alloc | apply pw_below_drewN | apply below_drew1 | refine below_set ?_ GE326.out) | exact HB.out))) : w.heap.size ≤ gb327)); have n4_ := Aside0.mk ((by rw [hg]; exact (below_size (by repeat (first | (with_reducible first | exact HB.out | apply below_alloc | apply pw_below_drewN | apply below_drew1 | refine below_set ?_ GE326.out) | exact HB.out))) : w.heap.size ≤ gb327)); have n5_ := Aside0.mk ((by rw [hg]; exact Nat.ne_of_lt (blk_lt (g := gb326) (o := .cells #[.int .i64 a0_0, .int .i64 a0_1, .int .i64 a0_2, .int .i64 a0_3, .int .i64 a0_4, .int .i64 a0_5, .int .i64 a0_6] 26 (0, 0)) (by (with_reducible repeat (first | refine blk_drewN ?_ _ | refine blk_drew ?_ | refine blk_alloc ?_ _)); exact BK326.out)) : gb326 ≠ gb327)); have n6_ := Aside0.mk ((by rw [hg]; exact Nat.ne_of_gt (blk_lt (g := gb326) (o := .cells #[.int .i64 a0_0, .int .i64 a0_1, .int .i64 a0_2, .int .i64 a0_3, .int .i64 a0_4, .int .i64 a0_5, .int .i64 a0_6] 26 (0, 0)) (by (with_reducible repeat (first | refine blk_drewN ?_ _ | refine blk_drew ?_ | refine blk_alloc ?_ _)); exact BK326.out)) : gb327 ≠ gb326)); clear BK326; clear HB; have BK326 := n0_; have HB := n1_; have BK327 := n2_; have GW327 := n3_; have GE327 := n4_; have NB326_327 := n5_; have NB327_326 := n6_; clear n0_ n1_ n2_ n3_ n4_ n5_ n6_; clear hb hbox hg) | ((with_reducible refine gate_callee (f := 10) rfl ?_); refine goesL_ (some 8) rfl rfl Try.func10 (by kernel_rfl) rfl #[] rfl (by (try simp only [List.map_toArray, List.map_cons, List.map_nil]); first | done | rfl | (simp only [List.length_drop, List.length_take]; rfl)) ?_; (with_reducible refine (regletlaw08_awake.calls k  true _ A4.out).mono ?_); rintro e w9 ⟨rfl, hb⟩; refine ⟨_, rfl, ?_⟩; have n0_ := Aside0.mk (blk_below (g := gb326) (o := .cells #[.int .i64 a0_0, .int .i64 a0_1, .int .i64 a0_2, .int .i64 a0_3, .int .i64 a0_4, .int .i64 a0_5, .int .i64 a0_6] 26 (0, 0)) (by (with_reducible repeat (first | refine blk_drewN ?_ _ | refine blk_drew ?_ | refine blk_alloc ?_ _)); exact BK326.out) hb); have n1_ := Aside0.mk (blk_below (g := gb327) (o := .cells #[.int .i64 a1_0, .int .i64 a1_1, .int .i64 a1_2, .int .i64 a1_3, .bool a1_4, .int .i64 a1_5, .int .i64 a1_6, .int .i64 a1_7, .int .i64 a1_8, .bool a1_9, .int .i64 a1_10, .bool a1_11, .int .i64 a1_12, .int .i64 a1_13, .bool a1_14, .bool a1_15] 36 (0, 0)) (by (with_reducible repeat (first | refine blk_drewN ?_ _ | refine blk_drew ?_ | refine blk_alloc ?_ _)); exact BK327.out) hb); have n2_ := Aside0.mk (below_step (by repeat (first | (with_reducible first | exact HB.out | apply below_alloc | apply pw_below_drewN | apply below_drew1 | refine below_set ?_ GE326.out | refine below_set ?_ GE327.out) | exact HB.out)) hb); clear BK326; clear BK327; clear HB; have BK326 := n0_; have BK327 := n1_; have HB := n2_; clear n0_ n1_ n2_; (try clear hb); (try clear hb2); (try clear hk); (try clear hi)))
   (try simp only [Act.put, List.setIfInBounds_toArray, List.set_cons_zero, List.set_cons_succ])
   go_cut [27] (fun v27 wc => ∃ (kq : Nat) (x27_5 : Bool), v27 = .bool x27_5 ∧ Aside0 (regletlaw08_MeasureCosts.j0 kq a2 x27_5 a0_0 a0_1 a0_2 a0_3 a0_4 a0_5 a0_6 a1_0 a1_1 a1_2 a1_3 a1_4 a1_5 a1_6 a1_7 a1_8 a1_9 a1_10 a1_11 a1_12 a1_13 a1_14 a1_15 = some r) ∧ Aside0 (kq ≤ k) ∧ Aside0 (wc.heap[gb326]? = some (.cells #[.int .i64 a0_0, .int .i64 a0_1, .int .i64 a0_2, .int .i64 a0_3, .int .i64 a0_4, .int .i64 a0_5, .int .i64 a0_6] 26 (0, 0))) ∧ Aside0 (wc.heap[gb327]? = some (.cells #[.int .i64 a1_0, .int .i64 a1_1, .int .i64 a1_2, .int .i64 a1_3, .bool a1_4, .int .i64 a1_5, .int .i64 a1_6, .int .i64 a1_7, .int .i64 a1_8, .bool a1_9, .int .i64 a1_10, .bool a1_11, .int .i64 a1_12, .int .i64 a1_13, .bool a1_14, .bool a1_15] 36 (0, 0))) ∧ Aside0 (Below w.heap.size w wc))
   case first =>
     have H := HC6.out
     clear HC6
     by_cases c10 : a2 < (-1000)
     · rw [if_pos c10] at H
       have c10b0 : decide (a2 < (-1000)) = true := decide_eq_true c10
       clear c10
       (first | rw [c10b0] | (simp only [i64_w, i32_w]; rw [c10b0]) | skip)
       have H' := Aside0.mk H
       clear H
       go_wp2
       go_meet
       case rel => exact ⟨_, (true), (by first | rfl | (simp; done) | (simp [*]; done)), H', ⟨by first | omega | exact Nat.le_refl _⟩, ⟨by (with_reducible repeat (first | refine blk_drewN ?_ _ | refine blk_drew ?_ | refine blk_alloc ?_ _)); exact BK326.out⟩, ⟨by (with_reducible repeat (first | refine blk_drewN ?_ _ | refine blk_drew ?_ | refine blk_alloc ?_ _)); exact BK327.out⟩, ⟨by repeat (first | (with_reducible first | exact HB.out | apply below_alloc | apply pw_below_drewN | apply below_drew1 | refine below_set ?_ GE326.out | refine below_set ?_ GE327.out) | exact HB.out)⟩⟩
     · rw [if_neg c10] at H
       have c10b0 : decide (a2 < (-1000)) = false := decide_eq_false c10
       clear c10
       (first | rw [c10b0] | (simp only [i64_w, i32_w]; rw [c10b0]) | skip)
       by_cases c11 : a2 > 1000
       · rw [if_pos c11] at H
         have c11b0 : decide (1000 < a2) = true := decide_eq_true c11
         clear c11
         have H' := Aside0.mk H
         clear H
         go_wp2
         go_meet
         case rel => exact ⟨_, (true), (by first | rfl | (simp; done) | (simp [*]; done)), H', ⟨by first | omega | exact Nat.le_refl _⟩, ⟨by (with_reducible repeat (first | refine blk_drewN ?_ _ | refine blk_drew ?_ | refine blk_alloc ?_ _)); exact BK326.out⟩, ⟨by (with_reducible repeat (first | refine blk_drewN ?_ _ | refine blk_drew ?_ | refine blk_alloc ?_ _)); exact BK327.out⟩, ⟨by repeat (first | (with_reducible first | exact HB.out | apply below_alloc | apply pw_below_drewN | apply below_drew1 | refine below_set ?_ GE326.out | refine below_set ?_ GE327.out) | exact HB.out)⟩⟩
       · rw [if_neg c11] at H
         have c11b0 : decide (1000 < a2) = false := decide_eq_false c11
         clear c11
         by_cases c12 : a1_3 < (-1000)
         · rw [if_pos c12] at H
           have c12b0 : decide (a1_3 < (-1000)) = true := decide_eq_true c12
           clear c12
           have H' := Aside0.mk H
           clear H
           have hnb13 := NB327_326.out
           have hnc13 := NB326_327.out
           have hcz14_0 : w9.cell? ⟨gb327, 0, none⟩ = some (.int .i64 a1_0) := (blk_cell BK327.out 0).trans rfl
           have hcz14_1 : w9.cell? ⟨gb327, 1, none⟩ = some (.int .i64 a1_1) := (blk_cell BK327.out 1).trans rfl
           have hcz14_2 : w9.cell? ⟨gb327, 2, none⟩ = some (.int .i64 a1_2) := (blk_cell BK327.out 2).trans rfl
           have hcz14_3 : w9.cell? ⟨gb327, 3, none⟩ = some (.int .i64 a1_3) := (blk_cell BK327.out 3).trans rfl
           have hcz14_4 : w9.cell? ⟨gb327, 4, none⟩ = some (.bool a1_4) := (blk_cell BK327.out 4).trans rfl
           have hcz14_5 : w9.cell? ⟨gb327, 5, none⟩ = some (.int .i64 a1_5) := (blk_cell BK327.out 5).trans rfl
           have hcz14_6 : w9.cell? ⟨gb327, 6, none⟩ = some (.int .i64 a1_6) := (blk_cell BK327.out 6).trans rfl
           have hcz14_7 : w9.cell? ⟨gb327, 7, none⟩ = some (.int .i64 a1_7) := (blk_cell BK327.out 7).trans rfl
           have hcz14_8 : w9.cell? ⟨gb327, 8, none⟩ = some (.int .i64 a1_8) := (blk_cell BK327.out 8).trans rfl
           have hcz14_9 : w9.cell? ⟨gb327, 9, none⟩ = some (.bool a1_9) := (blk_cell BK327.out 9).trans rfl
           have hcz14_10 : w9.cell? ⟨gb327, 10, none⟩ = some (.int .i64 a1_10) := (blk_cell BK327.out 10).trans rfl
           have hcz14_11 : w9.cell? ⟨gb327, 11, none⟩ = some (.bool a1_11) := (blk_cell BK327.out 11).trans rfl
           have hcz14_12 : w9.cell? ⟨gb327, 12, none⟩ = some (.int .i64 a1_12) := (blk_cell BK327.out 12).trans rfl
           have hcz14_13 : w9.cell? ⟨gb327, 13, none⟩ = some (.int .i64 a1_13) := (blk_cell BK327.out 13).trans rfl
           have hcz14_14 : w9.cell? ⟨gb327, 14, none⟩ = some (.bool a1_14) := (blk_cell BK327.out 14).trans rfl
           have hcz14_15 : w9.cell? ⟨gb327, 15, none⟩ = some (.bool a1_15) := (blk_cell BK327.out 15).trans rfl
           have hfz14_0 := blk_frozen BK327.out 0
           have hfz14_1 := blk_frozen BK327.out 1
           have hfz14_2 := blk_frozen BK327.out 2
           have hfz14_3 := blk_frozen BK327.out 3
           have hfz14_4 := blk_frozen BK327.out 4
           have hfz14_5 := blk_frozen BK327.out 5
           have hfz14_6 := blk_frozen BK327.out 6
           have hfz14_7 := blk_frozen BK327.out 7
           have hfz14_8 := blk_frozen BK327.out 8
           have hfz14_9 := blk_frozen BK327.out 9
           have hfz14_10 := blk_frozen BK327.out 10
           have hfz14_11 := blk_frozen BK327.out 11
           have hfz14_12 := blk_frozen BK327.out 12
           have hfz14_13 := blk_frozen BK327.out 13
           have hfz14_14 := blk_frozen BK327.out 14
           have hfz14_15 := blk_frozen BK327.out 15
           go_wp2
           go_meet
           case rel => exact ⟨_, (true), (by first | rfl | (simp; done) | (simp [*]; done)), H', ⟨by first | omega | exact Nat.le_refl _⟩, ⟨by (with_reducible repeat (first | refine blk_drewN ?_ _ | refine blk_drew ?_ | refine blk_alloc ?_ _)); exact BK326.out⟩, ⟨by (with_reducible repeat (first | refine blk_drewN ?_ _ | refine blk_drew ?_ | refine blk_alloc ?_ _)); exact BK327.out⟩, ⟨by repeat (first | (with_reducible first | exact HB.out | apply below_alloc | apply pw_below_drewN | apply below_drew1 | refine below_set ?_ GE326.out | refine below_set ?_ GE327.out) | exact HB.out)⟩⟩
         · rw [if_neg c12] at H
           have c12b0 : decide (a1_3 < (-1000)) = false := decide_eq_false c12
           clear c12
           have H' := Aside0.mk H
           clear H
           have hnb15 := NB327_326.out
           have hnc15 := NB326_327.out
           have hcz16_0 : w9.cell? ⟨gb327, 0, none⟩ = some (.int .i64 a1_0) := (blk_cell BK327.out 0).trans rfl
           have hcz16_1 : w9.cell? ⟨gb327, 1, none⟩ = some (.int .i64 a1_1) := (blk_cell BK327.out 1).trans rfl
           have hcz16_2 : w9.cell? ⟨gb327, 2, none⟩ = some (.int .i64 a1_2) := (blk_cell BK327.out 2).trans rfl
           have hcz16_3 : w9.cell? ⟨gb327, 3, none⟩ = some (.int .i64 a1_3) := (blk_cell BK327.out 3).trans rfl
           have hcz16_4 : w9.cell? ⟨gb327, 4, none⟩ = some (.bool a1_4) := (blk_cell BK327.out 4).trans rfl
           have hcz16_5 : w9.cell? ⟨gb327, 5, none⟩ = some (.int .i64 a1_5) := (blk_cell BK327.out 5).trans rfl
           have hcz16_6 : w9.cell? ⟨gb327, 6, none⟩ = some (.int .i64 a1_6) := (blk_cell BK327.out 6).trans rfl
           have hcz16_7 : w9.cell? ⟨gb327, 7, none⟩ = some (.int .i64 a1_7) := (blk_cell BK327.out 7).trans rfl
           have hcz16_8 : w9.cell? ⟨gb327, 8, none⟩ = some (.int .i64 a1_8) := (blk_cell BK327.out 8).trans rfl
           have hcz16_9 : w9.cell? ⟨gb327, 9, none⟩ = some (.bool a1_9) := (blk_cell BK327.out 9).trans rfl
           have hcz16_10 : w9.cell? ⟨gb327, 10, none⟩ = some (.int .i64 a1_10) := (blk_cell BK327.out 10).trans rfl
           have hcz16_11 : w9.cell? ⟨gb327, 11, none⟩ = some (.bool a1_11) := (blk_cell BK327.out 11).trans rfl
           have hcz16_12 : w9.cell? ⟨gb327, 12, none⟩ = some (.int .i64 a1_12) := (blk_cell BK327.out 12).trans rfl
           have hcz16_13 : w9.cell? ⟨gb327, 13, none⟩ = some (.int .i64 a1_13) := (blk_cell BK327.out 13).trans rfl
           have hcz16_14 : w9.cell? ⟨gb327, 14, none⟩ = some (.bool a1_14) := (blk_cell BK327.out 14).trans rfl
           have hcz16_15 : w9.cell? ⟨gb327, 15, none⟩ = some (.bool a1_15) := (blk_cell BK327.out 15).trans rfl
           have hfz16_0 := blk_frozen BK327.out 0
           have hfz16_1 := blk_frozen BK327.out 1
           have hfz16_2 := blk_frozen BK327.out 2
           have hfz16_3 := blk_frozen BK327.out 3
           have hfz16_4 := blk_frozen BK327.out 4
           have hfz16_5 := blk_frozen BK327.out 5
           have hfz16_6 := blk_frozen BK327.out 6
           have hfz16_7 := blk_frozen BK327.out 7
           have hfz16_8 := blk_frozen BK327.out 8
           have hfz16_9 := blk_frozen BK327.out 9
           have hfz16_10 := blk_frozen BK327.out 10
           have hfz16_11 := blk_frozen BK327.out 11
           have hfz16_12 := blk_frozen BK327.out 12
           have hfz16_13 := blk_frozen BK327.out 13
           have hfz16_14 := blk_frozen BK327.out 14
           have hfz16_15 := blk_frozen BK327.out 15
           go_wp2
           go_meet
           case rel => exact ⟨_, (decide (a1_3 > 1000)), (by first | rfl | (simp; done) | (simp [*]; done)), H', ⟨by first | omega | exact Nat.le_refl _⟩, ⟨by (with_reducible repeat (first | refine blk_drewN ?_ _ | refine blk_drew ?_ | refine blk_alloc ?_ _)); exact BK326.out⟩, ⟨by (with_reducible repeat (first | refine blk_drewN ?_ _ | refine blk_drew ?_ | refine blk_alloc ?_ _)); exact BK327.out⟩, ⟨by repeat (first | (with_reducible first | exact HB.out | apply below_alloc | apply pw_below_drewN | apply below_drew1 | refine below_set ?_ GE326.out | refine below_set ?_ GE327.out) | exact HB.out)⟩⟩
   case rest =>
     clear HC6
     try clear c1
     try clear p2
     try clear c5
     try clear c10
     try clear c10b0
     try clear c11
     try clear c11b0
     try clear c12
     try clear c12b0
     try clear c13
     try clear c15
     try clear hcz14_0
     try clear hcz14_1
     try clear hcz14_10
     try clear hcz14_11
     try clear hcz14_12
     try clear hcz14_13
     try clear hcz14_14
     try clear hcz14_15
     try clear hcz14_2
     try clear hcz14_3
     try clear hcz14_4
     try clear hcz14_5
     try clear hcz14_6
     try clear hcz14_7
     try clear hcz14_8
     try clear hcz14_9
     try clear hcz16_0
     try clear hcz16_1
     try clear hcz16_10
     try clear hcz16_11
     try clear hcz16_12
     try clear hcz16_13
     try clear hcz16_14
     try clear hcz16_15
     try clear hcz16_2
     try clear hcz16_3
     try clear hcz16_4
     try clear hcz16_5
     try clear hcz16_6
     try clear hcz16_7
     try clear hcz16_8
     try clear hcz16_9
     try clear hfz14_0
     try clear hfz14_1
     try clear hfz14_10
     try clear hfz14_11
     try clear hfz14_12
     try clear hfz14_13
     try clear hfz14_14
     try clear hfz14_15
     try clear hfz14_2
     try clear hfz14_3
     try clear hfz14_4
     try clear hfz14_5
     try clear hfz14_6
     try clear hfz14_7
     try clear hfz14_8
     try clear hfz14_9
     try clear hfz16_0
     try clear hfz16_1
     try clear hfz16_10
     try clear hfz16_11
     try clear hfz16_12
     try clear hfz16_13
     try clear hfz16_14
     try clear hfz16_15
     try clear hfz16_2
     try clear hfz16_3
     try clear hfz16_4
     try clear hfz16_5
     try clear hfz16_6
     try clear hfz16_7
     try clear hfz16_8
     try clear hfz16_9
     obtain ⟨kq, x27_5, rfl, HA, HJ5, BK326, BK327, HB⟩ := hcut
     cases kq with
     | zero => exact absurd HA.out (by simp [regletlaw08_MeasureCosts.j0])
     | succ kj5 =>
       have H := HA.out
       clear HA
       simp only [regletlaw08_MeasureCosts.j0] at H
       by_cases c17 : x27_5 = true
       · subst c17
         have H1 : (some true) = some r := by rw [if_pos rfl] at H; exact H
         clear H
         have H := H1
         clear H1
         obtain rfl := Option.some.inj H
         go_wp2
         go_ret
         exact ⟨by first | rfl | (simp [errW_none, errW_some] <;> rfl) | (simp [*, errW_none, errW_some] <;> rfl), by repeat (first | (with_reducible first | exact HB.out | apply below_alloc | apply pw_below_drewN | apply below_drew1 | refine below_set ?_ GE326.out | refine below_set ?_ GE327.out) | exact HB.out)⟩
       · replace c17 := Bool.eq_false_iff.mpr c17
         subst c17
         have H1 : ((measure_Cost.f kj5 a0_0 a0_1 a0_2 a0_3 a0_4 a0_5 a0_6 a1_0 a1_1 a1_2 a1_3 a1_4 a1_5 a1_6 a1_7 a1_8 a1_9 a1_10 a1_11 a1_12 a1_13 a2 a1_14 a1_15).bind fun t329 => ((regletref08_Cost.f kj5 a0_0 a0_1 a0_2 a0_3 a0_4 a0_5 a0_6 a1_0 a1_1 a1_2 a1_3 a1_4 a1_5 a1_6 a1_7 a1_8 a1_9 a1_10 a1_11 a1_12 a1_13 a2 a1_14 a1_15).bind fun t330 => (some (t329 == t330)))) = some r := by rw [if_neg (show ¬ (false = true) by decide)] at H; exact H
         clear H
         have H := H1
         clear H1
         replace H := Option.bind_eq_some_iff.mp H
         obtain ⟨t329, A180, H⟩ := H
         replace H : ((regletref08_Cost.f kj5 a0_0 a0_1 a0_2 a0_3 a0_4 a0_5 a0_6 a1_0 a1_1 a1_2 a1_3 a1_4 a1_5 a1_6 a1_7 a1_8 a1_9 a1_10 a1_11 a1_12 a1_13 a2 a1_14 a1_15).bind fun t330 => (some (t329 == t330))) = some r := H
         have A18 := Aside0.mk A180
         clear A180
         replace H := Option.bind_eq_some_iff.mp H
         obtain ⟨t330, A190, H⟩ := H
         replace H : (some (t329 == t330)) = some r := H
         have A19 := Aside0.mk A190
         clear A190
         obtain rfl := Option.some.inj H
         have hnb20 := NB326_327.out
         have hnc20 := NB327_326.out
         have hcz21_0 : wc.cell? ⟨gb326, 0, none⟩ = some (.int .i64 a0_0) := (blk_cell BK326.out 0).trans rfl
         have hcz21_1 : wc.cell? ⟨gb326, 1, none⟩ = some (.int .i64 a0_1) := (blk_cell BK326.out 1).trans rfl
         have hcz21_2 : wc.cell? ⟨gb326, 2, none⟩ = some (.int .i64 a0_2) := (blk_cell BK326.out 2).trans rfl
         have hcz21_3 : wc.cell? ⟨gb326, 3, none⟩ = some (.int .i64 a0_3) := (blk_cell BK326.out 3).trans rfl
         have hcz21_4 : wc.cell? ⟨gb326, 4, none⟩ = some (.int .i64 a0_4) := (blk_cell BK326.out 4).trans rfl
         have hcz21_5 : wc.cell? ⟨gb326, 5, none⟩ = some (.int .i64 a0_5) := (blk_cell BK326.out 5).trans rfl
         have hcz21_6 : wc.cell? ⟨gb326, 6, none⟩ = some (.int .i64 a0_6) := (blk_cell BK326.out 6).trans rfl
         have hfz21_0 := blk_frozen BK326.out 0
         have hfz21_1 := blk_frozen BK326.out 1
         have hfz21_2 := blk_frozen BK326.out 2
         have hfz21_3 := blk_frozen BK326.out 3
         have hfz21_4 := blk_frozen BK326.out 4
         have hfz21_5 := blk_frozen BK326.out 5
         have hfz21_6 := blk_frozen BK326.out 6
         have hcz22_0 : wc.cell? ⟨gb327, 0, none⟩ = some (.int .i64 a1_0) := (blk_cell BK327.out 0).trans rfl
         have hcz22_1 : wc.cell? ⟨gb327, 1, none⟩ = some (.int .i64 a1_1) := (blk_cell BK327.out 1).trans rfl
         have hcz22_2 : wc.cell? ⟨gb327, 2, none⟩ = some (.int .i64 a1_2) := (blk_cell BK327.out 2).trans rfl
         have hcz22_3 : wc.cell? ⟨gb327, 3, none⟩ = some (.int .i64 a1_3) := (blk_cell BK327.out 3).trans rfl
         have hcz22_4 : wc.cell? ⟨gb327, 4, none⟩ = some (.bool a1_4) := (blk_cell BK327.out 4).trans rfl
         have hcz22_5 : wc.cell? ⟨gb327, 5, none⟩ = some (.int .i64 a1_5) := (blk_cell BK327.out 5).trans rfl
         have hcz22_6 : wc.cell? ⟨gb327, 6, none⟩ = some (.int .i64 a1_6) := (blk_cell BK327.out 6).trans rfl
         have hcz22_7 : wc.cell? ⟨gb327, 7, none⟩ = some (.int .i64 a1_7) := (blk_cell BK327.out 7).trans rfl
         have hcz22_8 : wc.cell? ⟨gb327, 8, none⟩ = some (.int .i64 a1_8) := (blk_cell BK327.out 8).trans rfl
         have hcz22_9 : wc.cell? ⟨gb327, 9, none⟩ = some (.bool a1_9) := (blk_cell BK327.out 9).trans rfl
         have hcz22_10 : wc.cell? ⟨gb327, 10, none⟩ = some (.int .i64 a1_10) := (blk_cell BK327.out 10).trans rfl
         have hcz22_11 : wc.cell? ⟨gb327, 11, none⟩ = some (.bool a1_11) := (blk_cell BK327.out 11).trans rfl
         have hcz22_12 : wc.cell? ⟨gb327, 12, none⟩ = some (.int .i64 a1_12) := (blk_cell BK327.out 12).trans rfl
         have hcz22_13 : wc.cell? ⟨gb327, 13, none⟩ = some (.int .i64 a1_13) := (blk_cell BK327.out 13).trans rfl
         have hcz22_14 : wc.cell? ⟨gb327, 14, none⟩ = some (.bool a1_14) := (blk_cell BK327.out 14).trans rfl
         have hcz22_15 : wc.cell? ⟨gb327, 15, none⟩ = some (.bool a1_15) := (blk_cell BK327.out 15).trans rfl
         have hfz22_0 := blk_frozen BK327.out 0
         have hfz22_1 := blk_frozen BK327.out 1
         have hfz22_2 := blk_frozen BK327.out 2
         have hfz22_3 := blk_frozen BK327.out 3
         have hfz22_4 := blk_frozen BK327.out 4
         have hfz22_5 := blk_frozen BK327.out 5
         have hfz22_6 := blk_frozen BK327.out 6
         have hfz22_7 := blk_frozen BK327.out 7
         have hfz22_8 := blk_frozen BK327.out 8
         have hfz22_9 := blk_frozen BK327.out 9
         have hfz22_10 := blk_frozen BK327.out 10
         have hfz22_11 := blk_frozen BK327.out 11
         have hfz22_12 := blk_frozen BK327.out 12
         have hfz22_13 := blk_frozen BK327.out 13
         have hfz22_14 := blk_frozen BK327.out 14
         have hfz22_15 := blk_frozen BK327.out 15
         go_wp2_with (first | ((with_reducible refine gate_callee (f := 16) rfl ?_); refine goesL_ (some 39) rfl rfl Try.func16 (by kernel_rfl) rfl #[.agg #[.int .i64 a0_0, .int .i64 a0_1, .int .i64 a0_2, .int .i64 a0_3, .int .i64 a0_4, .int .i64 a0_5, .int .i64 a0_6], .agg #[.int .i64 a1_0, .int .i64 a1_1, .int .i64 a1_2, .int .i64 a1_3, .bool a1_4], .agg #[.int .i64 a1_5, .int .i64 a1_6, .int .i64 a1_7, .int .i64 a1_8, .bool a1_9, .int .i64 a1_10, .bool a1_11, .int .i64 a1_12, .int .i64 a1_13], .agg #[.int .i64 a2, .bool a1_14], .bool a1_15] rfl (by (try simp only [List.map_toArray, List.map_cons, List.map_nil]); first | done | rfl | (simp only [List.length_drop, List.length_take]; rfl)) ?_; (with_reducible refine (measure_Cost.calls kj5 a0_0 a0_1 a0_2 a0_3 a0_4 a0_5 a0_6 a1_0 a1_1 a1_2 a1_3 a1_4 a1_5 a1_6 a1_7 a1_8 a1_9 a1_10 a1_11 a1_12 a1_13 a2 a1_14 a1_15 t329 _ A18.out).mono ?_); rintro e w23 ⟨rfl, hb⟩; refine ⟨_, rfl, ?_⟩; have n0_ := Aside0.mk (blk_below (g := gb326) (o := .cells #[.int .i64 a0_0, .int .i64 a0_1, .int .i64 a0_2, .int .i64 a0_3, .int .i64 a0_4, .int .i64 a0_5, .int .i64 a0_6] 26 (0, 0)) (by (with_reducible repeat (first | refine blk_drewN ?_ _ | refine blk_drew ?_ | refine blk_alloc ?_ _)); exact BK326.out) hb); have n1_ := Aside0.mk (blk_below (g := gb327) (o := .cells #[.int .i64 a1_0, .int .i64 a1_1, .int .i64 a1_2, .int .i64 a1_3, .bool a1_4, .int .i64 a1_5, .int .i64 a1_6, .int .i64 a1_7, .int .i64 a1_8, .bool a1_9, .int .i64 a1_10, .bool a1_11, .int .i64 a1_12, .int .i64 a1_13, .bool a1_14, .bool a1_15] 36 (0, 0)) (by (with_reducible repeat (first | refine blk_drewN ?_ _ | refine blk_drew ?_ | refine blk_alloc ?_ _)); exact BK327.out) hb); have n2_ := Aside0.mk (below_step (by repeat (first | (with_reducible first | exact HB.out | apply below_alloc | apply pw_below_drewN | apply below_drew1 | refine below_set ?_ GE326.out | refine below_set ?_ GE327.out) | exact HB.out)) hb); clear BK326; clear BK327; clear HB; have BK326 := n0_; have BK327 := n1_; have HB := n2_; clear n0_ n1_ n2_; (try clear hb); (try clear hb2); (try clear hk); (try clear hi); have hcz24_0 : w23.cell? ⟨gb326, 0, none⟩ = some (.int .i64 a0_0) := (blk_cell BK326.out 0).trans rfl; have hcz24_1 : w23.cell? ⟨gb326, 1, none⟩ = some (.int .i64 a0_1) := (blk_cell BK326.out 1).trans rfl; have hcz24_2 : w23.cell? ⟨gb326, 2, none⟩ = some (.int .i64 a0_2) := (blk_cell BK326.out 2).trans rfl; have hcz24_3 : w23.cell? ⟨gb326, 3, none⟩ = some (.int .i64 a0_3) := (blk_cell BK326.out 3).trans rfl; have hcz24_4 : w23.cell? ⟨gb326, 4, none⟩ = some (.int .i64 a0_4) := (blk_cell BK326.out 4).trans rfl; have hcz24_5 : w23.cell? ⟨gb326, 5, none⟩ = some (.int .i64 a0_5) := (blk_cell BK326.out 5).trans rfl; have hcz24_6 : w23.cell? ⟨gb326, 6, none⟩ = some (.int .i64 a0_6) := (blk_cell BK326.out 6).trans rfl; have hfz24_0 := blk_frozen BK326.out 0; have hfz24_1 := blk_frozen BK326.out 1; have hfz24_2 := blk_frozen BK326.out 2; have hfz24_3 := blk_frozen BK326.out 3; have hfz24_4 := blk_frozen BK326.out 4; have hfz24_5 := blk_frozen BK326.out 5; have hfz24_6 := blk_frozen BK326.out 6; have hcz25_0 : w23.cell? ⟨gb327, 0, none⟩ = some (.int .i64 a1_0) := (blk_cell BK327.out 0).trans rfl; have hcz25_1 : w23.cell? ⟨gb327, 1, none⟩ = some (.int .i64 a1_1) := (blk_cell BK327.out 1).trans rfl; have hcz25_2 : w23.cell? ⟨gb327, 2, none⟩ = some (.int .i64 a1_2) := (blk_cell BK327.out 2).trans rfl; have hcz25_3 : w23.cell? ⟨gb327, 3, none⟩ = some (.int .i64 a1_3) := (blk_cell BK327.out 3).trans rfl; have hcz25_4 : w23.cell? ⟨gb327, 4, none⟩ = some (.bool a1_4) := (blk_cell BK327.out 4).trans rfl; have hcz25_5 : w23.cell? ⟨gb327, 5, none⟩ = some (.int .i64 a1_5) := (blk_cell BK327.out 5).trans rfl; have hcz25_6 : w23.cell? ⟨gb327, 6, none⟩ = some (.int .i64 a1_6) := (blk_cell BK327.out 6).trans rfl; have hcz25_7 : w23.cell? ⟨gb327, 7, none⟩ = some (.int .i64 a1_7) := (blk_cell BK327.out 7).trans rfl; have hcz25_8 : w23.cell? ⟨gb327, 8, none⟩ = some (.int .i64 a1_8) := (blk_cell BK327.out 8).trans rfl; have hcz25_9 : w23.cell? ⟨gb327, 9, none⟩ = some (.bool a1_9) := (blk_cell BK327.out 9).trans rfl; have hcz25_10 : w23.cell? ⟨gb327, 10, none⟩ = some (.int .i64 a1_10) := (blk_cell BK327.out 10).trans rfl; have hcz25_11 : w23.cell? ⟨gb327, 11, none⟩ = some (.bool a1_11) := (blk_cell BK327.out 11).trans rfl; have hcz25_12 : w23.cell? ⟨gb327, 12, none⟩ = some (.int .i64 a1_12) := (blk_cell BK327.out 12).trans rfl; have hcz25_13 : w23.cell? ⟨gb327, 13, none⟩ = some (.int .i64 a1_13) := (blk_cell BK327.out 13).trans rfl; have hcz25_14 : w23.cell? ⟨gb327, 14, none⟩ = some (.bool a1_14) := (blk_cell BK327.out 14).trans rfl; have hcz25_15 : w23.cell? ⟨gb327, 15, none⟩ = some (.bool a1_15) := (blk_cell BK327.out 15).trans rfl; have hfz25_0 := blk_frozen BK327.out 0; have hfz25_1 := blk_frozen BK327.out 1; have hfz25_2 := blk_frozen BK327.out 2; have hfz25_3 := blk_frozen BK327.out 3; have hfz25_4 := blk_frozen BK327.out 4; have hfz25_5 := blk_frozen BK327.out 5; have hfz25_6 := blk_frozen BK327.out 6; have hfz25_7 := blk_frozen BK327.out 7; have hfz25_8 := blk_frozen BK327.out 8; have hfz25_9 := blk_frozen BK327.out 9; have hfz25_10 := blk_frozen BK327.out 10; have hfz25_11 := blk_frozen BK327.out 11; have hfz25_12 := blk_frozen BK327.out 12; have hfz25_13 := blk_frozen BK327.out 13; have hfz25_14 := blk_frozen BK327.out 14; have hfz25_15 := blk_frozen BK327.out 15) | ((with_reducible refine gate_callee (f := 17) rfl ?_); refine goesL_ (some 51) rfl rfl Try.func17 (by kernel_rfl) rfl #[.agg #[.int .i64 a0_0, .int .i64 a0_1, .int .i64 a0_2, .int .i64 a0_3, .int .i64 a0_4, .int .i64 a0_5, .int .i64 a0_6], .agg #[.int .i64 a1_0, .int .i64 a1_1, .int .i64 a1_2, .int .i64 a1_3, .bool a1_4], .agg #[.int .i64 a1_5, .int .i64 a1_6, .int .i64 a1_7, .int .i64 a1_8, .bool a1_9, .int .i64 a1_10, .bool a1_11, .int .i64 a1_12, .int .i64 a1_13], .int .i64 a2, .bool a1_14, .bool a1_15] rfl (by (try simp only [List.map_toArray, List.map_cons, List.map_nil]); first | done | rfl | (simp only [List.length_drop, List.length_take]; rfl)) ?_; (with_reducible refine (regletref08_Cost.calls kj5 a0_0 a0_1 a0_2 a0_3 a0_4 a0_5 a0_6 a1_0 a1_1 a1_2 a1_3 a1_4 a1_5 a1_6 a1_7 a1_8 a1_9 a1_10 a1_11 a1_12 a1_13 a2 a1_14 a1_15 t330 _ A19.out).mono ?_); rintro e w26 ⟨rfl, hb⟩; refine ⟨_, rfl, ?_⟩; have n0_ := Aside0.mk (blk_below (g := gb326) (o := .cells #[.int .i64 a0_0, .int .i64 a0_1, .int .i64 a0_2, .int .i64 a0_3, .int .i64 a0_4, .int .i64 a0_5, .int .i64 a0_6] 26 (0, 0)) (by (with_reducible repeat (first | refine blk_drewN ?_ _ | refine blk_drew ?_ | refine blk_alloc ?_ _)); exact BK326.out) hb); have n1_ := Aside0.mk (blk_below (g := gb327) (o := .cells #[.int .i64 a1_0, .int .i64 a1_1, .int .i64 a1_2, .int .i64 a1_3, .bool a1_4, .int .i64 a1_5, .int .i64 a1_6, .int .i64 a1_7, .int .i64 a1_8, .bool a1_9, .int .i64 a1_10, .bool a1_11, .int .i64 a1_12, .int .i64 a1_13, .bool a1_14, .bool a1_15] 36 (0, 0)) (by (with_reducible repeat (first | refine blk_drewN ?_ _ | refine blk_drew ?_ | refine blk_alloc ?_ _)); exact BK327.out) hb); have n2_ := Aside0.mk (below_step (by repeat (first | (with_reducible first | exact HB.out | apply below_alloc | apply pw_below_drewN | apply below_drew1 | refine below_set ?_ GE326.out | refine below_set ?_ GE327.out) | exact HB.out)) hb); clear BK326; clear BK327; clear HB; have BK326 := n0_; have BK327 := n1_; have HB := n2_; clear n0_ n1_ n2_; (try clear hb); (try clear hb2); (try clear hk); (try clear hi)))
         go_ret
         exact ⟨by first | rfl | (simp [errW_none, errW_some] <;> rfl) | (simp [*, errW_none, errW_some] <;> rfl), by repeat (first | (with_reducible first | exact HB.out | apply below_alloc | apply pw_below_drewN | apply below_drew1 | refine below_set ?_ GE326.out | refine below_set ?_ GE327.out) | exact HB.out)⟩
 · replace c5 := Bool.eq_false_iff.mpr c5
   subst c5
   have H1 : (some false) = some r := by rw [if_neg (show ¬ (false = true) by decide)] at H; exact H
   clear H
   have H := H1
   clear H1
   obtain rfl := Option.some.inj H
   go_enter Try.func5, Try.ntmps5
   go_wp2_with (first | ((with_reducible refine gate_dst (N := 3) rfl ?_); refine box_event ?hg (N := 3) ?hd (cs := #[.int .i64 a0_0, .int .i64 a0_1, .int .i64 a0_2, .int .i64 a0_3, .int .i64 a0_4, .int .i64 a0_5, .int .i64 a0_6]) (t := 26) ?hr ?_; (case hd => rfl); (case hg => rfl); (case hr => first | (go_simp; done) | (go_simp; rfl)); intro gb326 hg w27 hbox hb; have n0_ := Aside0.mk (below_step (by repeat (first | (with_reducible first | exact HB.out | apply below_alloc | apply pw_below_drewN | apply below_drew1) | exact HB.out)) hb); have n1_ := Aside0.mk (hbox); have n2_ := Aside0.mk ((by rw [hg]; exact (below_size (by repeat (first | (with_reducible first | exact HB.out | apply below_alloc | apply pw_below_drewN | apply below_drew1) | exact HB.out))) : w.heap.size ≤ gb326)); have n3_ := Aside0.mk ((by rw [hg]; exact (below_size (by repeat (first | (with_reducible first | exact HB.out | apply below_alloc | apply pw_below_drewN | apply below_drew1) | exact HB.out))) : w.heap.size ≤ gb326)); clear HB; have HB := n0_; have BK326 := n1_; have GW326 := n2_; have GE326 := n3_; clear n0_ n1_ n2_ n3_; clear hb hbox hg) | ((with_reducible refine gate_dst (N := 4) rfl ?_); refine box_event ?hg (N := 4) ?hd (cs := #[.int .i64 a1_0, .int .i64 a1_1, .int .i64 a1_2, .int .i64 a1_3, .bool a1_4, .int .i64 a1_5, .int .i64 a1_6, .int .i64 a1_7, .int .i64 a1_8, .bool a1_9, .int .i64 a1_10, .bool a1_11, .int .i64 a1_12, .int .i64 a1_13, .bool a1_14, .bool a1_15]) (t := 36) ?hr ?_; (case hd => rfl); (case hg => rfl); (case hr => first | (go_simp; done) | (go_simp; rfl)); intro gb327 hg w28 hbox hb; have n0_ := Aside0.mk (blk_below (g := gb326) (o := .cells #[.int .i64 a0_0, .int .i64 a0_1, .int .i64 a0_2, .int .i64 a0_3, .int .i64 a0_4, .int .i64 a0_5, .int .i64 a0_6] 26 (0, 0)) (by (with_reducible repeat (first | refine blk_drewN ?_ _ | refine blk_drew ?_ | refine blk_alloc ?_ _)); exact BK326.out) hb); have n1_ := Aside0.mk (below_step (by repeat (first | (with_reducible first | exact HB.out | apply below_alloc | apply pw_below_drewN | apply below_drew1 | refine below_set ?_ GE326.out) | exact HB.out)) hb); have n2_ := Aside0.mk (hbox); have n3_ := Aside0.mk ((by rw [hg]; exact (below_size (by repeat (first | (with_reducible first | exact HB.out | apply below_alloc | apply pw_below_drewN | apply below_drew1 | refine below_set ?_ GE326.out) | exact HB.out))) : w.heap.size ≤ gb327)); have n4_ := Aside0.mk ((by rw [hg]; exact (below_size (by repeat (first | (with_reducible first | exact HB.out | apply below_alloc | apply pw_below_drewN | apply below_drew1 | refine below_set ?_ GE326.out) | exact HB.out))) : w.heap.size ≤ gb327)); have n5_ := Aside0.mk ((by rw [hg]; exact Nat.ne_of_lt (blk_lt (g := gb326) (o := .cells #[.int .i64 a0_0, .int .i64 a0_1, .int .i64 a0_2, .int .i64 a0_3, .int .i64 a0_4, .int .i64 a0_5, .int .i64 a0_6] 26 (0, 0)) (by (with_reducible repeat (first | refine blk_drewN ?_ _ | refine blk_drew ?_ | refine blk_alloc ?_ _)); exact BK326.out)) : gb326 ≠ gb327)); have n6_ := Aside0.mk ((by rw [hg]; exact Nat.ne_of_gt (blk_lt (g := gb326) (o := .cells #[.int .i64 a0_0, .int .i64 a0_1, .int .i64 a0_2, .int .i64 a0_3, .int .i64 a0_4, .int .i64 a0_5, .int .i64 a0_6] 26 (0, 0)) (by (with_reducible repeat (first | refine blk_drewN ?_ _ | refine blk_drew ?_ | refine blk_alloc ?_ _)); exact BK326.out)) : gb327 ≠ gb326)); clear BK326; clear HB; have BK326 := n0_; have HB := n1_; have BK327 := n2_; have GW327 := n3_; have GE327 := n4_; have NB326_327 := n5_; have NB327_326 := n6_; clear n0_ n1_ n2_ n3_ n4_ n5_ n6_; clear hb hbox hg) | ((with_reducible refine gate_callee (f := 10) rfl ?_); refine goesL_ (some 8) rfl rfl Try.func10 (by kernel_rfl) rfl #[] rfl (by (try simp only [List.map_toArray, List.map_cons, List.map_nil]); first | done | rfl | (simp only [List.length_drop, List.length_take]; rfl)) ?_; (with_reducible refine (regletlaw08_awake.calls k  false _ A4.out).mono ?_); rintro e w29 ⟨rfl, hb⟩; refine ⟨_, rfl, ?_⟩; have n0_ := Aside0.mk (blk_below (g := gb326) (o := .cells #[.int .i64 a0_0, .int .i64 a0_1, .int .i64 a0_2, .int .i64 a0_3, .int .i64 a0_4, .int .i64 a0_5, .int .i64 a0_6] 26 (0, 0)) (by (with_reducible repeat (first | refine blk_drewN ?_ _ | refine blk_drew ?_ | refine blk_alloc ?_ _)); exact BK326.out) hb); have n1_ := Aside0.mk (blk_below (g := gb327) (o := .cells #[.int .i64 a1_0, .int .i64 a1_1, .int .i64 a1_2, .int .i64 a1_3, .bool a1_4, .int .i64 a1_5, .int .i64 a1_6, .int .i64 a1_7, .int .i64 a1_8, .bool a1_9, .int .i64 a1_10, .bool a1_11, .int .i64 a1_12, .int .i64 a1_13, .bool a1_14, .bool a1_15] 36 (0, 0)) (by (with_reducible repeat (first | refine blk_drewN ?_ _ | refine blk_drew ?_ | refine blk_alloc ?_ _)); exact BK327.out) hb); have n2_ := Aside0.mk (below_step (by repeat (first | (with_reducible first | exact HB.out | apply below_alloc | apply pw_below_drewN | apply below_drew1 | refine below_set ?_ GE326.out | refine below_set ?_ GE327.out) | exact HB.out)) hb); clear BK326; clear BK327; clear HB; have BK326 := n0_; have BK327 := n1_; have HB := n2_; clear n0_ n1_ n2_; (try clear hb); (try clear hb2); (try clear hk); (try clear hi)))
   go_ret
   exact ⟨by first | rfl | (simp [errW_none, errW_some] <;> rfl) | (simp [*, errW_none, errW_some] <;> rfl), by repeat (first | (with_reducible first | exact HB.out | apply below_alloc | apply pw_below_drewN | apply below_drew1 | refine below_set ?_ GE326.out | refine below_set ?_ GE327.out) | exact HB.out)⟩

end Go.Proofs.Ytdkmmddakidieaa.P
