-- PRINTED by print.py (a twelfth state) out of the translation. Not trusted: Lean checks it.
import Derived.Test.YtdkmmddakidieaaPx0
namespace Go.Proofs.Ytdkmmddakidieaa.P
open Go.RowKit Go.Proofs.YtdkmmddakidieaaW.PrintWords Go.Proofs.YtdkmmddakidieaaW.PrintLast Go.Proofs.YtdkmmddakidieaaW.PrintMore
attribute [local go_sem] max2_int min2_int max_two min_two max_three min_three max_four min_four   -- for this text's walks alone
set_option linter.unusedVariables false
set_option linter.unusedSimpArgs false

/-! ### regletref08_Settings: function 14 -/
mutual
def regletref08_Settings.j0 : Nat → Bool → Int → Int → Int → Int → Int → Int → Int → Option (Bool)
 | 0, _, _, _, _, _, _, _, _ => none
 | k + 1, x22, x202000, x202001, x202002, x202003, x202004, x202005, x202006 => if x22 = true then (some false) else (regletref08_Settings.l0 k (([x202002, x202003, x202004] : List Int)) 0 x202000 x202001 x202002 x202003 x202004 x202005 x202006)
def regletref08_Settings.l0 : Nat → List Int → Int → Int → Int → Int → Int → Int → Int → Int → Option (Bool)
 | 0, _, _, _, _, _, _, _, _, _ => none
 | k + 1, x3, x4, x202000, x202001, x202002, x202003, x202004, x202005, x202006 => if x4 < (x3.length : Int) then (if 0 ≤ x4 then (if (rd x3 x4) < 0 then (some false) else (if (rd x3 x4) > 1048576 then (some false) else (regletref08_Settings.l0 k x3 (wrap64 (x4 + 1)) x202000 x202001 x202002 x202003 x202004 x202005 x202006))) else (none)) else (if x202005 ≥ 1 then (if x202005 ≤ 100 then (if x202006 ≥ 1 then (some (decide (x202006 ≤ 100))) else (some false)) else (some false)) else (some false))
end
def regletref08_Settings.f (k : Nat) (a0_0 : Int) (a0_1 : Int) (a0_2 : Int) (a0_3 : Int) (a0_4 : Int) (a0_5 : Int) (a0_6 : Int) : Option (Bool) := if a0_0 < 0 then (regletref08_Settings.j0 k true a0_0 a0_1 a0_2 a0_3 a0_4 a0_5 a0_6) else (if a0_0 > 10000 then (regletref08_Settings.j0 k true a0_0 a0_1 a0_2 a0_3 a0_4 a0_5 a0_6) else (if a0_1 < 0 then (regletref08_Settings.j0 k true a0_0 a0_1 a0_2 a0_3 a0_4 a0_5 a0_6) else (regletref08_Settings.j0 k (decide (a0_1 > 10000)) a0_0 a0_1 a0_2 a0_3 a0_4 a0_5 a0_6)))
theorem regletref08_Settings.mono_l : ∀ k, (∀ y0 y1 y2 y3 y4 y5 y6 y7, LeO (regletref08_Settings.j0 k y0 y1 y2 y3 y4 y5 y6 y7) (regletref08_Settings.j0 (k + 1) y0 y1 y2 y3 y4 y5 y6 y7)) ∧ (∀ y0 y1 y2 y3 y4 y5 y6 y7 y8, LeO (regletref08_Settings.l0 k y0 y1 y2 y3 y4 y5 y6 y7 y8) (regletref08_Settings.l0 (k + 1) y0 y1 y2 y3 y4 y5 y6 y7 y8))
 | 0 => ⟨fun _ _ _ _ _ _ _ _ r h => by simp [regletref08_Settings.j0] at h, fun _ _ _ _ _ _ _ _ _ r h => by simp [regletref08_Settings.l0] at h⟩
 | k + 1 => by
  obtain ⟨ih0, ih1⟩ := regletref08_Settings.mono_l k
  refine ⟨?_, ?_⟩
  · intro y0 y1 y2 y3 y4 y5 y6 y7
    unfold regletref08_Settings.j0
    repeat' first
    | (with_reducible exact ih0 _ _ _ _ _ _ _ _)
    | (with_reducible exact ih1 _ _ _ _ _ _ _ _ _)
    | (with_reducible exact LeO.refl _)
    | (with_reducible exact LeO.none _)
    | (with_reducible refine LeO.ite ?_ ?_)
    | (with_reducible refine LeO.bind ?_ (fun _ => ?_))
    | exact ih0 _ _ _ _ _ _ _ _
    | exact ih1 _ _ _ _ _ _ _ _ _
    | exact LeO.none _
    | refine LeO.ite ?_ ?_
    | refine LeO.bind ?_ (fun _ => ?_)
  · intro y0 y1 y2 y3 y4 y5 y6 y7 y8
    unfold regletref08_Settings.l0
    repeat' first
    | (with_reducible exact ih0 _ _ _ _ _ _ _ _)
    | (with_reducible exact ih1 _ _ _ _ _ _ _ _ _)
    | (with_reducible exact LeO.refl _)
    | (with_reducible exact LeO.none _)
    | (with_reducible refine LeO.ite ?_ ?_)
    | (with_reducible refine LeO.bind ?_ (fun _ => ?_))
    | exact ih0 _ _ _ _ _ _ _ _
    | exact ih1 _ _ _ _ _ _ _ _ _
    | exact LeO.none _
    | refine LeO.ite ?_ ?_
    | refine LeO.bind ?_ (fun _ => ?_)
theorem regletref08_Settings.mono : ∀ a0 a1 a2 a3 a4 a5 a6 k, LeO (regletref08_Settings.f k a0 a1 a2 a3 a4 a5 a6) (regletref08_Settings.f (k + 1) a0 a1 a2 a3 a4 a5 a6) := by
 intro a0 a1 a2 a3 a4 a5 a6 k
 obtain ⟨ih0, ih1⟩ := regletref08_Settings.mono_l k
 unfold regletref08_Settings.f
 repeat' first
    | (with_reducible exact ih0 _ _ _ _ _ _ _ _)
    | (with_reducible exact ih1 _ _ _ _ _ _ _ _ _)
    | (with_reducible exact LeO.refl _)
    | (with_reducible exact LeO.none _)
    | (with_reducible refine LeO.ite ?_ ?_)
    | (with_reducible refine LeO.bind ?_ (fun _ => ?_))
    | exact ih0 _ _ _ _ _ _ _ _
    | exact ih1 _ _ _ _ _ _ _ _ _
    | exact LeO.none _
    | refine LeO.ite ?_ ?_
    | refine LeO.bind ?_ (fun _ => ?_)
theorem regletref08_Settings.j0.ev {x22 : Bool} {x202000 : Int} {x202001 : Int} {x202002 : Int} {x202003 : Int} {x202004 : Int} {x202005 : Int} {x202006 : Int} {r_ : Bool} (h : Ev (fun k => if x22 = true then (some false) else (regletref08_Settings.l0 k (([x202002, x202003, x202004] : List Int)) 0 x202000 x202001 x202002 x202003 x202004 x202005 x202006)) r_) : Ev (fun k => regletref08_Settings.j0 k x22 x202000 x202001 x202002 x202003 x202004 x202005 x202006) r_ := Ev.step (fun k => by rw [regletref08_Settings.j0]) h
theorem regletref08_Settings.l0.ev {x3 : List Int} {x4 : Int} {x202000 : Int} {x202001 : Int} {x202002 : Int} {x202003 : Int} {x202004 : Int} {x202005 : Int} {x202006 : Int} {r_ : Bool} (h : Ev (fun k => if x4 < (x3.length : Int) then (if 0 ≤ x4 then (if (rd x3 x4) < 0 then (some false) else (if (rd x3 x4) > 1048576 then (some false) else (regletref08_Settings.l0 k x3 (wrap64 (x4 + 1)) x202000 x202001 x202002 x202003 x202004 x202005 x202006))) else (none)) else (if x202005 ≥ 1 then (if x202005 ≤ 100 then (if x202006 ≥ 1 then (some (decide (x202006 ≤ 100))) else (some false)) else (some false)) else (some false))) r_) : Ev (fun k => regletref08_Settings.l0 k x3 x4 x202000 x202001 x202002 x202003 x202004 x202005 x202006) r_ := Ev.step (fun k => by rw [regletref08_Settings.l0]) h
set_option maxHeartbeats 8000000 in
set_option maxRecDepth 100000 in
theorem regletref08_Settings.calls (k : Nat) (a0_0 : Int) (a0_1 : Int) (a0_2 : Int) (a0_3 : Int) (a0_4 : Int) (a0_5 : Int) (a0_6 : Int) (r : Bool) (w : World) (h : regletref08_Settings.f k a0_0 a0_1 a0_2 a0_3 a0_4 a0_5 a0_6 = some r) :
  Calls Try.prog 14 #[.agg #[.int .i64 a0_0, .int .i64 a0_1, .int .i64 a0_2, .int .i64 a0_3, .int .i64 a0_4, .int .i64 a0_5, .int .i64 a0_6]] w fun e w' => e = .returned (.bool r) ∧ Below w.heap.size w w' := by
 have hu26 := Try.underlying26
 have HB := Aside0.mk (Below.refl w.heap.size w)
 have H : (if a0_0 < 0 then (regletref08_Settings.j0 k true a0_0 a0_1 a0_2 a0_3 a0_4 a0_5 a0_6) else (if a0_0 > 10000 then (regletref08_Settings.j0 k true a0_0 a0_1 a0_2 a0_3 a0_4 a0_5 a0_6) else (if a0_1 < 0 then (regletref08_Settings.j0 k true a0_0 a0_1 a0_2 a0_3 a0_4 a0_5 a0_6) else (regletref08_Settings.j0 k (decide (a0_1 > 10000)) a0_0 a0_1 a0_2 a0_3 a0_4 a0_5 a0_6)))) = some r := h
 clear h
 have HC2 := Aside0.mk H
 clear H
 go_enter Try.func14, Try.ntmps14
 go_upto_region 1 with (first | ((with_reducible refine gate_dst (N := 1) rfl ?_); refine box_event ?hg (N := 1) ?hd (cs := #[.int .i64 a0_0, .int .i64 a0_1, .int .i64 a0_2, .int .i64 a0_3, .int .i64 a0_4, .int .i64 a0_5, .int .i64 a0_6]) (t := 26) ?hr ?_; (case hd => rfl); (case hg => rfl); (case hr => first | (go_simp; done) | (go_simp; rfl)); intro gb201 hg w3 hbox hb; have n0_ := Aside0.mk (below_step (by repeat (first | (with_reducible first | exact HB.out | apply below_alloc | apply pw_below_drewN | apply below_drew1) | exact HB.out)) hb); have n1_ := Aside0.mk (hbox); have n2_ := Aside0.mk ((by rw [hg]; exact (below_size (by repeat (first | (with_reducible first | exact HB.out | apply below_alloc | apply pw_below_drewN | apply below_drew1) | exact HB.out))) : w.heap.size ≤ gb201)); have n3_ := Aside0.mk ((by rw [hg]; exact (below_size (by repeat (first | (with_reducible first | exact HB.out | apply below_alloc | apply pw_below_drewN | apply below_drew1) | exact HB.out))) : w.heap.size ≤ gb201)); clear HB; have HB := n0_; have BK201 := n1_; have GW201 := n2_; have GE201 := n3_; clear n0_ n1_ n2_ n3_; clear hb hbox hg))
 (try simp only [Act.put, List.setIfInBounds_toArray, List.set_cons_zero, List.set_cons_succ])
 go_cut [22] (fun v22 wc => ∃ (kq : Nat) (x22_1 : Bool), v22 = .bool x22_1 ∧ Aside0 (regletref08_Settings.j0 kq x22_1 a0_0 a0_1 a0_2 a0_3 a0_4 a0_5 a0_6 = some r) ∧ Aside0 (kq ≤ k) ∧ Aside0 (wc.heap[gb201]? = some (.cells #[.int .i64 a0_0, .int .i64 a0_1, .int .i64 a0_2, .int .i64 a0_3, .int .i64 a0_4, .int .i64 a0_5, .int .i64 a0_6] 26 (0, 0))) ∧ Aside0 (Below w.heap.size w wc))
 case first =>
  have H := HC2.out
  clear HC2
  by_cases c4 : a0_0 < 0
  · rw [if_pos c4] at H
    have c4b0 : decide (a0_0 < 0) = true := decide_eq_true c4
    clear c4
    (first | rw [c4b0] | (simp only [i64_w, i32_w]; rw [c4b0]) | skip)
    have H' := Aside0.mk H
    clear H
    have hcz5_0 : w3.cell? ⟨gb201, 0, none⟩ = some (.int .i64 a0_0) := (blk_cell BK201.out 0).trans rfl
    have hcz5_1 : w3.cell? ⟨gb201, 1, none⟩ = some (.int .i64 a0_1) := (blk_cell BK201.out 1).trans rfl
    have hcz5_2 : w3.cell? ⟨gb201, 2, none⟩ = some (.int .i64 a0_2) := (blk_cell BK201.out 2).trans rfl
    have hcz5_3 : w3.cell? ⟨gb201, 3, none⟩ = some (.int .i64 a0_3) := (blk_cell BK201.out 3).trans rfl
    have hcz5_4 : w3.cell? ⟨gb201, 4, none⟩ = some (.int .i64 a0_4) := (blk_cell BK201.out 4).trans rfl
    have hcz5_5 : w3.cell? ⟨gb201, 5, none⟩ = some (.int .i64 a0_5) := (blk_cell BK201.out 5).trans rfl
    have hcz5_6 : w3.cell? ⟨gb201, 6, none⟩ = some (.int .i64 a0_6) := (blk_cell BK201.out 6).trans rfl
    have hfz5_0 := blk_frozen BK201.out 0
    have hfz5_1 := blk_frozen BK201.out 1
    have hfz5_2 := blk_frozen BK201.out 2
    have hfz5_3 := blk_frozen BK201.out 3
    have hfz5_4 := blk_frozen BK201.out 4
    have hfz5_5 := blk_frozen BK201.out 5
    have hfz5_6 := blk_frozen BK201.out 6
    go_wp2
    go_meet
    case rel => exact ⟨_, (true), (by first | rfl | (simp; done) | (simp [*]; done)), H', ⟨by first | omega | exact Nat.le_refl _⟩, ⟨by (with_reducible repeat (first | refine blk_drewN ?_ _ | refine blk_drew ?_ | refine blk_alloc ?_ _)); exact BK201.out⟩, ⟨by repeat (first | (with_reducible first | exact HB.out | apply below_alloc | apply pw_below_drewN | apply below_drew1 | refine below_set ?_ GE201.out) | exact HB.out)⟩⟩
  · rw [if_neg c4] at H
    have c4b0 : decide (a0_0 < 0) = false := decide_eq_false c4
    clear c4
    (first | rw [c4b0] | (simp only [i64_w, i32_w]; rw [c4b0]) | skip)
    by_cases c6 : a0_0 > 10000
    · rw [if_pos c6] at H
      have c6b0 : decide (10000 < a0_0) = true := decide_eq_true c6
      clear c6
      have H' := Aside0.mk H
      clear H
      have hcz7_0 : w3.cell? ⟨gb201, 0, none⟩ = some (.int .i64 a0_0) := (blk_cell BK201.out 0).trans rfl
      have hcz7_1 : w3.cell? ⟨gb201, 1, none⟩ = some (.int .i64 a0_1) := (blk_cell BK201.out 1).trans rfl
      have hcz7_2 : w3.cell? ⟨gb201, 2, none⟩ = some (.int .i64 a0_2) := (blk_cell BK201.out 2).trans rfl
      have hcz7_3 : w3.cell? ⟨gb201, 3, none⟩ = some (.int .i64 a0_3) := (blk_cell BK201.out 3).trans rfl
      have hcz7_4 : w3.cell? ⟨gb201, 4, none⟩ = some (.int .i64 a0_4) := (blk_cell BK201.out 4).trans rfl
      have hcz7_5 : w3.cell? ⟨gb201, 5, none⟩ = some (.int .i64 a0_5) := (blk_cell BK201.out 5).trans rfl
      have hcz7_6 : w3.cell? ⟨gb201, 6, none⟩ = some (.int .i64 a0_6) := (blk_cell BK201.out 6).trans rfl
      have hfz7_0 := blk_frozen BK201.out 0
      have hfz7_1 := blk_frozen BK201.out 1
      have hfz7_2 := blk_frozen BK201.out 2
      have hfz7_3 := blk_frozen BK201.out 3
      have hfz7_4 := blk_frozen BK201.out 4
      have hfz7_5 := blk_frozen BK201.out 5
      have hfz7_6 := blk_frozen BK201.out 6
      go_wp2
      go_meet
      case rel => exact ⟨_, (true), (by first | rfl | (simp; done) | (simp [*]; done)), H', ⟨by first | omega | exact Nat.le_refl _⟩, ⟨by (with_reducible repeat (first | refine blk_drewN ?_ _ | refine blk_drew ?_ | refine blk_alloc ?_ _)); exact BK201.out⟩, ⟨by repeat (first | (with_reducible first | exact HB.out | apply below_alloc | apply pw_below_drewN | apply below_drew1 | refine below_set ?_ GE201.out) | exact HB.out)⟩⟩
    · rw [if_neg c6] at H
      have c6b0 : decide (10000 < a0_0) = false := decide_eq_false c6
      clear c6
      by_cases c8 : a0_1 < 0
      · rw [if_pos c8] at H
        have c8b0 : decide (a0_1 < 0) = true := decide_eq_true c8
        clear c8
        have H' := Aside0.mk H
        clear H
        have hcz9_0 : w3.cell? ⟨gb201, 0, none⟩ = some (.int .i64 a0_0) := (blk_cell BK201.out 0).trans rfl
        have hcz9_1 : w3.cell? ⟨gb201, 1, none⟩ = some (.int .i64 a0_1) := (blk_cell BK201.out 1).trans rfl
        have hcz9_2 : w3.cell? ⟨gb201, 2, none⟩ = some (.int .i64 a0_2) := (blk_cell BK201.out 2).trans rfl
        have hcz9_3 : w3.cell? ⟨gb201, 3, none⟩ = some (.int .i64 a0_3) := (blk_cell BK201.out 3).trans rfl
        have hcz9_4 : w3.cell? ⟨gb201, 4, none⟩ = some (.int .i64 a0_4) := (blk_cell BK201.out 4).trans rfl
        have hcz9_5 : w3.cell? ⟨gb201, 5, none⟩ = some (.int .i64 a0_5) := (blk_cell BK201.out 5).trans rfl
        have hcz9_6 : w3.cell? ⟨gb201, 6, none⟩ = some (.int .i64 a0_6) := (blk_cell BK201.out 6).trans rfl
        have hfz9_0 := blk_frozen BK201.out 0
        have hfz9_1 := blk_frozen BK201.out 1
        have hfz9_2 := blk_frozen BK201.out 2
        have hfz9_3 := blk_frozen BK201.out 3
        have hfz9_4 := blk_frozen BK201.out 4
        have hfz9_5 := blk_frozen BK201.out 5
        have hfz9_6 := blk_frozen BK201.out 6
        go_wp2
        go_meet
        case rel => exact ⟨_, (true), (by first | rfl | (simp; done) | (simp [*]; done)), H', ⟨by first | omega | exact Nat.le_refl _⟩, ⟨by (with_reducible repeat (first | refine blk_drewN ?_ _ | refine blk_drew ?_ | refine blk_alloc ?_ _)); exact BK201.out⟩, ⟨by repeat (first | (with_reducible first | exact HB.out | apply below_alloc | apply pw_below_drewN | apply below_drew1 | refine below_set ?_ GE201.out) | exact HB.out)⟩⟩
      · rw [if_neg c8] at H
        have c8b0 : decide (a0_1 < 0) = false := decide_eq_false c8
        clear c8
        have H' := Aside0.mk H
        clear H
        have hcz10_0 : w3.cell? ⟨gb201, 0, none⟩ = some (.int .i64 a0_0) := (blk_cell BK201.out 0).trans rfl
        have hcz10_1 : w3.cell? ⟨gb201, 1, none⟩ = some (.int .i64 a0_1) := (blk_cell BK201.out 1).trans rfl
        have hcz10_2 : w3.cell? ⟨gb201, 2, none⟩ = some (.int .i64 a0_2) := (blk_cell BK201.out 2).trans rfl
        have hcz10_3 : w3.cell? ⟨gb201, 3, none⟩ = some (.int .i64 a0_3) := (blk_cell BK201.out 3).trans rfl
        have hcz10_4 : w3.cell? ⟨gb201, 4, none⟩ = some (.int .i64 a0_4) := (blk_cell BK201.out 4).trans rfl
        have hcz10_5 : w3.cell? ⟨gb201, 5, none⟩ = some (.int .i64 a0_5) := (blk_cell BK201.out 5).trans rfl
        have hcz10_6 : w3.cell? ⟨gb201, 6, none⟩ = some (.int .i64 a0_6) := (blk_cell BK201.out 6).trans rfl
        have hfz10_0 := blk_frozen BK201.out 0
        have hfz10_1 := blk_frozen BK201.out 1
        have hfz10_2 := blk_frozen BK201.out 2
        have hfz10_3 := blk_frozen BK201.out 3
        have hfz10_4 := blk_frozen BK201.out 4
        have hfz10_5 := blk_frozen BK201.out 5
        have hfz10_6 := blk_frozen BK201.out 6
        go_wp2
        go_meet
        case rel => exact ⟨_, (decide (a0_1 > 10000)), (by first | rfl | (simp; done) | (simp [*]; done)), H', ⟨by first | omega | exact Nat.le_refl _⟩, ⟨by (with_reducible repeat (first | refine blk_drewN ?_ _ | refine blk_drew ?_ | refine blk_alloc ?_ _)); exact BK201.out⟩, ⟨by repeat (first | (with_reducible first | exact HB.out | apply below_alloc | apply pw_below_drewN | apply below_drew1 | refine below_set ?_ GE201.out) | exact HB.out)⟩⟩
 case rest =>
  clear HC2
  try clear c1
  try clear p2
  try clear c4
  try clear c4b0
  try clear c6
  try clear c6b0
  try clear c8
  try clear c8b0
  try clear hcz10_0
  try clear hcz10_1
  try clear hcz10_2
  try clear hcz10_3
  try clear hcz10_4
  try clear hcz10_5
  try clear hcz10_6
  try clear hcz5_0
  try clear hcz5_1
  try clear hcz5_2
  try clear hcz5_3
  try clear hcz5_4
  try clear hcz5_5
  try clear hcz5_6
  try clear hcz7_0
  try clear hcz7_1
  try clear hcz7_2
  try clear hcz7_3
  try clear hcz7_4
  try clear hcz7_5
  try clear hcz7_6
  try clear hcz9_0
  try clear hcz9_1
  try clear hcz9_2
  try clear hcz9_3
  try clear hcz9_4
  try clear hcz9_5
  try clear hcz9_6
  try clear hfz10_0
  try clear hfz10_1
  try clear hfz10_2
  try clear hfz10_3
  try clear hfz10_4
  try clear hfz10_5
  try clear hfz10_6
  try clear hfz5_0
  try clear hfz5_1
  try clear hfz5_2
  try clear hfz5_3
  try clear hfz5_4
  try clear hfz5_5
  try clear hfz5_6
  try clear hfz7_0
  try clear hfz7_1
  try clear hfz7_2
  try clear hfz7_3
  try clear hfz7_4
  try clear hfz7_5
  try clear hfz7_6
  try clear hfz9_0
  try clear hfz9_1
  try clear hfz9_2
  try clear hfz9_3
  try clear hfz9_4
  try clear hfz9_5
  try clear hfz9_6
  obtain ⟨kq, x22_1, rfl, HA, HJ1, BK201, HB⟩ := hcut
  cases kq with
  | zero => exact absurd HA.out (by simp [regletref08_Settings.j0])
  | succ kj1 =>
    have H := HA.out
    clear HA
    simp only [regletref08_Settings.j0] at H
    by_cases c11 : x22_1 = true
    · subst c11
      have H1 : (some false) = some r := by rw [if_pos rfl] at H; exact H
      clear H
      have H := H1
      clear H1
      obtain rfl := Option.some.inj H
      go_wp2
      go_ret
      exact ⟨by first | rfl | (simp [errW_none, errW_some] <;> rfl) | (simp [*, errW_none, errW_some] <;> rfl), by repeat (first | (with_reducible first | exact HB.out | apply below_alloc | apply pw_below_drewN | apply below_drew1 | refine below_set ?_ GE201.out) | exact HB.out)⟩
    · replace c11 := Bool.eq_false_iff.mpr c11
      subst c11
      have H1 : (regletref08_Settings.l0 kj1 (([a0_2, a0_3, a0_4] : List Int)) 0 a0_0 a0_1 a0_2 a0_3 a0_4 a0_5 a0_6) = some r := by rw [if_neg (show ¬ (false = true) by decide)] at H; exact H
      clear H
      have H := H1
      clear H1
      obtain ⟨y202, hy202⟩ : ∃ y_ : List Int, y_ = (([a0_2, a0_3, a0_4] : List Int)) := ⟨_, rfl⟩
      replace H : (regletref08_Settings.l0 kj1 y202 0 a0_0 a0_1 a0_2 a0_3 a0_4 a0_5 a0_6) = some r := by first | (rw [hy202]; with_reducible exact H) | (have H2_ := (Option.bind_some _ _).symm.trans H; rw [hy202]; with_reducible exact H2_) | (have H2_ := (Option.bind_some _ _).symm.trans H; with_reducible exact H2_) | with_reducible exact H | (rw [hy202]; exact H) | exact H
      have Ny202 := Aside0.mk hy202
      clear hy202
      have H' := Aside0.mk H
      clear H
      have hcz12_0 : wc.cell? ⟨gb201, 0, none⟩ = some (.int .i64 a0_0) := (blk_cell BK201.out 0).trans rfl
      have hcz12_1 : wc.cell? ⟨gb201, 1, none⟩ = some (.int .i64 a0_1) := (blk_cell BK201.out 1).trans rfl
      have hcz12_2 : wc.cell? ⟨gb201, 2, none⟩ = some (.int .i64 a0_2) := (blk_cell BK201.out 2).trans rfl
      have hcz12_3 : wc.cell? ⟨gb201, 3, none⟩ = some (.int .i64 a0_3) := (blk_cell BK201.out 3).trans rfl
      have hcz12_4 : wc.cell? ⟨gb201, 4, none⟩ = some (.int .i64 a0_4) := (blk_cell BK201.out 4).trans rfl
      have hcz12_5 : wc.cell? ⟨gb201, 5, none⟩ = some (.int .i64 a0_5) := (blk_cell BK201.out 5).trans rfl
      have hcz12_6 : wc.cell? ⟨gb201, 6, none⟩ = some (.int .i64 a0_6) := (blk_cell BK201.out 6).trans rfl
      have hfz12_0 := blk_frozen BK201.out 0
      have hfz12_1 := blk_frozen BK201.out 1
      have hfz12_2 := blk_frozen BK201.out 2
      have hfz12_3 := blk_frozen BK201.out 3
      have hfz12_4 := blk_frozen BK201.out 4
      have hfz12_5 := blk_frozen BK201.out 5
      have hfz12_6 := blk_frozen BK201.out 6
      go_wp2_with (first | ((with_reducible refine gate_dst (N := 29) rfl ?_); refine Kd.R_lit (Kd.int .i64) _ 3 ?hg (N := 29) ?hd (xs := ([a0_2, a0_3, a0_4] : List Int)) (inner := [.int .i64 a0_2, .int .i64 a0_3, .int .i64 a0_4]) (ok := fun _ => True) (okp := fun _ => True) ?hr ?hp (fun _ hk => hk) trivial (Below.refl _ _) (Nat.le_refl _) (by simp) ?_; (case hd => rfl); (case hg => rfl); (case hr => first | (go_simp; done) | (go_simp; rfl)); (case hp => exact (Reps.one (show Kd.M (Kd.int .i64) _ _ _ a0_2 [.int .i64 a0_2] from rfl) (Reps.one (show Kd.M (Kd.int .i64) _ _ _ a0_3 [.int .i64 a0_3] from rfl) (Reps.one (show Kd.M (Kd.int .i64) _ _ _ a0_4 [.int .i64 a0_4] from rfl) (Reps.none _ _))))); intro v203 w13 ho14 hb hg_ hnew_; clear hg_ hnew_; (first | rw [← Ny202.out] at ho14 | (simp only [Int.reduceToNat] at ho14; rw [← Ny202.out] at ho14)); have n0_ := Aside0.mk (Kd.R_lower ho14 (below_size (by repeat (first | (with_reducible first | exact HB.out | apply below_alloc | apply pw_below_drewN | apply below_drew1 | refine below_set ?_ GE201.out) | exact HB.out)))); have n1_ := Aside0.mk (blk_below (g := gb201) (o := .cells #[.int .i64 a0_0, .int .i64 a0_1, .int .i64 a0_2, .int .i64 a0_3, .int .i64 a0_4, .int .i64 a0_5, .int .i64 a0_6] 26 (0, 0)) (by (with_reducible repeat (first | refine blk_drewN ?_ _ | refine blk_drew ?_ | refine blk_alloc ?_ _)); exact BK201.out) hb); have n2_ := Aside0.mk (below_step (by repeat (first | (with_reducible first | exact HB.out | apply below_alloc | apply pw_below_drewN | apply below_drew1 | refine below_set ?_ GE201.out) | exact HB.out)) hb); clear BK201; clear HB; have HO204 := n0_; have BK201 := n1_; have HB := n2_; clear n0_ n1_ n2_; clear hb ho14))
      go_loopg [4] kj1 (fun kq v4 w' => ∃ (x4_2 : Int), v4 = .int .i64 x4_2 ∧ Aside0 (regletref08_Settings.l0 kq y202 x4_2 a0_0 a0_1 a0_2 a0_3 a0_4 a0_5 a0_6 = some r) ∧ Aside0 (kq ≤ kj1) ∧ Aside0 (Kd.R (Kd.int .i64) 3 w' w.heap.size (fun _ => True) v203 y202) ∧ Aside0 (w'.heap[gb201]? = some (.cells #[.int .i64 a0_0, .int .i64 a0_1, .int .i64 a0_2, .int .i64 a0_3, .int .i64 a0_4, .int .i64 a0_5, .int .i64 a0_6] 26 (0, 0))) ∧ Aside0 (Below w.heap.size w w'))
      case atStart => exact ⟨(0), (by first | rfl | (simp; done) | (simp [*]; done)), H', ⟨Nat.le_refl _⟩, ⟨by (with_reducible repeat (first | apply Kd.R_alloc | apply Kd.R_drewN | apply Kd.R_drew)); exact HO204.out⟩, ⟨by (with_reducible repeat (first | refine blk_drewN ?_ _ | refine blk_drew ?_ | refine blk_alloc ?_ _)); exact BK201.out⟩, ⟨by repeat (first | (with_reducible first | exact HB.out | apply below_alloc | apply pw_below_drewN | apply below_drew1 | refine below_set ?_ GE201.out) | exact HB.out)⟩⟩
      case round =>
        clear H'
        try clear c1
        try clear p2
        try clear c4
        try clear c4b0
        try clear c6
        try clear c6b0
        try clear c8
        try clear c8b0
        try clear c11
        try clear c14
        try clear hcz10_0
        try clear hcz10_1
        try clear hcz10_2
        try clear hcz10_3
        try clear hcz10_4
        try clear hcz10_5
        try clear hcz10_6
        try clear hcz12_0
        try clear hcz12_1
        try clear hcz12_2
        try clear hcz12_3
        try clear hcz12_4
        try clear hcz12_5
        try clear hcz12_6
        try clear hcz5_0
        try clear hcz5_1
        try clear hcz5_2
        try clear hcz5_3
        try clear hcz5_4
        try clear hcz5_5
        try clear hcz5_6
        try clear hcz7_0
        try clear hcz7_1
        try clear hcz7_2
        try clear hcz7_3
        try clear hcz7_4
        try clear hcz7_5
        try clear hcz7_6
        try clear hcz9_0
        try clear hcz9_1
        try clear hcz9_2
        try clear hcz9_3
        try clear hcz9_4
        try clear hcz9_5
        try clear hcz9_6
        try clear hfz10_0
        try clear hfz10_1
        try clear hfz10_2
        try clear hfz10_3
        try clear hfz10_4
        try clear hfz10_5
        try clear hfz10_6
        try clear hfz12_0
        try clear hfz12_1
        try clear hfz12_2
        try clear hfz12_3
        try clear hfz12_4
        try clear hfz12_5
        try clear hfz12_6
        try clear hfz5_0
        try clear hfz5_1
        try clear hfz5_2
        try clear hfz5_3
        try clear hfz5_4
        try clear hfz5_5
        try clear hfz5_6
        try clear hfz7_0
        try clear hfz7_1
        try clear hfz7_2
        try clear hfz7_3
        try clear hfz7_4
        try clear hfz7_5
        try clear hfz7_6
        try clear hfz9_0
        try clear hfz9_1
        try clear hfz9_2
        try clear hfz9_3
        try clear hfz9_4
        try clear hfz9_5
        try clear hfz9_6
        try clear p2
        obtain ⟨x4_2, rfl, HA, HK2, HO_3, BK201, HB⟩ := hrel
        cases gk with
        | zero => exact absurd HA.out (by simp [regletref08_Settings.l0])
        | succ k2 =>
         have H := HA.out
         clear HA
         simp only [regletref08_Settings.l0] at H
         by_cases c15 : x4_2 < (y202.length : Int)
         · rw [if_pos c15] at H
           have c15b0 : decide (x4_2 < (y202.length : Int)) = true := decide_eq_true c15
           clear c15
           by_cases c16 : 0 ≤ x4_2
           · rw [if_pos c16] at H
             have c16b0 : decide (0 ≤ x4_2) = true := decide_eq_true c16
             clear c16
             by_cases c17 : (rd y202 x4_2) < 0
             · rw [if_pos c17] at H
               have c17b0 : decide ((rd y202 x4_2) < 0) = true := decide_eq_true c17
               clear c17
               obtain rfl := Option.some.inj H
               obtain ⟨Ao18, co18, eo18⟩ := Kd.R_slice HO_3.out
               subst eo18
               have p205 : 0 ≤ (x4_2 : Int) := of_decide_eq_true (by first | (with_reducible assumption) | assumption)
               have q205 : x4_2 < (y202.length : Int) := of_decide_eq_true (by first | (with_reducible assumption) | assumption)
               obtain ⟨ad205, e205, hx205_0⟩ := Kd.at_int (Kd.R_reads' HO_3.out).2.2 x4_2 p205 q205
               cases e205
               replace p205 := eq_true p205
               replace q205 := eq_true q205
               go_wp2
               go_ret
               exact ⟨by first | rfl | (simp [errW_none, errW_some] <;> rfl) | (simp [*, errW_none, errW_some] <;> rfl), by repeat (first | (with_reducible first | exact HB.out | apply below_alloc | apply pw_below_drewN | apply below_drew1 | refine below_set ?_ GE201.out) | exact HB.out)⟩
             · rw [if_neg c17] at H
               have c17b0 : decide ((rd y202 x4_2) < 0) = false := decide_eq_false c17
               clear c17
               by_cases c19 : (rd y202 x4_2) > 1048576
               · rw [if_pos c19] at H
                 have c19b0 : decide (1048576 < (rd y202 x4_2)) = true := decide_eq_true c19
                 clear c19
                 obtain rfl := Option.some.inj H
                 obtain ⟨Ao20, co20, eo20⟩ := Kd.R_slice HO_3.out
                 subst eo20
                 have p205 : 0 ≤ (x4_2 : Int) := of_decide_eq_true (by first | (with_reducible assumption) | assumption)
                 have q205 : x4_2 < (y202.length : Int) := of_decide_eq_true (by first | (with_reducible assumption) | assumption)
                 obtain ⟨ad205, e205, hx205_0⟩ := Kd.at_int (Kd.R_reads' HO_3.out).2.2 x4_2 p205 q205
                 cases e205
                 replace p205 := eq_true p205
                 replace q205 := eq_true q205
                 have p206 : 0 ≤ (x4_2 : Int) := of_decide_eq_true (by first | (with_reducible assumption) | assumption)
                 have q206 : x4_2 < (y202.length : Int) := of_decide_eq_true (by first | (with_reducible assumption) | assumption)
                 obtain ⟨ad206, e206, hx206_0⟩ := Kd.at_int (Kd.R_reads' HO_3.out).2.2 x4_2 p206 q206
                 obtain rfl : ad205 = ad206 := (by injection e206)
                 replace p206 := eq_true p206
                 replace q206 := eq_true q206
                 go_wp2
                 go_ret
                 exact ⟨by first | rfl | (simp [errW_none, errW_some] <;> rfl) | (simp [*, errW_none, errW_some] <;> rfl), by repeat (first | (with_reducible first | exact HB.out | apply below_alloc | apply pw_below_drewN | apply below_drew1 | refine below_set ?_ GE201.out) | exact HB.out)⟩
               · rw [if_neg c19] at H
                 have c19b0 : decide (1048576 < (rd y202 x4_2)) = false := decide_eq_false c19
                 clear c19
                 have H' := Aside0.mk H
                 clear H
                 obtain ⟨Ao21, co21, eo21⟩ := Kd.R_slice HO_3.out
                 subst eo21
                 have p205 : 0 ≤ (x4_2 : Int) := of_decide_eq_true (by first | (with_reducible assumption) | assumption)
                 have q205 : x4_2 < (y202.length : Int) := of_decide_eq_true (by first | (with_reducible assumption) | assumption)
                 obtain ⟨ad205, e205, hx205_0⟩ := Kd.at_int (Kd.R_reads' HO_3.out).2.2 x4_2 p205 q205
                 cases e205
                 replace p205 := eq_true p205
                 replace q205 := eq_true q205
                 have p206 : 0 ≤ (x4_2 : Int) := of_decide_eq_true (by first | (with_reducible assumption) | assumption)
                 have q206 : x4_2 < (y202.length : Int) := of_decide_eq_true (by first | (with_reducible assumption) | assumption)
                 obtain ⟨ad206, e206, hx206_0⟩ := Kd.at_int (Kd.R_reads' HO_3.out).2.2 x4_2 p206 q206
                 obtain rfl : ad205 = ad206 := (by injection e206)
                 replace p206 := eq_true p206
                 replace q206 := eq_true q206
                 go_wp2
                 go_roundg k2
                 case measure => have := HJ1.out; have := HK2.out; omega
                 case rel => exact ⟨(wrap64 (x4_2 + 1)), (by first | rfl | (simp; done) | (simp [*]; done)), H', ⟨by have := HJ1.out; have := HK2.out; omega⟩, ⟨by (with_reducible repeat (first | apply Kd.R_alloc | apply Kd.R_drewN | apply Kd.R_drew)); exact HO_3.out⟩, ⟨by (with_reducible repeat (first | refine blk_drewN ?_ _ | refine blk_drew ?_ | refine blk_alloc ?_ _)); exact BK201.out⟩, ⟨by repeat (first | (with_reducible first | exact HB.out | apply below_alloc | apply pw_below_drewN | apply below_drew1 | refine below_set ?_ GE201.out) | exact HB.out)⟩⟩
           · rw [if_neg c16] at H
             exact absurd H (by simp)
         · rw [if_neg c15] at H
           have c15b0 : decide (x4_2 < (y202.length : Int)) = false := decide_eq_false c15
           clear c15
           by_cases c22 : a0_5 ≥ 1
           · rw [if_pos c22] at H
             have c22b0 : decide (1 ≤ a0_5) = true := decide_eq_true c22
             clear c22
             by_cases c23 : a0_5 ≤ 100
             · rw [if_pos c23] at H
               have c23b0 : decide (a0_5 ≤ 100) = true := decide_eq_true c23
               clear c23
               by_cases c24 : a0_6 ≥ 1
               · rw [if_pos c24] at H
                 have c24b0 : decide (1 ≤ a0_6) = true := decide_eq_true c24
                 clear c24
                 obtain rfl := Option.some.inj H
                 obtain ⟨Ao25, co25, eo25⟩ := Kd.R_slice HO_3.out
                 subst eo25
                 have hcz26_0 : wr.cell? ⟨gb201, 0, none⟩ = some (.int .i64 a0_0) := (blk_cell BK201.out 0).trans rfl
                 have hcz26_1 : wr.cell? ⟨gb201, 1, none⟩ = some (.int .i64 a0_1) := (blk_cell BK201.out 1).trans rfl
                 have hcz26_2 : wr.cell? ⟨gb201, 2, none⟩ = some (.int .i64 a0_2) := (blk_cell BK201.out 2).trans rfl
                 have hcz26_3 : wr.cell? ⟨gb201, 3, none⟩ = some (.int .i64 a0_3) := (blk_cell BK201.out 3).trans rfl
                 have hcz26_4 : wr.cell? ⟨gb201, 4, none⟩ = some (.int .i64 a0_4) := (blk_cell BK201.out 4).trans rfl
                 have hcz26_5 : wr.cell? ⟨gb201, 5, none⟩ = some (.int .i64 a0_5) := (blk_cell BK201.out 5).trans rfl
                 have hcz26_6 : wr.cell? ⟨gb201, 6, none⟩ = some (.int .i64 a0_6) := (blk_cell BK201.out 6).trans rfl
                 have hfz26_0 := blk_frozen BK201.out 0
                 have hfz26_1 := blk_frozen BK201.out 1
                 have hfz26_2 := blk_frozen BK201.out 2
                 have hfz26_3 := blk_frozen BK201.out 3
                 have hfz26_4 := blk_frozen BK201.out 4
                 have hfz26_5 := blk_frozen BK201.out 5
                 have hfz26_6 := blk_frozen BK201.out 6
                 go_wp2
                 go_ret
                 exact ⟨by first | rfl | (simp [errW_none, errW_some] <;> rfl) | (simp [*, errW_none, errW_some] <;> rfl), by repeat (first | (with_reducible first | exact HB.out | apply below_alloc | apply pw_below_drewN | apply below_drew1 | refine below_set ?_ GE201.out) | exact HB.out)⟩
               · rw [if_neg c24] at H
                 have c24b0 : decide (1 ≤ a0_6) = false := decide_eq_false c24
                 clear c24
                 obtain rfl := Option.some.inj H
                 obtain ⟨Ao27, co27, eo27⟩ := Kd.R_slice HO_3.out
                 subst eo27
                 have hcz28_0 : wr.cell? ⟨gb201, 0, none⟩ = some (.int .i64 a0_0) := (blk_cell BK201.out 0).trans rfl
                 have hcz28_1 : wr.cell? ⟨gb201, 1, none⟩ = some (.int .i64 a0_1) := (blk_cell BK201.out 1).trans rfl
                 have hcz28_2 : wr.cell? ⟨gb201, 2, none⟩ = some (.int .i64 a0_2) := (blk_cell BK201.out 2).trans rfl
                 have hcz28_3 : wr.cell? ⟨gb201, 3, none⟩ = some (.int .i64 a0_3) := (blk_cell BK201.out 3).trans rfl
                 have hcz28_4 : wr.cell? ⟨gb201, 4, none⟩ = some (.int .i64 a0_4) := (blk_cell BK201.out 4).trans rfl
                 have hcz28_5 : wr.cell? ⟨gb201, 5, none⟩ = some (.int .i64 a0_5) := (blk_cell BK201.out 5).trans rfl
                 have hcz28_6 : wr.cell? ⟨gb201, 6, none⟩ = some (.int .i64 a0_6) := (blk_cell BK201.out 6).trans rfl
                 have hfz28_0 := blk_frozen BK201.out 0
                 have hfz28_1 := blk_frozen BK201.out 1
                 have hfz28_2 := blk_frozen BK201.out 2
                 have hfz28_3 := blk_frozen BK201.out 3
                 have hfz28_4 := blk_frozen BK201.out 4
                 have hfz28_5 := blk_frozen BK201.out 5
                 have hfz28_6 := blk_frozen BK201.out 6
                 go_wp2
                 go_ret
                 exact ⟨by first | rfl | (simp [errW_none, errW_some] <;> rfl) | (simp [*, errW_none, errW_some] <;> rfl), by repeat (first | (with_reducible first | exact HB.out | apply below_alloc | apply pw_below_drewN | apply below_drew1 | refine below_set ?_ GE201.out) | exact HB.out)⟩
             · rw [if_neg c23] at H
               have c23b0 : decide (a0_5 ≤ 100) = false := decide_eq_false c23
               clear c23
               obtain rfl := Option.some.inj H
               obtain ⟨Ao29, co29, eo29⟩ := Kd.R_slice HO_3.out
               subst eo29
               have hcz30_0 : wr.cell? ⟨gb201, 0, none⟩ = some (.int .i64 a0_0) := (blk_cell BK201.out 0).trans rfl
               have hcz30_1 : wr.cell? ⟨gb201, 1, none⟩ = some (.int .i64 a0_1) := (blk_cell BK201.out 1).trans rfl
               have hcz30_2 : wr.cell? ⟨gb201, 2, none⟩ = some (.int .i64 a0_2) := (blk_cell BK201.out 2).trans rfl
               have hcz30_3 : wr.cell? ⟨gb201, 3, none⟩ = some (.int .i64 a0_3) := (blk_cell BK201.out 3).trans rfl
               have hcz30_4 : wr.cell? ⟨gb201, 4, none⟩ = some (.int .i64 a0_4) := (blk_cell BK201.out 4).trans rfl
               have hcz30_5 : wr.cell? ⟨gb201, 5, none⟩ = some (.int .i64 a0_5) := (blk_cell BK201.out 5).trans rfl
               have hcz30_6 : wr.cell? ⟨gb201, 6, none⟩ = some (.int .i64 a0_6) := (blk_cell BK201.out 6).trans rfl
               have hfz30_0 := blk_frozen BK201.out 0
               have hfz30_1 := blk_frozen BK201.out 1
               have hfz30_2 := blk_frozen BK201.out 2
               have hfz30_3 := blk_frozen BK201.out 3
               have hfz30_4 := blk_frozen BK201.out 4
               have hfz30_5 := blk_frozen BK201.out 5
               have hfz30_6 := blk_frozen BK201.out 6
               go_wp2
               go_ret
               exact ⟨by first | rfl | (simp [errW_none, errW_some] <;> rfl) | (simp [*, errW_none, errW_some] <;> rfl), by repeat (first | (with_reducible first | exact HB.out | apply below_alloc | apply pw_below_drewN | apply below_drew1 | refine below_set ?_ GE201.out) | exact HB.out)⟩
           · rw [if_neg c22] at H
             have c22b0 : decide (1 ≤ a0_5) = false := decide_eq_false c22
             clear c22
             obtain rfl := Option.some.inj H
             obtain ⟨Ao31, co31, eo31⟩ := Kd.R_slice HO_3.out
             subst eo31
             have hcz32_0 : wr.cell? ⟨gb201, 0, none⟩ = some (.int .i64 a0_0) := (blk_cell BK201.out 0).trans rfl
             have hcz32_1 : wr.cell? ⟨gb201, 1, none⟩ = some (.int .i64 a0_1) := (blk_cell BK201.out 1).trans rfl
             have hcz32_2 : wr.cell? ⟨gb201, 2, none⟩ = some (.int .i64 a0_2) := (blk_cell BK201.out 2).trans rfl
             have hcz32_3 : wr.cell? ⟨gb201, 3, none⟩ = some (.int .i64 a0_3) := (blk_cell BK201.out 3).trans rfl
             have hcz32_4 : wr.cell? ⟨gb201, 4, none⟩ = some (.int .i64 a0_4) := (blk_cell BK201.out 4).trans rfl
             have hcz32_5 : wr.cell? ⟨gb201, 5, none⟩ = some (.int .i64 a0_5) := (blk_cell BK201.out 5).trans rfl
             have hcz32_6 : wr.cell? ⟨gb201, 6, none⟩ = some (.int .i64 a0_6) := (blk_cell BK201.out 6).trans rfl
             have hfz32_0 := blk_frozen BK201.out 0
             have hfz32_1 := blk_frozen BK201.out 1
             have hfz32_2 := blk_frozen BK201.out 2
             have hfz32_3 := blk_frozen BK201.out 3
             have hfz32_4 := blk_frozen BK201.out 4
             have hfz32_5 := blk_frozen BK201.out 5
             have hfz32_6 := blk_frozen BK201.out 6
             go_wp2
             go_ret
             exact ⟨by first | rfl | (simp [errW_none, errW_some] <;> rfl) | (simp [*, errW_none, errW_some] <;> rfl), by repeat (first | (with_reducible first | exact HB.out | apply below_alloc | apply pw_below_drewN | apply below_drew1 | refine below_set ?_ GE201.out) | exact HB.out)⟩

end Go.Proofs.Ytdkmmddakidieaa.P
