-- PRINTED by print.py (a twelfth state) out of the translation. Not trusted: Lean checks it.
import Derived.Test.YtdkmmddakidieaaPx0
import Derived.Test.YtdkmmddakidieaaPx24
import Derived.Test.YtdkmmddakidieaaWo
namespace Go.Proofs.Ytdkmmddakidieaa.P
open Go.RowKit Go.Proofs.YtdkmmddakidieaaW.PrintWords Go.Proofs.YtdkmmddakidieaaW.PrintLast Go.Proofs.YtdkmmddakidieaaW.PrintMore
attribute [local go_sem] max2_int min2_int max_two min_two max_three min_three max_four min_four   -- for this text's walks alone
set_option linter.unusedVariables false
set_option linter.unusedSimpArgs false

/-! ### items_fits: function 55 -/
def items_fits.j0 : Nat → Bool → Int → Int → Int → Int → Bool → Int → Bool → Int → Int → Option (Bool)
 | 0, _, _, _, _, _, _, _, _, _, _ => none
 | k + 1, x25, x333000, x333001, x333002, x333003, x333004, x333005, x333006, x333007, x333008 => if x25 = true then (some false) else (if x333000 = 1 then (if x333002 = 0 then (if x333003 = 0 then (if x333005 = 0 then (if x333004 = true then (some false) else (some (!x333006))) else (some false)) else (some false)) else (some false)) else (if x333000 = 2 then (if x333005 = 0 then (if x333006 = true then (some false) else (if x333004 = true then (if x333001 = 0 then (some (x333002 == 0)) else (some false)) else (some true))) else (some false)) else (if x333000 = 3 then (if x333002 = 0 then (if x333003 = 0 then (if x333004 = true then (some false) else (if x333005 ≥ (-10000) then (some (decide (x333005 ≤ 10000))) else (some false))) else (some false)) else (some false)) else (some false))))
def items_fits.f (k : Nat) (a0_0 : Int) (a0_1 : Int) (a0_2 : Int) (a0_3 : Int) (a0_4 : Bool) (a0_5 : Int) (a0_6 : Bool) (a0_7 : Int) (a0_8 : Int) : Option (Bool) := (items_measure.f a0_1).bind fun t333 => (if t333 = true then ((items_measure.f a0_2).bind fun t334 => (if t334 = true then ((items_measure.f a0_3).bind fun t335 => (if t335 = true then (items_fits.j0 k (decide (a0_3 > a0_1)) a0_0 a0_1 a0_2 a0_3 a0_4 a0_5 a0_6 a0_7 a0_8) else (items_fits.j0 k true a0_0 a0_1 a0_2 a0_3 a0_4 a0_5 a0_6 a0_7 a0_8))) else (items_fits.j0 k true a0_0 a0_1 a0_2 a0_3 a0_4 a0_5 a0_6 a0_7 a0_8))) else (items_fits.j0 k true a0_0 a0_1 a0_2 a0_3 a0_4 a0_5 a0_6 a0_7 a0_8))
theorem items_fits.mono_l : ∀ k, (∀ y0 y1 y2 y3 y4 y5 y6 y7 y8 y9, LeO (items_fits.j0 k y0 y1 y2 y3 y4 y5 y6 y7 y8 y9) (items_fits.j0 (k + 1) y0 y1 y2 y3 y4 y5 y6 y7 y8 y9))
 | 0 => fun _ _ _ _ _ _ _ _ _ _ r h => by simp [items_fits.j0] at h
 | k + 1 => by
  have ih0 := items_fits.mono_l k
  · intro y0 y1 y2 y3 y4 y5 y6 y7 y8 y9
    unfold items_fits.j0
    repeat' first
    | (with_reducible exact ih0 _ _ _ _ _ _ _ _ _ _)
    | (with_reducible exact LeO.refl _)
    | (with_reducible exact LeO.none _)
    | (with_reducible refine LeO.ite ?_ ?_)
    | (with_reducible refine LeO.bind ?_ (fun _ => ?_))
    | exact ih0 _ _ _ _ _ _ _ _ _ _
    | exact LeO.none _
    | refine LeO.ite ?_ ?_
    | refine LeO.bind ?_ (fun _ => ?_)
theorem items_fits.mono : ∀ a0 a1 a2 a3 a4 a5 a6 a7 a8 k, LeO (items_fits.f k a0 a1 a2 a3 a4 a5 a6 a7 a8) (items_fits.f (k + 1) a0 a1 a2 a3 a4 a5 a6 a7 a8) := by
 intro a0 a1 a2 a3 a4 a5 a6 a7 a8 k
 have ih0 := items_fits.mono_l k
 unfold items_fits.f
 repeat' first
    | (with_reducible exact ih0 _ _ _ _ _ _ _ _ _ _)
    | (with_reducible exact LeO.refl _)
    | (with_reducible exact LeO.none _)
    | (with_reducible refine LeO.ite ?_ ?_)
    | (with_reducible refine LeO.bind ?_ (fun _ => ?_))
    | exact ih0 _ _ _ _ _ _ _ _ _ _
    | exact LeO.none _
    | refine LeO.ite ?_ ?_
    | refine LeO.bind ?_ (fun _ => ?_)
theorem items_fits.j0.ev {x25 : Bool} {x333000 : Int} {x333001 : Int} {x333002 : Int} {x333003 : Int} {x333004 : Bool} {x333005 : Int} {x333006 : Bool} {x333007 : Int} {x333008 : Int} {r_ : Bool} (h : Ev (fun k => if x25 = true then (some false) else (if x333000 = 1 then (if x333002 = 0 then (if x333003 = 0 then (if x333005 = 0 then (if x333004 = true then (some false) else (some (!x333006))) else (some false)) else (some false)) else (some false)) else (if x333000 = 2 then (if x333005 = 0 then (if x333006 = true then (some false) else (if x333004 = true then (if x333001 = 0 then (some (x333002 == 0)) else (some false)) else (some true))) else (some false)) else (if x333000 = 3 then (if x333002 = 0 then (if x333003 = 0 then (if x333004 = true then (some false) else (if x333005 ≥ (-10000) then (some (decide (x333005 ≤ 10000))) else (some false))) else (some false)) else (some false)) else (some false))))) r_) : Ev (fun k => items_fits.j0 k x25 x333000 x333001 x333002 x333003 x333004 x333005 x333006 x333007 x333008) r_ := Ev.step (fun k => by rw [items_fits.j0]) h
set_option maxHeartbeats 8000000 in
set_option maxRecDepth 100000 in
theorem items_fits.calls (k : Nat) (a0_0 : Int) (a0_1 : Int) (a0_2 : Int) (a0_3 : Int) (a0_4 : Bool) (a0_5 : Int) (a0_6 : Bool) (a0_7 : Int) (a0_8 : Int) (r : Bool) (w : World) (h : items_fits.f k a0_0 a0_1 a0_2 a0_3 a0_4 a0_5 a0_6 a0_7 a0_8 = some r) :
  Calls Try.prog 55 #[.agg #[.int .i64 a0_0, .int .i64 a0_1, .int .i64 a0_2, .int .i64 a0_3, .bool a0_4, .int .i64 a0_5, .bool a0_6, .int .i64 a0_7, .int .i64 a0_8]] w fun e w' => e = .returned (.bool r) ∧ Below w.heap.size w w' := by
 have hu34 := Try.underlying34
 have HB := Aside0.mk (Below.refl w.heap.size w)
 have H : ((items_measure.f a0_1).bind fun t333 => (if t333 = true then ((items_measure.f a0_2).bind fun t334 => (if t334 = true then ((items_measure.f a0_3).bind fun t335 => (if t335 = true then (items_fits.j0 k (decide (a0_3 > a0_1)) a0_0 a0_1 a0_2 a0_3 a0_4 a0_5 a0_6 a0_7 a0_8) else (items_fits.j0 k true a0_0 a0_1 a0_2 a0_3 a0_4 a0_5 a0_6 a0_7 a0_8))) else (items_fits.j0 k true a0_0 a0_1 a0_2 a0_3 a0_4 a0_5 a0_6 a0_7 a0_8))) else (items_fits.j0 k true a0_0 a0_1 a0_2 a0_3 a0_4 a0_5 a0_6 a0_7 a0_8))) = some r := h
 clear h
 have HC2 := Aside0.mk H
 clear H
 go_enter Try.func55, Try.ntmps55
 go_upto_region 1 with (first | ((with_reducible refine gate_dst (N := 1) rfl ?_); refine box_event ?hg (N := 1) ?hd (cs := #[.int .i64 a0_0, .int .i64 a0_1, .int .i64 a0_2, .int .i64 a0_3, .bool a0_4, .int .i64 a0_5, .bool a0_6, .int .i64 a0_7, .int .i64 a0_8]) (t := 34) ?hr ?_; (case hd => rfl); (case hg => rfl); (case hr => first | (go_simp; done) | (go_simp; rfl)); intro gb332 hg w3 hbox hb; have n0_ := Aside0.mk (below_step (by repeat (first | (with_reducible first | exact HB.out | apply bA | apply bN | apply bD) | exact HB.out)) hb); have n1_ := Aside0.mk (hbox); have n2_ := Aside0.mk ((by rw [hg]; exact (below_size (by repeat (first | (with_reducible first | exact HB.out | apply bA | apply bN | apply bD) | exact HB.out))) : w.heap.size ≤ gb332)); have n3_ := Aside0.mk ((by rw [hg]; exact (below_size (by repeat (first | (with_reducible first | exact HB.out | apply bA | apply bN | apply bD) | exact HB.out))) : w.heap.size ≤ gb332)); clear HB; have HB := n0_; have BK332 := n1_; have GW332 := n2_; have GE332 := n3_; clear n0_ n1_ n2_ n3_; clear hb hbox hg))
 (try simp only [Act.put, List.setIfInBounds_toArray, List.set_cons_zero, List.set_cons_succ])
 go_cut [25] (fun v25 wc => ∃ (kq : Nat) (x25_1 : Bool), v25 = .bool x25_1 ∧ Aside0 (items_fits.j0 kq x25_1 a0_0 a0_1 a0_2 a0_3 a0_4 a0_5 a0_6 a0_7 a0_8 = some r) ∧ Aside0 (kq ≤ k) ∧ Aside0 (wc.heap[gb332]? = some (.cells #[.int .i64 a0_0, .int .i64 a0_1, .int .i64 a0_2, .int .i64 a0_3, .bool a0_4, .int .i64 a0_5, .bool a0_6, .int .i64 a0_7, .int .i64 a0_8] 34 (0, 0))) ∧ Aside0 (Below w.heap.size w wc))
 case first =>
  have H := HC2.out; clear HC2; replace H := Option.bind_eq_some_iff.mp H; obtain ⟨t333, A40, H⟩ := H; replace H : (if t333 = true then ((items_measure.f a0_2).bind fun t334 => (if t334 = true then ((items_measure.f a0_3).bind fun t335 => (if t335 = true then (items_fits.j0 k (decide (a0_3 > a0_1)) a0_0 a0_1 a0_2 a0_3 a0_4 a0_5 a0_6 a0_7 a0_8) else (items_fits.j0 k true a0_0 a0_1 a0_2 a0_3 a0_4 a0_5 a0_6 a0_7 a0_8))) else (items_fits.j0 k true a0_0 a0_1 a0_2 a0_3 a0_4 a0_5 a0_6 a0_7 a0_8))) else (items_fits.j0 k true a0_0 a0_1 a0_2 a0_3 a0_4 a0_5 a0_6 a0_7 a0_8)) = some r := H
  have A4 := Aside0.mk A40; clear A40; by_cases c5 : t333 = true
  case neg =>
    replace c5 := Bool.eq_false_iff.mpr c5
    subst c5
    have H1 : (items_fits.j0 k true a0_0 a0_1 a0_2 a0_3 a0_4 a0_5 a0_6 a0_7 a0_8) = some r := by rw [if_neg (show ¬ (false = true) by decide)] at H; exact H
    clear H; have H := H1; clear H1; have H' := Aside0.mk H; clear H; have hcz13_0 : w3.cell? ⟨gb332, 0, none⟩ = some (.int .i64 a0_0) := (blk_cell BK332.out 0).trans rfl
    have hcz13_1 : w3.cell? ⟨gb332, 1, none⟩ = some (.int .i64 a0_1) := (blk_cell BK332.out 1).trans rfl
    have hcz13_2 : w3.cell? ⟨gb332, 2, none⟩ = some (.int .i64 a0_2) := (blk_cell BK332.out 2).trans rfl
    have hcz13_3 : w3.cell? ⟨gb332, 3, none⟩ = some (.int .i64 a0_3) := (blk_cell BK332.out 3).trans rfl
    have hcz13_4 : w3.cell? ⟨gb332, 4, none⟩ = some (.bool a0_4) := (blk_cell BK332.out 4).trans rfl
    have hcz13_5 : w3.cell? ⟨gb332, 5, none⟩ = some (.int .i64 a0_5) := (blk_cell BK332.out 5).trans rfl
    have hcz13_6 : w3.cell? ⟨gb332, 6, none⟩ = some (.bool a0_6) := (blk_cell BK332.out 6).trans rfl
    have hcz13_7 : w3.cell? ⟨gb332, 7, none⟩ = some (.int .i64 a0_7) := (blk_cell BK332.out 7).trans rfl
    have hcz13_8 : w3.cell? ⟨gb332, 8, none⟩ = some (.int .i64 a0_8) := (blk_cell BK332.out 8).trans rfl
    have hfz13_0 := blk_frozen BK332.out 0; have hfz13_1 := blk_frozen BK332.out 1; have hfz13_2 := blk_frozen BK332.out 2; have hfz13_3 := blk_frozen BK332.out 3; have hfz13_4 := blk_frozen BK332.out 4; have hfz13_5 := blk_frozen BK332.out 5; have hfz13_6 := blk_frozen BK332.out 6; have hfz13_7 := blk_frozen BK332.out 7; have hfz13_8 := blk_frozen BK332.out 8; go_wp2_with (first | ((with_reducible refine gate_callee (f := 70) rfl ?_); refine goesL_ (some 5) rfl rfl Try.func70 (by kernel_rfl) rfl #[.int .i64 a0_1] rfl (by (try simp only [List.map_toArray, List.map_cons, List.map_nil]); first | done | rfl | (simp only [List.length_drop, List.length_take]; rfl)) ?_; (with_reducible refine (items_measure.calls a0_1 false _ A4.out).mono ?_); rintro e w' ⟨rfl, ⟨nd, rfl⟩⟩; refine ⟨_, rfl, ?_⟩))
    go_meet
    case rel => exact ⟨_, (true), (by first | rfl | (simp; done) | (simp [*]; done)), H', ⟨by first | omega | exact Nat.le_refl _⟩, ⟨by (with_reducible repeat first | apply kN | apply kD | apply kA); exact BK332.out⟩, ⟨by repeat (first | (with_reducible first | exact HB.out | apply bA | apply bN | apply bD | refine below_set ?_ GE332.out) | exact HB.out)⟩⟩
  subst c5
  have H1 : ((items_measure.f a0_2).bind fun t334 => (if t334 = true then ((items_measure.f a0_3).bind fun t335 => (if t335 = true then (items_fits.j0 k (decide (a0_3 > a0_1)) a0_0 a0_1 a0_2 a0_3 a0_4 a0_5 a0_6 a0_7 a0_8) else (items_fits.j0 k true a0_0 a0_1 a0_2 a0_3 a0_4 a0_5 a0_6 a0_7 a0_8))) else (items_fits.j0 k true a0_0 a0_1 a0_2 a0_3 a0_4 a0_5 a0_6 a0_7 a0_8))) = some r := by rw [if_pos rfl] at H; exact H
  clear H; have H := H1; clear H1; replace H := Option.bind_eq_some_iff.mp H; obtain ⟨t334, A60, H⟩ := H; replace H : (if t334 = true then ((items_measure.f a0_3).bind fun t335 => (if t335 = true then (items_fits.j0 k (decide (a0_3 > a0_1)) a0_0 a0_1 a0_2 a0_3 a0_4 a0_5 a0_6 a0_7 a0_8) else (items_fits.j0 k true a0_0 a0_1 a0_2 a0_3 a0_4 a0_5 a0_6 a0_7 a0_8))) else (items_fits.j0 k true a0_0 a0_1 a0_2 a0_3 a0_4 a0_5 a0_6 a0_7 a0_8)) = some r := H
  have A6 := Aside0.mk A60; clear A60; by_cases c7 : t334 = true
  case neg =>
    replace c7 := Bool.eq_false_iff.mpr c7
    subst c7
    have H1 : (items_fits.j0 k true a0_0 a0_1 a0_2 a0_3 a0_4 a0_5 a0_6 a0_7 a0_8) = some r := by rw [if_neg (show ¬ (false = true) by decide)] at H; exact H
    clear H; have H := H1; clear H1; have H' := Aside0.mk H; clear H; have hcz12_0 : w3.cell? ⟨gb332, 0, none⟩ = some (.int .i64 a0_0) := (blk_cell BK332.out 0).trans rfl
    have hcz12_1 : w3.cell? ⟨gb332, 1, none⟩ = some (.int .i64 a0_1) := (blk_cell BK332.out 1).trans rfl
    have hcz12_2 : w3.cell? ⟨gb332, 2, none⟩ = some (.int .i64 a0_2) := (blk_cell BK332.out 2).trans rfl
    have hcz12_3 : w3.cell? ⟨gb332, 3, none⟩ = some (.int .i64 a0_3) := (blk_cell BK332.out 3).trans rfl
    have hcz12_4 : w3.cell? ⟨gb332, 4, none⟩ = some (.bool a0_4) := (blk_cell BK332.out 4).trans rfl
    have hcz12_5 : w3.cell? ⟨gb332, 5, none⟩ = some (.int .i64 a0_5) := (blk_cell BK332.out 5).trans rfl
    have hcz12_6 : w3.cell? ⟨gb332, 6, none⟩ = some (.bool a0_6) := (blk_cell BK332.out 6).trans rfl
    have hcz12_7 : w3.cell? ⟨gb332, 7, none⟩ = some (.int .i64 a0_7) := (blk_cell BK332.out 7).trans rfl
    have hcz12_8 : w3.cell? ⟨gb332, 8, none⟩ = some (.int .i64 a0_8) := (blk_cell BK332.out 8).trans rfl
    have hfz12_0 := blk_frozen BK332.out 0; have hfz12_1 := blk_frozen BK332.out 1; have hfz12_2 := blk_frozen BK332.out 2; have hfz12_3 := blk_frozen BK332.out 3; have hfz12_4 := blk_frozen BK332.out 4; have hfz12_5 := blk_frozen BK332.out 5; have hfz12_6 := blk_frozen BK332.out 6; have hfz12_7 := blk_frozen BK332.out 7; have hfz12_8 := blk_frozen BK332.out 8; go_wp2_with (first | ((with_reducible refine gate_callee (f := 70) rfl ?_); refine goesL_ (some 5) rfl rfl Try.func70 (by kernel_rfl) rfl #[.int .i64 a0_1] rfl (by (try simp only [List.map_toArray, List.map_cons, List.map_nil]); first | done | rfl | (simp only [List.length_drop, List.length_take]; rfl)) ?_; (with_reducible refine (items_measure.calls a0_1 true _ A4.out).mono ?_); rintro e w' ⟨rfl, ⟨nd, rfl⟩⟩; refine ⟨_, rfl, ?_⟩) | (go_at_call 70; (with_reducible refine (items_measure.calls a0_2 false _ A6.out).mono ?_); rintro e w' ⟨rfl, ⟨nd, rfl⟩⟩))
    go_meet
    case rel => exact ⟨_, (true), (by first | rfl | (simp; done) | (simp [*]; done)), H', ⟨by first | omega | exact Nat.le_refl _⟩, ⟨by (with_reducible repeat first | apply kN | apply kD | apply kA); exact BK332.out⟩, ⟨by repeat (first | (with_reducible first | exact HB.out | apply bA | apply bN | apply bD | refine below_set ?_ GE332.out) | exact HB.out)⟩⟩
  subst c7
  have H1 : ((items_measure.f a0_3).bind fun t335 => (if t335 = true then (items_fits.j0 k (decide (a0_3 > a0_1)) a0_0 a0_1 a0_2 a0_3 a0_4 a0_5 a0_6 a0_7 a0_8) else (items_fits.j0 k true a0_0 a0_1 a0_2 a0_3 a0_4 a0_5 a0_6 a0_7 a0_8))) = some r := by rw [if_pos rfl] at H; exact H
  clear H; have H := H1; clear H1; replace H := Option.bind_eq_some_iff.mp H; obtain ⟨t335, A80, H⟩ := H; replace H : (if t335 = true then (items_fits.j0 k (decide (a0_3 > a0_1)) a0_0 a0_1 a0_2 a0_3 a0_4 a0_5 a0_6 a0_7 a0_8) else (items_fits.j0 k true a0_0 a0_1 a0_2 a0_3 a0_4 a0_5 a0_6 a0_7 a0_8)) = some r := H
  have A8 := Aside0.mk A80; clear A80; by_cases c9 : t335 = true
  · subst c9
    have H1 : (items_fits.j0 k (decide (a0_3 > a0_1)) a0_0 a0_1 a0_2 a0_3 a0_4 a0_5 a0_6 a0_7 a0_8) = some r := by rw [if_pos rfl] at H; exact H
    clear H; have H := H1; clear H1; have H' := Aside0.mk H; clear H; have hcz10_0 : w3.cell? ⟨gb332, 0, none⟩ = some (.int .i64 a0_0) := (blk_cell BK332.out 0).trans rfl
    have hcz10_1 : w3.cell? ⟨gb332, 1, none⟩ = some (.int .i64 a0_1) := (blk_cell BK332.out 1).trans rfl
    have hcz10_2 : w3.cell? ⟨gb332, 2, none⟩ = some (.int .i64 a0_2) := (blk_cell BK332.out 2).trans rfl
    have hcz10_3 : w3.cell? ⟨gb332, 3, none⟩ = some (.int .i64 a0_3) := (blk_cell BK332.out 3).trans rfl
    have hcz10_4 : w3.cell? ⟨gb332, 4, none⟩ = some (.bool a0_4) := (blk_cell BK332.out 4).trans rfl
    have hcz10_5 : w3.cell? ⟨gb332, 5, none⟩ = some (.int .i64 a0_5) := (blk_cell BK332.out 5).trans rfl
    have hcz10_6 : w3.cell? ⟨gb332, 6, none⟩ = some (.bool a0_6) := (blk_cell BK332.out 6).trans rfl
    have hcz10_7 : w3.cell? ⟨gb332, 7, none⟩ = some (.int .i64 a0_7) := (blk_cell BK332.out 7).trans rfl
    have hcz10_8 : w3.cell? ⟨gb332, 8, none⟩ = some (.int .i64 a0_8) := (blk_cell BK332.out 8).trans rfl
    have hfz10_0 := blk_frozen BK332.out 0; have hfz10_1 := blk_frozen BK332.out 1; have hfz10_2 := blk_frozen BK332.out 2; have hfz10_3 := blk_frozen BK332.out 3; have hfz10_4 := blk_frozen BK332.out 4; have hfz10_5 := blk_frozen BK332.out 5; have hfz10_6 := blk_frozen BK332.out 6; have hfz10_7 := blk_frozen BK332.out 7; have hfz10_8 := blk_frozen BK332.out 8; go_wp2_with (first | ((with_reducible refine gate_callee (f := 70) rfl ?_); refine goesL_ (some 5) rfl rfl Try.func70 (by kernel_rfl) rfl #[.int .i64 a0_1] rfl (by (try simp only [List.map_toArray, List.map_cons, List.map_nil]); first | done | rfl | (simp only [List.length_drop, List.length_take]; rfl)) ?_; (with_reducible refine (items_measure.calls a0_1 true _ A4.out).mono ?_); rintro e w' ⟨rfl, ⟨nd, rfl⟩⟩; refine ⟨_, rfl, ?_⟩) | (go_at_call 70; (with_reducible refine (items_measure.calls a0_2 true _ A6.out).mono ?_); rintro e w' ⟨rfl, ⟨nd, rfl⟩⟩) | (go_at_call 70; (with_reducible refine (items_measure.calls a0_3 true _ A8.out).mono ?_); rintro e w' ⟨rfl, ⟨nd, rfl⟩⟩))
    go_meet
    case rel => exact ⟨_, (decide (a0_3 > a0_1)), (by first | rfl | (simp; done) | (simp [*]; done)), H', ⟨by first | omega | exact Nat.le_refl _⟩, ⟨by (with_reducible repeat first | apply kN | apply kD | apply kA); exact BK332.out⟩, ⟨by repeat (first | (with_reducible first | exact HB.out | apply bA | apply bN | apply bD | refine below_set ?_ GE332.out) | exact HB.out)⟩⟩
  replace c9 := Bool.eq_false_iff.mpr c9
  subst c9
  have H1 : (items_fits.j0 k true a0_0 a0_1 a0_2 a0_3 a0_4 a0_5 a0_6 a0_7 a0_8) = some r := by rw [if_neg (show ¬ (false = true) by decide)] at H; exact H
  clear H; have H := H1; clear H1; have H' := Aside0.mk H; clear H; have hcz11_0 : w3.cell? ⟨gb332, 0, none⟩ = some (.int .i64 a0_0) := (blk_cell BK332.out 0).trans rfl
  have hcz11_1 : w3.cell? ⟨gb332, 1, none⟩ = some (.int .i64 a0_1) := (blk_cell BK332.out 1).trans rfl
  have hcz11_2 : w3.cell? ⟨gb332, 2, none⟩ = some (.int .i64 a0_2) := (blk_cell BK332.out 2).trans rfl
  have hcz11_3 : w3.cell? ⟨gb332, 3, none⟩ = some (.int .i64 a0_3) := (blk_cell BK332.out 3).trans rfl
  have hcz11_4 : w3.cell? ⟨gb332, 4, none⟩ = some (.bool a0_4) := (blk_cell BK332.out 4).trans rfl
  have hcz11_5 : w3.cell? ⟨gb332, 5, none⟩ = some (.int .i64 a0_5) := (blk_cell BK332.out 5).trans rfl
  have hcz11_6 : w3.cell? ⟨gb332, 6, none⟩ = some (.bool a0_6) := (blk_cell BK332.out 6).trans rfl
  have hcz11_7 : w3.cell? ⟨gb332, 7, none⟩ = some (.int .i64 a0_7) := (blk_cell BK332.out 7).trans rfl
  have hcz11_8 : w3.cell? ⟨gb332, 8, none⟩ = some (.int .i64 a0_8) := (blk_cell BK332.out 8).trans rfl
  have hfz11_0 := blk_frozen BK332.out 0; have hfz11_1 := blk_frozen BK332.out 1; have hfz11_2 := blk_frozen BK332.out 2; have hfz11_3 := blk_frozen BK332.out 3; have hfz11_4 := blk_frozen BK332.out 4; have hfz11_5 := blk_frozen BK332.out 5; have hfz11_6 := blk_frozen BK332.out 6; have hfz11_7 := blk_frozen BK332.out 7; have hfz11_8 := blk_frozen BK332.out 8; go_wp2_with (first | ((with_reducible refine gate_callee (f := 70) rfl ?_); refine goesL_ (some 5) rfl rfl Try.func70 (by kernel_rfl) rfl #[.int .i64 a0_1] rfl (by (try simp only [List.map_toArray, List.map_cons, List.map_nil]); first | done | rfl | (simp only [List.length_drop, List.length_take]; rfl)) ?_; (with_reducible refine (items_measure.calls a0_1 true _ A4.out).mono ?_); rintro e w' ⟨rfl, ⟨nd, rfl⟩⟩; refine ⟨_, rfl, ?_⟩) | (go_at_call 70; (with_reducible refine (items_measure.calls a0_2 true _ A6.out).mono ?_); rintro e w' ⟨rfl, ⟨nd, rfl⟩⟩) | (go_at_call 70; (with_reducible refine (items_measure.calls a0_3 false _ A8.out).mono ?_); rintro e w' ⟨rfl, ⟨nd, rfl⟩⟩))
  go_meet
  case rel => exact ⟨_, (true), (by first | rfl | (simp; done) | (simp [*]; done)), H', ⟨by first | omega | exact Nat.le_refl _⟩, ⟨by (with_reducible repeat first | apply kN | apply kD | apply kA); exact BK332.out⟩, ⟨by repeat (first | (with_reducible first | exact HB.out | apply bA | apply bN | apply bD | refine below_set ?_ GE332.out) | exact HB.out)⟩⟩
 case rest =>
  clear HC2
  try clear p2
  try clear c5
  try clear c7
  try clear c9
  try clear hcz10_0
  try clear hcz10_1
  try clear hcz10_2
  try clear hcz10_3
  try clear hcz10_4
  try clear hcz10_5
  try clear hcz10_6
  try clear hcz10_7
  try clear hcz10_8
  try clear hcz11_0
  try clear hcz11_1
  try clear hcz11_2
  try clear hcz11_3
  try clear hcz11_4
  try clear hcz11_5
  try clear hcz11_6
  try clear hcz11_7
  try clear hcz11_8
  try clear hcz12_0
  try clear hcz12_1
  try clear hcz12_2
  try clear hcz12_3
  try clear hcz12_4
  try clear hcz12_5
  try clear hcz12_6
  try clear hcz12_7
  try clear hcz12_8
  try clear hcz13_0
  try clear hcz13_1
  try clear hcz13_2
  try clear hcz13_3
  try clear hcz13_4
  try clear hcz13_5
  try clear hcz13_6
  try clear hcz13_7
  try clear hcz13_8
  try clear hfz10_0
  try clear hfz10_1
  try clear hfz10_2
  try clear hfz10_3
  try clear hfz10_4
  try clear hfz10_5
  try clear hfz10_6
  try clear hfz10_7
  try clear hfz10_8
  try clear hfz11_0
  try clear hfz11_1
  try clear hfz11_2
  try clear hfz11_3
  try clear hfz11_4
  try clear hfz11_5
  try clear hfz11_6
  try clear hfz11_7
  try clear hfz11_8
  try clear hfz12_0
  try clear hfz12_1
  try clear hfz12_2
  try clear hfz12_3
  try clear hfz12_4
  try clear hfz12_5
  try clear hfz12_6
  try clear hfz12_7
  try clear hfz12_8
  try clear hfz13_0
  try clear hfz13_1
  try clear hfz13_2
  try clear hfz13_3
  try clear hfz13_4
  try clear hfz13_5
  try clear hfz13_6
  try clear hfz13_7
  try clear hfz13_8
  obtain ⟨kq, x25_1, rfl, HA, HJ1, BK332, HB⟩ := hcut
  cases kq with
  | zero => exact absurd HA.out (by simp [items_fits.j0])
  | succ kj1 =>
    have H := HA.out; clear HA; simp only [items_fits.j0] at H
    by_cases c14 : x25_1 = true
    · subst c14
      have H1 : (some false) = some r := by rw [if_pos rfl] at H; exact H
      clear H; have H := H1; clear H1; obtain rfl := Option.some.inj H
      go_wp2
      go_ret
      exact ⟨by first | rfl | (simp [errW_none, errW_some] <;> rfl) | (simp [*, errW_none, errW_some] <;> rfl), by repeat (first | (with_reducible first | exact HB.out | apply bA | apply bN | apply bD | refine below_set ?_ GE332.out) | exact HB.out)⟩
    replace c14 := Bool.eq_false_iff.mpr c14
    subst c14
    have H1 : (if a0_0 = 1 then (if a0_2 = 0 then (if a0_3 = 0 then (if a0_5 = 0 then (if a0_4 = true then (some false) else (some (!a0_6))) else (some false)) else (some false)) else (some false)) else (if a0_0 = 2 then (if a0_5 = 0 then (if a0_6 = true then (some false) else (if a0_4 = true then (if a0_1 = 0 then (some (a0_2 == 0)) else (some false)) else (some true))) else (some false)) else (if a0_0 = 3 then (if a0_2 = 0 then (if a0_3 = 0 then (if a0_4 = true then (some false) else (if a0_5 ≥ (-10000) then (some (decide (a0_5 ≤ 10000))) else (some false))) else (some false)) else (some false)) else (some false)))) = some r := by rw [if_neg (show ¬ (false = true) by decide)] at H; exact H
    clear H; have H := H1; clear H1; by_cases c15 : a0_0 = 1
    · rw [if_pos c15] at H
      have c15b0 : (a0_0 == 1) = true := beq_iff_eq.mpr c15
      have c15b1 : (a0_0 != 1) = false := bne_eq_false_iff_eq.mpr c15
      clear c15; by_cases c16 : a0_2 = 0
      case neg =>
        rw [if_neg c16] at H
        have c16b0 : (a0_2 == 0) = false := beq_eq_false_iff_ne.mpr c16
        have c16b1 : (a0_2 != 0) = true := bne_iff_ne.mpr c16
        obtain rfl := Option.some.inj H
        have hcz24_0 : wc.cell? ⟨gb332, 0, none⟩ = some (.int .i64 a0_0) := (blk_cell BK332.out 0).trans rfl
        have hcz24_1 : wc.cell? ⟨gb332, 1, none⟩ = some (.int .i64 a0_1) := (blk_cell BK332.out 1).trans rfl
        have hcz24_2 : wc.cell? ⟨gb332, 2, none⟩ = some (.int .i64 a0_2) := (blk_cell BK332.out 2).trans rfl
        have hcz24_3 : wc.cell? ⟨gb332, 3, none⟩ = some (.int .i64 a0_3) := (blk_cell BK332.out 3).trans rfl
        have hcz24_4 : wc.cell? ⟨gb332, 4, none⟩ = some (.bool a0_4) := (blk_cell BK332.out 4).trans rfl
        have hcz24_5 : wc.cell? ⟨gb332, 5, none⟩ = some (.int .i64 a0_5) := (blk_cell BK332.out 5).trans rfl
        have hcz24_6 : wc.cell? ⟨gb332, 6, none⟩ = some (.bool a0_6) := (blk_cell BK332.out 6).trans rfl
        have hcz24_7 : wc.cell? ⟨gb332, 7, none⟩ = some (.int .i64 a0_7) := (blk_cell BK332.out 7).trans rfl
        have hcz24_8 : wc.cell? ⟨gb332, 8, none⟩ = some (.int .i64 a0_8) := (blk_cell BK332.out 8).trans rfl
        have hfz24_0 := blk_frozen BK332.out 0; have hfz24_1 := blk_frozen BK332.out 1; have hfz24_2 := blk_frozen BK332.out 2; have hfz24_3 := blk_frozen BK332.out 3; have hfz24_4 := blk_frozen BK332.out 4; have hfz24_5 := blk_frozen BK332.out 5; have hfz24_6 := blk_frozen BK332.out 6; have hfz24_7 := blk_frozen BK332.out 7; have hfz24_8 := blk_frozen BK332.out 8; go_wp2
        go_ret
        exact ⟨by first | rfl | (simp [errW_none, errW_some] <;> rfl) | (simp [*, errW_none, errW_some] <;> rfl), by repeat (first | (with_reducible first | exact HB.out | apply bA | apply bN | apply bD | refine below_set ?_ GE332.out) | exact HB.out)⟩
      rw [if_pos c16] at H
      have c16b0 : (a0_2 == 0) = true := beq_iff_eq.mpr c16
      have c16b1 : (a0_2 != 0) = false := bne_eq_false_iff_eq.mpr c16
      clear c16; by_cases c17 : a0_3 = 0
      case neg =>
        rw [if_neg c17] at H
        have c17b0 : (a0_3 == 0) = false := beq_eq_false_iff_ne.mpr c17
        have c17b1 : (a0_3 != 0) = true := bne_iff_ne.mpr c17
        obtain rfl := Option.some.inj H
        have hcz23_0 : wc.cell? ⟨gb332, 0, none⟩ = some (.int .i64 a0_0) := (blk_cell BK332.out 0).trans rfl
        have hcz23_1 : wc.cell? ⟨gb332, 1, none⟩ = some (.int .i64 a0_1) := (blk_cell BK332.out 1).trans rfl
        have hcz23_2 : wc.cell? ⟨gb332, 2, none⟩ = some (.int .i64 a0_2) := (blk_cell BK332.out 2).trans rfl
        have hcz23_3 : wc.cell? ⟨gb332, 3, none⟩ = some (.int .i64 a0_3) := (blk_cell BK332.out 3).trans rfl
        have hcz23_4 : wc.cell? ⟨gb332, 4, none⟩ = some (.bool a0_4) := (blk_cell BK332.out 4).trans rfl
        have hcz23_5 : wc.cell? ⟨gb332, 5, none⟩ = some (.int .i64 a0_5) := (blk_cell BK332.out 5).trans rfl
        have hcz23_6 : wc.cell? ⟨gb332, 6, none⟩ = some (.bool a0_6) := (blk_cell BK332.out 6).trans rfl
        have hcz23_7 : wc.cell? ⟨gb332, 7, none⟩ = some (.int .i64 a0_7) := (blk_cell BK332.out 7).trans rfl
        have hcz23_8 : wc.cell? ⟨gb332, 8, none⟩ = some (.int .i64 a0_8) := (blk_cell BK332.out 8).trans rfl
        have hfz23_0 := blk_frozen BK332.out 0; have hfz23_1 := blk_frozen BK332.out 1; have hfz23_2 := blk_frozen BK332.out 2; have hfz23_3 := blk_frozen BK332.out 3; have hfz23_4 := blk_frozen BK332.out 4; have hfz23_5 := blk_frozen BK332.out 5; have hfz23_6 := blk_frozen BK332.out 6; have hfz23_7 := blk_frozen BK332.out 7; have hfz23_8 := blk_frozen BK332.out 8; go_wp2
        go_ret
        exact ⟨by first | rfl | (simp [errW_none, errW_some] <;> rfl) | (simp [*, errW_none, errW_some] <;> rfl), by repeat (first | (with_reducible first | exact HB.out | apply bA | apply bN | apply bD | refine below_set ?_ GE332.out) | exact HB.out)⟩
      rw [if_pos c17] at H
      have c17b0 : (a0_3 == 0) = true := beq_iff_eq.mpr c17
      have c17b1 : (a0_3 != 0) = false := bne_eq_false_iff_eq.mpr c17
      clear c17; by_cases c18 : a0_5 = 0
      case neg =>
        rw [if_neg c18] at H
        have c18b0 : (a0_5 == 0) = false := beq_eq_false_iff_ne.mpr c18
        have c18b1 : (a0_5 != 0) = true := bne_iff_ne.mpr c18
        obtain rfl := Option.some.inj H
        have hcz22_0 : wc.cell? ⟨gb332, 0, none⟩ = some (.int .i64 a0_0) := (blk_cell BK332.out 0).trans rfl
        have hcz22_1 : wc.cell? ⟨gb332, 1, none⟩ = some (.int .i64 a0_1) := (blk_cell BK332.out 1).trans rfl
        have hcz22_2 : wc.cell? ⟨gb332, 2, none⟩ = some (.int .i64 a0_2) := (blk_cell BK332.out 2).trans rfl
        have hcz22_3 : wc.cell? ⟨gb332, 3, none⟩ = some (.int .i64 a0_3) := (blk_cell BK332.out 3).trans rfl
        have hcz22_4 : wc.cell? ⟨gb332, 4, none⟩ = some (.bool a0_4) := (blk_cell BK332.out 4).trans rfl
        have hcz22_5 : wc.cell? ⟨gb332, 5, none⟩ = some (.int .i64 a0_5) := (blk_cell BK332.out 5).trans rfl
        have hcz22_6 : wc.cell? ⟨gb332, 6, none⟩ = some (.bool a0_6) := (blk_cell BK332.out 6).trans rfl
        have hcz22_7 : wc.cell? ⟨gb332, 7, none⟩ = some (.int .i64 a0_7) := (blk_cell BK332.out 7).trans rfl
        have hcz22_8 : wc.cell? ⟨gb332, 8, none⟩ = some (.int .i64 a0_8) := (blk_cell BK332.out 8).trans rfl
        have hfz22_0 := blk_frozen BK332.out 0; have hfz22_1 := blk_frozen BK332.out 1; have hfz22_2 := blk_frozen BK332.out 2; have hfz22_3 := blk_frozen BK332.out 3; have hfz22_4 := blk_frozen BK332.out 4; have hfz22_5 := blk_frozen BK332.out 5; have hfz22_6 := blk_frozen BK332.out 6; have hfz22_7 := blk_frozen BK332.out 7; have hfz22_8 := blk_frozen BK332.out 8; go_wp2
        go_ret
        exact ⟨by first | rfl | (simp [errW_none, errW_some] <;> rfl) | (simp [*, errW_none, errW_some] <;> rfl), by repeat (first | (with_reducible first | exact HB.out | apply bA | apply bN | apply bD | refine below_set ?_ GE332.out) | exact HB.out)⟩
      rw [if_pos c18] at H
      have c18b0 : (a0_5 == 0) = true := beq_iff_eq.mpr c18
      have c18b1 : (a0_5 != 0) = false := bne_eq_false_iff_eq.mpr c18
      clear c18; by_cases c19 : a0_4 = true
      · subst c19
        have H1 : (some false) = some r := by rw [if_pos rfl] at H; exact H
        clear H; have H := H1; clear H1; obtain rfl := Option.some.inj H
        have hcz20_0 : wc.cell? ⟨gb332, 0, none⟩ = some (.int .i64 a0_0) := (blk_cell BK332.out 0).trans rfl
        have hcz20_1 : wc.cell? ⟨gb332, 1, none⟩ = some (.int .i64 a0_1) := (blk_cell BK332.out 1).trans rfl
        have hcz20_2 : wc.cell? ⟨gb332, 2, none⟩ = some (.int .i64 a0_2) := (blk_cell BK332.out 2).trans rfl
        have hcz20_3 : wc.cell? ⟨gb332, 3, none⟩ = some (.int .i64 a0_3) := (blk_cell BK332.out 3).trans rfl
        have hcz20_4 : wc.cell? ⟨gb332, 4, none⟩ = some (.bool true) := (blk_cell BK332.out 4).trans rfl
        have hcz20_5 : wc.cell? ⟨gb332, 5, none⟩ = some (.int .i64 a0_5) := (blk_cell BK332.out 5).trans rfl
        have hcz20_6 : wc.cell? ⟨gb332, 6, none⟩ = some (.bool a0_6) := (blk_cell BK332.out 6).trans rfl
        have hcz20_7 : wc.cell? ⟨gb332, 7, none⟩ = some (.int .i64 a0_7) := (blk_cell BK332.out 7).trans rfl
        have hcz20_8 : wc.cell? ⟨gb332, 8, none⟩ = some (.int .i64 a0_8) := (blk_cell BK332.out 8).trans rfl
        have hfz20_0 := blk_frozen BK332.out 0; have hfz20_1 := blk_frozen BK332.out 1; have hfz20_2 := blk_frozen BK332.out 2; have hfz20_3 := blk_frozen BK332.out 3; have hfz20_4 := blk_frozen BK332.out 4; have hfz20_5 := blk_frozen BK332.out 5; have hfz20_6 := blk_frozen BK332.out 6; have hfz20_7 := blk_frozen BK332.out 7; have hfz20_8 := blk_frozen BK332.out 8; go_wp2
        go_ret
        exact ⟨by first | rfl | (simp [errW_none, errW_some] <;> rfl) | (simp [*, errW_none, errW_some] <;> rfl), by repeat (first | (with_reducible first | exact HB.out | apply bA | apply bN | apply bD | refine below_set ?_ GE332.out) | exact HB.out)⟩
      replace c19 := Bool.eq_false_iff.mpr c19
      subst c19
      have H1 : (some (!a0_6)) = some r := by rw [if_neg (show ¬ (false = true) by decide)] at H; exact H
      clear H; have H := H1; clear H1; obtain rfl := Option.some.inj H
      have hcz21_0 : wc.cell? ⟨gb332, 0, none⟩ = some (.int .i64 a0_0) := (blk_cell BK332.out 0).trans rfl
      have hcz21_1 : wc.cell? ⟨gb332, 1, none⟩ = some (.int .i64 a0_1) := (blk_cell BK332.out 1).trans rfl
      have hcz21_2 : wc.cell? ⟨gb332, 2, none⟩ = some (.int .i64 a0_2) := (blk_cell BK332.out 2).trans rfl
      have hcz21_3 : wc.cell? ⟨gb332, 3, none⟩ = some (.int .i64 a0_3) := (blk_cell BK332.out 3).trans rfl
      have hcz21_4 : wc.cell? ⟨gb332, 4, none⟩ = some (.bool false) := (blk_cell BK332.out 4).trans rfl
      have hcz21_5 : wc.cell? ⟨gb332, 5, none⟩ = some (.int .i64 a0_5) := (blk_cell BK332.out 5).trans rfl
      have hcz21_6 : wc.cell? ⟨gb332, 6, none⟩ = some (.bool a0_6) := (blk_cell BK332.out 6).trans rfl
      have hcz21_7 : wc.cell? ⟨gb332, 7, none⟩ = some (.int .i64 a0_7) := (blk_cell BK332.out 7).trans rfl
      have hcz21_8 : wc.cell? ⟨gb332, 8, none⟩ = some (.int .i64 a0_8) := (blk_cell BK332.out 8).trans rfl
      have hfz21_0 := blk_frozen BK332.out 0; have hfz21_1 := blk_frozen BK332.out 1; have hfz21_2 := blk_frozen BK332.out 2; have hfz21_3 := blk_frozen BK332.out 3; have hfz21_4 := blk_frozen BK332.out 4; have hfz21_5 := blk_frozen BK332.out 5; have hfz21_6 := blk_frozen BK332.out 6; have hfz21_7 := blk_frozen BK332.out 7; have hfz21_8 := blk_frozen BK332.out 8; go_wp2
      go_ret
      exact ⟨by first | rfl | (simp [errW_none, errW_some] <;> rfl) | (simp [*, errW_none, errW_some] <;> rfl), by repeat (first | (with_reducible first | exact HB.out | apply bA | apply bN | apply bD | refine below_set ?_ GE332.out) | exact HB.out)⟩
    rw [if_neg c15] at H
    have c15b0 : (a0_0 == 1) = false := beq_eq_false_iff_ne.mpr c15
    have c15b1 : (a0_0 != 1) = true := bne_iff_ne.mpr c15
    by_cases c25 : a0_0 = 2
    · rw [if_pos c25] at H
      have c25b0 : (a0_0 == 2) = true := beq_iff_eq.mpr c25
      have c25b1 : (a0_0 != 2) = false := bne_eq_false_iff_eq.mpr c25
      clear c25; by_cases c26 : a0_5 = 0
      case neg =>
        rw [if_neg c26] at H
        have c26b0 : (a0_5 == 0) = false := beq_eq_false_iff_ne.mpr c26
        have c26b1 : (a0_5 != 0) = true := bne_iff_ne.mpr c26
        obtain rfl := Option.some.inj H
        have hcz34_0 : wc.cell? ⟨gb332, 0, none⟩ = some (.int .i64 a0_0) := (blk_cell BK332.out 0).trans rfl
        have hcz34_1 : wc.cell? ⟨gb332, 1, none⟩ = some (.int .i64 a0_1) := (blk_cell BK332.out 1).trans rfl
        have hcz34_2 : wc.cell? ⟨gb332, 2, none⟩ = some (.int .i64 a0_2) := (blk_cell BK332.out 2).trans rfl
        have hcz34_3 : wc.cell? ⟨gb332, 3, none⟩ = some (.int .i64 a0_3) := (blk_cell BK332.out 3).trans rfl
        have hcz34_4 : wc.cell? ⟨gb332, 4, none⟩ = some (.bool a0_4) := (blk_cell BK332.out 4).trans rfl
        have hcz34_5 : wc.cell? ⟨gb332, 5, none⟩ = some (.int .i64 a0_5) := (blk_cell BK332.out 5).trans rfl
        have hcz34_6 : wc.cell? ⟨gb332, 6, none⟩ = some (.bool a0_6) := (blk_cell BK332.out 6).trans rfl
        have hcz34_7 : wc.cell? ⟨gb332, 7, none⟩ = some (.int .i64 a0_7) := (blk_cell BK332.out 7).trans rfl
        have hcz34_8 : wc.cell? ⟨gb332, 8, none⟩ = some (.int .i64 a0_8) := (blk_cell BK332.out 8).trans rfl
        have hfz34_0 := blk_frozen BK332.out 0; have hfz34_1 := blk_frozen BK332.out 1; have hfz34_2 := blk_frozen BK332.out 2; have hfz34_3 := blk_frozen BK332.out 3; have hfz34_4 := blk_frozen BK332.out 4; have hfz34_5 := blk_frozen BK332.out 5; have hfz34_6 := blk_frozen BK332.out 6; have hfz34_7 := blk_frozen BK332.out 7; have hfz34_8 := blk_frozen BK332.out 8; go_wp2
        go_ret
        exact ⟨by first | rfl | (simp [errW_none, errW_some] <;> rfl) | (simp [*, errW_none, errW_some] <;> rfl), by repeat (first | (with_reducible first | exact HB.out | apply bA | apply bN | apply bD | refine below_set ?_ GE332.out) | exact HB.out)⟩
      rw [if_pos c26] at H
      have c26b0 : (a0_5 == 0) = true := beq_iff_eq.mpr c26
      have c26b1 : (a0_5 != 0) = false := bne_eq_false_iff_eq.mpr c26
      clear c26; by_cases c27 : a0_6 = true
      · subst c27
        have H1 : (some false) = some r := by rw [if_pos rfl] at H; exact H
        clear H; have H := H1; clear H1; obtain rfl := Option.some.inj H
        have hcz28_0 : wc.cell? ⟨gb332, 0, none⟩ = some (.int .i64 a0_0) := (blk_cell BK332.out 0).trans rfl
        have hcz28_1 : wc.cell? ⟨gb332, 1, none⟩ = some (.int .i64 a0_1) := (blk_cell BK332.out 1).trans rfl
        have hcz28_2 : wc.cell? ⟨gb332, 2, none⟩ = some (.int .i64 a0_2) := (blk_cell BK332.out 2).trans rfl
        have hcz28_3 : wc.cell? ⟨gb332, 3, none⟩ = some (.int .i64 a0_3) := (blk_cell BK332.out 3).trans rfl
        have hcz28_4 : wc.cell? ⟨gb332, 4, none⟩ = some (.bool a0_4) := (blk_cell BK332.out 4).trans rfl
        have hcz28_5 : wc.cell? ⟨gb332, 5, none⟩ = some (.int .i64 a0_5) := (blk_cell BK332.out 5).trans rfl
        have hcz28_6 : wc.cell? ⟨gb332, 6, none⟩ = some (.bool true) := (blk_cell BK332.out 6).trans rfl
        have hcz28_7 : wc.cell? ⟨gb332, 7, none⟩ = some (.int .i64 a0_7) := (blk_cell BK332.out 7).trans rfl
        have hcz28_8 : wc.cell? ⟨gb332, 8, none⟩ = some (.int .i64 a0_8) := (blk_cell BK332.out 8).trans rfl
        have hfz28_0 := blk_frozen BK332.out 0; have hfz28_1 := blk_frozen BK332.out 1; have hfz28_2 := blk_frozen BK332.out 2; have hfz28_3 := blk_frozen BK332.out 3; have hfz28_4 := blk_frozen BK332.out 4; have hfz28_5 := blk_frozen BK332.out 5; have hfz28_6 := blk_frozen BK332.out 6; have hfz28_7 := blk_frozen BK332.out 7; have hfz28_8 := blk_frozen BK332.out 8; go_wp2
        go_ret
        exact ⟨by first | rfl | (simp [errW_none, errW_some] <;> rfl) | (simp [*, errW_none, errW_some] <;> rfl), by repeat (first | (with_reducible first | exact HB.out | apply bA | apply bN | apply bD | refine below_set ?_ GE332.out) | exact HB.out)⟩
      replace c27 := Bool.eq_false_iff.mpr c27
      subst c27
      have H1 : (if a0_4 = true then (if a0_1 = 0 then (some (a0_2 == 0)) else (some false)) else (some true)) = some r := by rw [if_neg (show ¬ (false = true) by decide)] at H; exact H
      clear H; have H := H1; clear H1; by_cases c29 : a0_4 = true
      case neg =>
        replace c29 := Bool.eq_false_iff.mpr c29
        subst c29
        have H1 : (some true) = some r := by rw [if_neg (show ¬ (false = true) by decide)] at H; exact H
        clear H; have H := H1; clear H1; obtain rfl := Option.some.inj H
        have hcz33_0 : wc.cell? ⟨gb332, 0, none⟩ = some (.int .i64 a0_0) := (blk_cell BK332.out 0).trans rfl
        have hcz33_1 : wc.cell? ⟨gb332, 1, none⟩ = some (.int .i64 a0_1) := (blk_cell BK332.out 1).trans rfl
        have hcz33_2 : wc.cell? ⟨gb332, 2, none⟩ = some (.int .i64 a0_2) := (blk_cell BK332.out 2).trans rfl
        have hcz33_3 : wc.cell? ⟨gb332, 3, none⟩ = some (.int .i64 a0_3) := (blk_cell BK332.out 3).trans rfl
        have hcz33_4 : wc.cell? ⟨gb332, 4, none⟩ = some (.bool false) := (blk_cell BK332.out 4).trans rfl
        have hcz33_5 : wc.cell? ⟨gb332, 5, none⟩ = some (.int .i64 a0_5) := (blk_cell BK332.out 5).trans rfl
        have hcz33_6 : wc.cell? ⟨gb332, 6, none⟩ = some (.bool false) := (blk_cell BK332.out 6).trans rfl
        have hcz33_7 : wc.cell? ⟨gb332, 7, none⟩ = some (.int .i64 a0_7) := (blk_cell BK332.out 7).trans rfl
        have hcz33_8 : wc.cell? ⟨gb332, 8, none⟩ = some (.int .i64 a0_8) := (blk_cell BK332.out 8).trans rfl
        have hfz33_0 := blk_frozen BK332.out 0; have hfz33_1 := blk_frozen BK332.out 1; have hfz33_2 := blk_frozen BK332.out 2; have hfz33_3 := blk_frozen BK332.out 3; have hfz33_4 := blk_frozen BK332.out 4; have hfz33_5 := blk_frozen BK332.out 5; have hfz33_6 := blk_frozen BK332.out 6; have hfz33_7 := blk_frozen BK332.out 7; have hfz33_8 := blk_frozen BK332.out 8; go_wp2
        go_ret
        exact ⟨by first | rfl | (simp [errW_none, errW_some] <;> rfl) | (simp [*, errW_none, errW_some] <;> rfl), by repeat (first | (with_reducible first | exact HB.out | apply bA | apply bN | apply bD | refine below_set ?_ GE332.out) | exact HB.out)⟩
      subst c29
      have H1 : (if a0_1 = 0 then (some (a0_2 == 0)) else (some false)) = some r := by rw [if_pos rfl] at H; exact H
      clear H; have H := H1; clear H1; by_cases c30 : a0_1 = 0
      case neg =>
        rw [if_neg c30] at H
        have c30b0 : (a0_1 == 0) = false := beq_eq_false_iff_ne.mpr c30
        have c30b1 : (a0_1 != 0) = true := bne_iff_ne.mpr c30
        obtain rfl := Option.some.inj H
        have hcz32_0 : wc.cell? ⟨gb332, 0, none⟩ = some (.int .i64 a0_0) := (blk_cell BK332.out 0).trans rfl
        have hcz32_1 : wc.cell? ⟨gb332, 1, none⟩ = some (.int .i64 a0_1) := (blk_cell BK332.out 1).trans rfl
        have hcz32_2 : wc.cell? ⟨gb332, 2, none⟩ = some (.int .i64 a0_2) := (blk_cell BK332.out 2).trans rfl
        have hcz32_3 : wc.cell? ⟨gb332, 3, none⟩ = some (.int .i64 a0_3) := (blk_cell BK332.out 3).trans rfl
        have hcz32_4 : wc.cell? ⟨gb332, 4, none⟩ = some (.bool true) := (blk_cell BK332.out 4).trans rfl
        have hcz32_5 : wc.cell? ⟨gb332, 5, none⟩ = some (.int .i64 a0_5) := (blk_cell BK332.out 5).trans rfl
        have hcz32_6 : wc.cell? ⟨gb332, 6, none⟩ = some (.bool false) := (blk_cell BK332.out 6).trans rfl
        have hcz32_7 : wc.cell? ⟨gb332, 7, none⟩ = some (.int .i64 a0_7) := (blk_cell BK332.out 7).trans rfl
        have hcz32_8 : wc.cell? ⟨gb332, 8, none⟩ = some (.int .i64 a0_8) := (blk_cell BK332.out 8).trans rfl
        have hfz32_0 := blk_frozen BK332.out 0; have hfz32_1 := blk_frozen BK332.out 1; have hfz32_2 := blk_frozen BK332.out 2; have hfz32_3 := blk_frozen BK332.out 3; have hfz32_4 := blk_frozen BK332.out 4; have hfz32_5 := blk_frozen BK332.out 5; have hfz32_6 := blk_frozen BK332.out 6; have hfz32_7 := blk_frozen BK332.out 7; have hfz32_8 := blk_frozen BK332.out 8; go_wp2
        go_ret
        exact ⟨by first | rfl | (simp [errW_none, errW_some] <;> rfl) | (simp [*, errW_none, errW_some] <;> rfl), by repeat (first | (with_reducible first | exact HB.out | apply bA | apply bN | apply bD | refine below_set ?_ GE332.out) | exact HB.out)⟩
      rw [if_pos c30] at H
      have c30b0 : (a0_1 == 0) = true := beq_iff_eq.mpr c30
      have c30b1 : (a0_1 != 0) = false := bne_eq_false_iff_eq.mpr c30
      clear c30; obtain rfl := Option.some.inj H
      have hcz31_0 : wc.cell? ⟨gb332, 0, none⟩ = some (.int .i64 a0_0) := (blk_cell BK332.out 0).trans rfl
      have hcz31_1 : wc.cell? ⟨gb332, 1, none⟩ = some (.int .i64 a0_1) := (blk_cell BK332.out 1).trans rfl
      have hcz31_2 : wc.cell? ⟨gb332, 2, none⟩ = some (.int .i64 a0_2) := (blk_cell BK332.out 2).trans rfl
      have hcz31_3 : wc.cell? ⟨gb332, 3, none⟩ = some (.int .i64 a0_3) := (blk_cell BK332.out 3).trans rfl
      have hcz31_4 : wc.cell? ⟨gb332, 4, none⟩ = some (.bool true) := (blk_cell BK332.out 4).trans rfl
      have hcz31_5 : wc.cell? ⟨gb332, 5, none⟩ = some (.int .i64 a0_5) := (blk_cell BK332.out 5).trans rfl
      have hcz31_6 : wc.cell? ⟨gb332, 6, none⟩ = some (.bool false) := (blk_cell BK332.out 6).trans rfl
      have hcz31_7 : wc.cell? ⟨gb332, 7, none⟩ = some (.int .i64 a0_7) := (blk_cell BK332.out 7).trans rfl
      have hcz31_8 : wc.cell? ⟨gb332, 8, none⟩ = some (.int .i64 a0_8) := (blk_cell BK332.out 8).trans rfl
      have hfz31_0 := blk_frozen BK332.out 0; have hfz31_1 := blk_frozen BK332.out 1; have hfz31_2 := blk_frozen BK332.out 2; have hfz31_3 := blk_frozen BK332.out 3; have hfz31_4 := blk_frozen BK332.out 4; have hfz31_5 := blk_frozen BK332.out 5; have hfz31_6 := blk_frozen BK332.out 6; have hfz31_7 := blk_frozen BK332.out 7; have hfz31_8 := blk_frozen BK332.out 8; go_wp2
      go_ret
      exact ⟨by first | rfl | (simp [errW_none, errW_some] <;> rfl) | (simp [*, errW_none, errW_some] <;> rfl), by repeat (first | (with_reducible first | exact HB.out | apply bA | apply bN | apply bD | refine below_set ?_ GE332.out) | exact HB.out)⟩
    rw [if_neg c25] at H
    have c25b0 : (a0_0 == 2) = false := beq_eq_false_iff_ne.mpr c25
    have c25b1 : (a0_0 != 2) = true := bne_iff_ne.mpr c25
    by_cases c35 : a0_0 = 3
    case neg =>
      rw [if_neg c35] at H
      have c35b0 : (a0_0 == 3) = false := beq_eq_false_iff_ne.mpr c35
      have c35b1 : (a0_0 != 3) = true := bne_iff_ne.mpr c35
      obtain rfl := Option.some.inj H
      have hcz45_0 : wc.cell? ⟨gb332, 0, none⟩ = some (.int .i64 a0_0) := (blk_cell BK332.out 0).trans rfl
      have hcz45_1 : wc.cell? ⟨gb332, 1, none⟩ = some (.int .i64 a0_1) := (blk_cell BK332.out 1).trans rfl
      have hcz45_2 : wc.cell? ⟨gb332, 2, none⟩ = some (.int .i64 a0_2) := (blk_cell BK332.out 2).trans rfl
      have hcz45_3 : wc.cell? ⟨gb332, 3, none⟩ = some (.int .i64 a0_3) := (blk_cell BK332.out 3).trans rfl
      have hcz45_4 : wc.cell? ⟨gb332, 4, none⟩ = some (.bool a0_4) := (blk_cell BK332.out 4).trans rfl
      have hcz45_5 : wc.cell? ⟨gb332, 5, none⟩ = some (.int .i64 a0_5) := (blk_cell BK332.out 5).trans rfl
      have hcz45_6 : wc.cell? ⟨gb332, 6, none⟩ = some (.bool a0_6) := (blk_cell BK332.out 6).trans rfl
      have hcz45_7 : wc.cell? ⟨gb332, 7, none⟩ = some (.int .i64 a0_7) := (blk_cell BK332.out 7).trans rfl
      have hcz45_8 : wc.cell? ⟨gb332, 8, none⟩ = some (.int .i64 a0_8) := (blk_cell BK332.out 8).trans rfl
      have hfz45_0 := blk_frozen BK332.out 0; have hfz45_1 := blk_frozen BK332.out 1; have hfz45_2 := blk_frozen BK332.out 2; have hfz45_3 := blk_frozen BK332.out 3; have hfz45_4 := blk_frozen BK332.out 4; have hfz45_5 := blk_frozen BK332.out 5; have hfz45_6 := blk_frozen BK332.out 6; have hfz45_7 := blk_frozen BK332.out 7; have hfz45_8 := blk_frozen BK332.out 8; go_wp2
      go_ret
      exact ⟨by first | rfl | (simp [errW_none, errW_some] <;> rfl) | (simp [*, errW_none, errW_some] <;> rfl), by repeat (first | (with_reducible first | exact HB.out | apply bA | apply bN | apply bD | refine below_set ?_ GE332.out) | exact HB.out)⟩
    rw [if_pos c35] at H
    have c35b0 : (a0_0 == 3) = true := beq_iff_eq.mpr c35
    have c35b1 : (a0_0 != 3) = false := bne_eq_false_iff_eq.mpr c35
    clear c35; by_cases c36 : a0_2 = 0
    case neg =>
      rw [if_neg c36] at H
      have c36b0 : (a0_2 == 0) = false := beq_eq_false_iff_ne.mpr c36
      have c36b1 : (a0_2 != 0) = true := bne_iff_ne.mpr c36
      obtain rfl := Option.some.inj H
      have hcz44_0 : wc.cell? ⟨gb332, 0, none⟩ = some (.int .i64 a0_0) := (blk_cell BK332.out 0).trans rfl
      have hcz44_1 : wc.cell? ⟨gb332, 1, none⟩ = some (.int .i64 a0_1) := (blk_cell BK332.out 1).trans rfl
      have hcz44_2 : wc.cell? ⟨gb332, 2, none⟩ = some (.int .i64 a0_2) := (blk_cell BK332.out 2).trans rfl
      have hcz44_3 : wc.cell? ⟨gb332, 3, none⟩ = some (.int .i64 a0_3) := (blk_cell BK332.out 3).trans rfl
      have hcz44_4 : wc.cell? ⟨gb332, 4, none⟩ = some (.bool a0_4) := (blk_cell BK332.out 4).trans rfl
      have hcz44_5 : wc.cell? ⟨gb332, 5, none⟩ = some (.int .i64 a0_5) := (blk_cell BK332.out 5).trans rfl
      have hcz44_6 : wc.cell? ⟨gb332, 6, none⟩ = some (.bool a0_6) := (blk_cell BK332.out 6).trans rfl
      have hcz44_7 : wc.cell? ⟨gb332, 7, none⟩ = some (.int .i64 a0_7) := (blk_cell BK332.out 7).trans rfl
      have hcz44_8 : wc.cell? ⟨gb332, 8, none⟩ = some (.int .i64 a0_8) := (blk_cell BK332.out 8).trans rfl
      have hfz44_0 := blk_frozen BK332.out 0; have hfz44_1 := blk_frozen BK332.out 1; have hfz44_2 := blk_frozen BK332.out 2; have hfz44_3 := blk_frozen BK332.out 3; have hfz44_4 := blk_frozen BK332.out 4; have hfz44_5 := blk_frozen BK332.out 5; have hfz44_6 := blk_frozen BK332.out 6; have hfz44_7 := blk_frozen BK332.out 7; have hfz44_8 := blk_frozen BK332.out 8; go_wp2
      go_ret
      exact ⟨by first | rfl | (simp [errW_none, errW_some] <;> rfl) | (simp [*, errW_none, errW_some] <;> rfl), by repeat (first | (with_reducible first | exact HB.out | apply bA | apply bN | apply bD | refine below_set ?_ GE332.out) | exact HB.out)⟩
    rw [if_pos c36] at H
    have c36b0 : (a0_2 == 0) = true := beq_iff_eq.mpr c36
    have c36b1 : (a0_2 != 0) = false := bne_eq_false_iff_eq.mpr c36
    clear c36; by_cases c37 : a0_3 = 0
    case neg =>
      rw [if_neg c37] at H
      have c37b0 : (a0_3 == 0) = false := beq_eq_false_iff_ne.mpr c37
      have c37b1 : (a0_3 != 0) = true := bne_iff_ne.mpr c37
      obtain rfl := Option.some.inj H
      have hcz43_0 : wc.cell? ⟨gb332, 0, none⟩ = some (.int .i64 a0_0) := (blk_cell BK332.out 0).trans rfl
      have hcz43_1 : wc.cell? ⟨gb332, 1, none⟩ = some (.int .i64 a0_1) := (blk_cell BK332.out 1).trans rfl
      have hcz43_2 : wc.cell? ⟨gb332, 2, none⟩ = some (.int .i64 a0_2) := (blk_cell BK332.out 2).trans rfl
      have hcz43_3 : wc.cell? ⟨gb332, 3, none⟩ = some (.int .i64 a0_3) := (blk_cell BK332.out 3).trans rfl
      have hcz43_4 : wc.cell? ⟨gb332, 4, none⟩ = some (.bool a0_4) := (blk_cell BK332.out 4).trans rfl
      have hcz43_5 : wc.cell? ⟨gb332, 5, none⟩ = some (.int .i64 a0_5) := (blk_cell BK332.out 5).trans rfl
      have hcz43_6 : wc.cell? ⟨gb332, 6, none⟩ = some (.bool a0_6) := (blk_cell BK332.out 6).trans rfl
      have hcz43_7 : wc.cell? ⟨gb332, 7, none⟩ = some (.int .i64 a0_7) := (blk_cell BK332.out 7).trans rfl
      have hcz43_8 : wc.cell? ⟨gb332, 8, none⟩ = some (.int .i64 a0_8) := (blk_cell BK332.out 8).trans rfl
      have hfz43_0 := blk_frozen BK332.out 0; have hfz43_1 := blk_frozen BK332.out 1; have hfz43_2 := blk_frozen BK332.out 2; have hfz43_3 := blk_frozen BK332.out 3; have hfz43_4 := blk_frozen BK332.out 4; have hfz43_5 := blk_frozen BK332.out 5; have hfz43_6 := blk_frozen BK332.out 6; have hfz43_7 := blk_frozen BK332.out 7; have hfz43_8 := blk_frozen BK332.out 8; go_wp2
      go_ret
      exact ⟨by first | rfl | (simp [errW_none, errW_some] <;> rfl) | (simp [*, errW_none, errW_some] <;> rfl), by repeat (first | (with_reducible first | exact HB.out | apply bA | apply bN | apply bD | refine below_set ?_ GE332.out) | exact HB.out)⟩
    rw [if_pos c37] at H
    have c37b0 : (a0_3 == 0) = true := beq_iff_eq.mpr c37
    have c37b1 : (a0_3 != 0) = false := bne_eq_false_iff_eq.mpr c37
    clear c37; by_cases c38 : a0_4 = true
    · subst c38
      have H1 : (some false) = some r := by rw [if_pos rfl] at H; exact H
      clear H; have H := H1; clear H1; obtain rfl := Option.some.inj H
      have hcz39_0 : wc.cell? ⟨gb332, 0, none⟩ = some (.int .i64 a0_0) := (blk_cell BK332.out 0).trans rfl
      have hcz39_1 : wc.cell? ⟨gb332, 1, none⟩ = some (.int .i64 a0_1) := (blk_cell BK332.out 1).trans rfl
      have hcz39_2 : wc.cell? ⟨gb332, 2, none⟩ = some (.int .i64 a0_2) := (blk_cell BK332.out 2).trans rfl
      have hcz39_3 : wc.cell? ⟨gb332, 3, none⟩ = some (.int .i64 a0_3) := (blk_cell BK332.out 3).trans rfl
      have hcz39_4 : wc.cell? ⟨gb332, 4, none⟩ = some (.bool true) := (blk_cell BK332.out 4).trans rfl
      have hcz39_5 : wc.cell? ⟨gb332, 5, none⟩ = some (.int .i64 a0_5) := (blk_cell BK332.out 5).trans rfl
      have hcz39_6 : wc.cell? ⟨gb332, 6, none⟩ = some (.bool a0_6) := (blk_cell BK332.out 6).trans rfl
      have hcz39_7 : wc.cell? ⟨gb332, 7, none⟩ = some (.int .i64 a0_7) := (blk_cell BK332.out 7).trans rfl
      have hcz39_8 : wc.cell? ⟨gb332, 8, none⟩ = some (.int .i64 a0_8) := (blk_cell BK332.out 8).trans rfl
      have hfz39_0 := blk_frozen BK332.out 0; have hfz39_1 := blk_frozen BK332.out 1; have hfz39_2 := blk_frozen BK332.out 2; have hfz39_3 := blk_frozen BK332.out 3; have hfz39_4 := blk_frozen BK332.out 4; have hfz39_5 := blk_frozen BK332.out 5; have hfz39_6 := blk_frozen BK332.out 6; have hfz39_7 := blk_frozen BK332.out 7; have hfz39_8 := blk_frozen BK332.out 8; go_wp2
      go_ret
      exact ⟨by first | rfl | (simp [errW_none, errW_some] <;> rfl) | (simp [*, errW_none, errW_some] <;> rfl), by repeat (first | (with_reducible first | exact HB.out | apply bA | apply bN | apply bD | refine below_set ?_ GE332.out) | exact HB.out)⟩
    replace c38 := Bool.eq_false_iff.mpr c38
    subst c38
    have H1 : (if a0_5 ≥ (-10000) then (some (decide (a0_5 ≤ 10000))) else (some false)) = some r := by rw [if_neg (show ¬ (false = true) by decide)] at H; exact H
    clear H; have H := H1; clear H1; by_cases c40 : a0_5 ≥ (-10000)
    · rw [if_pos c40] at H
      have c40b0 : decide ((-10000) ≤ a0_5) = true := decide_eq_true c40
      clear c40; obtain rfl := Option.some.inj H
      have hcz41_0 : wc.cell? ⟨gb332, 0, none⟩ = some (.int .i64 a0_0) := (blk_cell BK332.out 0).trans rfl
      have hcz41_1 : wc.cell? ⟨gb332, 1, none⟩ = some (.int .i64 a0_1) := (blk_cell BK332.out 1).trans rfl
      have hcz41_2 : wc.cell? ⟨gb332, 2, none⟩ = some (.int .i64 a0_2) := (blk_cell BK332.out 2).trans rfl
      have hcz41_3 : wc.cell? ⟨gb332, 3, none⟩ = some (.int .i64 a0_3) := (blk_cell BK332.out 3).trans rfl
      have hcz41_4 : wc.cell? ⟨gb332, 4, none⟩ = some (.bool false) := (blk_cell BK332.out 4).trans rfl
      have hcz41_5 : wc.cell? ⟨gb332, 5, none⟩ = some (.int .i64 a0_5) := (blk_cell BK332.out 5).trans rfl
      have hcz41_6 : wc.cell? ⟨gb332, 6, none⟩ = some (.bool a0_6) := (blk_cell BK332.out 6).trans rfl
      have hcz41_7 : wc.cell? ⟨gb332, 7, none⟩ = some (.int .i64 a0_7) := (blk_cell BK332.out 7).trans rfl
      have hcz41_8 : wc.cell? ⟨gb332, 8, none⟩ = some (.int .i64 a0_8) := (blk_cell BK332.out 8).trans rfl
      have hfz41_0 := blk_frozen BK332.out 0; have hfz41_1 := blk_frozen BK332.out 1; have hfz41_2 := blk_frozen BK332.out 2; have hfz41_3 := blk_frozen BK332.out 3; have hfz41_4 := blk_frozen BK332.out 4; have hfz41_5 := blk_frozen BK332.out 5; have hfz41_6 := blk_frozen BK332.out 6; have hfz41_7 := blk_frozen BK332.out 7; have hfz41_8 := blk_frozen BK332.out 8; go_wp2
      go_ret
      exact ⟨by first | rfl | (simp [errW_none, errW_some] <;> rfl) | (simp [*, errW_none, errW_some] <;> rfl), by repeat (first | (with_reducible first | exact HB.out | apply bA | apply bN | apply bD | refine below_set ?_ GE332.out) | exact HB.out)⟩
    rw [if_neg c40] at H
    have c40b0 : decide ((-10000) ≤ a0_5) = false := decide_eq_false c40
    clear c40; obtain rfl := Option.some.inj H
    have hcz42_0 : wc.cell? ⟨gb332, 0, none⟩ = some (.int .i64 a0_0) := (blk_cell BK332.out 0).trans rfl
    have hcz42_1 : wc.cell? ⟨gb332, 1, none⟩ = some (.int .i64 a0_1) := (blk_cell BK332.out 1).trans rfl
    have hcz42_2 : wc.cell? ⟨gb332, 2, none⟩ = some (.int .i64 a0_2) := (blk_cell BK332.out 2).trans rfl
    have hcz42_3 : wc.cell? ⟨gb332, 3, none⟩ = some (.int .i64 a0_3) := (blk_cell BK332.out 3).trans rfl
    have hcz42_4 : wc.cell? ⟨gb332, 4, none⟩ = some (.bool false) := (blk_cell BK332.out 4).trans rfl
    have hcz42_5 : wc.cell? ⟨gb332, 5, none⟩ = some (.int .i64 a0_5) := (blk_cell BK332.out 5).trans rfl
    have hcz42_6 : wc.cell? ⟨gb332, 6, none⟩ = some (.bool a0_6) := (blk_cell BK332.out 6).trans rfl
    have hcz42_7 : wc.cell? ⟨gb332, 7, none⟩ = some (.int .i64 a0_7) := (blk_cell BK332.out 7).trans rfl
    have hcz42_8 : wc.cell? ⟨gb332, 8, none⟩ = some (.int .i64 a0_8) := (blk_cell BK332.out 8).trans rfl
    have hfz42_0 := blk_frozen BK332.out 0; have hfz42_1 := blk_frozen BK332.out 1; have hfz42_2 := blk_frozen BK332.out 2; have hfz42_3 := blk_frozen BK332.out 3; have hfz42_4 := blk_frozen BK332.out 4; have hfz42_5 := blk_frozen BK332.out 5; have hfz42_6 := blk_frozen BK332.out 6; have hfz42_7 := blk_frozen BK332.out 7; have hfz42_8 := blk_frozen BK332.out 8; go_wp2
    go_ret
    exact ⟨by first | rfl | (simp [errW_none, errW_some] <;> rfl) | (simp [*, errW_none, errW_some] <;> rfl), by repeat (first | (with_reducible first | exact HB.out | apply bA | apply bN | apply bD | refine below_set ?_ GE332.out) | exact HB.out)⟩

end Go.Proofs.Ytdkmmddakidieaa.P
