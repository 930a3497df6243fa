-- PRINTED by print.py (a twelfth state) out of the translation. Not trusted: Lean checks it.
import Derived.Test.YtdkmmddakidieaaPx0
import Derived.Test.YtdkmmddakidieaaPx2
import Derived.Test.YtdkmmddakidieaaWo
namespace Go.Proofs.Ytdkmmddakidieaa.P
open Go.RowKit Go.Proofs.YtdkmmddakidieaaW.PrintWords Go.Proofs.YtdkmmddakidieaaW.PrintLast Go.Proofs.YtdkmmddakidieaaW.PrintMore
attribute [local go_sem] max2_int min2_int max_two min_two max_three min_three max_four min_four   -- for this text's walks alone
set_option linter.unusedVariables false
set_option linter.unusedSimpArgs false

attribute [local go_sem high] eqA34
/-! ### regletref07_one: function 45 -/
def regletref07_one.l0 : Nat → List Int → Int → Int → Int → Int → Int → Bool → Int → Bool → Int → Int → Option (Bool)
 | 0, _, _, _, _, _, _, _, _, _, _, _ => none
 | k + 1, x3, x4, x346000, x346001, x346002, x346003, x346004, x346005, x346006, x346007, x346008 => if x4 < (x3.length : Int) then (if 0 ≤ x4 then (if (rd x3 x4) < 0 then (some false) else (if (rd x3 x4) > 68719476736 then (some false) else (regletref07_one.l0 k x3 (wrap64 (x4 + 1)) x346000 x346001 x346002 x346003 x346004 x346005 x346006 x346007 x346008))) else (none)) else (if x346003 > x346001 then (some false) else (if x346000 = 1 then (some (x346000 == 1 && (x346002 == 0 && (x346003 == 0 && (!x346004 && (x346005 == 0 && (!x346006))))))) else (if x346000 = 2 then (if x346004 = true then (some (x346000 == 2 && (x346001 == 0 && (x346002 == 0 && (x346003 == 0 && (x346004 && (x346005 == 0 && (!x346006)))))))) else (if x346005 = 0 then (some (!x346006)) else (some false))) else (if x346000 = 3 then (if x346002 = 0 then (if x346003 = 0 then (if x346004 = true then (some false) else (if x346005 ≥ (-10000) then (some (decide (x346005 ≤ 10000))) else (some false))) else (some false)) else (some false)) else (some false)))))
def regletref07_one.f (k : Nat) (a0_0 : Int) (a0_1 : Int) (a0_2 : Int) (a0_3 : Int) (a0_4 : Bool) (a0_5 : Int) (a0_6 : Bool) (a0_7 : Int) (a0_8 : Int) : Option (Bool) := regletref07_one.l0 k (([a0_1, a0_2, a0_3] : List Int)) 0 a0_0 a0_1 a0_2 a0_3 a0_4 a0_5 a0_6 a0_7 a0_8
theorem regletref07_one.mono_l : ∀ k, (∀ y0 y1 y2 y3 y4 y5 y6 y7 y8 y9 y10, LeO (regletref07_one.l0 k y0 y1 y2 y3 y4 y5 y6 y7 y8 y9 y10) (regletref07_one.l0 (k + 1) y0 y1 y2 y3 y4 y5 y6 y7 y8 y9 y10))
 | 0 => fun _ _ _ _ _ _ _ _ _ _ _ r h => by simp [regletref07_one.l0] at h
 | k + 1 => by
  have ih0 := regletref07_one.mono_l k
  · intro y0 y1 y2 y3 y4 y5 y6 y7 y8 y9 y10
    unfold regletref07_one.l0
    repeat' first
    | (with_reducible exact ih0 _ _ _ _ _ _ _ _ _ _ _)
    | (with_reducible exact LeO.refl _)
    | (with_reducible exact LeO.none _)
    | (with_reducible refine LeO.ite ?_ ?_)
    | (with_reducible refine LeO.bind ?_ (fun _ => ?_))
    | exact ih0 _ _ _ _ _ _ _ _ _ _ _
    | exact LeO.none _
    | refine LeO.ite ?_ ?_
    | refine LeO.bind ?_ (fun _ => ?_)
theorem regletref07_one.mono : ∀ a0 a1 a2 a3 a4 a5 a6 a7 a8 k, LeO (regletref07_one.f k a0 a1 a2 a3 a4 a5 a6 a7 a8) (regletref07_one.f (k + 1) a0 a1 a2 a3 a4 a5 a6 a7 a8) := by
 intro a0 a1 a2 a3 a4 a5 a6 a7 a8 k
 have ih0 := regletref07_one.mono_l k
 unfold regletref07_one.f
 repeat' first
    | (with_reducible exact ih0 _ _ _ _ _ _ _ _ _ _ _)
    | (with_reducible exact LeO.refl _)
    | (with_reducible exact LeO.none _)
    | (with_reducible refine LeO.ite ?_ ?_)
    | (with_reducible refine LeO.bind ?_ (fun _ => ?_))
    | exact ih0 _ _ _ _ _ _ _ _ _ _ _
    | exact LeO.none _
    | refine LeO.ite ?_ ?_
    | refine LeO.bind ?_ (fun _ => ?_)
theorem regletref07_one.l0.ev {x3 : List Int} {x4 : Int} {x346000 : Int} {x346001 : Int} {x346002 : Int} {x346003 : Int} {x346004 : Bool} {x346005 : Int} {x346006 : Bool} {x346007 : Int} {x346008 : Int} {r_ : Bool} (h : Ev (fun k => if x4 < (x3.length : Int) then (if 0 ≤ x4 then (if (rd x3 x4) < 0 then (some false) else (if (rd x3 x4) > 68719476736 then (some false) else (regletref07_one.l0 k x3 (wrap64 (x4 + 1)) x346000 x346001 x346002 x346003 x346004 x346005 x346006 x346007 x346008))) else (none)) else (if x346003 > x346001 then (some false) else (if x346000 = 1 then (some (x346000 == 1 && (x346002 == 0 && (x346003 == 0 && (!x346004 && (x346005 == 0 && (!x346006))))))) else (if x346000 = 2 then (if x346004 = true then (some (x346000 == 2 && (x346001 == 0 && (x346002 == 0 && (x346003 == 0 && (x346004 && (x346005 == 0 && (!x346006)))))))) else (if x346005 = 0 then (some (!x346006)) else (some false))) else (if x346000 = 3 then (if x346002 = 0 then (if x346003 = 0 then (if x346004 = true then (some false) else (if x346005 ≥ (-10000) then (some (decide (x346005 ≤ 10000))) else (some false))) else (some false)) else (some false)) else (some false)))))) r_) : Ev (fun k => regletref07_one.l0 k x3 x4 x346000 x346001 x346002 x346003 x346004 x346005 x346006 x346007 x346008) r_ := Ev.step (fun k => by rw [regletref07_one.l0]) h
set_option maxHeartbeats 8000000 in
set_option maxRecDepth 100000 in
theorem regletref07_one.calls (k : Nat) (a0_0 : Int) (a0_1 : Int) (a0_2 : Int) (a0_3 : Int) (a0_4 : Bool) (a0_5 : Int) (a0_6 : Bool) (a0_7 : Int) (a0_8 : Int) (r : Bool) (w : World) (h : regletref07_one.f k a0_0 a0_1 a0_2 a0_3 a0_4 a0_5 a0_6 a0_7 a0_8 = some r) :
  Calls Try.prog 45 #[.agg #[.int .i64 a0_0, .int .i64 a0_1, .int .i64 a0_2, .int .i64 a0_3, .bool a0_4, .int .i64 a0_5, .bool a0_6, .int .i64 a0_7, .int .i64 a0_8]] w fun e w' => e = .returned (.bool r) ∧ Below w.heap.size w w' := by
 have hu34 := Try.underlying34
 have HB := Aside0.mk (Below.refl w.heap.size w)
 have H : (regletref07_one.l0 k (([a0_1, a0_2, a0_3] : List Int)) 0 a0_0 a0_1 a0_2 a0_3 a0_4 a0_5 a0_6 a0_7 a0_8) = some r := h
 clear h
 obtain ⟨y346, hy346⟩ : ∃ y_ : List Int, y_ = (([a0_1, a0_2, a0_3] : List Int)) := ⟨_, rfl⟩
 replace H : (regletref07_one.l0 k y346 0 a0_0 a0_1 a0_2 a0_3 a0_4 a0_5 a0_6 a0_7 a0_8) = some r := by first | (rw [hy346]; with_reducible exact H) | (have H2_ := (Option.bind_some _ _).symm.trans H; rw [hy346]; with_reducible exact H2_) | (have H2_ := (Option.bind_some _ _).symm.trans H; with_reducible exact H2_) | with_reducible exact H | (rw [hy346]; exact H) | exact H
 have Ny346 := Aside0.mk hy346
 clear hy346
 have H' := Aside0.mk H
 clear H
 go_enter Try.func45, Try.ntmps45
 go_wp2_with (first | ((with_reducible refine gate_dst (N := 1) rfl ?_); refine box_event ?hg (N := 1) ?hd (cs := #[.int .i64 a0_0, .int .i64 a0_1, .int .i64 a0_2, .int .i64 a0_3, .bool a0_4, .int .i64 a0_5, .bool a0_6, .int .i64 a0_7, .int .i64 a0_8]) (t := 34) ?hr ?_; (case hd => rfl); (case hg => rfl); (case hr => first | (go_simp; done) | (go_simp; rfl)); intro gb345 hg w2 hbox hb; have n0_ := Aside0.mk (below_step (by repeat (first | (with_reducible first | exact HB.out | apply bA | apply bN | apply bD) | exact HB.out)) hb); have n1_ := Aside0.mk (hbox); have n2_ := Aside0.mk ((by rw [hg]; exact (below_size (by repeat (first | (with_reducible first | exact HB.out | apply bA | apply bN | apply bD) | exact HB.out))) : w.heap.size ≤ gb345)); have n3_ := Aside0.mk ((by rw [hg]; exact (below_size (by repeat (first | (with_reducible first | exact HB.out | apply bA | apply bN | apply bD) | exact HB.out))) : w.heap.size ≤ gb345)); clear HB; have HB := n0_; have BK345 := n1_; have GW345 := n2_; have GE345 := n3_; clear n0_ n1_ n2_ n3_; clear hb hbox hg; have hcz3_0 : w2.cell? ⟨gb345, 0, none⟩ = some (.int .i64 a0_0) := (blk_cell BK345.out 0).trans rfl; have hcz3_1 : w2.cell? ⟨gb345, 1, none⟩ = some (.int .i64 a0_1) := (blk_cell BK345.out 1).trans rfl; have hcz3_2 : w2.cell? ⟨gb345, 2, none⟩ = some (.int .i64 a0_2) := (blk_cell BK345.out 2).trans rfl; have hcz3_3 : w2.cell? ⟨gb345, 3, none⟩ = some (.int .i64 a0_3) := (blk_cell BK345.out 3).trans rfl; have hcz3_4 : w2.cell? ⟨gb345, 4, none⟩ = some (.bool a0_4) := (blk_cell BK345.out 4).trans rfl; have hcz3_5 : w2.cell? ⟨gb345, 5, none⟩ = some (.int .i64 a0_5) := (blk_cell BK345.out 5).trans rfl; have hcz3_6 : w2.cell? ⟨gb345, 6, none⟩ = some (.bool a0_6) := (blk_cell BK345.out 6).trans rfl; have hcz3_7 : w2.cell? ⟨gb345, 7, none⟩ = some (.int .i64 a0_7) := (blk_cell BK345.out 7).trans rfl; have hcz3_8 : w2.cell? ⟨gb345, 8, none⟩ = some (.int .i64 a0_8) := (blk_cell BK345.out 8).trans rfl; have hfz3_0 := blk_frozen BK345.out 0; have hfz3_1 := blk_frozen BK345.out 1; have hfz3_2 := blk_frozen BK345.out 2; have hfz3_3 := blk_frozen BK345.out 3; have hfz3_4 := blk_frozen BK345.out 4; have hfz3_5 := blk_frozen BK345.out 5; have hfz3_6 := blk_frozen BK345.out 6; have hfz3_7 := blk_frozen BK345.out 7; have hfz3_8 := blk_frozen BK345.out 8) | ((with_reducible refine gate_dst (N := 11) rfl ?_); refine Kd.R_lit (Kd.int .i64) _ 3 ?hg (N := 11) ?hd (xs := ([a0_1, a0_2, a0_3] : List Int)) (inner := [.int .i64 a0_1, .int .i64 a0_2, .int .i64 a0_3]) (ok := fun _ => True) (okp := fun _ => True) ?hr ?hp (fun _ hk => hk) trivial (Below.refl _ _) (Nat.le_refl _) (by simp) ?_; (case hd => rfl); (case hg => rfl); (case hr => first | (go_simp; done) | (go_simp; rfl)); (case hp => exact (Reps.one (show Kd.M (Kd.int .i64) _ _ _ a0_1 [.int .i64 a0_1] from rfl) (Reps.one (show Kd.M (Kd.int .i64) _ _ _ a0_2 [.int .i64 a0_2] from rfl) (Reps.one (show Kd.M (Kd.int .i64) _ _ _ a0_3 [.int .i64 a0_3] from rfl) (Reps.none _ _))))); intro v347 w4 ho5 hb hg_ hnew_; clear hg_ hnew_; (first | rw [← Ny346.out] at ho5 | (simp only [Int.reduceToNat] at ho5; rw [← Ny346.out] at ho5)); have n0_ := Aside0.mk (Kd.R_lower ho5 (below_size (by repeat (first | (with_reducible first | exact HB.out | apply bA | apply bN | apply bD | refine below_set ?_ GE345.out) | exact HB.out)))); have n1_ := Aside0.mk (blk_below (g := gb345) (o := .cells #[.int .i64 a0_0, .int .i64 a0_1, .int .i64 a0_2, .int .i64 a0_3, .bool a0_4, .int .i64 a0_5, .bool a0_6, .int .i64 a0_7, .int .i64 a0_8] 34 (0, 0)) (by (with_reducible repeat first | apply kN | apply kD | apply kA); exact BK345.out) hb); have n2_ := Aside0.mk (below_step (by repeat (first | (with_reducible first | exact HB.out | apply bA | apply bN | apply bD | refine below_set ?_ GE345.out) | exact HB.out)) hb); clear BK345; clear HB; have HO348 := n0_; have BK345 := n1_; have HB := n2_; clear n0_ n1_ n2_; clear hb ho5))
 go_loopg [4] k (fun kq v4 w' => ∃ (x4_1 : Int), v4 = .int .i64 x4_1 ∧ Aside0 (regletref07_one.l0 kq y346 x4_1 a0_0 a0_1 a0_2 a0_3 a0_4 a0_5 a0_6 a0_7 a0_8 = some r) ∧ Aside0 (kq ≤ k) ∧ Aside0 (Kd.R (Kd.int .i64) 3 w' w.heap.size (fun _ => True) v347 y346) ∧ Aside0 (w'.heap[gb345]? = some (.cells #[.int .i64 a0_0, .int .i64 a0_1, .int .i64 a0_2, .int .i64 a0_3, .bool a0_4, .int .i64 a0_5, .bool a0_6, .int .i64 a0_7, .int .i64 a0_8] 34 (0, 0))) ∧ Aside0 (Below w.heap.size w w'))
 case atStart => exact ⟨(0), (by first | rfl | (simp; done) | (simp [*]; done)), H', ⟨Nat.le_refl _⟩, ⟨by (with_reducible repeat (first | apply Kd.R_alloc | apply Kd.R_drewN | apply Kd.R_drew)); exact HO348.out⟩, ⟨by (with_reducible repeat first | apply kN | apply kD | apply kA); exact BK345.out⟩, ⟨by repeat (first | (with_reducible first | exact HB.out | apply bA | apply bN | apply bD | refine below_set ?_ GE345.out) | exact HB.out)⟩⟩
 case round =>
  clear H'
  try clear p2
  try clear c4
  try clear hcz3_0
  try clear hcz3_1
  try clear hcz3_2
  try clear hcz3_3
  try clear hcz3_4
  try clear hcz3_5
  try clear hcz3_6
  try clear hcz3_7
  try clear hcz3_8
  try clear hfz3_0
  try clear hfz3_1
  try clear hfz3_2
  try clear hfz3_3
  try clear hfz3_4
  try clear hfz3_5
  try clear hfz3_6
  try clear hfz3_7
  try clear hfz3_8
  obtain ⟨x4_1, rfl, HA, HK1, HO_3, BK345, HB⟩ := hrel
  cases gk with
  | zero => exact absurd HA.out (by simp [regletref07_one.l0])
  | succ k1 =>
    have H := HA.out; clear HA; simp only [regletref07_one.l0] at H
    by_cases c6 : x4_1 < (y346.length : Int)
    · rw [if_pos c6] at H
      have c6b0 : decide (x4_1 < (y346.length : Int)) = true := decide_eq_true c6
      clear c6; by_cases c7 : 0 ≤ x4_1
      case neg =>
        rw [if_neg c7] at H
        exact absurd H (by simp)
      rw [if_pos c7] at H
      have c7b0 : decide (0 ≤ x4_1) = true := decide_eq_true c7
      clear c7; by_cases c8 : (rd y346 x4_1) < 0
      · rw [if_pos c8] at H
        have c8b0 : decide ((rd y346 x4_1) < 0) = true := decide_eq_true c8
        clear c8; obtain rfl := Option.some.inj H
        obtain ⟨Ao9, co9, eo9⟩ := Kd.R_slice HO_3.out
        subst eo9
        have p349 : 0 ≤ (x4_1 : Int) := of_decide_eq_true (by first | (with_reducible assumption) | assumption)
        have q349 : x4_1 < (y346.length : Int) := of_decide_eq_true (by first | (with_reducible assumption) | assumption)
        obtain ⟨ad349, e349, hx349_0⟩ := Kd.at_int (Kd.R_reads' HO_3.out).2.2 x4_1 p349 q349
        cases e349; replace p349 := eq_true p349; replace q349 := eq_true q349; go_wp2
        go_ret
        exact ⟨by first | rfl | (simp [errW_none, errW_some] <;> rfl) | (simp [*, errW_none, errW_some] <;> rfl), by repeat (first | (with_reducible first | exact HB.out | apply bA | apply bN | apply bD | refine below_set ?_ GE345.out) | exact HB.out)⟩
      rw [if_neg c8] at H
      have c8b0 : decide ((rd y346 x4_1) < 0) = false := decide_eq_false c8
      clear c8; by_cases c10 : (rd y346 x4_1) > 68719476736
      · rw [if_pos c10] at H
        have c10b0 : decide (68719476736 < (rd y346 x4_1)) = true := decide_eq_true c10
        clear c10; obtain rfl := Option.some.inj H
        obtain ⟨Ao11, co11, eo11⟩ := Kd.R_slice HO_3.out
        subst eo11
        have p349 : 0 ≤ (x4_1 : Int) := of_decide_eq_true (by first | (with_reducible assumption) | assumption)
        have q349 : x4_1 < (y346.length : Int) := of_decide_eq_true (by first | (with_reducible assumption) | assumption)
        obtain ⟨ad349, e349, hx349_0⟩ := Kd.at_int (Kd.R_reads' HO_3.out).2.2 x4_1 p349 q349
        cases e349; replace p349 := eq_true p349; replace q349 := eq_true q349; have p350 : 0 ≤ (x4_1 : Int) := of_decide_eq_true (by first | (with_reducible assumption) | assumption)
        have q350 : x4_1 < (y346.length : Int) := of_decide_eq_true (by first | (with_reducible assumption) | assumption)
        obtain ⟨ad350, e350, hx350_0⟩ := Kd.at_int (Kd.R_reads' HO_3.out).2.2 x4_1 p350 q350
        obtain rfl : ad349 = ad350 := (by injection e350)
        replace p350 := eq_true p350; replace q350 := eq_true q350; go_wp2
        go_ret
        exact ⟨by first | rfl | (simp [errW_none, errW_some] <;> rfl) | (simp [*, errW_none, errW_some] <;> rfl), by repeat (first | (with_reducible first | exact HB.out | apply bA | apply bN | apply bD | refine below_set ?_ GE345.out) | exact HB.out)⟩
      rw [if_neg c10] at H
      have c10b0 : decide (68719476736 < (rd y346 x4_1)) = false := decide_eq_false c10
      clear c10; have H' := Aside0.mk H; clear H; obtain ⟨Ao12, co12, eo12⟩ := Kd.R_slice HO_3.out
      subst eo12
      have p349 : 0 ≤ (x4_1 : Int) := of_decide_eq_true (by first | (with_reducible assumption) | assumption)
      have q349 : x4_1 < (y346.length : Int) := of_decide_eq_true (by first | (with_reducible assumption) | assumption)
      obtain ⟨ad349, e349, hx349_0⟩ := Kd.at_int (Kd.R_reads' HO_3.out).2.2 x4_1 p349 q349
      cases e349; replace p349 := eq_true p349; replace q349 := eq_true q349; have p350 : 0 ≤ (x4_1 : Int) := of_decide_eq_true (by first | (with_reducible assumption) | assumption)
      have q350 : x4_1 < (y346.length : Int) := of_decide_eq_true (by first | (with_reducible assumption) | assumption)
      obtain ⟨ad350, e350, hx350_0⟩ := Kd.at_int (Kd.R_reads' HO_3.out).2.2 x4_1 p350 q350
      obtain rfl : ad349 = ad350 := (by injection e350)
      replace p350 := eq_true p350; replace q350 := eq_true q350; go_wp2
      go_roundg k1
      case measure => have := HK1.out; omega
      case rel => exact ⟨(wrap64 (x4_1 + 1)), (by first | rfl | (simp; done) | (simp [*]; done)), H', ⟨by have := HK1.out; omega⟩, ⟨by (with_reducible repeat (first | apply Kd.R_alloc | apply Kd.R_drewN | apply Kd.R_drew)); exact HO_3.out⟩, ⟨by (with_reducible repeat first | apply kN | apply kD | apply kA); exact BK345.out⟩, ⟨by repeat (first | (with_reducible first | exact HB.out | apply bA | apply bN | apply bD | refine below_set ?_ GE345.out) | exact HB.out)⟩⟩
    rw [if_neg c6] at H
    have c6b0 : decide (x4_1 < (y346.length : Int)) = false := decide_eq_false c6
    clear c6; by_cases c13 : a0_3 > a0_1
    · rw [if_pos c13] at H
      have c13b0 : decide (a0_1 < a0_3) = true := decide_eq_true c13
      clear c13; obtain rfl := Option.some.inj H
      obtain ⟨Ao14, co14, eo14⟩ := Kd.R_slice HO_3.out
      subst eo14
      have hcz15_0 : wr.cell? ⟨gb345, 0, none⟩ = some (.int .i64 a0_0) := (blk_cell BK345.out 0).trans rfl
      have hcz15_1 : wr.cell? ⟨gb345, 1, none⟩ = some (.int .i64 a0_1) := (blk_cell BK345.out 1).trans rfl
      have hcz15_2 : wr.cell? ⟨gb345, 2, none⟩ = some (.int .i64 a0_2) := (blk_cell BK345.out 2).trans rfl
      have hcz15_3 : wr.cell? ⟨gb345, 3, none⟩ = some (.int .i64 a0_3) := (blk_cell BK345.out 3).trans rfl
      have hcz15_4 : wr.cell? ⟨gb345, 4, none⟩ = some (.bool a0_4) := (blk_cell BK345.out 4).trans rfl
      have hcz15_5 : wr.cell? ⟨gb345, 5, none⟩ = some (.int .i64 a0_5) := (blk_cell BK345.out 5).trans rfl
      have hcz15_6 : wr.cell? ⟨gb345, 6, none⟩ = some (.bool a0_6) := (blk_cell BK345.out 6).trans rfl
      have hcz15_7 : wr.cell? ⟨gb345, 7, none⟩ = some (.int .i64 a0_7) := (blk_cell BK345.out 7).trans rfl
      have hcz15_8 : wr.cell? ⟨gb345, 8, none⟩ = some (.int .i64 a0_8) := (blk_cell BK345.out 8).trans rfl
      have hfz15_0 := blk_frozen BK345.out 0; have hfz15_1 := blk_frozen BK345.out 1; have hfz15_2 := blk_frozen BK345.out 2; have hfz15_3 := blk_frozen BK345.out 3; have hfz15_4 := blk_frozen BK345.out 4; have hfz15_5 := blk_frozen BK345.out 5; have hfz15_6 := blk_frozen BK345.out 6; have hfz15_7 := blk_frozen BK345.out 7; have hfz15_8 := blk_frozen BK345.out 8; go_wp2
      go_ret
      exact ⟨by first | rfl | (simp [errW_none, errW_some] <;> rfl) | (simp [*, errW_none, errW_some] <;> rfl), by repeat (first | (with_reducible first | exact HB.out | apply bA | apply bN | apply bD | refine below_set ?_ GE345.out) | exact HB.out)⟩
    rw [if_neg c13] at H
    have c13b0 : decide (a0_1 < a0_3) = false := decide_eq_false c13
    clear c13; by_cases c16 : a0_0 = 1
    · rw [if_pos c16] at H
      have c16b0 : (a0_0 == 1) = true := beq_iff_eq.mpr c16
      have c16b1 : (a0_0 != 1) = false := bne_eq_false_iff_eq.mpr c16
      clear c16; obtain rfl := Option.some.inj H
      obtain ⟨Ao17, co17, eo17⟩ := Kd.R_slice HO_3.out
      subst eo17
      have hcz18_0 : wr.cell? ⟨gb345, 0, none⟩ = some (.int .i64 a0_0) := (blk_cell BK345.out 0).trans rfl
      have hcz18_1 : wr.cell? ⟨gb345, 1, none⟩ = some (.int .i64 a0_1) := (blk_cell BK345.out 1).trans rfl
      have hcz18_2 : wr.cell? ⟨gb345, 2, none⟩ = some (.int .i64 a0_2) := (blk_cell BK345.out 2).trans rfl
      have hcz18_3 : wr.cell? ⟨gb345, 3, none⟩ = some (.int .i64 a0_3) := (blk_cell BK345.out 3).trans rfl
      have hcz18_4 : wr.cell? ⟨gb345, 4, none⟩ = some (.bool a0_4) := (blk_cell BK345.out 4).trans rfl
      have hcz18_5 : wr.cell? ⟨gb345, 5, none⟩ = some (.int .i64 a0_5) := (blk_cell BK345.out 5).trans rfl
      have hcz18_6 : wr.cell? ⟨gb345, 6, none⟩ = some (.bool a0_6) := (blk_cell BK345.out 6).trans rfl
      have hcz18_7 : wr.cell? ⟨gb345, 7, none⟩ = some (.int .i64 a0_7) := (blk_cell BK345.out 7).trans rfl
      have hcz18_8 : wr.cell? ⟨gb345, 8, none⟩ = some (.int .i64 a0_8) := (blk_cell BK345.out 8).trans rfl
      have hfz18_0 := blk_frozen BK345.out 0; have hfz18_1 := blk_frozen BK345.out 1; have hfz18_2 := blk_frozen BK345.out 2; have hfz18_3 := blk_frozen BK345.out 3; have hfz18_4 := blk_frozen BK345.out 4; have hfz18_5 := blk_frozen BK345.out 5; have hfz18_6 := blk_frozen BK345.out 6; have hfz18_7 := blk_frozen BK345.out 7; have hfz18_8 := blk_frozen BK345.out 8; go_wp2
      go_ret
      exact ⟨by first | rfl | (simp [errW_none, errW_some] <;> rfl) | (simp [*, errW_none, errW_some] <;> rfl), by repeat (first | (with_reducible first | exact HB.out | apply bA | apply bN | apply bD | refine below_set ?_ GE345.out) | exact HB.out)⟩
    rw [if_neg c16] at H
    have c16b0 : (a0_0 == 1) = false := beq_eq_false_iff_ne.mpr c16
    have c16b1 : (a0_0 != 1) = true := bne_iff_ne.mpr c16
    by_cases c19 : a0_0 = 2
    · rw [if_pos c19] at H
      have c19b0 : (a0_0 == 2) = true := beq_iff_eq.mpr c19
      have c19b1 : (a0_0 != 2) = false := bne_eq_false_iff_eq.mpr c19
      clear c19; by_cases c20 : a0_4 = true
      · subst c20
        have H1 : (some (a0_0 == 2 && (a0_1 == 0 && (a0_2 == 0 && (a0_3 == 0 && (true && (a0_5 == 0 && (!a0_6)))))))) = some r := by rw [if_pos rfl] at H; exact H
        clear H; have H := H1; clear H1; obtain rfl := Option.some.inj H
        obtain ⟨Ao21, co21, eo21⟩ := Kd.R_slice HO_3.out
        subst eo21
        have hcz22_0 : wr.cell? ⟨gb345, 0, none⟩ = some (.int .i64 a0_0) := (blk_cell BK345.out 0).trans rfl
        have hcz22_1 : wr.cell? ⟨gb345, 1, none⟩ = some (.int .i64 a0_1) := (blk_cell BK345.out 1).trans rfl
        have hcz22_2 : wr.cell? ⟨gb345, 2, none⟩ = some (.int .i64 a0_2) := (blk_cell BK345.out 2).trans rfl
        have hcz22_3 : wr.cell? ⟨gb345, 3, none⟩ = some (.int .i64 a0_3) := (blk_cell BK345.out 3).trans rfl
        have hcz22_4 : wr.cell? ⟨gb345, 4, none⟩ = some (.bool true) := (blk_cell BK345.out 4).trans rfl
        have hcz22_5 : wr.cell? ⟨gb345, 5, none⟩ = some (.int .i64 a0_5) := (blk_cell BK345.out 5).trans rfl
        have hcz22_6 : wr.cell? ⟨gb345, 6, none⟩ = some (.bool a0_6) := (blk_cell BK345.out 6).trans rfl
        have hcz22_7 : wr.cell? ⟨gb345, 7, none⟩ = some (.int .i64 a0_7) := (blk_cell BK345.out 7).trans rfl
        have hcz22_8 : wr.cell? ⟨gb345, 8, none⟩ = some (.int .i64 a0_8) := (blk_cell BK345.out 8).trans rfl
        have hfz22_0 := blk_frozen BK345.out 0; have hfz22_1 := blk_frozen BK345.out 1; have hfz22_2 := blk_frozen BK345.out 2; have hfz22_3 := blk_frozen BK345.out 3; have hfz22_4 := blk_frozen BK345.out 4; have hfz22_5 := blk_frozen BK345.out 5; have hfz22_6 := blk_frozen BK345.out 6; have hfz22_7 := blk_frozen BK345.out 7; have hfz22_8 := blk_frozen BK345.out 8; go_wp2
        go_ret
        exact ⟨by first | rfl | (simp [errW_none, errW_some] <;> rfl) | (simp [*, errW_none, errW_some] <;> rfl), by repeat (first | (with_reducible first | exact HB.out | apply bA | apply bN | apply bD | refine below_set ?_ GE345.out) | exact HB.out)⟩
      replace c20 := Bool.eq_false_iff.mpr c20
      subst c20
      have H1 : (if a0_5 = 0 then (some (!a0_6)) else (some false)) = some r := by rw [if_neg (show ¬ (false = true) by decide)] at H; exact H
      clear H; have H := H1; clear H1; by_cases c23 : a0_5 = 0
      case neg =>
        rw [if_neg c23] at H
        have c23b0 : (a0_5 == 0) = false := beq_eq_false_iff_ne.mpr c23
        have c23b1 : (a0_5 != 0) = true := bne_iff_ne.mpr c23
        obtain rfl := Option.some.inj H
        obtain ⟨Ao26, co26, eo26⟩ := Kd.R_slice HO_3.out
        subst eo26
        have hcz27_0 : wr.cell? ⟨gb345, 0, none⟩ = some (.int .i64 a0_0) := (blk_cell BK345.out 0).trans rfl
        have hcz27_1 : wr.cell? ⟨gb345, 1, none⟩ = some (.int .i64 a0_1) := (blk_cell BK345.out 1).trans rfl
        have hcz27_2 : wr.cell? ⟨gb345, 2, none⟩ = some (.int .i64 a0_2) := (blk_cell BK345.out 2).trans rfl
        have hcz27_3 : wr.cell? ⟨gb345, 3, none⟩ = some (.int .i64 a0_3) := (blk_cell BK345.out 3).trans rfl
        have hcz27_4 : wr.cell? ⟨gb345, 4, none⟩ = some (.bool false) := (blk_cell BK345.out 4).trans rfl
        have hcz27_5 : wr.cell? ⟨gb345, 5, none⟩ = some (.int .i64 a0_5) := (blk_cell BK345.out 5).trans rfl
        have hcz27_6 : wr.cell? ⟨gb345, 6, none⟩ = some (.bool a0_6) := (blk_cell BK345.out 6).trans rfl
        have hcz27_7 : wr.cell? ⟨gb345, 7, none⟩ = some (.int .i64 a0_7) := (blk_cell BK345.out 7).trans rfl
        have hcz27_8 : wr.cell? ⟨gb345, 8, none⟩ = some (.int .i64 a0_8) := (blk_cell BK345.out 8).trans rfl
        have hfz27_0 := blk_frozen BK345.out 0; have hfz27_1 := blk_frozen BK345.out 1; have hfz27_2 := blk_frozen BK345.out 2; have hfz27_3 := blk_frozen BK345.out 3; have hfz27_4 := blk_frozen BK345.out 4; have hfz27_5 := blk_frozen BK345.out 5; have hfz27_6 := blk_frozen BK345.out 6; have hfz27_7 := blk_frozen BK345.out 7; have hfz27_8 := blk_frozen BK345.out 8; go_wp2
        go_ret
        exact ⟨by first | rfl | (simp [errW_none, errW_some] <;> rfl) | (simp [*, errW_none, errW_some] <;> rfl), by repeat (first | (with_reducible first | exact HB.out | apply bA | apply bN | apply bD | refine below_set ?_ GE345.out) | exact HB.out)⟩
      rw [if_pos c23] at H
      have c23b0 : (a0_5 == 0) = true := beq_iff_eq.mpr c23
      have c23b1 : (a0_5 != 0) = false := bne_eq_false_iff_eq.mpr c23
      clear c23; obtain rfl := Option.some.inj H
      obtain ⟨Ao24, co24, eo24⟩ := Kd.R_slice HO_3.out
      subst eo24
      have hcz25_0 : wr.cell? ⟨gb345, 0, none⟩ = some (.int .i64 a0_0) := (blk_cell BK345.out 0).trans rfl
      have hcz25_1 : wr.cell? ⟨gb345, 1, none⟩ = some (.int .i64 a0_1) := (blk_cell BK345.out 1).trans rfl
      have hcz25_2 : wr.cell? ⟨gb345, 2, none⟩ = some (.int .i64 a0_2) := (blk_cell BK345.out 2).trans rfl
      have hcz25_3 : wr.cell? ⟨gb345, 3, none⟩ = some (.int .i64 a0_3) := (blk_cell BK345.out 3).trans rfl
      have hcz25_4 : wr.cell? ⟨gb345, 4, none⟩ = some (.bool false) := (blk_cell BK345.out 4).trans rfl
      have hcz25_5 : wr.cell? ⟨gb345, 5, none⟩ = some (.int .i64 a0_5) := (blk_cell BK345.out 5).trans rfl
      have hcz25_6 : wr.cell? ⟨gb345, 6, none⟩ = some (.bool a0_6) := (blk_cell BK345.out 6).trans rfl
      have hcz25_7 : wr.cell? ⟨gb345, 7, none⟩ = some (.int .i64 a0_7) := (blk_cell BK345.out 7).trans rfl
      have hcz25_8 : wr.cell? ⟨gb345, 8, none⟩ = some (.int .i64 a0_8) := (blk_cell BK345.out 8).trans rfl
      have hfz25_0 := blk_frozen BK345.out 0; have hfz25_1 := blk_frozen BK345.out 1; have hfz25_2 := blk_frozen BK345.out 2; have hfz25_3 := blk_frozen BK345.out 3; have hfz25_4 := blk_frozen BK345.out 4; have hfz25_5 := blk_frozen BK345.out 5; have hfz25_6 := blk_frozen BK345.out 6; have hfz25_7 := blk_frozen BK345.out 7; have hfz25_8 := blk_frozen BK345.out 8; go_wp2
      go_ret
      exact ⟨by first | rfl | (simp [errW_none, errW_some] <;> rfl) | (simp [*, errW_none, errW_some] <;> rfl), by repeat (first | (with_reducible first | exact HB.out | apply bA | apply bN | apply bD | refine below_set ?_ GE345.out) | exact HB.out)⟩
    rw [if_neg c19] at H
    have c19b0 : (a0_0 == 2) = false := beq_eq_false_iff_ne.mpr c19
    have c19b1 : (a0_0 != 2) = true := bne_iff_ne.mpr c19
    by_cases c28 : a0_0 = 3
    case neg =>
      rw [if_neg c28] at H
      have c28b0 : (a0_0 == 3) = false := beq_eq_false_iff_ne.mpr c28
      have c28b1 : (a0_0 != 3) = true := bne_iff_ne.mpr c28
      obtain rfl := Option.some.inj H
      obtain ⟨Ao43, co43, eo43⟩ := Kd.R_slice HO_3.out
      subst eo43
      have hcz44_0 : wr.cell? ⟨gb345, 0, none⟩ = some (.int .i64 a0_0) := (blk_cell BK345.out 0).trans rfl
      have hcz44_1 : wr.cell? ⟨gb345, 1, none⟩ = some (.int .i64 a0_1) := (blk_cell BK345.out 1).trans rfl
      have hcz44_2 : wr.cell? ⟨gb345, 2, none⟩ = some (.int .i64 a0_2) := (blk_cell BK345.out 2).trans rfl
      have hcz44_3 : wr.cell? ⟨gb345, 3, none⟩ = some (.int .i64 a0_3) := (blk_cell BK345.out 3).trans rfl
      have hcz44_4 : wr.cell? ⟨gb345, 4, none⟩ = some (.bool a0_4) := (blk_cell BK345.out 4).trans rfl
      have hcz44_5 : wr.cell? ⟨gb345, 5, none⟩ = some (.int .i64 a0_5) := (blk_cell BK345.out 5).trans rfl
      have hcz44_6 : wr.cell? ⟨gb345, 6, none⟩ = some (.bool a0_6) := (blk_cell BK345.out 6).trans rfl
      have hcz44_7 : wr.cell? ⟨gb345, 7, none⟩ = some (.int .i64 a0_7) := (blk_cell BK345.out 7).trans rfl
      have hcz44_8 : wr.cell? ⟨gb345, 8, none⟩ = some (.int .i64 a0_8) := (blk_cell BK345.out 8).trans rfl
      have hfz44_0 := blk_frozen BK345.out 0; have hfz44_1 := blk_frozen BK345.out 1; have hfz44_2 := blk_frozen BK345.out 2; have hfz44_3 := blk_frozen BK345.out 3; have hfz44_4 := blk_frozen BK345.out 4; have hfz44_5 := blk_frozen BK345.out 5; have hfz44_6 := blk_frozen BK345.out 6; have hfz44_7 := blk_frozen BK345.out 7; have hfz44_8 := blk_frozen BK345.out 8; go_wp2
      go_ret
      exact ⟨by first | rfl | (simp [errW_none, errW_some] <;> rfl) | (simp [*, errW_none, errW_some] <;> rfl), by repeat (first | (with_reducible first | exact HB.out | apply bA | apply bN | apply bD | refine below_set ?_ GE345.out) | exact HB.out)⟩
    rw [if_pos c28] at H
    have c28b0 : (a0_0 == 3) = true := beq_iff_eq.mpr c28
    have c28b1 : (a0_0 != 3) = false := bne_eq_false_iff_eq.mpr c28
    clear c28; by_cases c29 : a0_2 = 0
    case neg =>
      rw [if_neg c29] at H
      have c29b0 : (a0_2 == 0) = false := beq_eq_false_iff_ne.mpr c29
      have c29b1 : (a0_2 != 0) = true := bne_iff_ne.mpr c29
      obtain rfl := Option.some.inj H
      obtain ⟨Ao41, co41, eo41⟩ := Kd.R_slice HO_3.out
      subst eo41
      have hcz42_0 : wr.cell? ⟨gb345, 0, none⟩ = some (.int .i64 a0_0) := (blk_cell BK345.out 0).trans rfl
      have hcz42_1 : wr.cell? ⟨gb345, 1, none⟩ = some (.int .i64 a0_1) := (blk_cell BK345.out 1).trans rfl
      have hcz42_2 : wr.cell? ⟨gb345, 2, none⟩ = some (.int .i64 a0_2) := (blk_cell BK345.out 2).trans rfl
      have hcz42_3 : wr.cell? ⟨gb345, 3, none⟩ = some (.int .i64 a0_3) := (blk_cell BK345.out 3).trans rfl
      have hcz42_4 : wr.cell? ⟨gb345, 4, none⟩ = some (.bool a0_4) := (blk_cell BK345.out 4).trans rfl
      have hcz42_5 : wr.cell? ⟨gb345, 5, none⟩ = some (.int .i64 a0_5) := (blk_cell BK345.out 5).trans rfl
      have hcz42_6 : wr.cell? ⟨gb345, 6, none⟩ = some (.bool a0_6) := (blk_cell BK345.out 6).trans rfl
      have hcz42_7 : wr.cell? ⟨gb345, 7, none⟩ = some (.int .i64 a0_7) := (blk_cell BK345.out 7).trans rfl
      have hcz42_8 : wr.cell? ⟨gb345, 8, none⟩ = some (.int .i64 a0_8) := (blk_cell BK345.out 8).trans rfl
      have hfz42_0 := blk_frozen BK345.out 0; have hfz42_1 := blk_frozen BK345.out 1; have hfz42_2 := blk_frozen BK345.out 2; have hfz42_3 := blk_frozen BK345.out 3; have hfz42_4 := blk_frozen BK345.out 4; have hfz42_5 := blk_frozen BK345.out 5; have hfz42_6 := blk_frozen BK345.out 6; have hfz42_7 := blk_frozen BK345.out 7; have hfz42_8 := blk_frozen BK345.out 8; go_wp2
      go_ret
      exact ⟨by first | rfl | (simp [errW_none, errW_some] <;> rfl) | (simp [*, errW_none, errW_some] <;> rfl), by repeat (first | (with_reducible first | exact HB.out | apply bA | apply bN | apply bD | refine below_set ?_ GE345.out) | exact HB.out)⟩
    rw [if_pos c29] at H
    have c29b0 : (a0_2 == 0) = true := beq_iff_eq.mpr c29
    have c29b1 : (a0_2 != 0) = false := bne_eq_false_iff_eq.mpr c29
    clear c29; by_cases c30 : a0_3 = 0
    case neg =>
      rw [if_neg c30] at H
      have c30b0 : (a0_3 == 0) = false := beq_eq_false_iff_ne.mpr c30
      have c30b1 : (a0_3 != 0) = true := bne_iff_ne.mpr c30
      obtain rfl := Option.some.inj H
      obtain ⟨Ao39, co39, eo39⟩ := Kd.R_slice HO_3.out
      subst eo39
      have hcz40_0 : wr.cell? ⟨gb345, 0, none⟩ = some (.int .i64 a0_0) := (blk_cell BK345.out 0).trans rfl
      have hcz40_1 : wr.cell? ⟨gb345, 1, none⟩ = some (.int .i64 a0_1) := (blk_cell BK345.out 1).trans rfl
      have hcz40_2 : wr.cell? ⟨gb345, 2, none⟩ = some (.int .i64 a0_2) := (blk_cell BK345.out 2).trans rfl
      have hcz40_3 : wr.cell? ⟨gb345, 3, none⟩ = some (.int .i64 a0_3) := (blk_cell BK345.out 3).trans rfl
      have hcz40_4 : wr.cell? ⟨gb345, 4, none⟩ = some (.bool a0_4) := (blk_cell BK345.out 4).trans rfl
      have hcz40_5 : wr.cell? ⟨gb345, 5, none⟩ = some (.int .i64 a0_5) := (blk_cell BK345.out 5).trans rfl
      have hcz40_6 : wr.cell? ⟨gb345, 6, none⟩ = some (.bool a0_6) := (blk_cell BK345.out 6).trans rfl
      have hcz40_7 : wr.cell? ⟨gb345, 7, none⟩ = some (.int .i64 a0_7) := (blk_cell BK345.out 7).trans rfl
      have hcz40_8 : wr.cell? ⟨gb345, 8, none⟩ = some (.int .i64 a0_8) := (blk_cell BK345.out 8).trans rfl
      have hfz40_0 := blk_frozen BK345.out 0; have hfz40_1 := blk_frozen BK345.out 1; have hfz40_2 := blk_frozen BK345.out 2; have hfz40_3 := blk_frozen BK345.out 3; have hfz40_4 := blk_frozen BK345.out 4; have hfz40_5 := blk_frozen BK345.out 5; have hfz40_6 := blk_frozen BK345.out 6; have hfz40_7 := blk_frozen BK345.out 7; have hfz40_8 := blk_frozen BK345.out 8; go_wp2
      go_ret
      exact ⟨by first | rfl | (simp [errW_none, errW_some] <;> rfl) | (simp [*, errW_none, errW_some] <;> rfl), by repeat (first | (with_reducible first | exact HB.out | apply bA | apply bN | apply bD | refine below_set ?_ GE345.out) | exact HB.out)⟩
    rw [if_pos c30] at H
    have c30b0 : (a0_3 == 0) = true := beq_iff_eq.mpr c30
    have c30b1 : (a0_3 != 0) = false := bne_eq_false_iff_eq.mpr c30
    clear c30; by_cases c31 : a0_4 = true
    · subst c31
      have H1 : (some false) = some r := by rw [if_pos rfl] at H; exact H
      clear H; have H := H1; clear H1; obtain rfl := Option.some.inj H
      obtain ⟨Ao32, co32, eo32⟩ := Kd.R_slice HO_3.out
      subst eo32
      have hcz33_0 : wr.cell? ⟨gb345, 0, none⟩ = some (.int .i64 a0_0) := (blk_cell BK345.out 0).trans rfl
      have hcz33_1 : wr.cell? ⟨gb345, 1, none⟩ = some (.int .i64 a0_1) := (blk_cell BK345.out 1).trans rfl
      have hcz33_2 : wr.cell? ⟨gb345, 2, none⟩ = some (.int .i64 a0_2) := (blk_cell BK345.out 2).trans rfl
      have hcz33_3 : wr.cell? ⟨gb345, 3, none⟩ = some (.int .i64 a0_3) := (blk_cell BK345.out 3).trans rfl
      have hcz33_4 : wr.cell? ⟨gb345, 4, none⟩ = some (.bool true) := (blk_cell BK345.out 4).trans rfl
      have hcz33_5 : wr.cell? ⟨gb345, 5, none⟩ = some (.int .i64 a0_5) := (blk_cell BK345.out 5).trans rfl
      have hcz33_6 : wr.cell? ⟨gb345, 6, none⟩ = some (.bool a0_6) := (blk_cell BK345.out 6).trans rfl
      have hcz33_7 : wr.cell? ⟨gb345, 7, none⟩ = some (.int .i64 a0_7) := (blk_cell BK345.out 7).trans rfl
      have hcz33_8 : wr.cell? ⟨gb345, 8, none⟩ = some (.int .i64 a0_8) := (blk_cell BK345.out 8).trans rfl
      have hfz33_0 := blk_frozen BK345.out 0; have hfz33_1 := blk_frozen BK345.out 1; have hfz33_2 := blk_frozen BK345.out 2; have hfz33_3 := blk_frozen BK345.out 3; have hfz33_4 := blk_frozen BK345.out 4; have hfz33_5 := blk_frozen BK345.out 5; have hfz33_6 := blk_frozen BK345.out 6; have hfz33_7 := blk_frozen BK345.out 7; have hfz33_8 := blk_frozen BK345.out 8; go_wp2
      go_ret
      exact ⟨by first | rfl | (simp [errW_none, errW_some] <;> rfl) | (simp [*, errW_none, errW_some] <;> rfl), by repeat (first | (with_reducible first | exact HB.out | apply bA | apply bN | apply bD | refine below_set ?_ GE345.out) | exact HB.out)⟩
    replace c31 := Bool.eq_false_iff.mpr c31
    subst c31
    have H1 : (if a0_5 ≥ (-10000) then (some (decide (a0_5 ≤ 10000))) else (some false)) = some r := by rw [if_neg (show ¬ (false = true) by decide)] at H; exact H
    clear H; have H := H1; clear H1; by_cases c34 : a0_5 ≥ (-10000)
    · rw [if_pos c34] at H
      have c34b0 : decide ((-10000) ≤ a0_5) = true := decide_eq_true c34
      clear c34; obtain rfl := Option.some.inj H
      obtain ⟨Ao35, co35, eo35⟩ := Kd.R_slice HO_3.out
      subst eo35
      have hcz36_0 : wr.cell? ⟨gb345, 0, none⟩ = some (.int .i64 a0_0) := (blk_cell BK345.out 0).trans rfl
      have hcz36_1 : wr.cell? ⟨gb345, 1, none⟩ = some (.int .i64 a0_1) := (blk_cell BK345.out 1).trans rfl
      have hcz36_2 : wr.cell? ⟨gb345, 2, none⟩ = some (.int .i64 a0_2) := (blk_cell BK345.out 2).trans rfl
      have hcz36_3 : wr.cell? ⟨gb345, 3, none⟩ = some (.int .i64 a0_3) := (blk_cell BK345.out 3).trans rfl
      have hcz36_4 : wr.cell? ⟨gb345, 4, none⟩ = some (.bool false) := (blk_cell BK345.out 4).trans rfl
      have hcz36_5 : wr.cell? ⟨gb345, 5, none⟩ = some (.int .i64 a0_5) := (blk_cell BK345.out 5).trans rfl
      have hcz36_6 : wr.cell? ⟨gb345, 6, none⟩ = some (.bool a0_6) := (blk_cell BK345.out 6).trans rfl
      have hcz36_7 : wr.cell? ⟨gb345, 7, none⟩ = some (.int .i64 a0_7) := (blk_cell BK345.out 7).trans rfl
      have hcz36_8 : wr.cell? ⟨gb345, 8, none⟩ = some (.int .i64 a0_8) := (blk_cell BK345.out 8).trans rfl
      have hfz36_0 := blk_frozen BK345.out 0; have hfz36_1 := blk_frozen BK345.out 1; have hfz36_2 := blk_frozen BK345.out 2; have hfz36_3 := blk_frozen BK345.out 3; have hfz36_4 := blk_frozen BK345.out 4; have hfz36_5 := blk_frozen BK345.out 5; have hfz36_6 := blk_frozen BK345.out 6; have hfz36_7 := blk_frozen BK345.out 7; have hfz36_8 := blk_frozen BK345.out 8; go_wp2
      go_ret
      exact ⟨by first | rfl | (simp [errW_none, errW_some] <;> rfl) | (simp [*, errW_none, errW_some] <;> rfl), by repeat (first | (with_reducible first | exact HB.out | apply bA | apply bN | apply bD | refine below_set ?_ GE345.out) | exact HB.out)⟩
    rw [if_neg c34] at H
    have c34b0 : decide ((-10000) ≤ a0_5) = false := decide_eq_false c34
    clear c34; obtain rfl := Option.some.inj H
    obtain ⟨Ao37, co37, eo37⟩ := Kd.R_slice HO_3.out
    subst eo37
    have hcz38_0 : wr.cell? ⟨gb345, 0, none⟩ = some (.int .i64 a0_0) := (blk_cell BK345.out 0).trans rfl
    have hcz38_1 : wr.cell? ⟨gb345, 1, none⟩ = some (.int .i64 a0_1) := (blk_cell BK345.out 1).trans rfl
    have hcz38_2 : wr.cell? ⟨gb345, 2, none⟩ = some (.int .i64 a0_2) := (blk_cell BK345.out 2).trans rfl
    have hcz38_3 : wr.cell? ⟨gb345, 3, none⟩ = some (.int .i64 a0_3) := (blk_cell BK345.out 3).trans rfl
    have hcz38_4 : wr.cell? ⟨gb345, 4, none⟩ = some (.bool false) := (blk_cell BK345.out 4).trans rfl
    have hcz38_5 : wr.cell? ⟨gb345, 5, none⟩ = some (.int .i64 a0_5) := (blk_cell BK345.out 5).trans rfl
    have hcz38_6 : wr.cell? ⟨gb345, 6, none⟩ = some (.bool a0_6) := (blk_cell BK345.out 6).trans rfl
    have hcz38_7 : wr.cell? ⟨gb345, 7, none⟩ = some (.int .i64 a0_7) := (blk_cell BK345.out 7).trans rfl
    have hcz38_8 : wr.cell? ⟨gb345, 8, none⟩ = some (.int .i64 a0_8) := (blk_cell BK345.out 8).trans rfl
    have hfz38_0 := blk_frozen BK345.out 0; have hfz38_1 := blk_frozen BK345.out 1; have hfz38_2 := blk_frozen BK345.out 2; have hfz38_3 := blk_frozen BK345.out 3; have hfz38_4 := blk_frozen BK345.out 4; have hfz38_5 := blk_frozen BK345.out 5; have hfz38_6 := blk_frozen BK345.out 6; have hfz38_7 := blk_frozen BK345.out 7; have hfz38_8 := blk_frozen BK345.out 8; go_wp2
    go_ret
    exact ⟨by first | rfl | (simp [errW_none, errW_some] <;> rfl) | (simp [*, errW_none, errW_some] <;> rfl), by repeat (first | (with_reducible first | exact HB.out | apply bA | apply bN | apply bD | refine below_set ?_ GE345.out) | exact HB.out)⟩

end Go.Proofs.Ytdkmmddakidieaa.P
