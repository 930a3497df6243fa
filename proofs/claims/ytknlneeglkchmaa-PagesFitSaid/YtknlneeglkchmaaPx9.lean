-- PRINTED by print.py (a twelfth state) out of the translation. Not trusted: Lean checks it.
import Derived.Test.YtknlneeglkchmaaPx0
import Derived.Test.YtknlneeglkchmaaPx2
import Derived.Test.YtknlneeglkchmaaPx3
import Derived.Test.YtknlneeglkchmaaPx4
import Derived.Test.YtknlneeglkchmaaPx5
import Derived.Test.YtknlneeglkchmaaPx6
import Derived.Test.YtknlneeglkchmaaPx7
import Derived.Test.YtknlneeglkchmaaPx8
namespace Go.Proofs.Ytknlneeglkchmaa.P
open Go.RowKit Go.Proofs.YtknlneeglkchmaaW.PrintWords Go.Proofs.YtknlneeglkchmaaW.PrintLast Go.Proofs.YtknlneeglkchmaaW.PrintMore
attribute [local go_sem] max2_int min2_int max_two min_two max_three min_three max_four min_four   -- for this text's walks alone
set_option linter.unusedVariables false
set_option linter.unusedSimpArgs false

/-! ### regletref12_Next: function 20 -/
def regletref12_Next.l0 : Nat → List (S42) → Int → Int → Int → Int → Int → Int → Int → Int → Int → Int → Int → Option (Int)
 | 0, _, _, _, _, _, _, _, _, _, _, _, _ => none
 | k + 1, x0, x1, x2, x9, x10, x183000, x183001, x183002, x183003, x183004, x183005, x183006 => if x10 ≤ (x0.length : Int) then ((regletref12_Cut.f x0 x10 x183000 x183001 x183002 x183003 x183004 x183005 x183006).bind fun t183 => (if t183 = true then (if x9 = x1 then (regletref12_Next.l0 k x0 x1 x2 x10 (wrap64 (x10 + 1)) x183000 x183001 x183002 x183003 x183004 x183005 x183006) else ((regletref12_High.f k x0 x1 x10).bind fun t184 => (if t184 ≤ x2 then (regletref12_Next.l0 k x0 x1 x2 x10 (wrap64 (x10 + 1)) x183000 x183001 x183002 x183003 x183004 x183005 x183006) else (regletref12_Next.l0 k x0 x1 x2 x9 (wrap64 (x10 + 1)) x183000 x183001 x183002 x183003 x183004 x183005 x183006)))) else (regletref12_Next.l0 k x0 x1 x2 x9 (wrap64 (x10 + 1)) x183000 x183001 x183002 x183003 x183004 x183005 x183006))) else (some x9)
def regletref12_Next.f (k : Nat) (l0 : List (S42)) (a1 : Int) (a2 : Int) (a3_0 : Int) (a3_1 : Int) (a3_2 : Int) (a3_3 : Int) (a3_4 : Int) (a3_5 : Int) (a3_6 : Int) : Option (Int) := regletref12_Next.l0 k l0 a1 a2 a1 (wrap64 (a1 + 1)) a3_0 a3_1 a3_2 a3_3 a3_4 a3_5 a3_6
theorem regletref12_Next.mono_l : ∀ k, (∀ y0 y1 y2 y3 y4 y5 y6 y7 y8 y9 y10 y11, LeO (regletref12_Next.l0 k y0 y1 y2 y3 y4 y5 y6 y7 y8 y9 y10 y11) (regletref12_Next.l0 (k + 1) y0 y1 y2 y3 y4 y5 y6 y7 y8 y9 y10 y11))
 | 0 => fun _ _ _ _ _ _ _ _ _ _ _ _ r h => by simp [regletref12_Next.l0] at h
 | k + 1 => by
   have ih0 := regletref12_Next.mono_l k
   · intro y0 y1 y2 y3 y4 y5 y6 y7 y8 y9 y10 y11
     unfold regletref12_Next.l0
     repeat' first
     | (with_reducible exact ih0 _ _ _ _ _ _ _ _ _ _ _ _)
     | (with_reducible exact regletref12_High.mono _ _ _ _)
     | (with_reducible exact LeO.refl _)
     | (with_reducible exact LeO.none _)
     | (with_reducible refine LeO.ite ?_ ?_)
     | (with_reducible refine LeO.bind ?_ (fun _ => ?_))
     | exact ih0 _ _ _ _ _ _ _ _ _ _ _ _
     | exact regletref12_High.mono _ _ _ _
     | exact LeO.none _
     | refine LeO.ite ?_ ?_
     | refine LeO.bind ?_ (fun _ => ?_)
theorem regletref12_Next.mono : ∀ a0 a1 a2 a3 a4 a5 a6 a7 a8 a9 k, LeO (regletref12_Next.f k a0 a1 a2 a3 a4 a5 a6 a7 a8 a9) (regletref12_Next.f (k + 1) a0 a1 a2 a3 a4 a5 a6 a7 a8 a9) := by
 intro a0 a1 a2 a3 a4 a5 a6 a7 a8 a9 k
 have ih0 := regletref12_Next.mono_l k
 unfold regletref12_Next.f
 repeat' first
     | (with_reducible exact ih0 _ _ _ _ _ _ _ _ _ _ _ _)
     | (with_reducible exact regletref12_High.mono _ _ _ _)
     | (with_reducible exact LeO.refl _)
     | (with_reducible exact LeO.none _)
     | (with_reducible refine LeO.ite ?_ ?_)
     | (with_reducible refine LeO.bind ?_ (fun _ => ?_))
     | exact ih0 _ _ _ _ _ _ _ _ _ _ _ _
     | exact regletref12_High.mono _ _ _ _
     | exact LeO.none _
     | refine LeO.ite ?_ ?_
     | refine LeO.bind ?_ (fun _ => ?_)
theorem regletref12_Next.l0.ev {x0 : List (S42)} {x1 : Int} {x2 : Int} {x9 : Int} {x10 : Int} {x183000 : Int} {x183001 : Int} {x183002 : Int} {x183003 : Int} {x183004 : Int} {x183005 : Int} {x183006 : Int} {r_ : Int} (h : Ev (fun k => if x10 ≤ (x0.length : Int) then ((regletref12_Cut.f x0 x10 x183000 x183001 x183002 x183003 x183004 x183005 x183006).bind fun t183 => (if t183 = true then (if x9 = x1 then (regletref12_Next.l0 k x0 x1 x2 x10 (wrap64 (x10 + 1)) x183000 x183001 x183002 x183003 x183004 x183005 x183006) else ((regletref12_High.f k x0 x1 x10).bind fun t184 => (if t184 ≤ x2 then (regletref12_Next.l0 k x0 x1 x2 x10 (wrap64 (x10 + 1)) x183000 x183001 x183002 x183003 x183004 x183005 x183006) else (regletref12_Next.l0 k x0 x1 x2 x9 (wrap64 (x10 + 1)) x183000 x183001 x183002 x183003 x183004 x183005 x183006)))) else (regletref12_Next.l0 k x0 x1 x2 x9 (wrap64 (x10 + 1)) x183000 x183001 x183002 x183003 x183004 x183005 x183006))) else (some x9)) r_) : Ev (fun k => regletref12_Next.l0 k x0 x1 x2 x9 x10 x183000 x183001 x183002 x183003 x183004 x183005 x183006) r_ := Ev.step (fun k => by rw [regletref12_Next.l0]) h
set_option maxHeartbeats 8000000 in
set_option maxRecDepth 100000 in
theorem regletref12_Next.calls (k : Nat) (A0 : Option Addr) (c0 : Nat) (l0 : List (S42)) (a1 : Int) (a2 : Int) (a3_0 : Int) (a3_1 : Int) (a3_2 : Int) (a3_3 : Int) (a3_4 : Int) (a3_5 : Int) (a3_6 : Int) (r : Int) (w : World) (hr0 : Kd.C k42 w A0 l0.length l0) (hc0 : l0.length ≤ c0) (h : regletref12_Next.f k l0 a1 a2 a3_0 a3_1 a3_2 a3_3 a3_4 a3_5 a3_6 = some r) :
   Calls Try.prog 20 #[.slice A0 l0.length c0, .int .i64 a1, .int .i64 a2, .agg #[.int .i64 a3_0, .int .i64 a3_1, .int .i64 a3_2, .int .i64 a3_3, .int .i64 a3_4, .int .i64 a3_5, .int .i64 a3_6]] w fun e w' => e = .returned (.int .i64 r) ∧ Below w.heap.size w w' := by
 have hu24 := Try.underlying24
 have HR0 := Aside0.mk hr0
 have HC0 := Aside0.mk hc0
 clear hr0 hc0
 have HB := Aside0.mk (Below.refl w.heap.size w)
 have H : (regletref12_Next.l0 k l0 a1 a2 a1 (wrap64 (a1 + 1)) a3_0 a3_1 a3_2 a3_3 a3_4 a3_5 a3_6) = some r := h
 clear h
 have H' := Aside0.mk H
 clear H
 go_enter Try.func20, Try.ntmps20
 go_wp2_with (first | ((with_reducible refine gate_dst (N := 7) rfl ?_); refine box_event ?hg (N := 7) ?hd (cs := #[.int .i64 a3_0, .int .i64 a3_1, .int .i64 a3_2, .int .i64 a3_3, .int .i64 a3_4, .int .i64 a3_5, .int .i64 a3_6]) (t := 24) ?hr ?_; (case hd => rfl); (case hg => rfl); (case hr => first | (go_simp; done) | (go_simp; rfl)); intro gb182 hg w5 hbox hb; have n0_ := Aside0.mk (below_step (by repeat (first | (with_reducible first | exact HB.out | apply below_alloc | apply pw_below_drewN | apply below_drew1) | exact HB.out)) hb); have n1_ := Aside0.mk (hbox); have n2_ := Aside0.mk ((by rw [hg]; exact (below_size (by repeat (first | (with_reducible first | exact HB.out | apply below_alloc | apply pw_below_drewN | apply below_drew1) | exact HB.out))) : w.heap.size ≤ gb182)); have n3_ := Aside0.mk ((by rw [hg]; exact (below_size (by repeat (first | (with_reducible first | exact HB.out | apply below_alloc | apply pw_below_drewN | apply below_drew1) | exact HB.out))) : w.heap.size ≤ gb182)); clear HB; have HB := n0_; have BK182 := n1_; have GW182 := n2_; have GE182 := n3_; clear n0_ n1_ n2_ n3_; clear hb hbox hg))
 go_loopg [9, 10] k (fun kq v9 v10 w' => ∃ (x9_1 : Int) (x10_1 : Int), v9 = .int .i64 x9_1 ∧ v10 = .int .i64 x10_1 ∧ Aside0 (regletref12_Next.l0 kq l0 a1 a2 x9_1 x10_1 a3_0 a3_1 a3_2 a3_3 a3_4 a3_5 a3_6 = some r) ∧ Aside0 (kq ≤ k) ∧ Aside0 (w'.heap[gb182]? = some (.cells #[.int .i64 a3_0, .int .i64 a3_1, .int .i64 a3_2, .int .i64 a3_3, .int .i64 a3_4, .int .i64 a3_5, .int .i64 a3_6] 24 (0, 0))) ∧ Aside0 (Below w.heap.size w w'))
 case atStart => exact ⟨(a1), (wrap64 (a1 + 1)), (by first | rfl | (simp; done) | (simp [*]; done)), (by first | rfl | (simp; done) | (simp [*]; done)), H', ⟨Nat.le_refl _⟩, ⟨by (with_reducible repeat (first | refine blk_drewN ?_ _ | refine blk_drew ?_ | refine blk_alloc ?_ _)); exact BK182.out⟩, ⟨by repeat (first | (with_reducible first | exact HB.out | apply below_alloc | apply pw_below_drewN | apply below_drew1 | refine below_set ?_ GE182.out) | exact HB.out)⟩⟩
 case round =>
   clear H'
   try clear c2
   try clear p2
   obtain ⟨x9_1, x10_1, rfl, rfl, HA, HK1, BK182, HB⟩ := hrel
   cases gk with
   | zero => exact absurd HA.out (by simp [regletref12_Next.l0])
   | succ k1 =>
     have H := HA.out
     clear HA
     simp only [regletref12_Next.l0] at H
     by_cases c6 : x10_1 ≤ (l0.length : Int)
     · rw [if_pos c6] at H
       have c6b0 : decide (x10_1 ≤ (l0.length : Int)) = true := decide_eq_true c6
       clear c6
       replace H := Option.bind_eq_some_iff.mp H
       obtain ⟨t183, A70, H⟩ := H
       replace H : (if t183 = true then (if x9_1 = a1 then (regletref12_Next.l0 k1 l0 a1 a2 x10_1 (wrap64 (x10_1 + 1)) a3_0 a3_1 a3_2 a3_3 a3_4 a3_5 a3_6) else ((regletref12_High.f k1 l0 a1 x10_1).bind fun t184 => (if t184 ≤ a2 then (regletref12_Next.l0 k1 l0 a1 a2 x10_1 (wrap64 (x10_1 + 1)) a3_0 a3_1 a3_2 a3_3 a3_4 a3_5 a3_6) else (regletref12_Next.l0 k1 l0 a1 a2 x9_1 (wrap64 (x10_1 + 1)) a3_0 a3_1 a3_2 a3_3 a3_4 a3_5 a3_6)))) else (regletref12_Next.l0 k1 l0 a1 a2 x9_1 (wrap64 (x10_1 + 1)) a3_0 a3_1 a3_2 a3_3 a3_4 a3_5 a3_6)) = some r := H
       have A7 := Aside0.mk A70
       clear A70
       by_cases c8 : t183 = true
       · subst c8
         have H1 : (if x9_1 = a1 then (regletref12_Next.l0 k1 l0 a1 a2 x10_1 (wrap64 (x10_1 + 1)) a3_0 a3_1 a3_2 a3_3 a3_4 a3_5 a3_6) else ((regletref12_High.f k1 l0 a1 x10_1).bind fun t184 => (if t184 ≤ a2 then (regletref12_Next.l0 k1 l0 a1 a2 x10_1 (wrap64 (x10_1 + 1)) a3_0 a3_1 a3_2 a3_3 a3_4 a3_5 a3_6) else (regletref12_Next.l0 k1 l0 a1 a2 x9_1 (wrap64 (x10_1 + 1)) a3_0 a3_1 a3_2 a3_3 a3_4 a3_5 a3_6)))) = some r := by rw [if_pos rfl] at H; exact H
         clear H
         have H := H1
         clear H1
         by_cases c9 : x9_1 = a1
         · rw [if_pos c9] at H
           have c9b0 : (x9_1 == a1) = true := beq_iff_eq.mpr c9
           have c9b1 : (x9_1 != a1) = false := bne_eq_false_iff_eq.mpr c9
           clear c9
           have H' := Aside0.mk H
           clear H
           have hcz10_0 : wr.cell? ⟨gb182, 0, none⟩ = some (.int .i64 a3_0) := (blk_cell BK182.out 0).trans rfl
           have hcz10_1 : wr.cell? ⟨gb182, 1, none⟩ = some (.int .i64 a3_1) := (blk_cell BK182.out 1).trans rfl
           have hcz10_2 : wr.cell? ⟨gb182, 2, none⟩ = some (.int .i64 a3_2) := (blk_cell BK182.out 2).trans rfl
           have hcz10_3 : wr.cell? ⟨gb182, 3, none⟩ = some (.int .i64 a3_3) := (blk_cell BK182.out 3).trans rfl
           have hcz10_4 : wr.cell? ⟨gb182, 4, none⟩ = some (.int .i64 a3_4) := (blk_cell BK182.out 4).trans rfl
           have hcz10_5 : wr.cell? ⟨gb182, 5, none⟩ = some (.int .i64 a3_5) := (blk_cell BK182.out 5).trans rfl
           have hcz10_6 : wr.cell? ⟨gb182, 6, none⟩ = some (.int .i64 a3_6) := (blk_cell BK182.out 6).trans rfl
           have hfz10_0 := blk_frozen BK182.out 0
           have hfz10_1 := blk_frozen BK182.out 1
           have hfz10_2 := blk_frozen BK182.out 2
           have hfz10_3 := blk_frozen BK182.out 3
           have hfz10_4 := blk_frozen BK182.out 4
           have hfz10_5 := blk_frozen BK182.out 5
           have hfz10_6 := blk_frozen BK182.out 6
           go_wp2_with (first | ((with_reducible refine gate_callee (f := 21) rfl ?_); refine goesL_ (some 23) rfl rfl Try.func21 (by kernel_rfl) rfl #[.slice A0 l0.length c0, .int .i64 x10_1, .agg #[.int .i64 a3_0, .int .i64 a3_1, .int .i64 a3_2, .int .i64 a3_3, .int .i64 a3_4, .int .i64 a3_5, .int .i64 a3_6]] rfl (by (try simp only [List.map_toArray, List.map_cons, List.map_nil]); first | done | rfl | (simp only [List.length_drop, List.length_take]; rfl)) ?_; (with_reducible refine (regletref12_Cut.calls _ _ l0 x10_1 a3_0 a3_1 a3_2 a3_3 a3_4 a3_5 a3_6 true _ ?side1 ?side2 A7.out).mono ?_); (case side1 => repeat (first | exact (Kd.C_below HR0.out HB.out) | (with_reducible refine Kd.C_alloc ?_ _) | (with_reducible refine Kd.C_drewN ?_ _) | (with_reducible refine Kd.C_drew ?_))); (case side2 => exact HC0.out); rintro e w11 ⟨rfl, hb⟩; refine ⟨_, rfl, ?_⟩; have n0_ := Aside0.mk (blk_below (g := gb182) (o := .cells #[.int .i64 a3_0, .int .i64 a3_1, .int .i64 a3_2, .int .i64 a3_3, .int .i64 a3_4, .int .i64 a3_5, .int .i64 a3_6] 24 (0, 0)) (by (with_reducible repeat (first | refine blk_drewN ?_ _ | refine blk_drew ?_ | refine blk_alloc ?_ _)); exact BK182.out) hb); have n1_ := Aside0.mk (below_step (by repeat (first | (with_reducible first | exact HB.out | apply below_alloc | apply pw_below_drewN | apply below_drew1 | refine below_set ?_ GE182.out) | exact HB.out)) hb); clear BK182; clear HB; have BK182 := n0_; have HB := n1_; clear n0_ n1_; (try clear hb); (try clear hb2); (try clear hk); (try clear hi)))
           go_roundg k1
           case measure => have := HK1.out; omega
           case rel => exact ⟨(x10_1), (wrap64 (x10_1 + 1)), (by first | rfl | (simp; done) | (simp [*]; done)), (by first | rfl | (simp; done) | (simp [*]; done)), H', ⟨by have := HK1.out; omega⟩, ⟨by (with_reducible repeat (first | refine blk_drewN ?_ _ | refine blk_drew ?_ | refine blk_alloc ?_ _)); exact BK182.out⟩, ⟨by repeat (first | (with_reducible first | exact HB.out | apply below_alloc | apply pw_below_drewN | apply below_drew1 | refine below_set ?_ GE182.out) | exact HB.out)⟩⟩
         · rw [if_neg c9] at H
           have c9b0 : (x9_1 == a1) = false := beq_eq_false_iff_ne.mpr c9
           have c9b1 : (x9_1 != a1) = true := bne_iff_ne.mpr c9
           replace H := Option.bind_eq_some_iff.mp H
           obtain ⟨t184, A120, H⟩ := H
           replace H : (if t184 ≤ a2 then (regletref12_Next.l0 k1 l0 a1 a2 x10_1 (wrap64 (x10_1 + 1)) a3_0 a3_1 a3_2 a3_3 a3_4 a3_5 a3_6) else (regletref12_Next.l0 k1 l0 a1 a2 x9_1 (wrap64 (x10_1 + 1)) a3_0 a3_1 a3_2 a3_3 a3_4 a3_5 a3_6)) = some r := H
           have A12 := Aside0.mk A120
           clear A120
           by_cases c13 : t184 ≤ a2
           · rw [if_pos c13] at H
             have c13b0 : decide (t184 ≤ a2) = true := decide_eq_true c13
             clear c13
             have H' := Aside0.mk H
             clear H
             have hcz14_0 : wr.cell? ⟨gb182, 0, none⟩ = some (.int .i64 a3_0) := (blk_cell BK182.out 0).trans rfl
             have hcz14_1 : wr.cell? ⟨gb182, 1, none⟩ = some (.int .i64 a3_1) := (blk_cell BK182.out 1).trans rfl
             have hcz14_2 : wr.cell? ⟨gb182, 2, none⟩ = some (.int .i64 a3_2) := (blk_cell BK182.out 2).trans rfl
             have hcz14_3 : wr.cell? ⟨gb182, 3, none⟩ = some (.int .i64 a3_3) := (blk_cell BK182.out 3).trans rfl
             have hcz14_4 : wr.cell? ⟨gb182, 4, none⟩ = some (.int .i64 a3_4) := (blk_cell BK182.out 4).trans rfl
             have hcz14_5 : wr.cell? ⟨gb182, 5, none⟩ = some (.int .i64 a3_5) := (blk_cell BK182.out 5).trans rfl
             have hcz14_6 : wr.cell? ⟨gb182, 6, none⟩ = some (.int .i64 a3_6) := (blk_cell BK182.out 6).trans rfl
             have hfz14_0 := blk_frozen BK182.out 0
             have hfz14_1 := blk_frozen BK182.out 1
             have hfz14_2 := blk_frozen BK182.out 2
             have hfz14_3 := blk_frozen BK182.out 3
             have hfz14_4 := blk_frozen BK182.out 4
             have hfz14_5 := blk_frozen BK182.out 5
             have hfz14_6 := blk_frozen BK182.out 6
             go_wp2_with (first | ((with_reducible refine gate_callee (f := 21) rfl ?_); refine goesL_ (some 23) rfl rfl Try.func21 (by kernel_rfl) rfl #[.slice A0 l0.length c0, .int .i64 x10_1, .agg #[.int .i64 a3_0, .int .i64 a3_1, .int .i64 a3_2, .int .i64 a3_3, .int .i64 a3_4, .int .i64 a3_5, .int .i64 a3_6]] rfl (by (try simp only [List.map_toArray, List.map_cons, List.map_nil]); first | done | rfl | (simp only [List.length_drop, List.length_take]; rfl)) ?_; (with_reducible refine (regletref12_Cut.calls _ _ l0 x10_1 a3_0 a3_1 a3_2 a3_3 a3_4 a3_5 a3_6 true _ ?side1 ?side2 A7.out).mono ?_); (case side1 => repeat (first | exact (Kd.C_below HR0.out HB.out) | (with_reducible refine Kd.C_alloc ?_ _) | (with_reducible refine Kd.C_drewN ?_ _) | (with_reducible refine Kd.C_drew ?_))); (case side2 => exact HC0.out); rintro e w15 ⟨rfl, hb⟩; refine ⟨_, rfl, ?_⟩; have n0_ := Aside0.mk (blk_below (g := gb182) (o := .cells #[.int .i64 a3_0, .int .i64 a3_1, .int .i64 a3_2, .int .i64 a3_3, .int .i64 a3_4, .int .i64 a3_5, .int .i64 a3_6] 24 (0, 0)) (by (with_reducible repeat (first | refine blk_drewN ?_ _ | refine blk_drew ?_ | refine blk_alloc ?_ _)); exact BK182.out) hb); have n1_ := Aside0.mk (below_step (by repeat (first | (with_reducible first | exact HB.out | apply below_alloc | apply pw_below_drewN | apply below_drew1 | refine below_set ?_ GE182.out) | exact HB.out)) hb); clear BK182; clear HB; have BK182 := n0_; have HB := n1_; clear n0_ n1_; (try clear hb); (try clear hb2); (try clear hk); (try clear hi)) | (go_at_call 27; (with_reducible refine (regletref12_High.calls k1 _ _ l0 a1 x10_1 t184 _ ?side1 ?side2 A12.out).mono ?_); (case side1 => repeat (first | exact (Kd.C_below HR0.out HB.out) | (with_reducible refine Kd.C_alloc ?_ _) | (with_reducible refine Kd.C_drewN ?_ _) | (with_reducible refine Kd.C_drew ?_))); (case side2 => exact HC0.out); rintro e w' ⟨rfl, ⟨nd, rfl⟩⟩))
             go_roundg k1
             case measure => have := HK1.out; omega
             case rel => exact ⟨(x10_1), (wrap64 (x10_1 + 1)), (by first | rfl | (simp; done) | (simp [*]; done)), (by first | rfl | (simp; done) | (simp [*]; done)), H', ⟨by have := HK1.out; omega⟩, ⟨by (with_reducible repeat (first | refine blk_drewN ?_ _ | refine blk_drew ?_ | refine blk_alloc ?_ _)); exact BK182.out⟩, ⟨by repeat (first | (with_reducible first | exact HB.out | apply below_alloc | apply pw_below_drewN | apply below_drew1 | refine below_set ?_ GE182.out) | exact HB.out)⟩⟩
           · rw [if_neg c13] at H
             have c13b0 : decide (t184 ≤ a2) = false := decide_eq_false c13
             clear c13
             have H' := Aside0.mk H
             clear H
             have hcz16_0 : wr.cell? ⟨gb182, 0, none⟩ = some (.int .i64 a3_0) := (blk_cell BK182.out 0).trans rfl
             have hcz16_1 : wr.cell? ⟨gb182, 1, none⟩ = some (.int .i64 a3_1) := (blk_cell BK182.out 1).trans rfl
             have hcz16_2 : wr.cell? ⟨gb182, 2, none⟩ = some (.int .i64 a3_2) := (blk_cell BK182.out 2).trans rfl
             have hcz16_3 : wr.cell? ⟨gb182, 3, none⟩ = some (.int .i64 a3_3) := (blk_cell BK182.out 3).trans rfl
             have hcz16_4 : wr.cell? ⟨gb182, 4, none⟩ = some (.int .i64 a3_4) := (blk_cell BK182.out 4).trans rfl
             have hcz16_5 : wr.cell? ⟨gb182, 5, none⟩ = some (.int .i64 a3_5) := (blk_cell BK182.out 5).trans rfl
             have hcz16_6 : wr.cell? ⟨gb182, 6, none⟩ = some (.int .i64 a3_6) := (blk_cell BK182.out 6).trans rfl
             have hfz16_0 := blk_frozen BK182.out 0
             have hfz16_1 := blk_frozen BK182.out 1
             have hfz16_2 := blk_frozen BK182.out 2
             have hfz16_3 := blk_frozen BK182.out 3
             have hfz16_4 := blk_frozen BK182.out 4
             have hfz16_5 := blk_frozen BK182.out 5
             have hfz16_6 := blk_frozen BK182.out 6
             go_wp2_with (first | ((with_reducible refine gate_callee (f := 21) rfl ?_); refine goesL_ (some 23) rfl rfl Try.func21 (by kernel_rfl) rfl #[.slice A0 l0.length c0, .int .i64 x10_1, .agg #[.int .i64 a3_0, .int .i64 a3_1, .int .i64 a3_2, .int .i64 a3_3, .int .i64 a3_4, .int .i64 a3_5, .int .i64 a3_6]] rfl (by (try simp only [List.map_toArray, List.map_cons, List.map_nil]); first | done | rfl | (simp only [List.length_drop, List.length_take]; rfl)) ?_; (with_reducible refine (regletref12_Cut.calls _ _ l0 x10_1 a3_0 a3_1 a3_2 a3_3 a3_4 a3_5 a3_6 true _ ?side1 ?side2 A7.out).mono ?_); (case side1 => repeat (first | exact (Kd.C_below HR0.out HB.out) | (with_reducible refine Kd.C_alloc ?_ _) | (with_reducible refine Kd.C_drewN ?_ _) | (with_reducible refine Kd.C_drew ?_))); (case side2 => exact HC0.out); rintro e w17 ⟨rfl, hb⟩; refine ⟨_, rfl, ?_⟩; have n0_ := Aside0.mk (blk_below (g := gb182) (o := .cells #[.int .i64 a3_0, .int .i64 a3_1, .int .i64 a3_2, .int .i64 a3_3, .int .i64 a3_4, .int .i64 a3_5, .int .i64 a3_6] 24 (0, 0)) (by (with_reducible repeat (first | refine blk_drewN ?_ _ | refine blk_drew ?_ | refine blk_alloc ?_ _)); exact BK182.out) hb); have n1_ := Aside0.mk (below_step (by repeat (first | (with_reducible first | exact HB.out | apply below_alloc | apply pw_below_drewN | apply below_drew1 | refine below_set ?_ GE182.out) | exact HB.out)) hb); clear BK182; clear HB; have BK182 := n0_; have HB := n1_; clear n0_ n1_; (try clear hb); (try clear hb2); (try clear hk); (try clear hi)) | (go_at_call 27; (with_reducible refine (regletref12_High.calls k1 _ _ l0 a1 x10_1 t184 _ ?side1 ?side2 A12.out).mono ?_); (case side1 => repeat (first | exact (Kd.C_below HR0.out HB.out) | (with_reducible refine Kd.C_alloc ?_ _) | (with_reducible refine Kd.C_drewN ?_ _) | (with_reducible refine Kd.C_drew ?_))); (case side2 => exact HC0.out); rintro e w' ⟨rfl, ⟨nd, rfl⟩⟩))
             go_roundg k1
             case measure => have := HK1.out; omega
             case rel => exact ⟨(x9_1), (wrap64 (x10_1 + 1)), (by first | rfl | (simp; done) | (simp [*]; done)), (by first | rfl | (simp; done) | (simp [*]; done)), H', ⟨by have := HK1.out; omega⟩, ⟨by (with_reducible repeat (first | refine blk_drewN ?_ _ | refine blk_drew ?_ | refine blk_alloc ?_ _)); exact BK182.out⟩, ⟨by repeat (first | (with_reducible first | exact HB.out | apply below_alloc | apply pw_below_drewN | apply below_drew1 | refine below_set ?_ GE182.out) | exact HB.out)⟩⟩
       · replace c8 := Bool.eq_false_iff.mpr c8
         subst c8
         have H1 : (regletref12_Next.l0 k1 l0 a1 a2 x9_1 (wrap64 (x10_1 + 1)) a3_0 a3_1 a3_2 a3_3 a3_4 a3_5 a3_6) = some r := by rw [if_neg (show ¬ (false = true) by decide)] at H; exact H
         clear H
         have H := H1
         clear H1
         have H' := Aside0.mk H
         clear H
         have hcz18_0 : wr.cell? ⟨gb182, 0, none⟩ = some (.int .i64 a3_0) := (blk_cell BK182.out 0).trans rfl
         have hcz18_1 : wr.cell? ⟨gb182, 1, none⟩ = some (.int .i64 a3_1) := (blk_cell BK182.out 1).trans rfl
         have hcz18_2 : wr.cell? ⟨gb182, 2, none⟩ = some (.int .i64 a3_2) := (blk_cell BK182.out 2).trans rfl
         have hcz18_3 : wr.cell? ⟨gb182, 3, none⟩ = some (.int .i64 a3_3) := (blk_cell BK182.out 3).trans rfl
         have hcz18_4 : wr.cell? ⟨gb182, 4, none⟩ = some (.int .i64 a3_4) := (blk_cell BK182.out 4).trans rfl
         have hcz18_5 : wr.cell? ⟨gb182, 5, none⟩ = some (.int .i64 a3_5) := (blk_cell BK182.out 5).trans rfl
         have hcz18_6 : wr.cell? ⟨gb182, 6, none⟩ = some (.int .i64 a3_6) := (blk_cell BK182.out 6).trans rfl
         have hfz18_0 := blk_frozen BK182.out 0
         have hfz18_1 := blk_frozen BK182.out 1
         have hfz18_2 := blk_frozen BK182.out 2
         have hfz18_3 := blk_frozen BK182.out 3
         have hfz18_4 := blk_frozen BK182.out 4
         have hfz18_5 := blk_frozen BK182.out 5
         have hfz18_6 := blk_frozen BK182.out 6
         go_wp2_with (first | ((with_reducible refine gate_callee (f := 21) rfl ?_); refine goesL_ (some 23) rfl rfl Try.func21 (by kernel_rfl) rfl #[.slice A0 l0.length c0, .int .i64 x10_1, .agg #[.int .i64 a3_0, .int .i64 a3_1, .int .i64 a3_2, .int .i64 a3_3, .int .i64 a3_4, .int .i64 a3_5, .int .i64 a3_6]] rfl (by (try simp only [List.map_toArray, List.map_cons, List.map_nil]); first | done | rfl | (simp only [List.length_drop, List.length_take]; rfl)) ?_; (with_reducible refine (regletref12_Cut.calls _ _ l0 x10_1 a3_0 a3_1 a3_2 a3_3 a3_4 a3_5 a3_6 false _ ?side1 ?side2 A7.out).mono ?_); (case side1 => repeat (first | exact (Kd.C_below HR0.out HB.out) | (with_reducible refine Kd.C_alloc ?_ _) | (with_reducible refine Kd.C_drewN ?_ _) | (with_reducible refine Kd.C_drew ?_))); (case side2 => exact HC0.out); rintro e w19 ⟨rfl, hb⟩; refine ⟨_, rfl, ?_⟩; have n0_ := Aside0.mk (blk_below (g := gb182) (o := .cells #[.int .i64 a3_0, .int .i64 a3_1, .int .i64 a3_2, .int .i64 a3_3, .int .i64 a3_4, .int .i64 a3_5, .int .i64 a3_6] 24 (0, 0)) (by (with_reducible repeat (first | refine blk_drewN ?_ _ | refine blk_drew ?_ | refine blk_alloc ?_ _)); exact BK182.out) hb); have n1_ := Aside0.mk (below_step (by repeat (first | (with_reducible first | exact HB.out | apply below_alloc | apply pw_below_drewN | apply below_drew1 | refine below_set ?_ GE182.out) | exact HB.out)) hb); clear BK182; clear HB; have BK182 := n0_; have HB := n1_; clear n0_ n1_; (try clear hb); (try clear hb2); (try clear hk); (try clear hi)))
         go_roundg k1
         case measure => have := HK1.out; omega
         case rel => exact ⟨(x9_1), (wrap64 (x10_1 + 1)), (by first | rfl | (simp; done) | (simp [*]; done)), (by first | rfl | (simp; done) | (simp [*]; done)), H', ⟨by have := HK1.out; omega⟩, ⟨by (with_reducible repeat (first | refine blk_drewN ?_ _ | refine blk_drew ?_ | refine blk_alloc ?_ _)); exact BK182.out⟩, ⟨by repeat (first | (with_reducible first | exact HB.out | apply below_alloc | apply pw_below_drewN | apply below_drew1 | refine below_set ?_ GE182.out) | exact HB.out)⟩⟩
     · rw [if_neg c6] at H
       have c6b0 : decide (x10_1 ≤ (l0.length : Int)) = false := decide_eq_false c6
       clear c6
       obtain rfl := Option.some.inj H
       go_wp2
       go_ret
       exact ⟨by first | rfl | (simp [errW_none, errW_some] <;> rfl) | (simp [*, errW_none, errW_some] <;> rfl), by repeat (first | (with_reducible first | exact HB.out | apply below_alloc | apply pw_below_drewN | apply below_drew1 | refine below_set ?_ GE182.out) | exact HB.out)⟩

/-! ### regletref12_Paginate: function 17 -/
def regletref12_Paginate.l0 : Nat → List (S42) → Int → List Int → Int → Int → Int → Int → Int → Int → Int → Int → Option (List Int)
 | 0, _, _, _, _, _, _, _, _, _, _, _ => none
 | k + 1, x0, x1, x7, x8, x186000, x186001, x186002, x186003, x186004, x186005, x186006 => if x8 < (x0.length : Int) then (if x7.length < 17592186044416 then ((regletref12_Next.f k x0 x8 x1 x186000 x186001 x186002 x186003 x186004 x186005 x186006).bind fun t189 => (regletref12_Paginate.l0 k x0 x1 (x7 ++ [x8]) t189 x186000 x186001 x186002 x186003 x186004 x186005 x186006)) else (none)) else (some x7)
def regletref12_Paginate.f (k : Nat) (l0 : List (S42)) (a1 : Int) (a2_0 : Int) (a2_1 : Int) (a2_2 : Int) (a2_3 : Int) (a2_4 : Int) (a2_5 : Int) (a2_6 : Int) : Option (List Int) := regletref12_Paginate.l0 k l0 a1 ([] : List Int) 0 a2_0 a2_1 a2_2 a2_3 a2_4 a2_5 a2_6
theorem regletref12_Paginate.mono_l : ∀ k, (∀ y0 y1 y2 y3 y4 y5 y6 y7 y8 y9 y10, LeO (regletref12_Paginate.l0 k y0 y1 y2 y3 y4 y5 y6 y7 y8 y9 y10) (regletref12_Paginate.l0 (k + 1) y0 y1 y2 y3 y4 y5 y6 y7 y8 y9 y10))
 | 0 => fun _ _ _ _ _ _ _ _ _ _ _ r h => by simp [regletref12_Paginate.l0] at h
 | k + 1 => by
   have ih0 := regletref12_Paginate.mono_l k
   · intro y0 y1 y2 y3 y4 y5 y6 y7 y8 y9 y10
     unfold regletref12_Paginate.l0
     repeat' first
     | (with_reducible exact ih0 _ _ _ _ _ _ _ _ _ _ _)
     | (with_reducible exact regletref12_Next.mono _ _ _ _ _ _ _ _ _ _ _)
     | (with_reducible exact LeO.refl _)
     | (with_reducible exact LeO.none _)
     | (with_reducible refine LeO.ite ?_ ?_)
     | (with_reducible refine LeO.bind ?_ (fun _ => ?_))
     | exact ih0 _ _ _ _ _ _ _ _ _ _ _
     | exact regletref12_Next.mono _ _ _ _ _ _ _ _ _ _ _
     | exact LeO.none _
     | refine LeO.ite ?_ ?_
     | refine LeO.bind ?_ (fun _ => ?_)
theorem regletref12_Paginate.mono : ∀ a0 a1 a2 a3 a4 a5 a6 a7 a8 k, LeO (regletref12_Paginate.f k a0 a1 a2 a3 a4 a5 a6 a7 a8) (regletref12_Paginate.f (k + 1) a0 a1 a2 a3 a4 a5 a6 a7 a8) := by
 intro a0 a1 a2 a3 a4 a5 a6 a7 a8 k
 have ih0 := regletref12_Paginate.mono_l k
 unfold regletref12_Paginate.f
 repeat' first
     | (with_reducible exact ih0 _ _ _ _ _ _ _ _ _ _ _)
     | (with_reducible exact regletref12_Next.mono _ _ _ _ _ _ _ _ _ _ _)
     | (with_reducible exact LeO.refl _)
     | (with_reducible exact LeO.none _)
     | (with_reducible refine LeO.ite ?_ ?_)
     | (with_reducible refine LeO.bind ?_ (fun _ => ?_))
     | exact ih0 _ _ _ _ _ _ _ _ _ _ _
     | exact regletref12_Next.mono _ _ _ _ _ _ _ _ _ _ _
     | exact LeO.none _
     | refine LeO.ite ?_ ?_
     | refine LeO.bind ?_ (fun _ => ?_)
theorem regletref12_Paginate.l0.ev {x0 : List (S42)} {x1 : Int} {x7 : List Int} {x8 : Int} {x186000 : Int} {x186001 : Int} {x186002 : Int} {x186003 : Int} {x186004 : Int} {x186005 : Int} {x186006 : Int} {r_ : List Int} (h : Ev (fun k => if x8 < (x0.length : Int) then (if x7.length < 17592186044416 then ((regletref12_Next.f k x0 x8 x1 x186000 x186001 x186002 x186003 x186004 x186005 x186006).bind fun t189 => (regletref12_Paginate.l0 k x0 x1 (x7 ++ [x8]) t189 x186000 x186001 x186002 x186003 x186004 x186005 x186006)) else (none)) else (some x7)) r_) : Ev (fun k => regletref12_Paginate.l0 k x0 x1 x7 x8 x186000 x186001 x186002 x186003 x186004 x186005 x186006) r_ := Ev.step (fun k => by rw [regletref12_Paginate.l0]) h
set_option maxHeartbeats 8000000 in
set_option maxRecDepth 100000 in
theorem regletref12_Paginate.calls (k : Nat) (A0 : Option Addr) (c0 : Nat) (l0 : List (S42)) (a1 : Int) (a2_0 : Int) (a2_1 : Int) (a2_2 : Int) (a2_3 : Int) (a2_4 : Int) (a2_5 : Int) (a2_6 : Int) (r : List Int) (w : World) (hr0 : Kd.C k42 w A0 l0.length l0) (hc0 : l0.length ≤ c0) (h : regletref12_Paginate.f k l0 a1 a2_0 a2_1 a2_2 a2_3 a2_4 a2_5 a2_6 = some r) :
   Calls Try.prog 17 #[.slice A0 l0.length c0, .int .i64 a1, .agg #[.int .i64 a2_0, .int .i64 a2_1, .int .i64 a2_2, .int .i64 a2_3, .int .i64 a2_4, .int .i64 a2_5, .int .i64 a2_6]] w fun e w' => ∃ v0_ : Value, e = .returned (v0_) ∧ Kd.R (Kd.int .i64) 3 w' w.heap.size (fun _ => True) v0_ r ∧ Below w.heap.size w w' := by
 have hu24 := Try.underlying24
 have HR0 := Aside0.mk hr0
 have HC0 := Aside0.mk hc0
 clear hr0 hc0
 have HB := Aside0.mk (Below.refl w.heap.size w)
 have H : (regletref12_Paginate.l0 k l0 a1 ([] : List Int) 0 a2_0 a2_1 a2_2 a2_3 a2_4 a2_5 a2_6) = some r := h
 clear h
 have H' := Aside0.mk H
 clear H
 go_enter Try.func17, Try.ntmps17
 go_wp2_with (first | ((with_reducible refine gate_dst (N := 5) rfl ?_); refine box_event ?hg (N := 5) ?hd (cs := #[.int .i64 a2_0, .int .i64 a2_1, .int .i64 a2_2, .int .i64 a2_3, .int .i64 a2_4, .int .i64 a2_5, .int .i64 a2_6]) (t := 24) ?hr ?_; (case hd => rfl); (case hg => rfl); (case hr => first | (go_simp; done) | (go_simp; rfl)); intro gb185 hg w4 hbox hb; have n0_ := Aside0.mk (below_step (by repeat (first | (with_reducible first | exact HB.out | apply below_alloc | apply pw_below_drewN | apply below_drew1) | exact HB.out)) hb); have n1_ := Aside0.mk (hbox); have n2_ := Aside0.mk ((by rw [hg]; exact (below_size (by repeat (first | (with_reducible first | exact HB.out | apply below_alloc | apply pw_below_drewN | apply below_drew1) | exact HB.out))) : w.heap.size ≤ gb185)); have n3_ := Aside0.mk ((by rw [hg]; exact (below_size (by repeat (first | (with_reducible first | exact HB.out | apply below_alloc | apply pw_below_drewN | apply below_drew1) | exact HB.out))) : w.heap.size ≤ gb185)); clear HB; have HB := n0_; have BK185 := n1_; have GW185 := n2_; have GE185 := n3_; clear n0_ n1_ n2_ n3_; clear hb hbox hg))
 go_loopg [7, 8] k (fun kq v7 v8 w' => ∃ (x7_1 : List Int) (x8_1 : Int), v8 = .int .i64 x8_1 ∧ Aside0 (regletref12_Paginate.l0 kq l0 a1 x7_1 x8_1 a2_0 a2_1 a2_2 a2_3 a2_4 a2_5 a2_6 = some r) ∧ Aside0 (kq ≤ k) ∧ Aside0 (Kd.R (Kd.int .i64) 3 w' w.heap.size (fun _ => True) v7 x7_1) ∧ Aside0 (w'.heap[gb185]? = some (.cells #[.int .i64 a2_0, .int .i64 a2_1, .int .i64 a2_2, .int .i64 a2_3, .int .i64 a2_4, .int .i64 a2_5, .int .i64 a2_6] 24 (0, 0))) ∧ Aside0 (Below w.heap.size w w'))
 case atStart => exact ⟨(([] : List Int)), (0), (by first | rfl | (simp; done) | (simp [*]; done)), H', ⟨Nat.le_refl _⟩, ⟨by first | exact Kd.R_nil _ _ _ _ _ | exact Kd.N_nil _ _ _ _ _ | exact Kd.V_nil _ _ _ _ _ | exact Kd.Q_nil _ _ _ _ _ | exact Kd.S_nil _ _ _ _ _⟩, ⟨by (with_reducible repeat (first | refine blk_drewN ?_ _ | refine blk_drew ?_ | refine blk_alloc ?_ _)); exact BK185.out⟩, ⟨by repeat (first | (with_reducible first | exact HB.out | apply below_alloc | apply pw_below_drewN | apply below_drew1 | refine below_set ?_ GE185.out) | exact HB.out)⟩⟩
 case round =>
   clear H'
   try clear c1
   try clear p2
   obtain ⟨x7_1, x8_1, rfl, HA, HK1, HO_7, BK185, HB⟩ := hrel
   cases gk with
   | zero => exact absurd HA.out (by simp [regletref12_Paginate.l0])
   | succ k1 =>
     have H := HA.out
     clear HA
     simp only [regletref12_Paginate.l0] at H
     by_cases c5 : x8_1 < (l0.length : Int)
     · rw [if_pos c5] at H
       have c5b0 : decide (x8_1 < (l0.length : Int)) = true := decide_eq_true c5
       clear c5
       by_cases c6 : x7_1.length < 17592186044416
       · rw [if_pos c6] at H
         have LMc6 := Aside0.mk c6
         clear c6
         obtain ⟨y186, hy186⟩ : ∃ y_ : List Int, y_ = (x7_1 ++ [x8_1]) := ⟨_, rfl⟩
         replace H : ((regletref12_Next.f k1 l0 x8_1 a1 a2_0 a2_1 a2_2 a2_3 a2_4 a2_5 a2_6).bind fun t189 => (regletref12_Paginate.l0 k1 l0 a1 y186 t189 a2_0 a2_1 a2_2 a2_3 a2_4 a2_5 a2_6)) = some r := by first | (rw [hy186]; with_reducible exact H) | (have H2_ := (Option.bind_some _ _).symm.trans H; rw [hy186]; with_reducible exact H2_) | (have H2_ := (Option.bind_some _ _).symm.trans H; with_reducible exact H2_) | with_reducible exact H | (rw [hy186]; exact H) | exact H
         have Ny186 := Aside0.mk hy186
         clear hy186
         replace H := Option.bind_eq_some_iff.mp H
         obtain ⟨t189, A70, H⟩ := H
         replace H : (regletref12_Paginate.l0 k1 l0 a1 y186 t189 a2_0 a2_1 a2_2 a2_3 a2_4 a2_5 a2_6) = some r := H
         have A7 := Aside0.mk A70
         clear A70
         have H' := Aside0.mk H
         clear H
         go_wp2_with (first | ((with_reducible refine gate_builtin (b := .append) (xs := #[.tmp 18, .tmp 20]) rfl ?_); at_builtin; refine Kd.R_append (Kd.int .i64) (w0 := w) w.heap.size rfl (.tmp 18) (.tmp 20) 26 3 (.int .i64 0) 8 rfl Try.underlying26 info3 rfl (by decide) (by omega) u7 x7_1 x8_1 [.int .i64 x8_1] (fun _ => True) (fun _ => False) rfl rfl ?aP (fun _ hk => hk.elim) ?aF ?aO ?aB ?aS ?aL ?_; (case aP => exact rfl); (case aB => exact (by repeat (first | (with_reducible first | exact HB.out | apply below_alloc | apply pw_below_drewN | apply below_drew1 | refine below_set ?_ GE185.out) | exact HB.out))); (case aF => exact (fun _ _ => trivial)); (case aO => exact (by (with_reducible repeat (first | apply Kd.R_alloc | apply Kd.R_drewN | apply Kd.R_drew)); exact HO_7.out)); (case aS => exact (below_size (by repeat (first | (with_reducible first | exact HB.out | apply below_alloc | apply pw_below_drewN | apply below_drew1 | refine below_set ?_ GE185.out) | exact HB.out)))); (case aL => have := LMc6.out; omega); intro v187 w8 ho hb hg hat; rw [← Ny186.out] at ho; have n0_ := Aside0.mk (blk_grown (g := gb185) (o := .cells #[.int .i64 a2_0, .int .i64 a2_1, .int .i64 a2_2, .int .i64 a2_3, .int .i64 a2_4, .int .i64 a2_5, .int .i64 a2_6] 24 (0, 0)) (by (with_reducible repeat (first | refine blk_drewN ?_ _ | refine blk_drew ?_ | refine blk_alloc ?_ _)); exact BK185.out) hg (Kd.R_ne HO_7.out BK185.out (by decide))); have n1_ := Aside0.mk (hb); have n2_ := Aside0.mk (ho); clear BK185; clear HB; clear HO_7; have BK185 := n0_; have HB := n1_; have HO188 := n2_; clear n0_ n1_ n2_; clear ho hb hg hat; have hcz9_0 : w8.cell? ⟨gb185, 0, none⟩ = some (.int .i64 a2_0) := (blk_cell BK185.out 0).trans rfl; have hcz9_1 : w8.cell? ⟨gb185, 1, none⟩ = some (.int .i64 a2_1) := (blk_cell BK185.out 1).trans rfl; have hcz9_2 : w8.cell? ⟨gb185, 2, none⟩ = some (.int .i64 a2_2) := (blk_cell BK185.out 2).trans rfl; have hcz9_3 : w8.cell? ⟨gb185, 3, none⟩ = some (.int .i64 a2_3) := (blk_cell BK185.out 3).trans rfl; have hcz9_4 : w8.cell? ⟨gb185, 4, none⟩ = some (.int .i64 a2_4) := (blk_cell BK185.out 4).trans rfl; have hcz9_5 : w8.cell? ⟨gb185, 5, none⟩ = some (.int .i64 a2_5) := (blk_cell BK185.out 5).trans rfl; have hcz9_6 : w8.cell? ⟨gb185, 6, none⟩ = some (.int .i64 a2_6) := (blk_cell BK185.out 6).trans rfl; have hfz9_0 := blk_frozen BK185.out 0; have hfz9_1 := blk_frozen BK185.out 1; have hfz9_2 := blk_frozen BK185.out 2; have hfz9_3 := blk_frozen BK185.out 3; have hfz9_4 := blk_frozen BK185.out 4; have hfz9_5 := blk_frozen BK185.out 5; have hfz9_6 := blk_frozen BK185.out 6) | ((with_reducible refine gate_callee (f := 20) rfl ?_); refine goesL_ (some 17) rfl rfl Try.func20 (by kernel_rfl) rfl #[.slice A0 l0.length c0, .int .i64 x8_1, .int .i64 a1, .agg #[.int .i64 a2_0, .int .i64 a2_1, .int .i64 a2_2, .int .i64 a2_3, .int .i64 a2_4, .int .i64 a2_5, .int .i64 a2_6]] rfl (by (try simp only [List.map_toArray, List.map_cons, List.map_nil]); first | done | rfl | (simp only [List.length_drop, List.length_take]; rfl)) ?_; (with_reducible refine (regletref12_Next.calls k1 _ _ l0 x8_1 a1 a2_0 a2_1 a2_2 a2_3 a2_4 a2_5 a2_6 t189 _ ?side1 ?side2 A7.out).mono ?_); (case side1 => repeat (first | exact (Kd.C_below HR0.out HB.out) | (with_reducible refine Kd.C_alloc ?_ _) | (with_reducible refine Kd.C_drewN ?_ _) | (with_reducible refine Kd.C_drew ?_))); (case side2 => exact HC0.out); rintro e w10 ⟨rfl, hb⟩; refine ⟨_, rfl, ?_⟩; have n0_ := Aside0.mk (Kd.R_below (by (with_reducible repeat (first | apply Kd.R_alloc | apply Kd.R_drewN | apply Kd.R_drew)); exact HO188.out) hb); have n1_ := Aside0.mk (blk_below (g := gb185) (o := .cells #[.int .i64 a2_0, .int .i64 a2_1, .int .i64 a2_2, .int .i64 a2_3, .int .i64 a2_4, .int .i64 a2_5, .int .i64 a2_6] 24 (0, 0)) (by (with_reducible repeat (first | refine blk_drewN ?_ _ | refine blk_drew ?_ | refine blk_alloc ?_ _)); exact BK185.out) hb); have n2_ := Aside0.mk (below_step (by repeat (first | (with_reducible first | exact HB.out | apply below_alloc | apply pw_below_drewN | apply below_drew1 | refine below_set ?_ GE185.out) | exact HB.out)) hb); clear HO188; clear BK185; clear HB; have HO188 := n0_; have BK185 := n1_; have HB := n2_; clear n0_ n1_ n2_; (try clear hb); (try clear hb2); (try clear hk); (try clear hi)))
         go_roundg k1
         case measure => have := HK1.out; omega
         case rel => exact ⟨(y186), (t189), (by first | rfl | (simp; done) | (simp [*]; done)), H', ⟨by have := HK1.out; omega⟩, ⟨by (with_reducible repeat (first | apply Kd.R_alloc | apply Kd.R_drewN | apply Kd.R_drew)); exact HO188.out⟩, ⟨by (with_reducible repeat (first | refine blk_drewN ?_ _ | refine blk_drew ?_ | refine blk_alloc ?_ _)); exact BK185.out⟩, ⟨by repeat (first | (with_reducible first | exact HB.out | apply below_alloc | apply pw_below_drewN | apply below_drew1 | refine below_set ?_ GE185.out) | exact HB.out)⟩⟩
       · rw [if_neg c6] at H
         exact absurd H (by simp)
     · rw [if_neg c5] at H
       have c5b0 : decide (x8_1 < (l0.length : Int)) = false := decide_eq_false c5
       clear c5
       obtain rfl := Option.some.inj H
       go_wp2
       go_ret
       exact ⟨_, by first | rfl | (simp [errW_none, errW_some] <;> rfl) | (simp [*, errW_none, errW_some] <;> rfl), by (with_reducible repeat (first | apply Kd.R_alloc | apply Kd.R_drewN | apply Kd.R_drew)); exact HO_7.out, by repeat (first | (with_reducible first | exact HB.out | apply below_alloc | apply pw_below_drewN | apply below_drew1 | refine below_set ?_ GE185.out) | exact HB.out)⟩

/-! ### regletlaw12_PagesLaid: function 3 -/
def regletlaw12_PagesLaid.j0 : Nat → List (S42) → Int → List Int → Int → Bool → Int → Int → Int → Int → Int → Int → Int → Option (Bool)
 | 0, _, _, _, _, _, _, _, _, _, _, _, _ => none
 | k + 1, x0, x1, x7, x8, x21, x191000, x191001, x191002, x191003, x191004, x191005, x191006 => if x21 = true then (if x8 = 41 then (if (x7.length : Int) = 0 then ((pages_Check.f k x1 x191000 x191001 x191002 x191003 x191004 x191005 x191006).bind fun t196 => (some (t196 == 41))) else (some false)) else (some false)) else ((regletref12_Check.f k x1 x191000 x191001 x191002 x191003 x191004 x191005 x191006).bind fun t197 => (if t197 = true then ((regletref12_Right.f k x0).bind fun t198 => (if t198 = true then (if x8 = 0 then ((pages_Right.f k x0).bind fun t199 => (if t199 = 0 then ((regletref12_Paginate.f k x0 x1 x191000 x191001 x191002 x191003 x191004 x191005 x191006).bind fun t200 => ((regletref12_Same.f k x7 t200).bind fun t203 => (some t203))) else (some false))) else (some false)) else (if x8 = 1 then (if (x7.length : Int) = 0 then ((pages_Right.f k x0).bind fun t204 => (some (t204 == 1))) else (some false)) else (some false)))) else (if x8 = 80 then (if (x7.length : Int) = 0 then ((pages_Check.f k x1 x191000 x191001 x191002 x191003 x191004 x191005 x191006).bind fun t205 => (some (t205 == 80))) else (some false)) else (some false))))
def regletlaw12_PagesLaid.f (k : Nat) (l0 : List (S42)) (a1 : Int) (a2_0 : Int) (a2_1 : Int) (a2_2 : Int) (a2_3 : Int) (a2_4 : Int) (a2_5 : Int) (a2_6 : Int) : Option (Bool) := (regletlaw12_awake.f k).bind fun t191 => (if t191 = true then (if (l0.length : Int) > 200 then (some true) else ((pages_Paginate.f k l0 a1 a2_0 a2_1 a2_2 a2_3 a2_4 a2_5 a2_6).bind fun bt192 => (if a1 < 1 then (regletlaw12_PagesLaid.j0 k l0 a1 bt192.1 bt192.2 true a2_0 a2_1 a2_2 a2_3 a2_4 a2_5 a2_6) else (regletlaw12_PagesLaid.j0 k l0 a1 bt192.1 bt192.2 (decide (a1 > 1073741824)) a2_0 a2_1 a2_2 a2_3 a2_4 a2_5 a2_6)))) else (some false))
theorem regletlaw12_PagesLaid.mono_l : ∀ k, (∀ y0 y1 y2 y3 y4 y5 y6 y7 y8 y9 y10 y11, LeO (regletlaw12_PagesLaid.j0 k y0 y1 y2 y3 y4 y5 y6 y7 y8 y9 y10 y11) (regletlaw12_PagesLaid.j0 (k + 1) y0 y1 y2 y3 y4 y5 y6 y7 y8 y9 y10 y11))
 | 0 => fun _ _ _ _ _ _ _ _ _ _ _ _ r h => by simp [regletlaw12_PagesLaid.j0] at h
 | k + 1 => by
   have ih0 := regletlaw12_PagesLaid.mono_l k
   · intro y0 y1 y2 y3 y4 y5 y6 y7 y8 y9 y10 y11
     unfold regletlaw12_PagesLaid.j0
     repeat' first
     | (with_reducible exact ih0 _ _ _ _ _ _ _ _ _ _ _ _)
     | (with_reducible exact pages_Check.mono _ _ _ _ _ _ _ _ _)
     | (with_reducible exact pages_Paginate.mono _ _ _ _ _ _ _ _ _ _)
     | (with_reducible exact pages_Right.mono _ _)
     | (with_reducible exact regletlaw12_awake.mono _)
     | (with_reducible exact regletref12_Check.mono _ _ _ _ _ _ _ _ _)
     | (with_reducible exact regletref12_Paginate.mono _ _ _ _ _ _ _ _ _ _)
     | (with_reducible exact regletref12_Right.mono _ _)
     | (with_reducible exact regletref12_Same.mono _ _ _)
     | (with_reducible exact LeO.refl _)
     | (with_reducible exact LeO.none _)
     | (with_reducible refine LeO.ite ?_ ?_)
     | (with_reducible refine LeO.bind ?_ (fun _ => ?_))
     | exact ih0 _ _ _ _ _ _ _ _ _ _ _ _
     | exact pages_Check.mono _ _ _ _ _ _ _ _ _
     | exact pages_Paginate.mono _ _ _ _ _ _ _ _ _ _
     | exact pages_Right.mono _ _
     | exact regletlaw12_awake.mono _
     | exact regletref12_Check.mono _ _ _ _ _ _ _ _ _
     | exact regletref12_Paginate.mono _ _ _ _ _ _ _ _ _ _
     | exact regletref12_Right.mono _ _
     | exact regletref12_Same.mono _ _ _
     | exact LeO.none _
     | refine LeO.ite ?_ ?_
     | refine LeO.bind ?_ (fun _ => ?_)
theorem regletlaw12_PagesLaid.mono : ∀ a0 a1 a2 a3 a4 a5 a6 a7 a8 k, LeO (regletlaw12_PagesLaid.f k a0 a1 a2 a3 a4 a5 a6 a7 a8) (regletlaw12_PagesLaid.f (k + 1) a0 a1 a2 a3 a4 a5 a6 a7 a8) := by
 intro a0 a1 a2 a3 a4 a5 a6 a7 a8 k
 have ih0 := regletlaw12_PagesLaid.mono_l k
 unfold regletlaw12_PagesLaid.f
 repeat' first
     | (with_reducible exact ih0 _ _ _ _ _ _ _ _ _ _ _ _)
     | (with_reducible exact pages_Check.mono _ _ _ _ _ _ _ _ _)
     | (with_reducible exact pages_Paginate.mono _ _ _ _ _ _ _ _ _ _)
     | (with_reducible exact pages_Right.mono _ _)
     | (with_reducible exact regletlaw12_awake.mono _)
     | (with_reducible exact regletref12_Check.mono _ _ _ _ _ _ _ _ _)
     | (with_reducible exact regletref12_Paginate.mono _ _ _ _ _ _ _ _ _ _)
     | (with_reducible exact regletref12_Right.mono _ _)
     | (with_reducible exact regletref12_Same.mono _ _ _)
     | (with_reducible exact LeO.refl _)
     | (with_reducible exact LeO.none _)
     | (with_reducible refine LeO.ite ?_ ?_)
     | (with_reducible refine LeO.bind ?_ (fun _ => ?_))
     | exact ih0 _ _ _ _ _ _ _ _ _ _ _ _
     | exact pages_Check.mono _ _ _ _ _ _ _ _ _
     | exact pages_Paginate.mono _ _ _ _ _ _ _ _ _ _
     | exact pages_Right.mono _ _
     | exact regletlaw12_awake.mono _
     | exact regletref12_Check.mono _ _ _ _ _ _ _ _ _
     | exact regletref12_Paginate.mono _ _ _ _ _ _ _ _ _ _
     | exact regletref12_Right.mono _ _
     | exact regletref12_Same.mono _ _ _
     | exact LeO.none _
     | refine LeO.ite ?_ ?_
     | refine LeO.bind ?_ (fun _ => ?_)
theorem regletlaw12_PagesLaid.j0.ev {x0 : List (S42)} {x1 : Int} {x7 : List Int} {x8 : Int} {x21 : Bool} {x191000 : Int} {x191001 : Int} {x191002 : Int} {x191003 : Int} {x191004 : Int} {x191005 : Int} {x191006 : Int} {r_ : Bool} (h : Ev (fun k => if x21 = true then (if x8 = 41 then (if (x7.length : Int) = 0 then ((pages_Check.f k x1 x191000 x191001 x191002 x191003 x191004 x191005 x191006).bind fun t196 => (some (t196 == 41))) else (some false)) else (some false)) else ((regletref12_Check.f k x1 x191000 x191001 x191002 x191003 x191004 x191005 x191006).bind fun t197 => (if t197 = true then ((regletref12_Right.f k x0).bind fun t198 => (if t198 = true then (if x8 = 0 then ((pages_Right.f k x0).bind fun t199 => (if t199 = 0 then ((regletref12_Paginate.f k x0 x1 x191000 x191001 x191002 x191003 x191004 x191005 x191006).bind fun t200 => ((regletref12_Same.f k x7 t200).bind fun t203 => (some t203))) else (some false))) else (some false)) else (if x8 = 1 then (if (x7.length : Int) = 0 then ((pages_Right.f k x0).bind fun t204 => (some (t204 == 1))) else (some false)) else (some false)))) else (if x8 = 80 then (if (x7.length : Int) = 0 then ((pages_Check.f k x1 x191000 x191001 x191002 x191003 x191004 x191005 x191006).bind fun t205 => (some (t205 == 80))) else (some false)) else (some false))))) r_) : Ev (fun k => regletlaw12_PagesLaid.j0 k x0 x1 x7 x8 x21 x191000 x191001 x191002 x191003 x191004 x191005 x191006) r_ := Ev.step (fun k => by rw [regletlaw12_PagesLaid.j0]) h
set_option maxHeartbeats 8000000 in
set_option maxRecDepth 100000 in
theorem regletlaw12_PagesLaid.calls (k : Nat) (A0 : Option Addr) (c0 : Nat) (l0 : List (S42)) (a1 : Int) (a2_0 : Int) (a2_1 : Int) (a2_2 : Int) (a2_3 : Int) (a2_4 : Int) (a2_5 : Int) (a2_6 : Int) (r : Bool) (w : World) (hr0 : Kd.C k42 w A0 l0.length l0) (hc0 : l0.length ≤ c0) (h : regletlaw12_PagesLaid.f k l0 a1 a2_0 a2_1 a2_2 a2_3 a2_4 a2_5 a2_6 = some r) :
   Calls Try.prog 3 #[.slice A0 l0.length c0, .int .i64 a1, .agg #[.int .i64 a2_0, .int .i64 a2_1, .int .i64 a2_2, .int .i64 a2_3, .int .i64 a2_4, .int .i64 a2_5, .int .i64 a2_6]] w fun e w' => e = .returned (.bool r) ∧ Below w.heap.size w w' := by
 have hu24 := Try.underlying24
 have HR0 := Aside0.mk hr0
 have HC0 := Aside0.mk hc0
 clear hr0 hc0
 have HB := Aside0.mk (Below.refl w.heap.size w)
 have H : ((regletlaw12_awake.f k).bind fun t191 => (if t191 = true then (if (l0.length : Int) > 200 then (some true) else ((pages_Paginate.f k l0 a1 a2_0 a2_1 a2_2 a2_3 a2_4 a2_5 a2_6).bind fun bt192 => (if a1 < 1 then (regletlaw12_PagesLaid.j0 k l0 a1 bt192.1 bt192.2 true a2_0 a2_1 a2_2 a2_3 a2_4 a2_5 a2_6) else (regletlaw12_PagesLaid.j0 k l0 a1 bt192.1 bt192.2 (decide (a1 > 1073741824)) a2_0 a2_1 a2_2 a2_3 a2_4 a2_5 a2_6)))) else (some false))) = some r := h
 clear h
 replace H := Option.bind_eq_some_iff.mp H
 obtain ⟨t191, A40, H⟩ := H
 replace H : (if t191 = true then (if (l0.length : Int) > 200 then (some true) else ((pages_Paginate.f k l0 a1 a2_0 a2_1 a2_2 a2_3 a2_4 a2_5 a2_6).bind fun bt192 => (if a1 < 1 then (regletlaw12_PagesLaid.j0 k l0 a1 bt192.1 bt192.2 true a2_0 a2_1 a2_2 a2_3 a2_4 a2_5 a2_6) else (regletlaw12_PagesLaid.j0 k l0 a1 bt192.1 bt192.2 (decide (a1 > 1073741824)) a2_0 a2_1 a2_2 a2_3 a2_4 a2_5 a2_6)))) else (some false)) = some r := H
 have A4 := Aside0.mk A40
 clear A40
 by_cases c5 : t191 = true
 · subst c5
   have H1 : (if (l0.length : Int) > 200 then (some true) else ((pages_Paginate.f k l0 a1 a2_0 a2_1 a2_2 a2_3 a2_4 a2_5 a2_6).bind fun bt192 => (if a1 < 1 then (regletlaw12_PagesLaid.j0 k l0 a1 bt192.1 bt192.2 true a2_0 a2_1 a2_2 a2_3 a2_4 a2_5 a2_6) else (regletlaw12_PagesLaid.j0 k l0 a1 bt192.1 bt192.2 (decide (a1 > 1073741824)) a2_0 a2_1 a2_2 a2_3 a2_4 a2_5 a2_6)))) = some r := by rw [if_pos rfl] at H; exact H
   clear H
   have H := H1
   clear H1
   by_cases c6 : (l0.length : Int) > 200
   · rw [if_pos c6] at H
     have c6b0 : decide (200 < (l0.length : Int)) = true := decide_eq_true c6
     have c6b1 : decide (200 < l0.length) = true := decide_eq_true (by omega)
     clear c6
     obtain rfl := Option.some.inj H
     go_enter Try.func3, Try.ntmps3
     go_wp2_with (first | ((with_reducible refine gate_dst (N := 5) rfl ?_); (try (refine gate_guard (by rfl) ?_; dsimp only)); refine box_event ?hg (N := 5) ?hd (cs := #[.int .i64 a2_0, .int .i64 a2_1, .int .i64 a2_2, .int .i64 a2_3, .int .i64 a2_4, .int .i64 a2_5, .int .i64 a2_6]) (t := 24) ?hr ?_; (case hd => rfl); (case hg => rfl); (case hr => first | (go_simp; done) | (go_simp; rfl)); intro gb190 hg w7 hbox hb; have n0_ := Aside0.mk (below_step (by repeat (first | (with_reducible first | exact HB.out | apply below_alloc | apply pw_below_drewN | apply below_drew1) | exact HB.out)) hb); have n1_ := Aside0.mk (hbox); have n2_ := Aside0.mk ((by rw [hg]; exact (below_size (by repeat (first | (with_reducible first | exact HB.out | apply below_alloc | apply pw_below_drewN | apply below_drew1) | exact HB.out))) : w.heap.size ≤ gb190)); have n3_ := Aside0.mk ((by rw [hg]; exact (below_size (by repeat (first | (with_reducible first | exact HB.out | apply below_alloc | apply pw_below_drewN | apply below_drew1) | exact HB.out))) : w.heap.size ≤ gb190)); clear HB; have HB := n0_; have BK190 := n1_; have GW190 := n2_; have GE190 := n3_; clear n0_ n1_ n2_ n3_; clear hb hbox hg) | ((with_reducible refine gate_callee (f := 10) rfl ?_); refine goesL_ (some 9) rfl rfl Try.func10 (by kernel_rfl) rfl #[] rfl (by (try simp only [List.map_toArray, List.map_cons, List.map_nil]); first | done | rfl | (simp only [List.length_drop, List.length_take]; rfl)) ?_; (with_reducible refine (regletlaw12_awake.calls k  true _ A4.out).mono ?_); rintro e w8 ⟨rfl, hb⟩; refine ⟨_, rfl, ?_⟩; have n0_ := Aside0.mk (blk_below (g := gb190) (o := .cells #[.int .i64 a2_0, .int .i64 a2_1, .int .i64 a2_2, .int .i64 a2_3, .int .i64 a2_4, .int .i64 a2_5, .int .i64 a2_6] 24 (0, 0)) (by (with_reducible repeat (first | refine blk_drewN ?_ _ | refine blk_drew ?_ | refine blk_alloc ?_ _)); exact BK190.out) hb); have n1_ := Aside0.mk (below_step (by repeat (first | (with_reducible first | exact HB.out | apply below_alloc | apply pw_below_drewN | apply below_drew1 | refine below_set ?_ GE190.out) | exact HB.out)) hb); clear BK190; clear HB; have BK190 := n0_; have HB := n1_; clear n0_ n1_; (try clear hb); (try clear hb2); (try clear hk); (try clear hi)))
     go_ret
     exact ⟨by first | rfl | (simp [errW_none, errW_some] <;> rfl) | (simp [*, errW_none, errW_some] <;> rfl), by repeat (first | (with_reducible first | exact HB.out | apply below_alloc | apply pw_below_drewN | apply below_drew1 | refine below_set ?_ GE190.out) | exact HB.out)⟩
   · rw [if_neg c6] at H
     have c6b0 : decide (200 < (l0.length : Int)) = false := decide_eq_false c6
     have c6b1 : decide (200 < l0.length) = false := decide_eq_false (by omega)
     clear c6
     replace H := Option.bind_eq_some_iff.mp H
     obtain ⟨⟨t192, t195⟩, A90, H⟩ := H
     replace H : (if a1 < 1 then (regletlaw12_PagesLaid.j0 k l0 a1 t192 t195 true a2_0 a2_1 a2_2 a2_3 a2_4 a2_5 a2_6) else (regletlaw12_PagesLaid.j0 k l0 a1 t192 t195 (decide (a1 > 1073741824)) a2_0 a2_1 a2_2 a2_3 a2_4 a2_5 a2_6)) = some r := H
     have A9 := Aside0.mk A90
     clear A90
     have HC10 := Aside0.mk H
     clear H
     go_enter Try.func3, Try.ntmps3
     go_upto_region 6 with (first | ((with_reducible refine gate_dst (N := 5) rfl ?_); (try (refine gate_guard (by rfl) ?_; dsimp only)); refine box_event ?hg (N := 5) ?hd (cs := #[.int .i64 a2_0, .int .i64 a2_1, .int .i64 a2_2, .int .i64 a2_3, .int .i64 a2_4, .int .i64 a2_5, .int .i64 a2_6]) (t := 24) ?hr ?_; (case hd => rfl); (case hg => rfl); (case hr => first | (go_simp; done) | (go_simp; rfl)); intro gb190 hg w11 hbox hb; have n0_ := Aside0.mk (below_step (by repeat (first | (with_reducible first | exact HB.out | apply below_alloc | apply pw_below_drewN | apply below_drew1) | exact HB.out)) hb); have n1_ := Aside0.mk (hbox); have n2_ := Aside0.mk ((by rw [hg]; exact (below_size (by repeat (first | (with_reducible first | exact HB.out | apply below_alloc | apply pw_below_drewN | apply below_drew1) | exact HB.out))) : w.heap.size ≤ gb190)); have n3_ := Aside0.mk ((by rw [hg]; exact (below_size (by repeat (first | (with_reducible first | exact HB.out | apply below_alloc | apply pw_below_drewN | apply below_drew1) | exact HB.out))) : w.heap.size ≤ gb190)); clear HB; have HB := n0_; have BK190 := n1_; have GW190 := n2_; have GE190 := n3_; clear n0_ n1_ n2_ n3_; clear hb hbox hg) | ((with_reducible refine gate_callee (f := 10) rfl ?_); refine goesL_ (some 9) rfl rfl Try.func10 (by kernel_rfl) rfl #[] rfl (by (try simp only [List.map_toArray, List.map_cons, List.map_nil]); first | done | rfl | (simp only [List.length_drop, List.length_take]; rfl)) ?_; (with_reducible refine (regletlaw12_awake.calls k  true _ A4.out).mono ?_); rintro e w12 ⟨rfl, hb⟩; refine ⟨_, rfl, ?_⟩; have n0_ := Aside0.mk (blk_below (g := gb190) (o := .cells #[.int .i64 a2_0, .int .i64 a2_1, .int .i64 a2_2, .int .i64 a2_3, .int .i64 a2_4, .int .i64 a2_5, .int .i64 a2_6] 24 (0, 0)) (by (with_reducible repeat (first | refine blk_drewN ?_ _ | refine blk_drew ?_ | refine blk_alloc ?_ _)); exact BK190.out) hb); have n1_ := Aside0.mk (below_step (by repeat (first | (with_reducible first | exact HB.out | apply below_alloc | apply pw_below_drewN | apply below_drew1 | refine below_set ?_ GE190.out) | exact HB.out)) hb); clear BK190; clear HB; have BK190 := n0_; have HB := n1_; clear n0_ n1_; (try clear hb); (try clear hb2); (try clear hk); (try clear hi); have hcz13_0 : w12.cell? ⟨gb190, 0, none⟩ = some (.int .i64 a2_0) := (blk_cell BK190.out 0).trans rfl; have hcz13_1 : w12.cell? ⟨gb190, 1, none⟩ = some (.int .i64 a2_1) := (blk_cell BK190.out 1).trans rfl; have hcz13_2 : w12.cell? ⟨gb190, 2, none⟩ = some (.int .i64 a2_2) := (blk_cell BK190.out 2).trans rfl; have hcz13_3 : w12.cell? ⟨gb190, 3, none⟩ = some (.int .i64 a2_3) := (blk_cell BK190.out 3).trans rfl; have hcz13_4 : w12.cell? ⟨gb190, 4, none⟩ = some (.int .i64 a2_4) := (blk_cell BK190.out 4).trans rfl; have hcz13_5 : w12.cell? ⟨gb190, 5, none⟩ = some (.int .i64 a2_5) := (blk_cell BK190.out 5).trans rfl; have hcz13_6 : w12.cell? ⟨gb190, 6, none⟩ = some (.int .i64 a2_6) := (blk_cell BK190.out 6).trans rfl; have hfz13_0 := blk_frozen BK190.out 0; have hfz13_1 := blk_frozen BK190.out 1; have hfz13_2 := blk_frozen BK190.out 2; have hfz13_3 := blk_frozen BK190.out 3; have hfz13_4 := blk_frozen BK190.out 4; have hfz13_5 := blk_frozen BK190.out 5; have hfz13_6 := blk_frozen BK190.out 6) | ((with_reducible refine gate_callee (f := 11) rfl ?_); refine goesL_ (some 18) rfl rfl Try.func11 (by kernel_rfl) rfl #[.slice A0 l0.length c0, .int .i64 a1, .agg #[.int .i64 a2_0, .int .i64 a2_1, .int .i64 a2_2, .int .i64 a2_3, .int .i64 a2_4, .int .i64 a2_5, .int .i64 a2_6]] rfl (by (try simp only [List.map_toArray, List.map_cons, List.map_nil]); first | done | rfl | (simp only [List.length_drop, List.length_take]; rfl)) ?_; (with_reducible refine (pages_Paginate.calls k _ _ l0 a1 a2_0 a2_1 a2_2 a2_3 a2_4 a2_5 a2_6 t192 t195 _ ?side1 ?side2 A9.out).mono ?_); (case side1 => repeat (first | exact (Kd.C_below HR0.out HB.out) | (with_reducible refine Kd.C_alloc ?_ _) | (with_reducible refine Kd.C_drewN ?_ _) | (with_reducible refine Kd.C_drew ?_))); (case side2 => exact HC0.out); rintro e w14 ⟨v193, rfl, ho0, hb⟩; refine ⟨_, rfl, ?_⟩; have n0_ := Aside0.mk (Kd.R_lower ho0 (below_size (by repeat (first | (with_reducible first | exact HB.out | apply below_alloc | apply pw_below_drewN | apply below_drew1 | refine below_set ?_ GE190.out) | exact HB.out)))); have n1_ := Aside0.mk (blk_below (g := gb190) (o := .cells #[.int .i64 a2_0, .int .i64 a2_1, .int .i64 a2_2, .int .i64 a2_3, .int .i64 a2_4, .int .i64 a2_5, .int .i64 a2_6] 24 (0, 0)) (by (with_reducible repeat (first | refine blk_drewN ?_ _ | refine blk_drew ?_ | refine blk_alloc ?_ _)); exact BK190.out) hb); have n2_ := Aside0.mk (below_step (by repeat (first | (with_reducible first | exact HB.out | apply below_alloc | apply pw_below_drewN | apply below_drew1 | refine below_set ?_ GE190.out) | exact HB.out)) hb); clear BK190; clear HB; have HO194 := n0_; have BK190 := n1_; have HB := n2_; clear n0_ n1_ n2_; (try clear hb); (try clear hb2); (try clear hk); (try clear hi); (try clear ho0)))
     (try simp only [Act.put, List.setIfInBounds_toArray, List.set_cons_zero, List.set_cons_succ])
     go_cut [21] (fun v21 wc => ∃ (kq : Nat) (x21_9 : Bool), v21 = .bool x21_9 ∧ Aside0 (regletlaw12_PagesLaid.j0 kq l0 a1 t192 t195 x21_9 a2_0 a2_1 a2_2 a2_3 a2_4 a2_5 a2_6 = some r) ∧ Aside0 (kq ≤ k) ∧ Aside0 (Kd.R (Kd.int .i64) 3 wc w.heap.size (fun _ => True) v193 t192) ∧ Aside0 (wc.heap[gb190]? = some (.cells #[.int .i64 a2_0, .int .i64 a2_1, .int .i64 a2_2, .int .i64 a2_3, .int .i64 a2_4, .int .i64 a2_5, .int .i64 a2_6] 24 (0, 0))) ∧ Aside0 (Below w.heap.size w wc))
     case first =>
       have H := HC10.out
       clear HC10
       by_cases c15 : a1 < 1
       · rw [if_pos c15] at H
         have c15b0 : decide (a1 < 1) = true := decide_eq_true c15
         clear c15
         (first | rw [c15b0] | (simp only [i64_w, i32_w]; rw [c15b0]) | skip)
         have H' := Aside0.mk H
         clear H
         go_wp2
         go_meet
         case rel => exact ⟨_, (true), (by first | rfl | (simp; done) | (simp [*]; done)), H', ⟨by first | omega | exact Nat.le_refl _⟩, ⟨by (with_reducible repeat (first | apply Kd.R_alloc | apply Kd.R_drewN | apply Kd.R_drew)); exact HO194.out⟩, ⟨by (with_reducible repeat (first | refine blk_drewN ?_ _ | refine blk_drew ?_ | refine blk_alloc ?_ _)); exact BK190.out⟩, ⟨by repeat (first | (with_reducible first | exact HB.out | apply below_alloc | apply pw_below_drewN | apply below_drew1 | refine below_set ?_ GE190.out) | exact HB.out)⟩⟩
       · rw [if_neg c15] at H
         have c15b0 : decide (a1 < 1) = false := decide_eq_false c15
         clear c15
         (first | rw [c15b0] | (simp only [i64_w, i32_w]; rw [c15b0]) | skip)
         have H' := Aside0.mk H
         clear H
         go_wp2
         go_meet
         case rel => exact ⟨_, (decide (a1 > 1073741824)), (by first | rfl | (simp; done) | (simp [*]; done)), H', ⟨by first | omega | exact Nat.le_refl _⟩, ⟨by (with_reducible repeat (first | apply Kd.R_alloc | apply Kd.R_drewN | apply Kd.R_drew)); exact HO194.out⟩, ⟨by (with_reducible repeat (first | refine blk_drewN ?_ _ | refine blk_drew ?_ | refine blk_alloc ?_ _)); exact BK190.out⟩, ⟨by repeat (first | (with_reducible first | exact HB.out | apply below_alloc | apply pw_below_drewN | apply below_drew1 | refine below_set ?_ GE190.out) | exact HB.out)⟩⟩
     case rest =>
       clear HC10
       try clear c1
       try clear p2
       try clear c3
       try clear c5
       try clear c6
       try clear c6b0
       try clear c6b1
       try clear c10
       try clear c11
       try clear c15
       try clear c15b0
       try clear hcz13_0
       try clear hcz13_1
       try clear hcz13_2
       try clear hcz13_3
       try clear hcz13_4
       try clear hcz13_5
       try clear hcz13_6
       try clear hfz13_0
       try clear hfz13_1
       try clear hfz13_2
       try clear hfz13_3
       try clear hfz13_4
       try clear hfz13_5
       try clear hfz13_6
       obtain ⟨kq, x21_9, rfl, HA, HJ9, HO_7, BK190, HB⟩ := hcut
       cases kq with
       | zero => exact absurd HA.out (by simp [regletlaw12_PagesLaid.j0])
       | succ kj9 =>
         have H := HA.out
         clear HA
         simp only [regletlaw12_PagesLaid.j0] at H
         by_cases c16 : x21_9 = true
         · subst c16
           have H1 : (if t195 = 41 then (if (t192.length : Int) = 0 then ((pages_Check.f kj9 a1 a2_0 a2_1 a2_2 a2_3 a2_4 a2_5 a2_6).bind fun t196 => (some (t196 == 41))) else (some false)) else (some false)) = some r := by rw [if_pos rfl] at H; exact H
           clear H
           have H := H1
           clear H1
           by_cases c17 : t195 = 41
           · rw [if_pos c17] at H
             have c17b0 : (t195 == 41) = true := beq_iff_eq.mpr c17
             have c17b1 : (t195 != 41) = false := bne_eq_false_iff_eq.mpr c17
             clear c17
             by_cases c18 : (t192.length : Int) = 0
             · rw [if_pos c18] at H
               have c18b0 : ((t192.length : Int) == 0) = true := beq_iff_eq.mpr c18
               have c18b1 : ((t192.length : Int) != 0) = false := bne_eq_false_iff_eq.mpr c18
               clear c18
               replace H := Option.bind_eq_some_iff.mp H
               obtain ⟨t196, A190, H⟩ := H
               replace H : (some (t196 == 41)) = some r := H
               have A19 := Aside0.mk A190
               clear A190
               obtain rfl := Option.some.inj H
               obtain ⟨Ao20, co20, eo20⟩ := Kd.R_slice HO_7.out
               subst eo20
               have hcz21_0 : wc.cell? ⟨gb190, 0, none⟩ = some (.int .i64 a2_0) := (blk_cell BK190.out 0).trans rfl
               have hcz21_1 : wc.cell? ⟨gb190, 1, none⟩ = some (.int .i64 a2_1) := (blk_cell BK190.out 1).trans rfl
               have hcz21_2 : wc.cell? ⟨gb190, 2, none⟩ = some (.int .i64 a2_2) := (blk_cell BK190.out 2).trans rfl
               have hcz21_3 : wc.cell? ⟨gb190, 3, none⟩ = some (.int .i64 a2_3) := (blk_cell BK190.out 3).trans rfl
               have hcz21_4 : wc.cell? ⟨gb190, 4, none⟩ = some (.int .i64 a2_4) := (blk_cell BK190.out 4).trans rfl
               have hcz21_5 : wc.cell? ⟨gb190, 5, none⟩ = some (.int .i64 a2_5) := (blk_cell BK190.out 5).trans rfl
               have hcz21_6 : wc.cell? ⟨gb190, 6, none⟩ = some (.int .i64 a2_6) := (blk_cell BK190.out 6).trans rfl
               have hfz21_0 := blk_frozen BK190.out 0
               have hfz21_1 := blk_frozen BK190.out 1
               have hfz21_2 := blk_frozen BK190.out 2
               have hfz21_3 := blk_frozen BK190.out 3
               have hfz21_4 := blk_frozen BK190.out 4
               have hfz21_5 := blk_frozen BK190.out 5
               have hfz21_6 := blk_frozen BK190.out 6
               go_wp2_with (first | (go_at_call 12; (with_reducible refine (pages_Check.calls kj9 a1 a2_0 a2_1 a2_2 a2_3 a2_4 a2_5 a2_6 t196 _ A19.out).mono ?_); rintro e w22 ⟨rfl, hb⟩; have n0_ := Aside0.mk (Kd.R_below (by (with_reducible repeat (first | apply Kd.R_alloc | apply Kd.R_drewN | apply Kd.R_drew)); exact HO_7.out) hb); have n1_ := Aside0.mk (blk_below (g := gb190) (o := .cells #[.int .i64 a2_0, .int .i64 a2_1, .int .i64 a2_2, .int .i64 a2_3, .int .i64 a2_4, .int .i64 a2_5, .int .i64 a2_6] 24 (0, 0)) (by (with_reducible repeat (first | refine blk_drewN ?_ _ | refine blk_drew ?_ | refine blk_alloc ?_ _)); exact BK190.out) hb); have n2_ := Aside0.mk (below_step (by repeat (first | (with_reducible first | exact HB.out | apply below_alloc | apply pw_below_drewN | apply below_drew1 | refine below_set ?_ GE190.out) | exact HB.out)) hb); clear HO_7; clear BK190; clear HB; have HO_7 := n0_; have BK190 := n1_; have HB := n2_; clear n0_ n1_ n2_; (try clear hb); (try clear hb2); (try clear hk); (try clear hi)))
               go_ret
               exact ⟨by first | rfl | (simp [errW_none, errW_some] <;> rfl) | (simp [*, errW_none, errW_some] <;> rfl), by repeat (first | (with_reducible first | exact HB.out | apply below_alloc | apply pw_below_drewN | apply below_drew1 | refine below_set ?_ GE190.out) | exact HB.out)⟩
             · rw [if_neg c18] at H
               have c18b0 : ((t192.length : Int) == 0) = false := beq_eq_false_iff_ne.mpr c18
               have c18b1 : ((t192.length : Int) != 0) = true := bne_iff_ne.mpr c18
               have c18b2 : ¬ (t192 = []) := fun h_ => c18 (by rw [h_]; rfl)
               obtain rfl := Option.some.inj H
               obtain ⟨Ao23, co23, eo23⟩ := Kd.R_slice HO_7.out
               subst eo23
               go_wp2
               go_ret
               exact ⟨by first | rfl | (simp [errW_none, errW_some] <;> rfl) | (simp [*, errW_none, errW_some] <;> rfl), by repeat (first | (with_reducible first | exact HB.out | apply below_alloc | apply pw_below_drewN | apply below_drew1 | refine below_set ?_ GE190.out) | exact HB.out)⟩
           · rw [if_neg c17] at H
             have c17b0 : (t195 == 41) = false := beq_eq_false_iff_ne.mpr c17
             have c17b1 : (t195 != 41) = true := bne_iff_ne.mpr c17
             obtain rfl := Option.some.inj H
             go_wp2
             go_ret
             exact ⟨by first | rfl | (simp [errW_none, errW_some] <;> rfl) | (simp [*, errW_none, errW_some] <;> rfl), by repeat (first | (with_reducible first | exact HB.out | apply below_alloc | apply pw_below_drewN | apply below_drew1 | refine below_set ?_ GE190.out) | exact HB.out)⟩
         · replace c16 := Bool.eq_false_iff.mpr c16
           subst c16
           have H1 : ((regletref12_Check.f kj9 a1 a2_0 a2_1 a2_2 a2_3 a2_4 a2_5 a2_6).bind fun t197 => (if t197 = true then ((regletref12_Right.f kj9 l0).bind fun t198 => (if t198 = true then (if t195 = 0 then ((pages_Right.f kj9 l0).bind fun t199 => (if t199 = 0 then ((regletref12_Paginate.f kj9 l0 a1 a2_0 a2_1 a2_2 a2_3 a2_4 a2_5 a2_6).bind fun t200 => ((regletref12_Same.f kj9 t192 t200).bind fun t203 => (some t203))) else (some false))) else (some false)) else (if t195 = 1 then (if (t192.length : Int) = 0 then ((pages_Right.f kj9 l0).bind fun t204 => (some (t204 == 1))) else (some false)) else (some false)))) else (if t195 = 80 then (if (t192.length : Int) = 0 then ((pages_Check.f kj9 a1 a2_0 a2_1 a2_2 a2_3 a2_4 a2_5 a2_6).bind fun t205 => (some (t205 == 80))) else (some false)) else (some false)))) = some r := by rw [if_neg (show ¬ (false = true) by decide)] at H; exact H
           clear H
           have H := H1
           clear H1
           replace H := Option.bind_eq_some_iff.mp H
           obtain ⟨t197, A240, H⟩ := H
           replace H : (if t197 = true then ((regletref12_Right.f kj9 l0).bind fun t198 => (if t198 = true then (if t195 = 0 then ((pages_Right.f kj9 l0).bind fun t199 => (if t199 = 0 then ((regletref12_Paginate.f kj9 l0 a1 a2_0 a2_1 a2_2 a2_3 a2_4 a2_5 a2_6).bind fun t200 => ((regletref12_Same.f kj9 t192 t200).bind fun t203 => (some t203))) else (some false))) else (some false)) else (if t195 = 1 then (if (t192.length : Int) = 0 then ((pages_Right.f kj9 l0).bind fun t204 => (some (t204 == 1))) else (some false)) else (some false)))) else (if t195 = 80 then (if (t192.length : Int) = 0 then ((pages_Check.f kj9 a1 a2_0 a2_1 a2_2 a2_3 a2_4 a2_5 a2_6).bind fun t205 => (some (t205 == 80))) else (some false)) else (some false))) = some r := H
           have A24 := Aside0.mk A240
           clear A240
           by_cases c25 : t197 = true
           · subst c25
             have H1 : ((regletref12_Right.f kj9 l0).bind fun t198 => (if t198 = true then (if t195 = 0 then ((pages_Right.f kj9 l0).bind fun t199 => (if t199 = 0 then ((regletref12_Paginate.f kj9 l0 a1 a2_0 a2_1 a2_2 a2_3 a2_4 a2_5 a2_6).bind fun t200 => ((regletref12_Same.f kj9 t192 t200).bind fun t203 => (some t203))) else (some false))) else (some false)) else (if t195 = 1 then (if (t192.length : Int) = 0 then ((pages_Right.f kj9 l0).bind fun t204 => (some (t204 == 1))) else (some false)) else (some false)))) = some r := by rw [if_pos rfl] at H; exact H
             clear H
             have H := H1
             clear H1
             replace H := Option.bind_eq_some_iff.mp H
             obtain ⟨t198, A260, H⟩ := H
             replace H : (if t198 = true then (if t195 = 0 then ((pages_Right.f kj9 l0).bind fun t199 => (if t199 = 0 then ((regletref12_Paginate.f kj9 l0 a1 a2_0 a2_1 a2_2 a2_3 a2_4 a2_5 a2_6).bind fun t200 => ((regletref12_Same.f kj9 t192 t200).bind fun t203 => (some t203))) else (some false))) else (some false)) else (if t195 = 1 then (if (t192.length : Int) = 0 then ((pages_Right.f kj9 l0).bind fun t204 => (some (t204 == 1))) else (some false)) else (some false))) = some r := H
             have A26 := Aside0.mk A260
             clear A260
             by_cases c27 : t198 = true
             · subst c27
               have H1 : (if t195 = 0 then ((pages_Right.f kj9 l0).bind fun t199 => (if t199 = 0 then ((regletref12_Paginate.f kj9 l0 a1 a2_0 a2_1 a2_2 a2_3 a2_4 a2_5 a2_6).bind fun t200 => ((regletref12_Same.f kj9 t192 t200).bind fun t203 => (some t203))) else (some false))) else (some false)) = some r := by rw [if_pos rfl] at H; exact H
               clear H
               have H := H1
               clear H1
               by_cases c28 : t195 = 0
               · rw [if_pos c28] at H
                 have c28b0 : (t195 == 0) = true := beq_iff_eq.mpr c28
                 have c28b1 : (t195 != 0) = false := bne_eq_false_iff_eq.mpr c28
                 clear c28
                 replace H := Option.bind_eq_some_iff.mp H
                 obtain ⟨t199, A290, H⟩ := H
                 replace H : (if t199 = 0 then ((regletref12_Paginate.f kj9 l0 a1 a2_0 a2_1 a2_2 a2_3 a2_4 a2_5 a2_6).bind fun t200 => ((regletref12_Same.f kj9 t192 t200).bind fun t203 => (some t203))) else (some false)) = some r := H
                 have A29 := Aside0.mk A290
                 clear A290
                 by_cases c30 : t199 = 0
                 · rw [if_pos c30] at H
                   have c30b0 : (t199 == 0) = true := beq_iff_eq.mpr c30
                   have c30b1 : (t199 != 0) = false := bne_eq_false_iff_eq.mpr c30
                   clear c30
                   replace H := Option.bind_eq_some_iff.mp H
                   obtain ⟨t200, A310, H⟩ := H
                   replace H : ((regletref12_Same.f kj9 t192 t200).bind fun t203 => (some t203)) = some r := H
                   have A31 := Aside0.mk A310
                   clear A310
                   replace H := Option.bind_eq_some_iff.mp H
                   obtain ⟨t203, A320, H⟩ := H
                   replace H : (some t203) = some r := H
                   have A32 := Aside0.mk A320
                   clear A320
                   obtain rfl := Option.some.inj H
                   have hcz33_0 : wc.cell? ⟨gb190, 0, none⟩ = some (.int .i64 a2_0) := (blk_cell BK190.out 0).trans rfl
                   have hcz33_1 : wc.cell? ⟨gb190, 1, none⟩ = some (.int .i64 a2_1) := (blk_cell BK190.out 1).trans rfl
                   have hcz33_2 : wc.cell? ⟨gb190, 2, none⟩ = some (.int .i64 a2_2) := (blk_cell BK190.out 2).trans rfl
                   have hcz33_3 : wc.cell? ⟨gb190, 3, none⟩ = some (.int .i64 a2_3) := (blk_cell BK190.out 3).trans rfl
                   have hcz33_4 : wc.cell? ⟨gb190, 4, none⟩ = some (.int .i64 a2_4) := (blk_cell BK190.out 4).trans rfl
                   have hcz33_5 : wc.cell? ⟨gb190, 5, none⟩ = some (.int .i64 a2_5) := (blk_cell BK190.out 5).trans rfl
                   have hcz33_6 : wc.cell? ⟨gb190, 6, none⟩ = some (.int .i64 a2_6) := (blk_cell BK190.out 6).trans rfl
                   have hfz33_0 := blk_frozen BK190.out 0
                   have hfz33_1 := blk_frozen BK190.out 1
                   have hfz33_2 := blk_frozen BK190.out 2
                   have hfz33_3 := blk_frozen BK190.out 3
                   have hfz33_4 := blk_frozen BK190.out 4
                   have hfz33_5 := blk_frozen BK190.out 5
                   have hfz33_6 := blk_frozen BK190.out 6
                   go_wp2_with (first | ((with_reducible refine gate_callee (f := 13) rfl ?_); refine goesL_ (some 44) rfl rfl Try.func13 (by kernel_rfl) rfl #[.int .i64 a1, .agg #[.int .i64 a2_0, .int .i64 a2_1, .int .i64 a2_2, .int .i64 a2_3, .int .i64 a2_4, .int .i64 a2_5, .int .i64 a2_6]] rfl (by (try simp only [List.map_toArray, List.map_cons, List.map_nil]); first | done | rfl | (simp only [List.length_drop, List.length_take]; rfl)) ?_; (with_reducible refine (regletref12_Check.calls kj9 a1 a2_0 a2_1 a2_2 a2_3 a2_4 a2_5 a2_6 true _ A24.out).mono ?_); rintro e w34 ⟨rfl, hb⟩; refine ⟨_, rfl, ?_⟩; have n0_ := Aside0.mk (Kd.R_below (by (with_reducible repeat (first | apply Kd.R_alloc | apply Kd.R_drewN | apply Kd.R_drew)); exact HO_7.out) hb); have n1_ := Aside0.mk (blk_below (g := gb190) (o := .cells #[.int .i64 a2_0, .int .i64 a2_1, .int .i64 a2_2, .int .i64 a2_3, .int .i64 a2_4, .int .i64 a2_5, .int .i64 a2_6] 24 (0, 0)) (by (with_reducible repeat (first | refine blk_drewN ?_ _ | refine blk_drew ?_ | refine blk_alloc ?_ _)); exact BK190.out) hb); have n2_ := Aside0.mk (below_step (by repeat (first | (with_reducible first | exact HB.out | apply below_alloc | apply pw_below_drewN | apply below_drew1 | refine below_set ?_ GE190.out) | exact HB.out)) hb); clear HO_7; clear BK190; clear HB; have HO_7 := n0_; have BK190 := n1_; have HB := n2_; clear n0_ n1_ n2_; (try clear hb); (try clear hb2); (try clear hk); (try clear hi)) | ((with_reducible refine gate_callee (f := 14) rfl ?_); refine goesL_ (some 61) rfl rfl Try.func14 (by kernel_rfl) rfl #[.slice A0 l0.length c0] rfl (by (try simp only [List.map_toArray, List.map_cons, List.map_nil]); first | done | rfl | (simp only [List.length_drop, List.length_take]; rfl)) ?_; (with_reducible refine (regletref12_Right.calls kj9 _ _ l0 true _ ?side1 ?side2 A26.out).mono ?_); (case side1 => repeat (first | exact (Kd.C_below HR0.out HB.out) | (with_reducible refine Kd.C_alloc ?_ _) | (with_reducible refine Kd.C_drewN ?_ _) | (with_reducible refine Kd.C_drew ?_))); (case side2 => exact HC0.out); rintro e w35 ⟨rfl, hb⟩; refine ⟨_, rfl, ?_⟩; have n0_ := Aside0.mk (Kd.R_below (by (with_reducible repeat (first | apply Kd.R_alloc | apply Kd.R_drewN | apply Kd.R_drew)); exact HO_7.out) hb); have n1_ := Aside0.mk (blk_below (g := gb190) (o := .cells #[.int .i64 a2_0, .int .i64 a2_1, .int .i64 a2_2, .int .i64 a2_3, .int .i64 a2_4, .int .i64 a2_5, .int .i64 a2_6] 24 (0, 0)) (by (with_reducible repeat (first | refine blk_drewN ?_ _ | refine blk_drew ?_ | refine blk_alloc ?_ _)); exact BK190.out) hb); have n2_ := Aside0.mk (below_step (by repeat (first | (with_reducible first | exact HB.out | apply below_alloc | apply pw_below_drewN | apply below_drew1 | refine below_set ?_ GE190.out) | exact HB.out)) hb); clear HO_7; clear BK190; clear HB; have HO_7 := n0_; have BK190 := n1_; have HB := n2_; clear n0_ n1_ n2_; (try clear hb); (try clear hb2); (try clear hk); (try clear hi)) | (go_at_call 15; (with_reducible refine (pages_Right.calls kj9 _ _ l0 t199 _ ?side1 ?side2 A29.out).mono ?_); (case side1 => repeat (first | exact (Kd.C_below HR0.out HB.out) | (with_reducible refine Kd.C_alloc ?_ _) | (with_reducible refine Kd.C_drewN ?_ _) | (with_reducible refine Kd.C_drew ?_))); (case side2 => exact HC0.out); rintro e w36 ⟨rfl, hb⟩; have n0_ := Aside0.mk (Kd.R_below (by (with_reducible repeat (first | apply Kd.R_alloc | apply Kd.R_drewN | apply Kd.R_drew)); exact HO_7.out) hb); have n1_ := Aside0.mk (blk_below (g := gb190) (o := .cells #[.int .i64 a2_0, .int .i64 a2_1, .int .i64 a2_2, .int .i64 a2_3, .int .i64 a2_4, .int .i64 a2_5, .int .i64 a2_6] 24 (0, 0)) (by (with_reducible repeat (first | refine blk_drewN ?_ _ | refine blk_drew ?_ | refine blk_alloc ?_ _)); exact BK190.out) hb); have n2_ := Aside0.mk (below_step (by repeat (first | (with_reducible first | exact HB.out | apply below_alloc | apply pw_below_drewN | apply below_drew1 | refine below_set ?_ GE190.out) | exact HB.out)) hb); clear HO_7; clear BK190; clear HB; have HO_7 := n0_; have BK190 := n1_; have HB := n2_; clear n0_ n1_ n2_; (try clear hb); (try clear hb2); (try clear hk); (try clear hi); have hcz37_0 : w36.cell? ⟨gb190, 0, none⟩ = some (.int .i64 a2_0) := (blk_cell BK190.out 0).trans rfl; have hcz37_1 : w36.cell? ⟨gb190, 1, none⟩ = some (.int .i64 a2_1) := (blk_cell BK190.out 1).trans rfl; have hcz37_2 : w36.cell? ⟨gb190, 2, none⟩ = some (.int .i64 a2_2) := (blk_cell BK190.out 2).trans rfl; have hcz37_3 : w36.cell? ⟨gb190, 3, none⟩ = some (.int .i64 a2_3) := (blk_cell BK190.out 3).trans rfl; have hcz37_4 : w36.cell? ⟨gb190, 4, none⟩ = some (.int .i64 a2_4) := (blk_cell BK190.out 4).trans rfl; have hcz37_5 : w36.cell? ⟨gb190, 5, none⟩ = some (.int .i64 a2_5) := (blk_cell BK190.out 5).trans rfl; have hcz37_6 : w36.cell? ⟨gb190, 6, none⟩ = some (.int .i64 a2_6) := (blk_cell BK190.out 6).trans rfl; have hfz37_0 := blk_frozen BK190.out 0; have hfz37_1 := blk_frozen BK190.out 1; have hfz37_2 := blk_frozen BK190.out 2; have hfz37_3 := blk_frozen BK190.out 3; have hfz37_4 := blk_frozen BK190.out 4; have hfz37_5 := blk_frozen BK190.out 5; have hfz37_6 := blk_frozen BK190.out 6) | (go_at_call 17; (with_reducible refine (regletref12_Paginate.calls kj9 _ _ l0 a1 a2_0 a2_1 a2_2 a2_3 a2_4 a2_5 a2_6 t200 _ ?side1 ?side2 A31.out).mono ?_); (case side1 => repeat (first | exact (Kd.C_below HR0.out HB.out) | (with_reducible refine Kd.C_alloc ?_ _) | (with_reducible refine Kd.C_drewN ?_ _) | (with_reducible refine Kd.C_drew ?_))); (case side2 => exact HC0.out); rintro e w38 ⟨v201, rfl, ho0, hb⟩; have n0_ := Aside0.mk (Kd.R_elder' (by (with_reducible repeat (first | apply Kd.R_alloc | apply Kd.R_drewN | apply Kd.R_drew)); exact HO_7.out) (Kd.R_base ho0) hb); have n1_ := Aside0.mk (Kd.R_lower (Kd.R_new' ho0 (Kd.R_lt (by (with_reducible repeat (first | apply Kd.R_alloc | apply Kd.R_drewN | apply Kd.R_drew)); exact HO_7.out))) (below_size (by repeat (first | (with_reducible first | exact HB.out | apply below_alloc | apply pw_below_drewN | apply below_drew1 | refine below_set ?_ GE190.out) | exact HB.out)))); have n2_ := Aside0.mk (blk_below (g := gb190) (o := .cells #[.int .i64 a2_0, .int .i64 a2_1, .int .i64 a2_2, .int .i64 a2_3, .int .i64 a2_4, .int .i64 a2_5, .int .i64 a2_6] 24 (0, 0)) (by (with_reducible repeat (first | refine blk_drewN ?_ _ | refine blk_drew ?_ | refine blk_alloc ?_ _)); exact BK190.out) hb); have n3_ := Aside0.mk (below_step (by repeat (first | (with_reducible first | exact HB.out | apply below_alloc | apply pw_below_drewN | apply below_drew1 | refine below_set ?_ GE190.out) | exact HB.out)) hb); clear HO_7; clear BK190; clear HB; have HO_7 := n0_; have HO202 := n1_; have BK190 := n2_; have HB := n3_; clear n0_ n1_ n2_ n3_; (try clear hb); (try clear hb2); (try clear hk); (try clear hi); (try clear ho0); obtain ⟨Ao39, co39, eo39⟩ := Kd.R_slice HO_7.out; subst eo39; obtain ⟨Ao40, co40, eo40⟩ := Kd.R_slice HO202.out; subst eo40) | (go_at_call 16; (with_reducible refine (regletref12_Same.calls kj9 _ _ t192 _ _ t200 t203 _ ?side1 ?side2 ?side3 ?side4 A32.out).mono ?_); (case side1 => repeat (first | exact (Kd.R_reads' HO_7.out).2.2 | (with_reducible refine Kd.C_alloc ?_ _) | (with_reducible refine Kd.C_drewN ?_ _) | (with_reducible refine Kd.C_drew ?_))); (case side2 => exact (Kd.R_reads' HO_7.out).2.1); (case side3 => repeat (first | exact (Kd.R_reads' HO202.out).2.2 | (with_reducible refine Kd.C_alloc ?_ _) | (with_reducible refine Kd.C_drewN ?_ _) | (with_reducible refine Kd.C_drew ?_))); (case side4 => exact (Kd.R_reads' HO202.out).2.1); rintro e w' ⟨rfl, ⟨nd, rfl⟩⟩))
                   go_ret
                   exact ⟨by first | rfl | (simp [errW_none, errW_some] <;> rfl) | (simp [*, errW_none, errW_some] <;> rfl), by repeat (first | (with_reducible first | exact HB.out | apply below_alloc | apply pw_below_drewN | apply below_drew1 | refine below_set ?_ GE190.out) | exact HB.out)⟩
                 · rw [if_neg c30] at H
                   have c30b0 : (t199 == 0) = false := beq_eq_false_iff_ne.mpr c30
                   have c30b1 : (t199 != 0) = true := bne_iff_ne.mpr c30
                   obtain rfl := Option.some.inj H
                   have hcz41_0 : wc.cell? ⟨gb190, 0, none⟩ = some (.int .i64 a2_0) := (blk_cell BK190.out 0).trans rfl
                   have hcz41_1 : wc.cell? ⟨gb190, 1, none⟩ = some (.int .i64 a2_1) := (blk_cell BK190.out 1).trans rfl
                   have hcz41_2 : wc.cell? ⟨gb190, 2, none⟩ = some (.int .i64 a2_2) := (blk_cell BK190.out 2).trans rfl
                   have hcz41_3 : wc.cell? ⟨gb190, 3, none⟩ = some (.int .i64 a2_3) := (blk_cell BK190.out 3).trans rfl
                   have hcz41_4 : wc.cell? ⟨gb190, 4, none⟩ = some (.int .i64 a2_4) := (blk_cell BK190.out 4).trans rfl
                   have hcz41_5 : wc.cell? ⟨gb190, 5, none⟩ = some (.int .i64 a2_5) := (blk_cell BK190.out 5).trans rfl
                   have hcz41_6 : wc.cell? ⟨gb190, 6, none⟩ = some (.int .i64 a2_6) := (blk_cell BK190.out 6).trans rfl
                   have hfz41_0 := blk_frozen BK190.out 0
                   have hfz41_1 := blk_frozen BK190.out 1
                   have hfz41_2 := blk_frozen BK190.out 2
                   have hfz41_3 := blk_frozen BK190.out 3
                   have hfz41_4 := blk_frozen BK190.out 4
                   have hfz41_5 := blk_frozen BK190.out 5
                   have hfz41_6 := blk_frozen BK190.out 6
                   go_wp2_with (first | ((with_reducible refine gate_callee (f := 13) rfl ?_); refine goesL_ (some 44) rfl rfl Try.func13 (by kernel_rfl) rfl #[.int .i64 a1, .agg #[.int .i64 a2_0, .int .i64 a2_1, .int .i64 a2_2, .int .i64 a2_3, .int .i64 a2_4, .int .i64 a2_5, .int .i64 a2_6]] rfl (by (try simp only [List.map_toArray, List.map_cons, List.map_nil]); first | done | rfl | (simp only [List.length_drop, List.length_take]; rfl)) ?_; (with_reducible refine (regletref12_Check.calls kj9 a1 a2_0 a2_1 a2_2 a2_3 a2_4 a2_5 a2_6 true _ A24.out).mono ?_); rintro e w42 ⟨rfl, hb⟩; refine ⟨_, rfl, ?_⟩; have n0_ := Aside0.mk (Kd.R_below (by (with_reducible repeat (first | apply Kd.R_alloc | apply Kd.R_drewN | apply Kd.R_drew)); exact HO_7.out) hb); have n1_ := Aside0.mk (blk_below (g := gb190) (o := .cells #[.int .i64 a2_0, .int .i64 a2_1, .int .i64 a2_2, .int .i64 a2_3, .int .i64 a2_4, .int .i64 a2_5, .int .i64 a2_6] 24 (0, 0)) (by (with_reducible repeat (first | refine blk_drewN ?_ _ | refine blk_drew ?_ | refine blk_alloc ?_ _)); exact BK190.out) hb); have n2_ := Aside0.mk (below_step (by repeat (first | (with_reducible first | exact HB.out | apply below_alloc | apply pw_below_drewN | apply below_drew1 | refine below_set ?_ GE190.out) | exact HB.out)) hb); clear HO_7; clear BK190; clear HB; have HO_7 := n0_; have BK190 := n1_; have HB := n2_; clear n0_ n1_ n2_; (try clear hb); (try clear hb2); (try clear hk); (try clear hi)) | ((with_reducible refine gate_callee (f := 14) rfl ?_); refine goesL_ (some 61) rfl rfl Try.func14 (by kernel_rfl) rfl #[.slice A0 l0.length c0] rfl (by (try simp only [List.map_toArray, List.map_cons, List.map_nil]); first | done | rfl | (simp only [List.length_drop, List.length_take]; rfl)) ?_; (with_reducible refine (regletref12_Right.calls kj9 _ _ l0 true _ ?side1 ?side2 A26.out).mono ?_); (case side1 => repeat (first | exact (Kd.C_below HR0.out HB.out) | (with_reducible refine Kd.C_alloc ?_ _) | (with_reducible refine Kd.C_drewN ?_ _) | (with_reducible refine Kd.C_drew ?_))); (case side2 => exact HC0.out); rintro e w43 ⟨rfl, hb⟩; refine ⟨_, rfl, ?_⟩; have n0_ := Aside0.mk (Kd.R_below (by (with_reducible repeat (first | apply Kd.R_alloc | apply Kd.R_drewN | apply Kd.R_drew)); exact HO_7.out) hb); have n1_ := Aside0.mk (blk_below (g := gb190) (o := .cells #[.int .i64 a2_0, .int .i64 a2_1, .int .i64 a2_2, .int .i64 a2_3, .int .i64 a2_4, .int .i64 a2_5, .int .i64 a2_6] 24 (0, 0)) (by (with_reducible repeat (first | refine blk_drewN ?_ _ | refine blk_drew ?_ | refine blk_alloc ?_ _)); exact BK190.out) hb); have n2_ := Aside0.mk (below_step (by repeat (first | (with_reducible first | exact HB.out | apply below_alloc | apply pw_below_drewN | apply below_drew1 | refine below_set ?_ GE190.out) | exact HB.out)) hb); clear HO_7; clear BK190; clear HB; have HO_7 := n0_; have BK190 := n1_; have HB := n2_; clear n0_ n1_ n2_; (try clear hb); (try clear hb2); (try clear hk); (try clear hi)) | (go_at_call 15; (with_reducible refine (pages_Right.calls kj9 _ _ l0 t199 _ ?side1 ?side2 A29.out).mono ?_); (case side1 => repeat (first | exact (Kd.C_below HR0.out HB.out) | (with_reducible refine Kd.C_alloc ?_ _) | (with_reducible refine Kd.C_drewN ?_ _) | (with_reducible refine Kd.C_drew ?_))); (case side2 => exact HC0.out); rintro e w44 ⟨rfl, hb⟩; have n0_ := Aside0.mk (Kd.R_below (by (with_reducible repeat (first | apply Kd.R_alloc | apply Kd.R_drewN | apply Kd.R_drew)); exact HO_7.out) hb); have n1_ := Aside0.mk (blk_below (g := gb190) (o := .cells #[.int .i64 a2_0, .int .i64 a2_1, .int .i64 a2_2, .int .i64 a2_3, .int .i64 a2_4, .int .i64 a2_5, .int .i64 a2_6] 24 (0, 0)) (by (with_reducible repeat (first | refine blk_drewN ?_ _ | refine blk_drew ?_ | refine blk_alloc ?_ _)); exact BK190.out) hb); have n2_ := Aside0.mk (below_step (by repeat (first | (with_reducible first | exact HB.out | apply below_alloc | apply pw_below_drewN | apply below_drew1 | refine below_set ?_ GE190.out) | exact HB.out)) hb); clear HO_7; clear BK190; clear HB; have HO_7 := n0_; have BK190 := n1_; have HB := n2_; clear n0_ n1_ n2_; (try clear hb); (try clear hb2); (try clear hk); (try clear hi)))
                   go_ret
                   exact ⟨by first | rfl | (simp [errW_none, errW_some] <;> rfl) | (simp [*, errW_none, errW_some] <;> rfl), by repeat (first | (with_reducible first | exact HB.out | apply below_alloc | apply pw_below_drewN | apply below_drew1 | refine below_set ?_ GE190.out) | exact HB.out)⟩
               · rw [if_neg c28] at H
                 have c28b0 : (t195 == 0) = false := beq_eq_false_iff_ne.mpr c28
                 have c28b1 : (t195 != 0) = true := bne_iff_ne.mpr c28
                 obtain rfl := Option.some.inj H
                 have hcz45_0 : wc.cell? ⟨gb190, 0, none⟩ = some (.int .i64 a2_0) := (blk_cell BK190.out 0).trans rfl
                 have hcz45_1 : wc.cell? ⟨gb190, 1, none⟩ = some (.int .i64 a2_1) := (blk_cell BK190.out 1).trans rfl
                 have hcz45_2 : wc.cell? ⟨gb190, 2, none⟩ = some (.int .i64 a2_2) := (blk_cell BK190.out 2).trans rfl
                 have hcz45_3 : wc.cell? ⟨gb190, 3, none⟩ = some (.int .i64 a2_3) := (blk_cell BK190.out 3).trans rfl
                 have hcz45_4 : wc.cell? ⟨gb190, 4, none⟩ = some (.int .i64 a2_4) := (blk_cell BK190.out 4).trans rfl
                 have hcz45_5 : wc.cell? ⟨gb190, 5, none⟩ = some (.int .i64 a2_5) := (blk_cell BK190.out 5).trans rfl
                 have hcz45_6 : wc.cell? ⟨gb190, 6, none⟩ = some (.int .i64 a2_6) := (blk_cell BK190.out 6).trans rfl
                 have hfz45_0 := blk_frozen BK190.out 0
                 have hfz45_1 := blk_frozen BK190.out 1
                 have hfz45_2 := blk_frozen BK190.out 2
                 have hfz45_3 := blk_frozen BK190.out 3
                 have hfz45_4 := blk_frozen BK190.out 4
                 have hfz45_5 := blk_frozen BK190.out 5
                 have hfz45_6 := blk_frozen BK190.out 6
                 go_wp2_with (first | ((with_reducible refine gate_callee (f := 13) rfl ?_); refine goesL_ (some 44) rfl rfl Try.func13 (by kernel_rfl) rfl #[.int .i64 a1, .agg #[.int .i64 a2_0, .int .i64 a2_1, .int .i64 a2_2, .int .i64 a2_3, .int .i64 a2_4, .int .i64 a2_5, .int .i64 a2_6]] rfl (by (try simp only [List.map_toArray, List.map_cons, List.map_nil]); first | done | rfl | (simp only [List.length_drop, List.length_take]; rfl)) ?_; (with_reducible refine (regletref12_Check.calls kj9 a1 a2_0 a2_1 a2_2 a2_3 a2_4 a2_5 a2_6 true _ A24.out).mono ?_); rintro e w46 ⟨rfl, hb⟩; refine ⟨_, rfl, ?_⟩; have n0_ := Aside0.mk (Kd.R_below (by (with_reducible repeat (first | apply Kd.R_alloc | apply Kd.R_drewN | apply Kd.R_drew)); exact HO_7.out) hb); have n1_ := Aside0.mk (blk_below (g := gb190) (o := .cells #[.int .i64 a2_0, .int .i64 a2_1, .int .i64 a2_2, .int .i64 a2_3, .int .i64 a2_4, .int .i64 a2_5, .int .i64 a2_6] 24 (0, 0)) (by (with_reducible repeat (first | refine blk_drewN ?_ _ | refine blk_drew ?_ | refine blk_alloc ?_ _)); exact BK190.out) hb); have n2_ := Aside0.mk (below_step (by repeat (first | (with_reducible first | exact HB.out | apply below_alloc | apply pw_below_drewN | apply below_drew1 | refine below_set ?_ GE190.out) | exact HB.out)) hb); clear HO_7; clear BK190; clear HB; have HO_7 := n0_; have BK190 := n1_; have HB := n2_; clear n0_ n1_ n2_; (try clear hb); (try clear hb2); (try clear hk); (try clear hi)) | ((with_reducible refine gate_callee (f := 14) rfl ?_); refine goesL_ (some 61) rfl rfl Try.func14 (by kernel_rfl) rfl #[.slice A0 l0.length c0] rfl (by (try simp only [List.map_toArray, List.map_cons, List.map_nil]); first | done | rfl | (simp only [List.length_drop, List.length_take]; rfl)) ?_; (with_reducible refine (regletref12_Right.calls kj9 _ _ l0 true _ ?side1 ?side2 A26.out).mono ?_); (case side1 => repeat (first | exact (Kd.C_below HR0.out HB.out) | (with_reducible refine Kd.C_alloc ?_ _) | (with_reducible refine Kd.C_drewN ?_ _) | (with_reducible refine Kd.C_drew ?_))); (case side2 => exact HC0.out); rintro e w47 ⟨rfl, hb⟩; refine ⟨_, rfl, ?_⟩; have n0_ := Aside0.mk (Kd.R_below (by (with_reducible repeat (first | apply Kd.R_alloc | apply Kd.R_drewN | apply Kd.R_drew)); exact HO_7.out) hb); have n1_ := Aside0.mk (blk_below (g := gb190) (o := .cells #[.int .i64 a2_0, .int .i64 a2_1, .int .i64 a2_2, .int .i64 a2_3, .int .i64 a2_4, .int .i64 a2_5, .int .i64 a2_6] 24 (0, 0)) (by (with_reducible repeat (first | refine blk_drewN ?_ _ | refine blk_drew ?_ | refine blk_alloc ?_ _)); exact BK190.out) hb); have n2_ := Aside0.mk (below_step (by repeat (first | (with_reducible first | exact HB.out | apply below_alloc | apply pw_below_drewN | apply below_drew1 | refine below_set ?_ GE190.out) | exact HB.out)) hb); clear HO_7; clear BK190; clear HB; have HO_7 := n0_; have BK190 := n1_; have HB := n2_; clear n0_ n1_ n2_; (try clear hb); (try clear hb2); (try clear hk); (try clear hi)))
                 go_ret
                 exact ⟨by first | rfl | (simp [errW_none, errW_some] <;> rfl) | (simp [*, errW_none, errW_some] <;> rfl), by repeat (first | (with_reducible first | exact HB.out | apply below_alloc | apply pw_below_drewN | apply below_drew1 | refine below_set ?_ GE190.out) | exact HB.out)⟩
             · replace c27 := Bool.eq_false_iff.mpr c27
               subst c27
               have H1 : (if t195 = 1 then (if (t192.length : Int) = 0 then ((pages_Right.f kj9 l0).bind fun t204 => (some (t204 == 1))) else (some false)) else (some false)) = some r := by rw [if_neg (show ¬ (false = true) by decide)] at H; exact H
               clear H
               have H := H1
               clear H1
               by_cases c48 : t195 = 1
               · rw [if_pos c48] at H
                 have c48b0 : (t195 == 1) = true := beq_iff_eq.mpr c48
                 have c48b1 : (t195 != 1) = false := bne_eq_false_iff_eq.mpr c48
                 clear c48
                 by_cases c49 : (t192.length : Int) = 0
                 · rw [if_pos c49] at H
                   have c49b0 : ((t192.length : Int) == 0) = true := beq_iff_eq.mpr c49
                   have c49b1 : ((t192.length : Int) != 0) = false := bne_eq_false_iff_eq.mpr c49
                   clear c49
                   replace H := Option.bind_eq_some_iff.mp H
                   obtain ⟨t204, A500, H⟩ := H
                   replace H : (some (t204 == 1)) = some r := H
                   have A50 := Aside0.mk A500
                   clear A500
                   obtain rfl := Option.some.inj H
                   have hcz51_0 : wc.cell? ⟨gb190, 0, none⟩ = some (.int .i64 a2_0) := (blk_cell BK190.out 0).trans rfl
                   have hcz51_1 : wc.cell? ⟨gb190, 1, none⟩ = some (.int .i64 a2_1) := (blk_cell BK190.out 1).trans rfl
                   have hcz51_2 : wc.cell? ⟨gb190, 2, none⟩ = some (.int .i64 a2_2) := (blk_cell BK190.out 2).trans rfl
                   have hcz51_3 : wc.cell? ⟨gb190, 3, none⟩ = some (.int .i64 a2_3) := (blk_cell BK190.out 3).trans rfl
                   have hcz51_4 : wc.cell? ⟨gb190, 4, none⟩ = some (.int .i64 a2_4) := (blk_cell BK190.out 4).trans rfl
                   have hcz51_5 : wc.cell? ⟨gb190, 5, none⟩ = some (.int .i64 a2_5) := (blk_cell BK190.out 5).trans rfl
                   have hcz51_6 : wc.cell? ⟨gb190, 6, none⟩ = some (.int .i64 a2_6) := (blk_cell BK190.out 6).trans rfl
                   have hfz51_0 := blk_frozen BK190.out 0
                   have hfz51_1 := blk_frozen BK190.out 1
                   have hfz51_2 := blk_frozen BK190.out 2
                   have hfz51_3 := blk_frozen BK190.out 3
                   have hfz51_4 := blk_frozen BK190.out 4
                   have hfz51_5 := blk_frozen BK190.out 5
                   have hfz51_6 := blk_frozen BK190.out 6
                   go_wp2_with (first | ((with_reducible refine gate_callee (f := 13) rfl ?_); refine goesL_ (some 44) rfl rfl Try.func13 (by kernel_rfl) rfl #[.int .i64 a1, .agg #[.int .i64 a2_0, .int .i64 a2_1, .int .i64 a2_2, .int .i64 a2_3, .int .i64 a2_4, .int .i64 a2_5, .int .i64 a2_6]] rfl (by (try simp only [List.map_toArray, List.map_cons, List.map_nil]); first | done | rfl | (simp only [List.length_drop, List.length_take]; rfl)) ?_; (with_reducible refine (regletref12_Check.calls kj9 a1 a2_0 a2_1 a2_2 a2_3 a2_4 a2_5 a2_6 true _ A24.out).mono ?_); rintro e w52 ⟨rfl, hb⟩; refine ⟨_, rfl, ?_⟩; have n0_ := Aside0.mk (Kd.R_below (by (with_reducible repeat (first | apply Kd.R_alloc | apply Kd.R_drewN | apply Kd.R_drew)); exact HO_7.out) hb); have n1_ := Aside0.mk (blk_below (g := gb190) (o := .cells #[.int .i64 a2_0, .int .i64 a2_1, .int .i64 a2_2, .int .i64 a2_3, .int .i64 a2_4, .int .i64 a2_5, .int .i64 a2_6] 24 (0, 0)) (by (with_reducible repeat (first | refine blk_drewN ?_ _ | refine blk_drew ?_ | refine blk_alloc ?_ _)); exact BK190.out) hb); have n2_ := Aside0.mk (below_step (by repeat (first | (with_reducible first | exact HB.out | apply below_alloc | apply pw_below_drewN | apply below_drew1 | refine below_set ?_ GE190.out) | exact HB.out)) hb); clear HO_7; clear BK190; clear HB; have HO_7 := n0_; have BK190 := n1_; have HB := n2_; clear n0_ n1_ n2_; (try clear hb); (try clear hb2); (try clear hk); (try clear hi)) | ((with_reducible refine gate_callee (f := 14) rfl ?_); refine goesL_ (some 61) rfl rfl Try.func14 (by kernel_rfl) rfl #[.slice A0 l0.length c0] rfl (by (try simp only [List.map_toArray, List.map_cons, List.map_nil]); first | done | rfl | (simp only [List.length_drop, List.length_take]; rfl)) ?_; (with_reducible refine (regletref12_Right.calls kj9 _ _ l0 false _ ?side1 ?side2 A26.out).mono ?_); (case side1 => repeat (first | exact (Kd.C_below HR0.out HB.out) | (with_reducible refine Kd.C_alloc ?_ _) | (with_reducible refine Kd.C_drewN ?_ _) | (with_reducible refine Kd.C_drew ?_))); (case side2 => exact HC0.out); rintro e w53 ⟨rfl, hb⟩; refine ⟨_, rfl, ?_⟩; have n0_ := Aside0.mk (Kd.R_below (by (with_reducible repeat (first | apply Kd.R_alloc | apply Kd.R_drewN | apply Kd.R_drew)); exact HO_7.out) hb); have n1_ := Aside0.mk (blk_below (g := gb190) (o := .cells #[.int .i64 a2_0, .int .i64 a2_1, .int .i64 a2_2, .int .i64 a2_3, .int .i64 a2_4, .int .i64 a2_5, .int .i64 a2_6] 24 (0, 0)) (by (with_reducible repeat (first | refine blk_drewN ?_ _ | refine blk_drew ?_ | refine blk_alloc ?_ _)); exact BK190.out) hb); have n2_ := Aside0.mk (below_step (by repeat (first | (with_reducible first | exact HB.out | apply below_alloc | apply pw_below_drewN | apply below_drew1 | refine below_set ?_ GE190.out) | exact HB.out)) hb); clear HO_7; clear BK190; clear HB; have HO_7 := n0_; have BK190 := n1_; have HB := n2_; clear n0_ n1_ n2_; (try clear hb); (try clear hb2); (try clear hk); (try clear hi); obtain ⟨Ao54, co54, eo54⟩ := Kd.R_slice HO_7.out; subst eo54) | (go_at_call 15; (with_reducible refine (pages_Right.calls kj9 _ _ l0 t204 _ ?side1 ?side2 A50.out).mono ?_); (case side1 => repeat (first | exact (Kd.C_below HR0.out HB.out) | (with_reducible refine Kd.C_alloc ?_ _) | (with_reducible refine Kd.C_drewN ?_ _) | (with_reducible refine Kd.C_drew ?_))); (case side2 => exact HC0.out); rintro e w55 ⟨rfl, hb⟩; have n0_ := Aside0.mk (Kd.R_below (by (with_reducible repeat (first | apply Kd.R_alloc | apply Kd.R_drewN | apply Kd.R_drew)); exact HO_7.out) hb); have n1_ := Aside0.mk (blk_below (g := gb190) (o := .cells #[.int .i64 a2_0, .int .i64 a2_1, .int .i64 a2_2, .int .i64 a2_3, .int .i64 a2_4, .int .i64 a2_5, .int .i64 a2_6] 24 (0, 0)) (by (with_reducible repeat (first | refine blk_drewN ?_ _ | refine blk_drew ?_ | refine blk_alloc ?_ _)); exact BK190.out) hb); have n2_ := Aside0.mk (below_step (by repeat (first | (with_reducible first | exact HB.out | apply below_alloc | apply pw_below_drewN | apply below_drew1 | refine below_set ?_ GE190.out) | exact HB.out)) hb); clear HO_7; clear BK190; clear HB; have HO_7 := n0_; have BK190 := n1_; have HB := n2_; clear n0_ n1_ n2_; (try clear hb); (try clear hb2); (try clear hk); (try clear hi)))
                   go_ret
                   exact ⟨by first | rfl | (simp [errW_none, errW_some] <;> rfl) | (simp [*, errW_none, errW_some] <;> rfl), by repeat (first | (with_reducible first | exact HB.out | apply below_alloc | apply pw_below_drewN | apply below_drew1 | refine below_set ?_ GE190.out) | exact HB.out)⟩
                 · rw [if_neg c49] at H
                   have c49b0 : ((t192.length : Int) == 0) = false := beq_eq_false_iff_ne.mpr c49
                   have c49b1 : ((t192.length : Int) != 0) = true := bne_iff_ne.mpr c49
                   have c49b2 : ¬ (t192 = []) := fun h_ => c49 (by rw [h_]; rfl)
                   obtain rfl := Option.some.inj H
                   have hcz56_0 : wc.cell? ⟨gb190, 0, none⟩ = some (.int .i64 a2_0) := (blk_cell BK190.out 0).trans rfl
                   have hcz56_1 : wc.cell? ⟨gb190, 1, none⟩ = some (.int .i64 a2_1) := (blk_cell BK190.out 1).trans rfl
                   have hcz56_2 : wc.cell? ⟨gb190, 2, none⟩ = some (.int .i64 a2_2) := (blk_cell BK190.out 2).trans rfl
                   have hcz56_3 : wc.cell? ⟨gb190, 3, none⟩ = some (.int .i64 a2_3) := (blk_cell BK190.out 3).trans rfl
                   have hcz56_4 : wc.cell? ⟨gb190, 4, none⟩ = some (.int .i64 a2_4) := (blk_cell BK190.out 4).trans rfl
                   have hcz56_5 : wc.cell? ⟨gb190, 5, none⟩ = some (.int .i64 a2_5) := (blk_cell BK190.out 5).trans rfl
                   have hcz56_6 : wc.cell? ⟨gb190, 6, none⟩ = some (.int .i64 a2_6) := (blk_cell BK190.out 6).trans rfl
                   have hfz56_0 := blk_frozen BK190.out 0
                   have hfz56_1 := blk_frozen BK190.out 1
                   have hfz56_2 := blk_frozen BK190.out 2
                   have hfz56_3 := blk_frozen BK190.out 3
                   have hfz56_4 := blk_frozen BK190.out 4
                   have hfz56_5 := blk_frozen BK190.out 5
                   have hfz56_6 := blk_frozen BK190.out 6
                   go_wp2_with (first | ((with_reducible refine gate_callee (f := 13) rfl ?_); refine goesL_ (some 44) rfl rfl Try.func13 (by kernel_rfl) rfl #[.int .i64 a1, .agg #[.int .i64 a2_0, .int .i64 a2_1, .int .i64 a2_2, .int .i64 a2_3, .int .i64 a2_4, .int .i64 a2_5, .int .i64 a2_6]] rfl (by (try simp only [List.map_toArray, List.map_cons, List.map_nil]); first | done | rfl | (simp only [List.length_drop, List.length_take]; rfl)) ?_; (with_reducible refine (regletref12_Check.calls kj9 a1 a2_0 a2_1 a2_2 a2_3 a2_4 a2_5 a2_6 true _ A24.out).mono ?_); rintro e w57 ⟨rfl, hb⟩; refine ⟨_, rfl, ?_⟩; have n0_ := Aside0.mk (Kd.R_below (by (with_reducible repeat (first | apply Kd.R_alloc | apply Kd.R_drewN | apply Kd.R_drew)); exact HO_7.out) hb); have n1_ := Aside0.mk (blk_below (g := gb190) (o := .cells #[.int .i64 a2_0, .int .i64 a2_1, .int .i64 a2_2, .int .i64 a2_3, .int .i64 a2_4, .int .i64 a2_5, .int .i64 a2_6] 24 (0, 0)) (by (with_reducible repeat (first | refine blk_drewN ?_ _ | refine blk_drew ?_ | refine blk_alloc ?_ _)); exact BK190.out) hb); have n2_ := Aside0.mk (below_step (by repeat (first | (with_reducible first | exact HB.out | apply below_alloc | apply pw_below_drewN | apply below_drew1 | refine below_set ?_ GE190.out) | exact HB.out)) hb); clear HO_7; clear BK190; clear HB; have HO_7 := n0_; have BK190 := n1_; have HB := n2_; clear n0_ n1_ n2_; (try clear hb); (try clear hb2); (try clear hk); (try clear hi)) | ((with_reducible refine gate_callee (f := 14) rfl ?_); refine goesL_ (some 61) rfl rfl Try.func14 (by kernel_rfl) rfl #[.slice A0 l0.length c0] rfl (by (try simp only [List.map_toArray, List.map_cons, List.map_nil]); first | done | rfl | (simp only [List.length_drop, List.length_take]; rfl)) ?_; (with_reducible refine (regletref12_Right.calls kj9 _ _ l0 false _ ?side1 ?side2 A26.out).mono ?_); (case side1 => repeat (first | exact (Kd.C_below HR0.out HB.out) | (with_reducible refine Kd.C_alloc ?_ _) | (with_reducible refine Kd.C_drewN ?_ _) | (with_reducible refine Kd.C_drew ?_))); (case side2 => exact HC0.out); rintro e w58 ⟨rfl, hb⟩; refine ⟨_, rfl, ?_⟩; have n0_ := Aside0.mk (Kd.R_below (by (with_reducible repeat (first | apply Kd.R_alloc | apply Kd.R_drewN | apply Kd.R_drew)); exact HO_7.out) hb); have n1_ := Aside0.mk (blk_below (g := gb190) (o := .cells #[.int .i64 a2_0, .int .i64 a2_1, .int .i64 a2_2, .int .i64 a2_3, .int .i64 a2_4, .int .i64 a2_5, .int .i64 a2_6] 24 (0, 0)) (by (with_reducible repeat (first | refine blk_drewN ?_ _ | refine blk_drew ?_ | refine blk_alloc ?_ _)); exact BK190.out) hb); have n2_ := Aside0.mk (below_step (by repeat (first | (with_reducible first | exact HB.out | apply below_alloc | apply pw_below_drewN | apply below_drew1 | refine below_set ?_ GE190.out) | exact HB.out)) hb); clear HO_7; clear BK190; clear HB; have HO_7 := n0_; have BK190 := n1_; have HB := n2_; clear n0_ n1_ n2_; (try clear hb); (try clear hb2); (try clear hk); (try clear hi); obtain ⟨Ao59, co59, eo59⟩ := Kd.R_slice HO_7.out; subst eo59))
                   go_ret
                   exact ⟨by first | rfl | (simp [errW_none, errW_some] <;> rfl) | (simp [*, errW_none, errW_some] <;> rfl), by repeat (first | (with_reducible first | exact HB.out | apply below_alloc | apply pw_below_drewN | apply below_drew1 | refine below_set ?_ GE190.out) | exact HB.out)⟩
               · rw [if_neg c48] at H
                 have c48b0 : (t195 == 1) = false := beq_eq_false_iff_ne.mpr c48
                 have c48b1 : (t195 != 1) = true := bne_iff_ne.mpr c48
                 obtain rfl := Option.some.inj H
                 have hcz60_0 : wc.cell? ⟨gb190, 0, none⟩ = some (.int .i64 a2_0) := (blk_cell BK190.out 0).trans rfl
                 have hcz60_1 : wc.cell? ⟨gb190, 1, none⟩ = some (.int .i64 a2_1) := (blk_cell BK190.out 1).trans rfl
                 have hcz60_2 : wc.cell? ⟨gb190, 2, none⟩ = some (.int .i64 a2_2) := (blk_cell BK190.out 2).trans rfl
                 have hcz60_3 : wc.cell? ⟨gb190, 3, none⟩ = some (.int .i64 a2_3) := (blk_cell BK190.out 3).trans rfl
                 have hcz60_4 : wc.cell? ⟨gb190, 4, none⟩ = some (.int .i64 a2_4) := (blk_cell BK190.out 4).trans rfl
                 have hcz60_5 : wc.cell? ⟨gb190, 5, none⟩ = some (.int .i64 a2_5) := (blk_cell BK190.out 5).trans rfl
                 have hcz60_6 : wc.cell? ⟨gb190, 6, none⟩ = some (.int .i64 a2_6) := (blk_cell BK190.out 6).trans rfl
                 have hfz60_0 := blk_frozen BK190.out 0
                 have hfz60_1 := blk_frozen BK190.out 1
                 have hfz60_2 := blk_frozen BK190.out 2
                 have hfz60_3 := blk_frozen BK190.out 3
                 have hfz60_4 := blk_frozen BK190.out 4
                 have hfz60_5 := blk_frozen BK190.out 5
                 have hfz60_6 := blk_frozen BK190.out 6
                 go_wp2_with (first | ((with_reducible refine gate_callee (f := 13) rfl ?_); refine goesL_ (some 44) rfl rfl Try.func13 (by kernel_rfl) rfl #[.int .i64 a1, .agg #[.int .i64 a2_0, .int .i64 a2_1, .int .i64 a2_2, .int .i64 a2_3, .int .i64 a2_4, .int .i64 a2_5, .int .i64 a2_6]] rfl (by (try simp only [List.map_toArray, List.map_cons, List.map_nil]); first | done | rfl | (simp only [List.length_drop, List.length_take]; rfl)) ?_; (with_reducible refine (regletref12_Check.calls kj9 a1 a2_0 a2_1 a2_2 a2_3 a2_4 a2_5 a2_6 true _ A24.out).mono ?_); rintro e w61 ⟨rfl, hb⟩; refine ⟨_, rfl, ?_⟩; have n0_ := Aside0.mk (Kd.R_below (by (with_reducible repeat (first | apply Kd.R_alloc | apply Kd.R_drewN | apply Kd.R_drew)); exact HO_7.out) hb); have n1_ := Aside0.mk (blk_below (g := gb190) (o := .cells #[.int .i64 a2_0, .int .i64 a2_1, .int .i64 a2_2, .int .i64 a2_3, .int .i64 a2_4, .int .i64 a2_5, .int .i64 a2_6] 24 (0, 0)) (by (with_reducible repeat (first | refine blk_drewN ?_ _ | refine blk_drew ?_ | refine blk_alloc ?_ _)); exact BK190.out) hb); have n2_ := Aside0.mk (below_step (by repeat (first | (with_reducible first | exact HB.out | apply below_alloc | apply pw_below_drewN | apply below_drew1 | refine below_set ?_ GE190.out) | exact HB.out)) hb); clear HO_7; clear BK190; clear HB; have HO_7 := n0_; have BK190 := n1_; have HB := n2_; clear n0_ n1_ n2_; (try clear hb); (try clear hb2); (try clear hk); (try clear hi)) | ((with_reducible refine gate_callee (f := 14) rfl ?_); refine goesL_ (some 61) rfl rfl Try.func14 (by kernel_rfl) rfl #[.slice A0 l0.length c0] rfl (by (try simp only [List.map_toArray, List.map_cons, List.map_nil]); first | done | rfl | (simp only [List.length_drop, List.length_take]; rfl)) ?_; (with_reducible refine (regletref12_Right.calls kj9 _ _ l0 false _ ?side1 ?side2 A26.out).mono ?_); (case side1 => repeat (first | exact (Kd.C_below HR0.out HB.out) | (with_reducible refine Kd.C_alloc ?_ _) | (with_reducible refine Kd.C_drewN ?_ _) | (with_reducible refine Kd.C_drew ?_))); (case side2 => exact HC0.out); rintro e w62 ⟨rfl, hb⟩; refine ⟨_, rfl, ?_⟩; have n0_ := Aside0.mk (Kd.R_below (by (with_reducible repeat (first | apply Kd.R_alloc | apply Kd.R_drewN | apply Kd.R_drew)); exact HO_7.out) hb); have n1_ := Aside0.mk (blk_below (g := gb190) (o := .cells #[.int .i64 a2_0, .int .i64 a2_1, .int .i64 a2_2, .int .i64 a2_3, .int .i64 a2_4, .int .i64 a2_5, .int .i64 a2_6] 24 (0, 0)) (by (with_reducible repeat (first | refine blk_drewN ?_ _ | refine blk_drew ?_ | refine blk_alloc ?_ _)); exact BK190.out) hb); have n2_ := Aside0.mk (below_step (by repeat (first | (with_reducible first | exact HB.out | apply below_alloc | apply pw_below_drewN | apply below_drew1 | refine below_set ?_ GE190.out) | exact HB.out)) hb); clear HO_7; clear BK190; clear HB; have HO_7 := n0_; have BK190 := n1_; have HB := n2_; clear n0_ n1_ n2_; (try clear hb); (try clear hb2); (try clear hk); (try clear hi)))
                 go_ret
                 exact ⟨by first | rfl | (simp [errW_none, errW_some] <;> rfl) | (simp [*, errW_none, errW_some] <;> rfl), by repeat (first | (with_reducible first | exact HB.out | apply below_alloc | apply pw_below_drewN | apply below_drew1 | refine below_set ?_ GE190.out) | exact HB.out)⟩
           · replace c25 := Bool.eq_false_iff.mpr c25
             subst c25
             have H1 : (if t195 = 80 then (if (t192.length : Int) = 0 then ((pages_Check.f kj9 a1 a2_0 a2_1 a2_2 a2_3 a2_4 a2_5 a2_6).bind fun t205 => (some (t205 == 80))) else (some false)) else (some false)) = some r := by rw [if_neg (show ¬ (false = true) by decide)] at H; exact H
             clear H
             have H := H1
             clear H1
             by_cases c63 : t195 = 80
             · rw [if_pos c63] at H
               have c63b0 : (t195 == 80) = true := beq_iff_eq.mpr c63
               have c63b1 : (t195 != 80) = false := bne_eq_false_iff_eq.mpr c63
               clear c63
               by_cases c64 : (t192.length : Int) = 0
               · rw [if_pos c64] at H
                 have c64b0 : ((t192.length : Int) == 0) = true := beq_iff_eq.mpr c64
                 have c64b1 : ((t192.length : Int) != 0) = false := bne_eq_false_iff_eq.mpr c64
                 clear c64
                 replace H := Option.bind_eq_some_iff.mp H
                 obtain ⟨t205, A650, H⟩ := H
                 replace H : (some (t205 == 80)) = some r := H
                 have A65 := Aside0.mk A650
                 clear A650
                 obtain rfl := Option.some.inj H
                 have hcz66_0 : wc.cell? ⟨gb190, 0, none⟩ = some (.int .i64 a2_0) := (blk_cell BK190.out 0).trans rfl
                 have hcz66_1 : wc.cell? ⟨gb190, 1, none⟩ = some (.int .i64 a2_1) := (blk_cell BK190.out 1).trans rfl
                 have hcz66_2 : wc.cell? ⟨gb190, 2, none⟩ = some (.int .i64 a2_2) := (blk_cell BK190.out 2).trans rfl
                 have hcz66_3 : wc.cell? ⟨gb190, 3, none⟩ = some (.int .i64 a2_3) := (blk_cell BK190.out 3).trans rfl
                 have hcz66_4 : wc.cell? ⟨gb190, 4, none⟩ = some (.int .i64 a2_4) := (blk_cell BK190.out 4).trans rfl
                 have hcz66_5 : wc.cell? ⟨gb190, 5, none⟩ = some (.int .i64 a2_5) := (blk_cell BK190.out 5).trans rfl
                 have hcz66_6 : wc.cell? ⟨gb190, 6, none⟩ = some (.int .i64 a2_6) := (blk_cell BK190.out 6).trans rfl
                 have hfz66_0 := blk_frozen BK190.out 0
                 have hfz66_1 := blk_frozen BK190.out 1
                 have hfz66_2 := blk_frozen BK190.out 2
                 have hfz66_3 := blk_frozen BK190.out 3
                 have hfz66_4 := blk_frozen BK190.out 4
                 have hfz66_5 := blk_frozen BK190.out 5
                 have hfz66_6 := blk_frozen BK190.out 6
                 go_wp2_with (first | ((with_reducible refine gate_callee (f := 13) rfl ?_); refine goesL_ (some 44) rfl rfl Try.func13 (by kernel_rfl) rfl #[.int .i64 a1, .agg #[.int .i64 a2_0, .int .i64 a2_1, .int .i64 a2_2, .int .i64 a2_3, .int .i64 a2_4, .int .i64 a2_5, .int .i64 a2_6]] rfl (by (try simp only [List.map_toArray, List.map_cons, List.map_nil]); first | done | rfl | (simp only [List.length_drop, List.length_take]; rfl)) ?_; (with_reducible refine (regletref12_Check.calls kj9 a1 a2_0 a2_1 a2_2 a2_3 a2_4 a2_5 a2_6 false _ A24.out).mono ?_); rintro e w67 ⟨rfl, hb⟩; refine ⟨_, rfl, ?_⟩; have n0_ := Aside0.mk (Kd.R_below (by (with_reducible repeat (first | apply Kd.R_alloc | apply Kd.R_drewN | apply Kd.R_drew)); exact HO_7.out) hb); have n1_ := Aside0.mk (blk_below (g := gb190) (o := .cells #[.int .i64 a2_0, .int .i64 a2_1, .int .i64 a2_2, .int .i64 a2_3, .int .i64 a2_4, .int .i64 a2_5, .int .i64 a2_6] 24 (0, 0)) (by (with_reducible repeat (first | refine blk_drewN ?_ _ | refine blk_drew ?_ | refine blk_alloc ?_ _)); exact BK190.out) hb); have n2_ := Aside0.mk (below_step (by repeat (first | (with_reducible first | exact HB.out | apply below_alloc | apply pw_below_drewN | apply below_drew1 | refine below_set ?_ GE190.out) | exact HB.out)) hb); clear HO_7; clear BK190; clear HB; have HO_7 := n0_; have BK190 := n1_; have HB := n2_; clear n0_ n1_ n2_; (try clear hb); (try clear hb2); (try clear hk); (try clear hi); obtain ⟨Ao68, co68, eo68⟩ := Kd.R_slice HO_7.out; subst eo68; have hcz69_0 : w67.cell? ⟨gb190, 0, none⟩ = some (.int .i64 a2_0) := (blk_cell BK190.out 0).trans rfl; have hcz69_1 : w67.cell? ⟨gb190, 1, none⟩ = some (.int .i64 a2_1) := (blk_cell BK190.out 1).trans rfl; have hcz69_2 : w67.cell? ⟨gb190, 2, none⟩ = some (.int .i64 a2_2) := (blk_cell BK190.out 2).trans rfl; have hcz69_3 : w67.cell? ⟨gb190, 3, none⟩ = some (.int .i64 a2_3) := (blk_cell BK190.out 3).trans rfl; have hcz69_4 : w67.cell? ⟨gb190, 4, none⟩ = some (.int .i64 a2_4) := (blk_cell BK190.out 4).trans rfl; have hcz69_5 : w67.cell? ⟨gb190, 5, none⟩ = some (.int .i64 a2_5) := (blk_cell BK190.out 5).trans rfl; have hcz69_6 : w67.cell? ⟨gb190, 6, none⟩ = some (.int .i64 a2_6) := (blk_cell BK190.out 6).trans rfl; have hfz69_0 := blk_frozen BK190.out 0; have hfz69_1 := blk_frozen BK190.out 1; have hfz69_2 := blk_frozen BK190.out 2; have hfz69_3 := blk_frozen BK190.out 3; have hfz69_4 := blk_frozen BK190.out 4; have hfz69_5 := blk_frozen BK190.out 5; have hfz69_6 := blk_frozen BK190.out 6) | (go_at_call 12; (with_reducible refine (pages_Check.calls kj9 a1 a2_0 a2_1 a2_2 a2_3 a2_4 a2_5 a2_6 t205 _ A65.out).mono ?_); rintro e w70 ⟨rfl, hb⟩; have n0_ := Aside0.mk (Kd.R_below (by (with_reducible repeat (first | apply Kd.R_alloc | apply Kd.R_drewN | apply Kd.R_drew)); exact HO_7.out) hb); have n1_ := Aside0.mk (blk_below (g := gb190) (o := .cells #[.int .i64 a2_0, .int .i64 a2_1, .int .i64 a2_2, .int .i64 a2_3, .int .i64 a2_4, .int .i64 a2_5, .int .i64 a2_6] 24 (0, 0)) (by (with_reducible repeat (first | refine blk_drewN ?_ _ | refine blk_drew ?_ | refine blk_alloc ?_ _)); exact BK190.out) hb); have n2_ := Aside0.mk (below_step (by repeat (first | (with_reducible first | exact HB.out | apply below_alloc | apply pw_below_drewN | apply below_drew1 | refine below_set ?_ GE190.out) | exact HB.out)) hb); clear HO_7; clear BK190; clear HB; have HO_7 := n0_; have BK190 := n1_; have HB := n2_; clear n0_ n1_ n2_; (try clear hb); (try clear hb2); (try clear hk); (try clear hi)))
                 go_ret
                 exact ⟨by first | rfl | (simp [errW_none, errW_some] <;> rfl) | (simp [*, errW_none, errW_some] <;> rfl), by repeat (first | (with_reducible first | exact HB.out | apply below_alloc | apply pw_below_drewN | apply below_drew1 | refine below_set ?_ GE190.out) | exact HB.out)⟩
               · rw [if_neg c64] at H
                 have c64b0 : ((t192.length : Int) == 0) = false := beq_eq_false_iff_ne.mpr c64
                 have c64b1 : ((t192.length : Int) != 0) = true := bne_iff_ne.mpr c64
                 have c64b2 : ¬ (t192 = []) := fun h_ => c64 (by rw [h_]; rfl)
                 obtain rfl := Option.some.inj H
                 have hcz71_0 : wc.cell? ⟨gb190, 0, none⟩ = some (.int .i64 a2_0) := (blk_cell BK190.out 0).trans rfl
                 have hcz71_1 : wc.cell? ⟨gb190, 1, none⟩ = some (.int .i64 a2_1) := (blk_cell BK190.out 1).trans rfl
                 have hcz71_2 : wc.cell? ⟨gb190, 2, none⟩ = some (.int .i64 a2_2) := (blk_cell BK190.out 2).trans rfl
                 have hcz71_3 : wc.cell? ⟨gb190, 3, none⟩ = some (.int .i64 a2_3) := (blk_cell BK190.out 3).trans rfl
                 have hcz71_4 : wc.cell? ⟨gb190, 4, none⟩ = some (.int .i64 a2_4) := (blk_cell BK190.out 4).trans rfl
                 have hcz71_5 : wc.cell? ⟨gb190, 5, none⟩ = some (.int .i64 a2_5) := (blk_cell BK190.out 5).trans rfl
                 have hcz71_6 : wc.cell? ⟨gb190, 6, none⟩ = some (.int .i64 a2_6) := (blk_cell BK190.out 6).trans rfl
                 have hfz71_0 := blk_frozen BK190.out 0
                 have hfz71_1 := blk_frozen BK190.out 1
                 have hfz71_2 := blk_frozen BK190.out 2
                 have hfz71_3 := blk_frozen BK190.out 3
                 have hfz71_4 := blk_frozen BK190.out 4
                 have hfz71_5 := blk_frozen BK190.out 5
                 have hfz71_6 := blk_frozen BK190.out 6
                 go_wp2_with (first | ((with_reducible refine gate_callee (f := 13) rfl ?_); refine goesL_ (some 44) rfl rfl Try.func13 (by kernel_rfl) rfl #[.int .i64 a1, .agg #[.int .i64 a2_0, .int .i64 a2_1, .int .i64 a2_2, .int .i64 a2_3, .int .i64 a2_4, .int .i64 a2_5, .int .i64 a2_6]] rfl (by (try simp only [List.map_toArray, List.map_cons, List.map_nil]); first | done | rfl | (simp only [List.length_drop, List.length_take]; rfl)) ?_; (with_reducible refine (regletref12_Check.calls kj9 a1 a2_0 a2_1 a2_2 a2_3 a2_4 a2_5 a2_6 false _ A24.out).mono ?_); rintro e w72 ⟨rfl, hb⟩; refine ⟨_, rfl, ?_⟩; have n0_ := Aside0.mk (Kd.R_below (by (with_reducible repeat (first | apply Kd.R_alloc | apply Kd.R_drewN | apply Kd.R_drew)); exact HO_7.out) hb); have n1_ := Aside0.mk (blk_below (g := gb190) (o := .cells #[.int .i64 a2_0, .int .i64 a2_1, .int .i64 a2_2, .int .i64 a2_3, .int .i64 a2_4, .int .i64 a2_5, .int .i64 a2_6] 24 (0, 0)) (by (with_reducible repeat (first | refine blk_drewN ?_ _ | refine blk_drew ?_ | refine blk_alloc ?_ _)); exact BK190.out) hb); have n2_ := Aside0.mk (below_step (by repeat (first | (with_reducible first | exact HB.out | apply below_alloc | apply pw_below_drewN | apply below_drew1 | refine below_set ?_ GE190.out) | exact HB.out)) hb); clear HO_7; clear BK190; clear HB; have HO_7 := n0_; have BK190 := n1_; have HB := n2_; clear n0_ n1_ n2_; (try clear hb); (try clear hb2); (try clear hk); (try clear hi); obtain ⟨Ao73, co73, eo73⟩ := Kd.R_slice HO_7.out; subst eo73))
                 go_ret
                 exact ⟨by first | rfl | (simp [errW_none, errW_some] <;> rfl) | (simp [*, errW_none, errW_some] <;> rfl), by repeat (first | (with_reducible first | exact HB.out | apply below_alloc | apply pw_below_drewN | apply below_drew1 | refine below_set ?_ GE190.out) | exact HB.out)⟩
             · rw [if_neg c63] at H
               have c63b0 : (t195 == 80) = false := beq_eq_false_iff_ne.mpr c63
               have c63b1 : (t195 != 80) = true := bne_iff_ne.mpr c63
               obtain rfl := Option.some.inj H
               have hcz74_0 : wc.cell? ⟨gb190, 0, none⟩ = some (.int .i64 a2_0) := (blk_cell BK190.out 0).trans rfl
               have hcz74_1 : wc.cell? ⟨gb190, 1, none⟩ = some (.int .i64 a2_1) := (blk_cell BK190.out 1).trans rfl
               have hcz74_2 : wc.cell? ⟨gb190, 2, none⟩ = some (.int .i64 a2_2) := (blk_cell BK190.out 2).trans rfl
               have hcz74_3 : wc.cell? ⟨gb190, 3, none⟩ = some (.int .i64 a2_3) := (blk_cell BK190.out 3).trans rfl
               have hcz74_4 : wc.cell? ⟨gb190, 4, none⟩ = some (.int .i64 a2_4) := (blk_cell BK190.out 4).trans rfl
               have hcz74_5 : wc.cell? ⟨gb190, 5, none⟩ = some (.int .i64 a2_5) := (blk_cell BK190.out 5).trans rfl
               have hcz74_6 : wc.cell? ⟨gb190, 6, none⟩ = some (.int .i64 a2_6) := (blk_cell BK190.out 6).trans rfl
               have hfz74_0 := blk_frozen BK190.out 0
               have hfz74_1 := blk_frozen BK190.out 1
               have hfz74_2 := blk_frozen BK190.out 2
               have hfz74_3 := blk_frozen BK190.out 3
               have hfz74_4 := blk_frozen BK190.out 4
               have hfz74_5 := blk_frozen BK190.out 5
               have hfz74_6 := blk_frozen BK190.out 6
               go_wp2_with (first | ((with_reducible refine gate_callee (f := 13) rfl ?_); refine goesL_ (some 44) rfl rfl Try.func13 (by kernel_rfl) rfl #[.int .i64 a1, .agg #[.int .i64 a2_0, .int .i64 a2_1, .int .i64 a2_2, .int .i64 a2_3, .int .i64 a2_4, .int .i64 a2_5, .int .i64 a2_6]] rfl (by (try simp only [List.map_toArray, List.map_cons, List.map_nil]); first | done | rfl | (simp only [List.length_drop, List.length_take]; rfl)) ?_; (with_reducible refine (regletref12_Check.calls kj9 a1 a2_0 a2_1 a2_2 a2_3 a2_4 a2_5 a2_6 false _ A24.out).mono ?_); rintro e w75 ⟨rfl, hb⟩; refine ⟨_, rfl, ?_⟩; have n0_ := Aside0.mk (Kd.R_below (by (with_reducible repeat (first | apply Kd.R_alloc | apply Kd.R_drewN | apply Kd.R_drew)); exact HO_7.out) hb); have n1_ := Aside0.mk (blk_below (g := gb190) (o := .cells #[.int .i64 a2_0, .int .i64 a2_1, .int .i64 a2_2, .int .i64 a2_3, .int .i64 a2_4, .int .i64 a2_5, .int .i64 a2_6] 24 (0, 0)) (by (with_reducible repeat (first | refine blk_drewN ?_ _ | refine blk_drew ?_ | refine blk_alloc ?_ _)); exact BK190.out) hb); have n2_ := Aside0.mk (below_step (by repeat (first | (with_reducible first | exact HB.out | apply below_alloc | apply pw_below_drewN | apply below_drew1 | refine below_set ?_ GE190.out) | exact HB.out)) hb); clear HO_7; clear BK190; clear HB; have HO_7 := n0_; have BK190 := n1_; have HB := n2_; clear n0_ n1_ n2_; (try clear hb); (try clear hb2); (try clear hk); (try clear hi)))
               go_ret
               exact ⟨by first | rfl | (simp [errW_none, errW_some] <;> rfl) | (simp [*, errW_none, errW_some] <;> rfl), by repeat (first | (with_reducible first | exact HB.out | apply below_alloc | apply pw_below_drewN | apply below_drew1 | refine below_set ?_ GE190.out) | exact HB.out)⟩
 · replace c5 := Bool.eq_false_iff.mpr c5
   subst c5
   have H1 : (some false) = some r := by rw [if_neg (show ¬ (false = true) by decide)] at H; exact H
   clear H
   have H := H1
   clear H1
   obtain rfl := Option.some.inj H
   go_enter Try.func3, Try.ntmps3
   go_wp2_with (first | ((with_reducible refine gate_dst (N := 5) rfl ?_); (try (refine gate_guard (by rfl) ?_; dsimp only)); refine box_event ?hg (N := 5) ?hd (cs := #[.int .i64 a2_0, .int .i64 a2_1, .int .i64 a2_2, .int .i64 a2_3, .int .i64 a2_4, .int .i64 a2_5, .int .i64 a2_6]) (t := 24) ?hr ?_; (case hd => rfl); (case hg => rfl); (case hr => first | (go_simp; done) | (go_simp; rfl)); intro gb190 hg w76 hbox hb; have n0_ := Aside0.mk (below_step (by repeat (first | (with_reducible first | exact HB.out | apply below_alloc | apply pw_below_drewN | apply below_drew1) | exact HB.out)) hb); have n1_ := Aside0.mk (hbox); have n2_ := Aside0.mk ((by rw [hg]; exact (below_size (by repeat (first | (with_reducible first | exact HB.out | apply below_alloc | apply pw_below_drewN | apply below_drew1) | exact HB.out))) : w.heap.size ≤ gb190)); have n3_ := Aside0.mk ((by rw [hg]; exact (below_size (by repeat (first | (with_reducible first | exact HB.out | apply below_alloc | apply pw_below_drewN | apply below_drew1) | exact HB.out))) : w.heap.size ≤ gb190)); clear HB; have HB := n0_; have BK190 := n1_; have GW190 := n2_; have GE190 := n3_; clear n0_ n1_ n2_ n3_; clear hb hbox hg) | ((with_reducible refine gate_callee (f := 10) rfl ?_); refine goesL_ (some 9) rfl rfl Try.func10 (by kernel_rfl) rfl #[] rfl (by (try simp only [List.map_toArray, List.map_cons, List.map_nil]); first | done | rfl | (simp only [List.length_drop, List.length_take]; rfl)) ?_; (with_reducible refine (regletlaw12_awake.calls k  false _ A4.out).mono ?_); rintro e w77 ⟨rfl, hb⟩; refine ⟨_, rfl, ?_⟩; have n0_ := Aside0.mk (blk_below (g := gb190) (o := .cells #[.int .i64 a2_0, .int .i64 a2_1, .int .i64 a2_2, .int .i64 a2_3, .int .i64 a2_4, .int .i64 a2_5, .int .i64 a2_6] 24 (0, 0)) (by (with_reducible repeat (first | refine blk_drewN ?_ _ | refine blk_drew ?_ | refine blk_alloc ?_ _)); exact BK190.out) hb); have n1_ := Aside0.mk (below_step (by repeat (first | (with_reducible first | exact HB.out | apply below_alloc | apply pw_below_drewN | apply below_drew1 | refine below_set ?_ GE190.out) | exact HB.out)) hb); clear BK190; clear HB; have BK190 := n0_; have HB := n1_; clear n0_ n1_; (try clear hb); (try clear hb2); (try clear hk); (try clear hi)))
   go_ret
   exact ⟨by first | rfl | (simp [errW_none, errW_some] <;> rfl) | (simp [*, errW_none, errW_some] <;> rfl), by repeat (first | (with_reducible first | exact HB.out | apply below_alloc | apply pw_below_drewN | apply below_drew1 | refine below_set ?_ GE190.out) | exact HB.out)⟩

/-! ### regletlaw12_tried: function 18 -/
def regletlaw12_tried.f (k : Nat) (l0 : List (S42)) (a1 : Int) (a2_0 : Int) (a2_1 : Int) (a2_2 : Int) (a2_3 : Int) (a2_4 : Int) (a2_5 : Int) (a2_6 : Int) : Option (Bool) := if (l0.length : Int) ≤ 200 then ((regletref12_Right.f k l0).bind fun t207 => (if t207 = true then ((regletref12_Check.f k a1 a2_0 a2_1 a2_2 a2_3 a2_4 a2_5 a2_6).bind fun t208 => (some t208)) else (some false))) else (some false)
theorem regletlaw12_tried.mono : ∀ a0 a1 a2 a3 a4 a5 a6 a7 a8 k, LeO (regletlaw12_tried.f k a0 a1 a2 a3 a4 a5 a6 a7 a8) (regletlaw12_tried.f (k + 1) a0 a1 a2 a3 a4 a5 a6 a7 a8) := by
 intro a0 a1 a2 a3 a4 a5 a6 a7 a8 k
 unfold regletlaw12_tried.f
 repeat' first
     | (with_reducible exact regletref12_Check.mono _ _ _ _ _ _ _ _ _)
     | (with_reducible exact regletref12_Right.mono _ _)
     | (with_reducible exact LeO.refl _)
     | (with_reducible exact LeO.none _)
     | (with_reducible refine LeO.ite ?_ ?_)
     | (with_reducible refine LeO.bind ?_ (fun _ => ?_))
     | exact regletref12_Check.mono _ _ _ _ _ _ _ _ _
     | exact regletref12_Right.mono _ _
     | exact LeO.none _
     | refine LeO.ite ?_ ?_
     | refine LeO.bind ?_ (fun _ => ?_)
set_option maxHeartbeats 8000000 in
set_option maxRecDepth 100000 in
theorem regletlaw12_tried.calls (k : Nat) (A0 : Option Addr) (c0 : Nat) (l0 : List (S42)) (a1 : Int) (a2_0 : Int) (a2_1 : Int) (a2_2 : Int) (a2_3 : Int) (a2_4 : Int) (a2_5 : Int) (a2_6 : Int) (r : Bool) (w : World) (hr0 : Kd.C k42 w A0 l0.length l0) (hc0 : l0.length ≤ c0) (h : regletlaw12_tried.f k l0 a1 a2_0 a2_1 a2_2 a2_3 a2_4 a2_5 a2_6 = some r) :
   Calls Try.prog 18 #[.slice A0 l0.length c0, .int .i64 a1, .agg #[.int .i64 a2_0, .int .i64 a2_1, .int .i64 a2_2, .int .i64 a2_3, .int .i64 a2_4, .int .i64 a2_5, .int .i64 a2_6]] w fun e w' => e = .returned (.bool r) ∧ Below w.heap.size w w' := by
 have hu24 := Try.underlying24
 have HR0 := Aside0.mk hr0
 have HC0 := Aside0.mk hc0
 clear hr0 hc0
 have HB := Aside0.mk (Below.refl w.heap.size w)
 have H : (if (l0.length : Int) ≤ 200 then ((regletref12_Right.f k l0).bind fun t207 => (if t207 = true then ((regletref12_Check.f k a1 a2_0 a2_1 a2_2 a2_3 a2_4 a2_5 a2_6).bind fun t208 => (some t208)) else (some false))) else (some false)) = some r := h
 clear h
 by_cases c4 : (l0.length : Int) ≤ 200
 · rw [if_pos c4] at H
   have c4b0 : decide ((l0.length : Int) ≤ 200) = true := decide_eq_true c4
   have c4b1 : decide (l0.length ≤ 200) = true := decide_eq_true (by omega)
   clear c4
   replace H := Option.bind_eq_some_iff.mp H
   obtain ⟨t207, A50, H⟩ := H
   replace H : (if t207 = true then ((regletref12_Check.f k a1 a2_0 a2_1 a2_2 a2_3 a2_4 a2_5 a2_6).bind fun t208 => (some t208)) else (some false)) = some r := H
   have A5 := Aside0.mk A50
   clear A50
   by_cases c6 : t207 = true
   · subst c6
     have H1 : ((regletref12_Check.f k a1 a2_0 a2_1 a2_2 a2_3 a2_4 a2_5 a2_6).bind fun t208 => (some t208)) = some r := by rw [if_pos rfl] at H; exact H
     clear H
     have H := H1
     clear H1
     replace H := Option.bind_eq_some_iff.mp H
     obtain ⟨t208, A70, H⟩ := H
     replace H : (some t208) = some r := H
     have A7 := Aside0.mk A70
     clear A70
     obtain rfl := Option.some.inj H
     go_enter Try.func18, Try.ntmps18
     go_wp2_with (first | ((with_reducible refine gate_dst (N := 5) rfl ?_); refine box_event ?hg (N := 5) ?hd (cs := #[.int .i64 a2_0, .int .i64 a2_1, .int .i64 a2_2, .int .i64 a2_3, .int .i64 a2_4, .int .i64 a2_5, .int .i64 a2_6]) (t := 24) ?hr ?_; (case hd => rfl); (case hg => rfl); (case hr => first | (go_simp; done) | (go_simp; rfl)); intro gb206 hg w8 hbox hb; have n0_ := Aside0.mk (below_step (by repeat (first | (with_reducible first | exact HB.out | apply below_alloc | apply pw_below_drewN | apply below_drew1) | exact HB.out)) hb); have n1_ := Aside0.mk (hbox); have n2_ := Aside0.mk ((by rw [hg]; exact (below_size (by repeat (first | (with_reducible first | exact HB.out | apply below_alloc | apply pw_below_drewN | apply below_drew1) | exact HB.out))) : w.heap.size ≤ gb206)); have n3_ := Aside0.mk ((by rw [hg]; exact (below_size (by repeat (first | (with_reducible first | exact HB.out | apply below_alloc | apply pw_below_drewN | apply below_drew1) | exact HB.out))) : w.heap.size ≤ gb206)); clear HB; have HB := n0_; have BK206 := n1_; have GW206 := n2_; have GE206 := n3_; clear n0_ n1_ n2_ n3_; clear hb hbox hg) | (go_at_call 14; (with_reducible refine (regletref12_Right.calls k _ _ l0 true _ ?side1 ?side2 A5.out).mono ?_); (case side1 => repeat (first | exact (Kd.C_below HR0.out HB.out) | (with_reducible refine Kd.C_alloc ?_ _) | (with_reducible refine Kd.C_drewN ?_ _) | (with_reducible refine Kd.C_drew ?_))); (case side2 => exact HC0.out); rintro e w9 ⟨rfl, hb⟩; have n0_ := Aside0.mk (blk_below (g := gb206) (o := .cells #[.int .i64 a2_0, .int .i64 a2_1, .int .i64 a2_2, .int .i64 a2_3, .int .i64 a2_4, .int .i64 a2_5, .int .i64 a2_6] 24 (0, 0)) (by (with_reducible repeat (first | refine blk_drewN ?_ _ | refine blk_drew ?_ | refine blk_alloc ?_ _)); exact BK206.out) hb); have n1_ := Aside0.mk (below_step (by repeat (first | (with_reducible first | exact HB.out | apply below_alloc | apply pw_below_drewN | apply below_drew1 | refine below_set ?_ GE206.out) | exact HB.out)) hb); clear BK206; clear HB; have BK206 := n0_; have HB := n1_; clear n0_ n1_; (try clear hb); (try clear hb2); (try clear hk); (try clear hi); have hcz10_0 : w9.cell? ⟨gb206, 0, none⟩ = some (.int .i64 a2_0) := (blk_cell BK206.out 0).trans rfl; have hcz10_1 : w9.cell? ⟨gb206, 1, none⟩ = some (.int .i64 a2_1) := (blk_cell BK206.out 1).trans rfl; have hcz10_2 : w9.cell? ⟨gb206, 2, none⟩ = some (.int .i64 a2_2) := (blk_cell BK206.out 2).trans rfl; have hcz10_3 : w9.cell? ⟨gb206, 3, none⟩ = some (.int .i64 a2_3) := (blk_cell BK206.out 3).trans rfl; have hcz10_4 : w9.cell? ⟨gb206, 4, none⟩ = some (.int .i64 a2_4) := (blk_cell BK206.out 4).trans rfl; have hcz10_5 : w9.cell? ⟨gb206, 5, none⟩ = some (.int .i64 a2_5) := (blk_cell BK206.out 5).trans rfl; have hcz10_6 : w9.cell? ⟨gb206, 6, none⟩ = some (.int .i64 a2_6) := (blk_cell BK206.out 6).trans rfl; have hfz10_0 := blk_frozen BK206.out 0; have hfz10_1 := blk_frozen BK206.out 1; have hfz10_2 := blk_frozen BK206.out 2; have hfz10_3 := blk_frozen BK206.out 3; have hfz10_4 := blk_frozen BK206.out 4; have hfz10_5 := blk_frozen BK206.out 5; have hfz10_6 := blk_frozen BK206.out 6) | (go_at_call 13; (with_reducible refine (regletref12_Check.calls k a1 a2_0 a2_1 a2_2 a2_3 a2_4 a2_5 a2_6 t208 _ A7.out).mono ?_); rintro e w11 ⟨rfl, hb⟩; have n0_ := Aside0.mk (blk_below (g := gb206) (o := .cells #[.int .i64 a2_0, .int .i64 a2_1, .int .i64 a2_2, .int .i64 a2_3, .int .i64 a2_4, .int .i64 a2_5, .int .i64 a2_6] 24 (0, 0)) (by (with_reducible repeat (first | refine blk_drewN ?_ _ | refine blk_drew ?_ | refine blk_alloc ?_ _)); exact BK206.out) hb); have n1_ := Aside0.mk (below_step (by repeat (first | (with_reducible first | exact HB.out | apply below_alloc | apply pw_below_drewN | apply below_drew1 | refine below_set ?_ GE206.out) | exact HB.out)) hb); clear BK206; clear HB; have BK206 := n0_; have HB := n1_; clear n0_ n1_; (try clear hb); (try clear hb2); (try clear hk); (try clear hi)))
     go_ret
     exact ⟨by first | rfl | (simp [errW_none, errW_some] <;> rfl) | (simp [*, errW_none, errW_some] <;> rfl), by repeat (first | (with_reducible first | exact HB.out | apply below_alloc | apply pw_below_drewN | apply below_drew1 | refine below_set ?_ GE206.out) | exact HB.out)⟩
   · replace c6 := Bool.eq_false_iff.mpr c6
     subst c6
     have H1 : (some false) = some r := by rw [if_neg (show ¬ (false = true) by decide)] at H; exact H
     clear H
     have H := H1
     clear H1
     obtain rfl := Option.some.inj H
     go_enter Try.func18, Try.ntmps18
     go_wp2_with (first | ((with_reducible refine gate_dst (N := 5) rfl ?_); refine box_event ?hg (N := 5) ?hd (cs := #[.int .i64 a2_0, .int .i64 a2_1, .int .i64 a2_2, .int .i64 a2_3, .int .i64 a2_4, .int .i64 a2_5, .int .i64 a2_6]) (t := 24) ?hr ?_; (case hd => rfl); (case hg => rfl); (case hr => first | (go_simp; done) | (go_simp; rfl)); intro gb206 hg w12 hbox hb; have n0_ := Aside0.mk (below_step (by repeat (first | (with_reducible first | exact HB.out | apply below_alloc | apply pw_below_drewN | apply below_drew1) | exact HB.out)) hb); have n1_ := Aside0.mk (hbox); have n2_ := Aside0.mk ((by rw [hg]; exact (below_size (by repeat (first | (with_reducible first | exact HB.out | apply below_alloc | apply pw_below_drewN | apply below_drew1) | exact HB.out))) : w.heap.size ≤ gb206)); have n3_ := Aside0.mk ((by rw [hg]; exact (below_size (by repeat (first | (with_reducible first | exact HB.out | apply below_alloc | apply pw_below_drewN | apply below_drew1) | exact HB.out))) : w.heap.size ≤ gb206)); clear HB; have HB := n0_; have BK206 := n1_; have GW206 := n2_; have GE206 := n3_; clear n0_ n1_ n2_ n3_; clear hb hbox hg) | (go_at_call 14; (with_reducible refine (regletref12_Right.calls k _ _ l0 false _ ?side1 ?side2 A5.out).mono ?_); (case side1 => repeat (first | exact (Kd.C_below HR0.out HB.out) | (with_reducible refine Kd.C_alloc ?_ _) | (with_reducible refine Kd.C_drewN ?_ _) | (with_reducible refine Kd.C_drew ?_))); (case side2 => exact HC0.out); rintro e w13 ⟨rfl, hb⟩; have n0_ := Aside0.mk (blk_below (g := gb206) (o := .cells #[.int .i64 a2_0, .int .i64 a2_1, .int .i64 a2_2, .int .i64 a2_3, .int .i64 a2_4, .int .i64 a2_5, .int .i64 a2_6] 24 (0, 0)) (by (with_reducible repeat (first | refine blk_drewN ?_ _ | refine blk_drew ?_ | refine blk_alloc ?_ _)); exact BK206.out) hb); have n1_ := Aside0.mk (below_step (by repeat (first | (with_reducible first | exact HB.out | apply below_alloc | apply pw_below_drewN | apply below_drew1 | refine below_set ?_ GE206.out) | exact HB.out)) hb); clear BK206; clear HB; have BK206 := n0_; have HB := n1_; clear n0_ n1_; (try clear hb); (try clear hb2); (try clear hk); (try clear hi)))
     go_ret
     exact ⟨by first | rfl | (simp [errW_none, errW_some] <;> rfl) | (simp [*, errW_none, errW_some] <;> rfl), by repeat (first | (with_reducible first | exact HB.out | apply below_alloc | apply pw_below_drewN | apply below_drew1 | refine below_set ?_ GE206.out) | exact HB.out)⟩
 · rw [if_neg c4] at H
   have c4b0 : decide ((l0.length : Int) ≤ 200) = false := decide_eq_false c4
   have c4b1 : decide (l0.length ≤ 200) = false := decide_eq_false (by omega)
   clear c4
   obtain rfl := Option.some.inj H
   go_enter Try.func18, Try.ntmps18
   go_wp2_with (first | ((with_reducible refine gate_dst (N := 5) rfl ?_); refine box_event ?hg (N := 5) ?hd (cs := #[.int .i64 a2_0, .int .i64 a2_1, .int .i64 a2_2, .int .i64 a2_3, .int .i64 a2_4, .int .i64 a2_5, .int .i64 a2_6]) (t := 24) ?hr ?_; (case hd => rfl); (case hg => rfl); (case hr => first | (go_simp; done) | (go_simp; rfl)); intro gb206 hg w14 hbox hb; have n0_ := Aside0.mk (below_step (by repeat (first | (with_reducible first | exact HB.out | apply below_alloc | apply pw_below_drewN | apply below_drew1) | exact HB.out)) hb); have n1_ := Aside0.mk (hbox); have n2_ := Aside0.mk ((by rw [hg]; exact (below_size (by repeat (first | (with_reducible first | exact HB.out | apply below_alloc | apply pw_below_drewN | apply below_drew1) | exact HB.out))) : w.heap.size ≤ gb206)); have n3_ := Aside0.mk ((by rw [hg]; exact (below_size (by repeat (first | (with_reducible first | exact HB.out | apply below_alloc | apply pw_below_drewN | apply below_drew1) | exact HB.out))) : w.heap.size ≤ gb206)); clear HB; have HB := n0_; have BK206 := n1_; have GW206 := n2_; have GE206 := n3_; clear n0_ n1_ n2_ n3_; clear hb hbox hg))
   go_ret
   exact ⟨by first | rfl | (simp [errW_none, errW_some] <;> rfl) | (simp [*, errW_none, errW_some] <;> rfl), by repeat (first | (with_reducible first | exact HB.out | apply below_alloc | apply pw_below_drewN | apply below_drew1 | refine below_set ?_ GE206.out) | exact HB.out)⟩

end Go.Proofs.Ytknlneeglkchmaa.P
