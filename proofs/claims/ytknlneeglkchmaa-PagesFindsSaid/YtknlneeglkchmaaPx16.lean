-- PRINTED by print.py (a twelfth state) out of the translation. Not trusted: Lean checks it.
import Derived.Test.YtknlneeglkchmaaPx0
import Derived.Test.YtknlneeglkchmaaPx1
import Derived.Test.YtknlneeglkchmaaPx5
import Derived.Test.YtknlneeglkchmaaPx14
namespace Go.Proofs.Ytknlneeglkchmaa.P
open Go.RowKit Go.Proofs.YtknlneeglkchmaaW.PrintWords Go.Proofs.YtknlneeglkchmaaW.PrintLast Go.Proofs.YtknlneeglkchmaaW.PrintMore
attribute [local go_sem] max2_int min2_int max_two min_two max_three min_three max_four min_four   -- for this text's walks alone
set_option linter.unusedVariables false
set_option linter.unusedSimpArgs false

attribute [local go_sem high] eqA60
/-! ### pages_Find: function 28 -/
def pages_Find.l0 : Nat → List Int → Int → Int → Int → Option (Int)
 | 0, _, _, _, _ => none
 | k + 1, x0, x1, x5, x6 => if x5 < x6 then (if 0 ≤ (wrap64 (Int.tdiv (wrap64 (x5 + x6)) 2)) then (if (wrap64 (Int.tdiv (wrap64 (x5 + x6)) 2)) < (x0.length : Int) then (if (rd x0 (wrap64 (Int.tdiv (wrap64 (x5 + x6)) 2))) ≤ x1 then (pages_Find.l0 k x0 x1 (wrap64 ((wrap64 (Int.tdiv (wrap64 (x5 + x6)) 2)) + 1)) x6) else (pages_Find.l0 k x0 x1 x5 (wrap64 (Int.tdiv (wrap64 (x5 + x6)) 2)))) else (none)) else (none)) else (some (wrap64 (x5 - 1)))
def pages_Find.f (k : Nat) (l0 : List Int) (a1 : Int) : Option (Int) := pages_Find.l0 k l0 a1 0 (l0.length : Int)
theorem pages_Find.mono_l : ∀ k, (∀ y0 y1 y2 y3, LeO (pages_Find.l0 k y0 y1 y2 y3) (pages_Find.l0 (k + 1) y0 y1 y2 y3))
 | 0 => fun _ _ _ _ r h => by simp [pages_Find.l0] at h
 | k + 1 => by
   have ih0 := pages_Find.mono_l k
   · intro y0 y1 y2 y3
     unfold pages_Find.l0
     repeat' first
     | (with_reducible exact ih0 _ _ _ _)
     | (with_reducible exact LeO.refl _)
     | (with_reducible exact LeO.none _)
     | (with_reducible refine LeO.ite ?_ ?_)
     | (with_reducible refine LeO.bind ?_ (fun _ => ?_))
     | exact ih0 _ _ _ _
     | exact LeO.none _
     | refine LeO.ite ?_ ?_
     | refine LeO.bind ?_ (fun _ => ?_)
theorem pages_Find.mono : ∀ a0 a1 k, LeO (pages_Find.f k a0 a1) (pages_Find.f (k + 1) a0 a1) := by
 intro a0 a1 k
 have ih0 := pages_Find.mono_l k
 unfold pages_Find.f
 repeat' first
     | (with_reducible exact ih0 _ _ _ _)
     | (with_reducible exact LeO.refl _)
     | (with_reducible exact LeO.none _)
     | (with_reducible refine LeO.ite ?_ ?_)
     | (with_reducible refine LeO.bind ?_ (fun _ => ?_))
     | exact ih0 _ _ _ _
     | exact LeO.none _
     | refine LeO.ite ?_ ?_
     | refine LeO.bind ?_ (fun _ => ?_)
theorem pages_Find.l0.ev {x0 : List Int} {x1 : Int} {x5 : Int} {x6 : Int} {r_ : Int} (h : Ev (fun k => if x5 < x6 then (if 0 ≤ (wrap64 (Int.tdiv (wrap64 (x5 + x6)) 2)) then (if (wrap64 (Int.tdiv (wrap64 (x5 + x6)) 2)) < (x0.length : Int) then (if (rd x0 (wrap64 (Int.tdiv (wrap64 (x5 + x6)) 2))) ≤ x1 then (pages_Find.l0 k x0 x1 (wrap64 ((wrap64 (Int.tdiv (wrap64 (x5 + x6)) 2)) + 1)) x6) else (pages_Find.l0 k x0 x1 x5 (wrap64 (Int.tdiv (wrap64 (x5 + x6)) 2)))) else (none)) else (none)) else (some (wrap64 (x5 - 1)))) r_) : Ev (fun k => pages_Find.l0 k x0 x1 x5 x6) r_ := Ev.step (fun k => by rw [pages_Find.l0]) h
set_option maxHeartbeats 8000000 in
set_option maxRecDepth 100000 in
theorem pages_Find.calls (k : Nat) (A0 : Option Addr) (c0 : Nat) (l0 : List Int) (a1 : Int) (r : Int) (w : World) (hr0 : Kd.C (Kd.int .i64) w A0 l0.length l0) (hc0 : l0.length ≤ c0) (h : pages_Find.f k l0 a1 = some r) :
   Calls Try.prog 28 #[.slice A0 l0.length c0, .int .i64 a1] w fun e w' => e = .returned (.int .i64 r) ∧ Drawn0 w w' := by
 have HR0 := Aside0.mk hr0
 have HC0 := Aside0.mk hc0
 clear hr0 hc0
 have H : (pages_Find.l0 k l0 a1 0 (l0.length : Int)) = some r := h
 clear h
 have H' := Aside0.mk H
 clear H
 go_enter Try.func28, Try.ntmps28
 go_wp2
 go_loopg [5, 6] k (fun kq v5 v6 w' => ∃ (x5_1 : Int) (x6_1 : Int), v5 = .int .i64 x5_1 ∧ v6 = .int .i64 x6_1 ∧ Aside0 (pages_Find.l0 kq l0 a1 x5_1 x6_1 = some r) ∧ Aside0 (kq ≤ k) ∧ Drawn0 w w')
 case atStart => exact ⟨(0), ((l0.length : Int)), (by first | rfl | (simp; done) | (simp [*]; done)), (by first | rfl | (simp; done) | (simp [*]; done)), H', ⟨Nat.le_refl _⟩, by repeat (first | exact Drawn0.refl _ | apply Drawn0.step)⟩
 case round =>
   clear H'
   try clear c2
   try clear p2
   obtain ⟨x5_1, x6_1, rfl, rfl, HA, HK1, ⟨m1, rfl⟩⟩ := hrel
   cases gk with
   | zero => exact absurd HA.out (by simp [pages_Find.l0])
   | succ k1 =>
     have H := HA.out
     clear HA
     simp only [pages_Find.l0] at H
     by_cases c3 : x5_1 < x6_1
     · rw [if_pos c3] at H
       have c3b0 : decide (x5_1 < x6_1) = true := decide_eq_true c3
       clear c3
       obtain ⟨ji4, hji4⟩ : ∃ j_ : Int, (wrap64 (Int.tdiv (wrap64 (x5_1 + x6_1)) 2)) = j_ := ⟨_, rfl⟩
       replace H : (if 0 ≤ (ji4) then (if (ji4) < (l0.length : Int) then (if (rd l0 (ji4)) ≤ a1 then (pages_Find.l0 k1 l0 a1 (wrap64 ((ji4) + 1)) x6_1) else (pages_Find.l0 k1 l0 a1 x5_1 ji4)) else (none)) else (none)) = some r := by first | (rw [hji4] at H; exact H) | (simp only [hji4] at H ⊢; exact H)
       have hji4w : (IntKind.i64.wrap (Int.tdiv (wrap64 (x5_1 + x6_1)) 2)) = ji4 := (i64_w _).trans hji4
       by_cases c5 : 0 ≤ (ji4)
       · rw [if_pos c5] at H
         have c5b0 : decide (0 ≤ (ji4)) = true := decide_eq_true c5
         clear c5
         by_cases c6 : (ji4) < (l0.length : Int)
         · rw [if_pos c6] at H
           have c6b0 : decide ((ji4) < (l0.length : Int)) = true := decide_eq_true c6
           clear c6
           by_cases c7 : (rd l0 (ji4)) ≤ a1
           · rw [if_pos c7] at H
             have c7b0 : decide ((rd l0 (ji4)) ≤ a1) = true := decide_eq_true c7
             clear c7
             have H' := Aside0.mk H
             clear H
             have p288 : 0 ≤ ((ji4) : Int) := of_decide_eq_true (by first | (with_reducible assumption) | assumption)
             have q288 : (ji4) < (l0.length : Int) := of_decide_eq_true (by first | (with_reducible assumption) | assumption)
             obtain ⟨ad288, e288, hx288_0⟩ := Kd.at_int HR0.out (ji4) p288 q288
             cases e288
             replace p288 := eq_true p288
             replace q288 := eq_true q288
             go_wp2
             go_roundg k1
             case measure => have := HK1.out; omega
             case rel => exact ⟨(wrap64 ((ji4) + 1)), (x6_1), (by first | rfl | (simp; done) | (simp only [← hji4] <;> (first | rfl | simp)) | (simp [*]; done)), (by first | rfl | (simp; done) | (simp [*]; done)), H', ⟨by have := HK1.out; omega⟩, by repeat (first | exact Drawn0.refl _ | apply Drawn0.step)⟩
           · rw [if_neg c7] at H
             have c7b0 : decide ((rd l0 (ji4)) ≤ a1) = false := decide_eq_false c7
             clear c7
             have H' := Aside0.mk H
             clear H
             have p288 : 0 ≤ ((ji4) : Int) := of_decide_eq_true (by first | (with_reducible assumption) | assumption)
             have q288 : (ji4) < (l0.length : Int) := of_decide_eq_true (by first | (with_reducible assumption) | assumption)
             obtain ⟨ad288, e288, hx288_0⟩ := Kd.at_int HR0.out (ji4) p288 q288
             cases e288
             replace p288 := eq_true p288
             replace q288 := eq_true q288
             go_wp2
             go_roundg k1
             case measure => have := HK1.out; omega
             case rel => exact ⟨(x5_1), (ji4), (by first | rfl | (simp; done) | (simp [*]; done)), (by first | rfl | (simp; done) | (simp only [← hji4] <;> (first | rfl | simp)) | (simp [*]; done)), H', ⟨by have := HK1.out; omega⟩, by repeat (first | exact Drawn0.refl _ | apply Drawn0.step)⟩
         · rw [if_neg c6] at H
           exact absurd H (by simp)
       · rw [if_neg c5] at H
         exact absurd H (by simp)
     · rw [if_neg c3] at H
       have c3b0 : decide (x5_1 < x6_1) = false := decide_eq_false c3
       clear c3
       obtain rfl := Option.some.inj H
       go_wp2
       go_ret
       exact ⟨by first | rfl | (simp; done) | (simp [*]; done), by repeat (first | exact Drawn0.refl _ | apply Drawn0.step)⟩

/-! ### regletlaw12_PagesFinds: function 8 -/
mutual
def regletlaw12_PagesFinds.l0 : Nat → List Int → Int → List Int → Int → Int → Option (Bool)
 | 0, _, _, _, _, _ => none
 | k + 1, x0, x1, x5, x6, x7 => if x7 < (x0.length : Int) then (if 0 ≤ x7 then (if (rd x0 x7) < 1 then (some true) else (if (rd x0 x7) > 1099511627776 then (some true) else (if x5.length < 17592186044416 then (regletlaw12_PagesFinds.l0 k x0 x1 (x5 ++ [x6]) (wrap64 (x6 + (rd x0 x7))) (wrap64 (x7 + 1))) else (none)))) else (none)) else (regletlaw12_PagesFinds.l1 k x1 x5 x6 (-1) 0)
def regletlaw12_PagesFinds.l1 : Nat → Int → List Int → Int → Int → Int → Option (Bool)
 | 0, _, _, _, _, _ => none
 | k + 1, x1, x5, x6, x8, x9 => if x9 < (x5.length : Int) then (if 0 ≤ x9 then (if (rd x5 x9) ≤ x1 then (regletlaw12_PagesFinds.l1 k x1 x5 x6 x9 (wrap64 (x9 + 1))) else (regletlaw12_PagesFinds.l1 k x1 x5 x6 x8 (wrap64 (x9 + 1)))) else (none)) else ((pages_Find.f k x5 x1).bind fun t297 => (if t297 = x8 then (if x8 < 0 then (some true) else ((pages_End.f x5 x8 x6).bind fun t298 => ((regletref12_End.f x5 x8 x6).bind fun t299 => (some (t298 == t299))))) else (some false)))
end
def regletlaw12_PagesFinds.f (k : Nat) (l0 : List Int) (a1 : Int) : Option (Bool) := (regletlaw12_awake.f k).bind fun t289 => (if t289 = true then (if (l0.length : Int) > 200 then (some true) else (regletlaw12_PagesFinds.l0 k l0 a1 ([] : List Int) 0 0)) else (some false))
theorem regletlaw12_PagesFinds.mono_l : ∀ k, (∀ y0 y1 y2 y3 y4, LeO (regletlaw12_PagesFinds.l0 k y0 y1 y2 y3 y4) (regletlaw12_PagesFinds.l0 (k + 1) y0 y1 y2 y3 y4)) ∧ (∀ y0 y1 y2 y3 y4, LeO (regletlaw12_PagesFinds.l1 k y0 y1 y2 y3 y4) (regletlaw12_PagesFinds.l1 (k + 1) y0 y1 y2 y3 y4))
 | 0 => ⟨fun _ _ _ _ _ r h => by simp [regletlaw12_PagesFinds.l0] at h, fun _ _ _ _ _ r h => by simp [regletlaw12_PagesFinds.l1] at h⟩
 | k + 1 => by
   obtain ⟨ih0, ih1⟩ := regletlaw12_PagesFinds.mono_l k
   refine ⟨?_, ?_⟩
   · intro y0 y1 y2 y3 y4
     unfold regletlaw12_PagesFinds.l0
     repeat' first
     | (with_reducible exact ih0 _ _ _ _ _)
     | (with_reducible exact ih1 _ _ _ _ _)
     | (with_reducible exact pages_Find.mono _ _ _)
     | (with_reducible exact regletlaw12_awake.mono _)
     | (with_reducible exact LeO.refl _)
     | (with_reducible exact LeO.none _)
     | (with_reducible refine LeO.ite ?_ ?_)
     | (with_reducible refine LeO.bind ?_ (fun _ => ?_))
     | exact ih0 _ _ _ _ _
     | exact ih1 _ _ _ _ _
     | exact pages_Find.mono _ _ _
     | exact regletlaw12_awake.mono _
     | exact LeO.none _
     | refine LeO.ite ?_ ?_
     | refine LeO.bind ?_ (fun _ => ?_)
   · intro y0 y1 y2 y3 y4
     unfold regletlaw12_PagesFinds.l1
     repeat' first
     | (with_reducible exact ih0 _ _ _ _ _)
     | (with_reducible exact ih1 _ _ _ _ _)
     | (with_reducible exact pages_Find.mono _ _ _)
     | (with_reducible exact regletlaw12_awake.mono _)
     | (with_reducible exact LeO.refl _)
     | (with_reducible exact LeO.none _)
     | (with_reducible refine LeO.ite ?_ ?_)
     | (with_reducible refine LeO.bind ?_ (fun _ => ?_))
     | exact ih0 _ _ _ _ _
     | exact ih1 _ _ _ _ _
     | exact pages_Find.mono _ _ _
     | exact regletlaw12_awake.mono _
     | exact LeO.none _
     | refine LeO.ite ?_ ?_
     | refine LeO.bind ?_ (fun _ => ?_)
theorem regletlaw12_PagesFinds.mono : ∀ a0 a1 k, LeO (regletlaw12_PagesFinds.f k a0 a1) (regletlaw12_PagesFinds.f (k + 1) a0 a1) := by
 intro a0 a1 k
 obtain ⟨ih0, ih1⟩ := regletlaw12_PagesFinds.mono_l k
 unfold regletlaw12_PagesFinds.f
 repeat' first
     | (with_reducible exact ih0 _ _ _ _ _)
     | (with_reducible exact ih1 _ _ _ _ _)
     | (with_reducible exact pages_Find.mono _ _ _)
     | (with_reducible exact regletlaw12_awake.mono _)
     | (with_reducible exact LeO.refl _)
     | (with_reducible exact LeO.none _)
     | (with_reducible refine LeO.ite ?_ ?_)
     | (with_reducible refine LeO.bind ?_ (fun _ => ?_))
     | exact ih0 _ _ _ _ _
     | exact ih1 _ _ _ _ _
     | exact pages_Find.mono _ _ _
     | exact regletlaw12_awake.mono _
     | exact LeO.none _
     | refine LeO.ite ?_ ?_
     | refine LeO.bind ?_ (fun _ => ?_)
theorem regletlaw12_PagesFinds.l0.ev {x0 : List Int} {x1 : Int} {x5 : List Int} {x6 : Int} {x7 : Int} {r_ : Bool} (h : Ev (fun k => if x7 < (x0.length : Int) then (if 0 ≤ x7 then (if (rd x0 x7) < 1 then (some true) else (if (rd x0 x7) > 1099511627776 then (some true) else (if x5.length < 17592186044416 then (regletlaw12_PagesFinds.l0 k x0 x1 (x5 ++ [x6]) (wrap64 (x6 + (rd x0 x7))) (wrap64 (x7 + 1))) else (none)))) else (none)) else (regletlaw12_PagesFinds.l1 k x1 x5 x6 (-1) 0)) r_) : Ev (fun k => regletlaw12_PagesFinds.l0 k x0 x1 x5 x6 x7) r_ := Ev.step (fun k => by rw [regletlaw12_PagesFinds.l0]) h
theorem regletlaw12_PagesFinds.l1.ev {x1 : Int} {x5 : List Int} {x6 : Int} {x8 : Int} {x9 : Int} {r_ : Bool} (h : Ev (fun k => if x9 < (x5.length : Int) then (if 0 ≤ x9 then (if (rd x5 x9) ≤ x1 then (regletlaw12_PagesFinds.l1 k x1 x5 x6 x9 (wrap64 (x9 + 1))) else (regletlaw12_PagesFinds.l1 k x1 x5 x6 x8 (wrap64 (x9 + 1)))) else (none)) else ((pages_Find.f k x5 x1).bind fun t297 => (if t297 = x8 then (if x8 < 0 then (some true) else ((pages_End.f x5 x8 x6).bind fun t298 => ((regletref12_End.f x5 x8 x6).bind fun t299 => (some (t298 == t299))))) else (some false)))) r_) : Ev (fun k => regletlaw12_PagesFinds.l1 k x1 x5 x6 x8 x9) r_ := Ev.step (fun k => by rw [regletlaw12_PagesFinds.l1]) h
set_option maxHeartbeats 8000000 in
set_option maxRecDepth 100000 in
theorem regletlaw12_PagesFinds.calls (k : Nat) (A0 : Option Addr) (c0 : Nat) (l0 : List Int) (a1 : Int) (r : Bool) (w : World) (hr0 : Kd.C (Kd.int .i64) w A0 l0.length l0) (hc0 : l0.length ≤ c0) (h : regletlaw12_PagesFinds.f k l0 a1 = some r) :
   Calls Try.prog 8 #[.slice A0 l0.length c0, .int .i64 a1] w fun e w' => e = .returned (.bool r) ∧ Below w.heap.size w w' := by
 have HR0 := Aside0.mk hr0
 have HC0 := Aside0.mk hc0
 clear hr0 hc0
 have HB := Aside0.mk (Below.refl w.heap.size w)
 have H : ((regletlaw12_awake.f k).bind fun t289 => (if t289 = true then (if (l0.length : Int) > 200 then (some true) else (regletlaw12_PagesFinds.l0 k l0 a1 ([] : List Int) 0 0)) else (some false))) = some r := h
 clear h
 replace H := Option.bind_eq_some_iff.mp H
 obtain ⟨t289, A30, H⟩ := H
 replace H : (if t289 = true then (if (l0.length : Int) > 200 then (some true) else (regletlaw12_PagesFinds.l0 k l0 a1 ([] : List Int) 0 0)) else (some false)) = some r := H
 have A3 := Aside0.mk A30
 clear A30
 by_cases c4 : t289 = true
 · subst c4
   have H1 : (if (l0.length : Int) > 200 then (some true) else (regletlaw12_PagesFinds.l0 k l0 a1 ([] : List Int) 0 0)) = some r := by rw [if_pos rfl] at H; exact H
   clear H
   have H := H1
   clear H1
   by_cases c5 : (l0.length : Int) > 200
   · rw [if_pos c5] at H
     have c5b0 : decide (200 < (l0.length : Int)) = true := decide_eq_true c5
     have c5b1 : decide (200 < l0.length) = true := decide_eq_true (by omega)
     clear c5
     obtain rfl := Option.some.inj H
     go_enter Try.func8, Try.ntmps8
     go_wp2_with (first | ((with_reducible refine gate_callee (f := 10) rfl ?_); refine goesL_ (some 10) rfl rfl Try.func10 (by kernel_rfl) rfl #[] rfl (by (try simp only [List.map_toArray, List.map_cons, List.map_nil]); first | done | rfl | (simp only [List.length_drop, List.length_take]; rfl)) ?_; (with_reducible refine (regletlaw12_awake.calls k  true _ A3.out).mono ?_); rintro e w6 ⟨rfl, hb⟩; refine ⟨_, rfl, ?_⟩; have n0_ := Aside0.mk (below_step (by repeat (first | (with_reducible first | exact HB.out | apply below_alloc | apply pw_below_drewN | apply below_drew1) | exact HB.out)) hb); clear HB; have HB := n0_; clear n0_; (try clear hb); (try clear hb2); (try clear hk); (try clear hi)))
     go_ret
     exact ⟨by first | rfl | (simp [errW_none, errW_some] <;> rfl) | (simp [*, errW_none, errW_some] <;> rfl), by repeat (first | (with_reducible first | exact HB.out | apply below_alloc | apply pw_below_drewN | apply below_drew1) | exact HB.out)⟩
   · rw [if_neg c5] at H
     have c5b0 : decide (200 < (l0.length : Int)) = false := decide_eq_false c5
     have c5b1 : decide (200 < l0.length) = false := decide_eq_false (by omega)
     clear c5
     have H' := Aside0.mk H
     clear H
     go_enter Try.func8, Try.ntmps8
     go_wp2_with (first | ((with_reducible refine gate_callee (f := 10) rfl ?_); refine goesL_ (some 10) rfl rfl Try.func10 (by kernel_rfl) rfl #[] rfl (by (try simp only [List.map_toArray, List.map_cons, List.map_nil]); first | done | rfl | (simp only [List.length_drop, List.length_take]; rfl)) ?_; (with_reducible refine (regletlaw12_awake.calls k  true _ A3.out).mono ?_); rintro e w7 ⟨rfl, hb⟩; refine ⟨_, rfl, ?_⟩; have n0_ := Aside0.mk (below_step (by repeat (first | (with_reducible first | exact HB.out | apply below_alloc | apply pw_below_drewN | apply below_drew1) | exact HB.out)) hb); clear HB; have HB := n0_; clear n0_; (try clear hb); (try clear hb2); (try clear hk); (try clear hi)))
     go_loopg [5, 6, 7] k (fun kq v5 v6 v7 w' => ∃ (x5_1 : List Int) (x6_1 : Int) (x7_1 : Int), v6 = .int .i64 x6_1 ∧ v7 = .int .i64 x7_1 ∧ Aside0 (regletlaw12_PagesFinds.l0 kq l0 a1 x5_1 x6_1 x7_1 = some r) ∧ Aside0 (kq ≤ k) ∧ Aside0 (Kd.R (Kd.int .i64) 3 w' w.heap.size (fun _ => True) v5 x5_1) ∧ Aside0 (Below w.heap.size w w'))
     case atStart => exact ⟨(([] : List Int)), (0), (0), (by first | rfl | (simp; done) | (simp [*]; done)), (by first | rfl | (simp; done) | (simp [*]; done)), H', ⟨Nat.le_refl _⟩, ⟨by first | exact Kd.R_nil _ _ _ _ _ | exact Kd.N_nil _ _ _ _ _ | exact Kd.V_nil _ _ _ _ _ | exact Kd.Q_nil _ _ _ _ _ | exact Kd.S_nil _ _ _ _ _⟩, ⟨by repeat (first | (with_reducible first | exact HB.out | apply below_alloc | apply pw_below_drewN | apply below_drew1) | exact HB.out)⟩⟩
     case round =>
       clear H'
       try clear c1
       try clear p2
       try clear c4
       try clear c5
       try clear c5b0
       try clear c5b1
       obtain ⟨x5_1, x6_1, x7_1, rfl, rfl, HA, HK1, HO_5, HB⟩ := hrel
       cases gk with
       | zero => exact absurd HA.out (by simp [regletlaw12_PagesFinds.l0])
       | succ k1 =>
         have H := HA.out
         clear HA
         simp only [regletlaw12_PagesFinds.l0] at H
         by_cases c8 : x7_1 < (l0.length : Int)
         · rw [if_pos c8] at H
           have c8b0 : decide (x7_1 < (l0.length : Int)) = true := decide_eq_true c8
           clear c8
           by_cases c9 : 0 ≤ x7_1
           · rw [if_pos c9] at H
             have c9b0 : decide (0 ≤ x7_1) = true := decide_eq_true c9
             clear c9
             by_cases c10 : (rd l0 x7_1) < 1
             · rw [if_pos c10] at H
               have c10b0 : decide ((rd l0 x7_1) < 1) = true := decide_eq_true c10
               clear c10
               obtain rfl := Option.some.inj H
               have p290 : 0 ≤ (x7_1 : Int) := of_decide_eq_true (by first | (with_reducible assumption) | assumption)
               have q290 : x7_1 < (l0.length : Int) := of_decide_eq_true (by first | (with_reducible assumption) | assumption)
               obtain ⟨ad290, e290, hx290_0⟩ := Kd.at_int HR0.out x7_1 p290 q290
               cases e290
               replace hx290_0 := (HB.out.cell (World.block_lt_of_cell? w _ hx290_0)).trans hx290_0
               replace p290 := eq_true p290
               replace q290 := eq_true q290
               go_wp2
               go_ret
               exact ⟨by first | rfl | (simp [errW_none, errW_some] <;> rfl) | (simp [*, errW_none, errW_some] <;> rfl), by repeat (first | (with_reducible first | exact HB.out | apply below_alloc | apply pw_below_drewN | apply below_drew1) | exact HB.out)⟩
             · rw [if_neg c10] at H
               have c10b0 : decide ((rd l0 x7_1) < 1) = false := decide_eq_false c10
               clear c10
               by_cases c11 : (rd l0 x7_1) > 1099511627776
               · rw [if_pos c11] at H
                 have c11b0 : decide (1099511627776 < (rd l0 x7_1)) = true := decide_eq_true c11
                 clear c11
                 obtain rfl := Option.some.inj H
                 have p290 : 0 ≤ (x7_1 : Int) := of_decide_eq_true (by first | (with_reducible assumption) | assumption)
                 have q290 : x7_1 < (l0.length : Int) := of_decide_eq_true (by first | (with_reducible assumption) | assumption)
                 obtain ⟨ad290, e290, hx290_0⟩ := Kd.at_int HR0.out x7_1 p290 q290
                 cases e290
                 replace hx290_0 := (HB.out.cell (World.block_lt_of_cell? w _ hx290_0)).trans hx290_0
                 replace p290 := eq_true p290
                 replace q290 := eq_true q290
                 have p291 : 0 ≤ (x7_1 : Int) := of_decide_eq_true (by first | (with_reducible assumption) | assumption)
                 have q291 : x7_1 < (l0.length : Int) := of_decide_eq_true (by first | (with_reducible assumption) | assumption)
                 obtain ⟨ad291, e291, hx291_0⟩ := Kd.at_int HR0.out x7_1 p291 q291
                 obtain rfl : ad290 = ad291 := (by injection e291)
                 replace hx291_0 := (HB.out.cell (World.block_lt_of_cell? w _ hx291_0)).trans hx291_0
                 replace p291 := eq_true p291
                 replace q291 := eq_true q291
                 go_wp2
                 go_ret
                 exact ⟨by first | rfl | (simp [errW_none, errW_some] <;> rfl) | (simp [*, errW_none, errW_some] <;> rfl), by repeat (first | (with_reducible first | exact HB.out | apply below_alloc | apply pw_below_drewN | apply below_drew1) | exact HB.out)⟩
               · rw [if_neg c11] at H
                 have c11b0 : decide (1099511627776 < (rd l0 x7_1)) = false := decide_eq_false c11
                 clear c11
                 by_cases c12 : x5_1.length < 17592186044416
                 · rw [if_pos c12] at H
                   have LMc12 := Aside0.mk c12
                   clear c12
                   obtain ⟨y292, hy292⟩ : ∃ y_ : List Int, y_ = (x5_1 ++ [x6_1]) := ⟨_, rfl⟩
                   replace H : (regletlaw12_PagesFinds.l0 k1 l0 a1 y292 (wrap64 (x6_1 + (rd l0 x7_1))) (wrap64 (x7_1 + 1))) = some r := by first | (rw [hy292]; with_reducible exact H) | (have H2_ := (Option.bind_some _ _).symm.trans H; rw [hy292]; with_reducible exact H2_) | (have H2_ := (Option.bind_some _ _).symm.trans H; with_reducible exact H2_) | with_reducible exact H | (rw [hy292]; exact H) | exact H
                   have Ny292 := Aside0.mk hy292
                   clear hy292
                   have H' := Aside0.mk H
                   clear H
                   have p290 : 0 ≤ (x7_1 : Int) := of_decide_eq_true (by first | (with_reducible assumption) | assumption)
                   have q290 : x7_1 < (l0.length : Int) := of_decide_eq_true (by first | (with_reducible assumption) | assumption)
                   obtain ⟨ad290, e290, hx290_0⟩ := Kd.at_int HR0.out x7_1 p290 q290
                   cases e290
                   replace hx290_0 := (HB.out.cell (World.block_lt_of_cell? w _ hx290_0)).trans hx290_0
                   replace p290 := eq_true p290
                   replace q290 := eq_true q290
                   have p291 : 0 ≤ (x7_1 : Int) := of_decide_eq_true (by first | (with_reducible assumption) | assumption)
                   have q291 : x7_1 < (l0.length : Int) := of_decide_eq_true (by first | (with_reducible assumption) | assumption)
                   obtain ⟨ad291, e291, hx291_0⟩ := Kd.at_int HR0.out x7_1 p291 q291
                   obtain rfl : ad290 = ad291 := (by injection e291)
                   replace hx291_0 := (HB.out.cell (World.block_lt_of_cell? w _ hx291_0)).trans hx291_0
                   replace p291 := eq_true p291
                   replace q291 := eq_true q291
                   go_wp2_with (first | ((with_reducible refine gate_builtin (b := .append) (xs := #[.tmp 33, .tmp 35]) rfl ?_); at_builtin; refine Kd.R_append (Kd.int .i64) (w0 := w) w.heap.size rfl (.tmp 33) (.tmp 35) 26 3 (.int .i64 0) 8 rfl Try.underlying26 info3 rfl (by decide) (by omega) u5 x5_1 x6_1 [.int .i64 x6_1] (fun _ => True) (fun _ => False) rfl rfl ?aP (fun _ hk => hk.elim) ?aF ?aO ?aB ?aS ?aL ?_; (case aP => exact rfl); (case aB => exact (by repeat (first | (with_reducible first | exact HB.out | apply below_alloc | apply pw_below_drewN | apply below_drew1) | exact HB.out))); (case aF => exact (fun _ _ => trivial)); (case aO => exact (by (with_reducible repeat (first | apply Kd.R_alloc | apply Kd.R_drewN | apply Kd.R_drew)); exact HO_5.out)); (case aS => exact (below_size (by repeat (first | (with_reducible first | exact HB.out | apply below_alloc | apply pw_below_drewN | apply below_drew1) | exact HB.out)))); (case aL => have := LMc12.out; omega); intro v293 w13 ho hb hg hat; rw [← Ny292.out] at ho; have n0_ := Aside0.mk (hb); have n1_ := Aside0.mk (ho); clear HB; clear HO_5; have HB := n0_; have HO294 := n1_; clear n0_ n1_; clear ho hb hg hat; have p295 : 0 ≤ (x7_1 : Int) := of_decide_eq_true (by first | (with_reducible assumption) | assumption); have q295 : x7_1 < (l0.length : Int) := of_decide_eq_true (by first | (with_reducible assumption) | assumption); obtain ⟨ad295, e295, hx295_0⟩ := Kd.at_int HR0.out x7_1 p295 q295; obtain rfl : ad290 = ad295 := (by injection e295); replace hx295_0 := (HB.out.cell (World.block_lt_of_cell? w _ hx295_0)).trans hx295_0; replace p295 := eq_true p295; replace q295 := eq_true q295))
                   go_roundg k1
                   case measure => have := HK1.out; omega
                   case rel => exact ⟨(y292), (wrap64 (x6_1 + (rd l0 x7_1))), (wrap64 (x7_1 + 1)), (by first | rfl | (simp; done) | (simp [*]; done)), (by first | rfl | (simp; done) | (simp [*]; done)), H', ⟨by have := HK1.out; omega⟩, ⟨by (with_reducible repeat (first | apply Kd.R_alloc | apply Kd.R_drewN | apply Kd.R_drew)); exact HO294.out⟩, ⟨by repeat (first | (with_reducible first | exact HB.out | apply below_alloc | apply pw_below_drewN | apply below_drew1) | exact HB.out)⟩⟩
                 · rw [if_neg c12] at H
                   exact absurd H (by simp)
           · rw [if_neg c9] at H
             exact absurd H (by simp)
         · rw [if_neg c8] at H
           have c8b0 : decide (x7_1 < (l0.length : Int)) = false := decide_eq_false c8
           clear c8
           have H' := Aside0.mk H
           clear H
           go_wp2
           go_loopg [8, 9] k1 (fun kq v8 v9 w' => ∃ (x8_2 : Int) (x9_2 : Int), v8 = .int .i64 x8_2 ∧ v9 = .int .i64 x9_2 ∧ Aside0 (regletlaw12_PagesFinds.l1 kq a1 x5_1 x6_1 x8_2 x9_2 = some r) ∧ Aside0 (kq ≤ k1) ∧ Aside0 (Kd.R (Kd.int .i64) 3 w' w.heap.size (fun _ => True) u5 x5_1) ∧ Aside0 (Below w.heap.size w w'))
           case atStart => exact ⟨((-1)), (0), (by first | rfl | (simp; done) | (simp [*]; done)), (by first | rfl | (simp; done) | (simp [*]; done)), H', ⟨Nat.le_refl _⟩, ⟨by (with_reducible repeat (first | apply Kd.R_alloc | apply Kd.R_drewN | apply Kd.R_drew)); exact HO_5.out⟩, ⟨by repeat (first | (with_reducible first | exact HB.out | apply below_alloc | apply pw_below_drewN | apply below_drew1) | exact HB.out)⟩⟩
           case round =>
             clear H'
             try clear c1
             try clear p2
             try clear q2
             try clear hx2
             try clear c4
             try clear c5
             try clear c5b0
             try clear c5b1
             try clear p6
             try clear c8
             try clear c8b0
             try clear c9
             try clear c9b0
             try clear c10
             try clear c10b0
             try clear c11
             try clear c11b0
             try clear c12
             try clear hx290_0
             try clear hx291_0
             try clear hx295_0
             try clear p2
             try clear p290
             try clear p291
             try clear p295
             try clear q290
             try clear q291
             try clear q295
             obtain ⟨x8_2, x9_2, rfl, rfl, HA, HK2, HO_5, HB⟩ := hrel
             cases gk with
             | zero => exact absurd HA.out (by simp [regletlaw12_PagesFinds.l1])
             | succ k2 =>
               have H := HA.out
               clear HA
               simp only [regletlaw12_PagesFinds.l1] at H
               by_cases c14 : x9_2 < (x5_1.length : Int)
               · rw [if_pos c14] at H
                 have c14b0 : decide (x9_2 < (x5_1.length : Int)) = true := decide_eq_true c14
                 clear c14
                 by_cases c15 : 0 ≤ x9_2
                 · rw [if_pos c15] at H
                   have c15b0 : decide (0 ≤ x9_2) = true := decide_eq_true c15
                   clear c15
                   by_cases c16 : (rd x5_1 x9_2) ≤ a1
                   · rw [if_pos c16] at H
                     have c16b0 : decide ((rd x5_1 x9_2) ≤ a1) = true := decide_eq_true c16
                     clear c16
                     have H' := Aside0.mk H
                     clear H
                     obtain ⟨Ao17, co17, eo17⟩ := Kd.R_slice HO_5.out
                     subst eo17
                     have p296 : 0 ≤ (x9_2 : Int) := of_decide_eq_true (by first | (with_reducible assumption) | assumption)
                     have q296 : x9_2 < (x5_1.length : Int) := of_decide_eq_true (by first | (with_reducible assumption) | assumption)
                     obtain ⟨ad296, e296, hx296_0⟩ := Kd.at_int (Kd.R_reads' HO_5.out).2.2 x9_2 p296 q296
                     cases e296
                     replace p296 := eq_true p296
                     replace q296 := eq_true q296
                     go_wp2
                     go_roundg k2
                     case measure => have := HK1.out; have := HK2.out; omega
                     case rel => exact ⟨(x9_2), (wrap64 (x9_2 + 1)), (by first | rfl | (simp; done) | (simp [*]; done)), (by first | rfl | (simp; done) | (simp [*]; done)), H', ⟨by have := HK1.out; have := HK2.out; omega⟩, ⟨by (with_reducible repeat (first | apply Kd.R_alloc | apply Kd.R_drewN | apply Kd.R_drew)); exact HO_5.out⟩, ⟨by repeat (first | (with_reducible first | exact HB.out | apply below_alloc | apply pw_below_drewN | apply below_drew1) | exact HB.out)⟩⟩
                   · rw [if_neg c16] at H
                     have c16b0 : decide ((rd x5_1 x9_2) ≤ a1) = false := decide_eq_false c16
                     clear c16
                     have H' := Aside0.mk H
                     clear H
                     obtain ⟨Ao18, co18, eo18⟩ := Kd.R_slice HO_5.out
                     subst eo18
                     have p296 : 0 ≤ (x9_2 : Int) := of_decide_eq_true (by first | (with_reducible assumption) | assumption)
                     have q296 : x9_2 < (x5_1.length : Int) := of_decide_eq_true (by first | (with_reducible assumption) | assumption)
                     obtain ⟨ad296, e296, hx296_0⟩ := Kd.at_int (Kd.R_reads' HO_5.out).2.2 x9_2 p296 q296
                     cases e296
                     replace p296 := eq_true p296
                     replace q296 := eq_true q296
                     go_wp2
                     go_roundg k2
                     case measure => have := HK1.out; have := HK2.out; omega
                     case rel => exact ⟨(x8_2), (wrap64 (x9_2 + 1)), (by first | rfl | (simp; done) | (simp [*]; done)), (by first | rfl | (simp; done) | (simp [*]; done)), H', ⟨by have := HK1.out; have := HK2.out; omega⟩, ⟨by (with_reducible repeat (first | apply Kd.R_alloc | apply Kd.R_drewN | apply Kd.R_drew)); exact HO_5.out⟩, ⟨by repeat (first | (with_reducible first | exact HB.out | apply below_alloc | apply pw_below_drewN | apply below_drew1) | exact HB.out)⟩⟩
                 · rw [if_neg c15] at H
                   exact absurd H (by simp)
               · rw [if_neg c14] at H
                 have c14b0 : decide (x9_2 < (x5_1.length : Int)) = false := decide_eq_false c14
                 clear c14
                 replace H := Option.bind_eq_some_iff.mp H
                 obtain ⟨t297, A190, H⟩ := H
                 replace H : (if t297 = x8_2 then (if x8_2 < 0 then (some true) else ((pages_End.f x5_1 x8_2 x6_1).bind fun t298 => ((regletref12_End.f x5_1 x8_2 x6_1).bind fun t299 => (some (t298 == t299))))) else (some false)) = some r := H
                 have A19 := Aside0.mk A190
                 clear A190
                 by_cases c20 : t297 = x8_2
                 · rw [if_pos c20] at H
                   have c20b0 : (t297 == x8_2) = true := beq_iff_eq.mpr c20
                   have c20b1 : (t297 != x8_2) = false := bne_eq_false_iff_eq.mpr c20
                   clear c20
                   by_cases c21 : x8_2 < 0
                   · rw [if_pos c21] at H
                     have c21b0 : decide (x8_2 < 0) = true := decide_eq_true c21
                     clear c21
                     obtain rfl := Option.some.inj H
                     obtain ⟨Ao22, co22, eo22⟩ := Kd.R_slice HO_5.out
                     subst eo22
                     go_wp2_with (first | ((with_reducible refine gate_callee (f := 28) rfl ?_); refine goesL_ (some 58) rfl rfl Try.func28 (by kernel_rfl) rfl #[.slice Ao22 x5_1.length co22, .int .i64 a1] rfl (by (try simp only [List.map_toArray, List.map_cons, List.map_nil]); first | done | rfl | (simp only [List.length_drop, List.length_take]; rfl)) ?_; (with_reducible refine (pages_Find.calls k2 _ _ x5_1 a1 t297 _ ?side1 ?side2 A19.out).mono ?_); (case side1 => repeat (first | exact (Kd.R_reads' HO_5.out).2.2 | (with_reducible refine Kd.C_alloc ?_ _) | (with_reducible refine Kd.C_drewN ?_ _) | (with_reducible refine Kd.C_drew ?_))); (case side2 => exact (Kd.R_reads' HO_5.out).2.1); rintro e w' ⟨rfl, ⟨nd, rfl⟩⟩; refine ⟨_, rfl, ?_⟩))
                     go_ret
                     exact ⟨by first | rfl | (simp [errW_none, errW_some] <;> rfl) | (simp [*, errW_none, errW_some] <;> rfl), by repeat (first | (with_reducible first | exact HB.out | apply below_alloc | apply pw_below_drewN | apply below_drew1) | exact HB.out)⟩
                   · rw [if_neg c21] at H
                     have c21b0 : decide (x8_2 < 0) = false := decide_eq_false c21
                     clear c21
                     replace H := Option.bind_eq_some_iff.mp H
                     obtain ⟨t298, A230, H⟩ := H
                     replace H : ((regletref12_End.f x5_1 x8_2 x6_1).bind fun t299 => (some (t298 == t299))) = some r := H
                     have A23 := Aside0.mk A230
                     clear A230
                     replace H := Option.bind_eq_some_iff.mp H
                     obtain ⟨t299, A240, H⟩ := H
                     replace H : (some (t298 == t299)) = some r := H
                     have A24 := Aside0.mk A240
                     clear A240
                     obtain rfl := Option.some.inj H
                     obtain ⟨Ao25, co25, eo25⟩ := Kd.R_slice HO_5.out
                     subst eo25
                     go_wp2_with (first | ((with_reducible refine gate_callee (f := 28) rfl ?_); refine goesL_ (some 58) rfl rfl Try.func28 (by kernel_rfl) rfl #[.slice Ao25 x5_1.length co25, .int .i64 a1] rfl (by (try simp only [List.map_toArray, List.map_cons, List.map_nil]); first | done | rfl | (simp only [List.length_drop, List.length_take]; rfl)) ?_; (with_reducible refine (pages_Find.calls k2 _ _ x5_1 a1 t297 _ ?side1 ?side2 A19.out).mono ?_); (case side1 => repeat (first | exact (Kd.R_reads' HO_5.out).2.2 | (with_reducible refine Kd.C_alloc ?_ _) | (with_reducible refine Kd.C_drewN ?_ _) | (with_reducible refine Kd.C_drew ?_))); (case side2 => exact (Kd.R_reads' HO_5.out).2.1); rintro e w' ⟨rfl, ⟨nd, rfl⟩⟩; refine ⟨_, rfl, ?_⟩) | (go_at_call 29; (with_reducible refine (pages_End.calls _ _ x5_1 x8_2 x6_1 t298 _ ?side1 ?side2 A23.out).mono ?_); (case side1 => repeat (first | exact (Kd.R_reads' HO_5.out).2.2 | (with_reducible refine Kd.C_alloc ?_ _) | (with_reducible refine Kd.C_drewN ?_ _) | (with_reducible refine Kd.C_drew ?_))); (case side2 => exact (Kd.R_reads' HO_5.out).2.1); rintro e w' ⟨rfl, ⟨nd, rfl⟩⟩) | (go_at_call 26; (with_reducible refine (regletref12_End.calls _ _ x5_1 x8_2 x6_1 t299 _ ?side1 ?side2 A24.out).mono ?_); (case side1 => repeat (first | exact (Kd.R_reads' HO_5.out).2.2 | (with_reducible refine Kd.C_alloc ?_ _) | (with_reducible refine Kd.C_drewN ?_ _) | (with_reducible refine Kd.C_drew ?_))); (case side2 => exact (Kd.R_reads' HO_5.out).2.1); rintro e w' ⟨rfl, ⟨nd, rfl⟩⟩))
                     go_ret
                     exact ⟨by first | rfl | (simp [errW_none, errW_some] <;> rfl) | (simp [*, errW_none, errW_some] <;> rfl), by repeat (first | (with_reducible first | exact HB.out | apply below_alloc | apply pw_below_drewN | apply below_drew1) | exact HB.out)⟩
                 · rw [if_neg c20] at H
                   have c20b0 : (t297 == x8_2) = false := beq_eq_false_iff_ne.mpr c20
                   have c20b1 : (t297 != x8_2) = true := bne_iff_ne.mpr c20
                   obtain rfl := Option.some.inj H
                   obtain ⟨Ao26, co26, eo26⟩ := Kd.R_slice HO_5.out
                   subst eo26
                   go_wp2_with (first | ((with_reducible refine gate_callee (f := 28) rfl ?_); refine goesL_ (some 58) rfl rfl Try.func28 (by kernel_rfl) rfl #[.slice Ao26 x5_1.length co26, .int .i64 a1] rfl (by (try simp only [List.map_toArray, List.map_cons, List.map_nil]); first | done | rfl | (simp only [List.length_drop, List.length_take]; rfl)) ?_; (with_reducible refine (pages_Find.calls k2 _ _ x5_1 a1 t297 _ ?side1 ?side2 A19.out).mono ?_); (case side1 => repeat (first | exact (Kd.R_reads' HO_5.out).2.2 | (with_reducible refine Kd.C_alloc ?_ _) | (with_reducible refine Kd.C_drewN ?_ _) | (with_reducible refine Kd.C_drew ?_))); (case side2 => exact (Kd.R_reads' HO_5.out).2.1); rintro e w' ⟨rfl, ⟨nd, rfl⟩⟩; refine ⟨_, rfl, ?_⟩))
                   go_ret
                   exact ⟨by first | rfl | (simp [errW_none, errW_some] <;> rfl) | (simp [*, errW_none, errW_some] <;> rfl), by repeat (first | (with_reducible first | exact HB.out | apply below_alloc | apply pw_below_drewN | apply below_drew1) | exact HB.out)⟩
 · replace c4 := Bool.eq_false_iff.mpr c4
   subst c4
   have H1 : (some false) = some r := by rw [if_neg (show ¬ (false = true) by decide)] at H; exact H
   clear H
   have H := H1
   clear H1
   obtain rfl := Option.some.inj H
   go_enter Try.func8, Try.ntmps8
   go_wp2_with (first | ((with_reducible refine gate_callee (f := 10) rfl ?_); refine goesL_ (some 10) rfl rfl Try.func10 (by kernel_rfl) rfl #[] rfl (by (try simp only [List.map_toArray, List.map_cons, List.map_nil]); first | done | rfl | (simp only [List.length_drop, List.length_take]; rfl)) ?_; (with_reducible refine (regletlaw12_awake.calls k  false _ A3.out).mono ?_); rintro e w27 ⟨rfl, hb⟩; refine ⟨_, rfl, ?_⟩; have n0_ := Aside0.mk (below_step (by repeat (first | (with_reducible first | exact HB.out | apply below_alloc | apply pw_below_drewN | apply below_drew1) | exact HB.out)) hb); clear HB; have HB := n0_; clear n0_; (try clear hb); (try clear hb2); (try clear hk); (try clear hi)))
   go_ret
   exact ⟨by first | rfl | (simp [errW_none, errW_some] <;> rfl) | (simp [*, errW_none, errW_some] <;> rfl), by repeat (first | (with_reducible first | exact HB.out | apply below_alloc | apply pw_below_drewN | apply below_drew1) | exact HB.out)⟩

/-! ### pages_Of: function 30 -/
mutual
def pages_Of.l0 : Nat → List (S53) → List Int → List (S57) → List Int → Int → Int → Option ((List (S57)))
 | 0, _, _, _, _, _, _ => none
 | k + 1, x0, x1, x5, x12, x13, x14 => if x14 < x13 then (if 0 ≤ x14 then (if x14 < (x12.length : Int) then (pages_Of.l1 k x0 x1 x5 x14 0 (mx (rd x12 x14) 0) x12 x13 x14 ([] : List (S53))) else (none)) else (none)) else (some x5)
def pages_Of.l1 : Nat → List (S53) → List Int → List (S57) → Int → Int → Int → List Int → Int → Int → List (S53) → Option ((List (S57)))
 | 0, _, _, _, _, _, _, _, _, _, _ => none
 | k + 1, x0, x1, x5, x6, x9, x10, x12, x13, x14, x302000 => (pages_End.f x1 x6 (x0.length : Int)).bind fun t302 => (if x10 < (mn t302 (x0.length : Int)) then (if 0 ≤ x10 then (if x10 < (x0.length : Int) then ((some (([] : List (S60)) : List (S60))).bind fun y305 => (if y305.length + ((rd_T53 x0 x10).f1).length < 8796093022208 then (if x302000.length < 1599289640401 then (pages_Of.l1 k x0 x1 x5 x6 (wrap64 (x9 + ((rd_T53 x0 x10).f4))) (wrap64 (x10 + 1)) x12 x13 x14 (x302000 ++ [(⟨(rd_T53 x0 x10).f0, (y305 ++ ((rd_T53 x0 x10).f1)), (rd_T53 x0 x10).f2, (rd_T53 x0 x10).f3, (rd_T53 x0 x10).f4, (rd_T53 x0 x10).f5, x9, (rd_T53 x0 x10).f7, (rd_T53 x0 x10).f8⟩ : S53)])) else (none)) else (none))) else (none)) else (none)) else (if x5.length < 5864062014805 then (pages_Of.l0 k x0 x1 (x5 ++ [(⟨x302000⟩ : S57)]) x12 x13 (wrap64 (x14 + 1))) else (none)))
end
def pages_Of.f (k : Nat) (l0 : List (S53)) (l1 : List Int) : Option ((List (S57))) := pages_Of.l0 k l0 l1 ([] : List (S57)) l1 (l1.length : Int) 0
theorem pages_Of.mono_l : ∀ k, (∀ y0 y1 y2 y3 y4 y5, LeO (pages_Of.l0 k y0 y1 y2 y3 y4 y5) (pages_Of.l0 (k + 1) y0 y1 y2 y3 y4 y5)) ∧ (∀ y0 y1 y2 y3 y4 y5 y6 y7 y8 y9, LeO (pages_Of.l1 k y0 y1 y2 y3 y4 y5 y6 y7 y8 y9) (pages_Of.l1 (k + 1) y0 y1 y2 y3 y4 y5 y6 y7 y8 y9))
 | 0 => ⟨fun _ _ _ _ _ _ r h => by simp [pages_Of.l0] at h, fun _ _ _ _ _ _ _ _ _ _ r h => by simp [pages_Of.l1] at h⟩
 | k + 1 => by
   obtain ⟨ih0, ih1⟩ := pages_Of.mono_l k
   refine ⟨?_, ?_⟩
   · intro y0 y1 y2 y3 y4 y5
     unfold pages_Of.l0
     repeat' first
     | (with_reducible exact ih0 _ _ _ _ _ _)
     | (with_reducible exact ih1 _ _ _ _ _ _ _ _ _ _)
     | (with_reducible exact LeO.refl _)
     | (with_reducible exact LeO.none _)
     | (with_reducible refine LeO.ite ?_ ?_)
     | (with_reducible refine LeO.bind ?_ (fun _ => ?_))
     | exact ih0 _ _ _ _ _ _
     | exact ih1 _ _ _ _ _ _ _ _ _ _
     | exact LeO.none _
     | refine LeO.ite ?_ ?_
     | refine LeO.bind ?_ (fun _ => ?_)
   · intro y0 y1 y2 y3 y4 y5 y6 y7 y8 y9
     unfold pages_Of.l1
     repeat' first
     | (with_reducible exact ih0 _ _ _ _ _ _)
     | (with_reducible exact ih1 _ _ _ _ _ _ _ _ _ _)
     | (with_reducible exact LeO.refl _)
     | (with_reducible exact LeO.none _)
     | (with_reducible refine LeO.ite ?_ ?_)
     | (with_reducible refine LeO.bind ?_ (fun _ => ?_))
     | exact ih0 _ _ _ _ _ _
     | exact ih1 _ _ _ _ _ _ _ _ _ _
     | exact LeO.none _
     | refine LeO.ite ?_ ?_
     | refine LeO.bind ?_ (fun _ => ?_)
theorem pages_Of.mono : ∀ a0 a1 k, LeO (pages_Of.f k a0 a1) (pages_Of.f (k + 1) a0 a1) := by
 intro a0 a1 k
 obtain ⟨ih0, ih1⟩ := pages_Of.mono_l k
 unfold pages_Of.f
 repeat' first
     | (with_reducible exact ih0 _ _ _ _ _ _)
     | (with_reducible exact ih1 _ _ _ _ _ _ _ _ _ _)
     | (with_reducible exact LeO.refl _)
     | (with_reducible exact LeO.none _)
     | (with_reducible refine LeO.ite ?_ ?_)
     | (with_reducible refine LeO.bind ?_ (fun _ => ?_))
     | exact ih0 _ _ _ _ _ _
     | exact ih1 _ _ _ _ _ _ _ _ _ _
     | exact LeO.none _
     | refine LeO.ite ?_ ?_
     | refine LeO.bind ?_ (fun _ => ?_)
theorem pages_Of.l0.ev {x0 : List (S53)} {x1 : List Int} {x5 : List (S57)} {x12 : List Int} {x13 : Int} {x14 : Int} {r_ : (List (S57))} (h : Ev (fun k => if x14 < x13 then (if 0 ≤ x14 then (if x14 < (x12.length : Int) then (pages_Of.l1 k x0 x1 x5 x14 0 (mx (rd x12 x14) 0) x12 x13 x14 ([] : List (S53))) else (none)) else (none)) else (some x5)) r_) : Ev (fun k => pages_Of.l0 k x0 x1 x5 x12 x13 x14) r_ := Ev.step (fun k => by rw [pages_Of.l0]) h
theorem pages_Of.l1.ev {x0 : List (S53)} {x1 : List Int} {x5 : List (S57)} {x6 : Int} {x9 : Int} {x10 : Int} {x12 : List Int} {x13 : Int} {x14 : Int} {x302000 : List (S53)} {r_ : (List (S57))} (h : Ev (fun k => (pages_End.f x1 x6 (x0.length : Int)).bind fun t302 => (if x10 < (mn t302 (x0.length : Int)) then (if 0 ≤ x10 then (if x10 < (x0.length : Int) then ((some (([] : List (S60)) : List (S60))).bind fun y305 => (if y305.length + ((rd_T53 x0 x10).f1).length < 8796093022208 then (if x302000.length < 1599289640401 then (pages_Of.l1 k x0 x1 x5 x6 (wrap64 (x9 + ((rd_T53 x0 x10).f4))) (wrap64 (x10 + 1)) x12 x13 x14 (x302000 ++ [(⟨(rd_T53 x0 x10).f0, (y305 ++ ((rd_T53 x0 x10).f1)), (rd_T53 x0 x10).f2, (rd_T53 x0 x10).f3, (rd_T53 x0 x10).f4, (rd_T53 x0 x10).f5, x9, (rd_T53 x0 x10).f7, (rd_T53 x0 x10).f8⟩ : S53)])) else (none)) else (none))) else (none)) else (none)) else (if x5.length < 5864062014805 then (pages_Of.l0 k x0 x1 (x5 ++ [(⟨x302000⟩ : S57)]) x12 x13 (wrap64 (x14 + 1))) else (none)))) r_) : Ev (fun k => pages_Of.l1 k x0 x1 x5 x6 x9 x10 x12 x13 x14 x302000) r_ := Ev.step (fun k => by rw [pages_Of.l1]) h
set_option maxHeartbeats 8000000 in
set_option maxRecDepth 100000 in
theorem pages_Of.calls (k : Nat) (A0 : Option Addr) (c0 : Nat) (l0 : List (S53)) (A1 : Option Addr) (c1 : Nat) (l1 : List Int) (r : List (S57)) (w : World) (hr0 : Kd.C k53 w A0 l0.length l0) (hc0 : l0.length ≤ c0) (hr1 : Kd.C (Kd.int .i64) w A1 l1.length l1) (hc1 : l1.length ≤ c1) (h : pages_Of.f k l0 l1 = some r) :
   Calls Try.prog 30 #[.slice A0 l0.length c0, .slice A1 l1.length c1] w fun e w' => ∃ v0_ : Value, e = .returned (v0_) ∧ Kd.R k57 57 w' w.heap.size (fun _ => True) v0_ r ∧ Below w.heap.size w w' := by
 have hu57 := Try.underlying57
 have hu53 := Try.underlying53
 have HR0 := Aside0.mk hr0
 have HC0 := Aside0.mk hc0
 clear hr0 hc0
 have HR1 := Aside0.mk hr1
 have HC1 := Aside0.mk hc1
 clear hr1 hc1
 have HB := Aside0.mk (Below.refl w.heap.size w)
 have H : (pages_Of.l0 k l0 l1 ([] : List (S57)) l1 (l1.length : Int) 0) = some r := h
 clear h
 have H' := Aside0.mk H
 clear H
 go_enter Try.func30, Try.ntmps30
 go_wp2
 go_loopg [5, 14] k (fun kq v5 v14 w' => ∃ (x5_1 : List (S57)) (x14_1 : Int), v14 = .int .i64 x14_1 ∧ Aside0 (pages_Of.l0 kq l0 l1 x5_1 l1 (l1.length : Int) x14_1 = some r) ∧ Aside0 (kq ≤ k) ∧ Aside0 (Kd.R k57 57 w' w.heap.size (fun _ => True) v5 x5_1) ∧ Aside0 (Below w.heap.size w w'))
 case atStart => exact ⟨(([] : List (S57))), (0), (by first | rfl | (simp; done) | (simp [*]; done)), H', ⟨Nat.le_refl _⟩, ⟨by first | exact Kd.R_nil _ _ _ _ _ | exact Kd.N_nil _ _ _ _ _ | exact Kd.V_nil _ _ _ _ _ | exact Kd.Q_nil _ _ _ _ _ | exact Kd.S_nil _ _ _ _ _⟩, ⟨by repeat (first | (with_reducible first | exact HB.out | apply below_alloc | apply pw_below_drewN | apply below_drew1) | exact HB.out)⟩⟩
 case round =>
   clear H'
   try clear c1
   try clear p2
   obtain ⟨x5_1, x14_1, rfl, HA, HK1, HO_5, HB⟩ := hrel
   cases gk with
   | zero => exact absurd HA.out (by simp [pages_Of.l0])
   | succ k1 =>
     have H := HA.out
     clear HA
     simp only [pages_Of.l0] at H
     by_cases c3 : x14_1 < (l1.length : Int)
     · rw [if_pos c3] at H
       have c3b0 : decide (x14_1 < (l1.length : Int)) = true := decide_eq_true c3
       clear c3
       by_cases c4 : 0 ≤ x14_1
       · rw [if_pos c4] at H
         have c4b0 : decide (0 ≤ x14_1) = true := decide_eq_true c4
         clear c4
         by_cases c5 : x14_1 < (l1.length : Int)
         · rw [if_pos c5] at H
           have c5b0 : decide (x14_1 < (l1.length : Int)) = true := decide_eq_true c5
           clear c5
           obtain ⟨ji6, hji6⟩ : ∃ j_ : Int, (mx (rd l1 x14_1) 0) = j_ := ⟨_, rfl⟩
           replace H : (pages_Of.l1 k1 l0 l1 x5_1 x14_1 0 ji6 l1 (l1.length : Int) x14_1 ([] : List (S53))) = some r := by first | (rw [hji6] at H; exact H) | (simp only [hji6] at H ⊢; exact H)
           have hji6_ : (if (rd l1 x14_1) < 0 then 0 else (rd l1 x14_1)) = ji6 := hji6
           have H' := Aside0.mk H
           clear H
           have p300 : 0 ≤ (x14_1 : Int) := of_decide_eq_true (by first | (with_reducible assumption) | assumption)
           have q300 : x14_1 < (l1.length : Int) := of_decide_eq_true (by first | (with_reducible assumption) | assumption)
           obtain ⟨ad300, e300, hx300_0⟩ := Kd.at_int HR1.out x14_1 p300 q300
           cases e300
           replace hx300_0 := (HB.out.cell (World.block_lt_of_cell? w _ hx300_0)).trans hx300_0
           replace p300 := eq_true p300
           replace q300 := eq_true q300
           go_wp2_with (first | ((with_reducible refine gate_dst (N := 8) rfl ?_); refine box_event ?hg (N := 8) ?hd (cs := #[.slice none 0 0]) (t := 57) ?hr ?_; (case hd => rfl); (case hg => rfl); (case hr => first | (go_simp; done) | (go_simp; rfl)); intro gb301 hg w7 hbox hb; have n0_ := Aside0.mk (Kd.R_below (Kd.R_elderB (by (with_reducible repeat (first | apply Kd.R_alloc | apply Kd.R_drewN | apply Kd.R_drew)); exact HO_5.out) gb301 (Nat.le_of_eq hg.symm)) hb); have n1_ := Aside0.mk (below_step (by repeat (first | (with_reducible first | exact HB.out | apply below_alloc | apply pw_below_drewN | apply below_drew1) | exact HB.out)) hb); have n2_ := Aside0.mk (hbox); have n3_ := Aside0.mk ((by rw [hg]; exact (below_size (by repeat (first | (with_reducible first | exact HB.out | apply below_alloc | apply pw_below_drewN | apply below_drew1) | exact HB.out))) : w.heap.size ≤ gb301)); have n4_ := Aside0.mk ((by rw [hg]; exact (below_size (by repeat (first | (with_reducible first | exact HB.out | apply below_alloc | apply pw_below_drewN | apply below_drew1) | exact HB.out))) : w.heap.size ≤ gb301)); clear HO_5; clear HB; have HO_5 := n0_; have HB := n1_; have BK301 := n2_; have GW301 := n3_; have GE301 := n4_; clear n0_ n1_ n2_ n3_ n4_; clear hb hbox hg))
           go_loopg [9, 10] k1 (fun kq v9 v10 w' => ∃ (x9_2 : Int) (x10_2 : Int) (x302000_2 : List (S53)) (u302000 : Value), v9 = .int .i64 x9_2 ∧ v10 = .int .i64 x10_2 ∧ Aside0 (pages_Of.l1 kq l0 l1 x5_1 x14_1 x9_2 x10_2 l1 (l1.length : Int) x14_1 x302000_2 = some r) ∧ Aside0 (kq ≤ k1) ∧ Aside0 (Kd.R k57 57 w' w.heap.size (fun k_ => some k_ ≠ (u302000 : Value).ownBlock ∧ k_ ≠ gb301) u5 x5_1) ∧ Aside0 (Kd.S k53 53 w' w.heap.size (fun _ => True) u302000 x302000_2) ∧ Aside0 (w'.heap[gb301]? = some (.cells #[u302000] 57 (0, 0))) ∧ Aside0 (Below w.heap.size w w'))
           case atStart => exact ⟨(0), (ji6), (([] : List (S53))), (.slice none 0 0), (by first | rfl | (simp; done) | (simp [*]; done)), (by first | rfl | (simp; done) | (simp only [← hji6] <;> (first | rfl | simp)) | (simp [*]; done)), H', ⟨Nat.le_refl _⟩, ⟨by (with_reducible repeat (first | apply Kd.R_alloc | apply Kd.R_drewN | apply Kd.R_drew)); exact Kd.R_mono HO_5.out (fun _ hk => ⟨(by simp [Value.ownBlock]), hk.2⟩)⟩, ⟨by first | exact Kd.S_nil _ _ _ _ _ | exact Kd.N_nil _ _ _ _ _ | exact Kd.V_nil _ _ _ _ _ | exact Kd.Q_nil _ _ _ _ _ | exact Kd.R_nil _ _ _ _ _⟩, ⟨by (with_reducible repeat (first | refine blk_drewN ?_ _ | refine blk_drew ?_ | refine blk_alloc ?_ _)); exact BK301.out⟩, ⟨by repeat (first | (with_reducible first | exact HB.out | apply below_alloc | apply pw_below_drewN | apply below_drew1 | refine below_set ?_ GE301.out) | exact HB.out)⟩⟩
           case round =>
             clear H'
             try clear c1
             try clear p2
             try clear c3
             try clear c3b0
             try clear p3
             try clear q3
             try clear hx3
             try clear c4
             try clear c4b0
             try clear c5
             try clear c5b0
             try clear hx300_0
             try clear p2
             try clear p300
             try clear q300
             obtain ⟨x9_2, x10_2, x302000_2, u302000, rfl, rfl, HA, HK2, HO_5, HO_302000, BK301, HB⟩ := hrel
             cases gk with
             | zero => exact absurd HA.out (by simp [pages_Of.l1])
             | succ k2 =>
               have H := HA.out
               clear HA
               simp only [pages_Of.l1] at H
               replace H := Option.bind_eq_some_iff.mp H
               obtain ⟨t302, A80, H⟩ := H
               replace H : (if x10_2 < (mn t302 (l0.length : Int)) then (if 0 ≤ x10_2 then (if x10_2 < (l0.length : Int) then ((some (([] : List (S60)) : List (S60))).bind fun y305 => (if y305.length + ((rd_T53 l0 x10_2).f1).length < 8796093022208 then (if x302000_2.length < 1599289640401 then (pages_Of.l1 k2 l0 l1 x5_1 x14_1 (wrap64 (x9_2 + ((rd_T53 l0 x10_2).f4))) (wrap64 (x10_2 + 1)) l1 (l1.length : Int) x14_1 (x302000_2 ++ [(⟨(rd_T53 l0 x10_2).f0, (y305 ++ ((rd_T53 l0 x10_2).f1)), (rd_T53 l0 x10_2).f2, (rd_T53 l0 x10_2).f3, (rd_T53 l0 x10_2).f4, (rd_T53 l0 x10_2).f5, x9_2, (rd_T53 l0 x10_2).f7, (rd_T53 l0 x10_2).f8⟩ : S53)])) else (none)) else (none))) else (none)) else (none)) else (if x5_1.length < 5864062014805 then (pages_Of.l0 k2 l0 l1 (x5_1 ++ [(⟨x302000_2⟩ : S57)]) l1 (l1.length : Int) (wrap64 (x14_1 + 1))) else (none))) = some r := H
               have A8 := Aside0.mk A80
               clear A80
               obtain ⟨ji9, hji9⟩ : ∃ j_ : Int, (mn t302 (l0.length : Int)) = j_ := ⟨_, rfl⟩
               replace H : (if x10_2 < (ji9) then (if 0 ≤ x10_2 then (if x10_2 < (l0.length : Int) then ((some (([] : List (S60)) : List (S60))).bind fun y305 => (if y305.length + ((rd_T53 l0 x10_2).f1).length < 8796093022208 then (if x302000_2.length < 1599289640401 then (pages_Of.l1 k2 l0 l1 x5_1 x14_1 (wrap64 (x9_2 + ((rd_T53 l0 x10_2).f4))) (wrap64 (x10_2 + 1)) l1 (l1.length : Int) x14_1 (x302000_2 ++ [(⟨(rd_T53 l0 x10_2).f0, (y305 ++ ((rd_T53 l0 x10_2).f1)), (rd_T53 l0 x10_2).f2, (rd_T53 l0 x10_2).f3, (rd_T53 l0 x10_2).f4, (rd_T53 l0 x10_2).f5, x9_2, (rd_T53 l0 x10_2).f7, (rd_T53 l0 x10_2).f8⟩ : S53)])) else (none)) else (none))) else (none)) else (none)) else (if x5_1.length < 5864062014805 then (pages_Of.l0 k2 l0 l1 (x5_1 ++ [(⟨x302000_2⟩ : S57)]) l1 (l1.length : Int) (wrap64 (x14_1 + 1))) else (none))) = some r := by first | (rw [hji9] at H; exact H) | (simp only [hji9] at H ⊢; exact H)
               (try rw [hji9] at A8)
               have hji9_ : (if (l0.length : Int) < t302 then (l0.length : Int) else t302) = ji9 := hji9
               by_cases c10 : x10_2 < (ji9)
               · rw [if_pos c10] at H
                 have c10b0 : decide (x10_2 < (ji9)) = true := decide_eq_true c10
                 clear c10
                 by_cases c11 : 0 ≤ x10_2
                 · rw [if_pos c11] at H
                   have c11b0 : decide (0 ≤ x10_2) = true := decide_eq_true c11
                   clear c11
                   by_cases c12 : x10_2 < (l0.length : Int)
                   · rw [if_pos c12] at H
                     have c12b0 : decide (x10_2 < (l0.length : Int)) = true := decide_eq_true c12
                     clear c12
                     obtain ⟨y305, hy305⟩ : ∃ y_ : List (S60), y_ = (([] : List (S60))) := ⟨_, rfl⟩
                     replace H : (if y305.length + ((rd_T53 l0 x10_2).f1).length < 8796093022208 then (if x302000_2.length < 1599289640401 then (pages_Of.l1 k2 l0 l1 x5_1 x14_1 (wrap64 (x9_2 + ((rd_T53 l0 x10_2).f4))) (wrap64 (x10_2 + 1)) l1 (l1.length : Int) x14_1 (x302000_2 ++ [(⟨(rd_T53 l0 x10_2).f0, (y305 ++ ((rd_T53 l0 x10_2).f1)), (rd_T53 l0 x10_2).f2, (rd_T53 l0 x10_2).f3, (rd_T53 l0 x10_2).f4, (rd_T53 l0 x10_2).f5, x9_2, (rd_T53 l0 x10_2).f7, (rd_T53 l0 x10_2).f8⟩ : S53)])) else (none)) else (none)) = some r := by first | (rw [hy305]; with_reducible exact H) | (have H2_ := (Option.bind_some _ _).symm.trans H; rw [hy305]; with_reducible exact H2_) | (have H2_ := (Option.bind_some _ _).symm.trans H; with_reducible exact H2_) | with_reducible exact H | (rw [hy305]; exact H) | exact H
                     have Ny305 := Aside0.mk hy305
                     clear hy305
                     by_cases c13 : y305.length + ((rd_T53 l0 x10_2).f1).length < 8796093022208
                     · rw [if_pos c13] at H
                       have LMc13 := Aside0.mk c13
                       clear c13
                       obtain ⟨y308, hy308⟩ : ∃ y_ : List (S60), y_ = (y305 ++ ((rd_T53 l0 x10_2).f1)) := ⟨_, rfl⟩
                       replace H : (if x302000_2.length < 1599289640401 then (pages_Of.l1 k2 l0 l1 x5_1 x14_1 (wrap64 (x9_2 + ((rd_T53 l0 x10_2).f4))) (wrap64 (x10_2 + 1)) l1 (l1.length : Int) x14_1 (x302000_2 ++ [(⟨(rd_T53 l0 x10_2).f0, y308, (rd_T53 l0 x10_2).f2, (rd_T53 l0 x10_2).f3, (rd_T53 l0 x10_2).f4, (rd_T53 l0 x10_2).f5, x9_2, (rd_T53 l0 x10_2).f7, (rd_T53 l0 x10_2).f8⟩ : S53)])) else (none)) = some r := by first | (rw [hy308]; with_reducible exact H) | (have H2_ := (Option.bind_some _ _).symm.trans H; rw [hy308]; with_reducible exact H2_) | (have H2_ := (Option.bind_some _ _).symm.trans H; with_reducible exact H2_) | with_reducible exact H | (rw [hy308]; exact H) | exact H
                       have Ny308 := Aside0.mk hy308
                       clear hy308
                       by_cases c14 : x302000_2.length < 1599289640401
                       · rw [if_pos c14] at H
                         have LMc14 := Aside0.mk c14
                         clear c14
                         obtain ⟨y311, hy311⟩ : ∃ y_ : List (S53), y_ = (x302000_2 ++ [(⟨(rd_T53 l0 x10_2).f0, y308, (rd_T53 l0 x10_2).f2, (rd_T53 l0 x10_2).f3, (rd_T53 l0 x10_2).f4, (rd_T53 l0 x10_2).f5, x9_2, (rd_T53 l0 x10_2).f7, (rd_T53 l0 x10_2).f8⟩ : S53)]) := ⟨_, rfl⟩
                         replace H : (pages_Of.l1 k2 l0 l1 x5_1 x14_1 (wrap64 (x9_2 + ((rd_T53 l0 x10_2).f4))) (wrap64 (x10_2 + 1)) l1 (l1.length : Int) x14_1 y311) = some r := by first | (rw [hy311]; with_reducible exact H) | (have H2_ := (Option.bind_some _ _).symm.trans H; rw [hy311]; with_reducible exact H2_) | (have H2_ := (Option.bind_some _ _).symm.trans H; with_reducible exact H2_) | with_reducible exact H | (rw [hy311]; exact H) | exact H
                         have Ny311 := Aside0.mk hy311
                         clear hy311
                         have H' := Aside0.mk H
                         clear H
                         go_wp2_with (first | ((with_reducible refine gate_callee (f := 29) rfl ?_); refine goesL_ (some 26) rfl rfl Try.func29 (by kernel_rfl) rfl #[.slice (some ad300) l1.length c1, .int .i64 x14_1, .int .i64 (l0.length : Int)] rfl (by (try simp only [List.map_toArray, List.map_cons, List.map_nil]); first | done | rfl | (simp only [List.length_drop, List.length_take]; rfl)) ?_; (with_reducible refine (pages_End.calls _ _ l1 x14_1 (l0.length : Int) t302 _ ?side1 ?side2 A8.out).mono ?_); (case side1 => repeat (first | exact (Kd.C_below HR1.out HB.out) | (with_reducible refine Kd.C_alloc ?_ _) | (with_reducible refine Kd.C_drewN ?_ _) | (with_reducible refine Kd.C_drew ?_))); (case side2 => exact HC1.out); rintro e w' ⟨rfl, ⟨nd, rfl⟩⟩; refine ⟨_, rfl, ?_⟩; (try (rw [drewN_self wr]; generalize hq_ : World.drewN wr _ = wr; have n0_ : Aside0 (Kd.S k53 53 wr w.heap.size (fun _ => True) u302000 x302000_2) := ⟨by rw [← hq_]; exact (by (with_reducible repeat (first | apply Kd.S_alloc | apply Kd.S_drewN | apply Kd.S_drew)); exact HO_302000.out)⟩; have n1_ : Aside0 (Kd.R k57 57 wr w.heap.size (fun k_ => some k_ ≠ (u302000 : Value).ownBlock ∧ k_ ≠ gb301) u5 x5_1) := ⟨by rw [← hq_]; exact (by (with_reducible repeat (first | apply Kd.R_alloc | apply Kd.R_drewN | apply Kd.R_drew)); exact HO_5.out)⟩; have n2_ : Aside0 (wr.heap[gb301]? = some (.cells #[u302000] 57 (0, 0))) := ⟨by rw [← hq_]; exact (by (with_reducible repeat (first | refine blk_drewN ?_ _ | refine blk_drew ?_ | refine blk_alloc ?_ _)); exact BK301.out)⟩; have n3_ : Aside0 (Below w.heap.size w wr) := ⟨by rw [← hq_]; exact (by repeat (first | (with_reducible first | exact HB.out | apply below_alloc | apply pw_below_drewN | apply below_drew1 | refine below_set ?_ GE301.out) | exact HB.out))⟩; clear HO_302000 HO_5 BK301 HB hq_; have HO_302000 := n0_; have HO_5 := n1_; have BK301 := n2_; have HB := n3_; clear n0_ n1_ n2_ n3_)); have p303 : 0 ≤ (x10_2 : Int) := of_decide_eq_true (by first | (with_reducible assumption) | assumption); have q303 : x10_2 < (l0.length : Int) := of_decide_eq_true (by first | (with_reducible assumption) | assumption); obtain ⟨ad303, A303_1, c303_1, e303, hx303_0, hx303_1, hx303_2, hx303_3, hx303_4, hx303_5, hx303_6, hx303_7, hx303_8, hl303_1, hi303_1⟩ := at_T53 HR0.out x10_2 p303 q303; cases e303; replace hx303_0 := (HB.out.cell (World.block_lt_of_cell? w _ hx303_0)).trans hx303_0; replace hx303_1 := (HB.out.cell (World.block_lt_of_cell? w _ hx303_1)).trans hx303_1; replace hx303_2 := (HB.out.cell (World.block_lt_of_cell? w _ hx303_2)).trans hx303_2; replace hx303_3 := (HB.out.cell (World.block_lt_of_cell? w _ hx303_3)).trans hx303_3; replace hx303_4 := (HB.out.cell (World.block_lt_of_cell? w _ hx303_4)).trans hx303_4; replace hx303_5 := (HB.out.cell (World.block_lt_of_cell? w _ hx303_5)).trans hx303_5; replace hx303_6 := (HB.out.cell (World.block_lt_of_cell? w _ hx303_6)).trans hx303_6; replace hx303_7 := (HB.out.cell (World.block_lt_of_cell? w _ hx303_7)).trans hx303_7; replace hx303_8 := (HB.out.cell (World.block_lt_of_cell? w _ hx303_8)).trans hx303_8; have HR303_1 := Aside0.mk hi303_1; have HC303_1 := Aside0.mk hl303_1; clear hi303_1 hl303_1; replace p303 := eq_true p303; replace q303 := eq_true q303) | ((with_reducible refine gate_dst (N := 11) rfl ?_); refine box_event ?hg (N := 11) ?hd (cs := #[.string (⟨#[]⟩ : ByteArray), .slice none 0 0, .int .i64 0, .int .i64 0, .int .i64 0, .bool false, .int .i64 0, .bool false, .bool false]) (t := 53) ?hr ?_; (case hd => rfl); (case hg => rfl); (case hr => first | (go_simp; done) | (go_simp; rfl)); intro gb304 hg w15 hbox hb; have n0_ := Aside0.mk (Kd.R_below (Kd.R_elderB (by (with_reducible repeat (first | apply Kd.R_alloc | apply Kd.R_drewN | apply Kd.R_drew)); exact HO_5.out) gb304 (Nat.le_of_eq hg.symm)) hb); have n1_ := Aside0.mk (Kd.S_below (Kd.S_elderB (by (with_reducible repeat (first | apply Kd.S_alloc | apply Kd.S_drewN | apply Kd.S_drew)); exact HO_302000.out) gb304 (Nat.le_of_eq hg.symm)) hb); have n2_ := Aside0.mk (blk_below (g := gb301) (o := .cells #[u302000] 57 (0, 0)) (by (with_reducible repeat (first | refine blk_drewN ?_ _ | refine blk_drew ?_ | refine blk_alloc ?_ _)); exact BK301.out) hb); have n3_ := Aside0.mk (below_step (by repeat (first | (with_reducible first | exact HB.out | apply below_alloc | apply pw_below_drewN | apply below_drew1 | refine below_set ?_ GE301.out) | exact HB.out)) hb); have n4_ := Aside0.mk (hbox); have n5_ := Aside0.mk ((by rw [hg]; exact (below_size (by repeat (first | (with_reducible first | exact HB.out | apply below_alloc | apply pw_below_drewN | apply below_drew1 | refine below_set ?_ GE301.out) | exact HB.out))) : w.heap.size ≤ gb304)); have n6_ := Aside0.mk ((by rw [hg]; exact (below_size (by repeat (first | (with_reducible first | exact HB.out | apply below_alloc | apply pw_below_drewN | apply below_drew1 | refine below_set ?_ GE301.out) | exact HB.out))) : w.heap.size ≤ gb304)); have n7_ := Aside0.mk ((by rw [hg]; exact Nat.ne_of_lt (blk_lt (g := gb301) (o := .cells #[u302000] 57 (0, 0)) (by (with_reducible repeat (first | refine blk_drewN ?_ _ | refine blk_drew ?_ | refine blk_alloc ?_ _)); exact BK301.out)) : gb301 ≠ gb304)); have n8_ := Aside0.mk ((by rw [hg]; exact Nat.ne_of_gt (blk_lt (g := gb301) (o := .cells #[u302000] 57 (0, 0)) (by (with_reducible repeat (first | refine blk_drewN ?_ _ | refine blk_drew ?_ | refine blk_alloc ?_ _)); exact BK301.out)) : gb304 ≠ gb301)); clear HO_5; clear HO_302000; clear BK301; clear HB; have HO_5 := n0_; have HO_302000 := n1_; have BK301 := n2_; have HB := n3_; have BK304 := n4_; have GW304 := n5_; have GE304 := n6_; have NB301_304 := n7_; have NB304_301 := n8_; clear n0_ n1_ n2_ n3_ n4_ n5_ n6_ n7_ n8_; clear hb hbox hg; have hnb16 := NB304_301.out; have hnc16 := NB301_304.out; have hcz17_0 : w15.cell? ⟨gb304, 0, none⟩ = some (.string (⟨#[]⟩ : ByteArray)) := (blk_cell BK304.out 0).trans rfl; have hcz17_1 : w15.cell? ⟨gb304, 1, none⟩ = some (.slice none 0 0) := (blk_cell BK304.out 1).trans rfl; have hcz17_2 : w15.cell? ⟨gb304, 2, none⟩ = some (.int .i64 0) := (blk_cell BK304.out 2).trans rfl; have hcz17_3 : w15.cell? ⟨gb304, 3, none⟩ = some (.int .i64 0) := (blk_cell BK304.out 3).trans rfl; have hcz17_4 : w15.cell? ⟨gb304, 4, none⟩ = some (.int .i64 0) := (blk_cell BK304.out 4).trans rfl; have hcz17_5 : w15.cell? ⟨gb304, 5, none⟩ = some (.bool false) := (blk_cell BK304.out 5).trans rfl; have hcz17_6 : w15.cell? ⟨gb304, 6, none⟩ = some (.int .i64 0) := (blk_cell BK304.out 6).trans rfl; have hcz17_7 : w15.cell? ⟨gb304, 7, none⟩ = some (.bool false) := (blk_cell BK304.out 7).trans rfl; have hcz17_8 : w15.cell? ⟨gb304, 8, none⟩ = some (.bool false) := (blk_cell BK304.out 8).trans rfl; have hfz17_0 := blk_frozen BK304.out 0; have hfz17_1 := blk_frozen BK304.out 1; have hfz17_2 := blk_frozen BK304.out 2; have hfz17_3 := blk_frozen BK304.out 3; have hfz17_4 := blk_frozen BK304.out 4; have hfz17_5 := blk_frozen BK304.out 5; have hfz17_6 := blk_frozen BK304.out 6; have hfz17_7 := blk_frozen BK304.out 7; have hfz17_8 := blk_frozen BK304.out 8) | ((with_reducible refine gate_dst (N := 37) rfl ?_); refine Kd.R_lit k60 _ 60 ?hg (N := 37) ?hd (xs := ([] : List (S60))) (inner := []) (ok := fun _ => True) (okp := fun _ => True) ?hr ?hp (fun _ hk => hk) trivial (Below.refl _ _) (Nat.le_refl _) (by simp) ?_; (case hd => rfl); (case hg => rfl); (case hr => first | (go_simp; done) | (go_simp; rfl)); (case hp => exact (Reps.none _ _)); intro v306 w18 ho19 hb hg_ hnew_; clear hg_ hnew_; (first | rw [← Ny305.out] at ho19 | (simp only [Int.reduceToNat] at ho19; rw [← Ny305.out] at ho19)); have n0_ := Aside0.mk (Kd.R_elder' (by (with_reducible repeat (first | apply Kd.R_alloc | apply Kd.R_drewN | apply Kd.R_drew)); exact (Kd.R_mono (Kd.R_far (p := ⟨gb304, 8, none⟩) (Kd.R_far (p := ⟨gb304, 7, none⟩) (Kd.R_far (p := ⟨gb304, 6, none⟩) (Kd.R_far (p := ⟨gb304, 5, none⟩) (Kd.R_far (p := ⟨gb304, 4, none⟩) (Kd.R_far (p := ⟨gb304, 3, none⟩) (Kd.R_far (p := ⟨gb304, 2, none⟩) (Kd.R_far (p := ⟨gb304, 1, none⟩) (Kd.R_far (p := ⟨gb304, 0, none⟩) (Kd.R_mono HO_5.out (fun k_ hk => (⟨hk, hk.2⟩ : _ ∧ k_ ≠ gb304))) (fun _ hk => hk.2) (.string ((rd_T53 l0 x10_2).f0))) (fun _ hk => hk.2) (.slice A303_1 ((rd_T53 l0 x10_2).f1).length c303_1)) (fun _ hk => hk.2) (.int .i64 ((rd_T53 l0 x10_2).f2))) (fun _ hk => hk.2) (.int .i64 ((rd_T53 l0 x10_2).f3))) (fun _ hk => hk.2) (.int .i64 ((rd_T53 l0 x10_2).f4))) (fun _ hk => hk.2) (.bool ((rd_T53 l0 x10_2).f5))) (fun _ hk => hk.2) (.int .i64 ((rd_T53 l0 x10_2).f6))) (fun _ hk => hk.2) (.bool ((rd_T53 l0 x10_2).f7))) (fun _ hk => hk.2) (.bool ((rd_T53 l0 x10_2).f8))) (fun _ h_ => h_.1))) (Kd.R_base ho19) hb); have n1_ := Aside0.mk (Kd.S_elder' (by (with_reducible repeat (first | apply Kd.S_alloc | apply Kd.S_drewN | apply Kd.S_drew)); exact (Kd.S_mono (Kd.S_far (p := ⟨gb304, 8, none⟩) (Kd.S_far (p := ⟨gb304, 7, none⟩) (Kd.S_far (p := ⟨gb304, 6, none⟩) (Kd.S_far (p := ⟨gb304, 5, none⟩) (Kd.S_far (p := ⟨gb304, 4, none⟩) (Kd.S_far (p := ⟨gb304, 3, none⟩) (Kd.S_far (p := ⟨gb304, 2, none⟩) (Kd.S_far (p := ⟨gb304, 1, none⟩) (Kd.S_far (p := ⟨gb304, 0, none⟩) (Kd.S_mono HO_302000.out (fun k_ hk => (⟨hk, hk.2⟩ : _ ∧ k_ ≠ gb304))) (fun _ hk => hk.2) (.string ((rd_T53 l0 x10_2).f0))) (fun _ hk => hk.2) (.slice A303_1 ((rd_T53 l0 x10_2).f1).length c303_1)) (fun _ hk => hk.2) (.int .i64 ((rd_T53 l0 x10_2).f2))) (fun _ hk => hk.2) (.int .i64 ((rd_T53 l0 x10_2).f3))) (fun _ hk => hk.2) (.int .i64 ((rd_T53 l0 x10_2).f4))) (fun _ hk => hk.2) (.bool ((rd_T53 l0 x10_2).f5))) (fun _ hk => hk.2) (.int .i64 ((rd_T53 l0 x10_2).f6))) (fun _ hk => hk.2) (.bool ((rd_T53 l0 x10_2).f7))) (fun _ hk => hk.2) (.bool ((rd_T53 l0 x10_2).f8))) (fun _ h_ => h_.1))) (Kd.R_base ho19) hb); have n2_ := Aside0.mk (Kd.R_lower ho19 (below_size (by repeat (first | (with_reducible first | exact HB.out | apply below_alloc | apply pw_below_drewN | apply below_drew1 | refine below_set ?_ GE301.out | refine below_set ?_ GE304.out) | exact HB.out)))); have n3_ := Aside0.mk (blk_below (g := gb301) (o := .cells #[u302000] 57 (0, 0)) (by (with_reducible repeat (first | refine blk_drewN ?_ _ | refine blk_drew ?_ | refine blk_alloc ?_ _)); refine blk_far ?_ NB301_304.out _; (with_reducible repeat (first | refine blk_drewN ?_ _ | refine blk_drew ?_ | refine blk_alloc ?_ _)); refine blk_far ?_ NB301_304.out _; (with_reducible repeat (first | refine blk_drewN ?_ _ | refine blk_drew ?_ | refine blk_alloc ?_ _)); refine blk_far ?_ NB301_304.out _; (with_reducible repeat (first | refine blk_drewN ?_ _ | refine blk_drew ?_ | refine blk_alloc ?_ _)); refine blk_far ?_ NB301_304.out _; (with_reducible repeat (first | refine blk_drewN ?_ _ | refine blk_drew ?_ | refine blk_alloc ?_ _)); refine blk_far ?_ NB301_304.out _; (with_reducible repeat (first | refine blk_drewN ?_ _ | refine blk_drew ?_ | refine blk_alloc ?_ _)); refine blk_far ?_ NB301_304.out _; (with_reducible repeat (first | refine blk_drewN ?_ _ | refine blk_drew ?_ | refine blk_alloc ?_ _)); refine blk_far ?_ NB301_304.out _; (with_reducible repeat (first | refine blk_drewN ?_ _ | refine blk_drew ?_ | refine blk_alloc ?_ _)); refine blk_far ?_ NB301_304.out _; (with_reducible repeat (first | refine blk_drewN ?_ _ | refine blk_drew ?_ | refine blk_alloc ?_ _)); refine blk_far ?_ NB301_304.out _; (with_reducible repeat (first | refine blk_drewN ?_ _ | refine blk_drew ?_ | refine blk_alloc ?_ _)); exact BK301.out) hb); have n4_ := Aside0.mk (blk_below (g := gb304) (o := .cells #[.string ((rd_T53 l0 x10_2).f0), .slice A303_1 ((rd_T53 l0 x10_2).f1).length c303_1, .int .i64 ((rd_T53 l0 x10_2).f2), .int .i64 ((rd_T53 l0 x10_2).f3), .int .i64 ((rd_T53 l0 x10_2).f4), .bool ((rd_T53 l0 x10_2).f5), .int .i64 ((rd_T53 l0 x10_2).f6), .bool ((rd_T53 l0 x10_2).f7), .bool ((rd_T53 l0 x10_2).f8)] 53 (0, 0)) (by (with_reducible repeat (first | refine blk_drewN ?_ _ | refine blk_drew ?_ | refine blk_alloc ?_ _)); refine blk_put (cs := #[.string ((rd_T53 l0 x10_2).f0), .slice A303_1 ((rd_T53 l0 x10_2).f1).length c303_1, .int .i64 ((rd_T53 l0 x10_2).f2), .int .i64 ((rd_T53 l0 x10_2).f3), .int .i64 ((rd_T53 l0 x10_2).f4), .bool ((rd_T53 l0 x10_2).f5), .int .i64 ((rd_T53 l0 x10_2).f6), .bool ((rd_T53 l0 x10_2).f7), .bool false]) ?_ 8 _ rfl; (with_reducible repeat (first | refine blk_drewN ?_ _ | refine blk_drew ?_ | refine blk_alloc ?_ _)); refine blk_put (cs := #[.string ((rd_T53 l0 x10_2).f0), .slice A303_1 ((rd_T53 l0 x10_2).f1).length c303_1, .int .i64 ((rd_T53 l0 x10_2).f2), .int .i64 ((rd_T53 l0 x10_2).f3), .int .i64 ((rd_T53 l0 x10_2).f4), .bool ((rd_T53 l0 x10_2).f5), .int .i64 ((rd_T53 l0 x10_2).f6), .bool false, .bool false]) ?_ 7 _ rfl; (with_reducible repeat (first | refine blk_drewN ?_ _ | refine blk_drew ?_ | refine blk_alloc ?_ _)); refine blk_put (cs := #[.string ((rd_T53 l0 x10_2).f0), .slice A303_1 ((rd_T53 l0 x10_2).f1).length c303_1, .int .i64 ((rd_T53 l0 x10_2).f2), .int .i64 ((rd_T53 l0 x10_2).f3), .int .i64 ((rd_T53 l0 x10_2).f4), .bool ((rd_T53 l0 x10_2).f5), .int .i64 0, .bool false, .bool false]) ?_ 6 _ rfl; (with_reducible repeat (first | refine blk_drewN ?_ _ | refine blk_drew ?_ | refine blk_alloc ?_ _)); refine blk_put (cs := #[.string ((rd_T53 l0 x10_2).f0), .slice A303_1 ((rd_T53 l0 x10_2).f1).length c303_1, .int .i64 ((rd_T53 l0 x10_2).f2), .int .i64 ((rd_T53 l0 x10_2).f3), .int .i64 ((rd_T53 l0 x10_2).f4), .bool false, .int .i64 0, .bool false, .bool false]) ?_ 5 _ rfl; (with_reducible repeat (first | refine blk_drewN ?_ _ | refine blk_drew ?_ | refine blk_alloc ?_ _)); refine blk_put (cs := #[.string ((rd_T53 l0 x10_2).f0), .slice A303_1 ((rd_T53 l0 x10_2).f1).length c303_1, .int .i64 ((rd_T53 l0 x10_2).f2), .int .i64 ((rd_T53 l0 x10_2).f3), .int .i64 0, .bool false, .int .i64 0, .bool false, .bool false]) ?_ 4 _ rfl; (with_reducible repeat (first | refine blk_drewN ?_ _ | refine blk_drew ?_ | refine blk_alloc ?_ _)); refine blk_put (cs := #[.string ((rd_T53 l0 x10_2).f0), .slice A303_1 ((rd_T53 l0 x10_2).f1).length c303_1, .int .i64 ((rd_T53 l0 x10_2).f2), .int .i64 0, .int .i64 0, .bool false, .int .i64 0, .bool false, .bool false]) ?_ 3 _ rfl; (with_reducible repeat (first | refine blk_drewN ?_ _ | refine blk_drew ?_ | refine blk_alloc ?_ _)); refine blk_put (cs := #[.string ((rd_T53 l0 x10_2).f0), .slice A303_1 ((rd_T53 l0 x10_2).f1).length c303_1, .int .i64 0, .int .i64 0, .int .i64 0, .bool false, .int .i64 0, .bool false, .bool false]) ?_ 2 _ rfl; (with_reducible repeat (first | refine blk_drewN ?_ _ | refine blk_drew ?_ | refine blk_alloc ?_ _)); refine blk_put (cs := #[.string ((rd_T53 l0 x10_2).f0), .slice none 0 0, .int .i64 0, .int .i64 0, .int .i64 0, .bool false, .int .i64 0, .bool false, .bool false]) ?_ 1 _ rfl; (with_reducible repeat (first | refine blk_drewN ?_ _ | refine blk_drew ?_ | refine blk_alloc ?_ _)); refine blk_put (cs := #[.string (⟨#[]⟩ : ByteArray), .slice none 0 0, .int .i64 0, .int .i64 0, .int .i64 0, .bool false, .int .i64 0, .bool false, .bool false]) ?_ 0 _ rfl; (with_reducible repeat (first | refine blk_drewN ?_ _ | refine blk_drew ?_ | refine blk_alloc ?_ _)); exact BK304.out) hb); have n5_ := Aside0.mk (below_step (by repeat (first | (with_reducible first | exact HB.out | apply below_alloc | apply pw_below_drewN | apply below_drew1 | refine below_set ?_ GE301.out | refine below_set ?_ GE304.out) | exact HB.out)) hb); clear HO_5; clear HO_302000; clear BK301; clear BK304; clear HB; have HO_5 := n0_; have HO_302000 := n1_; have HO307 := n2_; have BK301 := n3_; have BK304 := n4_; have HB := n5_; clear n0_ n1_ n2_ n3_ n4_ n5_; clear hb ho19; have hcz20_0 : w18.cell? ⟨gb304, 0, none⟩ = some (.string ((rd_T53 l0 x10_2).f0)) := (blk_cell BK304.out 0).trans rfl; have hcz20_1 : w18.cell? ⟨gb304, 1, none⟩ = some (.slice A303_1 ((rd_T53 l0 x10_2).f1).length c303_1) := (blk_cell BK304.out 1).trans rfl; have hcz20_2 : w18.cell? ⟨gb304, 2, none⟩ = some (.int .i64 ((rd_T53 l0 x10_2).f2)) := (blk_cell BK304.out 2).trans rfl; have hcz20_3 : w18.cell? ⟨gb304, 3, none⟩ = some (.int .i64 ((rd_T53 l0 x10_2).f3)) := (blk_cell BK304.out 3).trans rfl; have hcz20_4 : w18.cell? ⟨gb304, 4, none⟩ = some (.int .i64 ((rd_T53 l0 x10_2).f4)) := (blk_cell BK304.out 4).trans rfl; have hcz20_5 : w18.cell? ⟨gb304, 5, none⟩ = some (.bool ((rd_T53 l0 x10_2).f5)) := (blk_cell BK304.out 5).trans rfl; have hcz20_6 : w18.cell? ⟨gb304, 6, none⟩ = some (.int .i64 ((rd_T53 l0 x10_2).f6)) := (blk_cell BK304.out 6).trans rfl; have hcz20_7 : w18.cell? ⟨gb304, 7, none⟩ = some (.bool ((rd_T53 l0 x10_2).f7)) := (blk_cell BK304.out 7).trans rfl; have hcz20_8 : w18.cell? ⟨gb304, 8, none⟩ = some (.bool ((rd_T53 l0 x10_2).f8)) := (blk_cell BK304.out 8).trans rfl; have hfz20_0 := blk_frozen BK304.out 0; have hfz20_1 := blk_frozen BK304.out 1; have hfz20_2 := blk_frozen BK304.out 2; have hfz20_3 := blk_frozen BK304.out 3; have hfz20_4 := blk_frozen BK304.out 4; have hfz20_5 := blk_frozen BK304.out 5; have hfz20_6 := blk_frozen BK304.out 6; have hfz20_7 := blk_frozen BK304.out 7; have hfz20_8 := blk_frozen BK304.out 8) | ((with_reducible refine gate_builtin (b := .append) (xs := #[.tmp 37, .tmp 39]) rfl ?_); at_builtin; refine Kd.R_append_rows k60 (w0 := w) w.heap.size rfl (.tmp 37) (.tmp 39) 51 60 (.agg #[(.int .i64 0), (.int .i64 0)]) 16 rfl Try.underlying51 info60 rfl (by decide) (by omega) v306 y305 ((rd_T53 l0 x10_2).f1) _ _ _ (fun _ => True) (fun _ => False) rfl rfl ?aO ?aR (fun _ _ h => h) (fun _ h => h.elim) ?aF ?aB ?aS ?aL ?_; (case aR => repeat (first | exact (Kd.C_below HR303_1.out HB.out) | (with_reducible refine Kd.C_alloc ?_ _) | (with_reducible refine Kd.C_drewN ?_ _) | (with_reducible refine Kd.C_drew ?_))); (case aB => exact (by repeat (first | (with_reducible first | exact HB.out | apply below_alloc | apply pw_below_drewN | apply below_drew1 | refine below_set ?_ GE301.out | refine below_set ?_ GE304.out) | exact HB.out))); (case aF => exact (fun _ _ => trivial)); (case aO => exact (by (with_reducible repeat (first | apply Kd.R_alloc | apply Kd.R_drewN | apply Kd.R_drew)); exact HO307.out)); (case aS => exact (below_size (by repeat (first | (with_reducible first | exact HB.out | apply below_alloc | apply pw_below_drewN | apply below_drew1 | refine below_set ?_ GE301.out | refine below_set ?_ GE304.out) | exact HB.out)))); (case aL => have := LMc13.out; omega); intro v309 w21 ho hb hg hat; rw [← Ny308.out] at ho; have n0_ := Aside0.mk (Kd.R_after (ok := (fun k_ => some k_ ≠ (u302000 : Value).ownBlock ∧ k_ ≠ gb301 ∧ k_ ≠ gb304)) (by (with_reducible repeat (first | apply Kd.R_alloc | apply Kd.R_drewN | apply Kd.R_drew)); exact Kd.R_mono HO_5.out (fun _ hk => ⟨⟨hk.1.1.1, ⟨hk.1.1.2, hk.1.2⟩⟩, hk.2⟩)) hg hat); have n1_ := Aside0.mk (Kd.S_after (ok := (fun k_ => k_ ≠ gb304)) (by (with_reducible repeat (first | apply Kd.S_alloc | apply Kd.S_drewN | apply Kd.S_drew)); exact Kd.S_mono HO_302000.out (fun _ hk => ⟨hk.1.2, hk.2⟩)) hg hat); have n2_ := Aside0.mk (blk_grown (g := gb301) (o := .cells #[u302000] 57 (0, 0)) (by (with_reducible repeat (first | refine blk_drewN ?_ _ | refine blk_drew ?_ | refine blk_alloc ?_ _)); exact BK301.out) hg (Kd.R_ne HO307.out BK301.out (by decide))); have n3_ := Aside0.mk (blk_grown (g := gb304) (o := .cells #[.string ((rd_T53 l0 x10_2).f0), .slice A303_1 ((rd_T53 l0 x10_2).f1).length c303_1, .int .i64 ((rd_T53 l0 x10_2).f2), .int .i64 ((rd_T53 l0 x10_2).f3), .int .i64 ((rd_T53 l0 x10_2).f4), .bool ((rd_T53 l0 x10_2).f5), .int .i64 ((rd_T53 l0 x10_2).f6), .bool ((rd_T53 l0 x10_2).f7), .bool ((rd_T53 l0 x10_2).f8)] 53 (0, 0)) (by (with_reducible repeat (first | refine blk_drewN ?_ _ | refine blk_drew ?_ | refine blk_alloc ?_ _)); exact BK304.out) hg (Kd.R_ne HO307.out BK304.out (by decide))); have n4_ := Aside0.mk (hb); have n5_ := Aside0.mk (ho); clear HO_5; clear HO_302000; clear BK301; clear BK304; clear HB; clear HO307; have HO_5 := n0_; have HO_302000 := n1_; have BK301 := n2_; have BK304 := n3_; have HB := n4_; have HO310 := n5_; clear n0_ n1_ n2_ n3_ n4_ n5_; clear ho hb hg hat; obtain ⟨Ao22, co22, eo22⟩ := Kd.R_slice HO310.out; subst eo22; have hcz23_0 : w21.cell? ⟨gb304, 0, none⟩ = some (.string ((rd_T53 l0 x10_2).f0)) := (blk_cell BK304.out 0).trans rfl; have hcz23_1 : w21.cell? ⟨gb304, 1, none⟩ = some (.slice A303_1 ((rd_T53 l0 x10_2).f1).length c303_1) := (blk_cell BK304.out 1).trans rfl; have hcz23_2 : w21.cell? ⟨gb304, 2, none⟩ = some (.int .i64 ((rd_T53 l0 x10_2).f2)) := (blk_cell BK304.out 2).trans rfl; have hcz23_3 : w21.cell? ⟨gb304, 3, none⟩ = some (.int .i64 ((rd_T53 l0 x10_2).f3)) := (blk_cell BK304.out 3).trans rfl; have hcz23_4 : w21.cell? ⟨gb304, 4, none⟩ = some (.int .i64 ((rd_T53 l0 x10_2).f4)) := (blk_cell BK304.out 4).trans rfl; have hcz23_5 : w21.cell? ⟨gb304, 5, none⟩ = some (.bool ((rd_T53 l0 x10_2).f5)) := (blk_cell BK304.out 5).trans rfl; have hcz23_6 : w21.cell? ⟨gb304, 6, none⟩ = some (.int .i64 ((rd_T53 l0 x10_2).f6)) := (blk_cell BK304.out 6).trans rfl; have hcz23_7 : w21.cell? ⟨gb304, 7, none⟩ = some (.bool ((rd_T53 l0 x10_2).f7)) := (blk_cell BK304.out 7).trans rfl; have hcz23_8 : w21.cell? ⟨gb304, 8, none⟩ = some (.bool ((rd_T53 l0 x10_2).f8)) := (blk_cell BK304.out 8).trans rfl; have hfz23_0 := blk_frozen BK304.out 0; have hfz23_1 := blk_frozen BK304.out 1; have hfz23_2 := blk_frozen BK304.out 2; have hfz23_3 := blk_frozen BK304.out 3; have hfz23_4 := blk_frozen BK304.out 4; have hfz23_5 := blk_frozen BK304.out 5; have hfz23_6 := blk_frozen BK304.out 6; have hfz23_7 := blk_frozen BK304.out 7; have hfz23_8 := blk_frozen BK304.out 8) | ((with_reducible refine gate_store (t := 51) (p := 41) rfl ?_); refine store_event (t := 51) (p := 41) (v := ?vo_w24) (w1 := (w21.setCell ⟨gb304, 1, none⟩ (.slice Ao22 y308.length co22))) ?hg ?ho ?hn ?hr ?_; (case ho => rfl); (case hg => rfl); (case hn => rfl); (case hr => first | (go_simp; done) | (go_simp; rfl)); intro w24 hw; have n0_ : Aside0 (Kd.R k57 57 w24 w.heap.size (fun k_ => some k_ ≠ (u302000 : Value).ownBlock ∧ some k_ ≠ (.slice Ao22 y308.length co22 : Value).ownBlock ∧ k_ ≠ gb301 ∧ k_ ≠ gb304) u5 x5_1) := ⟨(by rw [hw]; exact (by (with_reducible repeat (first | apply Kd.R_alloc | apply Kd.R_drewN | apply Kd.R_drew)); exact Kd.R_mono (Kd.R_far (p := ⟨gb304, 1, none⟩) (Kd.R_mono HO_5.out (fun k_ hk => (⟨hk, hk.1.2.2⟩ : _ ∧ k_ ≠ gb304))) (fun _ hk => hk.2) (.slice Ao22 y308.length co22)) (fun _ hk => ⟨hk.1.1.1, ⟨hk.1.2, ⟨hk.1.1.2.1, hk.1.1.2.2⟩⟩⟩)))⟩; have n1_ : Aside0 (Kd.S k53 53 w24 w.heap.size (fun k_ => some k_ ≠ (.slice Ao22 y308.length co22 : Value).ownBlock ∧ k_ ≠ gb304) u302000 x302000_2) := ⟨(by rw [hw]; exact (by (with_reducible repeat (first | apply Kd.S_alloc | apply Kd.S_drewN | apply Kd.S_drew)); exact Kd.S_mono (Kd.S_far (p := ⟨gb304, 1, none⟩) (Kd.S_mono HO_302000.out (fun k_ hk => (⟨hk, hk.1⟩ : _ ∧ k_ ≠ gb304))) (fun _ hk => hk.2) (.slice Ao22 y308.length co22)) (fun _ hk => ⟨hk.1.2, hk.1.1⟩)))⟩; have n2_ : Aside0 (Kd.R k60 60 w24 w.heap.size (fun _ => True) (.slice Ao22 y308.length co22) y308) := ⟨(by rw [hw]; exact (by (with_reducible repeat (first | apply Kd.R_alloc | apply Kd.R_drewN | apply Kd.R_drew)); exact Kd.R_mono (Kd.R_far (p := ⟨gb304, 1, none⟩) (Kd.R_types HO310.out BK304.out (by decide)) (fun _ hk => hk.2) (.slice Ao22 y308.length co22)) (fun _ hk => trivial)))⟩; have n3_ : Aside0 (w24.heap[gb301]? = some (.cells #[u302000] 57 (0, 0))) := ⟨(by rw [hw]; exact (by (with_reducible repeat (first | refine blk_drewN ?_ _ | refine blk_drew ?_ | refine blk_alloc ?_ _)); refine blk_far ?_ NB301_304.out _; (with_reducible repeat (first | refine blk_drewN ?_ _ | refine blk_drew ?_ | refine blk_alloc ?_ _)); exact BK301.out))⟩; have n4_ : Aside0 (w24.heap[gb304]? = some (.cells #[.string ((rd_T53 l0 x10_2).f0), .slice Ao22 y308.length co22, .int .i64 ((rd_T53 l0 x10_2).f2), .int .i64 ((rd_T53 l0 x10_2).f3), .int .i64 ((rd_T53 l0 x10_2).f4), .bool ((rd_T53 l0 x10_2).f5), .int .i64 ((rd_T53 l0 x10_2).f6), .bool ((rd_T53 l0 x10_2).f7), .bool ((rd_T53 l0 x10_2).f8)] 53 (0, 0))) := ⟨(by rw [hw]; exact (by (with_reducible repeat (first | refine blk_drewN ?_ _ | refine blk_drew ?_ | refine blk_alloc ?_ _)); refine blk_put (cs := #[.string ((rd_T53 l0 x10_2).f0), .slice A303_1 ((rd_T53 l0 x10_2).f1).length c303_1, .int .i64 ((rd_T53 l0 x10_2).f2), .int .i64 ((rd_T53 l0 x10_2).f3), .int .i64 ((rd_T53 l0 x10_2).f4), .bool ((rd_T53 l0 x10_2).f5), .int .i64 ((rd_T53 l0 x10_2).f6), .bool ((rd_T53 l0 x10_2).f7), .bool ((rd_T53 l0 x10_2).f8)]) ?_ 1 _ rfl; (with_reducible repeat (first | refine blk_drewN ?_ _ | refine blk_drew ?_ | refine blk_alloc ?_ _)); exact BK304.out))⟩; have n5_ : Aside0 (Below w.heap.size w w24) := ⟨(by rw [hw]; exact (by repeat (first | (with_reducible first | exact HB.out | apply below_alloc | apply pw_below_drewN | apply below_drew1 | refine below_set ?_ GE301.out | refine below_set ?_ GE304.out) | exact HB.out)))⟩; clear hw; clear HO_5; clear HO_302000; clear HO310; clear BK301; clear BK304; clear HB; have HO_5 := n0_; have HO_302000 := n1_; have HO310 := n2_; have BK301 := n3_; have BK304 := n4_; have HB := n5_; clear n0_ n1_ n2_ n3_ n4_ n5_; have hcz25_0 : w24.cell? ⟨gb304, 0, none⟩ = some (.string ((rd_T53 l0 x10_2).f0)) := (blk_cell BK304.out 0).trans rfl; have hcz25_1 : w24.cell? ⟨gb304, 1, none⟩ = some (.slice Ao22 y308.length co22) := (blk_cell BK304.out 1).trans rfl; have hcz25_2 : w24.cell? ⟨gb304, 2, none⟩ = some (.int .i64 ((rd_T53 l0 x10_2).f2)) := (blk_cell BK304.out 2).trans rfl; have hcz25_3 : w24.cell? ⟨gb304, 3, none⟩ = some (.int .i64 ((rd_T53 l0 x10_2).f3)) := (blk_cell BK304.out 3).trans rfl; have hcz25_4 : w24.cell? ⟨gb304, 4, none⟩ = some (.int .i64 ((rd_T53 l0 x10_2).f4)) := (blk_cell BK304.out 4).trans rfl; have hcz25_5 : w24.cell? ⟨gb304, 5, none⟩ = some (.bool ((rd_T53 l0 x10_2).f5)) := (blk_cell BK304.out 5).trans rfl; have hcz25_6 : w24.cell? ⟨gb304, 6, none⟩ = some (.int .i64 ((rd_T53 l0 x10_2).f6)) := (blk_cell BK304.out 6).trans rfl; have hcz25_7 : w24.cell? ⟨gb304, 7, none⟩ = some (.bool ((rd_T53 l0 x10_2).f7)) := (blk_cell BK304.out 7).trans rfl; have hcz25_8 : w24.cell? ⟨gb304, 8, none⟩ = some (.bool ((rd_T53 l0 x10_2).f8)) := (blk_cell BK304.out 8).trans rfl; have hfz25_0 := blk_frozen BK304.out 0; have hfz25_1 := blk_frozen BK304.out 1; have hfz25_2 := blk_frozen BK304.out 2; have hfz25_3 := blk_frozen BK304.out 3; have hfz25_4 := blk_frozen BK304.out 4; have hfz25_5 := blk_frozen BK304.out 5; have hfz25_6 := blk_frozen BK304.out 6; have hfz25_7 := blk_frozen BK304.out 7; have hfz25_8 := blk_frozen BK304.out 8) | ((with_reducible refine gate_store (t := 3) (p := 43) rfl ?_); refine store_event (t := 3) (p := 43) (v := ?vo_w26) (w1 := (w24.setCell ⟨gb304, 6, none⟩ (.int .i64 x9_2))) ?hg ?ho ?hn ?hr ?_; (case ho => rfl); (case hg => rfl); (case hn => rfl); (case hr => first | (go_simp; done) | (go_simp; rfl)); intro w26 hw; have n0_ : Aside0 (Kd.R k57 57 w26 w.heap.size (fun k_ => some k_ ≠ (u302000 : Value).ownBlock ∧ some k_ ≠ (.slice Ao22 y308.length co22 : Value).ownBlock ∧ k_ ≠ gb301 ∧ k_ ≠ gb304) u5 x5_1) := ⟨(by rw [hw]; exact (by (with_reducible repeat (first | apply Kd.R_alloc | apply Kd.R_drewN | apply Kd.R_drew)); exact Kd.R_mono (Kd.R_far (p := ⟨gb304, 6, none⟩) (Kd.R_mono HO_5.out (fun k_ hk => (⟨hk, hk.2.2.2⟩ : _ ∧ k_ ≠ gb304))) (fun _ hk => hk.2) (.int .i64 x9_2)) (fun _ hk => ⟨hk.1.1, ⟨hk.1.2.1, ⟨hk.1.2.2.1, hk.1.2.2.2⟩⟩⟩)))⟩; have n1_ : Aside0 (Kd.S k53 53 w26 w.heap.size (fun k_ => some k_ ≠ (.slice Ao22 y308.length co22 : Value).ownBlock ∧ k_ ≠ gb304) u302000 x302000_2) := ⟨(by rw [hw]; exact (by (with_reducible repeat (first | apply Kd.S_alloc | apply Kd.S_drewN | apply Kd.S_drew)); exact Kd.S_mono (Kd.S_far (p := ⟨gb304, 6, none⟩) (Kd.S_mono HO_302000.out (fun k_ hk => (⟨hk, hk.2⟩ : _ ∧ k_ ≠ gb304))) (fun _ hk => hk.2) (.int .i64 x9_2)) (fun _ hk => ⟨hk.1.1, hk.1.2⟩)))⟩; have n2_ : Aside0 (Kd.R k60 60 w26 w.heap.size (fun _ => True) (.slice Ao22 y308.length co22) y308) := ⟨(by rw [hw]; exact (by (with_reducible repeat (first | apply Kd.R_alloc | apply Kd.R_drewN | apply Kd.R_drew)); exact Kd.R_mono (Kd.R_far (p := ⟨gb304, 6, none⟩) (Kd.R_types HO310.out BK304.out (by decide)) (fun _ hk => hk.2) (.int .i64 x9_2)) (fun _ hk => trivial)))⟩; have n3_ : Aside0 (w26.heap[gb301]? = some (.cells #[u302000] 57 (0, 0))) := ⟨(by rw [hw]; exact (by (with_reducible repeat (first | refine blk_drewN ?_ _ | refine blk_drew ?_ | refine blk_alloc ?_ _)); refine blk_far ?_ NB301_304.out _; (with_reducible repeat (first | refine blk_drewN ?_ _ | refine blk_drew ?_ | refine blk_alloc ?_ _)); exact BK301.out))⟩; have n4_ : Aside0 (w26.heap[gb304]? = some (.cells #[.string ((rd_T53 l0 x10_2).f0), .slice Ao22 y308.length co22, .int .i64 ((rd_T53 l0 x10_2).f2), .int .i64 ((rd_T53 l0 x10_2).f3), .int .i64 ((rd_T53 l0 x10_2).f4), .bool ((rd_T53 l0 x10_2).f5), .int .i64 x9_2, .bool ((rd_T53 l0 x10_2).f7), .bool ((rd_T53 l0 x10_2).f8)] 53 (0, 0))) := ⟨(by rw [hw]; exact (by (with_reducible repeat (first | refine blk_drewN ?_ _ | refine blk_drew ?_ | refine blk_alloc ?_ _)); refine blk_put (cs := #[.string ((rd_T53 l0 x10_2).f0), .slice Ao22 y308.length co22, .int .i64 ((rd_T53 l0 x10_2).f2), .int .i64 ((rd_T53 l0 x10_2).f3), .int .i64 ((rd_T53 l0 x10_2).f4), .bool ((rd_T53 l0 x10_2).f5), .int .i64 ((rd_T53 l0 x10_2).f6), .bool ((rd_T53 l0 x10_2).f7), .bool ((rd_T53 l0 x10_2).f8)]) ?_ 6 _ rfl; (with_reducible repeat (first | refine blk_drewN ?_ _ | refine blk_drew ?_ | refine blk_alloc ?_ _)); exact BK304.out))⟩; have n5_ : Aside0 (Below w.heap.size w w26) := ⟨(by rw [hw]; exact (by repeat (first | (with_reducible first | exact HB.out | apply below_alloc | apply pw_below_drewN | apply below_drew1 | refine below_set ?_ GE301.out | refine below_set ?_ GE304.out) | exact HB.out)))⟩; clear hw; clear HO_5; clear HO_302000; clear HO310; clear BK301; clear BK304; clear HB; have HO_5 := n0_; have HO_302000 := n1_; have HO310 := n2_; have BK301 := n3_; have BK304 := n4_; have HB := n5_; clear n0_ n1_ n2_ n3_ n4_ n5_; have hcz27_0 : w26.cell? ⟨gb304, 0, none⟩ = some (.string ((rd_T53 l0 x10_2).f0)) := (blk_cell BK304.out 0).trans rfl; have hcz27_1 : w26.cell? ⟨gb304, 1, none⟩ = some (.slice Ao22 y308.length co22) := (blk_cell BK304.out 1).trans rfl; have hcz27_2 : w26.cell? ⟨gb304, 2, none⟩ = some (.int .i64 ((rd_T53 l0 x10_2).f2)) := (blk_cell BK304.out 2).trans rfl; have hcz27_3 : w26.cell? ⟨gb304, 3, none⟩ = some (.int .i64 ((rd_T53 l0 x10_2).f3)) := (blk_cell BK304.out 3).trans rfl; have hcz27_4 : w26.cell? ⟨gb304, 4, none⟩ = some (.int .i64 ((rd_T53 l0 x10_2).f4)) := (blk_cell BK304.out 4).trans rfl; have hcz27_5 : w26.cell? ⟨gb304, 5, none⟩ = some (.bool ((rd_T53 l0 x10_2).f5)) := (blk_cell BK304.out 5).trans rfl; have hcz27_6 : w26.cell? ⟨gb304, 6, none⟩ = some (.int .i64 x9_2) := (blk_cell BK304.out 6).trans rfl; have hcz27_7 : w26.cell? ⟨gb304, 7, none⟩ = some (.bool ((rd_T53 l0 x10_2).f7)) := (blk_cell BK304.out 7).trans rfl; have hcz27_8 : w26.cell? ⟨gb304, 8, none⟩ = some (.bool ((rd_T53 l0 x10_2).f8)) := (blk_cell BK304.out 8).trans rfl; have hfz27_0 := blk_frozen BK304.out 0; have hfz27_1 := blk_frozen BK304.out 1; have hfz27_2 := blk_frozen BK304.out 2; have hfz27_3 := blk_frozen BK304.out 3; have hfz27_4 := blk_frozen BK304.out 4; have hfz27_5 := blk_frozen BK304.out 5; have hfz27_6 := blk_frozen BK304.out 6; have hfz27_7 := blk_frozen BK304.out 7; have hfz27_8 := blk_frozen BK304.out 8; have hcz28_0 : w26.cell? ⟨gb301, 0, none⟩ = some (u302000) := (blk_cell BK301.out 0).trans rfl; have hfz28_0 := blk_frozen BK301.out 0) | ((with_reducible refine gate_builtin (b := .append) (xs := #[.tmp 49, .tmp 51]) rfl ?_); at_builtin; refine Kd.S_append k53 (w0 := w) w.heap.size rfl (.tmp 49) (.tmp 51) 50 53 (.agg #[(.string ⟨#[]⟩), (.slice none 0 0), (.int .i64 0), (.int .i64 0), (.int .i64 0), (.bool false), (.int .i64 0), (.bool false), (.bool false)]) 88 rfl Try.underlying50 info53 rfl (by decide) (by omega) u302000 x302000_2 (⟨(rd_T53 l0 x10_2).f0, y308, (rd_T53 l0 x10_2).f2, (rd_T53 l0 x10_2).f3, (rd_T53 l0 x10_2).f4, (rd_T53 l0 x10_2).f5, x9_2, (rd_T53 l0 x10_2).f7, (rd_T53 l0 x10_2).f8⟩ : S53) [.string ((rd_T53 l0 x10_2).f0), .slice Ao22 y308.length co22, .int .i64 ((rd_T53 l0 x10_2).f2), .int .i64 ((rd_T53 l0 x10_2).f3), .int .i64 ((rd_T53 l0 x10_2).f4), .bool ((rd_T53 l0 x10_2).f5), .int .i64 x9_2, .bool ((rd_T53 l0 x10_2).f7), .bool ((rd_T53 l0 x10_2).f8)] (fun k_ => k_ ≠ gb304) (fun k_ => some k_ = (.slice Ao22 y308.length co22 : Value).ownBlock) rfl rfl ?aP (fun k_ hk_ => ((Kd.R_mono (ok' := fun k_ => ((fun k_ => k_ ≠ gb304)) k_ ∧ some k_ ≠ (u302000 : Value).ownBlock) (Kd.R_types (Kd.R_apart' (HO310.out) (Kd.S_typed HO_302000.out) (by decide)) BK304.out (by decide)) (fun k_ hk => ⟨hk.2, hk.1.2⟩))).1 k_ hk_.symm) ?aF ?aO ?aB ?aS ?aL ?_; (case aP => exact k53_mkM _ _ _ (⟨(rd_T53 l0 x10_2).f0, y308, (rd_T53 l0 x10_2).f2, (rd_T53 l0 x10_2).f3, (rd_T53 l0 x10_2).f4, (rd_T53 l0 x10_2).f5, x9_2, (rd_T53 l0 x10_2).f7, (rd_T53 l0 x10_2).f8⟩ : S53) (Kd.R_mono (Kd.R_tight rfl (Kd.R_mono (ok' := fun k_ => ((fun k_ => k_ ≠ gb304)) k_ ∧ some k_ ≠ (u302000 : Value).ownBlock) (Kd.R_types (Kd.R_apart' (HO310.out) (Kd.S_typed HO_302000.out) (by decide)) BK304.out (by decide)) (fun k_ hk => ⟨hk.2, hk.1.2⟩))) (fun _ h_ => h_))); (case aB => exact (by repeat (first | (with_reducible first | exact HB.out | apply below_alloc | apply pw_below_drewN | apply below_drew1 | refine below_set ?_ GE301.out | refine below_set ?_ GE304.out) | exact HB.out))); (case aF => exact (fun k_ hk => Kd.freshB (g := gb304) (o := .cells #[.string ((rd_T53 l0 x10_2).f0), .slice Ao22 y308.length co22, .int .i64 ((rd_T53 l0 x10_2).f2), .int .i64 ((rd_T53 l0 x10_2).f3), .int .i64 ((rd_T53 l0 x10_2).f4), .bool ((rd_T53 l0 x10_2).f5), .int .i64 x9_2, .bool ((rd_T53 l0 x10_2).f7), .bool ((rd_T53 l0 x10_2).f8)] 53 (0, 0)) (by (with_reducible repeat (first | refine blk_drewN ?_ _ | refine blk_drew ?_ | refine blk_alloc ?_ _)); exact BK304.out) k_ hk)); (case aO => exact (by (with_reducible repeat (first | apply Kd.S_alloc | apply Kd.S_drewN | apply Kd.S_drew)); exact Kd.S_mono HO_302000.out (fun k_ hk => ⟨hk.2, fun e_ => hk.1 e_⟩))); (case aS => exact (below_size (by repeat (first | (with_reducible first | exact HB.out | apply below_alloc | apply pw_below_drewN | apply below_drew1 | refine below_set ?_ GE301.out | refine below_set ?_ GE304.out) | exact HB.out)))); (case aL => have := LMc14.out; omega); intro v312 w29 ho hb hg hat; rw [← Ny311.out] at ho; have n0_ := Aside0.mk (Kd.R_after (ok := (fun k_ => some k_ ≠ (.slice Ao22 y308.length co22 : Value).ownBlock ∧ k_ ≠ gb301 ∧ k_ ≠ gb304)) (by (with_reducible repeat (first | apply Kd.R_alloc | apply Kd.R_drewN | apply Kd.R_drew)); exact Kd.R_mono HO_5.out (fun _ hk => ⟨⟨hk.2.1, ⟨hk.2.2.1, hk.2.2.2⟩⟩, hk.1⟩)) hg hat); have n1_ := Aside0.mk (blk_grown (g := gb301) (o := .cells #[u302000] 57 (0, 0)) (by (with_reducible repeat (first | refine blk_drewN ?_ _ | refine blk_drew ?_ | refine blk_alloc ?_ _)); exact BK301.out) hg (Kd.S_ne HO_302000.out BK301.out (by decide))); have n2_ := Aside0.mk (blk_grown (g := gb304) (o := .cells #[.string ((rd_T53 l0 x10_2).f0), .slice Ao22 y308.length co22, .int .i64 ((rd_T53 l0 x10_2).f2), .int .i64 ((rd_T53 l0 x10_2).f3), .int .i64 ((rd_T53 l0 x10_2).f4), .bool ((rd_T53 l0 x10_2).f5), .int .i64 x9_2, .bool ((rd_T53 l0 x10_2).f7), .bool ((rd_T53 l0 x10_2).f8)] 53 (0, 0)) (by (with_reducible repeat (first | refine blk_drewN ?_ _ | refine blk_drew ?_ | refine blk_alloc ?_ _)); exact BK304.out) hg (Kd.S_away HO_302000.out (fun _ hk => hk.2))); have n3_ := Aside0.mk (hb); have n4_ := Aside0.mk (ho); clear HO_5; clear BK301; clear BK304; clear HB; clear HO_302000; clear HO310; have HO_5 := n0_; have BK301 := n1_; have BK304 := n2_; have HB := n3_; have HO313 := n4_; clear n0_ n1_ n2_ n3_ n4_; clear ho hb hg hat; obtain ⟨Ao30, co30, eo30⟩ := Kd.S_slice HO313.out; subst eo30; have hcz31_0 : w29.cell? ⟨gb301, 0, none⟩ = some (u302000) := (blk_cell BK301.out 0).trans rfl; have hfz31_0 := blk_frozen BK301.out 0))
                         go_roundg k2
                         case measure => have := HK1.out; have := HK2.out; omega
                         case rel => exact ⟨(wrap64 (x9_2 + ((rd_T53 l0 x10_2).f4))), (wrap64 (x10_2 + 1)), (y311), (.slice Ao30 y311.length co30), (by first | rfl | (simp; done) | (simp [*]; done)), (by first | rfl | (simp; done) | (simp [*]; done)), H', ⟨by have := HK1.out; have := HK2.out; omega⟩, ⟨by (with_reducible repeat (first | apply Kd.R_alloc | apply Kd.R_drewN | apply Kd.R_drew)); exact Kd.R_mono (Kd.R_far (p := ⟨gb301, 0, none⟩) (Kd.R_mono HO_5.out (fun k_ hk => (⟨hk, hk.1.2.1⟩ : _ ∧ k_ ≠ gb301))) (fun _ hk => hk.2) (.slice Ao30 y311.length co30)) (fun _ hk => ⟨hk.1.2, hk.1.1.2.1⟩)⟩, ⟨by (with_reducible repeat (first | apply Kd.S_alloc | apply Kd.S_drewN | apply Kd.S_drew)); exact Kd.S_mono (Kd.S_far (p := ⟨gb301, 0, none⟩) (Kd.S_types HO313.out BK301.out (by decide)) (fun _ hk => hk.2) (.slice Ao30 y311.length co30)) (fun _ hk => trivial)⟩, ⟨by (with_reducible repeat (first | refine blk_drewN ?_ _ | refine blk_drew ?_ | refine blk_alloc ?_ _)); refine blk_put (cs := #[u302000]) ?_ 0 _ rfl; (with_reducible repeat (first | refine blk_drewN ?_ _ | refine blk_drew ?_ | refine blk_alloc ?_ _)); exact BK301.out⟩, ⟨by repeat (first | (with_reducible first | exact HB.out | apply below_alloc | apply pw_below_drewN | apply below_drew1 | refine below_set ?_ GE301.out | refine below_set ?_ GE304.out) | exact HB.out)⟩⟩
                       · rw [if_neg c14] at H
                         exact absurd H (by simp)
                     · rw [if_neg c13] at H
                       exact absurd H (by simp)
                   · rw [if_neg c12] at H
                     exact absurd H (by simp)
                 · rw [if_neg c11] at H
                   exact absurd H (by simp)
               · rw [if_neg c10] at H
                 have c10b0 : decide (x10_2 < (ji9)) = false := decide_eq_false c10
                 clear c10
                 by_cases c32 : x5_1.length < 5864062014805
                 · rw [if_pos c32] at H
                   have LMc32 := Aside0.mk c32
                   clear c32
                   obtain ⟨y314, hy314⟩ : ∃ y_ : List (S57), y_ = (x5_1 ++ [(⟨x302000_2⟩ : S57)]) := ⟨_, rfl⟩
                   replace H : (pages_Of.l0 k2 l0 l1 y314 l1 (l1.length : Int) (wrap64 (x14_1 + 1))) = some r := by first | (rw [hy314]; with_reducible exact H) | (have H2_ := (Option.bind_some _ _).symm.trans H; rw [hy314]; with_reducible exact H2_) | (have H2_ := (Option.bind_some _ _).symm.trans H; with_reducible exact H2_) | with_reducible exact H | (rw [hy314]; exact H) | exact H
                   have Ny314 := Aside0.mk hy314
                   clear hy314
                   have H' := Aside0.mk H
                   clear H
                   go_wp2_with (first | ((with_reducible refine gate_callee (f := 29) rfl ?_); refine goesL_ (some 26) rfl rfl Try.func29 (by kernel_rfl) rfl #[.slice (some ad300) l1.length c1, .int .i64 x14_1, .int .i64 (l0.length : Int)] rfl (by (try simp only [List.map_toArray, List.map_cons, List.map_nil]); first | done | rfl | (simp only [List.length_drop, List.length_take]; rfl)) ?_; (with_reducible refine (pages_End.calls _ _ l1 x14_1 (l0.length : Int) t302 _ ?side1 ?side2 A8.out).mono ?_); (case side1 => repeat (first | exact (Kd.C_below HR1.out HB.out) | (with_reducible refine Kd.C_alloc ?_ _) | (with_reducible refine Kd.C_drewN ?_ _) | (with_reducible refine Kd.C_drew ?_))); (case side2 => exact HC1.out); rintro e w' ⟨rfl, ⟨nd, rfl⟩⟩; refine ⟨_, rfl, ?_⟩; have hcz33_0 : wr.cell? ⟨gb301, 0, none⟩ = some (u302000) := (blk_cell BK301.out 0).trans rfl; have hfz33_0 := blk_frozen BK301.out 0; obtain ⟨Ao35, co35, eo35⟩ := Kd.S_slice HO_302000.out; subst eo35) | ((with_reducible refine gate_builtin (b := .append) (xs := #[.tmp 54, .tmp 56]) rfl ?_); at_builtin; refine Kd.R_append k57 (w0 := w) w.heap.size rfl (.tmp 54) (.tmp 56) 54 57 (.agg #[(.slice none 0 0)]) 24 rfl Try.underlying54 info57 rfl (by decide) (by omega) u5 x5_1 (⟨x302000_2⟩ : S57) [.slice Ao35 x302000_2.length co35] (fun k_ => k_ ≠ gb301) (fun k_ => ((fun k_ => k_ ≠ gb301)) k_ ∧ some k_ ≠ (u5 : Value).ownBlock) rfl rfl ?aP (fun _ hk => hk) ?aF ?aO ?aB ?aS ?aL ?_; (case aP => exact k57_mkM _ _ _ (⟨x302000_2⟩ : S57) (Kd.R_mono (Kd.R_types (Kd.R_apart' ((Kd.S_R HO_302000.out)) (Kd.R_typed HO_5.out) (by decide)) BK301.out (by decide)) (fun k_ hk => ⟨hk.2, hk.1.2⟩))); (case aB => exact (by repeat (first | (with_reducible first | exact HB.out | apply below_alloc | apply pw_below_drewN | apply below_drew1 | refine below_set ?_ GE301.out) | exact HB.out))); (case aF => exact (fun k_ hk => Kd.freshB (g := gb301) (o := .cells #[.slice Ao35 x302000_2.length co35] 57 (0, 0)) (by (with_reducible repeat (first | refine blk_drewN ?_ _ | refine blk_drew ?_ | refine blk_alloc ?_ _)); exact BK301.out) k_ hk)); (case aO => exact (by (with_reducible repeat (first | apply Kd.R_alloc | apply Kd.R_drewN | apply Kd.R_drew)); exact Kd.R_mono HO_5.out (fun _ hk => hk.2))); (case aS => exact (below_size (by repeat (first | (with_reducible first | exact HB.out | apply below_alloc | apply pw_below_drewN | apply below_drew1 | refine below_set ?_ GE301.out) | exact HB.out)))); (case aL => have := LMc32.out; omega); intro v315 w34 ho hb hg hat; rw [← Ny314.out] at ho; have n0_ := Aside0.mk (blk_grown (g := gb301) (o := .cells #[.slice Ao35 x302000_2.length co35] 57 (0, 0)) (by (with_reducible repeat (first | refine blk_drewN ?_ _ | refine blk_drew ?_ | refine blk_alloc ?_ _)); exact BK301.out) hg (Kd.R_away HO_5.out (fun _ hk => hk.2))); have n1_ := Aside0.mk (hb); have n2_ := Aside0.mk (ho); clear BK301; clear HB; clear HO_5; clear HO_302000; have BK301 := n0_; have HB := n1_; have HO316 := n2_; clear n0_ n1_ n2_; clear ho hb hg hat))
                   go_roundg k2
                   case measure => have := HK1.out; have := HK2.out; omega
                   case rel => exact ⟨(y314), (wrap64 (x14_1 + 1)), (by first | rfl | (simp; done) | (simp [*]; done)), H', ⟨by have := HK1.out; have := HK2.out; omega⟩, ⟨by (with_reducible repeat (first | apply Kd.R_alloc | apply Kd.R_drewN | apply Kd.R_drew)); exact Kd.R_mono HO316.out (fun _ hk => trivial)⟩, ⟨by repeat (first | (with_reducible first | exact HB.out | apply below_alloc | apply pw_below_drewN | apply below_drew1 | refine below_set ?_ GE301.out) | exact HB.out)⟩⟩
                 · rw [if_neg c32] at H
                   exact absurd H (by simp)
         · rw [if_neg c5] at H
           exact absurd H (by simp)
       · rw [if_neg c4] at H
         exact absurd H (by simp)
     · rw [if_neg c3] at H
       have c3b0 : decide (x14_1 < (l1.length : Int)) = false := decide_eq_false c3
       clear c3
       obtain rfl := Option.some.inj H
       go_wp2
       go_ret
       exact ⟨_, by first | rfl | (simp [errW_none, errW_some] <;> rfl) | (simp [*, errW_none, errW_some] <;> rfl), by (with_reducible repeat (first | apply Kd.R_alloc | apply Kd.R_drewN | apply Kd.R_drew)); exact HO_5.out, by repeat (first | (with_reducible first | exact HB.out | apply below_alloc | apply pw_below_drewN | apply below_drew1) | exact HB.out)⟩

/-! ### regletref05_Same: function 35 -/
def regletref05_Same.l0 : Nat → List (S60) → List (S60) → Int → Option (Bool)
 | 0, _, _, _ => none
 | k + 1, x0, x1, x5 => if x5 < (x0.length : Int) then (if 0 ≤ x5 then (if x5 < (x1.length : Int) then (if (!(((rd_T60 x0 x5).f0) == ((rd_T60 x1 x5).f0)) || (!(((rd_T60 x0 x5).f1) == ((rd_T60 x1 x5).f1)))) = true then (some false) else (regletref05_Same.l0 k x0 x1 (wrap64 (x5 + 1)))) else (none)) else (none)) else (some true)
def regletref05_Same.f (k : Nat) (l0 : List (S60)) (l1 : List (S60)) : Option (Bool) := if (l0.length : Int) = (l1.length : Int) then (regletref05_Same.l0 k l0 l1 0) else (some false)
theorem regletref05_Same.mono_l : ∀ k, (∀ y0 y1 y2, LeO (regletref05_Same.l0 k y0 y1 y2) (regletref05_Same.l0 (k + 1) y0 y1 y2))
 | 0 => fun _ _ _ r h => by simp [regletref05_Same.l0] at h
 | k + 1 => by
   have ih0 := regletref05_Same.mono_l k
   · intro y0 y1 y2
     unfold regletref05_Same.l0
     repeat' first
     | (with_reducible exact ih0 _ _ _)
     | (with_reducible exact LeO.refl _)
     | (with_reducible exact LeO.none _)
     | (with_reducible refine LeO.ite ?_ ?_)
     | (with_reducible refine LeO.bind ?_ (fun _ => ?_))
     | exact ih0 _ _ _
     | exact LeO.none _
     | refine LeO.ite ?_ ?_
     | refine LeO.bind ?_ (fun _ => ?_)
theorem regletref05_Same.mono : ∀ a0 a1 k, LeO (regletref05_Same.f k a0 a1) (regletref05_Same.f (k + 1) a0 a1) := by
 intro a0 a1 k
 have ih0 := regletref05_Same.mono_l k
 unfold regletref05_Same.f
 repeat' first
     | (with_reducible exact ih0 _ _ _)
     | (with_reducible exact LeO.refl _)
     | (with_reducible exact LeO.none _)
     | (with_reducible refine LeO.ite ?_ ?_)
     | (with_reducible refine LeO.bind ?_ (fun _ => ?_))
     | exact ih0 _ _ _
     | exact LeO.none _
     | refine LeO.ite ?_ ?_
     | refine LeO.bind ?_ (fun _ => ?_)
theorem regletref05_Same.l0.ev {x0 : List (S60)} {x1 : List (S60)} {x5 : Int} {r_ : Bool} (h : Ev (fun k => if x5 < (x0.length : Int) then (if 0 ≤ x5 then (if x5 < (x1.length : Int) then (if (!(((rd_T60 x0 x5).f0) == ((rd_T60 x1 x5).f0)) || (!(((rd_T60 x0 x5).f1) == ((rd_T60 x1 x5).f1)))) = true then (some false) else (regletref05_Same.l0 k x0 x1 (wrap64 (x5 + 1)))) else (none)) else (none)) else (some true)) r_) : Ev (fun k => regletref05_Same.l0 k x0 x1 x5) r_ := Ev.step (fun k => by rw [regletref05_Same.l0]) h
set_option maxHeartbeats 8000000 in
set_option maxRecDepth 100000 in
theorem regletref05_Same.calls (k : Nat) (A0 : Option Addr) (c0 : Nat) (l0 : List (S60)) (A1 : Option Addr) (c1 : Nat) (l1 : List (S60)) (r : Bool) (w : World) (hr0 : Kd.C k60 w A0 l0.length l0) (hc0 : l0.length ≤ c0) (hr1 : Kd.C k60 w A1 l1.length l1) (hc1 : l1.length ≤ c1) (h : regletref05_Same.f k l0 l1 = some r) :
   Calls Try.prog 35 #[.slice A0 l0.length c0, .slice A1 l1.length c1] w fun e w' => e = .returned (.bool r) ∧ Drawn0 w w' := by
 have hu60 := Try.underlying60
 have HR0 := Aside0.mk hr0
 have HC0 := Aside0.mk hc0
 clear hr0 hc0
 have HR1 := Aside0.mk hr1
 have HC1 := Aside0.mk hc1
 clear hr1 hc1
 have H : (if (l0.length : Int) = (l1.length : Int) then (regletref05_Same.l0 k l0 l1 0) else (some false)) = some r := h
 clear h
 by_cases c3 : (l0.length : Int) = (l1.length : Int)
 · rw [if_pos c3] at H
   have c3b0 : ((l0.length : Int) == (l1.length : Int)) = true := beq_iff_eq.mpr c3
   have c3b1 : ((l0.length : Int) != (l1.length : Int)) = false := bne_eq_false_iff_eq.mpr c3
   have c3b2 : (l0.length == l1.length) = true := by first | simpa using c3 | (simp at c3 ⊢; omega)
   clear c3
   have H' := Aside0.mk H
   clear H
   go_enter Try.func35, Try.ntmps35
   go_wp2
   repeat (go_quiet (fail); try go_wp2)
   go_loopg [5] k (fun kq v5 w' => ∃ (x5_1 : Int), v5 = .int .i64 x5_1 ∧ Aside0 (regletref05_Same.l0 kq l0 l1 x5_1 = some r) ∧ Aside0 (kq ≤ k) ∧ Drawn0 w w')
   case atStart => exact ⟨(0), (by first | rfl | (simp; done) | (simp [*]; done)), H', ⟨Nat.le_refl _⟩, by repeat (first | exact Drawn0.refl _ | apply Drawn0.step)⟩
   case round =>
     clear H'
     try clear c1
     try clear p2
     try clear c3
     try clear c3b0
     try clear c3b1
     try clear c3b2
     obtain ⟨x5_1, rfl, HA, HK1, ⟨m1, rfl⟩⟩ := hrel
     cases gk with
     | zero => exact absurd HA.out (by simp [regletref05_Same.l0])
     | succ k1 =>
       have H := HA.out
       clear HA
       simp only [regletref05_Same.l0] at H
       by_cases c4 : x5_1 < (l0.length : Int)
       · rw [if_pos c4] at H
         have c4b0 : decide (x5_1 < (l0.length : Int)) = true := decide_eq_true c4
         clear c4
         by_cases c5 : 0 ≤ x5_1
         · rw [if_pos c5] at H
           have c5b0 : decide (0 ≤ x5_1) = true := decide_eq_true c5
           clear c5
           by_cases c6 : x5_1 < (l1.length : Int)
           · rw [if_pos c6] at H
             have c6b0 : decide (x5_1 < (l1.length : Int)) = true := decide_eq_true c6
             clear c6
             by_cases c7 : (!(((rd_T60 l0 x5_1).f0) == ((rd_T60 l1 x5_1).f0)) || (!(((rd_T60 l0 x5_1).f1) == ((rd_T60 l1 x5_1).f1)))) = true
             · rw [if_pos c7] at H
               have c7b0 : (!(((rd_T60 l0 x5_1).f0) == ((rd_T60 l1 x5_1).f0)) || (!(((rd_T60 l0 x5_1).f1) == ((rd_T60 l1 x5_1).f1)))) = true := c7
               clear c7
               obtain rfl := Option.some.inj H
               have p317 : 0 ≤ (x5_1 : Int) := of_decide_eq_true (by first | (with_reducible assumption) | assumption)
               have q317 : x5_1 < (l0.length : Int) := of_decide_eq_true (by first | (with_reducible assumption) | assumption)
               obtain ⟨ad317, e317, hx317_0, hx317_1⟩ := at_T60 HR0.out x5_1 p317 q317
               cases e317
               replace p317 := eq_true p317
               replace q317 := eq_true q317
               have p318 : 0 ≤ (x5_1 : Int) := of_decide_eq_true (by first | (with_reducible assumption) | assumption)
               have q318 : x5_1 < (l1.length : Int) := of_decide_eq_true (by first | (with_reducible assumption) | assumption)
               obtain ⟨ad318, e318, hx318_0, hx318_1⟩ := at_T60 HR1.out x5_1 p318 q318
               cases e318
               replace p318 := eq_true p318
               replace q318 := eq_true q318
               go_wp2
               repeat (go_quiet (fail); try go_wp2)
               go_ret
               exact ⟨by first | rfl | (simp; done) | (simp [*]; done), by repeat (first | exact Drawn0.refl _ | apply Drawn0.step)⟩
             · rw [if_neg c7] at H
               have c7b0 : (!(((rd_T60 l0 x5_1).f0) == ((rd_T60 l1 x5_1).f0)) || (!(((rd_T60 l0 x5_1).f1) == ((rd_T60 l1 x5_1).f1)))) = false := by simpa using c7
               clear c7
               have H' := Aside0.mk H
               clear H
               have p317 : 0 ≤ (x5_1 : Int) := of_decide_eq_true (by first | (with_reducible assumption) | assumption)
               have q317 : x5_1 < (l0.length : Int) := of_decide_eq_true (by first | (with_reducible assumption) | assumption)
               obtain ⟨ad317, e317, hx317_0, hx317_1⟩ := at_T60 HR0.out x5_1 p317 q317
               cases e317
               replace p317 := eq_true p317
               replace q317 := eq_true q317
               have p318 : 0 ≤ (x5_1 : Int) := of_decide_eq_true (by first | (with_reducible assumption) | assumption)
               have q318 : x5_1 < (l1.length : Int) := of_decide_eq_true (by first | (with_reducible assumption) | assumption)
               obtain ⟨ad318, e318, hx318_0, hx318_1⟩ := at_T60 HR1.out x5_1 p318 q318
               cases e318
               replace p318 := eq_true p318
               replace q318 := eq_true q318
               go_wp2
               repeat (go_quiet (fail); try go_wp2)
               go_roundg k1
               case measure => have := HK1.out; omega
               case rel => exact ⟨(wrap64 (x5_1 + 1)), (by first | rfl | (simp; done) | (simp [*]; done)), H', ⟨by have := HK1.out; omega⟩, by repeat (first | exact Drawn0.refl _ | apply Drawn0.step)⟩
           · rw [if_neg c6] at H
             exact absurd H (by simp)
         · rw [if_neg c5] at H
           exact absurd H (by simp)
       · rw [if_neg c4] at H
         have c4b0 : decide (x5_1 < (l0.length : Int)) = false := decide_eq_false c4
         clear c4
         obtain rfl := Option.some.inj H
         go_wp2
         repeat (go_quiet (fail); try go_wp2)
         go_ret
         exact ⟨by first | rfl | (simp; done) | (simp [*]; done), by repeat (first | exact Drawn0.refl _ | apply Drawn0.step)⟩
 · rw [if_neg c3] at H
   have c3b0 : ((l0.length : Int) == (l1.length : Int)) = false := beq_eq_false_iff_ne.mpr c3
   have c3b1 : ((l0.length : Int) != (l1.length : Int)) = true := bne_iff_ne.mpr c3
   have c3b2 : (l0.length == l1.length) = false := by first | simpa using c3 | (simp at c3 ⊢; omega)
   obtain rfl := Option.some.inj H
   go_enter Try.func35, Try.ntmps35
   go_wp2
   repeat (go_quiet (fail); try go_wp2)
   go_ret
   exact ⟨by first | rfl | (simp; done) | (simp [*]; done), by repeat (first | exact Drawn0.refl _ | apply Drawn0.step)⟩

end Go.Proofs.Ytknlneeglkchmaa.P
