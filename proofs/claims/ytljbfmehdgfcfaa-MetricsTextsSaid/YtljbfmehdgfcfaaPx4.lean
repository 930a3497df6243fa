-- PRINTED by print.py (a twelfth state) out of the translation. Not trusted: Lean checks it.
import Derived.Test.YtljbfmehdgfcfaaPx0
import Derived.Test.YtljbfmehdgfcfaaPx3
namespace Go.Proofs.Ytljbfmehdgfcfaa.P
open Go.RowKit Go.Proofs.YtljbfmehdgfcfaaW.PrintWords Go.Proofs.YtljbfmehdgfcfaaW.PrintLast Go.Proofs.YtljbfmehdgfcfaaW.PrintMore
attribute [local go_sem] max2_int min2_int max_two min_two max_three min_three max_four min_four   -- for this text's walks alone
set_option linter.unusedVariables false
set_option linter.unusedSimpArgs false

/-- A pointer to a struct of type 66 that isn't written any more, or nil. -/
def PtS66 (W : World) (v : Value) (ok : Bool) (f0 : List (S46)) : Prop := if ok = true then ∃ (g : Nat) (A0 : Option Addr) (c0 : Nat), v = .pointer (some ⟨g, 0, none⟩) ∧ W.heap[g]? = some (.cells #[.slice A0 f0.length c0] 66 (0, 0)) ∧ (Kd.C k46 W A0 f0.length f0) ∧ f0.length ≤ c0 else v = .pointer none
theorem PtS66.yes {W : World} {v : Value} {ok : Bool} {f0 : List (S46)} (h : PtS66 W v ok f0) (ho : ok = true) : ∃ (g : Nat) (A0 : Option Addr) (c0 : Nat), v = .pointer (some ⟨g, 0, none⟩) ∧ W.heap[g]? = some (.cells #[.slice A0 f0.length c0] 66 (0, 0)) ∧ (Kd.C k46 W A0 f0.length f0) ∧ f0.length ≤ c0 := by
 unfold PtS66 at h
 rw [if_pos ho] at h
 exact h
theorem PtS66.no {W : World} {v : Value} {ok : Bool} {f0 : List (S46)} (h : PtS66 W v ok f0) (ho : ok = false) : v = .pointer none := by
 unfold PtS66 at h
 rw [if_neg (by simp [ho])] at h
 exact h
theorem PtS66.mk {W : World} {g : Nat} {f0 : List (S46)} {v0 : Value} (hb : W.heap[g]? = some (.cells #[v0] 66 (0, 0))) (h0 : ∃ A c, v0 = .slice A f0.length c ∧ f0.length ≤ c ∧ Kd.C k46 W A f0.length f0) : PtS66 W (.pointer (some ⟨g, 0, none⟩)) true f0 := by
 obtain ⟨A0, c0, rfl, l0, C0⟩ := h0
 unfold PtS66
 rw [if_pos rfl]
 exact ⟨g, A0, c0, rfl, hb, C0, l0⟩
theorem PtS66.nil (W : World) : PtS66 W (.pointer none) false ([] : List (S46)) := by
 unfold PtS66
 rw [if_neg (by simp)]

/-! ### metrics_New: function 11 -/
mutual
def metrics_New.j0 : Nat → List (S46) → Bool → Option (Int × Int × Bool × (List (S46)))
 | 0, _, _ => none
 | k + 1, x0, x16 => if x16 = true then (some (40, 0, false, ([] : List (S46)))) else (metrics_New.l0 k x0 (x0.length : Int) 0 ([] : List (S46)))
def metrics_New.l0 : Nat → List (S46) → Int → Int → List (S46) → Option (Int × Int × Bool × (List (S46)))
 | 0, _, _, _, _ => none
 | k + 1, x19, x20, x21, x112000 => if x21 < x20 then (if 0 ≤ x21 then (if x21 < (x19.length : Int) then ((metrics_check.f k ((rd_T46 x19 x21).f0) ((rd_T46 x19 x21).f1) ((rd_T46 x19 x21).f2) ((rd_T46 x19 x21).f3) ((rd_T46 x19 x21).f4) ((rd_T46 x19 x21).f5) ((rd_T46 x19 x21).f6) ((rd_T46 x19 x21).f7)).bind fun t114 => (if t114 = 0 then ((some (([] : List (S61)) : List (S61))).bind fun y115 => (if y115.length + ((rd_T46 x19 x21).f6).length < 5864062014805 then (if x112000.length < 1759218604441 then (metrics_New.l0 k x19 x20 (wrap64 (x21 + 1)) (x112000 ++ [(⟨(rd_T46 x19 x21).f0, (rd_T46 x19 x21).f1, (rd_T46 x19 x21).f2, (rd_T46 x19 x21).f3, (rd_T46 x19 x21).f4, (rd_T46 x19 x21).f5, (y115 ++ ((rd_T46 x19 x21).f6)), (rd_T46 x19 x21).f7⟩ : S46)])) else (none)) else (none))) else (some (t114, x21, false, ([] : List (S46)))))) else (none)) else (none)) else (some (0, 0, true, x112000))
end
def metrics_New.f (k : Nat) (l0 : List (S46)) : Option (Int × Int × Bool × (List (S46))) := if (l0.length : Int) = 0 then (metrics_New.j0 k l0 true) else (metrics_New.j0 k l0 (decide ((l0.length : Int) > 32)))
theorem metrics_New.mono_l : ∀ k, (∀ y0 y1, LeO (metrics_New.j0 k y0 y1) (metrics_New.j0 (k + 1) y0 y1)) ∧ (∀ y0 y1 y2 y3, LeO (metrics_New.l0 k y0 y1 y2 y3) (metrics_New.l0 (k + 1) y0 y1 y2 y3))
 | 0 => ⟨fun _ _ r h => by simp [metrics_New.j0] at h, fun _ _ _ _ r h => by simp [metrics_New.l0] at h⟩
 | k + 1 => by
  obtain ⟨ih0, ih1⟩ := metrics_New.mono_l k
  refine ⟨?_, ?_⟩
  · intro y0 y1
    unfold metrics_New.j0
    repeat' first
    | (with_reducible exact ih0 _ _)
    | (with_reducible exact ih1 _ _ _ _)
    | (with_reducible exact metrics_check.mono _ _ _ _ _ _ _ _ _)
    | (with_reducible exact LeO.refl _)
    | (with_reducible exact LeO.none _)
    | (with_reducible refine LeO.ite ?_ ?_)
    | (with_reducible refine LeO.bind ?_ (fun _ => ?_))
    | exact ih0 _ _
    | exact ih1 _ _ _ _
    | exact metrics_check.mono _ _ _ _ _ _ _ _ _
    | exact LeO.none _
    | refine LeO.ite ?_ ?_
    | refine LeO.bind ?_ (fun _ => ?_)
  · intro y0 y1 y2 y3
    unfold metrics_New.l0
    repeat' first
    | (with_reducible exact ih0 _ _)
    | (with_reducible exact ih1 _ _ _ _)
    | (with_reducible exact metrics_check.mono _ _ _ _ _ _ _ _ _)
    | (with_reducible exact LeO.refl _)
    | (with_reducible exact LeO.none _)
    | (with_reducible refine LeO.ite ?_ ?_)
    | (with_reducible refine LeO.bind ?_ (fun _ => ?_))
    | exact ih0 _ _
    | exact ih1 _ _ _ _
    | exact metrics_check.mono _ _ _ _ _ _ _ _ _
    | exact LeO.none _
    | refine LeO.ite ?_ ?_
    | refine LeO.bind ?_ (fun _ => ?_)
theorem metrics_New.mono : ∀ a0 k, LeO (metrics_New.f k a0) (metrics_New.f (k + 1) a0) := by
 intro a0 k
 obtain ⟨ih0, ih1⟩ := metrics_New.mono_l k
 unfold metrics_New.f
 repeat' first
    | (with_reducible exact ih0 _ _)
    | (with_reducible exact ih1 _ _ _ _)
    | (with_reducible exact metrics_check.mono _ _ _ _ _ _ _ _ _)
    | (with_reducible exact LeO.refl _)
    | (with_reducible exact LeO.none _)
    | (with_reducible refine LeO.ite ?_ ?_)
    | (with_reducible refine LeO.bind ?_ (fun _ => ?_))
    | exact ih0 _ _
    | exact ih1 _ _ _ _
    | exact metrics_check.mono _ _ _ _ _ _ _ _ _
    | exact LeO.none _
    | refine LeO.ite ?_ ?_
    | refine LeO.bind ?_ (fun _ => ?_)
theorem metrics_New.j0.ev {x0 : List (S46)} {x16 : Bool} {r_ : Int × Int × Bool × (List (S46))} (h : Ev (fun k => if x16 = true then (some (40, 0, false, ([] : List (S46)))) else (metrics_New.l0 k x0 (x0.length : Int) 0 ([] : List (S46)))) r_) : Ev (fun k => metrics_New.j0 k x0 x16) r_ := Ev.step (fun k => by rw [metrics_New.j0]) h
theorem metrics_New.l0.ev {x19 : List (S46)} {x20 : Int} {x21 : Int} {x112000 : List (S46)} {r_ : Int × Int × Bool × (List (S46))} (h : Ev (fun k => if x21 < x20 then (if 0 ≤ x21 then (if x21 < (x19.length : Int) then ((metrics_check.f k ((rd_T46 x19 x21).f0) ((rd_T46 x19 x21).f1) ((rd_T46 x19 x21).f2) ((rd_T46 x19 x21).f3) ((rd_T46 x19 x21).f4) ((rd_T46 x19 x21).f5) ((rd_T46 x19 x21).f6) ((rd_T46 x19 x21).f7)).bind fun t114 => (if t114 = 0 then ((some (([] : List (S61)) : List (S61))).bind fun y115 => (if y115.length + ((rd_T46 x19 x21).f6).length < 5864062014805 then (if x112000.length < 1759218604441 then (metrics_New.l0 k x19 x20 (wrap64 (x21 + 1)) (x112000 ++ [(⟨(rd_T46 x19 x21).f0, (rd_T46 x19 x21).f1, (rd_T46 x19 x21).f2, (rd_T46 x19 x21).f3, (rd_T46 x19 x21).f4, (rd_T46 x19 x21).f5, (y115 ++ ((rd_T46 x19 x21).f6)), (rd_T46 x19 x21).f7⟩ : S46)])) else (none)) else (none))) else (some (t114, x21, false, ([] : List (S46)))))) else (none)) else (none)) else (some (0, 0, true, x112000))) r_) : Ev (fun k => metrics_New.l0 k x19 x20 x21 x112000) r_ := Ev.step (fun k => by rw [metrics_New.l0]) h
def metrics_New.T11 : Bool × List (List Nat × List Nat) := (true, [([], []), ([], []), ([1], [1]), ([2], [2]), ([3], [3]), ([], []), ([5], [5]), ([4, 6], [4, 6]), ([0, 0, 1, 2, 3, 4, 5, 6, 7], [0]), ([8, 0, 1, 2, 3, 4, 5, 6, 7], [8]), ([9, 7, 7, 0, 1, 2, 3, 4, 5, 6, 7], [7, 9])])
def metrics_New.B11 : List Nat := [0, 0, 2, 6, 14, 0, 32, 126, 255, 511, 1023]
theorem metrics_New.tab11 : rtab .any (opsOf Try.f11 11) = metrics_New.T11 := by kernel_rfl
theorem metrics_New.bits11 : waitsOk metrics_New.T11.2 metrics_New.B11 = true := by kernel_rfl
set_option maxHeartbeats 8000000 in
set_option maxRecDepth 100000 in
theorem metrics_New.calls (k : Nat) (A0 : Option Addr) (c0 : Nat) (l0 : List (S46)) (r1 : Int) (r2 : Int) (r3 : Bool) (r4 : List (S46)) (w : World) (hr0 : Kd.C k46 w A0 l0.length l0) (hc0 : l0.length ≤ c0) (h : metrics_New.f k l0 = some (r1, r2, r3, r4)) :
  Calls Try.prog 11 #[.slice A0 l0.length c0] w fun e w' => ∃ vp_ : Value, e = .returned (.tuple #[vp_, .int .i64 r1, .int .i64 r2]) ∧ PtS66 w' vp_ r3 r4 ∧ Below w.heap.size w w' := by
 have hu66 := Try.underlying66
 have hu46 := Try.underlying46
 have HR0 := Aside0.mk hr0
 have HC0 := Aside0.mk hc0
 clear hr0 hc0
 have HB := Aside0.mk (Below.refl w.heap.size w)
 have H : (if (l0.length : Int) = 0 then (metrics_New.j0 k l0 true) else (metrics_New.j0 k l0 (decide ((l0.length : Int) > 32)))) = some (r1, r2, r3, r4) := h
 clear h
 have HC2 := Aside0.mk H
 clear H
 go_enter Try.func11, Try.ntmps11
 go_upto_region 1 with (fail)
 go_cut [16] (fun v16 wc => ∃ (kq : Nat) (x16_1 : Bool), v16 = .bool x16_1 ∧ Aside0 (metrics_New.j0 kq l0 x16_1 = some (r1, r2, r3, r4)) ∧ Aside0 (kq ≤ k) ∧ Aside0 (Below w.heap.size w wc))
 case first =>
  have H := HC2.out
  clear HC2
  by_cases c3 : (l0.length : Int) = 0
  · rw [if_pos c3] at H
    have c3b0 : ((l0.length : Int) == 0) = true := beq_iff_eq.mpr c3
    have c3b1 : ((l0.length : Int) != 0) = false := bne_eq_false_iff_eq.mpr c3
    clear c3
    (first | rw [c3b0] | (simp only [i64_w, i32_w]; rw [c3b0]) | skip)
    have H' := Aside0.mk H
    clear H
    go_wp2
    go_meet
    case rel => exact ⟨_, (true), (by first | rfl | (simp; done) | (simp [*]; done)), H', ⟨by first | omega | exact Nat.le_refl _⟩, ⟨by repeat (first | (with_reducible first | exact HB.out | apply below_alloc | apply pw_below_drewN | apply below_drew1) | exact HB.out)⟩⟩
  · rw [if_neg c3] at H
    have c3b0 : ((l0.length : Int) == 0) = false := beq_eq_false_iff_ne.mpr c3
    have c3b1 : ((l0.length : Int) != 0) = true := bne_iff_ne.mpr c3
    have c3b2 : ¬ (l0 = []) := fun h_ => c3 (by rw [h_]; rfl)
    (first | rw [c3b0] | (simp only [i64_w, i32_w]; rw [c3b0]) | skip)
    have H' := Aside0.mk H
    clear H
    go_wp2
    go_meet
    case rel => exact ⟨_, (decide ((l0.length : Int) > 32)), (by first | rfl | (simp; done) | (simp [*]; done)), H', ⟨by first | omega | exact Nat.le_refl _⟩, ⟨by repeat (first | (with_reducible first | exact HB.out | apply below_alloc | apply pw_below_drewN | apply below_drew1) | exact HB.out)⟩⟩
 case rest =>
  clear HC2
  try clear c1
  try clear p2
  try clear c3
  try clear c3b0
  try clear c3b1
  try clear c3b2
  obtain ⟨kq, x16_1, rfl, HA, HJ1, HB⟩ := hcut
  cases kq with
  | zero => exact absurd HA.out (by simp [metrics_New.j0])
  | succ kj1 =>
    have H := HA.out
    clear HA
    simp only [metrics_New.j0] at H
    by_cases c4 : x16_1 = true
    · subst c4
      have H1 : (some (40, 0, false, ([] : List (S46)))) = some (r1, r2, r3, r4) := by rw [if_pos rfl] at H; exact H
      clear H
      have H := H1
      clear H1
      simp only [Option.some.injEq, Prod.mk.injEq] at H
      obtain ⟨rfl, rfl, rfl, rfl⟩ := H
      go_wp2
      go_ret3
      exact ⟨_, by first | rfl | (simp [errW_none, errW_some] <;> rfl) | (simp [*, errW_none, errW_some] <;> rfl), PtS66.nil _, by repeat (first | (with_reducible first | exact HB.out | apply below_alloc | apply pw_below_drewN | apply below_drew1) | exact HB.out)⟩
    · replace c4 := Bool.eq_false_iff.mpr c4
      subst c4
      have H1 : (metrics_New.l0 kj1 l0 (l0.length : Int) 0 ([] : List (S46))) = some (r1, r2, r3, r4) := by rw [if_neg (show ¬ (false = true) by decide)] at H; exact H
      clear H
      have H := H1
      clear H1
      have H' := Aside0.mk H
      clear H
      go_wp2_with (first | ((with_reducible refine gate_dst (N := 18) rfl ?_); (try (refine gate_guard (by rfl) ?_; dsimp only)); refine box_event ?hg (N := 18) ?hd (cs := #[.slice none 0 0]) (t := 66) ?hr ?_; (case hd => rfl); (case hg => rfl); (case hr => first | (go_simp; done) | (go_simp; rfl)); intro gb111 hg w5 hbox hb; have n0_ := Aside0.mk (below_step (by repeat (first | (with_reducible first | exact HB.out | apply below_alloc | apply pw_below_drewN | apply below_drew1) | exact HB.out)) hb); have n1_ := Aside0.mk (hbox); have n2_ := Aside0.mk ((by rw [hg]; exact (below_size (by repeat (first | (with_reducible first | exact HB.out | apply below_alloc | apply pw_below_drewN | apply below_drew1) | exact HB.out))) : w.heap.size ≤ gb111)); have n3_ := Aside0.mk ((by rw [hg]; exact (below_size (by repeat (first | (with_reducible first | exact HB.out | apply below_alloc | apply pw_below_drewN | apply below_drew1) | exact HB.out))) : w.heap.size ≤ gb111)); clear HB; have HB := n0_; have BK111 := n1_; have GW111 := n2_; have GE111 := n3_; clear n0_ n1_ n2_ n3_; clear hb hbox hg))
      go_loopg [21] kj1 (fun kq v21 w' => ∃ (x21_2 : Int) (x112000_2 : List (S46)) (u112000 : Value), v21 = .int .i64 x21_2 ∧ Aside0 (metrics_New.l0 kq l0 (l0.length : Int) x21_2 x112000_2 = some (r1, r2, r3, r4)) ∧ Aside0 (kq ≤ kj1) ∧ Aside0 (Kd.S k46 46 w' w.heap.size (fun _ => True) u112000 x112000_2) ∧ Aside0 (w'.heap[gb111]? = some (.cells #[u112000] 66 (0, 0))) ∧ Aside0 (Below w.heap.size w w'))
      case atStart => exact ⟨(0), (([] : List (S46))), (.slice none 0 0), (by first | rfl | (simp; done) | (simp [*]; done)), H', ⟨Nat.le_refl _⟩, ⟨by first | exact Kd.S_nil _ _ _ _ _ | exact Kd.N_nil _ _ _ _ _ | exact Kd.V_nil _ _ _ _ _ | exact Kd.Q_nil _ _ _ _ _ | exact Kd.R_nil _ _ _ _ _⟩, ⟨by (with_reducible repeat (first | refine blk_drewN ?_ _ | refine blk_drew ?_ | refine blk_alloc ?_ _)); exact BK111.out⟩, ⟨by repeat (first | (with_reducible first | exact HB.out | apply below_alloc | apply pw_below_drewN | apply below_drew1 | refine below_set ?_ GE111.out) | exact HB.out)⟩⟩
      case round =>
       clear H'
       try clear c1
       try clear p2
       try clear c3
       try clear c3b0
       try clear c3b1
       try clear c3b2
       try clear c4
       try clear p2
       obtain ⟨x21_2, x112000_2, u112000, rfl, HA, HK2, HO_112000, BK111, HB⟩ := hrel
       cases gk with
       | zero => exact absurd HA.out (by simp [metrics_New.l0])
       | succ k2 =>
        have H := HA.out
        clear HA
        simp only [metrics_New.l0] at H
        by_cases c6 : x21_2 < (l0.length : Int)
        · rw [if_pos c6] at H
          have c6b0 : decide (x21_2 < (l0.length : Int)) = true := decide_eq_true c6
          clear c6
          by_cases c7 : 0 ≤ x21_2
          · rw [if_pos c7] at H
            have c7b0 : decide (0 ≤ x21_2) = true := decide_eq_true c7
            clear c7
            by_cases c8 : x21_2 < (l0.length : Int)
            · rw [if_pos c8] at H
              have c8b0 : decide (x21_2 < (l0.length : Int)) = true := decide_eq_true c8
              clear c8
              replace H := Option.bind_eq_some_iff.mp H
              obtain ⟨t114, A90, H⟩ := H
              replace H : (if t114 = 0 then ((some (([] : List (S61)) : List (S61))).bind fun y115 => (if y115.length + ((rd_T46 l0 x21_2).f6).length < 5864062014805 then (if x112000_2.length < 1759218604441 then (metrics_New.l0 k2 l0 (l0.length : Int) (wrap64 (x21_2 + 1)) (x112000_2 ++ [(⟨(rd_T46 l0 x21_2).f0, (rd_T46 l0 x21_2).f1, (rd_T46 l0 x21_2).f2, (rd_T46 l0 x21_2).f3, (rd_T46 l0 x21_2).f4, (rd_T46 l0 x21_2).f5, (y115 ++ ((rd_T46 l0 x21_2).f6)), (rd_T46 l0 x21_2).f7⟩ : S46)])) else (none)) else (none))) else (some (t114, x21_2, false, ([] : List (S46))))) = some (r1, r2, r3, r4) := H
              have A9 := Aside0.mk A90
              clear A90
              by_cases c10 : t114 = 0
              · rw [if_pos c10] at H
                have c10b0 : (t114 == 0) = true := beq_iff_eq.mpr c10
                have c10b1 : (t114 != 0) = false := bne_eq_false_iff_eq.mpr c10
                clear c10
                obtain ⟨y115, hy115⟩ : ∃ y_ : List (S61), y_ = (([] : List (S61))) := ⟨_, rfl⟩
                replace H : (if y115.length + ((rd_T46 l0 x21_2).f6).length < 5864062014805 then (if x112000_2.length < 1759218604441 then (metrics_New.l0 k2 l0 (l0.length : Int) (wrap64 (x21_2 + 1)) (x112000_2 ++ [(⟨(rd_T46 l0 x21_2).f0, (rd_T46 l0 x21_2).f1, (rd_T46 l0 x21_2).f2, (rd_T46 l0 x21_2).f3, (rd_T46 l0 x21_2).f4, (rd_T46 l0 x21_2).f5, (y115 ++ ((rd_T46 l0 x21_2).f6)), (rd_T46 l0 x21_2).f7⟩ : S46)])) else (none)) else (none)) = some (r1, r2, r3, r4) := by first | (rw [hy115]; with_reducible exact H) | (have H2_ := (Option.bind_some _ _).symm.trans H; rw [hy115]; with_reducible exact H2_) | (have H2_ := (Option.bind_some _ _).symm.trans H; with_reducible exact H2_) | with_reducible exact H | (rw [hy115]; exact H) | exact H
                have Ny115 := Aside0.mk hy115
                clear hy115
                by_cases c11 : y115.length + ((rd_T46 l0 x21_2).f6).length < 5864062014805
                · rw [if_pos c11] at H
                  have LMc11 := Aside0.mk c11
                  clear c11
                  obtain ⟨y118, hy118⟩ : ∃ y_ : List (S61), y_ = (y115 ++ ((rd_T46 l0 x21_2).f6)) := ⟨_, rfl⟩
                  replace H : (if x112000_2.length < 1759218604441 then (metrics_New.l0 k2 l0 (l0.length : Int) (wrap64 (x21_2 + 1)) (x112000_2 ++ [(⟨(rd_T46 l0 x21_2).f0, (rd_T46 l0 x21_2).f1, (rd_T46 l0 x21_2).f2, (rd_T46 l0 x21_2).f3, (rd_T46 l0 x21_2).f4, (rd_T46 l0 x21_2).f5, y118, (rd_T46 l0 x21_2).f7⟩ : S46)])) else (none)) = some (r1, r2, r3, r4) := by first | (rw [hy118]; with_reducible exact H) | (have H2_ := (Option.bind_some _ _).symm.trans H; rw [hy118]; with_reducible exact H2_) | (have H2_ := (Option.bind_some _ _).symm.trans H; with_reducible exact H2_) | with_reducible exact H | (rw [hy118]; exact H) | exact H
                  have Ny118 := Aside0.mk hy118
                  clear hy118
                  by_cases c12 : x112000_2.length < 1759218604441
                  · rw [if_pos c12] at H
                    have LMc12 := Aside0.mk c12
                    clear c12
                    obtain ⟨y121, hy121⟩ : ∃ y_ : List (S46), y_ = (x112000_2 ++ [(⟨(rd_T46 l0 x21_2).f0, (rd_T46 l0 x21_2).f1, (rd_T46 l0 x21_2).f2, (rd_T46 l0 x21_2).f3, (rd_T46 l0 x21_2).f4, (rd_T46 l0 x21_2).f5, y118, (rd_T46 l0 x21_2).f7⟩ : S46)]) := ⟨_, rfl⟩
                    replace H : (metrics_New.l0 k2 l0 (l0.length : Int) (wrap64 (x21_2 + 1)) y121) = some (r1, r2, r3, r4) := by first | (rw [hy121]; with_reducible exact H) | (have H2_ := (Option.bind_some _ _).symm.trans H; rw [hy121]; with_reducible exact H2_) | (have H2_ := (Option.bind_some _ _).symm.trans H; with_reducible exact H2_) | with_reducible exact H | (rw [hy121]; exact H) | exact H
                    have Ny121 := Aside0.mk hy121
                    clear hy121
                    have H' := Aside0.mk H
                    clear H
                    have p112 : 0 ≤ (x21_2 : Int) := of_decide_eq_true (by first | (with_reducible assumption) | assumption)
                    have q112 : x21_2 < (l0.length : Int) := of_decide_eq_true (by first | (with_reducible assumption) | assumption)
                    obtain ⟨ad112, A112_6, c112_6, e112, hx112_0, hx112_1, hx112_2, hx112_3, hx112_4, hx112_5, hx112_6, hx112_7, hl112_6, hi112_6⟩ := at_T46 HR0.out x21_2 p112 q112
                    cases e112
                    replace hx112_0 := (HB.out.cell (World.block_lt_of_cell? w _ hx112_0)).trans hx112_0
                    replace hx112_1 := (HB.out.cell (World.block_lt_of_cell? w _ hx112_1)).trans hx112_1
                    replace hx112_2 := (HB.out.cell (World.block_lt_of_cell? w _ hx112_2)).trans hx112_2
                    replace hx112_3 := (HB.out.cell (World.block_lt_of_cell? w _ hx112_3)).trans hx112_3
                    replace hx112_4 := (HB.out.cell (World.block_lt_of_cell? w _ hx112_4)).trans hx112_4
                    replace hx112_5 := (HB.out.cell (World.block_lt_of_cell? w _ hx112_5)).trans hx112_5
                    replace hx112_6 := (HB.out.cell (World.block_lt_of_cell? w _ hx112_6)).trans hx112_6
                    replace hx112_7 := (HB.out.cell (World.block_lt_of_cell? w _ hx112_7)).trans hx112_7
                    have HR112_6 := Aside0.mk hi112_6
                    have HC112_6 := Aside0.mk hl112_6
                    clear hi112_6 hl112_6
                    replace p112 := eq_true p112
                    replace q112 := eq_true q112
                    try go_wp2_with (first | ((with_reducible refine gate_dst (N := 7) rfl ?_); (try (refine gate_guard (by rfl) ?_; dsimp only)); refine box_event ?hg (N := 7) ?hd (cs := #[.int .i64 0, .int .i64 0, .int .i64 0, .int .i64 0, .int .i64 0, .int .i64 0, .slice none 0 0, .bool false]) (t := 46) ?hr ?_; (case hd => rfl); (case hg => rfl); (case hr => first | (go_simp; done) | (go_simp; rfl)); intro gb113 hg w13 hbox hb; have n0_ := Aside0.mk (Kd.S_below (Kd.S_elderB (by (with_reducible repeat (first | apply Kd.S_alloc | apply Kd.S_drewN | apply Kd.S_drew)); exact HO_112000.out) gb113 (Nat.le_of_eq hg.symm)) hb); have n1_ := Aside0.mk (blk_below (g := gb111) (o := .cells #[u112000] 66 (0, 0)) (by (with_reducible repeat (first | refine blk_drewN ?_ _ | refine blk_drew ?_ | refine blk_alloc ?_ _)); exact BK111.out) hb); have n2_ := Aside0.mk (below_step (by repeat (first | (with_reducible first | exact HB.out | apply below_alloc | apply pw_below_drewN | apply below_drew1 | refine below_set ?_ GE111.out) | exact HB.out)) hb); have n3_ := Aside0.mk (hbox); have n4_ := Aside0.mk ((by rw [hg]; exact (below_size (by repeat (first | (with_reducible first | exact HB.out | apply below_alloc | apply pw_below_drewN | apply below_drew1 | refine below_set ?_ GE111.out) | exact HB.out))) : w.heap.size ≤ gb113)); have n5_ := Aside0.mk ((by rw [hg]; exact (below_size (by repeat (first | (with_reducible first | exact HB.out | apply below_alloc | apply pw_below_drewN | apply below_drew1 | refine below_set ?_ GE111.out) | exact HB.out))) : w.heap.size ≤ gb113)); have n6_ := Aside0.mk ((by rw [hg]; exact Nat.ne_of_lt (blk_lt (g := gb111) (o := .cells #[u112000] 66 (0, 0)) (by (with_reducible repeat (first | refine blk_drewN ?_ _ | refine blk_drew ?_ | refine blk_alloc ?_ _)); exact BK111.out)) : gb111 ≠ gb113)); have n7_ := Aside0.mk ((by rw [hg]; exact Nat.ne_of_gt (blk_lt (g := gb111) (o := .cells #[u112000] 66 (0, 0)) (by (with_reducible repeat (first | refine blk_drewN ?_ _ | refine blk_drew ?_ | refine blk_alloc ?_ _)); exact BK111.out)) : gb113 ≠ gb111)); clear HO_112000; clear BK111; clear HB; have HO_112000 := n0_; have BK111 := n1_; have HB := n2_; have BK113 := n3_; have GW113 := n4_; have GE113 := n5_; have NB111_113 := n6_; have NB113_111 := n7_; clear n0_ n1_ n2_ n3_ n4_ n5_ n6_ n7_; clear hb hbox hg; have hnb14 := NB113_111.out; have hnc14 := NB111_113.out; have hcz15_0 : w13.cell? ⟨gb113, 0, none⟩ = some (.int .i64 0) := (blk_cell BK113.out 0).trans rfl; have hcz15_1 : w13.cell? ⟨gb113, 1, none⟩ = some (.int .i64 0) := (blk_cell BK113.out 1).trans rfl; have hcz15_2 : w13.cell? ⟨gb113, 2, none⟩ = some (.int .i64 0) := (blk_cell BK113.out 2).trans rfl; have hcz15_3 : w13.cell? ⟨gb113, 3, none⟩ = some (.int .i64 0) := (blk_cell BK113.out 3).trans rfl; have hcz15_4 : w13.cell? ⟨gb113, 4, none⟩ = some (.int .i64 0) := (blk_cell BK113.out 4).trans rfl; have hcz15_5 : w13.cell? ⟨gb113, 5, none⟩ = some (.int .i64 0) := (blk_cell BK113.out 5).trans rfl; have hcz15_6 : w13.cell? ⟨gb113, 6, none⟩ = some (.slice none 0 0) := (blk_cell BK113.out 6).trans rfl; have hcz15_7 : w13.cell? ⟨gb113, 7, none⟩ = some (.bool false) := (blk_cell BK113.out 7).trans rfl; have hfz15_0 := blk_frozen BK113.out 0; have hfz15_1 := blk_frozen BK113.out 1; have hfz15_2 := blk_frozen BK113.out 2; have hfz15_3 := blk_frozen BK113.out 3; have hfz15_4 := blk_frozen BK113.out 4; have hfz15_5 := blk_frozen BK113.out 5; have hfz15_6 := blk_frozen BK113.out 6; have hfz15_7 := blk_frozen BK113.out 7) | ((with_reducible refine gate_callee (f := 34) rfl ?_); refine goesL_ (some 27) rfl rfl Try.func34 (by kernel_rfl) rfl #[.agg #[.int .i64 ((rd_T46 l0 x21_2).f0), .int .i64 ((rd_T46 l0 x21_2).f1), .int .i64 ((rd_T46 l0 x21_2).f2), .int .i64 ((rd_T46 l0 x21_2).f3), .int .i64 ((rd_T46 l0 x21_2).f4), .int .i64 ((rd_T46 l0 x21_2).f5), .slice A112_6 ((rd_T46 l0 x21_2).f6).length c112_6, .bool ((rd_T46 l0 x21_2).f7)]] rfl (by (try simp only [List.map_toArray, List.map_cons, List.map_nil]); first | done | rfl | (simp only [List.length_drop, List.length_take]; rfl)) ?_; (with_reducible refine (metrics_check.calls k2 ((rd_T46 l0 x21_2).f0) ((rd_T46 l0 x21_2).f1) ((rd_T46 l0 x21_2).f2) ((rd_T46 l0 x21_2).f3) ((rd_T46 l0 x21_2).f4) ((rd_T46 l0 x21_2).f5) _ _ ((rd_T46 l0 x21_2).f6) ((rd_T46 l0 x21_2).f7) t114 _ ?side1 ?side2 A9.out).mono ?_); (case side1 => exact Kd.C_below HR112_6.out (by repeat (first | (with_reducible first | exact HB.out | apply below_alloc | apply pw_below_drewN | apply below_drew1 | refine below_set ?_ GE111.out | refine below_set ?_ GE113.out) | exact HB.out))); (case side2 => exact HC112_6.out); rintro e w16 ⟨rfl, hb⟩; refine ⟨_, rfl, ?_⟩; have n0_ := Aside0.mk (Kd.S_below (by (with_reducible repeat (first | apply Kd.S_alloc | apply Kd.S_drewN | apply Kd.S_drew)); exact (Kd.S_mono (Kd.S_far (p := ⟨gb113, 7, none⟩) (Kd.S_far (p := ⟨gb113, 6, none⟩) (Kd.S_far (p := ⟨gb113, 5, none⟩) (Kd.S_far (p := ⟨gb113, 4, none⟩) (Kd.S_far (p := ⟨gb113, 3, none⟩) (Kd.S_far (p := ⟨gb113, 2, none⟩) (Kd.S_far (p := ⟨gb113, 1, none⟩) (Kd.S_far (p := ⟨gb113, 0, none⟩) (Kd.S_mono HO_112000.out (fun k_ hk => (⟨hk, hk.2⟩ : _ ∧ k_ ≠ gb113))) (fun _ hk => hk.2) (.int .i64 ((rd_T46 l0 x21_2).f0))) (fun _ hk => hk.2) (.int .i64 ((rd_T46 l0 x21_2).f1))) (fun _ hk => hk.2) (.int .i64 ((rd_T46 l0 x21_2).f2))) (fun _ hk => hk.2) (.int .i64 ((rd_T46 l0 x21_2).f3))) (fun _ hk => hk.2) (.int .i64 ((rd_T46 l0 x21_2).f4))) (fun _ hk => hk.2) (.int .i64 ((rd_T46 l0 x21_2).f5))) (fun _ hk => hk.2) (.slice A112_6 ((rd_T46 l0 x21_2).f6).length c112_6)) (fun _ hk => hk.2) (.bool ((rd_T46 l0 x21_2).f7))) (fun _ h_ => h_.1))) hb); have n1_ := Aside0.mk (blk_below (g := gb111) (o := .cells #[u112000] 66 (0, 0)) (by (with_reducible repeat (first | refine blk_drewN ?_ _ | refine blk_drew ?_ | refine blk_alloc ?_ _)); refine blk_far ?_ NB111_113.out _; (with_reducible repeat (first | refine blk_drewN ?_ _ | refine blk_drew ?_ | refine blk_alloc ?_ _)); refine blk_far ?_ NB111_113.out _; (with_reducible repeat (first | refine blk_drewN ?_ _ | refine blk_drew ?_ | refine blk_alloc ?_ _)); refine blk_far ?_ NB111_113.out _; (with_reducible repeat (first | refine blk_drewN ?_ _ | refine blk_drew ?_ | refine blk_alloc ?_ _)); refine blk_far ?_ NB111_113.out _; (with_reducible repeat (first | refine blk_drewN ?_ _ | refine blk_drew ?_ | refine blk_alloc ?_ _)); refine blk_far ?_ NB111_113.out _; (with_reducible repeat (first | refine blk_drewN ?_ _ | refine blk_drew ?_ | refine blk_alloc ?_ _)); refine blk_far ?_ NB111_113.out _; (with_reducible repeat (first | refine blk_drewN ?_ _ | refine blk_drew ?_ | refine blk_alloc ?_ _)); refine blk_far ?_ NB111_113.out _; (with_reducible repeat (first | refine blk_drewN ?_ _ | refine blk_drew ?_ | refine blk_alloc ?_ _)); refine blk_far ?_ NB111_113.out _; (with_reducible repeat (first | refine blk_drewN ?_ _ | refine blk_drew ?_ | refine blk_alloc ?_ _)); exact BK111.out) hb); have n2_ := Aside0.mk (blk_below (g := gb113) (o := .cells #[.int .i64 ((rd_T46 l0 x21_2).f0), .int .i64 ((rd_T46 l0 x21_2).f1), .int .i64 ((rd_T46 l0 x21_2).f2), .int .i64 ((rd_T46 l0 x21_2).f3), .int .i64 ((rd_T46 l0 x21_2).f4), .int .i64 ((rd_T46 l0 x21_2).f5), .slice A112_6 ((rd_T46 l0 x21_2).f6).length c112_6, .bool ((rd_T46 l0 x21_2).f7)] 46 (0, 0)) (by (with_reducible repeat (first | refine blk_drewN ?_ _ | refine blk_drew ?_ | refine blk_alloc ?_ _)); refine blk_put (cs := #[.int .i64 ((rd_T46 l0 x21_2).f0), .int .i64 ((rd_T46 l0 x21_2).f1), .int .i64 ((rd_T46 l0 x21_2).f2), .int .i64 ((rd_T46 l0 x21_2).f3), .int .i64 ((rd_T46 l0 x21_2).f4), .int .i64 ((rd_T46 l0 x21_2).f5), .slice A112_6 ((rd_T46 l0 x21_2).f6).length c112_6, .bool false]) ?_ 7 _ rfl; (with_reducible repeat (first | refine blk_drewN ?_ _ | refine blk_drew ?_ | refine blk_alloc ?_ _)); refine blk_put (cs := #[.int .i64 ((rd_T46 l0 x21_2).f0), .int .i64 ((rd_T46 l0 x21_2).f1), .int .i64 ((rd_T46 l0 x21_2).f2), .int .i64 ((rd_T46 l0 x21_2).f3), .int .i64 ((rd_T46 l0 x21_2).f4), .int .i64 ((rd_T46 l0 x21_2).f5), .slice none 0 0, .bool false]) ?_ 6 _ rfl; (with_reducible repeat (first | refine blk_drewN ?_ _ | refine blk_drew ?_ | refine blk_alloc ?_ _)); refine blk_put (cs := #[.int .i64 ((rd_T46 l0 x21_2).f0), .int .i64 ((rd_T46 l0 x21_2).f1), .int .i64 ((rd_T46 l0 x21_2).f2), .int .i64 ((rd_T46 l0 x21_2).f3), .int .i64 ((rd_T46 l0 x21_2).f4), .int .i64 0, .slice none 0 0, .bool false]) ?_ 5 _ rfl; (with_reducible repeat (first | refine blk_drewN ?_ _ | refine blk_drew ?_ | refine blk_alloc ?_ _)); refine blk_put (cs := #[.int .i64 ((rd_T46 l0 x21_2).f0), .int .i64 ((rd_T46 l0 x21_2).f1), .int .i64 ((rd_T46 l0 x21_2).f2), .int .i64 ((rd_T46 l0 x21_2).f3), .int .i64 0, .int .i64 0, .slice none 0 0, .bool false]) ?_ 4 _ rfl; (with_reducible repeat (first | refine blk_drewN ?_ _ | refine blk_drew ?_ | refine blk_alloc ?_ _)); refine blk_put (cs := #[.int .i64 ((rd_T46 l0 x21_2).f0), .int .i64 ((rd_T46 l0 x21_2).f1), .int .i64 ((rd_T46 l0 x21_2).f2), .int .i64 0, .int .i64 0, .int .i64 0, .slice none 0 0, .bool false]) ?_ 3 _ rfl; (with_reducible repeat (first | refine blk_drewN ?_ _ | refine blk_drew ?_ | refine blk_alloc ?_ _)); refine blk_put (cs := #[.int .i64 ((rd_T46 l0 x21_2).f0), .int .i64 ((rd_T46 l0 x21_2).f1), .int .i64 0, .int .i64 0, .int .i64 0, .int .i64 0, .slice none 0 0, .bool false]) ?_ 2 _ rfl; (with_reducible repeat (first | refine blk_drewN ?_ _ | refine blk_drew ?_ | refine blk_alloc ?_ _)); refine blk_put (cs := #[.int .i64 ((rd_T46 l0 x21_2).f0), .int .i64 0, .int .i64 0, .int .i64 0, .int .i64 0, .int .i64 0, .slice none 0 0, .bool false]) ?_ 1 _ rfl; (with_reducible repeat (first | refine blk_drewN ?_ _ | refine blk_drew ?_ | refine blk_alloc ?_ _)); refine blk_put (cs := #[.int .i64 0, .int .i64 0, .int .i64 0, .int .i64 0, .int .i64 0, .int .i64 0, .slice none 0 0, .bool false]) ?_ 0 _ rfl; (with_reducible repeat (first | refine blk_drewN ?_ _ | refine blk_drew ?_ | refine blk_alloc ?_ _)); exact BK113.out) hb); have n3_ := Aside0.mk (below_step (by repeat (first | (with_reducible first | exact HB.out | apply below_alloc | apply pw_below_drewN | apply below_drew1 | refine below_set ?_ GE111.out | refine below_set ?_ GE113.out) | exact HB.out)) hb); clear HO_112000; clear BK111; clear BK113; clear HB; have HO_112000 := n0_; have BK111 := n1_; have BK113 := n2_; have HB := n3_; clear n0_ n1_ n2_ n3_; (try clear hb); (try clear hb2); (try clear hk); (try clear hi)) | ((with_reducible refine gate_dst (N := 32) rfl ?_); (try (refine gate_guard (by rfl) ?_; dsimp only)); refine Kd.R_lit k61 _ 61 ?hg (N := 32) ?hd (xs := ([] : List (S61))) (inner := []) (ok := fun _ => True) (okp := fun _ => True) ?hr ?hp (fun _ hk => hk) trivial (Below.refl _ _) (Nat.le_refl _) (by simp) ?_; (case hd => rfl); (case hg => rfl); (case hr => first | (go_simp; done) | (go_simp; rfl)); (case hp => exact (Reps.none _ _)); intro v116 w17 ho18 hb hg_ hnew_; clear hg_ hnew_; (first | rw [← Ny115.out] at ho18 | (simp only [Int.reduceToNat] at ho18; rw [← Ny115.out] at ho18)); have n0_ := Aside0.mk (Kd.S_elder' (by (with_reducible repeat (first | apply Kd.S_alloc | apply Kd.S_drewN | apply Kd.S_drew)); exact HO_112000.out) (Kd.R_base ho18) hb); have n1_ := Aside0.mk (Kd.R_lower ho18 (below_size (by repeat (first | (with_reducible first | exact HB.out | apply below_alloc | apply pw_below_drewN | apply below_drew1 | refine below_set ?_ GE111.out | refine below_set ?_ GE113.out) | exact HB.out)))); have n2_ := Aside0.mk (blk_below (g := gb111) (o := .cells #[u112000] 66 (0, 0)) (by (with_reducible repeat (first | refine blk_drewN ?_ _ | refine blk_drew ?_ | refine blk_alloc ?_ _)); exact BK111.out) hb); have n3_ := Aside0.mk (blk_below (g := gb113) (o := .cells #[.int .i64 ((rd_T46 l0 x21_2).f0), .int .i64 ((rd_T46 l0 x21_2).f1), .int .i64 ((rd_T46 l0 x21_2).f2), .int .i64 ((rd_T46 l0 x21_2).f3), .int .i64 ((rd_T46 l0 x21_2).f4), .int .i64 ((rd_T46 l0 x21_2).f5), .slice A112_6 ((rd_T46 l0 x21_2).f6).length c112_6, .bool ((rd_T46 l0 x21_2).f7)] 46 (0, 0)) (by (with_reducible repeat (first | refine blk_drewN ?_ _ | refine blk_drew ?_ | refine blk_alloc ?_ _)); exact BK113.out) hb); have n4_ := Aside0.mk (below_step (by repeat (first | (with_reducible first | exact HB.out | apply below_alloc | apply pw_below_drewN | apply below_drew1 | refine below_set ?_ GE111.out | refine below_set ?_ GE113.out) | exact HB.out)) hb); clear HO_112000; clear BK111; clear BK113; clear HB; have HO_112000 := n0_; have HO117 := n1_; have BK111 := n2_; have BK113 := n3_; have HB := n4_; clear n0_ n1_ n2_ n3_ n4_; clear hb ho18; have hcz19_0 : w17.cell? ⟨gb113, 0, none⟩ = some (.int .i64 ((rd_T46 l0 x21_2).f0)) := (blk_cell BK113.out 0).trans rfl; have hcz19_1 : w17.cell? ⟨gb113, 1, none⟩ = some (.int .i64 ((rd_T46 l0 x21_2).f1)) := (blk_cell BK113.out 1).trans rfl; have hcz19_2 : w17.cell? ⟨gb113, 2, none⟩ = some (.int .i64 ((rd_T46 l0 x21_2).f2)) := (blk_cell BK113.out 2).trans rfl; have hcz19_3 : w17.cell? ⟨gb113, 3, none⟩ = some (.int .i64 ((rd_T46 l0 x21_2).f3)) := (blk_cell BK113.out 3).trans rfl; have hcz19_4 : w17.cell? ⟨gb113, 4, none⟩ = some (.int .i64 ((rd_T46 l0 x21_2).f4)) := (blk_cell BK113.out 4).trans rfl; have hcz19_5 : w17.cell? ⟨gb113, 5, none⟩ = some (.int .i64 ((rd_T46 l0 x21_2).f5)) := (blk_cell BK113.out 5).trans rfl; have hcz19_6 : w17.cell? ⟨gb113, 6, none⟩ = some (.slice A112_6 ((rd_T46 l0 x21_2).f6).length c112_6) := (blk_cell BK113.out 6).trans rfl; have hcz19_7 : w17.cell? ⟨gb113, 7, none⟩ = some (.bool ((rd_T46 l0 x21_2).f7)) := (blk_cell BK113.out 7).trans rfl; have hfz19_0 := blk_frozen BK113.out 0; have hfz19_1 := blk_frozen BK113.out 1; have hfz19_2 := blk_frozen BK113.out 2; have hfz19_3 := blk_frozen BK113.out 3; have hfz19_4 := blk_frozen BK113.out 4; have hfz19_5 := blk_frozen BK113.out 5; have hfz19_6 := blk_frozen BK113.out 6; have hfz19_7 := blk_frozen BK113.out 7) | ((with_reducible refine gate_builtin (b := .append) (xs := #[.tmp 32, .tmp 34]) rfl ?_); (try (refine gate_guard (by rfl) ?_; dsimp only)); at_builtin; refine Kd.R_append_rows k61 (w0 := w) w.heap.size rfl (.tmp 32) (.tmp 34) 44 61 (.agg #[(.int .i64 0), (.int .i64 0), (.int .i64 0)]) 24 rfl Try.underlying44 info61 rfl (by decide) (by omega) v116 y115 ((rd_T46 l0 x21_2).f6) _ _ _ (fun _ => True) (fun _ => False) rfl rfl ?aO ?aR (fun _ _ h => h) (fun _ h => h.elim) ?aF ?aB ?aS ?aL ?_; (case aR => repeat (first | exact (Kd.C_below HR112_6.out HB.out) | (with_reducible refine Kd.C_alloc ?_ _) | (with_reducible refine Kd.C_drewN ?_ _) | (with_reducible refine Kd.C_drew ?_))); (case aB => exact (by repeat (first | (with_reducible first | exact HB.out | apply below_alloc | apply pw_below_drewN | apply below_drew1 | refine below_set ?_ GE111.out | refine below_set ?_ GE113.out) | exact HB.out))); (case aF => exact (fun _ _ => trivial)); (case aO => exact (by (with_reducible repeat (first | apply Kd.R_alloc | apply Kd.R_drewN | apply Kd.R_drew)); exact HO117.out)); (case aS => exact (below_size (by repeat (first | (with_reducible first | exact HB.out | apply below_alloc | apply pw_below_drewN | apply below_drew1 | refine below_set ?_ GE111.out | refine below_set ?_ GE113.out) | exact HB.out)))); (case aL => have := LMc11.out; omega); intro v119 w20 ho hb hg hat; rw [← Ny118.out] at ho; have n0_ := Aside0.mk (Kd.S_after (ok := (fun k_ => k_ ≠ gb113)) (by (with_reducible repeat (first | apply Kd.S_alloc | apply Kd.S_drewN | apply Kd.S_drew)); exact Kd.S_mono HO_112000.out (fun _ hk => ⟨hk.1.2, hk.2⟩)) hg hat); have n1_ := Aside0.mk (blk_grown (g := gb111) (o := .cells #[u112000] 66 (0, 0)) (by (with_reducible repeat (first | refine blk_drewN ?_ _ | refine blk_drew ?_ | refine blk_alloc ?_ _)); exact BK111.out) hg (Kd.R_ne HO117.out BK111.out (by decide))); have n2_ := Aside0.mk (blk_grown (g := gb113) (o := .cells #[.int .i64 ((rd_T46 l0 x21_2).f0), .int .i64 ((rd_T46 l0 x21_2).f1), .int .i64 ((rd_T46 l0 x21_2).f2), .int .i64 ((rd_T46 l0 x21_2).f3), .int .i64 ((rd_T46 l0 x21_2).f4), .int .i64 ((rd_T46 l0 x21_2).f5), .slice A112_6 ((rd_T46 l0 x21_2).f6).length c112_6, .bool ((rd_T46 l0 x21_2).f7)] 46 (0, 0)) (by (with_reducible repeat (first | refine blk_drewN ?_ _ | refine blk_drew ?_ | refine blk_alloc ?_ _)); exact BK113.out) hg (Kd.R_ne HO117.out BK113.out (by decide))); have n3_ := Aside0.mk (hb); have n4_ := Aside0.mk (ho); clear HO_112000; clear BK111; clear BK113; clear HB; clear HO117; have HO_112000 := n0_; have BK111 := n1_; have BK113 := n2_; have HB := n3_; have HO120 := n4_; clear n0_ n1_ n2_ n3_ n4_; clear ho hb hg hat; obtain ⟨Ao21, co21, eo21⟩ := Kd.R_slice HO120.out; subst eo21; have hcz22_0 : w20.cell? ⟨gb113, 0, none⟩ = some (.int .i64 ((rd_T46 l0 x21_2).f0)) := (blk_cell BK113.out 0).trans rfl; have hcz22_1 : w20.cell? ⟨gb113, 1, none⟩ = some (.int .i64 ((rd_T46 l0 x21_2).f1)) := (blk_cell BK113.out 1).trans rfl; have hcz22_2 : w20.cell? ⟨gb113, 2, none⟩ = some (.int .i64 ((rd_T46 l0 x21_2).f2)) := (blk_cell BK113.out 2).trans rfl; have hcz22_3 : w20.cell? ⟨gb113, 3, none⟩ = some (.int .i64 ((rd_T46 l0 x21_2).f3)) := (blk_cell BK113.out 3).trans rfl; have hcz22_4 : w20.cell? ⟨gb113, 4, none⟩ = some (.int .i64 ((rd_T46 l0 x21_2).f4)) := (blk_cell BK113.out 4).trans rfl; have hcz22_5 : w20.cell? ⟨gb113, 5, none⟩ = some (.int .i64 ((rd_T46 l0 x21_2).f5)) := (blk_cell BK113.out 5).trans rfl; have hcz22_6 : w20.cell? ⟨gb113, 6, none⟩ = some (.slice A112_6 ((rd_T46 l0 x21_2).f6).length c112_6) := (blk_cell BK113.out 6).trans rfl; have hcz22_7 : w20.cell? ⟨gb113, 7, none⟩ = some (.bool ((rd_T46 l0 x21_2).f7)) := (blk_cell BK113.out 7).trans rfl; have hfz22_0 := blk_frozen BK113.out 0; have hfz22_1 := blk_frozen BK113.out 1; have hfz22_2 := blk_frozen BK113.out 2; have hfz22_3 := blk_frozen BK113.out 3; have hfz22_4 := blk_frozen BK113.out 4; have hfz22_5 := blk_frozen BK113.out 5; have hfz22_6 := blk_frozen BK113.out 6; have hfz22_7 := blk_frozen BK113.out 7))
                    have n0_ : Aside0 (Kd.S k46 46 (w20.setCell ⟨gb113, 6, none⟩ (.slice Ao21 y118.length co21)) w.heap.size (fun k_ => some k_ ≠ (.slice Ao21 y118.length co21 : Value).ownBlock ∧ k_ ≠ gb113) u112000 x112000_2) := ⟨by (with_reducible repeat (first | apply Kd.S_alloc | apply Kd.S_drewN | apply Kd.S_drew)); exact Kd.S_mono (Kd.S_far (p := ⟨gb113, 6, none⟩) (Kd.S_mono HO_112000.out (fun k_ hk => (⟨hk, hk.1⟩ : _ ∧ k_ ≠ gb113))) (fun _ hk => hk.2) (.slice Ao21 y118.length co21)) (fun _ hk => ⟨hk.1.2, hk.1.1⟩)⟩
                    have n1_ : Aside0 (Kd.R k61 61 (w20.setCell ⟨gb113, 6, none⟩ (.slice Ao21 y118.length co21)) w.heap.size (fun _ => True) (.slice Ao21 y118.length co21) y118) := ⟨by (with_reducible repeat (first | apply Kd.R_alloc | apply Kd.R_drewN | apply Kd.R_drew)); exact Kd.R_mono (Kd.R_far (p := ⟨gb113, 6, none⟩) (Kd.R_types HO120.out BK113.out (by decide)) (fun _ hk => hk.2) (.slice Ao21 y118.length co21)) (fun _ hk => trivial)⟩
                    have n2_ : Aside0 ((w20.setCell ⟨gb113, 6, none⟩ (.slice Ao21 y118.length co21)).heap[gb111]? = some (.cells #[u112000] 66 (0, 0))) := ⟨by (with_reducible repeat (first | refine blk_drewN ?_ _ | refine blk_drew ?_ | refine blk_alloc ?_ _)); refine blk_far ?_ NB111_113.out _; (with_reducible repeat (first | refine blk_drewN ?_ _ | refine blk_drew ?_ | refine blk_alloc ?_ _)); exact BK111.out⟩
                    have n3_ : Aside0 ((w20.setCell ⟨gb113, 6, none⟩ (.slice Ao21 y118.length co21)).heap[gb113]? = some (.cells #[.int .i64 ((rd_T46 l0 x21_2).f0), .int .i64 ((rd_T46 l0 x21_2).f1), .int .i64 ((rd_T46 l0 x21_2).f2), .int .i64 ((rd_T46 l0 x21_2).f3), .int .i64 ((rd_T46 l0 x21_2).f4), .int .i64 ((rd_T46 l0 x21_2).f5), .slice Ao21 y118.length co21, .bool ((rd_T46 l0 x21_2).f7)] 46 (0, 0))) := ⟨by (with_reducible repeat (first | refine blk_drewN ?_ _ | refine blk_drew ?_ | refine blk_alloc ?_ _)); refine blk_put (cs := #[.int .i64 ((rd_T46 l0 x21_2).f0), .int .i64 ((rd_T46 l0 x21_2).f1), .int .i64 ((rd_T46 l0 x21_2).f2), .int .i64 ((rd_T46 l0 x21_2).f3), .int .i64 ((rd_T46 l0 x21_2).f4), .int .i64 ((rd_T46 l0 x21_2).f5), .slice A112_6 ((rd_T46 l0 x21_2).f6).length c112_6, .bool ((rd_T46 l0 x21_2).f7)]) ?_ 6 _ rfl; (with_reducible repeat (first | refine blk_drewN ?_ _ | refine blk_drew ?_ | refine blk_alloc ?_ _)); exact BK113.out⟩
                    have n4_ : Aside0 (Below w.heap.size w (w20.setCell ⟨gb113, 6, none⟩ (.slice Ao21 y118.length co21))) := ⟨by repeat (first | (with_reducible first | exact HB.out | apply below_alloc | apply pw_below_drewN | apply below_drew1 | refine below_set ?_ GE111.out | refine below_set ?_ GE113.out) | exact HB.out)⟩
                    (try clear HO_112000)
                    (try clear HO120)
                    (try clear BK111)
                    (try clear BK113)
                    (try clear HB)
                    generalize (w20.setCell ⟨gb113, 6, none⟩ (.slice Ao21 y118.length co21)) = w23 at n0_ n1_ n2_ n3_ n4_ ⊢
                    have HO_112000 := n0_
                    have HO120 := n1_
                    have BK111 := n2_
                    have BK113 := n3_
                    have HB := n4_
                    clear n0_ n1_ n2_ n3_ n4_
                    have n0_ := Aside0.mk (Kd.S_drew HO_112000.out)
                    have n1_ := Aside0.mk (Kd.R_drew HO120.out)
                    have n2_ := Aside0.mk (blk_drew BK111.out)
                    have n3_ := Aside0.mk (blk_drew BK113.out)
                    have n4_ := Aside0.mk (below_drew1 HB.out)
                    clear HO_112000
                    clear HO120
                    clear BK111
                    clear BK113
                    clear HB
                    have HO_112000 := n0_
                    have HO120 := n1_
                    have BK111 := n2_
                    have BK113 := n3_
                    have HB := n4_
                    clear n0_ n1_ n2_ n3_ n4_
                    refine start_ (n := 11) (S := fun w' => w'.cell? ⟨gb111, 0, none⟩ = some (u112000) ∧ w'.cell? ⟨gb113, 0, none⟩ = some (.int .i64 ((rd_T46 l0 x21_2).f0)) ∧ w'.cell? ⟨gb113, 1, none⟩ = some (.int .i64 ((rd_T46 l0 x21_2).f1)) ∧ w'.cell? ⟨gb113, 2, none⟩ = some (.int .i64 ((rd_T46 l0 x21_2).f2)) ∧ w'.cell? ⟨gb113, 3, none⟩ = some (.int .i64 ((rd_T46 l0 x21_2).f3)) ∧ w'.cell? ⟨gb113, 4, none⟩ = some (.int .i64 ((rd_T46 l0 x21_2).f4)) ∧ w'.cell? ⟨gb113, 5, none⟩ = some (.int .i64 ((rd_T46 l0 x21_2).f5)) ∧ w'.cell? ⟨gb113, 6, none⟩ = some (.slice Ao21 y118.length co21) ∧ w'.cell? ⟨gb113, 7, none⟩ = some (.bool ((rd_T46 l0 x21_2).f7))) (ds := [10]) #[false, false, false, false, false, false, false, false, false, false, false] (by kernel_rfl) rfl rfl ⟨(blk_cell BK111.out 0).trans rfl, (blk_cell BK113.out 0).trans rfl, (blk_cell BK113.out 1).trans rfl, (blk_cell BK113.out 2).trans rfl, (blk_cell BK113.out 3).trans rfl, (blk_cell BK113.out 4).trans rfl, (blk_cell BK113.out 5).trans rfl, (blk_cell BK113.out 6).trans rfl, (blk_cell BK113.out 7).trans rfl⟩ (fun hHeld => ?_); refine with_tabW metrics_New.tab11 metrics_New.bits11 (fun HT_ HW_ => ?_)
                    generalize w23.drew = w24 at HO_112000 HO120 BK111 BK113 HB hHeld ⊢
                    refine pure_ (i := 0) (N := some 37) (v := ?_) (a' := ?_) #[true, false, false, false, false, false, false, false, false, false, false] rfl rfl (any_of HT_.out (by kernel_rfl)) (fun _ _ _ h => h) (Or.inl ⟨by rfl, ?_⟩) ?_ ?_
                    rotate_left
                    · intro w'
                      go_simp
                      with_reducible rfl
                    rotate_left
                    · simp only [Act.put, List.setIfInBounds_toArray, List.set_cons_zero, List.set_cons_succ, i64_w, i32_w]
                      rfl
                    refine pure_ (i := 1) (N := some 38) (v := ?_) (a' := ?_) #[true, true, false, false, false, false, false, false, false, false, false] rfl rfl (any_of HT_.out (by kernel_rfl)) (fun _ _ _ h => h) (Or.inl ⟨by rfl, ?_⟩) ?_ ?_
                    rotate_left
                    · intro w'
                      go_simp
                      with_reducible rfl
                    rotate_left
                    · simp only [Act.put, List.setIfInBounds_toArray, List.set_cons_zero, List.set_cons_succ, i64_w, i32_w]
                      rfl
                    refine pure_ (i := 2) (N := some 39) (v := ?_) (a' := ?_) #[true, true, true, false, false, false, false, false, false, false, false] rfl rfl (any_of HT_.out (by kernel_rfl)) (fun _ _ _ h => h) (Or.inl ⟨by rfl, ?_⟩) ?_ ?_
                    rotate_left
                    · intro w'
                      go_simp
                      with_reducible rfl
                    rotate_left
                    · simp only [Act.put, List.setIfInBounds_toArray, List.set_cons_zero, List.set_cons_succ, i64_w, i32_w]
                      rfl
                    refine pure_ (i := 3) (N := some 40) (v := ?_) (a' := ?_) #[true, true, true, true, false, false, false, false, false, false, false] rfl rfl (any_of HT_.out (by kernel_rfl)) (fun _ _ _ h => h) (Or.inl ⟨by rfl, ?_⟩) ?_ ?_
                    rotate_left
                    · intro w'
                      go_simp
                      with_reducible rfl
                    rotate_left
                    · simp only [Act.put, List.setIfInBounds_toArray, List.set_cons_zero, List.set_cons_succ, i64_w, i32_w]
                      rfl
                    refine take_ (i := 4) (N := some 41) (v := ?_) (a' := ?_) #[true, true, true, true, true, false, false, false, false, false, false] rfl rfl (take_ofW HT_.out HW_.out (by kernel_rfl)) (fun _ _ _ h => h) (Or.inl ⟨by rfl, ?_⟩) hHeld ?_ ?_
                    rotate_left
                    · rintro w' ⟨s0, s1, s2, s3, s4, s5, s6, s7, s8⟩
                      go_simp
                      with_reducible rfl
                    rotate_left
                    · simp only [Act.put, List.setIfInBounds_toArray, List.set_cons_zero, List.set_cons_succ, i64_w, i32_w]
                      rfl
                    refine take_ (i := 5) (N := some 42) (v := ?_) (a' := ?_) #[true, true, true, true, true, true, false, false, false, false, false] rfl rfl (take_ofW HT_.out HW_.out (by kernel_rfl)) (fun _ _ _ h => h) (Or.inl ⟨by rfl, ?_⟩) hHeld ?_ ?_
                    rotate_left
                    · rintro w' ⟨s0, s1, s2, s3, s4, s5, s6, s7, s8⟩
                      go_simp
                      with_reducible rfl
                    rotate_left
                    · simp only [Act.put, List.setIfInBounds_toArray, List.set_cons_zero, List.set_cons_succ, i64_w, i32_w]
                      rfl
                    refine one_ (i := 6) (N := some 43) #[true, true, true, true, true, true, true, false, false, false, false] rfl rfl (one_of HT_.out (by kernel_rfl)) (by decide) (fun K hK => ?_)
                    refine value_ (w1 := ?_) (v := ?_) (by rfl) rfl ?_ ?_
                    rotate_left 2
                    · go_simp
                      constructor
                      · rfl
                      · rfl
                    refine hK.out _ _ ⟨(blk_cell (blk_alloc BK111.out _) 0).trans rfl, (blk_cell (blk_alloc BK113.out _) 0).trans rfl, (blk_cell (blk_alloc BK113.out _) 1).trans rfl, (blk_cell (blk_alloc BK113.out _) 2).trans rfl, (blk_cell (blk_alloc BK113.out _) 3).trans rfl, (blk_cell (blk_alloc BK113.out _) 4).trans rfl, (blk_cell (blk_alloc BK113.out _) 5).trans rfl, (blk_cell (blk_alloc BK113.out _) 6).trans rfl, (blk_cell (blk_alloc BK113.out _) 7).trans rfl⟩ (fun hHeld => ?_)
                    clear hK K
                    refine norm_ (a' := ?_) ?_ ?_
                    rotate_left
                    · show Act.put _ (some 43) _ = _
                      simp only [Act.put, List.setIfInBounds_toArray, List.set_cons_zero, List.set_cons_succ, i64_w, i32_w]
                      rfl
                    refine one_ (i := 7) (N := some 44) #[true, true, true, true, true, true, true, true, false, false, false] rfl rfl (one_of HT_.out (by kernel_rfl)) (by decide) (fun K hK => ?_)
                    refine Kd.S_append_step k46 (w0 := w) w.heap.size (by rfl) (.tmp 41) (.tmp 43) 22 46 (.agg #[(.int .i64 0), (.int .i64 0), (.int .i64 0), (.int .i64 0), (.int .i64 0), (.int .i64 0), (.slice none 0 0), (.bool false)]) 80 rfl Try.underlying22 info46 rfl (by decide) (by omega) u112000 x112000_2 (⟨(rd_T46 l0 x21_2).f0, (rd_T46 l0 x21_2).f1, (rd_T46 l0 x21_2).f2, (rd_T46 l0 x21_2).f3, (rd_T46 l0 x21_2).f4, (rd_T46 l0 x21_2).f5, y118, (rd_T46 l0 x21_2).f7⟩ : S46) [.int .i64 ((rd_T46 l0 x21_2).f0), .int .i64 ((rd_T46 l0 x21_2).f1), .int .i64 ((rd_T46 l0 x21_2).f2), .int .i64 ((rd_T46 l0 x21_2).f3), .int .i64 ((rd_T46 l0 x21_2).f4), .int .i64 ((rd_T46 l0 x21_2).f5), .slice Ao21 y118.length co21, .bool ((rd_T46 l0 x21_2).f7)] (fun k_ => k_ ≠ gb113) (fun k_ => some k_ = (.slice Ao21 y118.length co21 : Value).ownBlock) rfl rfl ?aP (fun k_ hk_ => ((Kd.R_mono (ok' := fun k_ => ((fun k_ => k_ ≠ gb113)) k_ ∧ some k_ ≠ (u112000 : Value).ownBlock) (Kd.R_types (Kd.R_apart' (HO120.out) (Kd.S_typed HO_112000.out) (by decide)) BK113.out (by decide)) (fun k_ hk => ⟨hk.2, hk.1.2⟩))).1 k_ hk_.symm) ?aF ?aO ?aB ?aS ?aL ?_
                    (case aP => exact k46_mkM _ _ _ (⟨(rd_T46 l0 x21_2).f0, (rd_T46 l0 x21_2).f1, (rd_T46 l0 x21_2).f2, (rd_T46 l0 x21_2).f3, (rd_T46 l0 x21_2).f4, (rd_T46 l0 x21_2).f5, y118, (rd_T46 l0 x21_2).f7⟩ : S46) (Kd.R_mono (Kd.R_tight rfl (Kd.R_mono (ok' := fun k_ => ((fun k_ => k_ ≠ gb113)) k_ ∧ some k_ ≠ (u112000 : Value).ownBlock) (Kd.R_types (Kd.R_apart' (HO120.out) (Kd.S_typed HO_112000.out) (by decide)) BK113.out (by decide)) (fun k_ hk => ⟨hk.2, hk.1.2⟩))) (fun _ h_ => h_)))
                    (case aB => exact (by repeat (first | (with_reducible first | exact HB.out | apply below_alloc | apply pw_below_drewN | apply below_drew1 | refine below_set ?_ GE111.out | refine below_set ?_ GE113.out) | exact HB.out)))
                    (case aF => exact (fun k_ hk => Kd.freshB (g := gb113) (o := .cells #[.int .i64 ((rd_T46 l0 x21_2).f0), .int .i64 ((rd_T46 l0 x21_2).f1), .int .i64 ((rd_T46 l0 x21_2).f2), .int .i64 ((rd_T46 l0 x21_2).f3), .int .i64 ((rd_T46 l0 x21_2).f4), .int .i64 ((rd_T46 l0 x21_2).f5), .slice Ao21 y118.length co21, .bool ((rd_T46 l0 x21_2).f7)] 46 (0, 0)) (by (with_reducible repeat (first | refine blk_drewN ?_ _ | refine blk_drew ?_ | refine blk_alloc ?_ _)); exact BK113.out) k_ hk))
                    (case aO => exact (by (with_reducible repeat (first | apply Kd.S_alloc | apply Kd.S_drewN | apply Kd.S_drew)); exact Kd.S_mono HO_112000.out (fun k_ hk => ⟨hk.2, fun e_ => hk.1 e_⟩)))
                    (case aS => exact (below_size (by repeat (first | (with_reducible first | exact HB.out | apply below_alloc | apply pw_below_drewN | apply below_drew1 | refine below_set ?_ GE111.out | refine below_set ?_ GE113.out) | exact HB.out))))
                    (case aL => have := LMc12.out; omega)
                    intro v122 w25 ho hb hg hat
                    rw [← Ny121.out] at ho
                    have n0_ := Aside0.mk (blk_grown (g := gb111) (o := .cells #[u112000] 66 (0, 0)) (by (with_reducible repeat (first | refine blk_drewN ?_ _ | refine blk_drew ?_ | refine blk_alloc ?_ _)); exact BK111.out) hg (Kd.S_ne HO_112000.out BK111.out (by decide)))
                    have n1_ := Aside0.mk (blk_grown (g := gb113) (o := .cells #[.int .i64 ((rd_T46 l0 x21_2).f0), .int .i64 ((rd_T46 l0 x21_2).f1), .int .i64 ((rd_T46 l0 x21_2).f2), .int .i64 ((rd_T46 l0 x21_2).f3), .int .i64 ((rd_T46 l0 x21_2).f4), .int .i64 ((rd_T46 l0 x21_2).f5), .slice Ao21 y118.length co21, .bool ((rd_T46 l0 x21_2).f7)] 46 (0, 0)) (by (with_reducible repeat (first | refine blk_drewN ?_ _ | refine blk_drew ?_ | refine blk_alloc ?_ _)); exact BK113.out) hg (Kd.S_away HO_112000.out (fun _ hk => hk.2)))
                    have n2_ := Aside0.mk (hb)
                    have n3_ := Aside0.mk (ho)
                    clear BK111
                    clear BK113
                    clear HB
                    clear HO_112000
                    clear HO120
                    have BK111 := n0_
                    have BK113 := n1_
                    have HB := n2_
                    have HO123 := n3_
                    clear n0_ n1_ n2_ n3_
                    clear ho hb hg hat
                    obtain ⟨Ao26, co26, eo26⟩ := Kd.S_slice HO123.out
                    (first | subst eo26 | (injection eo26 with f1_ f2_ f3_; have f4_ := f1_.symm; have f5_ := f3_.symm; clear f1_ f2_ f3_; subst f4_; subst f5_))
                    refine hK.out _ _ ⟨(blk_cell BK111.out 0).trans rfl, (blk_cell BK113.out 0).trans rfl, (blk_cell BK113.out 1).trans rfl, (blk_cell BK113.out 2).trans rfl, (blk_cell BK113.out 3).trans rfl, (blk_cell BK113.out 4).trans rfl, (blk_cell BK113.out 5).trans rfl, (blk_cell BK113.out 6).trans rfl, (blk_cell BK113.out 7).trans rfl⟩ (fun hHeld => ?_)
                    clear hK K
                    refine norm_ (a' := ?_) ?_ ?_
                    rotate_left
                    · show Act.put _ (some 44) _ = _
                      simp only [Act.put, List.setIfInBounds_toArray, List.set_cons_zero, List.set_cons_succ, i64_w, i32_w]
                      rfl
                    refine pure_ (i := 8) (N := some 45) (v := ?_) (a' := ?_) #[true, true, true, true, true, true, true, true, true, false, false] rfl rfl (any_of HT_.out (by kernel_rfl)) (fun _ _ _ h => h) (Or.inl ⟨by rfl, ?_⟩) ?_ ?_
                    rotate_left
                    · intro w'
                      go_simp
                      with_reducible rfl
                    rotate_left
                    · simp only [Act.put, List.setIfInBounds_toArray, List.set_cons_zero, List.set_cons_succ, i64_w, i32_w]
                      rfl
                    refine pure_ (i := 9) (N := some 46) (v := ?_) (a' := ?_) #[true, true, true, true, true, true, true, true, true, true, false] rfl rfl (any_of HT_.out (by kernel_rfl)) (fun _ _ _ h => h) (Or.inl ⟨by rfl, ?_⟩) ?_ ?_
                    rotate_left
                    · intro w'
                      go_simp
                      with_reducible rfl
                    rotate_left
                    · simp only [Act.put, List.setIfInBounds_toArray, List.set_cons_zero, List.set_cons_succ, i64_w, i32_w]
                      rfl
                    refine last_ (i := 10) (N := none) #[true, true, true, true, true, true, true, true, true, true, true] rfl rfl (one_of HT_.out (by kernel_rfl)) (by decide) (fun K hK => ?_)
                    have hs27 : w25.cell? ⟨gb111, 0, none⟩ = some (u112000) := (blk_cell BK111.out 0).trans rfl
                    have hfs27 := blk_frozen BK111.out 0
                    have hns27_1 := NB113_111.out
                    have hms27_1 := NB111_113.out
                    refine skip_ (w1 := ?_) (by rfl) rfl ?_ ?_
                    rotate_left
                    · go_simp
                      rfl
                    refine hK.out _ _ ?_
                    clear hK K
                    refine done_ (done_of HT_.out (by kernel_rfl)) ?_
                    try go_wp2
                    go_roundg k2
                    case measure => have := HJ1.out; have := HK2.out; omega
                    case rel => exact ⟨(wrap64 (x21_2 + 1)), (y121), (.slice Ao26 y121.length co26), (by first | rfl | (simp; done) | (simp [*]; done)), H', ⟨by have := HJ1.out; have := HK2.out; omega⟩, ⟨by (with_reducible repeat (first | apply Kd.S_alloc | apply Kd.S_drewN | apply Kd.S_drew)); exact Kd.S_mono (Kd.S_far (p := ⟨gb111, 0, none⟩) (Kd.S_types HO123.out BK111.out (by decide)) (fun _ hk => hk.2) (.slice Ao26 y121.length co26)) (fun _ hk => trivial)⟩, ⟨by (with_reducible repeat (first | refine blk_drewN ?_ _ | refine blk_drew ?_ | refine blk_alloc ?_ _)); refine blk_put (cs := #[u112000]) ?_ 0 _ rfl; (with_reducible repeat (first | refine blk_drewN ?_ _ | refine blk_drew ?_ | refine blk_alloc ?_ _)); exact BK111.out⟩, ⟨by repeat (first | (with_reducible first | exact HB.out | apply below_alloc | apply pw_below_drewN | apply below_drew1 | refine below_set ?_ GE111.out | refine below_set ?_ GE113.out) | exact HB.out)⟩⟩
                  · rw [if_neg c12] at H
                    exact absurd H (by simp)
                · rw [if_neg c11] at H
                  exact absurd H (by simp)
              · rw [if_neg c10] at H
                have c10b0 : (t114 == 0) = false := beq_eq_false_iff_ne.mpr c10
                have c10b1 : (t114 != 0) = true := bne_iff_ne.mpr c10
                simp only [Option.some.injEq, Prod.mk.injEq] at H
                obtain ⟨rfl, rfl, rfl, rfl⟩ := H
                have p112 : 0 ≤ (x21_2 : Int) := of_decide_eq_true (by first | (with_reducible assumption) | assumption)
                have q112 : x21_2 < (l0.length : Int) := of_decide_eq_true (by first | (with_reducible assumption) | assumption)
                obtain ⟨ad112, A112_6, c112_6, e112, hx112_0, hx112_1, hx112_2, hx112_3, hx112_4, hx112_5, hx112_6, hx112_7, hl112_6, hi112_6⟩ := at_T46 HR0.out x21_2 p112 q112
                cases e112
                replace hx112_0 := (HB.out.cell (World.block_lt_of_cell? w _ hx112_0)).trans hx112_0
                replace hx112_1 := (HB.out.cell (World.block_lt_of_cell? w _ hx112_1)).trans hx112_1
                replace hx112_2 := (HB.out.cell (World.block_lt_of_cell? w _ hx112_2)).trans hx112_2
                replace hx112_3 := (HB.out.cell (World.block_lt_of_cell? w _ hx112_3)).trans hx112_3
                replace hx112_4 := (HB.out.cell (World.block_lt_of_cell? w _ hx112_4)).trans hx112_4
                replace hx112_5 := (HB.out.cell (World.block_lt_of_cell? w _ hx112_5)).trans hx112_5
                replace hx112_6 := (HB.out.cell (World.block_lt_of_cell? w _ hx112_6)).trans hx112_6
                replace hx112_7 := (HB.out.cell (World.block_lt_of_cell? w _ hx112_7)).trans hx112_7
                have HR112_6 := Aside0.mk hi112_6
                have HC112_6 := Aside0.mk hl112_6
                clear hi112_6 hl112_6
                replace p112 := eq_true p112
                replace q112 := eq_true q112
                go_wp2_with (first | ((with_reducible refine gate_dst (N := 7) rfl ?_); (try (refine gate_guard (by rfl) ?_; dsimp only)); refine box_event ?hg (N := 7) ?hd (cs := #[.int .i64 0, .int .i64 0, .int .i64 0, .int .i64 0, .int .i64 0, .int .i64 0, .slice none 0 0, .bool false]) (t := 46) ?hr ?_; (case hd => rfl); (case hg => rfl); (case hr => first | (go_simp; done) | (go_simp; rfl)); intro gb113 hg w28 hbox hb; have n0_ := Aside0.mk (Kd.S_below (Kd.S_elderB (by (with_reducible repeat (first | apply Kd.S_alloc | apply Kd.S_drewN | apply Kd.S_drew)); exact HO_112000.out) gb113 (Nat.le_of_eq hg.symm)) hb); have n1_ := Aside0.mk (blk_below (g := gb111) (o := .cells #[u112000] 66 (0, 0)) (by (with_reducible repeat (first | refine blk_drewN ?_ _ | refine blk_drew ?_ | refine blk_alloc ?_ _)); exact BK111.out) hb); have n2_ := Aside0.mk (below_step (by repeat (first | (with_reducible first | exact HB.out | apply below_alloc | apply pw_below_drewN | apply below_drew1 | refine below_set ?_ GE111.out) | exact HB.out)) hb); have n3_ := Aside0.mk (hbox); have n4_ := Aside0.mk ((by rw [hg]; exact (below_size (by repeat (first | (with_reducible first | exact HB.out | apply below_alloc | apply pw_below_drewN | apply below_drew1 | refine below_set ?_ GE111.out) | exact HB.out))) : w.heap.size ≤ gb113)); have n5_ := Aside0.mk ((by rw [hg]; exact (below_size (by repeat (first | (with_reducible first | exact HB.out | apply below_alloc | apply pw_below_drewN | apply below_drew1 | refine below_set ?_ GE111.out) | exact HB.out))) : w.heap.size ≤ gb113)); have n6_ := Aside0.mk ((by rw [hg]; exact Nat.ne_of_lt (blk_lt (g := gb111) (o := .cells #[u112000] 66 (0, 0)) (by (with_reducible repeat (first | refine blk_drewN ?_ _ | refine blk_drew ?_ | refine blk_alloc ?_ _)); exact BK111.out)) : gb111 ≠ gb113)); have n7_ := Aside0.mk ((by rw [hg]; exact Nat.ne_of_gt (blk_lt (g := gb111) (o := .cells #[u112000] 66 (0, 0)) (by (with_reducible repeat (first | refine blk_drewN ?_ _ | refine blk_drew ?_ | refine blk_alloc ?_ _)); exact BK111.out)) : gb113 ≠ gb111)); clear HO_112000; clear BK111; clear HB; have HO_112000 := n0_; have BK111 := n1_; have HB := n2_; have BK113 := n3_; have GW113 := n4_; have GE113 := n5_; have NB111_113 := n6_; have NB113_111 := n7_; clear n0_ n1_ n2_ n3_ n4_ n5_ n6_ n7_; clear hb hbox hg; have hnb29 := NB113_111.out; have hnc29 := NB111_113.out; have hcz30_0 : w28.cell? ⟨gb113, 0, none⟩ = some (.int .i64 0) := (blk_cell BK113.out 0).trans rfl; have hcz30_1 : w28.cell? ⟨gb113, 1, none⟩ = some (.int .i64 0) := (blk_cell BK113.out 1).trans rfl; have hcz30_2 : w28.cell? ⟨gb113, 2, none⟩ = some (.int .i64 0) := (blk_cell BK113.out 2).trans rfl; have hcz30_3 : w28.cell? ⟨gb113, 3, none⟩ = some (.int .i64 0) := (blk_cell BK113.out 3).trans rfl; have hcz30_4 : w28.cell? ⟨gb113, 4, none⟩ = some (.int .i64 0) := (blk_cell BK113.out 4).trans rfl; have hcz30_5 : w28.cell? ⟨gb113, 5, none⟩ = some (.int .i64 0) := (blk_cell BK113.out 5).trans rfl; have hcz30_6 : w28.cell? ⟨gb113, 6, none⟩ = some (.slice none 0 0) := (blk_cell BK113.out 6).trans rfl; have hcz30_7 : w28.cell? ⟨gb113, 7, none⟩ = some (.bool false) := (blk_cell BK113.out 7).trans rfl; have hfz30_0 := blk_frozen BK113.out 0; have hfz30_1 := blk_frozen BK113.out 1; have hfz30_2 := blk_frozen BK113.out 2; have hfz30_3 := blk_frozen BK113.out 3; have hfz30_4 := blk_frozen BK113.out 4; have hfz30_5 := blk_frozen BK113.out 5; have hfz30_6 := blk_frozen BK113.out 6; have hfz30_7 := blk_frozen BK113.out 7) | ((with_reducible refine gate_callee (f := 34) rfl ?_); refine goesL_ (some 27) rfl rfl Try.func34 (by kernel_rfl) rfl #[.agg #[.int .i64 ((rd_T46 l0 x21_2).f0), .int .i64 ((rd_T46 l0 x21_2).f1), .int .i64 ((rd_T46 l0 x21_2).f2), .int .i64 ((rd_T46 l0 x21_2).f3), .int .i64 ((rd_T46 l0 x21_2).f4), .int .i64 ((rd_T46 l0 x21_2).f5), .slice A112_6 ((rd_T46 l0 x21_2).f6).length c112_6, .bool ((rd_T46 l0 x21_2).f7)]] rfl (by (try simp only [List.map_toArray, List.map_cons, List.map_nil]); first | done | rfl | (simp only [List.length_drop, List.length_take]; rfl)) ?_; (with_reducible refine (metrics_check.calls k2 ((rd_T46 l0 x21_2).f0) ((rd_T46 l0 x21_2).f1) ((rd_T46 l0 x21_2).f2) ((rd_T46 l0 x21_2).f3) ((rd_T46 l0 x21_2).f4) ((rd_T46 l0 x21_2).f5) _ _ ((rd_T46 l0 x21_2).f6) ((rd_T46 l0 x21_2).f7) t114 _ ?side1 ?side2 A9.out).mono ?_); (case side1 => exact Kd.C_below HR112_6.out (by repeat (first | (with_reducible first | exact HB.out | apply below_alloc | apply pw_below_drewN | apply below_drew1 | refine below_set ?_ GE111.out | refine below_set ?_ GE113.out) | exact HB.out))); (case side2 => exact HC112_6.out); rintro e w31 ⟨rfl, hb⟩; refine ⟨_, rfl, ?_⟩; have n0_ := Aside0.mk (Kd.S_below (by (with_reducible repeat (first | apply Kd.S_alloc | apply Kd.S_drewN | apply Kd.S_drew)); exact (Kd.S_mono (Kd.S_far (p := ⟨gb113, 7, none⟩) (Kd.S_far (p := ⟨gb113, 6, none⟩) (Kd.S_far (p := ⟨gb113, 5, none⟩) (Kd.S_far (p := ⟨gb113, 4, none⟩) (Kd.S_far (p := ⟨gb113, 3, none⟩) (Kd.S_far (p := ⟨gb113, 2, none⟩) (Kd.S_far (p := ⟨gb113, 1, none⟩) (Kd.S_far (p := ⟨gb113, 0, none⟩) (Kd.S_mono HO_112000.out (fun k_ hk => (⟨hk, hk.2⟩ : _ ∧ k_ ≠ gb113))) (fun _ hk => hk.2) (.int .i64 ((rd_T46 l0 x21_2).f0))) (fun _ hk => hk.2) (.int .i64 ((rd_T46 l0 x21_2).f1))) (fun _ hk => hk.2) (.int .i64 ((rd_T46 l0 x21_2).f2))) (fun _ hk => hk.2) (.int .i64 ((rd_T46 l0 x21_2).f3))) (fun _ hk => hk.2) (.int .i64 ((rd_T46 l0 x21_2).f4))) (fun _ hk => hk.2) (.int .i64 ((rd_T46 l0 x21_2).f5))) (fun _ hk => hk.2) (.slice A112_6 ((rd_T46 l0 x21_2).f6).length c112_6)) (fun _ hk => hk.2) (.bool ((rd_T46 l0 x21_2).f7))) (fun _ h_ => h_.1))) hb); have n1_ := Aside0.mk (blk_below (g := gb111) (o := .cells #[u112000] 66 (0, 0)) (by (with_reducible repeat (first | refine blk_drewN ?_ _ | refine blk_drew ?_ | refine blk_alloc ?_ _)); refine blk_far ?_ NB111_113.out _; (with_reducible repeat (first | refine blk_drewN ?_ _ | refine blk_drew ?_ | refine blk_alloc ?_ _)); refine blk_far ?_ NB111_113.out _; (with_reducible repeat (first | refine blk_drewN ?_ _ | refine blk_drew ?_ | refine blk_alloc ?_ _)); refine blk_far ?_ NB111_113.out _; (with_reducible repeat (first | refine blk_drewN ?_ _ | refine blk_drew ?_ | refine blk_alloc ?_ _)); refine blk_far ?_ NB111_113.out _; (with_reducible repeat (first | refine blk_drewN ?_ _ | refine blk_drew ?_ | refine blk_alloc ?_ _)); refine blk_far ?_ NB111_113.out _; (with_reducible repeat (first | refine blk_drewN ?_ _ | refine blk_drew ?_ | refine blk_alloc ?_ _)); refine blk_far ?_ NB111_113.out _; (with_reducible repeat (first | refine blk_drewN ?_ _ | refine blk_drew ?_ | refine blk_alloc ?_ _)); refine blk_far ?_ NB111_113.out _; (with_reducible repeat (first | refine blk_drewN ?_ _ | refine blk_drew ?_ | refine blk_alloc ?_ _)); refine blk_far ?_ NB111_113.out _; (with_reducible repeat (first | refine blk_drewN ?_ _ | refine blk_drew ?_ | refine blk_alloc ?_ _)); exact BK111.out) hb); have n2_ := Aside0.mk (blk_below (g := gb113) (o := .cells #[.int .i64 ((rd_T46 l0 x21_2).f0), .int .i64 ((rd_T46 l0 x21_2).f1), .int .i64 ((rd_T46 l0 x21_2).f2), .int .i64 ((rd_T46 l0 x21_2).f3), .int .i64 ((rd_T46 l0 x21_2).f4), .int .i64 ((rd_T46 l0 x21_2).f5), .slice A112_6 ((rd_T46 l0 x21_2).f6).length c112_6, .bool ((rd_T46 l0 x21_2).f7)] 46 (0, 0)) (by (with_reducible repeat (first | refine blk_drewN ?_ _ | refine blk_drew ?_ | refine blk_alloc ?_ _)); refine blk_put (cs := #[.int .i64 ((rd_T46 l0 x21_2).f0), .int .i64 ((rd_T46 l0 x21_2).f1), .int .i64 ((rd_T46 l0 x21_2).f2), .int .i64 ((rd_T46 l0 x21_2).f3), .int .i64 ((rd_T46 l0 x21_2).f4), .int .i64 ((rd_T46 l0 x21_2).f5), .slice A112_6 ((rd_T46 l0 x21_2).f6).length c112_6, .bool false]) ?_ 7 _ rfl; (with_reducible repeat (first | refine blk_drewN ?_ _ | refine blk_drew ?_ | refine blk_alloc ?_ _)); refine blk_put (cs := #[.int .i64 ((rd_T46 l0 x21_2).f0), .int .i64 ((rd_T46 l0 x21_2).f1), .int .i64 ((rd_T46 l0 x21_2).f2), .int .i64 ((rd_T46 l0 x21_2).f3), .int .i64 ((rd_T46 l0 x21_2).f4), .int .i64 ((rd_T46 l0 x21_2).f5), .slice none 0 0, .bool false]) ?_ 6 _ rfl; (with_reducible repeat (first | refine blk_drewN ?_ _ | refine blk_drew ?_ | refine blk_alloc ?_ _)); refine blk_put (cs := #[.int .i64 ((rd_T46 l0 x21_2).f0), .int .i64 ((rd_T46 l0 x21_2).f1), .int .i64 ((rd_T46 l0 x21_2).f2), .int .i64 ((rd_T46 l0 x21_2).f3), .int .i64 ((rd_T46 l0 x21_2).f4), .int .i64 0, .slice none 0 0, .bool false]) ?_ 5 _ rfl; (with_reducible repeat (first | refine blk_drewN ?_ _ | refine blk_drew ?_ | refine blk_alloc ?_ _)); refine blk_put (cs := #[.int .i64 ((rd_T46 l0 x21_2).f0), .int .i64 ((rd_T46 l0 x21_2).f1), .int .i64 ((rd_T46 l0 x21_2).f2), .int .i64 ((rd_T46 l0 x21_2).f3), .int .i64 0, .int .i64 0, .slice none 0 0, .bool false]) ?_ 4 _ rfl; (with_reducible repeat (first | refine blk_drewN ?_ _ | refine blk_drew ?_ | refine blk_alloc ?_ _)); refine blk_put (cs := #[.int .i64 ((rd_T46 l0 x21_2).f0), .int .i64 ((rd_T46 l0 x21_2).f1), .int .i64 ((rd_T46 l0 x21_2).f2), .int .i64 0, .int .i64 0, .int .i64 0, .slice none 0 0, .bool false]) ?_ 3 _ rfl; (with_reducible repeat (first | refine blk_drewN ?_ _ | refine blk_drew ?_ | refine blk_alloc ?_ _)); refine blk_put (cs := #[.int .i64 ((rd_T46 l0 x21_2).f0), .int .i64 ((rd_T46 l0 x21_2).f1), .int .i64 0, .int .i64 0, .int .i64 0, .int .i64 0, .slice none 0 0, .bool false]) ?_ 2 _ rfl; (with_reducible repeat (first | refine blk_drewN ?_ _ | refine blk_drew ?_ | refine blk_alloc ?_ _)); refine blk_put (cs := #[.int .i64 ((rd_T46 l0 x21_2).f0), .int .i64 0, .int .i64 0, .int .i64 0, .int .i64 0, .int .i64 0, .slice none 0 0, .bool false]) ?_ 1 _ rfl; (with_reducible repeat (first | refine blk_drewN ?_ _ | refine blk_drew ?_ | refine blk_alloc ?_ _)); refine blk_put (cs := #[.int .i64 0, .int .i64 0, .int .i64 0, .int .i64 0, .int .i64 0, .int .i64 0, .slice none 0 0, .bool false]) ?_ 0 _ rfl; (with_reducible repeat (first | refine blk_drewN ?_ _ | refine blk_drew ?_ | refine blk_alloc ?_ _)); exact BK113.out) hb); have n3_ := Aside0.mk (below_step (by repeat (first | (with_reducible first | exact HB.out | apply below_alloc | apply pw_below_drewN | apply below_drew1 | refine below_set ?_ GE111.out | refine below_set ?_ GE113.out) | exact HB.out)) hb); clear HO_112000; clear BK111; clear BK113; clear HB; have HO_112000 := n0_; have BK111 := n1_; have BK113 := n2_; have HB := n3_; clear n0_ n1_ n2_ n3_; (try clear hb); (try clear hb2); (try clear hk); (try clear hi)))
                go_ret3
                exact ⟨_, by first | rfl | (simp [errW_none, errW_some] <;> rfl) | (simp [*, errW_none, errW_some] <;> rfl), PtS66.nil _, by repeat (first | (with_reducible first | exact HB.out | apply below_alloc | apply pw_below_drewN | apply below_drew1 | refine below_set ?_ GE111.out | refine below_set ?_ GE113.out) | exact HB.out)⟩
            · rw [if_neg c8] at H
              exact absurd H (by simp)
          · rw [if_neg c7] at H
            exact absurd H (by simp)
        · rw [if_neg c6] at H
          have c6b0 : decide (x21_2 < (l0.length : Int)) = false := decide_eq_false c6
          clear c6
          simp only [Option.some.injEq, Prod.mk.injEq] at H
          obtain ⟨rfl, rfl, rfl, rfl⟩ := H
          go_wp2
          go_ret3
          exact ⟨_, by first | rfl | (simp [errW_none, errW_some] <;> rfl) | (simp [*, errW_none, errW_some] <;> rfl), (PtS66.mk (by (with_reducible repeat (first | refine blk_drewN ?_ _ | refine blk_drew ?_ | refine blk_alloc ?_ _)); exact BK111.out) (Kd.R_reads (Kd.S_R (by (with_reducible repeat (first | apply Kd.S_alloc | apply Kd.S_drewN | apply Kd.S_drew)); exact HO_112000.out)))), by repeat (first | (with_reducible first | exact HB.out | apply below_alloc | apply pw_below_drewN | apply below_drew1 | refine below_set ?_ GE111.out) | exact HB.out)⟩

end Go.Proofs.Ytljbfmehdgfcfaa.P
