-- PRINTED by print.py (a twelfth state) out of the translation. Not trusted: Lean checks it.
import Derived.Test.YtljbfmehdgfcfaaPx0
import Derived.Test.YtljbfmehdgfcfaaPx14
import Derived.Test.YtljbfmehdgfcfaaPx15
namespace Go.Proofs.Ytljbfmehdgfcfaa.P
open Go.RowKit Go.Proofs.YtljbfmehdgfcfaaW.PrintWords Go.Proofs.YtljbfmehdgfcfaaW.PrintLast Go.Proofs.YtljbfmehdgfcfaaW.PrintMore
attribute [local go_sem] max2_int min2_int max_two min_two max_three min_three max_four min_four   -- for this text's walks alone
set_option linter.unusedVariables false
set_option linter.unusedSimpArgs false

/-! ### regletref04_Width: function 16 -/
mutual
def regletref04_Width.j0 : Nat → Int → Int → Bool → Int → Int → Int → Int → Int → Int → List (S61) → Bool → Option (Int)
 | 0, _, _, _, _, _, _, _, _, _, _, _ => none
 | k + 1, x2, x13, x14, x234000, x234001, x234002, x234003, x234004, x234005, x234006, x234007 => if x14 = true then (some x234001) else (if x13 = 3 then (some 0) else (if x13 = 4 then (some 0) else (if x13 = 5 then (some 0) else (if x13 = 7 then (some 0) else (if x13 = 8 then (some 0) else (regletref04_Width.l0 k x2 0 x234000 x234001 x234002 x234003 x234004 x234005 x234006 x234007))))))
def regletref04_Width.l0 : Nat → Int → Int → Int → Int → Int → Int → Int → Int → List (S61) → Bool → Option (Int)
 | 0, _, _, _, _, _, _, _, _, _, _ => none
 | k + 1, x2, x8, x234000, x234001, x234002, x234003, x234004, x234005, x234006, x234007 => if x8 < (x234006.length : Int) then (if 0 ≤ x8 then (if ((rd_T61 x234006 x8).f0) ≤ x2 then (if x2 ≤ ((rd_T61 x234006 x8).f1) then (some ((rd_T61 x234006 x8).f2)) else (regletref04_Width.l0 k x2 (wrap64 (x8 + 1)) x234000 x234001 x234002 x234003 x234004 x234005 x234006 x234007)) else (regletref04_Width.l0 k x2 (wrap64 (x8 + 1)) x234000 x234001 x234002 x234003 x234004 x234005 x234006 x234007)) else (none)) else (some x234005)
end
def regletref04_Width.f (k : Nat) (l0 : List (S46)) (a1 : Int) (a2 : Int) : Option (Int) := (regletref04_Of.f l0 a1).bind fun bt223 => ((regletref02_Kind.f k a2).bind fun t234 => (if t234 = 1 then (regletref04_Width.j0 k a2 t234 (t234 == 1) bt223.1 bt223.2.1 bt223.2.2.1 bt223.2.2.2.1 bt223.2.2.2.2.1 bt223.2.2.2.2.2.1 bt223.2.2.2.2.2.2.1 bt223.2.2.2.2.2.2.2) else (regletref04_Width.j0 k a2 t234 (t234 == 2) bt223.1 bt223.2.1 bt223.2.2.1 bt223.2.2.2.1 bt223.2.2.2.2.1 bt223.2.2.2.2.2.1 bt223.2.2.2.2.2.2.1 bt223.2.2.2.2.2.2.2)))
theorem regletref04_Width.mono_l : ∀ k, (∀ y0 y1 y2 y3 y4 y5 y6 y7 y8 y9 y10, LeO (regletref04_Width.j0 k y0 y1 y2 y3 y4 y5 y6 y7 y8 y9 y10) (regletref04_Width.j0 (k + 1) y0 y1 y2 y3 y4 y5 y6 y7 y8 y9 y10)) ∧ (∀ y0 y1 y2 y3 y4 y5 y6 y7 y8 y9, LeO (regletref04_Width.l0 k y0 y1 y2 y3 y4 y5 y6 y7 y8 y9) (regletref04_Width.l0 (k + 1) y0 y1 y2 y3 y4 y5 y6 y7 y8 y9))
 | 0 => ⟨fun _ _ _ _ _ _ _ _ _ _ _ r h => by simp [regletref04_Width.j0] at h, fun _ _ _ _ _ _ _ _ _ _ r h => by simp [regletref04_Width.l0] at h⟩
 | k + 1 => by
  obtain ⟨ih0, ih1⟩ := regletref04_Width.mono_l k
  refine ⟨?_, ?_⟩
  · intro y0 y1 y2 y3 y4 y5 y6 y7 y8 y9 y10
    unfold regletref04_Width.j0
    repeat' first
    | (with_reducible exact ih0 _ _ _ _ _ _ _ _ _ _ _)
    | (with_reducible exact ih1 _ _ _ _ _ _ _ _ _ _)
    | (with_reducible exact regletref02_Kind.mono _ _)
    | (with_reducible exact LeO.refl _)
    | (with_reducible exact LeO.none _)
    | (with_reducible refine LeO.ite ?_ ?_)
    | (with_reducible refine LeO.bind ?_ (fun _ => ?_))
    | exact ih0 _ _ _ _ _ _ _ _ _ _ _
    | exact ih1 _ _ _ _ _ _ _ _ _ _
    | exact regletref02_Kind.mono _ _
    | exact LeO.none _
    | refine LeO.ite ?_ ?_
    | refine LeO.bind ?_ (fun _ => ?_)
  · intro y0 y1 y2 y3 y4 y5 y6 y7 y8 y9
    unfold regletref04_Width.l0
    repeat' first
    | (with_reducible exact ih0 _ _ _ _ _ _ _ _ _ _ _)
    | (with_reducible exact ih1 _ _ _ _ _ _ _ _ _ _)
    | (with_reducible exact regletref02_Kind.mono _ _)
    | (with_reducible exact LeO.refl _)
    | (with_reducible exact LeO.none _)
    | (with_reducible refine LeO.ite ?_ ?_)
    | (with_reducible refine LeO.bind ?_ (fun _ => ?_))
    | exact ih0 _ _ _ _ _ _ _ _ _ _ _
    | exact ih1 _ _ _ _ _ _ _ _ _ _
    | exact regletref02_Kind.mono _ _
    | exact LeO.none _
    | refine LeO.ite ?_ ?_
    | refine LeO.bind ?_ (fun _ => ?_)
theorem regletref04_Width.mono : ∀ a0 a1 a2 k, LeO (regletref04_Width.f k a0 a1 a2) (regletref04_Width.f (k + 1) a0 a1 a2) := by
 intro a0 a1 a2 k
 obtain ⟨ih0, ih1⟩ := regletref04_Width.mono_l k
 unfold regletref04_Width.f
 repeat' first
    | (with_reducible exact ih0 _ _ _ _ _ _ _ _ _ _ _)
    | (with_reducible exact ih1 _ _ _ _ _ _ _ _ _ _)
    | (with_reducible exact regletref02_Kind.mono _ _)
    | (with_reducible exact LeO.refl _)
    | (with_reducible exact LeO.none _)
    | (with_reducible refine LeO.ite ?_ ?_)
    | (with_reducible refine LeO.bind ?_ (fun _ => ?_))
    | exact ih0 _ _ _ _ _ _ _ _ _ _ _
    | exact ih1 _ _ _ _ _ _ _ _ _ _
    | exact regletref02_Kind.mono _ _
    | exact LeO.none _
    | refine LeO.ite ?_ ?_
    | refine LeO.bind ?_ (fun _ => ?_)
theorem regletref04_Width.j0.ev {x2 : Int} {x13 : Int} {x14 : Bool} {x234000 : Int} {x234001 : Int} {x234002 : Int} {x234003 : Int} {x234004 : Int} {x234005 : Int} {x234006 : List (S61)} {x234007 : Bool} {r_ : Int} (h : Ev (fun k => if x14 = true then (some x234001) else (if x13 = 3 then (some 0) else (if x13 = 4 then (some 0) else (if x13 = 5 then (some 0) else (if x13 = 7 then (some 0) else (if x13 = 8 then (some 0) else (regletref04_Width.l0 k x2 0 x234000 x234001 x234002 x234003 x234004 x234005 x234006 x234007))))))) r_) : Ev (fun k => regletref04_Width.j0 k x2 x13 x14 x234000 x234001 x234002 x234003 x234004 x234005 x234006 x234007) r_ := Ev.step (fun k => by rw [regletref04_Width.j0]) h
theorem regletref04_Width.l0.ev {x2 : Int} {x8 : Int} {x234000 : Int} {x234001 : Int} {x234002 : Int} {x234003 : Int} {x234004 : Int} {x234005 : Int} {x234006 : List (S61)} {x234007 : Bool} {r_ : Int} (h : Ev (fun k => if x8 < (x234006.length : Int) then (if 0 ≤ x8 then (if ((rd_T61 x234006 x8).f0) ≤ x2 then (if x2 ≤ ((rd_T61 x234006 x8).f1) then (some ((rd_T61 x234006 x8).f2)) else (regletref04_Width.l0 k x2 (wrap64 (x8 + 1)) x234000 x234001 x234002 x234003 x234004 x234005 x234006 x234007)) else (regletref04_Width.l0 k x2 (wrap64 (x8 + 1)) x234000 x234001 x234002 x234003 x234004 x234005 x234006 x234007)) else (none)) else (some x234005)) r_) : Ev (fun k => regletref04_Width.l0 k x2 x8 x234000 x234001 x234002 x234003 x234004 x234005 x234006 x234007) r_ := Ev.step (fun k => by rw [regletref04_Width.l0]) h
set_option maxHeartbeats 8000000 in
set_option maxRecDepth 100000 in
theorem regletref04_Width.calls (k : Nat) (A0 : Option Addr) (c0 : Nat) (l0 : List (S46)) (a1 : Int) (a2 : Int) (r : Int) (w : World) (hr0 : Kd.C k46 w A0 l0.length l0) (hc0 : l0.length ≤ c0) (h : regletref04_Width.f k l0 a1 a2 = some r) :
  Calls Try.prog 16 #[.slice A0 l0.length c0, .int .i64 a1, .int .i64 a2] w fun e w' => e = .returned (.int .i64 r) ∧ Below w.heap.size w w' := by
 have hu46 := Try.underlying46
 have HR0 := Aside0.mk hr0
 have HC0 := Aside0.mk hc0
 clear hr0 hc0
 have HB := Aside0.mk (Below.refl w.heap.size w)
 have H : ((regletref04_Of.f l0 a1).bind fun bt223 => ((regletref02_Kind.f k a2).bind fun t234 => (if t234 = 1 then (regletref04_Width.j0 k a2 t234 (t234 == 1) bt223.1 bt223.2.1 bt223.2.2.1 bt223.2.2.2.1 bt223.2.2.2.2.1 bt223.2.2.2.2.2.1 bt223.2.2.2.2.2.2.1 bt223.2.2.2.2.2.2.2) else (regletref04_Width.j0 k a2 t234 (t234 == 2) bt223.1 bt223.2.1 bt223.2.2.1 bt223.2.2.2.1 bt223.2.2.2.2.1 bt223.2.2.2.2.2.1 bt223.2.2.2.2.2.2.1 bt223.2.2.2.2.2.2.2)))) = some r := h
 clear h
 replace H := Option.bind_eq_some_iff.mp H
 obtain ⟨⟨t223, t224, t225, t226, t227, t228, t229, t232⟩, A40, H⟩ := H
 replace H : ((regletref02_Kind.f k a2).bind fun t234 => (if t234 = 1 then (regletref04_Width.j0 k a2 t234 (t234 == 1) t223 t224 t225 t226 t227 t228 t229 t232) else (regletref04_Width.j0 k a2 t234 (t234 == 2) t223 t224 t225 t226 t227 t228 t229 t232))) = some r := H
 have A4 := Aside0.mk A40
 clear A40
 replace H := Option.bind_eq_some_iff.mp H
 obtain ⟨t234, A50, H⟩ := H
 replace H : (if t234 = 1 then (regletref04_Width.j0 k a2 t234 (t234 == 1) t223 t224 t225 t226 t227 t228 t229 t232) else (regletref04_Width.j0 k a2 t234 (t234 == 2) t223 t224 t225 t226 t227 t228 t229 t232)) = some r := H
 have A5 := Aside0.mk A50
 clear A50
 have HC6 := Aside0.mk H
 clear H
 go_enter Try.func16, Try.ntmps16
 go_upto_if 14 with (first | ((with_reducible refine gate_callee (f := 25) rfl ?_); refine goesL_ (some 11) rfl rfl Try.func25 (by kernel_rfl) rfl #[.slice A0 l0.length c0, .int .i64 a1] rfl (by (try simp only [List.map_toArray, List.map_cons, List.map_nil]); first | done | rfl | (simp only [List.length_drop, List.length_take]; rfl)) ?_; (with_reducible refine (regletref04_Of.calls (fun k_ => k_ < w.heap.size) _ _ l0 a1 t223 t224 t225 t226 t227 t228 t229 t232 _ ?side1 A4.out).mono ?_); (case side1 => exact Kd.V_mk HC0.out (Kd.F_below (Kd.C_F k46_heap HR0.out) (by repeat (first | (with_reducible first | exact HB.out | apply below_alloc | apply pw_below_drewN | apply below_drew1) | exact HB.out)))); rintro e w7 ⟨v230, rfl, ho0, hb⟩; refine ⟨_, rfl, ?_⟩; have n0_ := Aside0.mk (Kd.V_lower (Kd.V_mono (ok' := fun k_ => True) ho0 (fun k_ hk_ => trivial)) (below_size (by repeat (first | (with_reducible first | exact HB.out | apply below_alloc | apply pw_below_drewN | apply below_drew1) | exact HB.out)))); have n1_ := Aside0.mk (below_step (by repeat (first | (with_reducible first | exact HB.out | apply below_alloc | apply pw_below_drewN | apply below_drew1) | exact HB.out)) hb); clear HB; have HO231 := n0_; have HB := n1_; clear n0_ n1_; (try clear hb); (try clear hb2); (try clear hk); (try clear hi); (try clear ho0)) | ((with_reducible refine gate_dst (N := 7) rfl ?_); refine box_event ?hg (N := 7) ?hd (cs := #[.int .i64 0, .int .i64 0, .int .i64 0, .int .i64 0, .int .i64 0, .int .i64 0, .slice none 0 0, .bool false]) (t := 46) ?hr ?_; (case hd => rfl); (case hg => rfl); (case hr => first | (go_simp; done) | (go_simp; rfl)); intro gb233 hg w8 hbox hb; have n0_ := Aside0.mk (Kd.V_below (Kd.V_elderB (by (with_reducible repeat (first | apply Kd.V_alloc | apply Kd.V_drewN | apply Kd.V_drew)); exact HO231.out) gb233 (Nat.le_of_eq hg.symm)) hb); have n1_ := Aside0.mk (below_step (by repeat (first | (with_reducible first | exact HB.out | apply below_alloc | apply pw_below_drewN | apply below_drew1) | exact HB.out)) hb); have n2_ := Aside0.mk (hbox); have n3_ := Aside0.mk ((by rw [hg]; exact (below_size (by repeat (first | (with_reducible first | exact HB.out | apply below_alloc | apply pw_below_drewN | apply below_drew1) | exact HB.out))) : w.heap.size ≤ gb233)); have n4_ := Aside0.mk ((by rw [hg]; exact (below_size (by repeat (first | (with_reducible first | exact HB.out | apply below_alloc | apply pw_below_drewN | apply below_drew1) | exact HB.out))) : w.heap.size ≤ gb233)); clear HO231; clear HB; have HO231 := n0_; have HB := n1_; have BK233 := n2_; have GW233 := n3_; have GE233 := n4_; clear n0_ n1_ n2_ n3_ n4_; clear hb hbox hg; have hcz9_0 : w8.cell? ⟨gb233, 0, none⟩ = some (.int .i64 0) := (blk_cell BK233.out 0).trans rfl; have hcz9_1 : w8.cell? ⟨gb233, 1, none⟩ = some (.int .i64 0) := (blk_cell BK233.out 1).trans rfl; have hcz9_2 : w8.cell? ⟨gb233, 2, none⟩ = some (.int .i64 0) := (blk_cell BK233.out 2).trans rfl; have hcz9_3 : w8.cell? ⟨gb233, 3, none⟩ = some (.int .i64 0) := (blk_cell BK233.out 3).trans rfl; have hcz9_4 : w8.cell? ⟨gb233, 4, none⟩ = some (.int .i64 0) := (blk_cell BK233.out 4).trans rfl; have hcz9_5 : w8.cell? ⟨gb233, 5, none⟩ = some (.int .i64 0) := (blk_cell BK233.out 5).trans rfl; have hcz9_6 : w8.cell? ⟨gb233, 6, none⟩ = some (.slice none 0 0) := (blk_cell BK233.out 6).trans rfl; have hcz9_7 : w8.cell? ⟨gb233, 7, none⟩ = some (.bool false) := (blk_cell BK233.out 7).trans rfl; have hfz9_0 := blk_frozen BK233.out 0; have hfz9_1 := blk_frozen BK233.out 1; have hfz9_2 := blk_frozen BK233.out 2; have hfz9_3 := blk_frozen BK233.out 3; have hfz9_4 := blk_frozen BK233.out 4; have hfz9_5 := blk_frozen BK233.out 5; have hfz9_6 := blk_frozen BK233.out 6; have hfz9_7 := blk_frozen BK233.out 7; obtain ⟨Ao10, co10, eo10⟩ := Kd.V_slice HO231.out; subst eo10) | ((with_reducible refine gate_callee (f := 39) rfl ?_); refine goesL_ (some 13) rfl rfl Try.func39 (by kernel_rfl) rfl #[.int .i64 a2] rfl (by (try simp only [List.map_toArray, List.map_cons, List.map_nil]); first | done | rfl | (simp only [List.length_drop, List.length_take]; rfl)) ?_; (with_reducible refine (regletref02_Kind.calls k a2 t234 _ A5.out).mono ?_); rintro e w11 ⟨rfl, hb⟩; refine ⟨_, rfl, ?_⟩; have n0_ := Aside0.mk (Kd.V_below (by (with_reducible repeat (first | apply Kd.V_alloc | apply Kd.V_drewN | apply Kd.V_drew)); exact (Kd.V_mono (Kd.V_far (p := ⟨gb233, 7, none⟩) (Kd.V_far (p := ⟨gb233, 6, none⟩) (Kd.V_far (p := ⟨gb233, 5, none⟩) (Kd.V_far (p := ⟨gb233, 4, none⟩) (Kd.V_far (p := ⟨gb233, 3, none⟩) (Kd.V_far (p := ⟨gb233, 2, none⟩) (Kd.V_far (p := ⟨gb233, 1, none⟩) (Kd.V_far (p := ⟨gb233, 0, none⟩) (Kd.V_mono HO231.out (fun k_ hk => (⟨hk, hk.2⟩ : _ ∧ k_ ≠ gb233))) (fun _ hk => hk.2) (.int .i64 t223)) (fun _ hk => hk.2) (.int .i64 t224)) (fun _ hk => hk.2) (.int .i64 t225)) (fun _ hk => hk.2) (.int .i64 t226)) (fun _ hk => hk.2) (.int .i64 t227)) (fun _ hk => hk.2) (.int .i64 t228)) (fun _ hk => hk.2) (.slice Ao10 t229.length co10)) (fun _ hk => hk.2) (.bool t232)) (fun _ h_ => h_.1))) hb); have n1_ := Aside0.mk (blk_below (g := gb233) (o := .cells #[.int .i64 t223, .int .i64 t224, .int .i64 t225, .int .i64 t226, .int .i64 t227, .int .i64 t228, .slice Ao10 t229.length co10, .bool t232] 46 (0, 0)) (by (with_reducible repeat (first | refine blk_drewN ?_ _ | refine blk_drew ?_ | refine blk_alloc ?_ _)); refine blk_put (cs := #[.int .i64 t223, .int .i64 t224, .int .i64 t225, .int .i64 t226, .int .i64 t227, .int .i64 t228, .slice Ao10 t229.length co10, .bool false]) ?_ 7 _ rfl; (with_reducible repeat (first | refine blk_drewN ?_ _ | refine blk_drew ?_ | refine blk_alloc ?_ _)); refine blk_put (cs := #[.int .i64 t223, .int .i64 t224, .int .i64 t225, .int .i64 t226, .int .i64 t227, .int .i64 t228, .slice none 0 0, .bool false]) ?_ 6 _ rfl; (with_reducible repeat (first | refine blk_drewN ?_ _ | refine blk_drew ?_ | refine blk_alloc ?_ _)); refine blk_put (cs := #[.int .i64 t223, .int .i64 t224, .int .i64 t225, .int .i64 t226, .int .i64 t227, .int .i64 0, .slice none 0 0, .bool false]) ?_ 5 _ rfl; (with_reducible repeat (first | refine blk_drewN ?_ _ | refine blk_drew ?_ | refine blk_alloc ?_ _)); refine blk_put (cs := #[.int .i64 t223, .int .i64 t224, .int .i64 t225, .int .i64 t226, .int .i64 0, .int .i64 0, .slice none 0 0, .bool false]) ?_ 4 _ rfl; (with_reducible repeat (first | refine blk_drewN ?_ _ | refine blk_drew ?_ | refine blk_alloc ?_ _)); refine blk_put (cs := #[.int .i64 t223, .int .i64 t224, .int .i64 t225, .int .i64 0, .int .i64 0, .int .i64 0, .slice none 0 0, .bool false]) ?_ 3 _ rfl; (with_reducible repeat (first | refine blk_drewN ?_ _ | refine blk_drew ?_ | refine blk_alloc ?_ _)); refine blk_put (cs := #[.int .i64 t223, .int .i64 t224, .int .i64 0, .int .i64 0, .int .i64 0, .int .i64 0, .slice none 0 0, .bool false]) ?_ 2 _ rfl; (with_reducible repeat (first | refine blk_drewN ?_ _ | refine blk_drew ?_ | refine blk_alloc ?_ _)); refine blk_put (cs := #[.int .i64 t223, .int .i64 0, .int .i64 0, .int .i64 0, .int .i64 0, .int .i64 0, .slice none 0 0, .bool false]) ?_ 1 _ rfl; (with_reducible repeat (first | refine blk_drewN ?_ _ | refine blk_drew ?_ | refine blk_alloc ?_ _)); refine blk_put (cs := #[.int .i64 0, .int .i64 0, .int .i64 0, .int .i64 0, .int .i64 0, .int .i64 0, .slice none 0 0, .bool false]) ?_ 0 _ rfl; (with_reducible repeat (first | refine blk_drewN ?_ _ | refine blk_drew ?_ | refine blk_alloc ?_ _)); exact BK233.out) hb); have n2_ := Aside0.mk (below_step (by repeat (first | (with_reducible first | exact HB.out | apply below_alloc | apply pw_below_drewN | apply below_drew1 | refine below_set ?_ GE233.out) | exact HB.out)) hb); clear HO231; clear BK233; clear HB; have HO231 := n0_; have BK233 := n1_; have HB := n2_; clear n0_ n1_ n2_; (try clear hb); (try clear hb2); (try clear hk); (try clear hi)))
 (try simp only [Act.put, List.setIfInBounds_toArray, List.set_cons_zero, List.set_cons_succ])
 go_cut [14] (fun v14 wc => ∃ (kq : Nat) (x14_5 : Bool), v14 = .bool x14_5 ∧ Aside0 (regletref04_Width.j0 kq a2 t234 x14_5 t223 t224 t225 t226 t227 t228 t229 t232 = some r) ∧ Aside0 (kq ≤ k) ∧ Aside0 (Kd.V k61 61 wc w.heap.size (fun k_ => k_ ≠ gb233) (.slice Ao10 t229.length co10) t229) ∧ Aside0 (wc.heap[gb233]? = some (.cells #[.int .i64 t223, .int .i64 t224, .int .i64 t225, .int .i64 t226, .int .i64 t227, .int .i64 t228, (.slice Ao10 t229.length co10), .bool t232] 46 (0, 0))) ∧ Aside0 (Below w.heap.size w wc))
 case first =>
  have H := HC6.out
  clear HC6
  by_cases c12 : t234 = 1
  · rw [if_pos c12] at H
    have c12b0 : (t234 == 1) = true := beq_iff_eq.mpr c12
    have c12b1 : (t234 != 1) = false := bne_eq_false_iff_eq.mpr c12
    clear c12
    (first | rw [c12b0] | (simp only [i64_w, i32_w]; rw [c12b0]) | skip)
    have H' := Aside0.mk H
    clear H
    go_wp2
    go_meet
    case rel => exact ⟨_, ((t234 == 1)), (by first | rfl | (simp; done) | (simp [*]; done)), H', ⟨by first | omega | exact Nat.le_refl _⟩, ⟨by (with_reducible repeat (first | apply Kd.V_alloc | apply Kd.V_drewN | apply Kd.V_drew)); exact Kd.V_mono HO231.out (fun _ hk => hk.2)⟩, ⟨by (with_reducible repeat (first | refine blk_drewN ?_ _ | refine blk_drew ?_ | refine blk_alloc ?_ _)); exact BK233.out⟩, ⟨by repeat (first | (with_reducible first | exact HB.out | apply below_alloc | apply pw_below_drewN | apply below_drew1 | refine below_set ?_ GE233.out) | exact HB.out)⟩⟩
  · rw [if_neg c12] at H
    have c12b0 : (t234 == 1) = false := beq_eq_false_iff_ne.mpr c12
    have c12b1 : (t234 != 1) = true := bne_iff_ne.mpr c12
    (first | rw [c12b0] | (simp only [i64_w, i32_w]; rw [c12b0]) | skip)
    have H' := Aside0.mk H
    clear H
    go_wp2
    go_meet
    case rel => exact ⟨_, ((t234 == 2)), (by first | rfl | (simp; done) | (simp [*]; done)), H', ⟨by first | omega | exact Nat.le_refl _⟩, ⟨by (with_reducible repeat (first | apply Kd.V_alloc | apply Kd.V_drewN | apply Kd.V_drew)); exact Kd.V_mono HO231.out (fun _ hk => hk.2)⟩, ⟨by (with_reducible repeat (first | refine blk_drewN ?_ _ | refine blk_drew ?_ | refine blk_alloc ?_ _)); exact BK233.out⟩, ⟨by repeat (first | (with_reducible first | exact HB.out | apply below_alloc | apply pw_below_drewN | apply below_drew1 | refine below_set ?_ GE233.out) | exact HB.out)⟩⟩
 case rest =>
  clear HC6
  try clear c1
  try clear c2
  try clear p2
  try clear c3
  try clear c12
  try clear c12b0
  try clear c12b1
  try clear hcz9_0
  try clear hcz9_1
  try clear hcz9_2
  try clear hcz9_3
  try clear hcz9_4
  try clear hcz9_5
  try clear hcz9_6
  try clear hcz9_7
  try clear hfz9_0
  try clear hfz9_1
  try clear hfz9_2
  try clear hfz9_3
  try clear hfz9_4
  try clear hfz9_5
  try clear hfz9_6
  try clear hfz9_7
  obtain ⟨kq, x14_5, rfl, HA, HJ5, HO_234006, BK233, HB⟩ := hcut
  cases kq with
  | zero => exact absurd HA.out (by simp [regletref04_Width.j0])
  | succ kj5 =>
    have H := HA.out
    clear HA
    simp only [regletref04_Width.j0] at H
    by_cases c13 : x14_5 = true
    · subst c13
      have H1 : (some t224) = some r := by rw [if_pos rfl] at H; exact H
      clear H
      have H := H1
      clear H1
      obtain rfl := Option.some.inj H
      have hcz14_0 : wc.cell? ⟨gb233, 0, none⟩ = some (.int .i64 t223) := (blk_cell BK233.out 0).trans rfl
      have hcz14_1 : wc.cell? ⟨gb233, 1, none⟩ = some (.int .i64 t224) := (blk_cell BK233.out 1).trans rfl
      have hcz14_2 : wc.cell? ⟨gb233, 2, none⟩ = some (.int .i64 t225) := (blk_cell BK233.out 2).trans rfl
      have hcz14_3 : wc.cell? ⟨gb233, 3, none⟩ = some (.int .i64 t226) := (blk_cell BK233.out 3).trans rfl
      have hcz14_4 : wc.cell? ⟨gb233, 4, none⟩ = some (.int .i64 t227) := (blk_cell BK233.out 4).trans rfl
      have hcz14_5 : wc.cell? ⟨gb233, 5, none⟩ = some (.int .i64 t228) := (blk_cell BK233.out 5).trans rfl
      have hcz14_6 : wc.cell? ⟨gb233, 6, none⟩ = some (.slice Ao10 t229.length co10) := (blk_cell BK233.out 6).trans rfl
      have hcz14_7 : wc.cell? ⟨gb233, 7, none⟩ = some (.bool t232) := (blk_cell BK233.out 7).trans rfl
      have hfz14_0 := blk_frozen BK233.out 0
      have hfz14_1 := blk_frozen BK233.out 1
      have hfz14_2 := blk_frozen BK233.out 2
      have hfz14_3 := blk_frozen BK233.out 3
      have hfz14_4 := blk_frozen BK233.out 4
      have hfz14_5 := blk_frozen BK233.out 5
      have hfz14_6 := blk_frozen BK233.out 6
      have hfz14_7 := blk_frozen BK233.out 7
      go_wp2
      go_ret
      exact ⟨by first | rfl | (simp [errW_none, errW_some] <;> rfl) | (simp [*, errW_none, errW_some] <;> rfl), by repeat (first | (with_reducible first | exact HB.out | apply below_alloc | apply pw_below_drewN | apply below_drew1 | refine below_set ?_ GE233.out) | exact HB.out)⟩
    · replace c13 := Bool.eq_false_iff.mpr c13
      subst c13
      have H1 : (if t234 = 3 then (some 0) else (if t234 = 4 then (some 0) else (if t234 = 5 then (some 0) else (if t234 = 7 then (some 0) else (if t234 = 8 then (some 0) else (regletref04_Width.l0 kj5 a2 0 t223 t224 t225 t226 t227 t228 t229 t232)))))) = some r := by rw [if_neg (show ¬ (false = true) by decide)] at H; exact H
      clear H
      have H := H1
      clear H1
      by_cases c15 : t234 = 3
      · rw [if_pos c15] at H
        have c15b0 : (t234 == 3) = true := beq_iff_eq.mpr c15
        have c15b1 : (t234 != 3) = false := bne_eq_false_iff_eq.mpr c15
        clear c15
        obtain rfl := Option.some.inj H
        go_wp2
        go_ret
        exact ⟨by first | rfl | (simp [errW_none, errW_some] <;> rfl) | (simp [*, errW_none, errW_some] <;> rfl), by repeat (first | (with_reducible first | exact HB.out | apply below_alloc | apply pw_below_drewN | apply below_drew1 | refine below_set ?_ GE233.out) | exact HB.out)⟩
      · rw [if_neg c15] at H
        have c15b0 : (t234 == 3) = false := beq_eq_false_iff_ne.mpr c15
        have c15b1 : (t234 != 3) = true := bne_iff_ne.mpr c15
        by_cases c16 : t234 = 4
        · rw [if_pos c16] at H
          have c16b0 : (t234 == 4) = true := beq_iff_eq.mpr c16
          have c16b1 : (t234 != 4) = false := bne_eq_false_iff_eq.mpr c16
          clear c16
          obtain rfl := Option.some.inj H
          go_wp2
          go_ret
          exact ⟨by first | rfl | (simp [errW_none, errW_some] <;> rfl) | (simp [*, errW_none, errW_some] <;> rfl), by repeat (first | (with_reducible first | exact HB.out | apply below_alloc | apply pw_below_drewN | apply below_drew1 | refine below_set ?_ GE233.out) | exact HB.out)⟩
        · rw [if_neg c16] at H
          have c16b0 : (t234 == 4) = false := beq_eq_false_iff_ne.mpr c16
          have c16b1 : (t234 != 4) = true := bne_iff_ne.mpr c16
          by_cases c17 : t234 = 5
          · rw [if_pos c17] at H
            have c17b0 : (t234 == 5) = true := beq_iff_eq.mpr c17
            have c17b1 : (t234 != 5) = false := bne_eq_false_iff_eq.mpr c17
            clear c17
            obtain rfl := Option.some.inj H
            go_wp2
            go_ret
            exact ⟨by first | rfl | (simp [errW_none, errW_some] <;> rfl) | (simp [*, errW_none, errW_some] <;> rfl), by repeat (first | (with_reducible first | exact HB.out | apply below_alloc | apply pw_below_drewN | apply below_drew1 | refine below_set ?_ GE233.out) | exact HB.out)⟩
          · rw [if_neg c17] at H
            have c17b0 : (t234 == 5) = false := beq_eq_false_iff_ne.mpr c17
            have c17b1 : (t234 != 5) = true := bne_iff_ne.mpr c17
            by_cases c18 : t234 = 7
            · rw [if_pos c18] at H
              have c18b0 : (t234 == 7) = true := beq_iff_eq.mpr c18
              have c18b1 : (t234 != 7) = false := bne_eq_false_iff_eq.mpr c18
              clear c18
              obtain rfl := Option.some.inj H
              go_wp2
              go_ret
              exact ⟨by first | rfl | (simp [errW_none, errW_some] <;> rfl) | (simp [*, errW_none, errW_some] <;> rfl), by repeat (first | (with_reducible first | exact HB.out | apply below_alloc | apply pw_below_drewN | apply below_drew1 | refine below_set ?_ GE233.out) | exact HB.out)⟩
            · rw [if_neg c18] at H
              have c18b0 : (t234 == 7) = false := beq_eq_false_iff_ne.mpr c18
              have c18b1 : (t234 != 7) = true := bne_iff_ne.mpr c18
              by_cases c19 : t234 = 8
              · rw [if_pos c19] at H
                have c19b0 : (t234 == 8) = true := beq_iff_eq.mpr c19
                have c19b1 : (t234 != 8) = false := bne_eq_false_iff_eq.mpr c19
                clear c19
                obtain rfl := Option.some.inj H
                go_wp2
                go_ret
                exact ⟨by first | rfl | (simp [errW_none, errW_some] <;> rfl) | (simp [*, errW_none, errW_some] <;> rfl), by repeat (first | (with_reducible first | exact HB.out | apply below_alloc | apply pw_below_drewN | apply below_drew1 | refine below_set ?_ GE233.out) | exact HB.out)⟩
              · rw [if_neg c19] at H
                have c19b0 : (t234 == 8) = false := beq_eq_false_iff_ne.mpr c19
                have c19b1 : (t234 != 8) = true := bne_iff_ne.mpr c19
                have H' := Aside0.mk H
                clear H
                go_wp2
                go_loopg [8] kj5 (fun kq v8 w' => ∃ (x8_2 : Int), v8 = .int .i64 x8_2 ∧ Aside0 (regletref04_Width.l0 kq a2 x8_2 t223 t224 t225 t226 t227 t228 t229 t232 = some r) ∧ Aside0 (kq ≤ kj5) ∧ Aside0 (Kd.V k61 61 w' w.heap.size (fun k_ => k_ ≠ gb233) (.slice Ao10 t229.length co10) t229) ∧ Aside0 (w'.heap[gb233]? = some (.cells #[.int .i64 t223, .int .i64 t224, .int .i64 t225, .int .i64 t226, .int .i64 t227, .int .i64 t228, (.slice Ao10 t229.length co10), .bool t232] 46 (0, 0))) ∧ Aside0 (Below w.heap.size w w'))
                case atStart => exact ⟨(0), (by first | rfl | (simp; done) | (simp [*]; done)), H', ⟨Nat.le_refl _⟩, ⟨by (with_reducible repeat (first | apply Kd.V_alloc | apply Kd.V_drewN | apply Kd.V_drew)); exact HO_234006.out⟩, ⟨by (with_reducible repeat (first | refine blk_drewN ?_ _ | refine blk_drew ?_ | refine blk_alloc ?_ _)); exact BK233.out⟩, ⟨by repeat (first | (with_reducible first | exact HB.out | apply below_alloc | apply pw_below_drewN | apply below_drew1 | refine below_set ?_ GE233.out) | exact HB.out)⟩⟩
                case round =>
                 clear H'
                 try clear c1
                 try clear c2
                 try clear p2
                 try clear c3
                 try clear c12
                 try clear c12b0
                 try clear c12b1
                 try clear c13
                 try clear c15
                 try clear c15b0
                 try clear c15b1
                 try clear c16
                 try clear c16b0
                 try clear c16b1
                 try clear c17
                 try clear c17b0
                 try clear c17b1
                 try clear c18
                 try clear c18b0
                 try clear c18b1
                 try clear c19
                 try clear c19b0
                 try clear c19b1
                 try clear hcz14_0
                 try clear hcz14_1
                 try clear hcz14_2
                 try clear hcz14_3
                 try clear hcz14_4
                 try clear hcz14_5
                 try clear hcz14_6
                 try clear hcz14_7
                 try clear hcz9_0
                 try clear hcz9_1
                 try clear hcz9_2
                 try clear hcz9_3
                 try clear hcz9_4
                 try clear hcz9_5
                 try clear hcz9_6
                 try clear hcz9_7
                 try clear hfz14_0
                 try clear hfz14_1
                 try clear hfz14_2
                 try clear hfz14_3
                 try clear hfz14_4
                 try clear hfz14_5
                 try clear hfz14_6
                 try clear hfz14_7
                 try clear hfz9_0
                 try clear hfz9_1
                 try clear hfz9_2
                 try clear hfz9_3
                 try clear hfz9_4
                 try clear hfz9_5
                 try clear hfz9_6
                 try clear hfz9_7
                 try clear p2
                 obtain ⟨x8_2, rfl, HA, HK2, HO_234006, BK233, HB⟩ := hrel
                 cases gk with
                 | zero => exact absurd HA.out (by simp [regletref04_Width.l0])
                 | succ k2 =>
                  have H := HA.out
                  clear HA
                  simp only [regletref04_Width.l0] at H
                  by_cases c20 : x8_2 < (t229.length : Int)
                  · rw [if_pos c20] at H
                    have c20b0 : decide (x8_2 < (t229.length : Int)) = true := decide_eq_true c20
                    clear c20
                    by_cases c21 : 0 ≤ x8_2
                    · rw [if_pos c21] at H
                      have c21b0 : decide (0 ≤ x8_2) = true := decide_eq_true c21
                      clear c21
                      by_cases c22 : ((rd_T61 t229 x8_2).f0) ≤ a2
                      · rw [if_pos c22] at H
                        have c22b0 : decide (((rd_T61 t229 x8_2).f0) ≤ a2) = true := decide_eq_true c22
                        clear c22
                        by_cases c23 : a2 ≤ ((rd_T61 t229 x8_2).f1)
                        · rw [if_pos c23] at H
                          have c23b0 : decide (a2 ≤ ((rd_T61 t229 x8_2).f1)) = true := decide_eq_true c23
                          clear c23
                          obtain rfl := Option.some.inj H
                          have hcz24_0 : wr.cell? ⟨gb233, 0, none⟩ = some (.int .i64 t223) := (blk_cell BK233.out 0).trans rfl
                          have hcz24_1 : wr.cell? ⟨gb233, 1, none⟩ = some (.int .i64 t224) := (blk_cell BK233.out 1).trans rfl
                          have hcz24_2 : wr.cell? ⟨gb233, 2, none⟩ = some (.int .i64 t225) := (blk_cell BK233.out 2).trans rfl
                          have hcz24_3 : wr.cell? ⟨gb233, 3, none⟩ = some (.int .i64 t226) := (blk_cell BK233.out 3).trans rfl
                          have hcz24_4 : wr.cell? ⟨gb233, 4, none⟩ = some (.int .i64 t227) := (blk_cell BK233.out 4).trans rfl
                          have hcz24_5 : wr.cell? ⟨gb233, 5, none⟩ = some (.int .i64 t228) := (blk_cell BK233.out 5).trans rfl
                          have hcz24_6 : wr.cell? ⟨gb233, 6, none⟩ = some (.slice Ao10 t229.length co10) := (blk_cell BK233.out 6).trans rfl
                          have hcz24_7 : wr.cell? ⟨gb233, 7, none⟩ = some (.bool t232) := (blk_cell BK233.out 7).trans rfl
                          have hfz24_0 := blk_frozen BK233.out 0
                          have hfz24_1 := blk_frozen BK233.out 1
                          have hfz24_2 := blk_frozen BK233.out 2
                          have hfz24_3 := blk_frozen BK233.out 3
                          have hfz24_4 := blk_frozen BK233.out 4
                          have hfz24_5 := blk_frozen BK233.out 5
                          have hfz24_6 := blk_frozen BK233.out 6
                          have hfz24_7 := blk_frozen BK233.out 7
                          have p235 : 0 ≤ (x8_2 : Int) := of_decide_eq_true (by first | (with_reducible assumption) | assumption)
                          have q235 : x8_2 < (t229.length : Int) := of_decide_eq_true (by first | (with_reducible assumption) | assumption)
                          obtain ⟨ad235, e235, hx235_0, hx235_1, hx235_2⟩ := at_T61 (Kd.V_reads' HO_234006.out).2.2 x8_2 p235 q235
                          cases e235
                          replace p235 := eq_true p235
                          replace q235 := eq_true q235
                          have p236 : 0 ≤ (x8_2 : Int) := of_decide_eq_true (by first | (with_reducible assumption) | assumption)
                          have q236 : x8_2 < (t229.length : Int) := of_decide_eq_true (by first | (with_reducible assumption) | assumption)
                          obtain ⟨ad236, e236, hx236_0, hx236_1, hx236_2⟩ := at_T61 (Kd.V_reads' HO_234006.out).2.2 x8_2 p236 q236
                          obtain rfl : ad235 = ad236 := (by injection e236)
                          replace p236 := eq_true p236
                          replace q236 := eq_true q236
                          have p237 : 0 ≤ (x8_2 : Int) := of_decide_eq_true (by first | (with_reducible assumption) | assumption)
                          have q237 : x8_2 < (t229.length : Int) := of_decide_eq_true (by first | (with_reducible assumption) | assumption)
                          obtain ⟨ad237, e237, hx237_0, hx237_1, hx237_2⟩ := at_T61 (Kd.V_reads' HO_234006.out).2.2 x8_2 p237 q237
                          obtain rfl : ad235 = ad237 := (by injection e237)
                          replace p237 := eq_true p237
                          replace q237 := eq_true q237
                          go_wp2
                          go_ret
                          exact ⟨by first | rfl | (simp [errW_none, errW_some] <;> rfl) | (simp [*, errW_none, errW_some] <;> rfl), by repeat (first | (with_reducible first | exact HB.out | apply below_alloc | apply pw_below_drewN | apply below_drew1 | refine below_set ?_ GE233.out) | exact HB.out)⟩
                        · rw [if_neg c23] at H
                          have c23b0 : decide (a2 ≤ ((rd_T61 t229 x8_2).f1)) = false := decide_eq_false c23
                          clear c23
                          have H' := Aside0.mk H
                          clear H
                          have hcz25_0 : wr.cell? ⟨gb233, 0, none⟩ = some (.int .i64 t223) := (blk_cell BK233.out 0).trans rfl
                          have hcz25_1 : wr.cell? ⟨gb233, 1, none⟩ = some (.int .i64 t224) := (blk_cell BK233.out 1).trans rfl
                          have hcz25_2 : wr.cell? ⟨gb233, 2, none⟩ = some (.int .i64 t225) := (blk_cell BK233.out 2).trans rfl
                          have hcz25_3 : wr.cell? ⟨gb233, 3, none⟩ = some (.int .i64 t226) := (blk_cell BK233.out 3).trans rfl
                          have hcz25_4 : wr.cell? ⟨gb233, 4, none⟩ = some (.int .i64 t227) := (blk_cell BK233.out 4).trans rfl
                          have hcz25_5 : wr.cell? ⟨gb233, 5, none⟩ = some (.int .i64 t228) := (blk_cell BK233.out 5).trans rfl
                          have hcz25_6 : wr.cell? ⟨gb233, 6, none⟩ = some (.slice Ao10 t229.length co10) := (blk_cell BK233.out 6).trans rfl
                          have hcz25_7 : wr.cell? ⟨gb233, 7, none⟩ = some (.bool t232) := (blk_cell BK233.out 7).trans rfl
                          have hfz25_0 := blk_frozen BK233.out 0
                          have hfz25_1 := blk_frozen BK233.out 1
                          have hfz25_2 := blk_frozen BK233.out 2
                          have hfz25_3 := blk_frozen BK233.out 3
                          have hfz25_4 := blk_frozen BK233.out 4
                          have hfz25_5 := blk_frozen BK233.out 5
                          have hfz25_6 := blk_frozen BK233.out 6
                          have hfz25_7 := blk_frozen BK233.out 7
                          have p235 : 0 ≤ (x8_2 : Int) := of_decide_eq_true (by first | (with_reducible assumption) | assumption)
                          have q235 : x8_2 < (t229.length : Int) := of_decide_eq_true (by first | (with_reducible assumption) | assumption)
                          obtain ⟨ad235, e235, hx235_0, hx235_1, hx235_2⟩ := at_T61 (Kd.V_reads' HO_234006.out).2.2 x8_2 p235 q235
                          cases e235
                          replace p235 := eq_true p235
                          replace q235 := eq_true q235
                          have p236 : 0 ≤ (x8_2 : Int) := of_decide_eq_true (by first | (with_reducible assumption) | assumption)
                          have q236 : x8_2 < (t229.length : Int) := of_decide_eq_true (by first | (with_reducible assumption) | assumption)
                          obtain ⟨ad236, e236, hx236_0, hx236_1, hx236_2⟩ := at_T61 (Kd.V_reads' HO_234006.out).2.2 x8_2 p236 q236
                          obtain rfl : ad235 = ad236 := (by injection e236)
                          replace p236 := eq_true p236
                          replace q236 := eq_true q236
                          go_wp2
                          go_roundg k2
                          case measure => have := HJ5.out; have := HK2.out; omega
                          case rel => exact ⟨(wrap64 (x8_2 + 1)), (by first | rfl | (simp; done) | (simp [*]; done)), H', ⟨by have := HJ5.out; have := HK2.out; omega⟩, ⟨by (with_reducible repeat (first | apply Kd.V_alloc | apply Kd.V_drewN | apply Kd.V_drew)); exact HO_234006.out⟩, ⟨by (with_reducible repeat (first | refine blk_drewN ?_ _ | refine blk_drew ?_ | refine blk_alloc ?_ _)); exact BK233.out⟩, ⟨by repeat (first | (with_reducible first | exact HB.out | apply below_alloc | apply pw_below_drewN | apply below_drew1 | refine below_set ?_ GE233.out) | exact HB.out)⟩⟩
                      · rw [if_neg c22] at H
                        have c22b0 : decide (((rd_T61 t229 x8_2).f0) ≤ a2) = false := decide_eq_false c22
                        clear c22
                        have H' := Aside0.mk H
                        clear H
                        have hcz26_0 : wr.cell? ⟨gb233, 0, none⟩ = some (.int .i64 t223) := (blk_cell BK233.out 0).trans rfl
                        have hcz26_1 : wr.cell? ⟨gb233, 1, none⟩ = some (.int .i64 t224) := (blk_cell BK233.out 1).trans rfl
                        have hcz26_2 : wr.cell? ⟨gb233, 2, none⟩ = some (.int .i64 t225) := (blk_cell BK233.out 2).trans rfl
                        have hcz26_3 : wr.cell? ⟨gb233, 3, none⟩ = some (.int .i64 t226) := (blk_cell BK233.out 3).trans rfl
                        have hcz26_4 : wr.cell? ⟨gb233, 4, none⟩ = some (.int .i64 t227) := (blk_cell BK233.out 4).trans rfl
                        have hcz26_5 : wr.cell? ⟨gb233, 5, none⟩ = some (.int .i64 t228) := (blk_cell BK233.out 5).trans rfl
                        have hcz26_6 : wr.cell? ⟨gb233, 6, none⟩ = some (.slice Ao10 t229.length co10) := (blk_cell BK233.out 6).trans rfl
                        have hcz26_7 : wr.cell? ⟨gb233, 7, none⟩ = some (.bool t232) := (blk_cell BK233.out 7).trans rfl
                        have hfz26_0 := blk_frozen BK233.out 0
                        have hfz26_1 := blk_frozen BK233.out 1
                        have hfz26_2 := blk_frozen BK233.out 2
                        have hfz26_3 := blk_frozen BK233.out 3
                        have hfz26_4 := blk_frozen BK233.out 4
                        have hfz26_5 := blk_frozen BK233.out 5
                        have hfz26_6 := blk_frozen BK233.out 6
                        have hfz26_7 := blk_frozen BK233.out 7
                        have p235 : 0 ≤ (x8_2 : Int) := of_decide_eq_true (by first | (with_reducible assumption) | assumption)
                        have q235 : x8_2 < (t229.length : Int) := of_decide_eq_true (by first | (with_reducible assumption) | assumption)
                        obtain ⟨ad235, e235, hx235_0, hx235_1, hx235_2⟩ := at_T61 (Kd.V_reads' HO_234006.out).2.2 x8_2 p235 q235
                        cases e235
                        replace p235 := eq_true p235
                        replace q235 := eq_true q235
                        go_wp2
                        go_roundg k2
                        case measure => have := HJ5.out; have := HK2.out; omega
                        case rel => exact ⟨(wrap64 (x8_2 + 1)), (by first | rfl | (simp; done) | (simp [*]; done)), H', ⟨by have := HJ5.out; have := HK2.out; omega⟩, ⟨by (with_reducible repeat (first | apply Kd.V_alloc | apply Kd.V_drewN | apply Kd.V_drew)); exact HO_234006.out⟩, ⟨by (with_reducible repeat (first | refine blk_drewN ?_ _ | refine blk_drew ?_ | refine blk_alloc ?_ _)); exact BK233.out⟩, ⟨by repeat (first | (with_reducible first | exact HB.out | apply below_alloc | apply pw_below_drewN | apply below_drew1 | refine below_set ?_ GE233.out) | exact HB.out)⟩⟩
                    · rw [if_neg c21] at H
                      exact absurd H (by simp)
                  · rw [if_neg c20] at H
                    have c20b0 : decide (x8_2 < (t229.length : Int)) = false := decide_eq_false c20
                    clear c20
                    obtain rfl := Option.some.inj H
                    have hcz27_0 : wr.cell? ⟨gb233, 0, none⟩ = some (.int .i64 t223) := (blk_cell BK233.out 0).trans rfl
                    have hcz27_1 : wr.cell? ⟨gb233, 1, none⟩ = some (.int .i64 t224) := (blk_cell BK233.out 1).trans rfl
                    have hcz27_2 : wr.cell? ⟨gb233, 2, none⟩ = some (.int .i64 t225) := (blk_cell BK233.out 2).trans rfl
                    have hcz27_3 : wr.cell? ⟨gb233, 3, none⟩ = some (.int .i64 t226) := (blk_cell BK233.out 3).trans rfl
                    have hcz27_4 : wr.cell? ⟨gb233, 4, none⟩ = some (.int .i64 t227) := (blk_cell BK233.out 4).trans rfl
                    have hcz27_5 : wr.cell? ⟨gb233, 5, none⟩ = some (.int .i64 t228) := (blk_cell BK233.out 5).trans rfl
                    have hcz27_6 : wr.cell? ⟨gb233, 6, none⟩ = some (.slice Ao10 t229.length co10) := (blk_cell BK233.out 6).trans rfl
                    have hcz27_7 : wr.cell? ⟨gb233, 7, none⟩ = some (.bool t232) := (blk_cell BK233.out 7).trans rfl
                    have hfz27_0 := blk_frozen BK233.out 0
                    have hfz27_1 := blk_frozen BK233.out 1
                    have hfz27_2 := blk_frozen BK233.out 2
                    have hfz27_3 := blk_frozen BK233.out 3
                    have hfz27_4 := blk_frozen BK233.out 4
                    have hfz27_5 := blk_frozen BK233.out 5
                    have hfz27_6 := blk_frozen BK233.out 6
                    have hfz27_7 := blk_frozen BK233.out 7
                    go_wp2
                    go_ret
                    exact ⟨by first | rfl | (simp [errW_none, errW_some] <;> rfl) | (simp [*, errW_none, errW_some] <;> rfl), by repeat (first | (with_reducible first | exact HB.out | apply below_alloc | apply pw_below_drewN | apply below_drew1 | refine below_set ?_ GE233.out) | exact HB.out)⟩

end Go.Proofs.Ytljbfmehdgfcfaa.P
