-- PRINTED by print.py (a twelfth state) out of the translation. Not trusted: Lean checks it.
import Derived.Test.YtljbfmehdgfcfaaPx0
import Derived.Test.YtljbfmehdgfcfaaPx2
import Derived.Test.YtljbfmehdgfcfaaPx4
import Derived.Test.YtljbfmehdgfcfaaPx8
import Derived.Test.YtljbfmehdgfcfaaPx11
namespace Go.Proofs.Ytljbfmehdgfcfaa.P
open Go.RowKit Go.Proofs.YtljbfmehdgfcfaaW.PrintWords Go.Proofs.YtljbfmehdgfcfaaW.PrintLast Go.Proofs.YtljbfmehdgfcfaaW.PrintMore
attribute [local go_sem] max2_int min2_int max_two min_two max_three min_three max_four min_four   -- for this text's walks alone
set_option linter.unusedVariables false
set_option linter.unusedSimpArgs false

/-! ### metrics_Table_Text: function 18 -/
-- ROUNDS
-- IMPORT Derived.Lib.OthersKept
def metrics_Table_Text.l0 : Nat → List (S46) → Int → ByteArray → Int → Nat → Option (Int)
 | 0, _, _, _, _, _ => none
 | k + 1, l, n, s, x, pos => if pos < s.size then ((metrics_Table_Width.f k l n ((Utf8.decode s pos).1 : Int)).bind fun t1 => ((scaled_Add.f x t1).bind fun t2 => (metrics_Table_Text.l0 k l n s t2 (pos + (Utf8.decode s pos).2)))) else (some x)
def metrics_Table_Text.f (k : Nat) (l0_0 : List (S46)) (a1 : Int) (a2 : ByteArray) : Option (Int) := metrics_Table_Text.l0 k l0_0 a1 a2 0 0
theorem metrics_Table_Text.mono_l : ∀ k, (∀ y0 y1 y2 y3 y4, LeO (metrics_Table_Text.l0 k y0 y1 y2 y3 y4) (metrics_Table_Text.l0 (k + 1) y0 y1 y2 y3 y4))
 | 0 => fun _ _ _ _ _ r h => by simp [metrics_Table_Text.l0] at h
 | k + 1 => by
   have ih0 := metrics_Table_Text.mono_l k
   intro y0 y1 y2 y3 y4
   unfold metrics_Table_Text.l0
   refine LeO.ite ?_ (LeO.refl _)
   refine LeO.bind (metrics_Table_Width.mono _ _ _ k) (fun _ => ?_)
   refine LeO.bind (LeO.refl _) (fun _ => ?_)
   exact ih0 _ _ _ _ _
theorem metrics_Table_Text.mono : ∀ a0 a1 a2 k, LeO (metrics_Table_Text.f k a0 a1 a2) (metrics_Table_Text.f (k + 1) a0 a1 a2) := fun _ _ _ k => metrics_Table_Text.mono_l k _ _ _ _ _
theorem metrics_Table_Text.l0.ev {l : List (S46)} {n : Int} {s : ByteArray} {x : Int} {pos : Nat} {r_ : Int} (h : Ev (fun k => if pos < s.size then ((metrics_Table_Width.f k l n ((Utf8.decode s pos).1 : Int)).bind fun t1 => ((scaled_Add.f x t1).bind fun t2 => (metrics_Table_Text.l0 k l n s t2 (pos + (Utf8.decode s pos).2)))) else (some x)) r_) : Ev (fun k => metrics_Table_Text.l0 k l n s x pos) r_ := Ev.step (fun k => by rw [metrics_Table_Text.l0]) h
set_option maxHeartbeats 8000000 in
set_option maxRecDepth 100000 in
theorem metrics_Table_Text.calls (k : Nat) (g0 : Nat) (A0_0 : Option Addr) (c0_0 : Nat) (l0_0 : List (S46)) (a1 : Int) (a2 : ByteArray) (r : Int) (w : World) (hp0 : w.heap[g0]? = some (.cells #[.slice A0_0 l0_0.length c0_0] 66 (0, 0))) (hr0_0 : Kd.C k46 w A0_0 l0_0.length l0_0) (hc0_0 : l0_0.length ≤ c0_0) (h : metrics_Table_Text.f k l0_0 a1 a2 = some r) :
   Calls Try.prog 18 #[.pointer (some ⟨g0, 0, none⟩), .int .i64 a1, .string a2] w fun e w' => e = .returned (.int .i64 r) ∧ Below w.heap.size w w' := by
 have hg0 : g0 < w.heap.size := blk_lt hp0
 have BK0 := Aside0.mk hp0
 clear hp0
 have HR0_0 := Aside0.mk hr0_0
 have HC0_0 := Aside0.mk hc0_0
 clear hr0_0 hc0_0
 have H' := Aside0.mk (show metrics_Table_Text.l0 k l0_0 a1 a2 0 0 = some r from h)
 clear h
 go_enter Try.func18, Try.ntmps18
 go_wp2
 go_loopg [7] k (fun kq v7 w' => ∃ (x7 : Int) (pos : Nat), v7 = .int .i64 x7 ∧ Aside0 (metrics_Table_Text.l0 kq l0_0 a1 a2 x7 pos = some r) ∧ Aside0 (kq ≤ k) ∧ Aside0 (w'.heap[w.heap.size]? = some (.stringIter a2 pos)) ∧ Aside0 (Below w.heap.size w w'))
 case atStart => exact ⟨0, 0, rfl, H', ⟨Nat.le_refl _⟩, ⟨World.iter_heap w a2 0⟩, ⟨(Below.refl _ w).alloc (Nat.le_refl _) _⟩⟩
 case round =>
   clear H'
   obtain ⟨x7, pos, rfl, HA, HK1, HI, HB⟩ := hrel
   cases gk with
   | zero => exact absurd HA.out (by simp [metrics_Table_Text.l0])
   | succ k1 =>
     have H := HA.out
     clear HA
     by_cases hp : pos < a2.size
     · rw [metrics_Table_Text.l0, if_pos hp] at H
       replace H := Option.bind_eq_some_iff.mp H
       obtain ⟨t1, A1, H⟩ := H
       replace H := Option.bind_eq_some_iff.mp H
       obtain ⟨t2, A2, H⟩ := H
       have H' := Aside0.mk H
       have A1' := Aside0.mk A1
       have A2' := Aside0.mk A2
       clear H A1 A2
       have hnx : ∀ ty, (Instr.next (.pointer (some ⟨w.heap.size, 0, none⟩)) true ty).run Try.prog wr = _ := fun ty => Lib.run_next_any_at wr w.heap.size a2 pos ty HI.out hp
       have hit2 := Aside0.mk (Lib.iterAt_heap wr w.heap.size a2 pos (pos + (Utf8.decode a2 pos).2) HI.out)
       have hbw2 := Aside0.mk (Lib.below_iterAt HB.out (k := w.heap.size) (Nat.le_refl _) a2 (pos + (Utf8.decode a2 pos).2))
       clear HI HB
       go_wp2_with (first | (go_at_call 15; refine (metrics_Table_Width.calls k1 g0 A0_0 c0_0 l0_0 a1 _ t1 _ (blk_below BK0.out hbw2.out) (Kd.C_below HR0_0.out hbw2.out) HC0_0.out A1'.out).mono ?_; rintro e w1 ⟨rfl, hb1⟩; have hit3 := Aside0.mk (blk_below hit2.out hb1); have hbw3 := Aside0.mk (below_step hbw2.out hb1); clear hb1) | (go_at_call 40; refine (scaled_Add.calls x7 t1 t2 _ A2'.out).mono ?_; rintro e w2 ⟨rfl, hb2⟩; have hit4 := Aside0.mk (blk_below hit3.out hb2); have hbw4 := Aside0.mk (below_step hbw3.out hb2); clear hb2))
       go_roundg k1
       case measure => have := HK1.out; omega
       case rel => exact ⟨t2, pos + (Utf8.decode a2 pos).2, rfl, H', ⟨by have := HK1.out; omega⟩, hit4, hbw4⟩
     · rw [metrics_Table_Text.l0, if_neg hp] at H
       obtain rfl := Option.some.inj H
       have hnx : ∀ ty, (Instr.next (.pointer (some ⟨w.heap.size, 0, none⟩)) true ty).run Try.prog wr = _ := fun ty => Lib.run_next_end_at wr w.heap.size a2 pos ty HI.out hp
       go_wp2
       go_ret
       exact ⟨rfl, HB.out⟩

/-! ### regletlaw04_awake: function 10 -/
def regletlaw04_awake.f (k : Nat)  : Option (Bool) := (regletlaw04_table.f k (([(⟨10, 6, 3, 2, 6, 6, ([] : List (S61)), false⟩ : S46)] : List (S46)))).bind fun bt172 => (if bt172.1 = true then ((metrics_Table_Styles.f bt172.2).bind fun t174 => (if t174 = 1 then ((metrics_Table_Text.f k bt172.2 0 (⟨#[97, 98, 99]⟩ : ByteArray)).bind fun t175 => (if t175 = 18 then ((metrics_Table_Width.f k bt172.2 0 173).bind fun t176 => (some (t176 == 0))) else (some false))) else (some false))) else (some false))
theorem regletlaw04_awake.mono : ∀ k, LeO (regletlaw04_awake.f k ) (regletlaw04_awake.f (k + 1) ) := by
 intro  k
 unfold regletlaw04_awake.f
 repeat' first
     | (with_reducible exact metrics_Table_Text.mono _ _ _ _)
     | (with_reducible exact metrics_Table_Width.mono _ _ _ _)
     | (with_reducible exact regletlaw04_table.mono _ _)
     | (with_reducible exact LeO.refl _)
     | (with_reducible exact LeO.none _)
     | (with_reducible refine LeO.ite ?_ ?_)
     | (with_reducible refine LeO.bind ?_ (fun _ => ?_))
     | exact metrics_Table_Text.mono _ _ _ _
     | exact metrics_Table_Width.mono _ _ _ _
     | exact regletlaw04_table.mono _ _
     | exact LeO.none _
     | refine LeO.ite ?_ ?_
     | refine LeO.bind ?_ (fun _ => ?_)
set_option maxHeartbeats 8000000 in
set_option maxRecDepth 100000 in
theorem regletlaw04_awake.calls (k : Nat)  (r : Bool) (w : World) (h : regletlaw04_awake.f k  = some r) :
   Calls Try.prog 10 #[] w fun e w' => e = .returned (.bool r) ∧ Below w.heap.size w w' := by
 have hu46 := Try.underlying46
 have HB := Aside0.mk (Below.refl w.heap.size w)
 have H : ((regletlaw04_table.f k (([(⟨10, 6, 3, 2, 6, 6, ([] : List (S61)), false⟩ : S46)] : List (S46)))).bind fun bt172 => (if bt172.1 = true then ((metrics_Table_Styles.f bt172.2).bind fun t174 => (if t174 = 1 then ((metrics_Table_Text.f k bt172.2 0 (⟨#[97, 98, 99]⟩ : ByteArray)).bind fun t175 => (if t175 = 18 then ((metrics_Table_Width.f k bt172.2 0 173).bind fun t176 => (some (t176 == 0))) else (some false))) else (some false))) else (some false))) = some r := h
 clear h
 obtain ⟨y168, hy168⟩ : ∃ y_ : List (S46), y_ = (([(⟨10, 6, 3, 2, 6, 6, ([] : List (S61)), false⟩ : S46)] : List (S46))) := ⟨_, rfl⟩
 replace H : ((regletlaw04_table.f k y168).bind fun bt172 => (if bt172.1 = true then ((metrics_Table_Styles.f bt172.2).bind fun t174 => (if t174 = 1 then ((metrics_Table_Text.f k bt172.2 0 (⟨#[97, 98, 99]⟩ : ByteArray)).bind fun t175 => (if t175 = 18 then ((metrics_Table_Width.f k bt172.2 0 173).bind fun t176 => (some (t176 == 0))) else (some false))) else (some false))) else (some false))) = some r := by first | (rw [hy168]; with_reducible exact H) | (have H2_ := (Option.bind_some _ _).symm.trans H; rw [hy168]; with_reducible exact H2_) | (have H2_ := (Option.bind_some _ _).symm.trans H; with_reducible exact H2_) | with_reducible exact H | (rw [hy168]; exact H) | exact H
 have Ny168 := Aside0.mk hy168
 clear hy168
 replace H := Option.bind_eq_some_iff.mp H
 obtain ⟨⟨t172, t173⟩, A10, H⟩ := H
 replace H : (if t172 = true then ((metrics_Table_Styles.f t173).bind fun t174 => (if t174 = 1 then ((metrics_Table_Text.f k t173 0 (⟨#[97, 98, 99]⟩ : ByteArray)).bind fun t175 => (if t175 = 18 then ((metrics_Table_Width.f k t173 0 173).bind fun t176 => (some (t176 == 0))) else (some false))) else (some false))) else (some false)) = some r := H
 have A1 := Aside0.mk A10
 clear A10
 by_cases c2 : t172 = true
 · subst c2
   have H1 : ((metrics_Table_Styles.f t173).bind fun t174 => (if t174 = 1 then ((metrics_Table_Text.f k t173 0 (⟨#[97, 98, 99]⟩ : ByteArray)).bind fun t175 => (if t175 = 18 then ((metrics_Table_Width.f k t173 0 173).bind fun t176 => (some (t176 == 0))) else (some false))) else (some false))) = some r := by rw [if_pos rfl] at H; exact H
   clear H
   have H := H1
   clear H1
   replace H := Option.bind_eq_some_iff.mp H
   obtain ⟨t174, A30, H⟩ := H
   replace H : (if t174 = 1 then ((metrics_Table_Text.f k t173 0 (⟨#[97, 98, 99]⟩ : ByteArray)).bind fun t175 => (if t175 = 18 then ((metrics_Table_Width.f k t173 0 173).bind fun t176 => (some (t176 == 0))) else (some false))) else (some false)) = some r := H
   have A3 := Aside0.mk A30
   clear A30
   by_cases c4 : t174 = 1
   · rw [if_pos c4] at H
     have c4b0 : (t174 == 1) = true := beq_iff_eq.mpr c4
     have c4b1 : (t174 != 1) = false := bne_eq_false_iff_eq.mpr c4
     clear c4
     replace H := Option.bind_eq_some_iff.mp H
     obtain ⟨t175, A50, H⟩ := H
     replace H : (if t175 = 18 then ((metrics_Table_Width.f k t173 0 173).bind fun t176 => (some (t176 == 0))) else (some false)) = some r := H
     have A5 := Aside0.mk A50
     clear A50
     by_cases c6 : t175 = 18
     · rw [if_pos c6] at H
       have c6b0 : (t175 == 18) = true := beq_iff_eq.mpr c6
       have c6b1 : (t175 != 18) = false := bne_eq_false_iff_eq.mpr c6
       clear c6
       replace H := Option.bind_eq_some_iff.mp H
       obtain ⟨t176, A70, H⟩ := H
       replace H : (some (t176 == 0)) = some r := H
       have A7 := Aside0.mk A70
       clear A70
       obtain rfl := Option.some.inj H
       go_enter Try.func10, Try.ntmps10
       go_wp2_with (first | ((with_reducible refine gate_dst (N := 3) rfl ?_); refine Kd.S_lit k46 _ 46 ?hg (N := 3) ?hd (xs := ([(⟨10, 6, 3, 2, 6, 6, ([] : List (S61)), false⟩ : S46)] : List (S46))) (inner := [.int .i64 10, .int .i64 6, .int .i64 3, .int .i64 2, .int .i64 6, .int .i64 6, .slice none 0 0, .bool false]) (ok := fun _ => True) (okp := fun _ => True) ?hr ?hp (fun _ hk => hk) trivial (Below.refl _ _) (Nat.le_refl _) (by simp) ?_; (case hd => rfl); (case hg => rfl); (case hr => first | (go_simp; done) | (go_simp; rfl)); (case hp => exact (Reps.c8 (show Kd.M k46 _ _ _ (⟨10, 6, 3, 2, 6, 6, ([] : List (S61)), false⟩ : S46) [.int .i64 10, .int .i64 6, .int .i64 3, .int .i64 2, .int .i64 6, .int .i64 6, .slice none 0 0, .bool false] from (k46_mkM _ _ _ (⟨10, 6, 3, 2, 6, 6, ([] : List (S61)), false⟩ : S46) (Kd.R_nil _ _ _ _ _))) (Reps.none _ _))); intro v169 w8 ho9 hb hg_ hnew_; clear hg_ hnew_; (first | rw [← Ny168.out] at ho9 | (simp only [Int.reduceToNat] at ho9; rw [← Ny168.out] at ho9)); have n0_ := Aside0.mk (Kd.S_lower ho9 (below_size (by repeat (first | (with_reducible first | exact HB.out | apply below_alloc | apply pw_below_drewN | apply below_drew1) | exact HB.out)))); have n1_ := Aside0.mk (below_step (by repeat (first | (with_reducible first | exact HB.out | apply below_alloc | apply pw_below_drewN | apply below_drew1) | exact HB.out)) hb); clear HB; have HO170 := n0_; have HB := n1_; clear n0_ n1_; clear hb ho9; obtain ⟨Ao10, co10, eo10⟩ := Kd.S_slice HO170.out; subst eo10) | ((with_reducible refine gate_callee (f := 14) rfl ?_); refine goesL_ (some 4) rfl rfl Try.func14 (by kernel_rfl) rfl #[.slice Ao10 y168.length co10] rfl (by (try simp only [List.map_toArray, List.map_cons, List.map_nil]); first | done | rfl | (simp only [List.length_drop, List.length_take]; rfl)) ?_; (with_reducible refine (regletlaw04_table.calls k _ _ y168 true t173 _ ?side1 ?side2 A1.out).mono ?_); (case side1 => repeat (first | exact (Kd.S_reads' HO170.out).2.2 | (with_reducible refine Kd.C_alloc ?_ _) | (with_reducible refine Kd.C_drewN ?_ _) | (with_reducible refine Kd.C_drew ?_))); (case side2 => exact (Kd.S_reads' HO170.out).2.1); rintro e w ⟨vp171, rfl, hq171, hb⟩; refine ⟨_, rfl, ?_⟩; obtain ⟨gp171, A171_0, c171_0, rfl, hbk171, hrp171_0, hcp171_0⟩ := PtS66.yes hq171 (by first | rfl | assumption); have n0_ := Aside0.mk (below_step (by repeat (first | (with_reducible first | exact HB.out | apply below_alloc | apply pw_below_drewN | apply below_drew1) | exact HB.out)) hb); have n1_ := Aside0.mk (Below.refl w.heap.size w); have n2_ := Aside0.mk (hbk171); have n3_ := Aside0.mk (hrp171_0); have n4_ := Aside0.mk (hcp171_0); clear HB; have HB0 := n0_; have HB := n1_; have BK171 := n2_; have HR171_0 := n3_; have HC171_0 := n4_; clear n0_ n1_ n2_ n3_ n4_; (try clear hb); (try clear hq171 hbk171 hrp171_0 hcp171_0)) | (go_at_call 13; (with_reducible refine (metrics_Table_Styles.calls gp171 A171_0 c171_0 t173 t174 _ ?side1 ?side2 ?side3 A3.out).mono ?_); (case side1 => (with_reducible repeat (first | refine blk_drewN ?_ _ | refine blk_drew ?_ | refine blk_alloc ?_ _)); exact BK171.out); (case side2 => repeat (first | exact (Kd.C_below HR171_0.out HB.out) | (with_reducible refine Kd.C_alloc ?_ _) | (with_reducible refine Kd.C_drewN ?_ _) | (with_reducible refine Kd.C_drew ?_))); (case side3 => exact HC171_0.out); rintro e w12 ⟨rfl, hb⟩; have n0_ := Aside0.mk (blk_below (g := gp171) (o := .cells #[.slice A171_0 t173.length c171_0] 66 (0, 0)) (by (with_reducible repeat (first | refine blk_drewN ?_ _ | refine blk_drew ?_ | refine blk_alloc ?_ _)); exact BK171.out) hb); have n1_ := Aside0.mk (below_step (by repeat (first | (with_reducible first | exact HB.out | apply below_alloc | apply pw_below_drewN | apply below_drew1 | refine below_set ?_ GE171.out) | exact HB.out)) hb); clear BK171; clear HB; have BK171 := n0_; have HB := n1_; clear n0_ n1_; (try clear hb); (try clear hb2); (try clear hk); (try clear hi)) | (go_at_call 18; (with_reducible refine (metrics_Table_Text.calls k gp171 A171_0 c171_0 t173 0 (⟨#[97, 98, 99]⟩ : ByteArray) t175 _ ?side1 ?side2 ?side3 A5.out).mono ?_); (case side1 => (with_reducible repeat (first | refine blk_drewN ?_ _ | refine blk_drew ?_ | refine blk_alloc ?_ _)); exact BK171.out); (case side2 => repeat (first | exact (Kd.C_below HR171_0.out HB.out) | (with_reducible refine Kd.C_alloc ?_ _) | (with_reducible refine Kd.C_drewN ?_ _) | (with_reducible refine Kd.C_drew ?_))); (case side3 => exact HC171_0.out); rintro e w13 ⟨rfl, hb⟩; have n0_ := Aside0.mk (blk_below (g := gp171) (o := .cells #[.slice A171_0 t173.length c171_0] 66 (0, 0)) (by (with_reducible repeat (first | refine blk_drewN ?_ _ | refine blk_drew ?_ | refine blk_alloc ?_ _)); exact BK171.out) hb); have n1_ := Aside0.mk (below_step (by repeat (first | (with_reducible first | exact HB.out | apply below_alloc | apply pw_below_drewN | apply below_drew1 | refine below_set ?_ GE171.out) | exact HB.out)) hb); clear BK171; clear HB; have BK171 := n0_; have HB := n1_; clear n0_ n1_; (try clear hb); (try clear hb2); (try clear hk); (try clear hi)) | (go_at_call 15; (with_reducible refine (metrics_Table_Width.calls k gp171 A171_0 c171_0 t173 0 173 t176 _ ?side1 ?side2 ?side3 A7.out).mono ?_); (case side1 => (with_reducible repeat (first | refine blk_drewN ?_ _ | refine blk_drew ?_ | refine blk_alloc ?_ _)); exact BK171.out); (case side2 => repeat (first | exact (Kd.C_below HR171_0.out HB.out) | (with_reducible refine Kd.C_alloc ?_ _) | (with_reducible refine Kd.C_drewN ?_ _) | (with_reducible refine Kd.C_drew ?_))); (case side3 => exact HC171_0.out); rintro e w14 ⟨rfl, hb⟩; have n0_ := Aside0.mk (blk_below (g := gp171) (o := .cells #[.slice A171_0 t173.length c171_0] 66 (0, 0)) (by (with_reducible repeat (first | refine blk_drewN ?_ _ | refine blk_drew ?_ | refine blk_alloc ?_ _)); exact BK171.out) hb); have n1_ := Aside0.mk (below_step (by repeat (first | (with_reducible first | exact HB.out | apply below_alloc | apply pw_below_drewN | apply below_drew1 | refine below_set ?_ GE171.out) | exact HB.out)) hb); clear BK171; clear HB; have BK171 := n0_; have HB := n1_; clear n0_ n1_; (try clear hb); (try clear hb2); (try clear hk); (try clear hi)))
       go_ret
       exact ⟨by first | rfl | (simp [errW_none, errW_some] <;> rfl) | (simp [*, errW_none, errW_some] <;> rfl), below_step HB0.out (by repeat (first | (with_reducible first | exact HB.out | apply below_alloc | apply pw_below_drewN | apply below_drew1 | refine below_set ?_ GE171.out) | exact HB.out))⟩
     · rw [if_neg c6] at H
       have c6b0 : (t175 == 18) = false := beq_eq_false_iff_ne.mpr c6
       have c6b1 : (t175 != 18) = true := bne_iff_ne.mpr c6
       obtain rfl := Option.some.inj H
       go_enter Try.func10, Try.ntmps10
       go_wp2_with (first | ((with_reducible refine gate_dst (N := 3) rfl ?_); refine Kd.S_lit k46 _ 46 ?hg (N := 3) ?hd (xs := ([(⟨10, 6, 3, 2, 6, 6, ([] : List (S61)), false⟩ : S46)] : List (S46))) (inner := [.int .i64 10, .int .i64 6, .int .i64 3, .int .i64 2, .int .i64 6, .int .i64 6, .slice none 0 0, .bool false]) (ok := fun _ => True) (okp := fun _ => True) ?hr ?hp (fun _ hk => hk) trivial (Below.refl _ _) (Nat.le_refl _) (by simp) ?_; (case hd => rfl); (case hg => rfl); (case hr => first | (go_simp; done) | (go_simp; rfl)); (case hp => exact (Reps.c8 (show Kd.M k46 _ _ _ (⟨10, 6, 3, 2, 6, 6, ([] : List (S61)), false⟩ : S46) [.int .i64 10, .int .i64 6, .int .i64 3, .int .i64 2, .int .i64 6, .int .i64 6, .slice none 0 0, .bool false] from (k46_mkM _ _ _ (⟨10, 6, 3, 2, 6, 6, ([] : List (S61)), false⟩ : S46) (Kd.R_nil _ _ _ _ _))) (Reps.none _ _))); intro v169 w15 ho16 hb hg_ hnew_; clear hg_ hnew_; (first | rw [← Ny168.out] at ho16 | (simp only [Int.reduceToNat] at ho16; rw [← Ny168.out] at ho16)); have n0_ := Aside0.mk (Kd.S_lower ho16 (below_size (by repeat (first | (with_reducible first | exact HB.out | apply below_alloc | apply pw_below_drewN | apply below_drew1) | exact HB.out)))); have n1_ := Aside0.mk (below_step (by repeat (first | (with_reducible first | exact HB.out | apply below_alloc | apply pw_below_drewN | apply below_drew1) | exact HB.out)) hb); clear HB; have HO170 := n0_; have HB := n1_; clear n0_ n1_; clear hb ho16; obtain ⟨Ao17, co17, eo17⟩ := Kd.S_slice HO170.out; subst eo17) | ((with_reducible refine gate_callee (f := 14) rfl ?_); refine goesL_ (some 4) rfl rfl Try.func14 (by kernel_rfl) rfl #[.slice Ao17 y168.length co17] rfl (by (try simp only [List.map_toArray, List.map_cons, List.map_nil]); first | done | rfl | (simp only [List.length_drop, List.length_take]; rfl)) ?_; (with_reducible refine (regletlaw04_table.calls k _ _ y168 true t173 _ ?side1 ?side2 A1.out).mono ?_); (case side1 => repeat (first | exact (Kd.S_reads' HO170.out).2.2 | (with_reducible refine Kd.C_alloc ?_ _) | (with_reducible refine Kd.C_drewN ?_ _) | (with_reducible refine Kd.C_drew ?_))); (case side2 => exact (Kd.S_reads' HO170.out).2.1); rintro e w ⟨vp171, rfl, hq171, hb⟩; refine ⟨_, rfl, ?_⟩; obtain ⟨gp171, A171_0, c171_0, rfl, hbk171, hrp171_0, hcp171_0⟩ := PtS66.yes hq171 (by first | rfl | assumption); have n0_ := Aside0.mk (below_step (by repeat (first | (with_reducible first | exact HB.out | apply below_alloc | apply pw_below_drewN | apply below_drew1) | exact HB.out)) hb); have n1_ := Aside0.mk (Below.refl w.heap.size w); have n2_ := Aside0.mk (hbk171); have n3_ := Aside0.mk (hrp171_0); have n4_ := Aside0.mk (hcp171_0); clear HB; have HB0 := n0_; have HB := n1_; have BK171 := n2_; have HR171_0 := n3_; have HC171_0 := n4_; clear n0_ n1_ n2_ n3_ n4_; (try clear hb); (try clear hq171 hbk171 hrp171_0 hcp171_0)) | (go_at_call 13; (with_reducible refine (metrics_Table_Styles.calls gp171 A171_0 c171_0 t173 t174 _ ?side1 ?side2 ?side3 A3.out).mono ?_); (case side1 => (with_reducible repeat (first | refine blk_drewN ?_ _ | refine blk_drew ?_ | refine blk_alloc ?_ _)); exact BK171.out); (case side2 => repeat (first | exact (Kd.C_below HR171_0.out HB.out) | (with_reducible refine Kd.C_alloc ?_ _) | (with_reducible refine Kd.C_drewN ?_ _) | (with_reducible refine Kd.C_drew ?_))); (case side3 => exact HC171_0.out); rintro e w19 ⟨rfl, hb⟩; have n0_ := Aside0.mk (blk_below (g := gp171) (o := .cells #[.slice A171_0 t173.length c171_0] 66 (0, 0)) (by (with_reducible repeat (first | refine blk_drewN ?_ _ | refine blk_drew ?_ | refine blk_alloc ?_ _)); exact BK171.out) hb); have n1_ := Aside0.mk (below_step (by repeat (first | (with_reducible first | exact HB.out | apply below_alloc | apply pw_below_drewN | apply below_drew1 | refine below_set ?_ GE171.out) | exact HB.out)) hb); clear BK171; clear HB; have BK171 := n0_; have HB := n1_; clear n0_ n1_; (try clear hb); (try clear hb2); (try clear hk); (try clear hi)) | (go_at_call 18; (with_reducible refine (metrics_Table_Text.calls k gp171 A171_0 c171_0 t173 0 (⟨#[97, 98, 99]⟩ : ByteArray) t175 _ ?side1 ?side2 ?side3 A5.out).mono ?_); (case side1 => (with_reducible repeat (first | refine blk_drewN ?_ _ | refine blk_drew ?_ | refine blk_alloc ?_ _)); exact BK171.out); (case side2 => repeat (first | exact (Kd.C_below HR171_0.out HB.out) | (with_reducible refine Kd.C_alloc ?_ _) | (with_reducible refine Kd.C_drewN ?_ _) | (with_reducible refine Kd.C_drew ?_))); (case side3 => exact HC171_0.out); rintro e w20 ⟨rfl, hb⟩; have n0_ := Aside0.mk (blk_below (g := gp171) (o := .cells #[.slice A171_0 t173.length c171_0] 66 (0, 0)) (by (with_reducible repeat (first | refine blk_drewN ?_ _ | refine blk_drew ?_ | refine blk_alloc ?_ _)); exact BK171.out) hb); have n1_ := Aside0.mk (below_step (by repeat (first | (with_reducible first | exact HB.out | apply below_alloc | apply pw_below_drewN | apply below_drew1 | refine below_set ?_ GE171.out) | exact HB.out)) hb); clear BK171; clear HB; have BK171 := n0_; have HB := n1_; clear n0_ n1_; (try clear hb); (try clear hb2); (try clear hk); (try clear hi)))
       go_ret
       exact ⟨by first | rfl | (simp [errW_none, errW_some] <;> rfl) | (simp [*, errW_none, errW_some] <;> rfl), below_step HB0.out (by repeat (first | (with_reducible first | exact HB.out | apply below_alloc | apply pw_below_drewN | apply below_drew1 | refine below_set ?_ GE171.out) | exact HB.out))⟩
   · rw [if_neg c4] at H
     have c4b0 : (t174 == 1) = false := beq_eq_false_iff_ne.mpr c4
     have c4b1 : (t174 != 1) = true := bne_iff_ne.mpr c4
     obtain rfl := Option.some.inj H
     go_enter Try.func10, Try.ntmps10
     go_wp2_with (first | ((with_reducible refine gate_dst (N := 3) rfl ?_); refine Kd.S_lit k46 _ 46 ?hg (N := 3) ?hd (xs := ([(⟨10, 6, 3, 2, 6, 6, ([] : List (S61)), false⟩ : S46)] : List (S46))) (inner := [.int .i64 10, .int .i64 6, .int .i64 3, .int .i64 2, .int .i64 6, .int .i64 6, .slice none 0 0, .bool false]) (ok := fun _ => True) (okp := fun _ => True) ?hr ?hp (fun _ hk => hk) trivial (Below.refl _ _) (Nat.le_refl _) (by simp) ?_; (case hd => rfl); (case hg => rfl); (case hr => first | (go_simp; done) | (go_simp; rfl)); (case hp => exact (Reps.c8 (show Kd.M k46 _ _ _ (⟨10, 6, 3, 2, 6, 6, ([] : List (S61)), false⟩ : S46) [.int .i64 10, .int .i64 6, .int .i64 3, .int .i64 2, .int .i64 6, .int .i64 6, .slice none 0 0, .bool false] from (k46_mkM _ _ _ (⟨10, 6, 3, 2, 6, 6, ([] : List (S61)), false⟩ : S46) (Kd.R_nil _ _ _ _ _))) (Reps.none _ _))); intro v169 w21 ho22 hb hg_ hnew_; clear hg_ hnew_; (first | rw [← Ny168.out] at ho22 | (simp only [Int.reduceToNat] at ho22; rw [← Ny168.out] at ho22)); have n0_ := Aside0.mk (Kd.S_lower ho22 (below_size (by repeat (first | (with_reducible first | exact HB.out | apply below_alloc | apply pw_below_drewN | apply below_drew1) | exact HB.out)))); have n1_ := Aside0.mk (below_step (by repeat (first | (with_reducible first | exact HB.out | apply below_alloc | apply pw_below_drewN | apply below_drew1) | exact HB.out)) hb); clear HB; have HO170 := n0_; have HB := n1_; clear n0_ n1_; clear hb ho22; obtain ⟨Ao23, co23, eo23⟩ := Kd.S_slice HO170.out; subst eo23) | ((with_reducible refine gate_callee (f := 14) rfl ?_); refine goesL_ (some 4) rfl rfl Try.func14 (by kernel_rfl) rfl #[.slice Ao23 y168.length co23] rfl (by (try simp only [List.map_toArray, List.map_cons, List.map_nil]); first | done | rfl | (simp only [List.length_drop, List.length_take]; rfl)) ?_; (with_reducible refine (regletlaw04_table.calls k _ _ y168 true t173 _ ?side1 ?side2 A1.out).mono ?_); (case side1 => repeat (first | exact (Kd.S_reads' HO170.out).2.2 | (with_reducible refine Kd.C_alloc ?_ _) | (with_reducible refine Kd.C_drewN ?_ _) | (with_reducible refine Kd.C_drew ?_))); (case side2 => exact (Kd.S_reads' HO170.out).2.1); rintro e w ⟨vp171, rfl, hq171, hb⟩; refine ⟨_, rfl, ?_⟩; obtain ⟨gp171, A171_0, c171_0, rfl, hbk171, hrp171_0, hcp171_0⟩ := PtS66.yes hq171 (by first | rfl | assumption); have n0_ := Aside0.mk (below_step (by repeat (first | (with_reducible first | exact HB.out | apply below_alloc | apply pw_below_drewN | apply below_drew1) | exact HB.out)) hb); have n1_ := Aside0.mk (Below.refl w.heap.size w); have n2_ := Aside0.mk (hbk171); have n3_ := Aside0.mk (hrp171_0); have n4_ := Aside0.mk (hcp171_0); clear HB; have HB0 := n0_; have HB := n1_; have BK171 := n2_; have HR171_0 := n3_; have HC171_0 := n4_; clear n0_ n1_ n2_ n3_ n4_; (try clear hb); (try clear hq171 hbk171 hrp171_0 hcp171_0)) | (go_at_call 13; (with_reducible refine (metrics_Table_Styles.calls gp171 A171_0 c171_0 t173 t174 _ ?side1 ?side2 ?side3 A3.out).mono ?_); (case side1 => (with_reducible repeat (first | refine blk_drewN ?_ _ | refine blk_drew ?_ | refine blk_alloc ?_ _)); exact BK171.out); (case side2 => repeat (first | exact (Kd.C_below HR171_0.out HB.out) | (with_reducible refine Kd.C_alloc ?_ _) | (with_reducible refine Kd.C_drewN ?_ _) | (with_reducible refine Kd.C_drew ?_))); (case side3 => exact HC171_0.out); rintro e w25 ⟨rfl, hb⟩; have n0_ := Aside0.mk (blk_below (g := gp171) (o := .cells #[.slice A171_0 t173.length c171_0] 66 (0, 0)) (by (with_reducible repeat (first | refine blk_drewN ?_ _ | refine blk_drew ?_ | refine blk_alloc ?_ _)); exact BK171.out) hb); have n1_ := Aside0.mk (below_step (by repeat (first | (with_reducible first | exact HB.out | apply below_alloc | apply pw_below_drewN | apply below_drew1 | refine below_set ?_ GE171.out) | exact HB.out)) hb); clear BK171; clear HB; have BK171 := n0_; have HB := n1_; clear n0_ n1_; (try clear hb); (try clear hb2); (try clear hk); (try clear hi)))
     go_ret
     exact ⟨by first | rfl | (simp [errW_none, errW_some] <;> rfl) | (simp [*, errW_none, errW_some] <;> rfl), below_step HB0.out (by repeat (first | (with_reducible first | exact HB.out | apply below_alloc | apply pw_below_drewN | apply below_drew1 | refine below_set ?_ GE171.out) | exact HB.out))⟩
 · replace c2 := Bool.eq_false_iff.mpr c2
   subst c2
   have H1 : (some false) = some r := by rw [if_neg (show ¬ (false = true) by decide)] at H; exact H
   clear H
   have H := H1
   clear H1
   obtain rfl := Option.some.inj H
   go_enter Try.func10, Try.ntmps10
   go_wp2_with (first | ((with_reducible refine gate_dst (N := 3) rfl ?_); refine Kd.S_lit k46 _ 46 ?hg (N := 3) ?hd (xs := ([(⟨10, 6, 3, 2, 6, 6, ([] : List (S61)), false⟩ : S46)] : List (S46))) (inner := [.int .i64 10, .int .i64 6, .int .i64 3, .int .i64 2, .int .i64 6, .int .i64 6, .slice none 0 0, .bool false]) (ok := fun _ => True) (okp := fun _ => True) ?hr ?hp (fun _ hk => hk) trivial (Below.refl _ _) (Nat.le_refl _) (by simp) ?_; (case hd => rfl); (case hg => rfl); (case hr => first | (go_simp; done) | (go_simp; rfl)); (case hp => exact (Reps.c8 (show Kd.M k46 _ _ _ (⟨10, 6, 3, 2, 6, 6, ([] : List (S61)), false⟩ : S46) [.int .i64 10, .int .i64 6, .int .i64 3, .int .i64 2, .int .i64 6, .int .i64 6, .slice none 0 0, .bool false] from (k46_mkM _ _ _ (⟨10, 6, 3, 2, 6, 6, ([] : List (S61)), false⟩ : S46) (Kd.R_nil _ _ _ _ _))) (Reps.none _ _))); intro v169 w26 ho27 hb hg_ hnew_; clear hg_ hnew_; (first | rw [← Ny168.out] at ho27 | (simp only [Int.reduceToNat] at ho27; rw [← Ny168.out] at ho27)); have n0_ := Aside0.mk (Kd.S_lower ho27 (below_size (by repeat (first | (with_reducible first | exact HB.out | apply below_alloc | apply pw_below_drewN | apply below_drew1) | exact HB.out)))); have n1_ := Aside0.mk (below_step (by repeat (first | (with_reducible first | exact HB.out | apply below_alloc | apply pw_below_drewN | apply below_drew1) | exact HB.out)) hb); clear HB; have HO170 := n0_; have HB := n1_; clear n0_ n1_; clear hb ho27; obtain ⟨Ao28, co28, eo28⟩ := Kd.S_slice HO170.out; subst eo28) | ((with_reducible refine gate_callee (f := 14) rfl ?_); refine goesL_ (some 4) rfl rfl Try.func14 (by kernel_rfl) rfl #[.slice Ao28 y168.length co28] rfl (by (try simp only [List.map_toArray, List.map_cons, List.map_nil]); first | done | rfl | (simp only [List.length_drop, List.length_take]; rfl)) ?_; (with_reducible refine (regletlaw04_table.calls k _ _ y168 false t173 _ ?side1 ?side2 A1.out).mono ?_); (case side1 => repeat (first | exact (Kd.S_reads' HO170.out).2.2 | (with_reducible refine Kd.C_alloc ?_ _) | (with_reducible refine Kd.C_drewN ?_ _) | (with_reducible refine Kd.C_drew ?_))); (case side2 => exact (Kd.S_reads' HO170.out).2.1); rintro e w29 ⟨vp171, rfl, hq171, hb⟩; refine ⟨_, rfl, ?_⟩; obtain rfl := PtS66.no hq171 (by first | rfl | assumption); have n0_ := Aside0.mk (Kd.S_below (by (with_reducible repeat (first | apply Kd.S_alloc | apply Kd.S_drewN | apply Kd.S_drew)); exact HO170.out) hb); have n1_ := Aside0.mk (below_step (by repeat (first | (with_reducible first | exact HB.out | apply below_alloc | apply pw_below_drewN | apply below_drew1) | exact HB.out)) hb); clear HO170; clear HB; have HO170 := n0_; have HB := n1_; clear n0_ n1_; (try clear hb); (try clear hb2); (try clear hk); (try clear hi)))
   go_ret
   exact ⟨by first | rfl | (simp [errW_none, errW_some] <;> rfl) | (simp [*, errW_none, errW_some] <;> rfl), by repeat (first | (with_reducible first | exact HB.out | apply below_alloc | apply pw_below_drewN | apply below_drew1) | exact HB.out)⟩

end Go.Proofs.Ytljbfmehdgfcfaa.P
