/- Styles: what the printed functions of metrics and of the reference come to. -/
import Derived.Test.YtljbfmehdgfcfaaPx2
import Derived.Test.YtljbfmehdgfcfaaPx3
import Derived.Test.YtljbfmehdgfcfaaPx4
import Derived.Test.YtljbfmehdgfcfaaPx5
import Derived.Test.YtljbfmehdgfcfaaPx6
import Derived.Test.YtljbfmehdgfcfaaPx7
import Derived.Test.YtljbfmehdgfcfaaPx8
import Derived.Test.YtljbfmehdgfcfaaPx12
import Derived.Test.YtljbfmehdgfcfaaEvKit
import Derived.Test.YtljbfmehdgfcfaaOpened
namespace Go.Proofs.Ytljbfmehdgfcfaa.P
open Go.RowKit Go.Proofs.YtljbfmehdgfcfaaW.PrintWords Go.Proofs.YtljbfmehdgfcfaaW.PrintLast
theorem drop_cons {α : Type} (l : List α) (i : Nat) (d : α) (h : i < l.length) : l.drop i = l.getD i d :: l.drop (i + 1) := by
  rw [List.drop_eq_getElem_cons h, List.getD_eq_getElem?_getD, List.getElem?_eq_getElem h]; rfl
theorem rdR_nat (l : List S61) (i : Nat) : rd_T61 l (i : Int) = l.getD i z61 := by simp [rd_T61]
theorem rdY_nat (l : List S46) (i : Nat) : rd_T46 l (i : Int) = l.getD i z46 := by simp [rd_T46]

def UnitOk (n m : Int) : Prop := m ≤ n ∧ n ≤ 1048576
instance (n m : Int) : Decidable (UnitOk n m) := inferInstanceAs (Decidable (_ ∧ _))
theorem unit_eq (n m : Int) : metrics_unit.f n m = some (decide (UnitOk n m)) := by
  unfold metrics_unit.f
  by_cases h : n ≥ m
  · rw [if_pos h]
    by_cases q : n ≤ 1048576
    · rw [decide_eq_true q, decide_eq_true (show UnitOk n m from ⟨h, q⟩)]
    · rw [decide_eq_false q, decide_eq_false (show ¬ UnitOk n m from fun z => q z.2)]
  · rw [if_neg h, decide_eq_false (show ¬ UnitOk n m from fun z => h z.1)]
theorem fits_eq (n m : Int) : regletref04_fits.f n m = some (decide (UnitOk n m)) := by
  unfold regletref04_fits.f
  by_cases h : n ≥ m
  · rw [if_pos h]
    by_cases q : n ≤ 1048576
    · rw [decide_eq_true q, decide_eq_true (show UnitOk n m from ⟨h, q⟩)]
    · rw [decide_eq_false q, decide_eq_false (show ¬ UnitOk n m from fun z => q z.2)]
  · rw [if_neg h, decide_eq_false (show ¬ UnitOk n m from fun z => h z.1)]

/-- the first fault of ranges, from one on -/
def rngC : Int → List S61 → Int
  | _, [] => 0
  | above, r :: rs => if r.f0 ≤ above ∨ r.f1 < r.f0 ∨ r.f1 > 1114111 then 42 else if UnitOk r.f2 0 then rngC r.f1 rs else 41
def UnitsOk (s : S46) : Prop := UnitOk s.f0 1 ∧ UnitOk s.f1 0 ∧ UnitOk s.f2 0 ∧ UnitOk s.f3 0 ∧ UnitOk s.f4 0 ∧ UnitOk s.f5 0 ∧ s.f3 ≤ s.f1
instance (s : S46) : Decidable (UnitsOk s) := inferInstanceAs (Decidable (_ ∧ _))
/-- the first fault of a style -/
def styC (s : S46) : Int := if UnitsOk s then (if (s.f6.length : Int) > 64 then 42 else rngC (-1) s.f6) else 41

/-! ### metrics.check -/
theorem check_loop (l : List S61) (hl : (l.length : Int) ≤ 64) : ∀ (d i : Nat) (above : Int), i + d = l.length →
    Ev (fun k => metrics_check.l0 k above l (l.length : Int) (i : Int)) (rngC above (l.drop i)) := by
  intro d
  induction d with
  | zero =>
    intro i above hi
    refine metrics_check.l0.ev (Ev.ifn (by omega) (Ev.some_ ?_))
    rw [List.drop_of_length_le (by omega)]; rfl
  | succ d ih =>
    intro i above hi
    rw [drop_cons l i z61 (by omega)]
    refine metrics_check.l0.ev (Ev.ifp (by omega) (Ev.ifp (by omega) (Ev.ifp (by omega) ?_)))
    rw [rdR_nat]
    have ih' := ih (i + 1) (l.getD i z61).f1 (by omega)
    generalize l.getD i z61 = x at *
    have j2 : ∀ b, (b = true ↔ (x.f0 ≤ above ∨ x.f1 < x.f0 ∨ x.f1 > 1114111)) → Ev (fun k => metrics_check.j2 k l (l.length : Int) (i : Int) b x.f0 x.f1 x.f2) (rngC above (x :: l.drop (i + 1))) := by
      intro b hb
      refine metrics_check.j2.ev ?_
      unfold rngC
      refine Ev.ifc (fun h => Ev.some_ (by rw [if_pos (hb.1 h)])) (fun h => ?_)
      rw [if_neg (fun q => h (hb.2 q))]
      refine Ev.bind (Ev.opt (unit_eq _ _)) (Ev.ifc (fun q => ?_) (fun q => Ev.some_ ?_))
      · rw [if_pos (of_decide_eq_true q), w64 (by omega) (by omega)]
        exact ih'
      · rw [if_neg (fun z => q (decide_eq_true z))]
    refine Ev.ifc (fun h => j2 true (by simp [h])) (fun h1 => Ev.ifc (fun h => j2 true (by simp [h])) (fun h2 => j2 _ ?_))
    rw [decide_eq_true_iff]; omega
theorem check_ev (s : S46) : Ev (fun k => metrics_check.f k s.f0 s.f1 s.f2 s.f3 s.f4 s.f5 s.f6 s.f7) (styC s) := by
  have j0 : ∀ b, (b = true ↔ ¬ UnitsOk s) → Ev (fun k => metrics_check.j0 k b s.f0 s.f1 s.f2 s.f3 s.f4 s.f5 s.f6 s.f7) (styC s) := by
    intro b hb
    refine metrics_check.j0.ev ?_
    unfold styC
    refine Ev.ifc (fun h => Ev.some_ (by rw [if_neg (hb.1 h)])) (fun h => ?_)
    rw [if_pos (Decidable.not_not.1 (fun q => h (hb.2 q)))]
    refine Ev.ifc (fun q => Ev.some_ (by rw [if_pos q])) (fun q => ?_)
    rw [if_neg q]
    have := check_loop s.f6 (by omega) s.f6.length 0 (-1) (by omega)
    simpa using this
  have no : ∀ {n m : Int}, ¬ decide (UnitOk n m) = true → ¬ UnitOk n m := fun h q => h (decide_eq_true q)
  refine Ev.bind (Ev.opt (unit_eq _ _)) (Ev.ifc (fun h0 => ?_) (fun h => j0 true (by simp only [true_iff]; exact fun q => no h q.1)))
  refine Ev.bind (Ev.opt (unit_eq _ _)) (Ev.ifc (fun h1 => ?_) (fun h => j0 true (by simp only [true_iff]; exact fun q => no h q.2.1)))
  refine Ev.bind (Ev.opt (unit_eq _ _)) (Ev.ifc (fun h2 => ?_) (fun h => j0 true (by simp only [true_iff]; exact fun q => no h q.2.2.1)))
  refine Ev.bind (Ev.opt (unit_eq _ _)) (Ev.ifc (fun h3 => ?_) (fun h => j0 true (by simp only [true_iff]; exact fun q => no h q.2.2.2.1)))
  refine Ev.bind (Ev.opt (unit_eq _ _)) (Ev.ifc (fun h4 => ?_) (fun h => j0 true (by simp only [true_iff]; exact fun q => no h q.2.2.2.2.1)))
  refine Ev.bind (Ev.opt (unit_eq _ _)) (Ev.ifc (fun h5 => ?_) (fun h => j0 true (by simp only [true_iff]; exact fun q => no h q.2.2.2.2.2.1)))
  refine j0 _ ?_
  rw [decide_eq_true_iff]
  constructor
  · intro h q; have := q.2.2.2.2.2.2; omega
  · intro h
    refine Int.not_le.1 (fun q => h ⟨of_decide_eq_true h0, of_decide_eq_true h1, of_decide_eq_true h2, of_decide_eq_true h3, of_decide_eq_true h4, of_decide_eq_true h5, q⟩)

/-! ### the reference's Style -/
theorem refStyle_loop (s : S46) (l : List S61) (hl : (l.length : Int) ≤ 64) : ∀ (d i : Nat) (above : Int), i + d = l.length → (above = if i = 0 then -1 else (l.getD (i - 1) z61).f1) →
    Ev (fun k => regletref04_Style.l1 k (i : Int) s.f0 s.f1 s.f2 s.f3 s.f4 s.f5 l s.f7) (rngC above (l.drop i)) := by
  intro d
  induction d with
  | zero =>
    intro i above hi _
    refine regletref04_Style.l1.ev (Ev.ifn (by omega) (Ev.some_ ?_))
    rw [List.drop_of_length_le (by omega)]; rfl
  | succ d ih =>
    intro i above hi ha
    rw [drop_cons l i z61 (by omega)]
    refine regletref04_Style.l1.ev (Ev.ifp (by omega) (Ev.ifp (by omega) ?_))
    rw [rdR_nat]
    have ih' := ih (i + 1) (l.getD i z61).f1 (by omega) (by simp)
    have hp : 0 < i → rd_T61 l (wrap64 ((i : Int) - 1)) = l.getD (i - 1) z61 := by
      intro h
      rw [w64 (by omega) (by omega), show (i : Int) - 1 = ((i - 1 : Nat) : Int) by omega, rdR_nat]
    have hw : 0 < i → wrap64 ((i : Int) - 1) = (i : Int) - 1 := fun h => w64 (by omega) (by omega)
    generalize l.getD i z61 = x at *
    have j3 : ∀ b, (b = true ↔ (x.f0 ≤ above ∨ x.f1 < x.f0 ∨ x.f1 > 1114111)) → Ev (fun k => regletref04_Style.j3 k (i : Int) b s.f0 s.f1 s.f2 s.f3 s.f4 s.f5 l s.f7 x.f0 x.f1 x.f2) (rngC above (x :: l.drop (i + 1))) := by
      intro b hb
      refine regletref04_Style.j3.ev ?_
      unfold rngC
      refine Ev.ifc (fun h => Ev.some_ (by rw [if_pos (hb.1 h)])) (fun h => ?_)
      rw [if_neg (fun q => h (hb.2 q))]
      refine Ev.bind (Ev.opt (fits_eq _ _)) (Ev.ifc (fun q => ?_) (fun q => Ev.some_ ?_))
      · rw [if_pos (of_decide_eq_true q), w64 (by omega) (by omega)]
        exact ih'
      · rw [if_neg (fun z => q (decide_eq_true z))]
    have rest : ¬ x.f0 ≤ above → Ev (fun k => if x.f1 < x.f0 then (regletref04_Style.j3 k (i : Int) true s.f0 s.f1 s.f2 s.f3 s.f4 s.f5 l s.f7 x.f0 x.f1 x.f2) else (regletref04_Style.j3 k (i : Int) (decide (x.f1 > 1114111)) s.f0 s.f1 s.f2 s.f3 s.f4 s.f5 l s.f7 x.f0 x.f1 x.f2)) (rngC above (x :: l.drop (i + 1))) := by
      intro h1
      refine Ev.ifc (fun h => j3 true (by simp [h])) (fun h2 => j3 _ ?_)
      rw [decide_eq_true_iff]; omega
    have more : 0 < i → Ev (fun k => if 0 ≤ (wrap64 ((i : Int) - 1)) then (if (wrap64 ((i : Int) - 1)) < (l.length : Int) then (if x.f0 ≤ ((rd_T61 l (wrap64 ((i : Int) - 1))).f1) then (regletref04_Style.j3 k (i : Int) true s.f0 s.f1 s.f2 s.f3 s.f4 s.f5 l s.f7 x.f0 x.f1 x.f2) else (if x.f1 < x.f0 then (regletref04_Style.j3 k (i : Int) true s.f0 s.f1 s.f2 s.f3 s.f4 s.f5 l s.f7 x.f0 x.f1 x.f2) else (regletref04_Style.j3 k (i : Int) (decide (x.f1 > 1114111)) s.f0 s.f1 s.f2 s.f3 s.f4 s.f5 l s.f7 x.f0 x.f1 x.f2))) else none) else none) (rngC above (x :: l.drop (i + 1))) := by
      intro h0
      rw [if_neg (by omega)] at ha
      rw [hp h0, ← ha]
      refine Ev.ifp (by rw [hw h0]; omega) (Ev.ifp (by rw [hw h0]; omega) (Ev.ifc (fun h => j3 true (by simp [h])) rest))
    refine Ev.ifc (fun h0 => ?_) (fun h0 => Ev.ifp (by omega) (more (by omega)))
    obtain rfl : i = 0 := by omega
    rw [if_pos rfl] at ha
    refine Ev.ifc (fun h => j3 true (by simp; omega)) (fun h => Ev.ifn (by omega) (rest (by omega)))
theorem refStyle_ev (s : S46) : Ev (fun k => regletref04_Style.f k s.f0 s.f1 s.f2 s.f3 s.f4 s.f5 s.f6 s.f7) (styC s) := by
  have no : ∀ {n m : Int}, ¬ decide (UnitOk n m) = true → ¬ UnitOk n m := fun h q => h (decide_eq_true q)
  have j1 : UnitOk s.f0 1 ∧ UnitOk s.f1 0 ∧ UnitOk s.f2 0 ∧ UnitOk s.f3 0 ∧ UnitOk s.f4 0 ∧ UnitOk s.f5 0 → ∀ b, (b = true ↔ s.f3 > s.f1) → Ev (fun k => regletref04_Style.j1 k b s.f0 s.f1 s.f2 s.f3 s.f4 s.f5 s.f6 s.f7) (styC s) := by
    intro hu b hb
    refine regletref04_Style.j1.ev ?_
    unfold styC
    refine Ev.ifc (fun h => Ev.some_ (by have := hb.1 h; rw [if_neg (fun q => by have := q.2.2.2.2.2.2; omega)])) (fun h => ?_)
    rw [if_pos ⟨hu.1, hu.2.1, hu.2.2.1, hu.2.2.2.1, hu.2.2.2.2.1, hu.2.2.2.2.2, Int.not_lt.1 (fun q => h (hb.2 q))⟩]
    refine Ev.ifc (fun q => Ev.some_ (by rw [if_pos q])) (fun q => ?_)
    rw [if_neg q]
    have := refStyle_loop s s.f6 (by omega) s.f6.length 0 (-1) (by omega) (by simp)
    simpa using this
  have out : ¬ UnitsOk s → Ev (fun _ => some (41 : Int)) (styC s) := fun h => Ev.some_ (by unfold styC; rw [if_neg h])
  unfold regletref04_Style.f
  have step : ∀ (i : Int) (x : Int), 0 ≤ i → i < 5 → rd [s.f1, s.f2, s.f3, s.f4, s.f5] i = x → (¬ UnitOk x 0 → ¬ UnitsOk s) →
      (UnitOk x 0 → Ev (fun k => regletref04_Style.l0 k [s.f1, s.f2, s.f3, s.f4, s.f5] (i + 1) s.f0 s.f1 s.f2 s.f3 s.f4 s.f5 s.f6 s.f7) (styC s)) →
      Ev (fun k => regletref04_Style.l0 k [s.f1, s.f2, s.f3, s.f4, s.f5] i s.f0 s.f1 s.f2 s.f3 s.f4 s.f5 s.f6 s.f7) (styC s) := by
    intro i x h0 h5 hx hn hy
    refine regletref04_Style.l0.ev (Ev.ifp (by simpa using h5) (Ev.ifp h0 ?_))
    rw [hx, w64 (by omega) (by omega)]
    refine Ev.bind (Ev.opt (fits_eq _ _)) (Ev.ifc (fun q => hy (of_decide_eq_true q)) (fun q => out (hn (no q))))
  refine step 0 s.f1 (by omega) (by omega) rfl (fun h q => h q.2.1) (fun h1 => ?_)
  refine step 1 s.f2 (by omega) (by omega) rfl (fun h q => h q.2.2.1) (fun h2 => ?_)
  refine step 2 s.f3 (by omega) (by omega) rfl (fun h q => h q.2.2.2.1) (fun h3 => ?_)
  refine step 3 s.f4 (by omega) (by omega) rfl (fun h q => h q.2.2.2.2.1) (fun h4 => ?_)
  refine step 4 s.f5 (by omega) (by omega) rfl (fun h q => h q.2.2.2.2.2.1) (fun h5 => ?_)
  refine regletref04_Style.l0.ev (Ev.ifn (by simp) (Ev.bind (Ev.opt (fits_eq _ _)) (Ev.ifc (fun h0 => ?_) (fun h => ?_))))
  · exact j1 ⟨of_decide_eq_true h0, h1, h2, h3, h4, h5⟩ _ (by rw [decide_eq_true_iff])
  · have hu := no h
    refine regletref04_Style.j1.ev (Ev.ifp rfl (out (fun q => hu q.1)))

/-! ### Check, New, table -/
def scanC : Int → List S46 → Int × Int
  | _, [] => (0, 0)
  | i, s :: r => if styC s = 0 then scanC (i + 1) r else (styC s, i)
/-- the first fault of styles, and its place -/
def chkL (l : List S46) : Int × Int := if l.length = 0 ∨ (l.length : Int) > 32 then (40, 0) else scanC 0 l
theorem refCheck_loop (l : List S46) (hl : (l.length : Int) ≤ 32) : ∀ (d i : Nat), i + d = l.length →
    Ev (fun k => regletref04_Check.l0 k l (i : Int)) (scanC i (l.drop i)) := by
  intro d
  induction d with
  | zero =>
    intro i hi
    refine regletref04_Check.l0.ev (Ev.ifn (by omega) (Ev.some_ ?_))
    rw [List.drop_of_length_le (by omega)]; rfl
  | succ d ih =>
    intro i hi
    rw [drop_cons l i z46 (by omega)]
    refine regletref04_Check.l0.ev (Ev.ifp (by omega) (Ev.ifp (by omega) ?_))
    rw [rdY_nat]
    have ih' := ih (i + 1) (by omega)
    generalize l.getD i z46 = x at *
    unfold scanC
    refine Ev.bind (refStyle_ev x) (Ev.ifc (fun h => ?_) (fun h => Ev.some_ (by rw [if_neg h])))
    rw [if_pos h, w64 (by omega) (by omega)]
    exact ih'
theorem refCheck_ev (l : List S46) : Ev (fun k => regletref04_Check.f k l) (chkL l) := by
  have j0 : ∀ b, (b = true ↔ (l.length = 0 ∨ (l.length : Int) > 32)) → Ev (fun k => regletref04_Check.j0 k l b) (chkL l) := by
    intro b hb
    unfold chkL
    refine regletref04_Check.j0.ev (Ev.ifc (fun h => Ev.some_ (by rw [if_pos (hb.1 h)])) (fun h => ?_))
    rw [if_neg (fun q => h (hb.2 q))]
    have := refCheck_loop l (by have : ¬ (l.length = 0 ∨ (l.length : Int) > 32) := fun q => h (hb.2 q); omega) l.length 0 (by omega)
    simpa using this
  refine Ev.ifc (fun h => j0 true ⟨fun _ => .inl (by omega), fun _ => rfl⟩) (fun h => j0 _ ?_)
  rw [decide_eq_true_iff]; omega
theorem New_loop (l : List S46) (hl : (l.length : Int) ≤ 32) : ∀ (d i : Nat), i + d = l.length →
    Ev (fun k => metrics_New.l0 k l (l.length : Int) (i : Int) (l.take i)) ((scanC i (l.drop i)).1, (scanC i (l.drop i)).2, decide ((scanC i (l.drop i)).1 = 0), if (scanC i (l.drop i)).1 = 0 then l else []) := by
  intro d
  induction d with
  | zero =>
    intro i hi
    refine metrics_New.l0.ev (Ev.ifn (by omega) (Ev.some_ ?_))
    rw [List.drop_of_length_le (by omega), List.take_of_length_le (by omega)]; rfl
  | succ d ih =>
    intro i hi
    rw [drop_cons l i z46 (by omega)]
    refine metrics_New.l0.ev (Ev.ifp (by omega) (Ev.ifp (by omega) (Ev.ifp (by omega) ?_)))
    rw [rdY_nat]
    have ih' := ih (i + 1) (by omega)
    have tk : l.take (i + 1) = l.take i ++ [l.getD i z46] := by
      rw [List.take_add_one, List.getD_eq_getElem?_getD, List.getElem?_eq_getElem (show i < l.length by omega)]; rfl
    rw [tk] at ih'
    generalize l.getD i z46 = x at *
    unfold scanC
    refine Ev.bind (check_ev x) (Ev.ifc (fun h => ?_) (fun h => Ev.some_ (by rw [if_neg h]; simp [h])))
    have h64 : (x.f6.length : Int) ≤ 64 := by
      unfold styC at h
      by_cases hu : UnitsOk x
      · rw [if_pos hu] at h
        by_cases q : (x.f6.length : Int) > 64
        · rw [if_pos q] at h; omega
        · omega
      · rw [if_neg hu] at h; omega
    rw [if_pos h]
    refine Ev.bind (Ev.now _) (Ev.ifp (by simp; omega) (Ev.ifp (by simp; omega) ?_))
    rw [w64 (by omega) (by omega)]
    exact ih'
theorem New_ev (l : List S46) : Ev (fun k => metrics_New.f k l) ((chkL l).1, (chkL l).2, decide ((chkL l).1 = 0), if (chkL l).1 = 0 then l else []) := by
  have j0 : ∀ b, (b = true ↔ (l.length = 0 ∨ (l.length : Int) > 32)) → Ev (fun k => metrics_New.j0 k l b) ((chkL l).1, (chkL l).2, decide ((chkL l).1 = 0), if (chkL l).1 = 0 then l else []) := by
    intro b hb
    unfold chkL
    refine metrics_New.j0.ev (Ev.ifc (fun h => Ev.some_ (by rw [if_pos (hb.1 h)]; simp)) (fun h => ?_))
    rw [if_neg (fun q => h (hb.2 q))]
    have := New_loop l (by have : ¬ (l.length = 0 ∨ (l.length : Int) > 32) := fun q => h (hb.2 q); omega) l.length 0 (by omega)
    simpa using this
  refine Ev.ifc (fun h => j0 true ⟨fun _ => .inl (by omega), fun _ => rfl⟩) (fun h => j0 _ ?_)
  rw [decide_eq_true_iff]; omega
theorem table_ev (l : List S46) : Ev (fun k => regletlaw04_table.f k l) (decide ((chkL l).1 = 0), if (chkL l).1 = 0 then l else []) := by
  refine Ev.bind (refCheck_ev l) (Ev.ifc (fun h => ?_) (fun h => Ev.some_ (by simp [h])))
  refine Ev.bind (New_ev l) ?_
  simp only [h, decide_true, if_true]
  exact Ev.now _

/-- what is known of styles that are right -/
theorem scanC_ok : ∀ (l : List S46) (i : Int), (scanC i l).1 = 0 → ∀ s ∈ l, styC s = 0
  | [], _, _, s, hs => by cases hs
  | x :: r, i, h, s, hs => by
    unfold scanC at h
    by_cases q : styC x = 0
    · rw [if_pos q] at h
      rcases List.mem_cons.1 hs with rfl | hs
      · exact q
      · exact scanC_ok r _ h s hs
    · rw [if_neg q] at h; exact absurd h q
theorem chkL_ok {l : List S46} (h : (chkL l).1 = 0) : 0 < l.length ∧ l.length ≤ 32 ∧ ∀ s ∈ l, styC s = 0 := by
  unfold chkL at h
  by_cases q : l.length = 0 ∨ (l.length : Int) > 32
  · rw [if_pos q] at h; simp at h
  · rw [if_neg q] at h
    exact ⟨by omega, by omega, scanC_ok l 0 h⟩
theorem styC_ok {s : S46} (h : styC s = 0) : UnitsOk s ∧ s.f6.length ≤ 64 ∧ rngC (-1) s.f6 = 0 := by
  unfold styC at h
  by_cases hu : UnitsOk s
  · rw [if_pos hu] at h
    by_cases q : (s.f6.length : Int) > 64
    · rw [if_pos q] at h; omega
    · rw [if_neg q] at h; exact ⟨hu, by omega, h⟩
  · rw [if_neg hu] at h; omega
theorem awake_ev : Ev regletlaw04_awake.f true := Ev.of regletlaw04_awake.mono (k := 100) (by decide +kernel)
end Go.Proofs.Ytljbfmehdgfcfaa.P
