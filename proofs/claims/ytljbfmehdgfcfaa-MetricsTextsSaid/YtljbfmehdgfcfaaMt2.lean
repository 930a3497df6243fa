/- A style of a number, and the kind of a rune. -/
import Derived.Test.YtljbfmehdgfcfaaPx8
import Derived.Test.YtljbfmehdgfcfaaPx9
import Derived.Test.YtljbfmehdgfcfaaPx14
import Derived.Test.YtljbfmehdgfcfaaPx15
import Derived.Test.YtljbfmehdgfcfaaMt
namespace Go.Proofs.Ytljbfmehdgfcfaa.P
open Go.RowKit Go.Proofs.YtljbfmehdgfcfaaW.PrintWords Go.Proofs.YtljbfmehdgfcfaaW.PrintLast
/-- a style; the zero one, if there is none -/
def ofS (l : List S46) (n : Int) : S46 := if 0 ≤ n ∧ n < l.length then rd_T46 l n else z46
def tup (s : S46) : Int × Int × Int × Int × Int × Int × List S61 × Bool := (s.f0, s.f1, s.f2, s.f3, s.f4, s.f5, s.f6, s.f7)
theorem Check_eq (l : List S46) (n : Int) : metrics_Table_Check.f l n = some (if 0 ≤ n ∧ n < l.length then 0 else 43) := by
  unfold metrics_Table_Check.f
  by_cases h : n < 0
  · rw [if_pos h, if_neg (by omega)]
  · rw [if_neg h]
    by_cases q : n ≥ (l.length : Int)
    · rw [if_pos q, if_neg (by omega)]
    · rw [if_neg q, if_pos (by omega)]
theorem of_eq (l : List S46) (n : Int) : metrics_Table_of.f l n = some (tup (ofS l n)) := by
  unfold metrics_Table_of.f ofS
  rw [Check_eq]; simp only [Option.bind_some]
  by_cases h : 0 ≤ n ∧ n < l.length
  · rw [if_pos h, if_pos rfl, if_pos h.1, if_pos h.2, if_pos h]; rfl
  · rw [if_neg h, if_neg (by omega), if_neg h]; rfl
theorem refOf_eq (l : List S46) (n : Int) : regletref04_Of.f l n = some (tup (ofS l n)) := by
  unfold regletref04_Of.f ofS
  by_cases h : n < 0
  · rw [if_pos h, if_neg (by omega)]; rfl
  · rw [if_neg h]
    by_cases q : n ≥ (l.length : Int)
    · rw [if_pos q, if_neg (by omega)]; rfl
    · rw [if_neg q, if_pos (by omega), if_pos (by omega), if_pos (by omega)]; rfl
theorem rdY_mem {l : List S46} {i : Int} (h0 : 0 ≤ i) (h : i < l.length) : rd_T46 l i ∈ l := by
  unfold rd_T46; rw [List.getD_eq_getElem?_getD, List.getElem?_eq_getElem (show i.toNat < l.length by omega)]
  exact List.getElem_mem _
/-- what is known of a style that is one of a right table -/
theorem ofS_ok {l : List S46} (h : ∀ s ∈ l, styC s = 0) (n : Int) : (ofS l n).f6.length ≤ 64 ∧ rngC (-1) (ofS l n).f6 = 0 ∧ UnitOk (ofS l n).f0 0 ∧ UnitOk (ofS l n).f1 0 ∧ UnitOk (ofS l n).f5 0 := by
  unfold ofS
  by_cases q : 0 ≤ n ∧ n < l.length
  · rw [if_pos q]
    obtain ⟨⟨a, b, _, _, _, c, _⟩, d, e⟩ := styC_ok (h _ (rdY_mem q.1 q.2))
    exact ⟨d, e, ⟨by have := a.1; omega, a.2⟩, b, c⟩
  · rw [if_neg q]
    exact ⟨by simp [z46], by simp [z46, rngC], by simp [z46, UnitOk], by simp [z46, UnitOk], by simp [z46, UnitOk]⟩

/-! ### a rune's kind -/
def kindOf (r : Int) : Int := if r = 32 ∨ r = 9 then 1 else if r = 160 ∨ r = 8239 then 2 else if r = 173 then 3 else if r = 8203 then 4 else if r = 8288 ∨ r = 65279 then 5 else if r = 45 ∨ r = 8208 then 6 else if r = 8232 then 7 else if r = 10 then 8 else 0
theorem kind_ev (r : Int) : Ev (fun k => runes_Kind.f k r) (kindOf r) := by
  have two : ∀ {g : Nat → Bool → Option Int} {x y v : Int}, (∀ b, (b = true ↔ (r = x ∨ r = y)) → Ev (fun k => g k b) v) → Ev (fun k => if r = x then g k (r == x) else g k (r == y)) v := by
    intro g x y v h
    refine Ev.ifc (fun q => h _ ?_) (fun q => h _ ?_)
    · simp [q]
    · simp [q]
  unfold kindOf
  refine two (fun b hb => runes_Kind.j0.ev (Ev.ifc (fun h => Ev.some_ (by rw [if_pos (hb.1 h)])) (fun h => ?_)))
  rw [if_neg (fun q => h (hb.2 q))]
  refine two (fun b hb => runes_Kind.j1.ev (Ev.ifc (fun h => Ev.some_ (by rw [if_pos (hb.1 h)])) (fun h => ?_)))
  rw [if_neg (fun q => h (hb.2 q))]
  refine Ev.ifc (fun h => Ev.some_ (by rw [if_pos h])) (fun h => ?_)
  rw [if_neg h]
  refine Ev.ifc (fun h => Ev.some_ (by rw [if_pos h])) (fun h => ?_)
  rw [if_neg h]
  refine two (fun b hb => runes_Kind.j2.ev (Ev.ifc (fun h => Ev.some_ (by rw [if_pos (hb.1 h)])) (fun h => ?_)))
  rw [if_neg (fun q => h (hb.2 q))]
  refine two (fun b hb => runes_Kind.j3.ev (Ev.ifc (fun h => Ev.some_ (by rw [if_pos (hb.1 h)])) (fun h => ?_)))
  rw [if_neg (fun q => h (hb.2 q))]
  refine Ev.ifc (fun h => Ev.some_ (by rw [if_pos h])) (fun h => ?_)
  rw [if_neg h]
  refine Ev.ifc (fun h => Ev.some_ (by rw [if_pos h])) (fun h => Ev.some_ (by rw [if_neg h]))
def findRow (r : Int) : Int → List (List Int) → Int
  | _, [] => 0
  | i, row :: rest => if r ∈ row then i else findRow r (i + 1) rest
theorem refKind_loop (r : Int) (T : List (List Int)) (hT : (T.length : Int) ≤ 100) (hR : ∀ row ∈ T, (row.length : Int) ≤ 100) : ∀ (d i : Nat), i + d = T.length →
    Ev (fun k => regletref02_Kind.l0 k r T (i : Int)) (findRow r i (T.drop i)) := by
  intro d
  induction d with
  | zero =>
    intro i hi
    refine regletref02_Kind.l0.ev (Ev.ifn (by omega) (Ev.some_ ?_))
    rw [List.drop_of_length_le (by omega)]; rfl
  | succ d ih =>
    intro i hi
    rw [drop_cons T i [] (by omega)]
    refine regletref02_Kind.l0.ev (Ev.ifp (by omega) ?_)
    have hrow : rd_L5 T (i : Int) = T.getD i [] := by simp [rd_L5]
    have hlen := hR (T.getD i []) (by
      rw [List.getD_eq_getElem?_getD, List.getElem?_eq_getElem (show i < T.length by omega)]; exact List.getElem_mem _)
    have ih' := ih (i + 1) (by omega)
    have inner : ∀ (e j : Nat), j + e = (T.getD i []).length → Ev (fun k => regletref02_Kind.l1 k r T (i : Int) (j : Int)) (if r ∈ (T.getD i []).drop j then (i : Int) else findRow r ((i : Int) + 1) (T.drop (i + 1))) := by
      intro e
      induction e with
      | zero =>
        intro j hj
        refine regletref02_Kind.l1.ev (Ev.ifp (by omega) (Ev.ifp (by omega) ?_))
        rw [hrow]
        refine Ev.ifn (by omega) ?_
        rw [List.drop_of_length_le (by omega), if_neg (by simp), w64 (by omega) (by omega)]
        exact ih'
      | succ e ih2 =>
        intro j hj
        refine regletref02_Kind.l1.ev (Ev.ifp (by omega) (Ev.ifp (by omega) ?_))
        rw [hrow]
        refine Ev.ifp (by omega) (Ev.ifp (by omega) ?_)
        rw [rd_nat, drop_cons _ j 0 (by omega)]
        refine Ev.ifc (fun h => Ev.some_ (by rw [if_pos (by rw [h]; exact List.mem_cons_self)])) (fun h => ?_)
        have ih3 := ih2 (j + 1) (by omega)
        rw [w64 (by omega) (by omega)]
        refine Ev.lift ih3 ?_
        have : (r ∈ (T.getD i []).getD j 0 :: (T.getD i []).drop (j + 1)) = (r ∈ (T.getD i []).drop (j + 1)) := by
          apply propext
          rw [List.mem_cons]
          exact ⟨fun q => q.resolve_left (fun z => h z.symm), .inr⟩
        simp only [this]
    have := inner _ 0 (Nat.zero_add _)
    unfold findRow
    simpa using this
theorem refKind_ev (r : Int) : Ev (fun k => regletref02_Kind.f k r) (kindOf r) := by
  have h := refKind_loop r [[], [32, 9], [160, 8239], [173], [8203], [8288, 65279], [45, 8208], [8232], [10]] (by simp) (by simp) 8 1 (by simp)
  refine Ev.lift h ?_
  simp [findRow, kindOf]
end Go.Proofs.Ytljbfmehdgfcfaa.P
