/- A rune's width in a style: the search from the middle finds what the reference finds. -/
import Derived.Test.YtljbfmehdgfcfaaPx10
import Derived.Test.YtljbfmehdgfcfaaPx11
import Derived.Test.YtljbfmehdgfcfaaPx16
import Derived.Test.YtljbfmehdgfcfaaMt2
namespace Go.Proofs.Ytljbfmehdgfcfaa.P
open Go.RowKit Go.Proofs.YtljbfmehdgfcfaaW.PrintWords Go.Proofs.YtljbfmehdgfcfaaW.PrintLast
/-- by the ranges, from the first on -/
def findR (r o : Int) : List S61 → Int
  | [] => o
  | x :: xs => if x.f0 ≤ r ∧ r ≤ x.f1 then x.f2 else findR r o xs
theorem refFind_loop (r a0 a1 a2 a3 a4 a5 : Int) (a7 : Bool) (l : List S61) (hl : l.length ≤ 64) : ∀ (d i : Nat), i + d = l.length →
    Ev (fun k => regletref04_Width.l0 k r (i : Int) a0 a1 a2 a3 a4 a5 l a7) (findR r a5 (l.drop i)) := by
  intro d
  induction d with
  | zero =>
    intro i hi
    refine regletref04_Width.l0.ev (Ev.ifn (by omega) (Ev.some_ ?_))
    rw [List.drop_of_length_le (by omega)]; rfl
  | succ d ih =>
    intro i hi
    rw [drop_cons l i z61 (by omega)]
    refine regletref04_Width.l0.ev (Ev.ifp (by omega) (Ev.ifp (by omega) ?_))
    rw [rdR_nat]
    have ih' := ih (i + 1) (by omega)
    rw [w64 (by omega) (by omega)]
    generalize l.getD i z61 = x at *
    unfold findR
    refine Ev.ifc (fun h => Ev.ifc (fun q => Ev.some_ (by rw [if_pos ⟨h, q⟩])) (fun q => ?_)) (fun h => ?_)
    · rw [if_neg (fun z => q z.2)]; exact ih'
    · rw [if_neg (fun z => h z.1)]; exact ih'

/-- ranges that are right rise -/
theorem rngC_rise : ∀ (l : List S61) (above : Int), rngC above l = 0 →
    (∀ i, i < l.length → above < (l.getD i z61).f0 ∧ (l.getD i z61).f0 ≤ (l.getD i z61).f1) ∧ ∀ i j, i < j → j < l.length → (l.getD i z61).f1 < (l.getD j z61).f0
  | [], _, _ => ⟨fun i h => by simp at h, fun i j _ h => by simp at h⟩
  | x :: r, above, h => by
    unfold rngC at h
    by_cases q : x.f0 ≤ above ∨ x.f1 < x.f0 ∨ x.f1 > 1114111
    · rw [if_pos q] at h; omega
    rw [if_neg q] at h
    by_cases u : UnitOk x.f2 0
    · rw [if_pos u] at h
      obtain ⟨h1, h2⟩ := rngC_rise r x.f1 h
      refine ⟨fun i hi => ?_, fun i j hij hj => ?_⟩
      · cases i with
        | zero => simp only [List.getD_cons_zero]; omega
        | succ i =>
          simp only [List.getD_cons_succ, List.length_cons] at *
          have := h1 i (by omega)
          omega
      · cases j with
        | zero => omega
        | succ j =>
          simp only [List.getD_cons_succ, List.length_cons] at *
          cases i with
          | zero => simp only [List.getD_cons_zero]; exact (h1 j (by omega)).1
          | succ i => simp only [List.getD_cons_succ]; exact h2 i j (by omega) (by omega)
    · rw [if_neg u] at h; omega

theorem findR_skip (r o : Int) (l : List S61) : ∀ (d i : Nat), i + d ≤ l.length → (∀ j, i ≤ j → j < i + d → ¬ ((l.getD j z61).f0 ≤ r ∧ r ≤ (l.getD j z61).f1)) → findR r o (l.drop i) = findR r o (l.drop (i + d)) := by
  intro d
  induction d with
  | zero => intro i _ _; rfl
  | succ d ih =>
    intro i hi hn
    rw [drop_cons l i z61 (by omega), findR, if_neg (hn i (by omega) (by omega)), ih (i + 1) (by omega) (fun j h1 h2 => hn j (by omega) (by omega)), show i + 1 + d = i + (d + 1) by omega]
theorem lookup_loop (r a0 a1 a2 a3 a4 a5 : Int) (a7 : Bool) (l : List S61) (hl : l.length ≤ 64) (hs : rngC (-1) l = 0) : ∀ (d lo hi : Nat), hi - lo ≤ d → lo ≤ hi → hi ≤ l.length → (∀ j, j < lo → (l.getD j z61).f1 < r) → (∀ j, hi ≤ j → j < l.length → r ≤ (l.getD j z61).f1) →
    Ev (fun k => metrics_lookup.l0 k r (lo : Int) (hi : Int) a0 a1 a2 a3 a4 a5 l a7) (findR r a5 l) := by
  obtain ⟨s1, s2⟩ := rngC_rise l (-1) hs
  intro d
  induction d with
  | zero =>
    intro lo hi h1 h2 h3 h4 h5
    obtain rfl : lo = hi := by omega
    have e1 : findR r a5 l = findR r a5 (l.drop lo) := by
      have := findR_skip r a5 l lo 0 (by omega) (fun j _ hj q => by have := h4 j (by omega); omega)
      simpa using this
    refine metrics_lookup.l0.ev (Ev.ifn (by omega) ?_)
    rw [e1]
    refine Ev.ifc (fun h => Ev.ifp (by omega) ?_) (fun h => Ev.some_ ?_)
    · rw [rdR_nat, drop_cons l lo z61 (by omega)]
      have hr := h5 lo (Nat.le_refl _) (by omega)
      unfold findR
      refine Ev.ifc (fun q => Ev.some_ (by rw [if_pos ⟨q, hr⟩])) (fun q => Ev.some_ ?_)
      rw [if_neg (fun z => q z.1)]
      have := findR_skip r a5 l (l.length - (lo + 1)) (lo + 1) (by omega) (fun j hj1 hj2 z => by
        have := s2 lo j (by omega) (by omega)
        omega)
      rw [this, List.drop_of_length_le (by omega)]; rfl
    · rw [List.drop_of_length_le (by omega)]; rfl
  | succ d ih =>
    intro lo hi h1 h2 h3 h4 h5
    by_cases c : lo = hi
    · exact ih lo hi (by omega) h2 h3 h4 h5
    have hm : wrap64 (Int.tdiv (wrap64 ((lo : Int) + (hi : Int))) 2) = (((lo + hi) / 2 : Nat) : Int) := by
      rw [w64 (x := (lo : Int) + hi) (by omega) (by omega), Int.tdiv_eq_ediv_of_nonneg (by omega), w64 (by omega) (by omega)]
      omega
    refine metrics_lookup.l0.ev (Ev.ifp (by omega) ?_)
    rw [hm]
    refine Ev.ifp (by omega) (Ev.ifp (by omega) ?_)
    rw [rdR_nat]
    refine Ev.ifc (fun q => ?_) (fun q => ?_)
    · rw [w64 (by omega) (by omega)]
      refine ih ((lo + hi) / 2 + 1) hi (by omega) (by omega) h3 (fun j hj => ?_) h5
      by_cases e : j = (lo + hi) / 2
      · rw [e]; exact q
      · have a := s2 j ((lo + hi) / 2) (by omega) (by omega)
        have b := (s1 ((lo + hi) / 2) (by omega)).2
        omega
    · refine ih lo ((lo + hi) / 2) (by omega) (by omega) (by omega) h4 (fun j hj hjl => ?_)
      by_cases e : j = (lo + hi) / 2
      · rw [e]; omega
      · have a := s2 ((lo + hi) / 2) j (by omega) (by omega)
        have b := (s1 j hjl).2
        omega
theorem lookup_ev (s : S46) (hl : s.f6.length ≤ 64) (hs : rngC (-1) s.f6 = 0) (r : Int) : Ev (fun k => metrics_lookup.f k s.f0 s.f1 s.f2 s.f3 s.f4 s.f5 s.f6 s.f7 r) (findR r s.f5 s.f6) :=
  lookup_loop r s.f0 s.f1 s.f2 s.f3 s.f4 s.f5 s.f7 s.f6 hl hs s.f6.length 0 s.f6.length (by omega) (by omega) (by omega) (fun j h => by omega) (fun j h h' => by omega)

/-- a rune's width -/
def widthS (s : S46) (r : Int) : Int := if kindOf r = 1 ∨ kindOf r = 2 then s.f1 else if kindOf r = 3 ∨ kindOf r = 4 ∨ kindOf r = 5 ∨ kindOf r = 7 ∨ kindOf r = 8 then 0 else findR r s.f5 s.f6
theorem Width_ev {l : List S46} (h : ∀ s ∈ l, styC s = 0) (n : Int) {r : Int} (hr : -2147483648 ≤ r ∧ r ≤ 2147483647) : Ev (fun k => metrics_Table_Width.f k l n r) (widthS (ofS l n) r) := by
  obtain ⟨h1, h2, _⟩ := ofS_ok h n
  refine Ev.bind (Ev.opt (of_eq l n)) (Ev.bind (kind_ev r) ?_)
  unfold widthS
  generalize kindOf r = c
  have j0 : ∀ b, (b = true ↔ (c = 1 ∨ c = 2)) → Ev (fun k => metrics_Table_Width.j0 k r c b (ofS l n).f0 (ofS l n).f1 (ofS l n).f2 (ofS l n).f3 (ofS l n).f4 (ofS l n).f5 (ofS l n).f6 (ofS l n).f7) (if c = 1 ∨ c = 2 then (ofS l n).f1 else if c = 3 ∨ c = 4 ∨ c = 5 ∨ c = 7 ∨ c = 8 then 0 else findR r (ofS l n).f5 (ofS l n).f6) := by
    intro b hb
    refine metrics_Table_Width.j0.ev (Ev.ifc (fun q => Ev.some_ (by rw [if_pos (hb.1 q)])) (fun q => ?_))
    rw [if_neg (fun z => q (hb.2 z))]
    refine Ev.ifc (fun z => Ev.some_ (by rw [if_pos (by omega)])) (fun z1 => ?_)
    refine Ev.ifc (fun z => Ev.some_ (by rw [if_pos (by omega)])) (fun z2 => ?_)
    refine Ev.ifc (fun z => Ev.some_ (by rw [if_pos (by omega)])) (fun z3 => ?_)
    refine Ev.ifc (fun z => Ev.some_ (by rw [if_pos (by omega)])) (fun z4 => ?_)
    refine Ev.ifc (fun z => Ev.some_ (by rw [if_pos (by omega)])) (fun z5 => ?_)
    rw [if_neg (by omega), w64 (by omega) (by omega)]
    exact Ev.bind (lookup_ev _ h1 h2 r) (Ev.now _)
  exact Ev.ifc (fun q => j0 _ (by simp [q])) (fun q => j0 _ (by simp [q]))
theorem refWidth_ev {l : List S46} (h : ∀ s ∈ l, styC s = 0) (n r : Int) : Ev (fun k => regletref04_Width.f k l n r) (widthS (ofS l n) r) := by
  obtain ⟨h1, _⟩ := ofS_ok h n
  refine Ev.bind (Ev.opt (refOf_eq l n)) (Ev.bind (refKind_ev r) ?_)
  unfold widthS
  generalize kindOf r = c
  have j0 : ∀ b, (b = true ↔ (c = 1 ∨ c = 2)) → Ev (fun k => regletref04_Width.j0 k r c b (ofS l n).f0 (ofS l n).f1 (ofS l n).f2 (ofS l n).f3 (ofS l n).f4 (ofS l n).f5 (ofS l n).f6 (ofS l n).f7) (if c = 1 ∨ c = 2 then (ofS l n).f1 else if c = 3 ∨ c = 4 ∨ c = 5 ∨ c = 7 ∨ c = 8 then 0 else findR r (ofS l n).f5 (ofS l n).f6) := by
    intro b hb
    refine regletref04_Width.j0.ev (Ev.ifc (fun q => Ev.some_ (by rw [if_pos (hb.1 q)])) (fun q => ?_))
    rw [if_neg (fun z => q (hb.2 z))]
    refine Ev.ifc (fun z => Ev.some_ (by rw [if_pos (by omega)])) (fun z1 => ?_)
    refine Ev.ifc (fun z => Ev.some_ (by rw [if_pos (by omega)])) (fun z2 => ?_)
    refine Ev.ifc (fun z => Ev.some_ (by rw [if_pos (by omega)])) (fun z3 => ?_)
    refine Ev.ifc (fun z => Ev.some_ (by rw [if_pos (by omega)])) (fun z4 => ?_)
    refine Ev.ifc (fun z => Ev.some_ (by rw [if_pos (by omega)])) (fun z5 => ?_)
    rw [if_neg (by omega)]
    have := refFind_loop r (ofS l n).f0 (ofS l n).f1 (ofS l n).f2 (ofS l n).f3 (ofS l n).f4 (ofS l n).f5 (ofS l n).f7 (ofS l n).f6 h1 (ofS l n).f6.length 0 (by omega)
    simpa using this
  exact Ev.ifc (fun q => j0 _ (by simp [q])) (fun q => j0 _ (by simp [q]))
end Go.Proofs.Ytljbfmehdgfcfaa.P
