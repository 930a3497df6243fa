/- Chapter 7: items alike; the types that the laws take. -/
import Derived.Test.YtkkhgbcmjeaghaaJa
import Derived.Test.YtkkhgbcmjeaghaaTt
namespace Go.Proofs.Ytkkhgbcmjeaghaa.Vm
open Go
open _root_.Go.RowKit (wrap64)
abbrev tRng : Ty := .cons (.i .i64) (.cons (.i .i64) (.i .i64))
abbrev tSty : Ty := .cons (.i .i64) (.cons (.i .i64) (.cons (.i .i64) (.cons (.i .i64) (.cons (.i .i64) (.cons (.i .i64) (.cons (.row false tRng) .b))))))
abbrev tRun : Ty := .cons (.i .i64) (.i .i64)
theorem Same_loop (a : List api_Item) (ha : a.length ≤ 1000000000) : ∀ (d i : Nat), i + d = a.length → Ev (fun k => regletref07_Same.l0 k a a (i : Int)) true := by
  intro d
  induction d with
  | zero => exact fun i e => Ev.st (fun k => by rw [regletref07_Same.l0]) (Ev.dn (by omega) (Ev.now _))
  | succ d ih =>
    intro i e
    refine Ev.st (fun k => by rw [regletref07_Same.l0]) (Ev.dp (by omega) ?_)
    refine Ev.at_ (by omega) (by omega) ?_
    refine Ev.at_ (by omega) (by omega) ?_
    refine Ev.bn (by simp) ?_
    rw [nx i (by omega)]
    exact ih (i + 1) (by omega)
theorem Same_ev (a : List api_Item) (ha : a.length ≤ 1000000000) : Ev (fun k => regletref07_Same.f k a a) true :=
  Ev.xn rfl (Same_loop a ha a.length 0 (by omega))
theorem boxB_len {s w a b : Int} {q : List api_Item × Int} (h : q.2 = s → q.1 ≠ []) : (boxB s w a b q).length ≤ q.1.length + 1 := by
  unfold boxB
  by_cases c : q.2 = s
  · rw [if_pos c]
    obtain ⟨ys, x, e⟩ := concat_of (h c)
    rw [e, grow_concat]; simp
  · rw [if_neg c]; simp
theorem bld_len {l : List Styl} (hl : ∀ s ∈ l, styC s = 0) {R : List (Int × Int)} {n : Int} : ∀ (L A : List Int) (q : List api_Item × Int) (p : Nat), (∀ a ∈ A, 0 ≤ styAt R a) → BOk q p → (bld l R n L A q).length ≤ 3 * (p + L.length) + 3
  | [], A, q, p, _, h => by
    have := h.1
    have e : bld l R n [] A q = q.1 ++ fillI n n := by cases A <;> rfl
    rw [e, List.length_append]; simp only [fillI, List.length_cons, List.length_nil]; omega
  | r :: L, [], q, p, _, h => by
    have := h.1
    have e : bld l R n (r :: L) [] q = q.1 ++ fillI n n := rfl
    rw [e, List.length_append]; simp only [fillI, List.length_cons, List.length_nil]; omega
  | r :: L, a :: A, q, p, hA, h => by
    have nb := stepB_ok hl r (styAt R a) a (nxt A n) q p (p + 1) (by omega) (hA a (List.mem_cons_self ..)) h
    unfold bld
    rw [List.length_cons]
    by_cases c : kindOf r = 8
    · rw [if_pos c]; have := nb.1; omega
    · rw [if_neg c]
      have := bld_len hl L A _ (p + 1) (fun a ha => hA a (List.mem_cons_of_mem _ ha)) nb (n := n)
      omega
theorem bok0 : BOk (([] : List api_Item), (-1 : Int)) 0 := ⟨by simp, fun x hx => by simp at hx, fun z => absurd rfl z⟩
theorem Dec.sty {n : Nat} {s : ByteArray} {L A : List Int} (D : Dec s s.size 0 L A) {R : List (Int × Int)} (h : runC n s 0 R = 0) : ∀ a ∈ A, 0 ≤ a ∧ a < s.size ∧ 0 ≤ styAt R a ∧ styAt R a < n := fun a ha => by
  have h0 := D.mem_ge a ha
  have h1 := D.mem_lt a ha
  have := styAt_ok R 0 a.toNat h (by omega)
  rw [show ((a.toNat : Nat) : Int) = a by omega] at this
  omega
/-- a table of right styles -/
theorem tab_cases (l : List Styl) : (∀ s ∈ l, styC s = 0) ∧ Ev (fun k => regletlaw07_table.f k l) (some l) ∨ Ev (fun k => regletlaw07_table.f k l) none := by
  have T := table07_ev l
  by_cases c : (chkL l).1 = 0
  · rw [if_pos c] at T; exact .inl ⟨(chkL_ok c).2.2, T⟩
  · rw [if_neg c] at T; exact .inr T
theorem few_ev (s : ByteArray) (R : List (Int × Int)) : Ev (fun k => regletlaw07_few.f k s R) (decide (s.size ≤ 2000 ∧ R.length ≤ 200)) := by
  refine Ev.dc (fun h => Ev.some_ ?_) (fun h => Ev.some_ ?_)
  · rw [decide_eq_decide]; omega
  · rw [eq_comm, decide_eq_false_iff_not]; omega
theorem bad_build {l : List Styl} {s : ByteArray} (hs : s.size ≤ 1000000) {R : List (Int × Int)} (hR : R.length ≤ 1000000) (hc : chkC l s R ≠ 0) : Ev (fun k => items_Build.f k l s R) ([], chkC l s R) ∧ Ev (fun k => regletref07_Build.f k l s R) ([], chkC l s R) :=
  ⟨Ev.bind (iChk07_ev l s hs R hR) (Ev.xp hc (Ev.now _)), Ev.bind (rChk07_ev l s hs R hR) (Ev.xp hc (Ev.now _))⟩
end Go.Proofs.Ytkkhgbcmjeaghaa.Vm
