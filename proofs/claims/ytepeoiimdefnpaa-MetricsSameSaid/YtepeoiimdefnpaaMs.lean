/- Chapter 04: the example; the table; styles that are alike. -/
import Derived.Test.YtepeoiimdefnpaaTl
namespace Go.Proofs.Ytepeoiimdefnpaa.Vm
open Go
open _root_.Go.RowKit (wrap64)
abbrev tRng04 : Ty := .cons (.i .i64) (.cons (.i .i64) (.i .i64))
abbrev tSty04 : Ty := .cons (.i .i64) (.cons (.i .i64) (.cons (.i .i64) (.cons (.i .i64) (.cons (.i .i64) (.cons (.i .i64) (.cons (.row false tRng04) .b))))))
theorem awake04s_ev : Ev (fun k => regletlaw04_awake.f k) true := Ev.far 300 (fun k => by kernel_rfl)
theorem table04_ev (l : List Styl) : Ev (fun k => regletlaw04_table.f k l) (if (chkL l).1 = 0 then some l else none) := by
  refine Ev.congr (fun k => by rw [regletlaw04_table.f]) ?_
  refine Ev.bind (refCheck_ev l) (Ev.xc (fun h => Ev.some_ (by rw [if_neg h])) (fun h => ?_))
  have := MNew_ev l
  unfold newC at this
  rw [if_pos h] at this ⊢
  refine Ev.bind this ?_
  refine Ev.somep rfl ?_
  exact Ev.xn rfl (Ev.now _)
theorem eq_endG {α : Type} [Inhabited α] {a b : List α} (h : a.length = b.length) (e : ∀ j : Nat, j < a.length → rd a (j : Int) = rd b (j : Int)) : a = b := rd_ext h fun i h0 h1 => by
  have := e i.toNat (by omega)
  rwa [show ((i.toNat : Nat) : Int) = i by omega] at this
theorem ne_G {α : Type} [Inhabited α] {a b : List α} {i : Nat} (h : rd a (i : Int) ≠ rd b (i : Int)) : isTrue (a = b) = false := isTrue_no fun e => h (by rw [e])
theorem rng_dec (x y : Rng) : (decide (x.1 = y.1) && (decide (x.2.1 = y.2.1) && (decide (x.2.2 = y.2.2) && true))) = decide (x = y) := by
  obtain ⟨a, b, c⟩ := x
  obtain ⟨a', b', c'⟩ := y
  by_cases h1 : a = a' <;> by_cases h2 : b = b' <;> by_cases h3 : c = c' <;> simp [h1, h2, h3]
theorem step_pre {α : Type} [Inhabited α] {a b : List α} {i : Nat} (hj : ∀ j : Nat, j < i → rd a (j : Int) = rd b (j : Int)) (h : rd a (i : Int) = rd b (i : Int)) : ∀ j : Nat, j < i + 1 → rd a (j : Int) = rd b (j : Int) := fun j hj' => by
  by_cases c : j < i
  · exact hj j c
  · obtain rfl : j = i := by omega
    exact h
theorem sty_eq {x y : Styl} (h1 : x.1 = y.1) (h2 : x.2.1 = y.2.1) (h3 : x.2.2.1 = y.2.2.1) (h4 : x.2.2.2.1 = y.2.2.2.1) (h5 : x.2.2.2.2.1 = y.2.2.2.2.1) (h6 : x.2.2.2.2.2.1 = y.2.2.2.2.2.1) (h7 : x.2.2.2.2.2.2.1 = y.2.2.2.2.2.2.1) (h8 : x.2.2.2.2.2.2.2 = y.2.2.2.2.2.2.2) : x = y := by
  obtain ⟨a, b, c, d, e, f, g, k⟩ := x
  obtain ⟨a', b', c', d', e', f', g', k'⟩ := y
  simp only at h1 h2 h3 h4 h5 h6 h7 h8
  subst h1 h2 h3 h4 h5 h6 h7 h8
  rfl
/-- Styles that aren't too many. -/
def FewS (l : List Styl) : Prop := l.length ≤ 32 ∧ ∀ s, s ∈ l → s.2.2.2.2.2.2.1.length ≤ 64
theorem few_of {l : List Styl} (h : (chkL l).1 = 0) : FewS l := by
  obtain ⟨_, h2, h3⟩ := chkL_ok h
  exact ⟨h2, fun s hs => (styC_ok (h3 s hs)).2.1⟩
/-- Of ranges: alike to the end. -/
theorem refSame_l2 (a b : List Styl) (i : Nat) (hi : i < 4000) (x y : Styl) (hx : x.2.2.2.2.2.2.1.length ≤ 64) (hl : x.2.2.2.2.2.2.1.length = y.2.2.2.2.2.2.1.length) (r : Bool) (hno : x ≠ y → r = false) (hyes : x.2.2.2.2.2.2.1 = y.2.2.2.2.2.2.1 → Ev (fun k => regletref04_Same.l0 k a b ((i + 1 : Nat) : Int)) r) :
    ∀ d j : Nat, j + d = x.2.2.2.2.2.2.1.length → (∀ m : Nat, m < j → rd x.2.2.2.2.2.2.1 (m : Int) = rd y.2.2.2.2.2.2.1 (m : Int)) → Ev (fun k => regletref04_Same.l2 k a b (i : Int) (j : Int) x y) r := by
  intro d
  induction d with
  | zero =>
    intro j e hj
    refine Ev.st (fun k => by rw [regletref04_Same.l2]) (Ev.dn (by omega) ?_)
    rw [nx i (by omega)]
    exact hyes (eq_endG hl fun m hm => hj m (by omega))
  | succ d ih =>
    intro j e hj
    refine Ev.st (fun k => by rw [regletref04_Same.l2]) (Ev.dp (by omega) ?_)
    refine Ev.at_ (by omega) (by omega) ?_
    refine Ev.at_ (by omega) (by omega) ?_
    rw [rng_dec]
    refine Ev.xc (fun hne => Ev.some_ (hno fun e => hne (by rw [e])).symm) fun heq => ?_
    rw [nx j (by omega)]
    exact ih (j + 1) (by omega) (step_pre hj heq)
theorem refSame04_ev (a b : List Styl) (ha : FewS a) : Ev (fun k => regletref04_Same.f k a b) (isTrue (a = b)) := by
  refine Ev.congr (fun k => by rw [regletref04_Same.f]) ?_
  refine Ev.xc (fun h => Ev.some_ (isTrue_no fun e => h (by rw [e])).symm) fun h => ?_
  have hlen : a.length = b.length := by omega
  have hal := ha.1
  have loop : ∀ d i : Nat, i + d = a.length → (∀ j : Nat, j < i → rd a (j : Int) = rd b (j : Int)) → Ev (fun k => regletref04_Same.l0 k a b (i : Int)) (isTrue (a = b)) := by
    intro d
    induction d with
    | zero => exact fun i e hj => Ev.st (fun k => by rw [regletref04_Same.l0]) (Ev.dn (by omega) (Ev.some_ (isTrue_yes (eq_endG hlen fun j hj' => hj j (by omega))).symm))
    | succ d ih =>
      intro i e hj
      have hno : rd a (i : Int) ≠ rd b (i : Int) → (isTrue (a = b)) = false := fun hne => ne_G hne
      refine Ev.st (fun k => by rw [regletref04_Same.l0]) (Ev.dp (by omega) ?_)
      refine Ev.at_ (by omega) (by omega) ?_
      refine Ev.at_ (by omega) (by omega) ?_
      have hx := ha.2 _ (rd_in a (i := i) (by omega))
      refine Ev.xc (fun hne => Ev.some_ (hno fun e => hne (by rw [e])).symm) fun e1 => ?_
      refine Ev.xc (fun hne => Ev.some_ (hno fun e => hne (by rw [e])).symm) fun e2 => ?_
      refine Ev.xc (fun hne => Ev.some_ (hno fun e => hne (by rw [e])).symm) fun e3 => ?_
      refine Ev.xc (fun hne => Ev.some_ (hno fun e => hne (by rw [e])).symm) fun e4 => ?_
      refine Ev.xc (fun hne => Ev.some_ (hno fun e => hne (by rw [e])).symm) fun e5 => ?_
      refine Ev.xc (fun hne => Ev.some_ (hno fun e => hne (by rw [e])).symm) fun e6 => ?_
      refine Ev.xc (fun hne => Ev.some_ (hno fun e => hne (by rw [e])).symm) fun e7 => ?_
      refine Ev.xc (fun hne => Ev.some_ (hno fun e => hne (by rw [e])).symm) fun e8 => ?_
      refine Ev.st (fun k => by rw [regletref04_Same.j1]) ?_
      exact refSame_l2 a b i (by omega) _ _ hx (by omega) _ hno (fun e9 => ih (i + 1) (by omega) (step_pre hj (sty_eq e1 e2 e3 e4 e5 e6 e9 e7))) _ 0 (Nat.zero_add _) fun m hm => absurd hm (by omega)
  exact loop a.length 0 (by omega) fun j hj => by omega
theorem rd_ixS {α : Type} [Inhabited α] {xs : List α} {i : Int} (h0 : 0 ≤ i) (h : i < xs.length) : xs[i.toNat]? = some (rd xs i) := by
  unfold rd; rw [List.getD_eq_getElem?_getD, List.getElem?_eq_getElem (show i.toNat < xs.length by omega)]; rfl
end Go.Proofs.Ytepeoiimdefnpaa.Vm
