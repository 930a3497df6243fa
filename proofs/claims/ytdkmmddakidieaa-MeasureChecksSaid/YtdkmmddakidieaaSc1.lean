/- The reference's numbers as digits: what its functions come to. -/
import Derived.Test.YtdkmmddakidieaaPx2
import Derived.Test.YtdkmmddakidieaaPx6
import Derived.Test.YtdkmmddakidieaaPx14
import Derived.Test.YtdkmmddakidieaaPx15
import Derived.Test.YtdkmmddakidieaaPx16
import Derived.Test.YtdkmmddakidieaaPx18
import Derived.Test.YtdkmmddakidieaaEvKit
import Derived.Test.YtdkmmddakidieaaBig
import Derived.Test.YtdkmmddakidieaaBadM
namespace Go.Proofs.Ytdkmmddakidieaa.P
open Go.RowKit Go.Proofs.YtdkmmddakidieaaW.PrintWords Go.Proofs.YtdkmmddakidieaaW.PrintLast Go.Proofs.YtdkmmddakidieaaW.PrintMore
open Go.Proofs.Ytdkmmddakidieaa.Big
open Go.Proofs.Ytdkmmddakidieaa.BadM (clamp clamp_le clamp_ge clamp_id clamp_clamp)

theorem scaled_Clamp_eq (a : Int) : scaled_Clamp.f a = some (clamp a) := by
  unfold scaled_Clamp.f clamp
  congr 1
  unfold mx mn
  repeat' split
  all_goals omega
theorem ref_Clamp_eq (a : Int) : regletref01_Clamp.f a = some (clamp a) := by
  unfold regletref01_Clamp.f clamp
  repeat' split
  all_goals (congr 1; omega)

/-- digits of the number v, none in vain, n at most -/
def Num (l : List Int) (v : Int) (n : Nat) : Prop := Canon l ∧ ws 1000 l = v ∧ l.length ≤ n
theorem Num.mono {l : List Int} {v : Int} {n m : Nat} (h : Num l v n) (k : n ≤ m) : Num l v m := ⟨h.1, h.2.1, Nat.le_trans h.2.2 k⟩
theorem Num.nonneg {l : List Int} {v : Int} {n : Nat} (h : Num l v n) : 0 ≤ v := by rw [← h.2.1]; exact (ws_lt h.1.1).1

theorem bare_loop {l : List Int} (hd : Dig l) (hn : l.length ≤ 1000) {v : Int} : ∀ n : Nat, n ≤ l.length → ws 1000 (l.take n) = v → ∃ c, Num c v n ∧ Ev (fun k => regletref01_bare.l0 k l (n : Int)) c := by
  intro n
  induction n with
  | zero =>
    intro _ hv
    refine ⟨[], ⟨⟨fun d h => by simp at h, fun h => absurd rfl h⟩, by simpa [ws] using hv, by simp⟩, regletref01_bare.l0.ev (Ev.ifn (by omega) (Ev.bind (Ev.now _) (Ev.ifp (by omega) (Ev.ifp (by omega) (Ev.ifp (by simp) (Ev.some_ (by simp)))))))⟩
  | succ n ih =>
    intro hle hv
    have hw : Hid (wrap64 (((n + 1 : Nat) : Int) - 1) = (n : Int)) := by show _ = _; rw [w64 (by omega) (by omega)]; omega
    by_cases hz : l.getD n 0 = 0
    · obtain ⟨c, hc, he⟩ := ih (by omega) (ws_take_zero (by omega) hz hv)
      refine ⟨c, hc.mono (by omega), regletref01_bare.l0.ev (Ev.ifp (by omega) ?_)⟩
      rw [hw.out]
      exact Ev.ifp (by omega) (Ev.ifp (by omega) (Ev.ifp (by rw [rd_nat]; exact hz) he))
    · refine ⟨l.take (n + 1), ⟨⟨dig_take hd _, fun _ => ?_⟩, hv, by simp; omega⟩, regletref01_bare.l0.ev (Ev.ifp (by omega) ?_)⟩
      · rw [List.length_take, Nat.min_eq_left (by omega), Nat.add_sub_cancel]
        rw [List.getD_eq_getElem?_getD, List.getElem?_take, if_pos (by omega), ← List.getD_eq_getElem?_getD]
        exact hz
      · rw [hw.out]
        refine Ev.ifp (by omega) (Ev.ifp (by omega) (Ev.ifn (by rw [rd_nat]; exact hz) (Ev.bind (Ev.now _) (Ev.ifp (by omega) (Ev.ifp (by omega) (Ev.ifp ?_ (Ev.some_ ?_)))))))
        · simp; omega
        · simp
theorem bare_ev {l : List Int} (hd : Dig l) (hn : l.length ≤ 1000) : ∃ c, Num c (ws 1000 l) l.length ∧ Ev (fun k => regletref01_bare.f k l) c :=
  bare_loop hd hn l.length (Nat.le_refl _) (by rw [List.take_length])

/-! ### Of -/
theorem of_loop {v : Int} : ∀ (d : Nat) (a : Int) (acc : List Int), 0 ≤ a → a < 1000 ^ d → acc.length + d ≤ 7 → Dig acc → ws 1000 acc + 1000 ^ acc.length * a = v → (a = 0 → acc ≠ [] → acc.getD (acc.length - 1) 0 ≠ 0) →
    ∃ c, Num c v 7 ∧ Ev (fun k => regletref01_Of.l0 k a acc) c := by
  intro d
  induction d with
  | zero =>
    intro a acc h0 h1 hl hd hv hc
    have ha : a = 0 := by simp at h1; omega
    subst ha
    exact ⟨acc, ⟨⟨hd, hc rfl⟩, by simpa using hv, by omega⟩, regletref01_Of.l0.ev (Ev.ifn (by omega) (Ev.now _))⟩
  | succ d ih =>
    intro a acc h0 h1 hl hd hv hc
    by_cases ha : a = 0
    · subst ha
      exact ⟨acc, ⟨⟨hd, hc rfl⟩, by simpa using hv, by omega⟩, regletref01_Of.l0.ev (Ev.ifn (by omega) (Ev.now _))⟩
    · have hb : a < 1000000000000000000000 := by
        have : (1000 : Int) ^ (d + 1) ≤ 1000 ^ 7 := pow_mono (by omega)
        simp at this; omega
      rw [Int.pow_succ] at h1
      obtain ⟨c, hc', he⟩ := ih (a / 1000) (acc ++ [a % 1000]) (by omega) (by omega) (by simp; omega)
        (by
          intro x hx
          rcases List.mem_append.1 hx with h | h
          · exact hd x h
          · have : x = a % 1000 := by simpa using h
            omega)
        (by
          rw [ws_append, List.length_append, List.length_singleton, Int.pow_succ]
          simp only [ws, Int.mul_zero, Int.add_zero]
          rw [← hv, Int.add_assoc, Int.mul_assoc, ← Int.mul_add, show a % 1000 + 1000 * (a / 1000) = a by omega])
        (by
          intro hz _
          rw [List.length_append, List.length_singleton, Nat.add_sub_cancel, List.getD_eq_getElem?_getD, List.getElem?_append_right (Nat.le_refl _)]
          simp
          omega)
      refine ⟨c, hc', regletref01_Of.l0.ev (Ev.ifp (by omega) (Ev.ifp (by omega) ?_))⟩
      rw [Int.tdiv_eq_ediv_of_nonneg h0, Int.tmod_eq_emod_of_nonneg h0, w64 (x := a / 1000) (by omega) (by omega)]
      exact he
/-- without its sign, as far as it goes -/
def absC (a : Int) : Int := if clamp a < 0 then -clamp a else clamp a
theorem absC_range (a : Int) : 0 ≤ absC a ∧ absC a ≤ 1152921504606846976 := by
  have := clamp_le a
  have := clamp_ge a
  unfold absC
  split <;> omega
theorem of_nonneg {a : Int} (h0 : 0 ≤ a) (h1 : a ≤ 1152921504606846976) : ∃ c, Num c a 7 ∧ Ev (fun k => regletref01_Of.l0 k a []) c :=
  of_loop 7 a [] h0 (by simp; omega) (by simp) (fun x h => by simp at h) (by simp [ws]) (fun _ h => absurd rfl h)
theorem of_ev (a : Int) : ∃ c, Num c (absC a) 7 ∧ Ev (fun k => regletref01_Of.f k a) c := by
  have h1 := clamp_le a
  have h2 := clamp_ge a
  obtain ⟨c, hc, he⟩ := of_nonneg (absC_range a).1 (absC_range a).2
  refine ⟨c, hc, Ev.bind (Ev.opt (ref_Clamp_eq a)) ?_⟩
  unfold absC at he
  by_cases h : clamp a < 0
  · rw [if_pos h] at he
    refine Ev.ifp h (regletref01_Of.j0.ev ?_)
    rw [w64 (x := -clamp a) (by omega) (by omega)]
    exact he
  · rw [if_neg h] at he
    exact Ev.ifn h (regletref01_Of.j0.ev he)

/-! ### Times -/
theorem mul_dig {x y : Int} (hx : 0 ≤ x ∧ x ≤ 999) (hy : 0 ≤ y ∧ y ≤ 999) : 0 ≤ x * y ∧ x * y ≤ 998001 :=
  ⟨Int.mul_nonneg hx.1 hy.1, by have := Int.mul_le_mul hx.2 hy.2 hy.1 (by omega); omega⟩
/-- the carry to the end -/
theorem times_carry {o : List Int} {v : Int} {L : Nat} (hL : o.length = L + 1) (hL2 : L ≤ 900) (hv : v < 1000 ^ L) : ∀ (d : Nat) (p : Nat) (o : List Int), p + d = L → o.length = L + 1 → (∀ x ∈ o, 0 ≤ x) → ws 1 o ≤ 1152921504606846976 → ws 1000 o = v → (∀ j, j < p → o.getD j 0 ≤ 999) →
    ∃ c, Num c v (L + 1) ∧ Ev (fun k => regletref01_Times.l2 k o (p : Int)) c := by
  intro d
  induction d with
  | zero =>
    intro p o hp ho hnn hs hval hlow
    have hp : p = L := by omega
    subst hp
    have htop := top_zero hnn (p := p) (by omega) (by omega)
    have hd : Dig o := by
      intro x hx
      obtain ⟨j, hj, rfl⟩ := List.mem_iff_getElem.1 hx
      have e : o.getD j 0 = o[j] := by simp [List.getD_eq_getElem?_getD, hj]
      by_cases hjp : j < p
      · have := hlow j hjp; have := hnn _ hx; omega
      · have : j = p := by omega
        subst this
        omega
    obtain ⟨c, hc, he⟩ := bare_ev hd (by omega)
    rw [hval, ho] at hc
    refine ⟨c, hc, regletref01_Times.l2.ev (Ev.ifn ?_ (Ev.bind he (Ev.now _)))⟩
    rw [w64 (x := (p : Int) + 1) (by omega) (by omega)]
    omega
  | succ d ih =>
    intro p o hp ho hnn hs hval hlow
    have hb := le_sum hnn p
    have hb1 := le_sum hnn (p + 1)
    have h0 := getD_mem_nonneg hnn p
    have h1 := getD_mem_nonneg hnn (p + 1)
    obtain ⟨c, hc, he⟩ := ih (p + 1) (carry o p) (by omega) (by rw [carry_length]; exact ho) (carry_nonneg hnn p) (Int.le_trans (carry_sum hnn (by omega)) hs) (by rw [carry_value (by omega)]; exact hval) (carry_below (by omega) hlow)
    have hp1 : Hid (wrap64 ((p : Int) + 1) = ((p + 1 : Nat) : Int)) := by show _ = _; rw [w64 (by omega) (by omega)]; omega
    refine ⟨c, hc, regletref01_Times.l2.ev ?_⟩
    rw [hp1.out, rd_nat, rd_nat]
    clear hp1
    refine Ev.ifp (by omega) (Ev.ifp (by omega) (Ev.ifp (by omega) (Ev.ifp (by omega) (Ev.bind (Ev.now _) ?_))))
    rw [rd_nat, Int.toNat_natCast, Int.toNat_natCast, Big.getD_set_ne _ _ _ _ _ (show p + 1 ≠ p by omega), Int.tdiv_eq_ediv_of_nonneg h0, Int.tmod_eq_emod_of_nonneg h0, w64 (x := o.getD p 0 / 1000) (by omega) (by omega), w64 (x := o.getD (p + 1) 0 + o.getD p 0 / 1000) (by omega) (by omega)]
    exact he
theorem rd_getD (l : List Int) (i : Nat) : rd l (i : Int) = l.getD i 0 := rd_nat l i
theorem ws_take_succ {l : List Int} {i : Nat} (h : i < l.length) : ws 1000 (l.take (i + 1)) = ws 1000 (l.take i) + 1000 ^ i * l.getD i 0 := by
  rw [List.take_succ_eq_append_getElem h, ws_append, List.length_take, Nat.min_eq_left (by omega)]
  simp [ws, List.getD_eq_getElem?_getD, h]
theorem times_ev {a b : List Int} {va vb : Int} {n m : Nat} (ha : Num a va n) (hb : Num b vb m) (hnm : n + m ≤ 60) : ∃ c, Num c (va * vb) (n + m + 1) ∧ Ev (fun k => regletref01_Times.f k a b) c := by
  obtain ⟨⟨da, _⟩, rfl, la⟩ := ha
  obtain ⟨⟨db, _⟩, rfl, lb⟩ := hb
  have wa := ws_lt da
  have wb := ws_lt db
  have hbig : ws 1000 a * ws 1000 b < 1000 ^ (a.length + b.length) := by
    rw [Int.pow_add]
    by_cases hz : ws 1000 b = 0
    · rw [hz, Int.mul_zero]; exact Int.mul_pos (pow_pos _) (pow_pos _)
    · have h1 : ws 1000 a * ws 1000 b < 1000 ^ a.length * ws 1000 b := Int.mul_lt_mul_of_pos_right wa.2 (by omega)
      have h2 : 1000 ^ a.length * ws 1000 b ≤ 1000 ^ a.length * 1000 ^ b.length := Int.mul_le_mul_of_nonneg_left (by omega) (Int.le_of_lt (pow_pos _))
      omega
  -- the rows
  have rows : ∀ (d : Nat) (i : Nat) (o : List Int), i + d = a.length → o.length = a.length + b.length + 1 → (∀ x ∈ o, 0 ≤ x) → ws 1 o ≤ 59880060 * i → ws 1000 o = ws 1000 (a.take i) * ws 1000 b →
      ∃ c, Num c (ws 1000 a * ws 1000 b) (a.length + b.length + 1) ∧ Ev (fun k => regletref01_Times.l0 k a b o (i : Int)) c := by
    intro d
    induction d with
    | zero =>
      intro i o hi ho hnn hs hv
      have : i = a.length := by omega
      subst this
      rw [List.take_length] at hv
      obtain ⟨c, hc, he⟩ := times_carry (o := o) (L := a.length + b.length) (v := ws 1000 a * ws 1000 b) ho (by omega) hbig (a.length + b.length) 0 o (by omega) ho hnn (by omega) hv (fun j h => by omega)
      exact ⟨c, hc, regletref01_Times.l0.ev (Ev.ifn (by omega) he)⟩
    | succ d ih =>
      intro i o hi ho hnn hs hv
      have ai := dig_getD da i
      have inner : ∀ (e : Nat) (j : Nat) (o : List Int), j + e = b.length → o.length = a.length + b.length + 1 → (∀ x ∈ o, 0 ≤ x) → ws 1 o ≤ 59880060 * i + 998001 * j → ws 1000 o = ws 1000 (a.take i) * ws 1000 b + a.getD i 0 * 1000 ^ i * ws 1000 (b.take j) →
          ∃ c, Num c (ws 1000 a * ws 1000 b) (a.length + b.length + 1) ∧ Ev (fun k => regletref01_Times.l1 k a b o (i : Int) (j : Int)) c := by
        intro e
        induction e with
        | zero =>
          intro j o hj ho hnn hs hv
          have : j = b.length := by omega
          subst this
          obtain ⟨c, hc, he⟩ := ih (i + 1) o (by omega) ho hnn (by omega) (by
            rw [hv, List.take_length, ws_take_succ (by omega), Int.add_mul, Int.mul_comm (a.getD i 0)])
          refine ⟨c, hc, regletref01_Times.l1.ev (Ev.ifn (by omega) ?_)⟩
          rw [w64 (x := (i : Int) + 1) (by omega) (by omega)]
          exact he
        | succ e ih2 =>
          intro j o hj ho hnn hs hv
          have bj := dig_getD db j
          have hm := mul_dig ai bj
          have hp : i + j + 1 < o.length := by omega
          have hb0 := le_sum hnn (i + j)
          have hb1 := le_sum hnn (i + j + 1)
          have h0 := getD_mem_nonneg hnn (i + j)
          have h1 := getD_mem_nonneg hnn (i + j + 1)
          have hms := mulStep_sum hnn hp hm.1
          have hmv := mulStep_value hp (a.getD i 0 * b.getD j 0)
          obtain ⟨c, hc, he⟩ := ih2 (j + 1) (mulStep o (i + j) (a.getD i 0 * b.getD j 0)) (by omega) (by rw [mulStep_length]; exact ho) (mulStep_nonneg hnn _ hm.1) (by omega) (by
            rw [hmv, hv, ws_take_succ (show j < b.length by omega), Int.mul_add, Int.pow_add]
            have : a.getD i 0 * b.getD j 0 * (1000 ^ i * 1000 ^ j) = a.getD i 0 * 1000 ^ i * (1000 ^ j * b.getD j 0) := by
              simp only [Int.mul_assoc, Int.mul_comm, Int.mul_left_comm]
            omega)
          refine ⟨c, hc, regletref01_Times.l1.ev ?_⟩
          have e0 : Hid (wrap64 ((i : Int) + (j : Int)) = ((i + j : Nat) : Int)) := by show _ = _; rw [w64 (by omega) (by omega)]; omega
          have e1 : Hid (wrap64 (((i + j : Nat) : Int) + 1) = ((i + j + 1 : Nat) : Int)) := by show _ = _; rw [w64 (by omega) (by omega)]; omega
          have e2 : Hid (wrap64 ((j : Int) + 1) = ((j + 1 : Nat) : Int)) := by show _ = _; rw [w64 (by omega) (by omega)]; omega
          rw [e0.out, e1.out, e2.out, rd_nat, rd_nat, rd_nat]
          clear e0 e1 e2
          generalize a.getD i 0 = x at *
          generalize b.getD j 0 = y at *
          generalize x * y = q at *
          refine Ev.ifp (by omega) (Ev.ifp (by omega) (Ev.ifp (by omega) (Ev.ifp (by omega) (Ev.ifp (by omega) (Ev.ifp (by omega) (Ev.bind (Ev.now _) (Ev.ifp (by omega) (Ev.ifp ?_ (Ev.bind (Ev.now _) ?_)))))))))
          · omega
          rw [rd_nat, rd_nat, rd_nat, Int.toNat_natCast, Int.toNat_natCast, Big.getD_set_ne _ _ _ _ _ (show i + j ≠ i + j + 1 by omega), Big.getD_set_eq _ _ _ _ (show i + j < o.length by omega), Big.getD_set_ne _ _ _ _ _ (show i + j + 1 ≠ i + j by omega), Big.getD_set_eq _ _ _ _ (show i + j < o.length by omega),
            w64 (x := q) (by omega) (by omega), w64 (x := o.getD (i + j) 0 + q) (by omega) (by omega), Int.tdiv_eq_ediv_of_nonneg (by omega), Int.tmod_eq_emod_of_nonneg (by omega), w64 (x := (o.getD (i + j) 0 + q) / 1000) (by omega) (by omega), w64 (x := o.getD (i + j + 1) 0 + (o.getD (i + j) 0 + q) / 1000) (by omega) (by omega)]
          exact he
      obtain ⟨c, hc, he⟩ := inner b.length 0 o (by omega) ho hnn (by omega) (by rw [hv]; simp [ws])
      exact ⟨c, hc, regletref01_Times.l0.ev (Ev.ifp (by omega) he)⟩
  have e : Hid (wrap64 (wrap64 ((a.length : Int) + (b.length : Int)) + 1) = ((a.length + b.length + 1 : Nat) : Int)) := by
    show _ = _
    rw [w64 (x := (a.length : Int) + (b.length : Int)) (by omega) (by omega), w64 (by omega) (by omega)]; omega
  obtain ⟨c, hc, he⟩ := rows a.length 0 (List.replicate (a.length + b.length + 1) 0) (by omega) (by simp) (fun x hx => by rw [(List.mem_replicate.1 hx).2]; omega) (by rw [ws_replicate_zero]; omega) (by rw [ws_replicate_zero]; simp [ws])
  refine ⟨c, hc.mono (by omega), ?_⟩
  unfold regletref01_Times.f
  rw [e.out, Int.toNat_natCast]
  exact Ev.ifp (by omega) (Ev.ifp (by omega) he)

/-! ### Compare -/
/-- how two numbers stand -/
def sgn (a b : Int) : Int := if a < b then -1 else if a > b then 1 else 0
theorem compare_loop {a b : List Int} (ha : Dig a) (hb : Dig b) (hl : a.length = b.length) (hn : a.length ≤ 1000) : ∀ n : Nat, n ≤ a.length → a.drop n = b.drop n →
    Ev (fun k => regletref01_Compare.l0 k a b ((n : Int) - 1)) (sgn (ws 1000 a) (ws 1000 b)) := by
  intro n
  induction n with
  | zero =>
    intro _ hd
    have : a = b := by simpa using hd
    subst this
    exact regletref01_Compare.l0.ev (Ev.ifn (by omega) (Ev.some_ (by simp [sgn])))
  | succ n ih =>
    intro hle hd
    have e : ((n + 1 : Nat) : Int) - 1 = (n : Int) := by omega
    rw [e]
    refine regletref01_Compare.l0.ev (Ev.ifp (by omega) (Ev.ifp (by omega) (Ev.ifp (by omega) (Ev.ifp (by omega) ?_))))
    rw [rd_nat, rd_nat]
    refine Ev.ifc (fun c => Ev.some_ ?_) (fun c1 => Ev.ifc (fun c => Ev.some_ ?_) (fun c2 => ?_))
    · have := lt_of_place ha hb hl (by omega) hd c
      unfold sgn; rw [if_pos this]
    · have := lt_of_place hb ha hl.symm (by omega) hd.symm c
      unfold sgn; rw [if_neg (by omega), if_pos this]
    · rw [w64 (x := (n : Int) - 1) (by omega) (by omega)]
      exact ih (by omega) (drop_eq_succ (by omega) hl hd (by omega))
theorem compare_ev {a b : List Int} {va vb : Int} {n m : Nat} (ha : Num a va n) (hb : Num b vb m) (hn : n ≤ 1000) (hm : m ≤ 1000) : Ev (fun k => regletref01_Compare.f k a b) (sgn va vb) := by
  obtain ⟨ca, va', la⟩ := ha
  obtain ⟨cb, vb', lb⟩ := hb
  obtain ⟨c, ⟨c1, c2, c3⟩, c4⟩ := bare_ev ca.1 (by omega)
  obtain ⟨d, ⟨d1, d2, d3⟩, d4⟩ := bare_ev cb.1 (by omega)
  rw [va'] at c2
  rw [vb'] at d2
  subst c2
  subst d2
  refine Ev.bind c4 (Ev.bind d4 (Ev.ifc (fun h => ?_) (fun h => Ev.ifc (fun h1 => Ev.some_ ?_) (fun h1 => Ev.some_ ?_))))
  · rw [w64 (x := (c.length : Int) - 1) (by omega) (by omega)]
    exact compare_loop c1.1 d1.1 (by omega) (by omega) c.length (Nat.le_refl _) (by rw [List.drop_length, show c.length = d.length by omega, List.drop_length])
  · have := canon_shorter c1 d1 (by omega)
    unfold sgn; rw [if_pos this]
  · have := canon_shorter d1 c1 (by omega)
    unfold sgn; rw [if_neg (by omega), if_pos this]

/-! ### Quotient -/
end Go.Proofs.Ytdkmmddakidieaa.P
