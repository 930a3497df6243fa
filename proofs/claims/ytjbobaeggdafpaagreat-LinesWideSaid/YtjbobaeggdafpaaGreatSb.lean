/- The reference's numbers as digits: what its functions come to; its badness. -/
import Derived.Test.YtjbobaeggdafpaaGreatSa
import Derived.Test.YtjbobaeggdafpaaGreatBig
namespace Go.Proofs.YtjbobaeggdafpaaGreat.Vm
open Go
open _root_.Go.RowKit (wrap64)
open Go.Proofs.YtjbobaeggdafpaaGreat.Big
open Go.Proofs.YtjbobaeggdafpaaGreat.BadM (clamp clamp_le clamp_ge clamp_id clamp_clamp cube cube_pos bad)
theorem ref_Clamp_ev (a : Int) : Ev (fun k => regletref01_Clamp.f k a) (clamp a) := by
 refine Ev.dc (fun c => Ev.some_ ?_) (fun c => Ev.dc (fun c => Ev.some_ ?_) (fun c => Ev.some_ ?_))
 all_goals (unfold clamp; omega)
def Num (l : List Int) (v : Int) (n : Nat) : Prop := Canon l ∧ ws 1000 l = v ∧ l.length ≤ n
theorem Num.mono {l : List Int} {v : Int} {n m : Nat} (h : Num l v n) (k : n ≤ m) : Num l v m := ⟨h.1, h.2.1, Nat.le_trans h.2.2 k⟩
theorem Num.nonneg {l : List Int} {v : Int} {n : Nat} (h : Num l v n) : 0 ≤ v := by rw [← h.2.1]; exact (ws_lt h.1.1).1
theorem bare_end {l : List Int} (hn : l.length ≤ 1000) (n : Nat) (h : n ≤ l.length) : Ev (fun k => regletref01_bare.j2 k l (n : Int)) (l.take n) := by
 refine Ev.st (fun k => by rw [regletref01_bare.j2]) (Ev.ifp ?_ (Ev.ifp ?_ (Ev.some_ ?_)))
 · omega
 · simp; omega
 · simp
theorem bare_loop {l : List Int} (hd : Dig l) (hn : l.length ≤ 1000) {v : Int} : ∀ n : Nat, n ≤ l.length → ws 1000 (l.take n) = v → ∃ c, Num c v n ∧ Ev (fun k => regletref01_bare.l0 k l (n : Int)) c := by
 intro n
 induction n with
 | zero =>
  intro _ hv
  exact ⟨[], ⟨⟨fun d h => by simp at h, fun h => absurd rfl h⟩, by simpa [ws] using hv, by simp⟩, Ev.st (fun k => by rw [regletref01_bare.l0]) (Ev.dn (by omega) (bare_end hn 0 (by omega)))⟩
 | succ n ih =>
  intro hle hv
  have hw : wrap64 (((n + 1 : Nat) : Int) - 1) = (n : Int) := by rw [w64 (by omega) (by omega)]; omega
  by_cases hz : l.getD n 0 = 0
  · obtain ⟨c, hc, he⟩ := ih (by omega) (ws_take_zero (by omega) hz hv)
    refine ⟨c, hc.mono (by omega), Ev.st (fun k => by rw [regletref01_bare.l0]) (Ev.dp (by omega) ?_)⟩
    rw [hw]
    clear hw
    refine Ev.at_ (by omega) (by omega) ?_
    refine Ev.dp (by rw [rdn]; exact hz) (Ev.st (fun k => by rw [regletref01_bare.j1]) ?_)
    rw [show wrap64 (((n + 1 : Nat) : Int) - 1) = (n : Int) by rw [w64 (by omega) (by omega)]; omega]
    exact he
  · refine ⟨l.take (n + 1), ⟨⟨dig_take hd _, fun _ => ?_⟩, hv, by simp; omega⟩, Ev.st (fun k => by rw [regletref01_bare.l0]) (Ev.dp (by omega) ?_)⟩
    · rw [List.length_take, Nat.min_eq_left (by omega), Nat.add_sub_cancel]
      rw [List.getD_eq_getElem?_getD, List.getElem?_take, if_pos (by omega), ← List.getD_eq_getElem?_getD]
      exact hz
    · rw [hw]
      clear hw
      refine Ev.at_ (by omega) (by omega) ?_
      exact Ev.dn (by rw [rdn]; exact hz) (bare_end hn (n + 1) (by omega))
theorem bare_ev {l : List Int} (hd : Dig l) (hn : l.length ≤ 1000) : ∃ c, Num c (ws 1000 l) l.length ∧ Ev (fun k => regletref01_bare.f k l) c :=
 bare_loop hd hn l.length (Nat.le_refl _) (by rw [List.take_length])
theorem of_loop {v : Int} : ∀ (d : Nat) (a : Int) (acc : List Int), 0 ≤ a → a < 1000 ^ d → acc.length + d ≤ 7 → Dig acc → ws 1000 acc + 1000 ^ acc.length * a = v → (a = 0 → acc ≠ [] → acc.getD (acc.length - 1) 0 ≠ 0) →
 ∃ c, Num c v 7 ∧ Ev (fun k => regletref01_Of.l1 k a acc) c := by
 intro d
 induction d with
 | zero =>
  intro a acc h0 h1 hl hd hv hc
  have ha : a = 0 := by simp at h1; omega
  subst ha
  exact ⟨acc, ⟨⟨hd, hc rfl⟩, by simpa using hv, by omega⟩, Ev.st (fun k => by rw [regletref01_Of.l1]) (Ev.dn (by omega) (Ev.now _))⟩
 | succ d ih =>
  intro a acc h0 h1 hl hd hv hc
  by_cases ha : a = 0
  · subst ha
    exact ⟨acc, ⟨⟨hd, hc rfl⟩, by simpa using hv, by omega⟩, Ev.st (fun k => by rw [regletref01_Of.l1]) (Ev.dn (by omega) (Ev.now _))⟩
  · have hb : a < 1000000000000000000000 := by
     have : (1000 : Int) ^ (d + 1) ≤ 1000 ^ 7 := pow_mono (by omega)
     simp at this; omega
    rw [Int.pow_succ] at h1
    obtain ⟨c, hc', he⟩ := ih (a / 1000) (acc ++ [a % 1000]) (by omega) (by omega) (by simp; omega)
     (by
      intro x hx
      rcases List.mem_append.1 hx with h | h
      · exact hd x h
      · have : x = a % 1000 := by simpa using h
        omega)
     (by
      rw [ws_append, List.length_append, List.length_singleton, Int.pow_succ]
      simp only [ws, Int.mul_zero, Int.add_zero]
      rw [← hv, Int.add_assoc, Int.mul_assoc, ← Int.mul_add, show a % 1000 + 1000 * (a / 1000) = a by omega])
     (by
      intro hz _
      rw [List.length_append, List.length_singleton, Nat.add_sub_cancel, List.getD_eq_getElem?_getD, List.getElem?_append_right (Nat.le_refl _)]
      simp
      omega)
    refine ⟨c, hc', Ev.st (fun k => by rw [regletref01_Of.l1]) (Ev.dp (by omega) (Ev.ifp (by simp; omega) ?_))⟩
    rw [Int.tdiv_eq_ediv_of_nonneg h0, Int.tmod_eq_emod_of_nonneg h0, w64 (x := a / 1000) (by omega) (by omega)]
    exact he
def absC (a : Int) : Int := if clamp a < 0 then -clamp a else clamp a
theorem absC_range (a : Int) : 0 ≤ absC a ∧ absC a ≤ 1152921504606846976 := by
 have := clamp_le a
 have := clamp_ge a
 unfold absC
 split <;> omega
theorem absC_pos {a : Int} (h : 0 ≤ a) (h' : a ≤ 1152921504606846976) : absC a = a := by unfold absC; rw [clamp_id (by omega) h', if_neg (by omega)]
theorem of_nonneg {a : Int} (h0 : 0 ≤ a) (h1 : a ≤ 1152921504606846976) : ∃ c, Num c a 7 ∧ Ev (fun k => regletref01_Of.l1 k a []) c :=
 of_loop 7 a [] h0 (by simp; omega) (by simp) (fun x h => by simp at h) (by simp [ws]) (fun _ h => absurd rfl h)
theorem of_ev (a : Int) : ∃ c, Num c (absC a) 7 ∧ Ev (fun k => regletref01_Of.f k a) c := by
 have h1 := clamp_le a
 have h2 := clamp_ge a
 obtain ⟨c, hc, he⟩ := of_nonneg (absC_range a).1 (absC_range a).2
 refine ⟨c, hc, Ev.bind (ref_Clamp_ev a) ?_⟩
 unfold absC at he
 by_cases h : clamp a < 0
 · rw [if_pos h] at he
   refine Ev.dp h (Ev.st (fun k => by rw [regletref01_Of.j0]) ?_)
   rw [w64 (x := -clamp a) (by omega) (by omega)]
   exact he
 · rw [if_neg h] at he
   exact Ev.dn h (Ev.st (fun k => by rw [regletref01_Of.j0]) he)
theorem mul_dig {x y : Int} (hx : 0 ≤ x ∧ x ≤ 999) (hy : 0 ≤ y ∧ y ≤ 999) : 0 ≤ x * y ∧ x * y ≤ 998001 :=
 ⟨Int.mul_nonneg hx.1 hy.1, by have := Int.mul_le_mul hx.2 hy.2 hy.1 (by omega); omega⟩
theorem times_carry {v : Int} {L : Nat} (hL2 : L ≤ 900) (hv : v < 1000 ^ L) : ∀ (d : Nat) (p : Nat) (o : List Int), p + d = L → o.length = L + 1 → (∀ x ∈ o, 0 ≤ x) → ws 1 o ≤ 1152921504606846976 → ws 1000 o = v → (∀ j, j < p → o.getD j 0 ≤ 999) →
 ∃ c, Num c v (L + 1) ∧ Ev (fun k => regletref01_Times.l2 k o (p : Int)) c := by
 intro d
 induction d with
 | zero =>
  intro p o hp ho hnn hs hval hlow
  have hp : p = L := by omega
  subst hp
  have htop := top_zero hnn (p := p) (by omega) (by omega)
  have hd : Dig o := by
   intro x hx
   obtain ⟨j, hj, rfl⟩ := List.mem_iff_getElem.1 hx
   have e : o.getD j 0 = o[j] := by simp [List.getD_eq_getElem?_getD, hj]
   by_cases hjp : j < p
   · have := hlow j hjp; have := hnn _ hx; omega
   · have : j = p := by omega
     subst this
     omega
  obtain ⟨c, hc, he⟩ := bare_ev hd (by omega)
  rw [hval, ho] at hc
  refine ⟨c, hc, Ev.st (fun k => by rw [regletref01_Times.l2]) ?_⟩
  rw [w64 (x := (p : Int) + 1) (by omega) (by omega)]
  exact Ev.dn (by omega) (Ev.bind he (Ev.now _))
 | succ d ih =>
  intro p o hp ho hnn hs hval hlow
  have hb := le_sum hnn p
  have hb1 := le_sum hnn (p + 1)
  have h0 := getD_mem_nonneg hnn p
  have h1 := getD_mem_nonneg hnn (p + 1)
  obtain ⟨c, hc, he⟩ := ih (p + 1) (carry o p) (by omega) (by rw [carry_length]; exact ho) (carry_nonneg hnn p) (Int.le_trans (carry_sum hnn (by omega)) hs) (by rw [carry_value (by omega)]; exact hval) (carry_below (by omega) hlow)
  refine ⟨c, hc, Ev.st (fun k => by rw [regletref01_Times.l2]) ?_⟩
  rw [nx p (by omega)]
  refine Ev.dp (by omega) (Ev.gx (by omega) (by omega) ?_)
  refine Ev.gx (by omega) (by omega) ?_
  refine Ev.gx (by omega) (by omega) ?_
  rw [rdn, rdn, Int.toNat_natCast, Int.toNat_natCast, Int.tdiv_eq_ediv_of_nonneg h0, w64 (x := o.getD p 0 / 1000) (by omega) (by omega), w64 (x := o.getD (p + 1) 0 + o.getD p 0 / 1000) (by omega) (by omega)]
  have gx2 : ∀ {F : Nat → Int → Option (List Int)} {r : List Int}, Ev (fun n => F n (o.getD p 0)) r → Ev (fun n => if 0 ≤ (p : Int) ∧ (p : Int) < ((o.set (p + 1) (o.getD (p + 1) 0 + o.getD p 0 / 1000)).length : Int) then ((o.set (p + 1) (o.getD (p + 1) 0 + o.getD p 0 / 1000))[p]?).bind (F n) else none) r := fun {F r} h => by
   refine Ev.ifp ⟨by omega, by rw [List.length_set]; omega⟩ (Ev.bind (Ev.opt ?_) h)
   rw [List.getElem?_set_ne (by omega), List.getElem?_eq_getElem (by omega)]
   simp [List.getD_eq_getElem?_getD, show p < o.length by omega]
  refine gx2 (gx2 ?_)
  rw [Int.tmod_eq_emod_of_nonneg h0]
  exact he
theorem ws_take_succ {l : List Int} {i : Nat} (h : i < l.length) : ws 1000 (l.take (i + 1)) = ws 1000 (l.take i) + 1000 ^ i * l.getD i 0 := by
 rw [List.take_succ_eq_append_getElem h, ws_append, List.length_take, Nat.min_eq_left (by omega)]
 simp [ws, List.getD_eq_getElem?_getD, h]
theorem Ev.gl {β : Type} {xs : List Int} {i : Nat} {x : Int} {F : Nat → Int → Option β} {r : β} (h : i < xs.length) (e : xs.getD i 0 = x) (k : Ev (fun n => F n x) r) : Ev (fun n => if 0 ≤ (i : Int) ∧ (i : Int) < (xs.length : Int) then (xs[(i : Int).toNat]?).bind (F n) else none) r := by
 subst e
 refine Ev.ifp ⟨by omega, by omega⟩ (Ev.bind (Ev.opt ?_) k)
 rw [Int.toNat_natCast, List.getElem?_eq_getElem h]
 simp [List.getD_eq_getElem?_getD, h]
theorem times_ev {a b : List Int} {va vb : Int} {n m : Nat} (ha : Num a va n) (hb : Num b vb m) (hnm : n + m ≤ 60) : ∃ c, Num c (va * vb) (n + m + 1) ∧ Ev (fun k => regletref01_Times.f k a b) c := by
 obtain ⟨⟨da, _⟩, rfl, la⟩ := ha
 obtain ⟨⟨db, _⟩, rfl, lb⟩ := hb
 have wa := ws_lt da
 have wb := ws_lt db
 have hbig : ws 1000 a * ws 1000 b < 1000 ^ (a.length + b.length) := by
  rw [Int.pow_add]
  by_cases hz : ws 1000 b = 0
  · rw [hz, Int.mul_zero]; exact Int.mul_pos (pow_pos _) (pow_pos _)
  · have h1 : ws 1000 a * ws 1000 b < 1000 ^ a.length * ws 1000 b := Int.mul_lt_mul_of_pos_right wa.2 (by omega)
    have h2 : 1000 ^ a.length * ws 1000 b ≤ 1000 ^ a.length * 1000 ^ b.length := Int.mul_le_mul_of_nonneg_left (by omega) (Int.le_of_lt (pow_pos _))
    omega
 have rows : ∀ (d : Nat) (i : Nat) (o : List Int), i + d = a.length → o.length = a.length + b.length + 1 → (∀ x ∈ o, 0 ≤ x) → ws 1 o ≤ 59880060 * i → ws 1000 o = ws 1000 (a.take i) * ws 1000 b →
  ∃ c, Num c (ws 1000 a * ws 1000 b) (a.length + b.length + 1) ∧ Ev (fun k => regletref01_Times.l0 k a b o (i : Int)) c := by
  intro d
  induction d with
  | zero =>
   intro i o hi ho hnn hs hv
   have : i = a.length := by omega
   subst this
   rw [List.take_length] at hv
   obtain ⟨c, hc, he⟩ := times_carry (L := a.length + b.length) (v := ws 1000 a * ws 1000 b) (by omega) hbig (a.length + b.length) 0 o (by omega) ho hnn (by omega) hv (fun j h => by omega)
   rw [show ((0 : Nat) : Int) = 0 from rfl] at he
   exact ⟨c, hc, Ev.st (fun k => by rw [regletref01_Times.l0]) (Ev.dn (by omega) he)⟩
  | succ d ih =>
   intro i o hi ho hnn hs hv
   have ai := dig_getD da i
   have inner : ∀ (e : Nat) (j : Nat) (o : List Int), j + e = b.length → o.length = a.length + b.length + 1 → (∀ x ∈ o, 0 ≤ x) → ws 1 o ≤ 59880060 * i + 998001 * j → ws 1000 o = ws 1000 (a.take i) * ws 1000 b + a.getD i 0 * 1000 ^ i * ws 1000 (b.take j) →
    ∃ c, Num c (ws 1000 a * ws 1000 b) (a.length + b.length + 1) ∧ Ev (fun k => regletref01_Times.l1 k a b o (i : Int) (j : Int)) c := by
    intro e
    induction e with
    | zero =>
     intro j o hj ho hnn hs hv
     have : j = b.length := by omega
     subst this
     obtain ⟨c, hc, he⟩ := ih (i + 1) o (by omega) ho hnn (by omega) (by
      rw [hv, List.take_length, ws_take_succ (by omega), Int.add_mul, Int.mul_comm (a.getD i 0)])
     refine ⟨c, hc, Ev.st (fun k => by rw [regletref01_Times.l1]) (Ev.dn (by omega) ?_)⟩
     rw [nx i (by omega)]
     exact he
    | succ e ih2 =>
     intro j o hj ho hnn hs hv
     have bj := dig_getD db j
     have hm := mul_dig ai bj
     have hp : i + j + 1 < o.length := by omega
     have hb0 := le_sum hnn (i + j)
     have hb1 := le_sum hnn (i + j + 1)
     have h0 := getD_mem_nonneg hnn (i + j)
     have h1 := getD_mem_nonneg hnn (i + j + 1)
     have hms := mulStep_sum hnn hp hm.1
     have hmv := mulStep_value hp (a.getD i 0 * b.getD j 0)
     obtain ⟨c, hc, he⟩ := ih2 (j + 1) (mulStep o (i + j) (a.getD i 0 * b.getD j 0)) (by omega) (by rw [mulStep_length]; exact ho) (mulStep_nonneg hnn _ hm.1) (by omega) (by
      rw [hmv, hv, ws_take_succ (show j < b.length by omega), Int.mul_add, Int.pow_add]
      have : a.getD i 0 * b.getD j 0 * (1000 ^ i * 1000 ^ j) = a.getD i 0 * 1000 ^ i * (1000 ^ j * b.getD j 0) := by
       simp only [Int.mul_assoc, Int.mul_comm, Int.mul_left_comm]
      omega)
     refine ⟨c, hc, Ev.st (fun k => by rw [regletref01_Times.l1]) ?_⟩
     rw [nx2 i j (by omega), nx (i + j) (by omega), nx j (by omega)]
     refine Ev.dp (by omega) (Ev.gl (show i + j < o.length by omega) rfl ?_)
     refine Ev.at_ (by omega) (by omega) ?_
     refine Ev.at_ (by omega) (by omega) ?_
     rw [rdn, rdn]
     generalize a.getD i 0 = x at *
     generalize b.getD j 0 = y at *
     rw [w64 (x := x * y) (by omega) (by omega)]
     generalize x * y = q at *
     refine Ev.gl (show i + j < o.length by omega) rfl ?_
     rw [w64 (x := o.getD (i + j) 0 + q) (by omega) (by omega), Int.toNat_natCast, Int.toNat_natCast]
     have len1 : (o.set (i + j) (o.getD (i + j) 0 + q)).length = o.length := List.length_set
     have g0 := Big.getD_set_eq o (i + j) (o.getD (i + j) 0 + q) 0 (by omega)
     have g1 := Big.getD_set_ne o (i + j) (i + j + 1) (o.getD (i + j) 0 + q) 0 (by omega)
     refine Ev.gl (i := i + j + 1) (by omega) g1 ?_
     refine Ev.gl (i := i + j) (by omega) g0 ?_
     refine Ev.gl (i := i + j + 1) (by omega) g1 ?_
     rw [Int.tdiv_eq_ediv_of_nonneg (by omega), w64 (x := (o.getD (i + j) 0 + q) / 1000) (by omega) (by omega), w64 (x := o.getD (i + j + 1) 0 + (o.getD (i + j) 0 + q) / 1000) (by omega) (by omega)]
     have len2 : ((o.set (i + j) (o.getD (i + j) 0 + q)).set (i + j + 1) (o.getD (i + j + 1) 0 + (o.getD (i + j) 0 + q) / 1000)).length = o.length := by rw [List.length_set, len1]
     have g2 : ((o.set (i + j) (o.getD (i + j) 0 + q)).set (i + j + 1) (o.getD (i + j + 1) 0 + (o.getD (i + j) 0 + q) / 1000)).getD (i + j) 0 = o.getD (i + j) 0 + q := by rw [Big.getD_set_ne _ _ _ _ _ (by omega), g0]
     refine Ev.gl (i := i + j) (by omega) g2 ?_
     refine Ev.gl (i := i + j) (by omega) g2 ?_
     rw [Int.tmod_eq_emod_of_nonneg (by omega)]
     exact he
   obtain ⟨c, hc, he⟩ := inner b.length 0 o (by omega) ho hnn (by omega) (by rw [hv]; simp [ws])
   rw [show ((0 : Nat) : Int) = 0 from rfl] at he
   exact ⟨c, hc, Ev.st (fun k => by rw [regletref01_Times.l0]) (Ev.dp (by omega) he)⟩
 obtain ⟨c, hc, he⟩ := rows a.length 0 (List.replicate (a.length + b.length + 1) 0) (by omega) (by simp) (fun x hx => by rw [(List.mem_replicate.1 hx).2]; omega) (by rw [ws_replicate_zero]; omega) (by rw [ws_replicate_zero]; simp [ws])
 refine ⟨c, hc.mono (by omega), ?_⟩
 unfold regletref01_Times.f
 rw [nx2 _ _ (by omega), nx _ (by omega), Int.toNat_natCast]
 exact Ev.ifp ⟨rfl, by omega, by omega⟩ he
def sgn (a b : Int) : Int := if a < b then -1 else if a > b then 1 else 0
theorem compare_loop {a b : List Int} (ha : Dig a) (hb : Dig b) (hl : a.length = b.length) (hn : a.length ≤ 1000) : ∀ n : Nat, n ≤ a.length → a.drop n = b.drop n →
 Ev (fun k => regletref01_Compare.l0 k a b ((n : Int) - 1)) (sgn (ws 1000 a) (ws 1000 b)) := by
 intro n
 induction n with
 | zero =>
  intro _ hd
  have : a = b := by simpa using hd
  subst this
  exact Ev.st (fun k => by rw [regletref01_Compare.l0]) (Ev.dn (by omega) (Ev.some_ (by simp [sgn])))
 | succ n ih =>
  intro hle hd
  rw [show ((n + 1 : Nat) : Int) - 1 = (n : Int) by omega]
  refine Ev.st (fun k => by rw [regletref01_Compare.l0]) (Ev.dp (by omega) (Ev.gl (i := n) (by omega) rfl ?_))
  refine Ev.gl (i := n) (by omega) rfl ?_
  refine Ev.dc (fun c => Ev.some_ ?_) (fun c => ?_)
  · have := lt_of_place ha hb hl (i := n) (by omega) hd c
    unfold sgn; rw [if_pos this]
  · refine Ev.gl (i := n) (by omega) rfl ?_
    refine Ev.gl (i := n) (by omega) rfl ?_
    refine Ev.dc (fun c' => Ev.some_ ?_) (fun c' => ?_)
    · have := lt_of_place hb ha hl.symm (i := n) (by omega) hd.symm c'
      unfold sgn; rw [if_neg (by omega), if_pos this]
    · rw [w64 (x := (n : Int) - 1) (by omega) (by omega)]
      exact ih (by omega) (drop_eq_succ (by omega) hl hd (by omega))
theorem compare_ev {a b : List Int} {va vb : Int} {n m : Nat} (ha : Num a va n) (hb : Num b vb m) (hn : n ≤ 1000) (hm : m ≤ 1000) : Ev (fun k => regletref01_Compare.f k a b) (sgn va vb) := by
 obtain ⟨ca, va', la⟩ := ha
 obtain ⟨cb, vb', lb⟩ := hb
 obtain ⟨c, ⟨c1, c2, c3⟩, c4⟩ := bare_ev ca.1 (by omega)
 obtain ⟨d, ⟨d1, d2, d3⟩, d4⟩ := bare_ev cb.1 (by omega)
 rw [va'] at c2
 rw [vb'] at d2
 subst c2
 subst d2
 refine Ev.bind c4 (Ev.bind d4 (Ev.xc (fun h => Ev.dc (fun h1 => Ev.some_ ?_) (fun h1 => Ev.some_ ?_)) (fun h => ?_)))
 · have := canon_shorter c1 d1 (by omega)
   unfold sgn; rw [if_pos this]
 · have := canon_shorter d1 c1 (by omega)
   unfold sgn; rw [if_neg (by omega), if_pos this]
 · rw [w64 (x := (c.length : Int) - 1) (by omega) (by omega)]
   exact compare_loop c1.1 d1.1 (by omega) (by omega) c.length (Nat.le_refl _) (by rw [List.drop_length, show c.length = d.length by omega, List.drop_length])
theorem quotient_loop {a b : List Int} {va vb : Int} {n m : Nat} (ha : Num a va n) (hb : Num b vb m) (hn : n ≤ 1000) (hm : m ≤ 50) (hpos : 0 < vb) : ∀ (d : Nat) (lo hi : Int), 0 ≤ lo → lo ≤ hi → hi ≤ 1152921504606846976 → hi - lo ≤ d → lo * vb ≤ va → (hi = 1152921504606846976 ∨ va < (hi + 1) * vb) →
 Ev (fun k => regletref01_Quotient.l0 k a b lo hi) (min 1152921504606846976 (va / vb), decide (min 1152921504606846976 (va / vb) * vb = va)) := by
 intro d
 induction d using Nat.strongRecOn with
 | _ d ih =>
  intro lo hi h0 h1 h2 h3 h4 h5
  have mid_ev : ∀ x : Int, 0 ≤ x → x ≤ 1152921504606846976 → ∃ c t, Ev (fun k => regletref01_Of.f k x) c ∧ Ev (fun k => regletref01_Times.f k c b) t ∧ Ev (fun k => regletref01_Compare.f k t a) (sgn (x * vb) va) := by
   intro x x0 x1
   obtain ⟨c, hc, he⟩ := of_ev x
   rw [absC_pos x0 x1] at hc
   obtain ⟨t, ht, hte⟩ := times_ev hc hb (by omega)
   exact ⟨c, t, he, hte, compare_ev ht ha (by omega) hn⟩
  by_cases c : lo < hi
  · refine Ev.st (fun k => by rw [regletref01_Quotient.l0]) (Ev.dp c ?_)
    rw [w64 (x := hi - lo) (by omega) (by omega), w64 (x := hi - lo + 1) (by omega) (by omega), Int.tdiv_eq_ediv_of_nonneg (by omega), w64 (x := (hi - lo + 1) / 2) (by omega) (by omega), w64 (x := lo + (hi - lo + 1) / 2) (by omega) (by omega)]
    have b1 : lo < lo + (hi - lo + 1) / 2 := by omega
    have b2 : lo + (hi - lo + 1) / 2 ≤ hi := by omega
    generalize hmid : lo + (hi - lo + 1) / 2 = mid at *
    obtain ⟨c', t, e1, e2, e3⟩ := mid_ev mid (by omega) (by omega)
    rw [w64 (x := mid - 1) (by omega) (by omega)]
    refine Ev.bind e1 (Ev.bind e2 (Ev.bind e3 (Ev.dc (fun q => ?_) (fun q => ?_))))
    · exact ih (hi - mid).toNat (by omega) mid hi (by omega) b2 h2 (by omega) (by
       unfold sgn at q
       split at q
       · omega
       · split at q <;> omega) h5
    · refine ih (mid - 1 - lo).toNat (by omega) lo (mid - 1) h0 (by omega) (by omega) (by omega) h4 (.inr ?_)
      rw [Int.sub_add_cancel]
      unfold sgn at q
      split at q
      · omega
      · split at q <;> omega
  · have e : lo = hi := by omega
    subst e
    obtain ⟨c', t, e1, e2, e3⟩ := mid_ev lo h0 h2
    have hq : min 1152921504606846976 (va / vb) = lo := by
     have l1 : lo ≤ va / vb := (Int.le_ediv_iff_mul_le hpos).2 h4
     rcases h5 with h | h
     · omega
     · have : va / vb < lo + 1 := (Int.ediv_lt_iff_lt_mul hpos).2 h
       omega
    rw [hq]
    clear ih hq e1
    refine Ev.st (fun k => by rw [regletref01_Quotient.l0]) (Ev.dn c ?_)
    obtain ⟨c', t, e1, e2, e3⟩ := mid_ev lo h0 h2
    refine Ev.bind e1 (Ev.bind e2 (Ev.bind e3 ?_))
    refine Ev.lift (Ev.now (lo, decide (sgn (lo * vb) va = 0))) ?_
    congr 1
    unfold sgn
    by_cases q : lo * vb = va
    · rw [q]; simp
    · rw [decide_eq_false q]
      split
      · rfl
      · split
        · rfl
        · omega
theorem quotient_ev {a b : List Int} {va vb : Int} {n m : Nat} (ha : Num a va n) (hb : Num b vb m) (hn : n ≤ 1000) (hm : m ≤ 50) (hpos : 0 < vb) :
 Ev (fun k => regletref01_Quotient.f k a b) (min 1152921504606846976 (va / vb), decide (min 1152921504606846976 (va / vb) * vb = va)) := by
 have h0 : ((0 : Int) * vb) ≤ va := by rw [Int.zero_mul]; exact ha.nonneg
 have h1 : (1152921504606846976 : Int) - 0 ≤ ((Int.toNat 1152921504606846976 : Nat) : Int) := by rw [Int.toNat_of_nonneg (by omega)]; omega
 have h := quotient_loop ha hb hn hm hpos (Int.toNat 1152921504606846976) 0 1152921504606846976 (Int.le_refl _) (by omega) (Int.le_refl _) h1 h0 (.inl rfl)
 exact h
theorem ref_Bad_ev (a b : Int) : Ev (fun k => regletref01_Bad.f k a b) (bad (clamp a) (clamp b)) := by
 have ha := clamp_le a
 have hb := clamp_le b
 refine Ev.bind (ref_Clamp_ev a) (Ev.bind (ref_Clamp_ev b) ?_)
 generalize clamp a = t at *
 generalize clamp b = s at *
 refine Ev.dc (fun c => Ev.some_ (by unfold bad; rw [if_pos c])) (fun c1 => Ev.dc (fun c => Ev.some_ (by unfold bad; rw [if_neg c1, if_pos c])) (fun c2 => ?_))
 obtain ⟨t1, ht1, et1⟩ := of_ev t
 rw [absC_pos (by omega) ha] at ht1
 obtain ⟨s1, hs1, es1⟩ := of_ev s
 rw [absC_pos (by omega) hb] at hs1
 obtain ⟨h1, hh1, eh1⟩ := of_ev 100
 rw [absC_pos (by omega) (by omega)] at hh1
 obtain ⟨k1, hk1, ek1⟩ := of_ev 10000
 rw [absC_pos (by omega) (by omega)] at hk1
 obtain ⟨t2, ht2, et2⟩ := times_ev ht1 ht1 (by omega)
 obtain ⟨t3, ht3, et3⟩ := times_ev ht2 ht1 (by omega)
 obtain ⟨l, hl, el⟩ := times_ev ht3 hh1 (by omega)
 obtain ⟨s2, hs2, es2⟩ := times_ev hs1 hs1 (by omega)
 obtain ⟨s3, hs3, es3⟩ := times_ev hs2 hs1 (by omega)
 obtain ⟨m, hm, em⟩ := times_ev hs3 hk1 (by omega)
 have pc := cube_pos (a := s) (by omega)
 have pt := cube_pos (a := t) (by omega)
 have ecs : s * s * s = cube s := rfl
 have ect : t * t * t * 100 = 100 * cube t := by unfold cube; omega
 rw [ecs] at hs3 hm
 rw [ect] at hl
 refine Ev.bind et1 (Ev.bind et1 (Ev.bind et2 (Ev.bind et1 (Ev.bind et3 (Ev.bind eh1 (Ev.bind el (Ev.bind es1 (Ev.bind es1 (Ev.bind es2 (Ev.bind es1 (Ev.bind es3 (Ev.bind ek1 (Ev.bind em (Ev.bind (compare_ev hm hl (by omega) (by omega)) ?_))))))))))))))
 have hbad : bad t s = min 10000 (100 * cube t / cube s) := by unfold bad; rw [if_neg c1, if_neg c2]
 refine Ev.dc (fun q => Ev.some_ ?_) (fun q => Ev.bind (quotient_ev hl hs3 (by omega) (by omega) pc) (Ev.some_ ?_))
 · have : cube s * 10000 ≤ 100 * cube t := by
    unfold sgn at q
    split at q
    · omega
    · split at q <;> omega
   rw [hbad]
   have : 10000 ≤ 100 * cube t / cube s := (Int.le_ediv_iff_mul_le pc).2 (by omega)
   omega
 · have : 100 * cube t < 10000 * cube s := by
    unfold sgn at q
    split at q
    · omega
    · split at q <;> omega
   rw [hbad]
   have : 100 * cube t / cube s < 10000 := (Int.ediv_lt_iff_lt_mul pc).2 this
   omega
end Go.Proofs.YtjbobaeggdafpaaGreat.Vm
