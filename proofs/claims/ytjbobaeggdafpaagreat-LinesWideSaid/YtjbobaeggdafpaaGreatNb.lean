/- Sums, products and demerits; what a line costs; settings: the program's and the reference's answers. -/
import Derived.Test.YtjbobaeggdafpaaGreatId
import Derived.Test.YtjbobaeggdafpaaGreatNa
namespace Go.Proofs.YtjbobaeggdafpaaGreat.Vm
open Go
open _root_.Go.RowKit (wrap64)
open Go.Proofs.YtjbobaeggdafpaaGreat.Big
open Go.Proofs.YtjbobaeggdafpaaGreat.BadM (clamp clamp_le clamp_ge clamp_id clamp_clamp)
def addM (a b : Int) : Int := clamp (clamp a + clamp b)
theorem scaled_Add_ev (a b : Int) : Ev (fun k => scaled_Add.f k a b) (addM a b) := by
 have a1 := clamp_le a
 have a2 := clamp_ge a
 have b1 := clamp_le b
 have b2 := clamp_ge b
 refine Ev.bind (scaled_Clamp_ev a) (Ev.bind (scaled_Clamp_ev b) ?_)
 rw [w64 (by omega) (by omega)]
 exact Ev.bind (scaled_Clamp_ev _) (Ev.now _)
theorem ref_Add_ev (a b : Int) : Ev (fun k => regletref01_Add.f k a b) (addM a b) := by
 have a1 := clamp_le a
 have a2 := clamp_ge a
 have b1 := clamp_le b
 have b2 := clamp_ge b
 refine Ev.bind (ref_Clamp_ev a) (Ev.bind (ref_Clamp_ev b) ?_)
 rw [w64 (by omega) (by omega)]
 exact Ev.bind (ref_Clamp_ev _) (Ev.now _)
theorem scaled_Neg_ev (a : Int) : Ev (fun k => scaled_Neg.f k a) (-clamp a) := by
 have a1 := clamp_le a
 have a2 := clamp_ge a
 refine Ev.bind (scaled_Clamp_ev a) (Ev.some_ ?_)
 rw [w64 (by omega) (by omega)]
theorem clamp_neg (a : Int) : clamp (-clamp a) = -clamp a := by
 have a1 := clamp_le a
 have a2 := clamp_ge a
 exact clamp_id (by omega) (by omega)
theorem scaled_Sub_ev (a b : Int) : Ev (fun k => scaled_Sub.f k a b) (clamp (clamp a - clamp b)) := by
 refine Ev.bind (scaled_Neg_ev b) (Ev.bind (scaled_Add_ev _ _) (Ev.some_ ?_))
 unfold addM
 rw [clamp_neg, Int.sub_eq_add_neg]
theorem absC_u64 (a : Int) : U64 (absC a) := by have := absC_range a; unfold U64; omega
def signM (n : Bool) (v : Int) : Int := if n = true then -(min 1152921504606846976 v) else min 1152921504606846976 v
theorem scaled_signed_j {n : Bool} {m v : Int} (e : m = min 1152921504606846976 v) (h0 : 0 ≤ v) : Ev (fun k => scaled_signed.j0 k n m) (signM n v) := by
 subst e
 refine Ev.st (fun k => by rw [scaled_signed.j0]) (Ev.bc (fun d => Ev.some_ ?_) (fun d => Ev.some_ ?_))
 · rw [w64 (by omega) (by omega)]; unfold signM; rw [if_pos d]
 · unfold signM; rw [if_neg (by rw [d]; exact Bool.false_ne_true)]
theorem scaled_signed_ev {n : Bool} {hi lo : Int} (h0 : 0 ≤ hi) (l0 : 0 ≤ lo) : Ev (fun k => scaled_signed.f k n hi lo) (signM n (hi * 18446744073709551616 + lo)) := by
 refine Ev.dc (fun c => Ev.dc (fun d => ?_) (fun d => ?_)) (fun c => ?_)
 · rw [w64 (x := lo) (by omega) (by omega)]
   exact scaled_signed_j (by omega) (by omega)
 · exact scaled_signed_j (by omega) (by omega)
 · exact scaled_signed_j (by omega) (by omega)
def mulM (a b : Int) : Int := signM (decide (a < 0) != decide (b < 0)) (absC a * absC b)
theorem scaled_Mul_ev (a b : Int) : Ev (fun k => scaled_Mul.f k a b) (mulM a b) := by
 have ne : (!decide ((decide (a < 0)) = (decide (b < 0)))) = (decide (a < 0) != decide (b < 0)) := by cases decide (a < 0) <;> cases decide (b < 0) <;> rfl
 refine Ev.bind (scaled_size_ev a) (Ev.bind (scaled_size_ev b) (Ev.bind (Ev.congr (fun k => mul64_eq (absC_u64 a) (absC_u64 b) k) (Ev.now _)) ?_))
 have hp := times_bound (absC_u64 a) (absC_u64 b)
 unfold mulM
 rw [ne]
 generalize absC a * absC b = p at *
 refine Ev.bind (scaled_signed_ev (by dsimp only; omega) (by dsimp only; omega)) (Ev.some_ ?_)
 show signM _ (p / 18446744073709551616 * 18446744073709551616 + p % 18446744073709551616) = _
 rw [show p / 18446744073709551616 * 18446744073709551616 + p % 18446744073709551616 = p by omega]
theorem back_loop {l : List Int} (hd : Dig l) (hn : l.length ≤ 1000) (hv : ws 1000 l < 1152921504606846976) : ∀ n : Nat, n ≤ l.length → Ev (fun k => regletref01_Back.l0 k l (ws 1000 (l.drop n)) ((n : Int) - 1)) (ws 1000 l) := by
 intro n
 induction n with
 | zero => intro _; exact Ev.st (fun k => by rw [regletref01_Back.l0]) (Ev.dn (by omega) (Ev.some_ (by simp)))
 | succ n ih =>
  intro hle
  have e : ws 1000 (l.drop n) = ws 1000 (l.drop (n + 1)) * 1000 + l.getD n 0 := by
   rw [List.drop_eq_getElem_cons (show n < l.length by omega)]
   simp only [ws]
   rw [List.getD_eq_getElem?_getD, List.getElem?_eq_getElem (show n < l.length by omega)]
   simp only [Option.getD_some]
   omega
  have h0 := (ws_lt (dig_drop hd (n + 1))).1
  have hdn := dig_getD hd n
  have hsm : ws 1000 (l.drop n) ≤ ws 1000 l := by
   have : ws 1000 l = ws 1000 (l.take n) + 1000 ^ (l.take n).length * ws 1000 (l.drop n) := by rw [← ws_append, List.take_append_drop]
   have h1 := (ws_lt (dig_take hd n)).1
   have h2 : 1 * ws 1000 (l.drop n) ≤ 1000 ^ (l.take n).length * ws 1000 (l.drop n) := Int.mul_le_mul_of_nonneg_right (pow_pos _) (ws_lt (dig_drop hd n)).1
   omega
  have en : ((n + 1 : Nat) : Int) - 1 = (n : Int) := by omega
  rw [en]
  refine Ev.st (fun k => by rw [regletref01_Back.l0]) (Ev.dp (by omega) ?_)
  refine Ev.at_ (by omega) (by omega) ?_
  rw [rdn, w64 (x := ws 1000 (l.drop (n + 1)) * 1000) (by omega) (by omega), w64 (x := ws 1000 (l.drop (n + 1)) * 1000 + l.getD n 0) (by omega) (by omega), w64 (x := (n : Int) - 1) (by omega) (by omega), ← e]
  exact ih (by omega)
theorem back_ev {l : List Int} {v : Int} {n : Nat} (h : Num l v n) (hn : n ≤ 1000) : Ev (fun k => regletref01_Back.f k l) (min 1152921504606846976 v) := by
 obtain ⟨c, hc, he⟩ := of_ev 1152921504606846976
 rw [absC_pos (by omega) (by omega)] at hc
 refine Ev.bind he (Ev.bind (compare_ev h hc hn (by omega)) (Ev.dc (fun q => Ev.some_ ?_) (fun q => ?_)))
 · unfold sgn at q
   split at q
   · omega
   · omega
 · have hv : v < 1152921504606846976 := by
    unfold sgn at q
    split at q
    · assumption
    · split at q <;> omega
   obtain ⟨hcan, hval, hlen⟩ := h
   subst hval
   have := back_loop hcan.1 (by omega) hv l.length (Nat.le_refl _)
   rw [List.drop_length] at this
   rw [w64 (x := (l.length : Int) - 1) (by omega) (by omega), show min 1152921504606846976 (ws 1000 l) = ws 1000 l by omega]
   exact this
theorem sign_clamp (a : Int) : (a < 0 ↔ clamp a < 0) ∧ (a > 0 ↔ clamp a > 0) := by unfold clamp; omega
theorem ref_Mul_ev (a b : Int) : Ev (fun k => regletref01_Mul.f k a b) (mulM a b) := by
 refine Ev.bind (ref_Clamp_ev a) (Ev.bind (ref_Clamp_ev b) ?_)
 obtain ⟨l1, h1, e1⟩ := of_ev (clamp a)
 obtain ⟨l2, h2, e2⟩ := of_ev (clamp b)
 have ec : ∀ x, absC (clamp x) = absC x := fun x => by unfold absC; rw [clamp_clamp]
 rw [ec] at h1 h2
 obtain ⟨l3, h3, e3⟩ := times_ev h1 h2 (by omega)
 refine Ev.bind e1 (Ev.bind e2 (Ev.bind e3 (Ev.bind (back_ev h3 (by omega)) ?_)))
 obtain ⟨sa1, sa2⟩ := sign_clamp a
 obtain ⟨sb1, sb2⟩ := sign_clamp b
 have hp := h3.nonneg
 have hz : ∀ x, clamp x = 0 → absC x = 0 := fun x h => by unfold absC; rw [h]; rfl
 have hzero : clamp a = 0 ∨ clamp b = 0 → absC a * absC b = 0 := by
  rintro (h | h)
  · rw [hz a h, Int.zero_mul]
  · rw [hz b h, Int.mul_zero]
 unfold mulM signM
 generalize absC a * absC b = p at *
 rw [w64 (x := -min 1152921504606846976 p) (by omega) (by omega)]
 by_cases ca : clamp a < 0
 · rw [decide_eq_true (sa1.2 ca)]
   refine Ev.dp ca (Ev.dc (fun cb => ?_) (fun cb => Ev.dn (by omega) ?_))
   · rw [decide_eq_false (show ¬ b < 0 by omega)]
     exact Ev.some_ rfl
   · by_cases cb0 : clamp b < 0
     · rw [decide_eq_true (sb1.2 cb0)]; exact Ev.some_ rfl
     · have hp0 := hzero (.inr (by omega))
       rw [decide_eq_false (show ¬ b < 0 by omega), hp0]; exact Ev.some_ (by decide)
 · rw [decide_eq_false (show ¬ a < 0 by omega)]
   refine Ev.dn ca (Ev.dc (fun ca2 => Ev.dc (fun cb => ?_) (fun cb => ?_)) (fun ca2 => ?_))
   · rw [decide_eq_true (sb1.2 cb)]; exact Ev.some_ rfl
   · rw [decide_eq_false (show ¬ b < 0 by omega)]; exact Ev.some_ rfl
   · have hp0 := hzero (.inl (by omega))
     rw [hp0]
     refine Ev.some_ ?_
     cases decide (b < 0) <;> decide
theorem mulM_range (a b : Int) : -1152921504606846976 ≤ mulM a b ∧ mulM a b ≤ 1152921504606846976 := by
 have : 0 ≤ absC a * absC b := Int.mul_nonneg (absC_range a).1 (absC_range b).1
 unfold mulM signM
 split <;> omega
def pz (x : Int) : Int := if x < 0 then 0 else x
theorem pz_ge (x : Int) : 0 ≤ pz x := by unfold pz; split <;> omega
theorem demerits_both (a b p : Int) : ∃ r, 0 ≤ r ∧ Ev (fun k => scaled_Demerits.f k a b p) r ∧ Ev (fun k => regletref01_Demerits.f k a b p) r := by
 have hp := mulM_range p p
 have own : ∀ x : Int, Ev (fun k => scaled_Demerits.j0 k x) (pz x) := fun x => Ev.st (fun k => by rw [scaled_Demerits.j0]) (Ev.some_ (by unfold pz; split <;> split <;> omega))
 have fin : ∀ x : Int, Ev (fun k => regletref01_Demerits.j0 k x) (pz x) := fun x => Ev.st (fun k => by rw [regletref01_Demerits.j0]) (Ev.dc (fun c => Ev.some_ (by unfold pz; rw [if_pos c])) (fun c => Ev.some_ (by unfold pz; rw [if_neg c])))
 by_cases c : 0 ≤ p
 · refine ⟨pz (addM (mulM (addM a b) (addM a b)) (mulM p p)), pz_ge _, ?_, ?_⟩
   · exact Ev.bind (scaled_Add_ev a b) (Ev.bind (scaled_Mul_ev _ _) (Ev.dp c (Ev.bind (scaled_Mul_ev p p) (Ev.bind (scaled_Add_ev _ _) (own _)))))
   · exact Ev.bind (ref_Add_ev a b) (Ev.bind (ref_Mul_ev _ _) (Ev.dp c (Ev.bind (ref_Mul_ev p p) (Ev.bind (ref_Add_ev _ _) (fin _)))))
 · by_cases c2 : -10000 < p
   · refine ⟨pz (clamp (clamp (mulM (addM a b) (addM a b)) - clamp (mulM p p))), pz_ge _, ?_, ?_⟩
     · exact Ev.bind (scaled_Add_ev a b) (Ev.bind (scaled_Mul_ev _ _) (Ev.dn c (Ev.dp c2 (Ev.bind (scaled_Mul_ev p p) (Ev.bind (scaled_Sub_ev _ _) (own _))))))
     · refine Ev.bind (ref_Add_ev a b) (Ev.bind (ref_Mul_ev _ _) (Ev.dn c (Ev.dp c2 (Ev.bind (ref_Mul_ev p p) ?_))))
       rw [w64 (x := -mulM p p) (by omega) (by omega)]
       have e : addM (mulM (addM a b) (addM a b)) (-mulM p p) = clamp (clamp (mulM (addM a b) (addM a b)) - clamp (mulM p p)) := by
        unfold addM
        rw [clamp_id (a := mulM p p) hp.1 hp.2, clamp_id (a := -mulM p p) (by omega) (by omega), Int.sub_eq_add_neg]
       rw [← e]
       exact Ev.bind (ref_Add_ev _ _) (fin _)
   · refine ⟨pz (mulM (addM a b) (addM a b)), pz_ge _, ?_, ?_⟩
     · exact Ev.bind (scaled_Add_ev a b) (Ev.bind (scaled_Mul_ev _ _) (Ev.dn c (Ev.dn c2 (own _))))
     · exact Ev.bind (ref_Add_ev a b) (Ev.bind (ref_Mul_ev _ _) (Ev.dn c (Ev.dn c2 (fin _))))
theorem addM_ge {a b : Int} (ha : 0 ≤ a) (hb : 0 ≤ b) : 0 ≤ addM a b := by unfold addM clamp; omega
theorem tot_add {a b : Int} (ha : 0 ≤ a) (hb : 0 ≤ b) (h1 : a ≤ 1125899906842624) (h2 : b ≤ 1125899906842624) : addM a b = a + b := by unfold addM clamp; omega
theorem Total_ev {a b : Int} (ha : 0 ≤ a) (hb : 0 ≤ b) (h1 : a ≤ 1125899906842624) (h2 : b ≤ 1125899906842624) : Ev (fun k => measure_Total.f k a b) (tot a b) := by
 refine Ev.bind (scaled_Add_ev a b) (Ev.some_ ?_)
 rw [tot_add ha hb h1 h2]; rfl
def SetOk (s : api_Settings) : Prop := 0 ≤ s.1 ∧ s.1 ≤ 10000 ∧ 0 ≤ s.2.1 ∧ s.2.1 ≤ 10000 ∧ 0 ≤ s.2.2.1 ∧ s.2.2.1 ≤ 1048576 ∧ 0 ≤ s.2.2.2.1 ∧ s.2.2.2.1 ≤ 1048576 ∧ 0 ≤ s.2.2.2.2.1 ∧ s.2.2.2.2.1 ≤ 1048576 ∧ 1 ≤ s.2.2.2.2.2.1 ∧ s.2.2.2.2.2.1 ≤ 100 ∧ 1 ≤ s.2.2.2.2.2.2 ∧ s.2.2.2.2.2.2 ≤ 100
instance (s : api_Settings) : Decidable (SetOk s) := by unfold SetOk; infer_instance
theorem Check_ev (s : api_Settings) : Ev (fun k => measure_Check.f k s) (if SetOk s then 0 else 80) := by
 obtain ⟨t, l, a, d, sl, o, w⟩ := s
 have bad : ¬ SetOk (t, l, a, d, sl, o, w) → Ev (fun _ : Nat => some (80 : Int)) (if SetOk (t, l, a, d, sl, o, w) then 0 else 80) := fun h => Ev.some_ (if_neg h).symm
 have z1 : wrap64 (0 + 1) = 1 := w64 (x := 0 + 1) (by omega) (by omega)
 have z2 : wrap64 (1 + 1) = 2 := w64 (x := 1 + 1) (by omega) (by omega)
 have z3 : wrap64 (2 + 1) = 3 := w64 (x := 2 + 1) (by omega) (by omega)
 unfold measure_Check.f
 dsimp only
 refine Ev.st (fun k => by rw [measure_Check.l0]) (Ev.dp (by simp) (Ev.gx (by omega) (by simp) ?_))
 refine Ev.dc (fun (h : t < 0) => bad fun k => ?_) (fun (h0 : ¬ t < 0) => Ev.dc (fun (h : 10000 < t) => bad fun k => ?_) (fun (h1 : ¬ 10000 < t) => ?_))
 · unfold SetOk at k; dsimp only at k; omega
 · unfold SetOk at k; dsimp only at k; omega
 rw [z1]
 refine Ev.st (fun k => by rw [measure_Check.l0]) (Ev.dp (by simp) (Ev.gx (by omega) (by simp) ?_))
 refine Ev.dc (fun (h : l < 0) => bad fun k => ?_) (fun (h2 : ¬ l < 0) => Ev.dc (fun (h : 10000 < l) => bad fun k => ?_) (fun (h3 : ¬ 10000 < l) => ?_))
 · unfold SetOk at k; dsimp only at k; omega
 · unfold SetOk at k; dsimp only at k; omega
 rw [z2]
 refine Ev.st (fun k => by rw [measure_Check.l0]) (Ev.dn (by simp) ?_)
 dsimp only
 refine Ev.st (fun k => by rw [measure_Check.l1]) (Ev.dp (by simp) (Ev.gx (by omega) (by simp) ?_))
 refine Ev.dc (fun (h : a < 0) => bad fun k => ?_) (fun (h4 : ¬ a < 0) => Ev.dc (fun (h : 1048576 < a) => bad fun k => ?_) (fun (h5 : ¬ 1048576 < a) => ?_))
 · unfold SetOk at k; dsimp only at k; omega
 · unfold SetOk at k; dsimp only at k; omega
 rw [z1]
 refine Ev.st (fun k => by rw [measure_Check.l1]) (Ev.dp (by simp) (Ev.gx (by omega) (by simp) ?_))
 refine Ev.dc (fun (h : d < 0) => bad fun k => ?_) (fun (h6 : ¬ d < 0) => Ev.dc (fun (h : 1048576 < d) => bad fun k => ?_) (fun (h7 : ¬ 1048576 < d) => ?_))
 · unfold SetOk at k; dsimp only at k; omega
 · unfold SetOk at k; dsimp only at k; omega
 rw [z2]
 refine Ev.st (fun k => by rw [measure_Check.l1]) (Ev.dp (by simp) (Ev.gx (by omega) (by simp) ?_))
 refine Ev.dc (fun (h : sl < 0) => bad fun k => ?_) (fun (h8 : ¬ sl < 0) => Ev.dc (fun (h : 1048576 < sl) => bad fun k => ?_) (fun (h9 : ¬ 1048576 < sl) => ?_))
 · unfold SetOk at k; dsimp only at k; omega
 · unfold SetOk at k; dsimp only at k; omega
 rw [z3]
 refine Ev.st (fun k => by rw [measure_Check.l1]) (Ev.dn (by simp) ?_)
 dsimp only
 refine Ev.st (fun k => by rw [measure_Check.l2]) (Ev.dp (by simp) (Ev.gx (by omega) (by simp) ?_))
 refine Ev.dc (fun (h : o < 1) => bad fun k => ?_) (fun (h10 : ¬ o < 1) => Ev.dc (fun (h : 100 < o) => bad fun k => ?_) (fun (h11 : ¬ 100 < o) => ?_))
 · unfold SetOk at k; dsimp only at k; omega
 · unfold SetOk at k; dsimp only at k; omega
 rw [z1]
 refine Ev.st (fun k => by rw [measure_Check.l2]) (Ev.dp (by simp) (Ev.gx (by omega) (by simp) ?_))
 refine Ev.dc (fun (h : w < 1) => bad fun k => ?_) (fun (h12 : ¬ w < 1) => Ev.dc (fun (h : 100 < w) => bad fun k => ?_) (fun (h13 : ¬ 100 < w) => ?_))
 · unfold SetOk at k; dsimp only at k; omega
 · unfold SetOk at k; dsimp only at k; omega
 rw [z2]
 refine Ev.st (fun k => by rw [measure_Check.l2]) (Ev.dn (by simp) (Ev.some_ (if_pos ?_).symm))
 unfold SetOk; dsimp only; omega
def WS (w : Int) (s : api_Settings) : Prop := 1 ≤ w ∧ w ≤ 1073741824 ∧ SetOk s
instance (w : Int) (s : api_Settings) : Decidable (WS w s) := by unfold WS; infer_instance
theorem Check9_ev (w : Int) (s : api_Settings) : Ev (fun k => breaks_Check.f k w s) (if w < 1 then 41 else if 1073741824 < w then 41 else if SetOk s then 0 else 80) := by
 refine Ev.dc (fun h => Ev.some_ (by rw [if_pos h])) (fun h => ?_)
 rw [if_neg h]
 refine Ev.dc (fun h => Ev.some_ (by rw [if_pos h])) (fun h => ?_)
 rw [if_neg h]
 exact Ev.st (fun k => by rw [breaks_Check.j0]) (Ev.bind (Check_ev s) (Ev.now _))
def costEnd (d adj dbl lst : Int) (apart flag eflag last : Bool) : Int :=
 if 1125899906842624 < (if (flag && last) = true then addM (if (flag && eflag) = true then addM (if apart = true then addM d adj else d) dbl else (if apart = true then addM d adj else d)) lst else (if (flag && eflag) = true then addM (if apart = true then addM d adj else d) dbl else (if apart = true then addM d adj else d))) then 1125899906842624 else (if (flag && last) = true then addM (if (flag && eflag) = true then addM (if apart = true then addM d adj else d) dbl else (if apart = true then addM d adj else d)) lst else (if (flag && eflag) = true then addM (if apart = true then addM d adj else d) dbl else (if apart = true then addM d adj else d)))
theorem costEnd_ok {d adj dbl lst : Int} (h0 : 0 ≤ d) (h1 : 0 ≤ adj) (h2 : 0 ≤ dbl) (h3 : 0 ≤ lst) (apart flag eflag last : Bool) : 0 ≤ costEnd d adj dbl lst apart flag eflag last ∧ costEnd d adj dbl lst apart flag eflag last ≤ 1125899906842624 := by
 have a : 0 ≤ (if apart = true then addM d adj else d) := by split; exact addM_ge h0 h1; exact h0
 have b : 0 ≤ (if (flag && eflag) = true then addM (if apart = true then addM d adj else d) dbl else (if apart = true then addM d adj else d)) := by
  split
  · exact addM_ge a h2
  · exact a
 have c : 0 ≤ (if (flag && last) = true then addM (if (flag && eflag) = true then addM (if apart = true then addM d adj else d) dbl else (if apart = true then addM d adj else d)) lst else (if (flag && eflag) = true then addM (if apart = true then addM d adj else d) dbl else (if apart = true then addM d adj else d))) := by
  split
  · exact addM_ge b h3
  · exact b
 unfold costEnd
 generalize (if (flag && last) = true then addM (if (flag && eflag) = true then addM (if apart = true then addM d adj else d) dbl else (if apart = true then addM d adj else d)) lst else (if (flag && eflag) = true then addM (if apart = true then addM d adj else d) dbl else (if apart = true then addM d adj else d))) = x at c ⊢
 split <;> omega
theorem end_own (d : Int) (s : api_Settings) (e : api_Item) (ah : Int) (apart flag last : Bool) :
 Ev (fun k => measure_Cost.j0 k last (if apart = true then addM d s.2.2.1 else d) s e (ah, flag)) (costEnd d s.2.2.1 s.2.2.2.1 s.2.2.2.2.1 apart flag e.2.2.2.2.2.2.1 last) := by
 generalize e0 : e.2.2.2.2.2.2.1 = eflag
 refine Ev.st (fun k => by rw [measure_Cost.j0]) ?_
 dsimp only
 rw [e0]
 cases apart <;> cases flag <;> cases eflag <;> cases last <;>
 repeat (first | exact Ev.some_ rfl | refine Ev.bp rfl ?_ | refine Ev.bn rfl ?_ | refine Ev.bind (scaled_Add_ev _ _) ?_ | refine Ev.st (fun k => by rw [measure_Cost.j1]) ?_ | refine Ev.st (fun k => by rw [measure_Cost.j2]) ?_)
theorem end_ref (d : Int) (s : api_Settings) (e : api_Item) (apart flag last : Bool) :
 Ev (fun k => regletref08_Cost.j0 k flag last (if apart = true then addM d s.2.2.1 else d) s e) (costEnd d s.2.2.1 s.2.2.2.1 s.2.2.2.2.1 apart flag e.2.2.2.2.2.2.1 last) := by
 generalize e0 : e.2.2.2.2.2.2.1 = eflag
 refine Ev.st (fun k => by rw [regletref08_Cost.j0]) ?_
 rw [e0]
 cases apart <;> cases flag <;> cases eflag <;> cases last <;>
 repeat (first | exact Ev.some_ rfl | refine Ev.bp rfl ?_ | refine Ev.bn rfl ?_ | refine Ev.bind (ref_Add_ev _ _) ?_ | refine Ev.st (fun k => by rw [regletref08_Cost.j1]) ?_ | refine Ev.st (fun k => by rw [regletref08_Cost.j2]) ?_)
theorem apart_ev {a b : Int} (a0 : -1000 ≤ a) (a1 : a ≤ 1000) (c0 : -1000 ≤ b) (c1 : b ≤ 1000) : Ev (fun k => measure_apart.f k a b) (decide (1 < a - b ∨ 1 < b - a)) := by
 unfold measure_apart.f
 rw [w64 (x := a - b) (by omega) (by omega), w64 (x := b - a) (by omega) (by omega)]
 refine Ev.dc (fun p => Ev.some_ (decide_eq_true (Or.inl p)).symm) (fun p => Ev.some_ ?_)
 rw [decide_eq_decide]; omega
theorem cost_both (s : api_Settings) (f : api_Fit) (e : api_Item) (ah : Int) (flag last : Bool) (hs : SetOk s) (a0 : -1000 ≤ ah) (a1 : ah ≤ 1000) (c0 : -1000 ≤ f.2.2.2.1) (c1 : f.2.2.2.1 ≤ 1000) :
 ∃ r, (0 ≤ r ∧ r ≤ 1125899906842624) ∧ Ev (fun k => measure_Cost.f k s f e (ah, flag) last) r ∧ Ev (fun k => regletref08_Cost.f k s f e ah flag last) r := by
 cases h4 : f.2.2.2.2 with
 | true => exact ⟨1125899906842624, by omega, Ev.bp h4 (Ev.now _), Ev.bp h4 (Ev.now _)⟩
 | false =>
  unfold SetOk at hs
  obtain ⟨d, d0, d1, d2⟩ := demerits_both s.2.1 f.2.2.1 e.2.2.2.2.2.1
  by_cases h : 0 ≤ ah
  · refine ⟨costEnd d s.2.2.1 s.2.2.2.1 s.2.2.2.2.1 (decide (1 < f.2.2.2.1 - ah ∨ 1 < ah - f.2.2.2.1)) flag e.2.2.2.2.2.2.1 last, costEnd_ok d0 (by omega) (by omega) (by omega) _ _ _ _, ?_, ?_⟩
    · refine Ev.bn h4 (Ev.bind d1 (Ev.dp h (Ev.bind (apart_ev c0 c1 a0 a1) ?_)))
      have E := end_own d s e ah (decide (1 < f.2.2.2.1 - ah ∨ 1 < ah - f.2.2.2.1)) flag last
      refine Ev.bc (fun q => ?_) (fun q => ?_)
      · rw [q] at E ⊢; exact Ev.bind (scaled_Add_ev _ _) E
      · rw [q] at E ⊢; exact E
    · have e1 : addM ah 1 = ah + 1 := by unfold addM clamp; omega
      have e2 : addM f.2.2.2.1 1 = f.2.2.2.1 + 1 := by unfold addM clamp; omega
      have ad1 := ref_Add_ev ah 1
      have ad2 := ref_Add_ev f.2.2.2.1 1
      rw [e1] at ad1
      rw [e2] at ad2
      have E := end_ref d s e (decide (1 < f.2.2.2.1 - ah ∨ 1 < ah - f.2.2.2.1)) flag last
      refine Ev.bn h4 (Ev.bind d2 (Ev.dp h (Ev.bind ad1 (Ev.dc (fun p => ?_) (fun p => Ev.bind ad2 (Ev.dc (fun q => ?_) (fun q => ?_)))))))
      · have e : decide (1 < f.2.2.2.1 - ah ∨ 1 < ah - f.2.2.2.1) = true := decide_eq_true (by omega)
        rw [e] at E ⊢; exact Ev.bind (ref_Add_ev _ _) E
      · have e : decide (1 < f.2.2.2.1 - ah ∨ 1 < ah - f.2.2.2.1) = true := decide_eq_true (by omega)
        rw [e] at E ⊢; exact Ev.bind (ref_Add_ev _ _) E
      · have e : decide (1 < f.2.2.2.1 - ah ∨ 1 < ah - f.2.2.2.1) = false := decide_eq_false (by omega)
        rw [e] at E ⊢; exact E
  · exact ⟨costEnd d s.2.2.1 s.2.2.2.1 s.2.2.2.2.1 false flag e.2.2.2.2.2.2.1 last, costEnd_ok d0 (by omega) (by omega) (by omega) _ _ _ _, Ev.bn h4 (Ev.bind d1 (Ev.dn h (end_own d s e ah false flag last))), Ev.bn h4 (Ev.bind d2 (Ev.dn h (end_ref d s e false flag last)))⟩
end Go.Proofs.YtjbobaeggdafpaaGreat.Vm
