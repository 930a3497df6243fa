/- Sums, differences, products, and a line's demerits: the program's and the reference's are the page's. -/
import Derived.Test.YtdkmmddakidieaaPx4
import Derived.Test.YtdkmmddakidieaaPx6
import Derived.Test.YtdkmmddakidieaaPx11
import Derived.Test.YtdkmmddakidieaaPx17
import Derived.Test.YtdkmmddakidieaaPx19
import Derived.Test.YtdkmmddakidieaaSc2
namespace Go.Proofs.Ytdkmmddakidieaa.P
open Go.RowKit Go.Proofs.YtdkmmddakidieaaW.PrintWords Go.Proofs.YtdkmmddakidieaaW.PrintLast Go.Proofs.YtdkmmddakidieaaW.PrintMore
open Go.Proofs.Ytdkmmddakidieaa.Big
open Go.Proofs.Ytdkmmddakidieaa.BadM (clamp clamp_le clamp_ge clamp_id clamp_clamp)

def addM (a b : Int) : Int := clamp (clamp a + clamp b)
theorem scaled_Add_eq (a b : Int) : scaled_Add.f a b = some (addM a b) := by
  have a1 := clamp_le a
  have a2 := clamp_ge a
  have b1 := clamp_le b
  have b2 := clamp_ge b
  unfold scaled_Add.f addM
  rw [scaled_Clamp_eq, scaled_Clamp_eq]
  simp only [Option.bind_some]
  rw [w64 (by omega) (by omega), scaled_Clamp_eq]
  rfl
theorem ref_Add_eq (a b : Int) : regletref01_Add.f a b = some (addM a b) := by
  have a1 := clamp_le a
  have a2 := clamp_ge a
  have b1 := clamp_le b
  have b2 := clamp_ge b
  unfold regletref01_Add.f addM
  rw [ref_Clamp_eq, ref_Clamp_eq]
  simp only [Option.bind_some]
  rw [w64 (by omega) (by omega), ref_Clamp_eq]
  rfl
theorem scaled_Neg_eq (a : Int) : scaled_Neg.f a = some (-clamp a) := by
  have a1 := clamp_le a
  have a2 := clamp_ge a
  unfold scaled_Neg.f
  rw [scaled_Clamp_eq]
  simp only [Option.bind_some]
  rw [w64 (by omega) (by omega)]
theorem clamp_neg (a : Int) : clamp (-clamp a) = -clamp a := by
  have a1 := clamp_le a
  have a2 := clamp_ge a
  exact clamp_id (by omega) (by omega)
theorem scaled_Sub_eq (a b : Int) : scaled_Sub.f a b = some (clamp (clamp a - clamp b)) := by
  unfold scaled_Sub.f
  rw [scaled_Neg_eq]
  simp only [Option.bind_some]
  rw [scaled_Add_eq]
  unfold addM
  rw [clamp_neg, Int.sub_eq_add_neg]
  rfl
theorem scaled_size_eq (a : Int) : scaled_size.f a = some (absC a) := by
  have a1 := clamp_le a
  have a2 := clamp_ge a
  unfold scaled_size.f absC
  rw [scaled_Clamp_eq]
  simp only [Option.bind_some]
  by_cases h : clamp a < 0
  · rw [if_pos h, if_pos h, w64 (by omega) (by omega), u64id (by omega) (by omega)]
  · rw [if_neg h, if_neg h, u64id (by omega) (by omega)]
theorem absC_u64 (a : Int) : U64 (absC a) := by have := absC_range a; unfold U64; omega
/-- a size with a sign, as far as it goes -/
def signM (n : Bool) (v : Int) : Int := if n = true then -(min 1152921504606846976 v) else min 1152921504606846976 v
theorem scaled_signed_j {n : Bool} {v lo m : Int} {b : Bool} (hb : b = true → v = lo ∧ 0 ≤ lo ∧ lo < 1152921504606846976) (hn : b = false → 1152921504606846976 ≤ v) (hm : m = 1152921504606846976) :
    Ev (fun k => scaled_signed.j0 k n lo m b) (signM n v) := by
  refine scaled_signed.j0.ev (Ev.ifc (fun c => ?_) (fun c => ?_))
  · obtain ⟨rfl, h0, h1⟩ := hb c
    rw [w64 (x := v) (by omega) (by omega), w64 (x := -v) (by omega) (by omega)]
    exact Ev.ifc (fun d => Ev.some_ (by unfold signM; rw [if_pos d]; omega)) (fun d => Ev.some_ (by unfold signM; rw [if_neg d]; omega))
  · have := hn (by simpa using c)
    rw [w64 (x := -m) (by omega) (by omega)]
    exact Ev.ifc (fun d => Ev.some_ (by unfold signM; rw [if_pos d]; omega)) (fun d => Ev.some_ (by unfold signM; rw [if_neg d]; omega))
theorem scaled_signed_ev {n : Bool} {hi lo : Int} (h0 : 0 ≤ hi) (l0 : 0 ≤ lo) (l1 : lo < 18446744073709551616) : Ev (fun k => scaled_signed.f k n hi lo) (signM n (hi * 18446744073709551616 + lo)) := by
  refine Ev.ifc (fun c => scaled_signed_j (fun b => ?_) (fun b => ?_) rfl) (fun c => scaled_signed_j (fun b => by cases b) (fun _ => by omega) rfl)
  · have := of_decide_eq_true b; omega
  · have := of_decide_eq_false b; omega
/-- the page's product -/
def mulM (a b : Int) : Int := signM (decide (a < 0) != decide (b < 0)) (absC a * absC b)
theorem scaled_Mul_ev (a b : Int) : Ev (fun k => scaled_Mul.f k a b) (mulM a b) := by
  refine Ev.bind (Ev.opt (scaled_size_eq a)) (Ev.bind (Ev.opt (scaled_size_eq b)) (Ev.bind (Ev.opt (mul64_eq (absC_u64 a) (absC_u64 b))) ?_))
  have hp := times_bound (absC_u64 a) (absC_u64 b)
  unfold mulM
  generalize absC a * absC b = p at *
  refine Ev.bind (scaled_signed_ev (by omega) (by omega) (by omega)) (Ev.some_ ?_)
  show signM _ (p / 18446744073709551616 * 18446744073709551616 + p % 18446744073709551616) = _
  rw [show p / 18446744073709551616 * 18446744073709551616 + p % 18446744073709551616 = p by omega]
theorem back_loop {l : List Int} (hd : Dig l) (hn : l.length ≤ 1000) (hv : ws 1000 l < 1152921504606846976) : ∀ n : Nat, n ≤ l.length → Ev (fun k => regletref01_Back.l0 k l (ws 1000 (l.drop n)) ((n : Int) - 1)) (ws 1000 l) := by
  intro n
  induction n with
  | zero => intro _; exact regletref01_Back.l0.ev (Ev.ifn (by omega) (Ev.some_ (by simp)))
  | succ n ih =>
    intro hle
    have e : ws 1000 (l.drop n) = ws 1000 (l.drop (n + 1)) * 1000 + l.getD n 0 := by
      rw [List.drop_eq_getElem_cons (show n < l.length by omega)]
      simp only [ws]
      rw [List.getD_eq_getElem?_getD, List.getElem?_eq_getElem (show n < l.length by omega)]
      simp only [Option.getD_some]
      omega
    have h0 := (ws_lt (dig_drop hd (n + 1))).1
    have hdn := dig_getD hd n
    have hsm : ws 1000 (l.drop n) ≤ ws 1000 l := by
      have : ws 1000 l = ws 1000 (l.take n) + 1000 ^ (l.take n).length * ws 1000 (l.drop n) := by rw [← ws_append, List.take_append_drop]
      have h1 := (ws_lt (dig_take hd n)).1
      have h2 : 1 * ws 1000 (l.drop n) ≤ 1000 ^ (l.take n).length * ws 1000 (l.drop n) := Int.mul_le_mul_of_nonneg_right (pow_pos _) (ws_lt (dig_drop hd n)).1
      omega
    have en : ((n + 1 : Nat) : Int) - 1 = (n : Int) := by omega
    rw [en]
    refine regletref01_Back.l0.ev (Ev.ifp (by omega) (Ev.ifp (by omega) (Ev.ifp (by omega) ?_)))
    rw [rd_nat, w64 (x := ws 1000 (l.drop (n + 1)) * 1000) (by omega) (by omega), w64 (x := ws 1000 (l.drop (n + 1)) * 1000 + l.getD n 0) (by omega) (by omega), w64 (x := (n : Int) - 1) (by omega) (by omega), ← e]
    exact ih (by omega)
theorem back_ev {l : List Int} {v : Int} {n : Nat} (h : Num l v n) (hn : n ≤ 1000) : Ev (fun k => regletref01_Back.f k l) (min 1152921504606846976 v) := by
  obtain ⟨c, hc, he⟩ := of_ev 1152921504606846976
  rw [absC_pos (by omega) (by omega)] at hc
  refine Ev.bind he (Ev.bind (compare_ev h hc hn (by omega)) (Ev.ifc (fun q => Ev.some_ ?_) (fun q => ?_)))
  · unfold sgn at q
    split at q
    · omega
    · omega
  · have hv : v < 1152921504606846976 := by
      unfold sgn at q
      split at q
      · assumption
      · split at q <;> omega
    obtain ⟨hcan, hval, hlen⟩ := h
    subst hval
    have := back_loop hcan.1 (by omega) hv l.length (Nat.le_refl _)
    rw [List.drop_length] at this
    rw [w64 (x := (l.length : Int) - 1) (by omega) (by omega), show min 1152921504606846976 (ws 1000 l) = ws 1000 l by omega]
    exact this
theorem sign_clamp (a : Int) : (a < 0 ↔ clamp a < 0) ∧ (a > 0 ↔ clamp a > 0) := by unfold clamp; omega
theorem ref_Mul_ev (a b : Int) : Ev (fun k => regletref01_Mul.f k a b) (mulM a b) := by
  refine Ev.bind (Ev.opt (ref_Clamp_eq a)) (Ev.bind (Ev.opt (ref_Clamp_eq b)) ?_)
  obtain ⟨l1, h1, e1⟩ := of_ev (clamp a)
  obtain ⟨l2, h2, e2⟩ := of_ev (clamp b)
  have ec : ∀ x, absC (clamp x) = absC x := fun x => by unfold absC; rw [clamp_clamp]
  rw [ec] at h1 h2
  obtain ⟨l3, h3, e3⟩ := times_ev h1 h2 (by omega)
  refine Ev.bind e1 (Ev.bind e2 (Ev.bind e3 (Ev.bind (back_ev h3 (by omega)) ?_)))
  obtain ⟨sa1, sa2⟩ := sign_clamp a
  obtain ⟨sb1, sb2⟩ := sign_clamp b
  have hp := h3.nonneg
  have hz : ∀ x, clamp x = 0 → absC x = 0 := fun x h => by unfold absC; rw [h]; rfl
  have hzero : clamp a = 0 ∨ clamp b = 0 → absC a * absC b = 0 := by
    rintro (h | h)
    · rw [hz a h, Int.zero_mul]
    · rw [hz b h, Int.mul_zero]
  unfold mulM signM
  generalize absC a * absC b = p at *
  have wn : Hid (wrap64 (-min 1152921504606846976 p) = -min 1152921504606846976 p) := w64 (by omega) (by omega)
  rw [wn.out]
  by_cases ca : clamp a < 0
  · rw [decide_eq_true (sa1.2 ca)]
    refine Ev.ifp ca (Ev.ifc (fun cb => ?_) (fun cb => Ev.ifn (by omega) ?_))
    · rw [decide_eq_false (show ¬ b < 0 by omega)]
      exact Ev.some_ rfl
    · by_cases cb0 : clamp b < 0
      · rw [decide_eq_true (sb1.2 cb0)]; exact Ev.some_ rfl
      · have hp0 := hzero (.inr (by omega))
        rw [decide_eq_false (show ¬ b < 0 by omega), hp0]; exact Ev.some_ (by decide)
  · rw [decide_eq_false (show ¬ a < 0 by omega)]
    refine Ev.ifn ca (Ev.ifc (fun ca2 => Ev.ifc (fun cb => ?_) (fun cb => ?_)) (fun ca2 => ?_))
    · rw [decide_eq_true (sb1.2 cb)]; exact Ev.some_ rfl
    · rw [decide_eq_false (show ¬ b < 0 by omega)]; exact Ev.some_ rfl
    · have hp0 := hzero (.inl (by omega))
      rw [hp0]
      refine Ev.some_ ?_
      cases decide (b < 0) <;> decide
end Go.Proofs.Ytdkmmddakidieaa.P
