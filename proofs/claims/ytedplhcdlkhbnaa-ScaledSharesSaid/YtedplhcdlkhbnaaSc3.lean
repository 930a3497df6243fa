/- Quotients rounded down: the reference's product by a third number, and the program's quotient and rest. -/
import Derived.Test.YtedplhcdlkhbnaaPx1
import Derived.Test.YtedplhcdlkhbnaaPx7
import Derived.Test.YtedplhcdlkhbnaaSc2
namespace Go.Proofs.Ytedplhcdlkhbnaa.P
open Go.RowKit Go.Proofs.YtedplhcdlkhbnaaW.PrintWords Go.Proofs.YtedplhcdlkhbnaaW.PrintLast Go.Proofs.YtedplhcdlkhbnaaW.PrintMore
open Go.Proofs.Ytedplhcdlkhbnaa.Big
open Go.Proofs.Ytedplhcdlkhbnaa.BadM (clamp clamp_le clamp_ge clamp_id clamp_clamp)

/-- p by q rounded down (p not below 0, q above); below 0 if neg -/
def floorM (p q : Int) (neg : Bool) : Int := if neg = true then -((p + q - 1) / q) else p / q
theorem ceil_exact {p q n : Int} (hq : 0 < q) (h : n * q = p) : (p + q - 1) / q = n := by
  apply Int.le_antisymm
  · have : (p + q - 1) / q < n + 1 := (Int.ediv_lt_iff_lt_mul hq).2 (by rw [Int.add_mul]; omega)
    omega
  · exact (Int.le_ediv_iff_mul_le hq).2 (by omega)
theorem floor_exact {p q n : Int} (hq : 0 < q) (h : n * q = p) : p / q = n := by
  apply Int.le_antisymm
  · have : p / q < n + 1 := (Int.ediv_lt_iff_lt_mul hq).2 (by rw [Int.add_mul]; omega)
    omega
  · exact (Int.le_ediv_iff_mul_le hq).2 (by omega)
theorem ceil_above {p q : Int} (hq : 0 < q) (h : p / q * q ≠ p) : (p + q - 1) / q = p / q + 1 := by
  have h1 := Int.ediv_mul_le p (show q ≠ 0 by omega)
  have h2 := Int.lt_ediv_add_one_mul_self p hq
  rw [Int.add_mul] at h2
  apply Int.le_antisymm
  · have : (p + q - 1) / q < p / q + 1 + 1 := (Int.ediv_lt_iff_lt_mul hq).2 (by rw [Int.add_mul, Int.add_mul]; omega)
    omega
  · exact (Int.le_ediv_iff_mul_le hq).2 (by rw [Int.add_mul]; omega)

/-- is a product by a third number below 0? -/
def neg3 (a b c : Int) : Bool := (decide (clamp a < 0) != decide (clamp b < 0)) != decide (clamp c < 0)
/-- the page's product by a third number -/
def mdM (a b c : Int) : Int × Bool := if clamp c = 0 then (0, false) else (clamp (floorM (absC a * absC b) (absC c) (neg3 a b c)), true)
theorem absC_zero {c : Int} : absC c = 0 ↔ clamp c = 0 := by unfold absC; split <;> omega
theorem absC_clamp (a : Int) : absC (clamp a) = absC a := by unfold absC; rw [clamp_clamp]

/-- the reference's end -/
theorem md_end {p q : Int} (hp : 0 ≤ p) (hq : 0 < q) {n : Int} (hn : n = min 1152921504606846976 (p / q)) {m : Int} (hm0 : 0 ≤ m) {ng : Bool} (hng : ng = true ↔ m % 2 = 1) :
    Ev (fun k => regletref01_MulDiv.j2 k n (decide (n * q = p)) m) (clamp (floorM p q ng), true) := by
  have hpq : 0 ≤ p / q := Int.ediv_nonneg hp (by omega)
  have n0 : 0 ≤ n := by omega
  have n1 : n ≤ 1152921504606846976 := by omega
  have below : ng = true → n * q ≠ p → clamp (-n - 1) = clamp (floorM p q ng) := by
    intro h1 h2
    unfold floorM
    rw [if_pos h1]
    by_cases big : 1152921504606846976 ≤ p / q
    · have e : n = 1152921504606846976 := by omega
      have : p / q ≤ (p + q - 1) / q := Int.ediv_le_ediv hq (by omega)
      unfold clamp; omega
    · have e : n = p / q := by omega
      rw [ceil_above hq (by rw [← e]; exact h2), e]
      congr 1; omega
  have exact_ : ng = true → n * q = p → -n = clamp (floorM p q ng) := by
    intro h1 h2
    unfold floorM
    rw [if_pos h1, ceil_exact hq h2, clamp_id (by omega) (by omega)]
  have up : ng = false → n = clamp (floorM p q ng) := by
    intro h1
    unfold floorM
    rw [h1, if_neg (by simp)]
    unfold clamp; omega
  refine regletref01_MulDiv.j2.ev ?_
  rw [Int.tmod_eq_emod_of_nonneg hm0]
  refine Ev.ifc (fun c => ?_) (fun c => ?_)
  · have h1 : ng = false := by
      cases ng
      · rfl
      · have := hng.1 rfl; omega
    exact regletref01_MulDiv.j3.ev (Ev.ifp rfl (Ev.some_ (by rw [← up h1])))
  · have h1 : ng = true := hng.2 (by omega)
    have after : ∀ b, b = false → Ev (fun k => regletref01_MulDiv.j3 k n (decide (n * q = p)) b) (clamp (floorM p q ng), true) := by
      intro b hb
      refine regletref01_MulDiv.j3.ev (Ev.ifn (by rw [hb]; simp) (Ev.ifc (fun d => Ev.some_ ?_) (fun d => ?_)))
      · rw [w64 (x := -n) (by omega) (by omega), exact_ h1 (of_decide_eq_true d)]
      · have d : n * q ≠ p := fun h => d (decide_eq_true h)
        rw [w64 (x := -n) (by omega) (by omega), w64 (x := -n - 1) (by omega) (by omega)]
        exact Ev.bind (Ev.opt (ref_Clamp_eq _)) (Ev.some_ (by rw [below h1 d]))
    refine Ev.ifc (fun z => ?_) (fun z => after _ rfl)
    by_cases d : n * q = p
    · refine regletref01_MulDiv.j3.ev (Ev.ifp (decide_eq_true d) (Ev.some_ ?_))
      have := exact_ h1 d
      congr 1; omega
    · exact after _ (decide_eq_false d)
theorem ref_MulDiv_ev (a b c : Int) : Ev (fun k => regletref01_MulDiv.f k a b c) (mdM a b c) := by
  refine Ev.bind (Ev.opt (ref_Clamp_eq a)) (Ev.bind (Ev.opt (ref_Clamp_eq b)) (Ev.bind (Ev.opt (ref_Clamp_eq c)) (Ev.ifc (fun h => Ev.some_ (by unfold mdM; rw [if_pos h])) (fun h => ?_))))
  have hc : 0 < absC c := by have := (absC_range c).1; have := mt absC_zero.1 h; omega
  obtain ⟨l1, h1, e1⟩ := of_ev (clamp a)
  obtain ⟨l2, h2, e2⟩ := of_ev (clamp b)
  obtain ⟨l3, h3, e3⟩ := of_ev (clamp c)
  rw [absC_clamp] at h1 h2 h3
  obtain ⟨l4, h4, e4⟩ := times_ev h1 h2 (by omega)
  have hp : 0 ≤ absC a * absC b := Int.mul_nonneg (absC_range a).1 (absC_range b).1
  have hmd : mdM a b c = (clamp (floorM (absC a * absC b) (absC c) (neg3 a b c)), true) := by unfold mdM; rw [if_neg h]
  rw [hmd]
  refine Ev.bind e1 (Ev.bind e2 (Ev.bind e4 (Ev.bind e3 (Ev.bind (quotient_ev h4 h3 (by omega) (by omega) hc) ?_))))
  have fin : ∀ m : Int, 0 ≤ m → m ≤ 3 → (neg3 a b c = true ↔ m % 2 = 1) → _ := fun m m0 _ hm => md_end hp hc rfl m0 hm
  have w1 : Hid (wrap64 (0 + 1 + 1) = 2) := w64 (by omega) (by omega)
  have w0 : Hid (wrap64 (0 + 1) = 1) := w64 (by omega) (by omega)
  have w2 : Hid (wrap64 (1 + 1) = 2) := w64 (by omega) (by omega)
  have w3 : Hid (wrap64 (2 + 1) = 3) := w64 (by omega) (by omega)
  have w4 : Hid ((0 : Int) + 1 = 1) := by show _ = _; omega
  refine Ev.ifc (fun ca => regletref01_MulDiv.j0.ev (Ev.ifc (fun cb => regletref01_MulDiv.j1.ev (Ev.ifc (fun cc => ?_) (fun cc => ?_))) (fun cb => regletref01_MulDiv.j1.ev (Ev.ifc (fun cc => ?_) (fun cc => ?_)))))
    (fun ca => regletref01_MulDiv.j0.ev (Ev.ifc (fun cb => regletref01_MulDiv.j1.ev (Ev.ifc (fun cc => ?_) (fun cc => ?_))) (fun cb => regletref01_MulDiv.j1.ev (Ev.ifc (fun cc => ?_) (fun cc => ?_)))))
  · rw [w1.out, w3.out]; exact fin 3 (by omega) (by omega) (by simp [neg3, ca, cb, cc])
  · rw [w1.out]; exact fin 2 (by omega) (by omega) (by simp [neg3, ca, cb, cc])
  · rw [w4.out, w2.out]; exact fin 2 (by omega) (by omega) (by simp [neg3, ca, cb, cc])
  · rw [w4.out]; exact fin 1 (by omega) (by omega) (by simp [neg3, ca, cb, cc])
  · rw [w0.out, w2.out]; exact fin 2 (by omega) (by omega) (by simp [neg3, ca, cb, cc])
  · rw [w0.out]; exact fin 1 (by omega) (by omega) (by simp [neg3, ca, cb, cc])
  · rw [w0.out]; exact fin 1 (by omega) (by omega) (by simp [neg3, ca, cb, cc])
  · exact fin 0 (by omega) (by omega) (by simp [neg3, ca, cb, cc])

/-! ### the program's quotient -/
/-- the page's quotient -/
def divM (a b : Int) : Int × Bool := if clamp b = 0 then (0, false) else (floorM (absC a) (absC b) (decide (clamp a < 0) != decide (clamp b < 0)), true)
theorem floorM_range {p q : Int} (hp : 0 ≤ p) (hq : 0 < q) (hb : p ≤ 1152921504606846976) (n : Bool) : -1152921504606846976 ≤ floorM p q n ∧ floorM p q n ≤ 1152921504606846976 := by
  unfold floorM
  have h1 : 0 ≤ p / q := Int.ediv_nonneg hp (by omega)
  have h2 : p / q ≤ p := Int.ediv_le_self _ hp
  have h3 : 0 ≤ (p + q - 1) / q := Int.ediv_nonneg (by omega) (by omega)
  have h4 : (p + q - 1) / q ≤ p := by
    by_cases e : p / q * q = p
    · rw [ceil_exact hq e]; exact h2
    · rw [ceil_above hq e]
      by_cases q1 : q = 1
      · subst q1; simp at e
      · have : p / q * 2 ≤ p / q * q := Int.mul_le_mul_of_nonneg_left (by omega) h1
        have h5 := Int.ediv_mul_le p (show q ≠ 0 by omega)
        have : p ≠ 0 := by rintro rfl; simp at e
        omega
  split <;> omega
theorem tdiv_signs {x y : Int} (hy : y ≠ 0) : Int.tdiv x y = (if (decide (x < 0) != decide (y < 0)) = true then -((if x < 0 then -x else x) / (if y < 0 then -y else y)) else (if x < 0 then -x else x) / (if y < 0 then -y else y)) ∧
    (Int.tmod x y = 0 ↔ ((if x < 0 then -x else x) / (if y < 0 then -y else y)) * (if y < 0 then -y else y) = (if x < 0 then -x else x)) := by
  have key : ∀ X Y : Int, 0 ≤ X → 0 < Y → Int.tdiv X Y = X / Y ∧ (Int.tmod X Y = 0 ↔ X / Y * Y = X) := by
    intro X Y h0 h1
    refine ⟨Int.tdiv_eq_ediv_of_nonneg h0, ?_⟩
    rw [Int.tmod_eq_emod_of_nonneg h0]
    have := Int.emod_add_mul_ediv X Y
    rw [Int.mul_comm] at this
    omega
  by_cases cx : x < 0
  · by_cases cy : y < 0
    · obtain ⟨k1, k2⟩ := key (-x) (-y) (by omega) (by omega)
      rw [Int.neg_tdiv, Int.tdiv_neg, Int.neg_neg] at k1
      rw [Int.neg_tmod, Int.tmod_neg, Int.neg_eq_zero] at k2
      simp only [cx, cy, if_true, decide_true, bne_self_eq_false]
      exact ⟨by simpa using k1, k2⟩
    · obtain ⟨k1, k2⟩ := key (-x) y (by omega) (by omega)
      rw [Int.neg_tdiv] at k1
      rw [Int.neg_tmod, Int.neg_eq_zero] at k2
      simp only [cx, cy, if_true, if_false, decide_true, decide_false]
      refine ⟨?_, k2⟩
      rw [if_pos (by rfl)]; omega
  · by_cases cy : y < 0
    · obtain ⟨k1, k2⟩ := key x (-y) (by omega) (by omega)
      rw [Int.tdiv_neg] at k1
      rw [Int.tmod_neg] at k2
      simp only [cx, cy, if_true, if_false, decide_true, decide_false]
      refine ⟨?_, k2⟩
      rw [if_pos (by rfl)]; omega
    · obtain ⟨k1, k2⟩ := key x y (by omega) (by omega)
      simp only [cx, cy, if_false, decide_false, bne_self_eq_false]
      exact ⟨by simpa using k1, k2⟩
theorem scaled_Div_eq (a b : Int) : scaled_Div.f a b = some (divM a b) := by
  unfold scaled_Div.f divM
  rw [scaled_Clamp_eq, scaled_Clamp_eq]
  simp only [Option.bind_some]
  by_cases h : clamp b = 0
  · rw [if_pos h, if_pos h]
  · rw [if_neg h, if_neg h]
    have ha := absC_range a
    have hb := absC_range b
    have hc : 0 < absC b := by have := mt absC_zero.1 h; omega
    have hr := floorM_range ha.1 hc ha.2 (decide (clamp a < 0) != decide (clamp b < 0))
    obtain ⟨t1, t2⟩ := tdiv_signs (x := clamp a) h
    have ea : (if clamp a < 0 then -clamp a else clamp a) = absC a := rfl
    have eb : (if clamp b < 0 then -clamp b else clamp b) = absC b := rfl
    rw [ea, eb] at t1 t2
    have hq0 : 0 ≤ absC a / absC b := Int.ediv_nonneg ha.1 (by omega)
    have hq1 : absC a / absC b ≤ absC a := Int.ediv_le_self _ ha.1
    unfold floorM at hr ⊢
    rw [t1]
    generalize hs : (decide (clamp a < 0) != decide (clamp b < 0)) = s at *
    by_cases c : Int.tmod (clamp a) (clamp b) = 0
    · rw [if_pos c]
      have e := t2.1 c
      cases s
      · rw [if_neg (by simp), if_neg (by simp), w64 (by omega) (by omega)]
      · rw [if_pos rfl, if_pos rfl, ceil_exact hc e, w64 (by omega) (by omega)]
    · rw [if_neg c]
      have e := mt t2.2 c
      cases s
      · rw [if_neg (by simp), if_neg (by simp), if_neg (by simp), w64 (by omega) (by omega)]
      · rw [if_pos rfl, ceil_above hc e] at hr
        rw [if_pos rfl, if_pos rfl, if_pos rfl, ceil_above hc e, w64 (x := -(absC a / absC b)) (by omega) (by omega), w64 (by omega) (by omega)]
        congr 2; omega
theorem clamp_one : clamp 1 = 1 := clamp_id (by omega) (by omega)
theorem absC_one : absC 1 = 1 := absC_pos (by omega) (by omega)
theorem mdM_one (a b : Int) : mdM a 1 b = divM a b := by
  unfold mdM divM neg3
  rw [absC_one, clamp_one, Int.mul_one]
  by_cases h : clamp b = 0
  · rw [if_pos h, if_pos h]
  · rw [if_neg h, if_neg h]
    have ha := absC_range a
    have hc : 0 < absC b := by have := (absC_range b).1; have := mt absC_zero.1 h; omega
    have : (decide (clamp a < 0) != decide ((1 : Int) < 0)) = decide (clamp a < 0) := by simp
    rw [this]
    have hr := floorM_range ha.1 hc ha.2 (decide (clamp a < 0) != decide (clamp b < 0))
    rw [clamp_id hr.1 hr.2]
theorem ref_Div_ev (a b : Int) : Ev (fun k => regletref01_Div.f k a b) (divM a b) := by
  refine Ev.bind (ref_MulDiv_ev a 1 b) (Ev.some_ ?_)
  rw [mdM_one]
/-- the page's rest -/
def modM (a b : Int) : Int × Bool := if (divM a b).2 = true then (wrap64 (clamp a - wrap64 ((divM a b).1 * clamp b)), true) else (0, false)
theorem scaled_Mod_eq (a b : Int) : scaled_Mod.f a b = some (modM a b) := by
  unfold scaled_Mod.f modM
  rw [scaled_Div_eq, scaled_Clamp_eq, scaled_Clamp_eq]
  simp only [Option.bind_some]
  split <;> rfl
theorem ref_Mod_ev (a b : Int) : Ev (fun k => regletref01_Mod.f k a b) (modM a b) := by
  unfold modM
  refine Ev.bind (ref_Div_ev a b) ?_
  by_cases h : (divM a b).2 = true
  · exact Ev.lift (Ev.ifp h (Ev.bind (Ev.opt (ref_Clamp_eq a)) (Ev.bind (Ev.opt (ref_Clamp_eq b)) (Ev.now _)))) (if_pos h).symm
  · exact Ev.lift (Ev.ifn h (Ev.now _)) (if_neg h).symm
end Go.Proofs.Ytedplhcdlkhbnaa.P
