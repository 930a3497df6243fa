/- Greatest common divisors, lowest terms, and which of two fractions is less. -/
import Derived.Test.YtdkmmddakidieaaPx4
import Derived.Test.YtdkmmddakidieaaSc4
namespace Go.Proofs.Ytdkmmddakidieaa.P
open Go.RowKit Go.Proofs.YtdkmmddakidieaaW.PrintWords Go.Proofs.YtdkmmddakidieaaW.PrintLast Go.Proofs.YtdkmmddakidieaaW.PrintMore
open Go.Proofs.Ytdkmmddakidieaa.Big
open Go.Proofs.Ytdkmmddakidieaa.BadM (clamp clamp_le clamp_ge clamp_id clamp_clamp)

theorem gcd_step (x y : Nat) : Nat.gcd x y = Nat.gcd y (x % y) := by
  rw [Nat.gcd_comm x y, Nat.gcd_rec y x, Nat.gcd_comm]
theorem tmod_nat (x y : Nat) : Int.tmod (x : Int) (y : Int) = ((x % y : Nat) : Int) := by
  rw [Int.tmod_eq_emod_of_nonneg (by omega)]; rfl
theorem scaled_gcd_loop : ∀ (y x : Nat), x ≤ 1152921504606846976 → y ≤ 1152921504606846976 → Ev (fun k => scaled_Gcd.l0 k (x : Int) (y : Int)) ((Nat.gcd x y : Nat) : Int) := by
  intro y
  induction y using Nat.strongRecOn with
  | _ y ih =>
    intro x hx hy
    by_cases c : y = 0
    · subst c
      exact scaled_Gcd.l0.ev (Ev.ifn (by omega) (Ev.some_ (by rw [w64 (by omega) (by omega), Nat.gcd_zero_right])))
    · have hm : x % y < y := Nat.mod_lt _ (by omega)
      refine scaled_Gcd.l0.ev (Ev.ifp (by omega) (Ev.ifn (by omega) ?_))
      rw [tmod_nat, gcd_step]
      exact ih (x % y) hm y hy (by omega)
def gcdN (a b : Int) : Nat := Nat.gcd (absC a).toNat (absC b).toNat
theorem absC_cast (a : Int) : (((absC a).toNat : Nat) : Int) = absC a := by have := absC_range a; omega
theorem scaled_Gcd_ev (a b : Int) : Ev (fun k => scaled_Gcd.f k a b) (gcdN a b : Int) := by
  have ha := absC_range a
  have hb := absC_range b
  have := scaled_gcd_loop (absC b).toNat (absC a).toNat (by omega) (by omega)
  rw [absC_cast, absC_cast] at this
  exact Ev.bind (Ev.opt (scaled_size_eq a)) (Ev.bind (Ev.opt (scaled_size_eq b)) this)
/-- the numbers in lowest terms, the second above 0 -/
def lowM (a b : Int) : Int × Int := if clamp b = 0 then (0, 1) else (Int.tdiv (if clamp b < 0 then -clamp a else clamp a) (gcdN a b), absC b / (gcdN a b : Int))
theorem absC_neg (a : Int) : absC (-clamp a) = absC a := by
  have a1 := clamp_le a
  have a2 := clamp_ge a
  have : clamp (-clamp a) = -clamp a := clamp_id (by omega) (by omega)
  unfold absC
  rw [this]
  split <;> split <;> omega
theorem absC_nil {c : Int} : absC c = 0 ↔ clamp c = 0 := by unfold absC; split <;> omega
theorem gcd_pos {a b : Int} (h : clamp b ≠ 0) : 0 < gcdN a b := by
  have h1 := mt absC_nil.1 h
  have h2 := absC_range b
  exact Nat.gcd_pos_of_pos_right _ (by omega)
theorem tdiv_small {x : Int} {g : Nat} (hg : 0 < g) (h0 : -1152921504606846976 ≤ x) (h1 : x ≤ 1152921504606846976) : -1152921504606846976 ≤ Int.tdiv x g ∧ Int.tdiv x g ≤ 1152921504606846976 := by
  by_cases c : 0 ≤ x
  · rw [Int.tdiv_eq_ediv_of_nonneg c]
    have a := Int.ediv_nonneg c (show 0 ≤ (g : Int) by omega)
    have b := Int.ediv_le_self (g : Int) c
    omega
  · have e : Int.tdiv x g = -Int.tdiv (-x) g := by rw [Int.neg_tdiv, Int.neg_neg]
    rw [e, Int.tdiv_eq_ediv_of_nonneg (show 0 ≤ -x by omega)]
    have a := Int.ediv_nonneg (show 0 ≤ -x by omega) (show 0 ≤ (g : Int) by omega)
    have b := Int.ediv_le_self (g : Int) (show 0 ≤ -x by omega)
    omega
theorem scaled_Lowest_ev (a b : Int) : Ev (fun k => scaled_Lowest.f k a b) (lowM a b) := by
  have a1 := clamp_le a
  have a2 := clamp_ge a
  have b1 := clamp_le b
  have b2 := clamp_ge b
  refine Ev.bind (Ev.opt (scaled_Clamp_eq a)) (Ev.bind (Ev.opt (scaled_Clamp_eq b)) (Ev.ifc (fun c => Ev.some_ (by unfold lowM; rw [if_pos c])) (fun c => ?_)))
  have hg := gcd_pos (a := a) c
  have el : lowM a b = (Int.tdiv (if clamp b < 0 then -clamp a else clamp a) (gcdN a b), absC b / (gcdN a b : Int)) := if_neg c
  rw [el, w64 (x := -clamp a) (by omega) (by omega), w64 (x := -clamp b) (by omega) (by omega)]
  have tb : Int.tdiv (absC b) (gcdN a b) = absC b / (gcdN a b : Int) := Int.tdiv_eq_ediv_of_nonneg (absC_range b).1
  have rb := tdiv_small (x := absC b) hg (by have := absC_range b; omega) (absC_range b).2
  refine Ev.ifc (fun d => ?_) (fun d => ?_)
  · have g := scaled_Gcd_ev (-clamp a) (-clamp b)
    have e : gcdN (-clamp a) (-clamp b) = gcdN a b := by unfold gcdN; rw [absC_neg, absC_neg]
    rw [e] at g
    have eb : absC b = -clamp b := if_pos d
    have ra := tdiv_small (x := -clamp a) hg (by omega) (by omega)
    rw [eb] at rb tb
    refine Ev.bind g (Ev.ifn (by omega) (Ev.some_ ?_))
    rw [w64 (by omega) (by omega), w64 (by omega) (by omega), if_pos d, tb, eb]
  · have g := scaled_Gcd_ev (clamp a) (clamp b)
    have e : gcdN (clamp a) (clamp b) = gcdN a b := by unfold gcdN absC; rw [clamp_clamp, clamp_clamp]
    rw [e] at g
    have eb : absC b = clamp b := if_neg d
    have ra := tdiv_small (x := clamp a) hg (by omega) (by omega)
    rw [eb] at rb tb
    refine Ev.bind g (Ev.ifn (by omega) (Ev.some_ ?_))
    rw [w64 (by omega) (by omega), w64 (by omega) (by omega), if_neg d, tb, eb]
theorem low_pos (a b : Int) : (lowM a b).2 > 0 := by
  unfold lowM
  by_cases c : clamp b = 0
  · rw [if_pos c]; show (1 : Int) > 0; omega
  · rw [if_neg c]
    show absC b / (gcdN a b : Int) > 0
    have hg := gcd_pos (a := a) c
    have h2 := absC_range b
    have h1 := mt absC_nil.1 c
    have : gcdN a b ≤ (absC b).toNat := Nat.gcd_le_right _ (by omega)
    have : 1 ≤ absC b / (gcdN a b : Int) := (Int.le_ediv_iff_mul_le (by omega)).2 (by omega)
    omega

/-! ### which is less -/
def lessM (a b c d : Int) : Bool := decide (clamp a * clamp d < clamp c * clamp b)
theorem sides {a b c d : Int} (hb : 0 < clamp b) (hd : 0 < clamp d) : clamp a * clamp d = (if clamp a < 0 then -(absC a * absC d) else absC a * absC d) ∧ clamp c * clamp b = (if clamp c < 0 then -(absC c * absC b) else absC c * absC b) := by
  have e : ∀ x y : Int, 0 < clamp y → clamp x * clamp y = (if clamp x < 0 then -(absC x * absC y) else absC x * absC y) := by
    intro x y hy
    have ey : absC y = clamp y := if_neg (by omega)
    by_cases cx : clamp x < 0
    · have ex : absC x = -clamp x := if_pos cx
      rw [if_pos cx, ex, ey, Int.neg_mul, Int.neg_neg]
    · have ex : absC x = clamp x := if_neg cx
      rw [if_neg cx, ex, ey]
  exact ⟨e a d hd, e c b hb⟩
theorem mul_pos_of {x y : Int} (hx : clamp x < 0) (hy : 0 < clamp y) : 0 < absC x * absC y := by
  have ex : absC x = -clamp x := if_pos hx
  have ey : absC y = clamp y := if_neg (by omega)
  rw [ex, ey]; exact Int.mul_pos (by omega) hy
theorem nat_lowest {A b C d : Nat} (hb : 0 < b) (hd : 0 < d) : (A / Nat.gcd A b = C / Nat.gcd C d ∧ b / Nat.gcd A b = d / Nat.gcd C d) ↔ A * d = C * b := by
  have g1 : 0 < Nat.gcd A b := Nat.gcd_pos_of_pos_right _ hb
  have g2 : 0 < Nat.gcd C d := Nat.gcd_pos_of_pos_right _ hd
  obtain ⟨p, hp⟩ := Nat.gcd_dvd_left A b
  obtain ⟨q, hq⟩ := Nat.gcd_dvd_right A b
  obtain ⟨r, hr⟩ := Nat.gcd_dvd_left C d
  obtain ⟨s, hs⟩ := Nat.gcd_dvd_right C d
  have ep : A / Nat.gcd A b = p := Nat.div_eq_of_eq_mul_right g1 hp
  have e2 : b / Nat.gcd A b = q := Nat.div_eq_of_eq_mul_right g1 hq
  have e3 : C / Nat.gcd C d = r := Nat.div_eq_of_eq_mul_right g2 hr
  have e4 : d / Nat.gcd C d = s := Nat.div_eq_of_eq_mul_right g2 hs
  have key : A * d = C * b → Nat.gcd A b * d = Nat.gcd C d * b := by
    intro h
    rw [← Nat.gcd_mul_right, ← Nat.gcd_mul_right, h, Nat.mul_comm b d]
  rw [ep, e2, e3, e4]
  clear ep e2 e3 e4
  generalize Nat.gcd A b = G1 at *
  generalize Nat.gcd C d = G2 at *
  subst hp hq hr hs
  constructor
  · rintro ⟨rfl, rfl⟩
    simp only [Nat.mul_comm, Nat.mul_left_comm]
  · intro h
    have k := key h
    have hqs : s = q := by
      have : G1 * G2 * s = G1 * G2 * q := by
        rw [Nat.mul_assoc, k, Nat.mul_left_comm, Nat.mul_assoc]
      exact Nat.eq_of_mul_eq_mul_left (Nat.mul_pos g1 g2) this
    subst hqs
    have hs0 : 0 < s := by
      apply Nat.pos_of_ne_zero
      rintro rfl
      simp at hb
    refine ⟨?_, rfl⟩
    have : G1 * G2 * s * p = G1 * G2 * s * r := by
      have e1 : G1 * p * (G2 * s) = G1 * G2 * s * p := by simp only [Nat.mul_comm, Nat.mul_left_comm]
      have e2 : G2 * r * (G1 * s) = G1 * G2 * s * r := by simp only [Nat.mul_comm, Nat.mul_left_comm]
      rw [← e1, ← e2]; exact h
    exact Nat.eq_of_mul_eq_mul_left (Nat.mul_pos (Nat.mul_pos g1 g2) hs0) this
theorem low_eq {a b : Int} (hb : 0 < clamp b) : lowM a b = ((if clamp a < 0 then -(((absC a).toNat / gcdN a b : Nat) : Int) else (((absC a).toNat / gcdN a b : Nat) : Int)), (((absC b).toNat / gcdN a b : Nat) : Int)) := by
  have ha := absC_range a
  have hb2 := absC_range b
  unfold lowM
  rw [if_neg (show ¬ clamp b = 0 by omega), if_neg (show ¬ clamp b < 0 by omega)]
  have e : ∀ x : Int, 0 ≤ x → x / (gcdN a b : Int) = ((x.toNat / gcdN a b : Nat) : Int) := by
    intro x hx
    obtain ⟨n, rfl⟩ := Int.eq_ofNat_of_zero_le hx
    rfl
  congr 1
  · by_cases c : clamp a < 0
    · have ea : absC a = -clamp a := if_pos c
      rw [if_pos c, ← e _ ha.1, ea, ← Int.tdiv_eq_ediv_of_nonneg (show 0 ≤ -clamp a by omega), Int.neg_tdiv, Int.neg_neg]
    · have ea : absC a = clamp a := if_neg c
      rw [if_neg c, ← e _ ha.1, ea, Int.tdiv_eq_ediv_of_nonneg (show 0 ≤ clamp a by omega)]
  · exact e _ hb2.1
theorem low_iff {a b c d : Int} (hb : 0 < clamp b) (hd : 0 < clamp d) : lowM a b = lowM c d ↔ clamp a * clamp d = clamp c * clamp b := by
  have ha := absC_range a
  have hc := absC_range c
  have hbr := absC_range b
  have hdr := absC_range d
  have eb : absC b = clamp b := if_neg (by omega)
  have ed : absC d = clamp d := if_neg (by omega)
  have n := nat_lowest (A := (absC a).toNat) (b := (absC b).toNat) (C := (absC c).toNat) (d := (absC d).toNat) (by omega) (by omega)
  have cast : (absC a).toNat * (absC d).toNat = (absC c).toNat * (absC b).toNat ↔ absC a * absC d = absC c * absC b := by
    have h1 : (((absC a).toNat * (absC d).toNat : Nat) : Int) = absC a * absC d := by rw [Int.natCast_mul, absC_cast, absC_cast]
    have h2 : (((absC c).toNat * (absC b).toNat : Nat) : Int) = absC c * absC b := by rw [Int.natCast_mul, absC_cast, absC_cast]
    rw [← h1, ← h2]; omega
  rw [cast] at n
  obtain ⟨s1, s2⟩ := sides (a := a) (c := c) hb hd
  rw [low_eq hb, low_eq hd, s1, s2, Prod.mk.injEq]
  have p1 : 0 ≤ absC a * absC d := Int.mul_nonneg ha.1 hdr.1
  have p2 : 0 ≤ absC c * absC b := Int.mul_nonneg hc.1 hbr.1
  have pos : ∀ x y : Int, clamp x < 0 → 0 < (absC x).toNat / gcdN x y := by
    intro x y hx
    have ex : absC x = -clamp x := if_pos hx
    have hp : 0 < (absC x).toNat := by omega
    exact Nat.div_pos (Nat.gcd_le_left _ hp) (Nat.gcd_pos_of_pos_left _ hp)
  have pa := pos a b
  have pc := pos c d
  have ma : clamp a < 0 → 0 < absC a * absC d := fun h => mul_pos_of h hd
  have mc : clamp c < 0 → 0 < absC c * absC b := fun h => mul_pos_of h hb
  clear pos cast
  unfold gcdN at *
  generalize (absC a).toNat / (absC a).toNat.gcd (absC b).toNat = P at *
  generalize (absC c).toNat / (absC c).toNat.gcd (absC d).toNat = Q at *
  generalize (absC b).toNat / (absC a).toNat.gcd (absC b).toNat = R at *
  generalize (absC d).toNat / (absC c).toNat.gcd (absC d).toNat = T at *
  generalize absC a * absC d = u at *
  generalize absC c * absC b = v at *
  by_cases ca : clamp a < 0
  · have pa := pa ca
    have ma := ma ca
    rw [if_pos ca, if_pos ca]
    by_cases cc : clamp c < 0
    · rw [if_pos cc, if_pos cc]
      constructor
      · intro h; have := n.1 (by omega); omega
      · intro h; have := n.2 (by omega); omega
    · rw [if_neg cc, if_neg cc]
      constructor <;> (intro h; exfalso; omega)
  · rw [if_neg ca, if_neg ca]
    by_cases cc : clamp c < 0
    · have pc := pc cc
      have mc := mc cc
      rw [if_pos cc, if_pos cc]
      constructor <;> (intro h; exfalso; omega)
    · rw [if_neg cc, if_neg cc]
      constructor
      · intro h; have := n.1 (by omega); omega
      · intro h; have := n.2 (by omega); omega
end Go.Proofs.Ytdkmmddakidieaa.P
