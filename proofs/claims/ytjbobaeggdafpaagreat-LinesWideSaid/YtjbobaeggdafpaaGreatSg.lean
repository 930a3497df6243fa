/- Greatest common divisors, lowest terms: the program's and the reference's. -/
import Derived.Test.YtjbobaeggdafpaaGreatSb
namespace Go.Proofs.YtjbobaeggdafpaaGreat.Vm
open Go
open _root_.Go.RowKit (wrap64)
open Go.Proofs.YtjbobaeggdafpaaGreat.BadM (clamp clamp_le clamp_ge clamp_id clamp_clamp)
theorem gcd_step (x y : Nat) : Nat.gcd x y = Nat.gcd y (x % y) := by
 rw [Nat.gcd_comm x y, Nat.gcd_rec y x, Nat.gcd_comm]
theorem tmod_nat (x y : Nat) : Int.tmod (x : Int) (y : Int) = ((x % y : Nat) : Int) := by
 rw [Int.tmod_eq_emod_of_nonneg (by omega)]; rfl
theorem scaled_gcd_loop : ∀ (y x : Nat), x ≤ 1152921504606846976 → y ≤ 1152921504606846976 → Ev (fun k => scaled_Gcd.l0 k (x : Int) (y : Int)) ((Nat.gcd x y : Nat) : Int) := by
 intro y
 induction y using Nat.strongRecOn with
 | _ y ih =>
  intro x hx hy
  by_cases c : y = 0
  · subst c
    exact Ev.st (fun k => by rw [scaled_Gcd.l0]) (Ev.dn (by omega) (Ev.some_ (by rw [w64 (by omega) (by omega), Nat.gcd_zero_right])))
  · have hm : x % y < y := Nat.mod_lt _ (by omega)
    refine Ev.st (fun k => by rw [scaled_Gcd.l0]) (Ev.dp (by omega) (Ev.ifp (by omega) ?_))
    rw [tmod_nat, gcd_step]
    exact ih (x % y) hm y hy (by omega)
theorem ref_gcd_loop : ∀ (y x : Nat), Ev (fun k => regletref01_Gcd.l2 k (x : Int) (y : Int)) ((Nat.gcd x y : Nat) : Int) := by
 intro y
 induction y using Nat.strongRecOn with
 | _ y ih =>
  intro x
  by_cases c : y = 0
  · subst c
    exact Ev.st (fun k => by rw [regletref01_Gcd.l2]) (Ev.xn (by omega) (Ev.some_ (by rw [Nat.gcd_zero_right])))
  · have hm : x % y < y := Nat.mod_lt _ (by omega)
    refine Ev.st (fun k => by rw [regletref01_Gcd.l2]) (Ev.xp (by omega) (Ev.ifp (by omega) ?_))
    rw [tmod_nat, gcd_step]
    exact ih (x % y) hm y
def gcdN (a b : Int) : Nat := Nat.gcd (absC a).toNat (absC b).toNat
theorem absC_cast (a : Int) : (((absC a).toNat : Nat) : Int) = absC a := by have := absC_range a; omega
theorem scaled_size_ev (a : Int) : Ev (fun k => scaled_size.f k a) (absC a) := by
 have a1 := clamp_le a
 have a2 := clamp_ge a
 refine Ev.bind (scaled_Clamp_ev a) ?_
 unfold absC
 refine Ev.dc (fun c => Ev.some_ ?_) (fun c => Ev.some_ ?_)
 · rw [if_pos c, w64 (by omega) (by omega), u64id (by omega) (by omega)]
 · rw [if_neg c, u64id (by omega) (by omega)]
theorem scaled_Gcd_ev (a b : Int) : Ev (fun k => scaled_Gcd.f k a b) (gcdN a b : Int) := by
 have ha := absC_range a
 have hb := absC_range b
 have := scaled_gcd_loop (absC b).toNat (absC a).toNat (by omega) (by omega)
 rw [absC_cast, absC_cast] at this
 exact Ev.bind (scaled_size_ev a) (Ev.bind (scaled_size_ev b) this)
theorem ref_Gcd_ev (a b : Int) : Ev (fun k => regletref01_Gcd.f k a b) (gcdN a b : Int) := by
 have a1 := clamp_le a
 have a2 := clamp_ge a
 have b1 := clamp_le b
 have b2 := clamp_ge b
 have g := ref_gcd_loop (absC b).toNat (absC a).toNat
 rw [absC_cast, absC_cast] at g
 refine Ev.bind (ref_Clamp_ev a) (Ev.bind (ref_Clamp_ev b) ?_)
 rw [w64 (x := -clamp a) (by omega) (by omega)]
 have inner : ∀ x, x = absC a → Ev (fun k => regletref01_Gcd.j0 k x (clamp b)) (gcdN a b : Int) := by
  intro x hx
  refine Ev.st (fun k => by rw [regletref01_Gcd.j0]) ?_
  rw [w64 (x := -clamp b) (by omega) (by omega)]
  subst hx
  refine Ev.dc (fun c => Ev.st (fun k => by rw [regletref01_Gcd.j1]) ?_) (fun c => Ev.st (fun k => by rw [regletref01_Gcd.j1]) ?_)
  · have e : absC b = -clamp b := if_pos c
    rw [← e]; exact g
  · have e : absC b = clamp b := if_neg c
    rw [← e]; exact g
 exact Ev.dc (fun c => inner _ (if_pos c).symm) (fun c => inner _ (if_neg c).symm)
def lowM (a b : Int) : Int × Int := if clamp b = 0 then (0, 1) else (Int.tdiv (if clamp b < 0 then -clamp a else clamp a) (gcdN a b), absC b / (gcdN a b : Int))
theorem absC_neg (a : Int) : absC (-clamp a) = absC a := by
 have a1 := clamp_le a
 have a2 := clamp_ge a
 have : clamp (-clamp a) = -clamp a := clamp_id (by omega) (by omega)
 unfold absC
 rw [this]
 split <;> split <;> omega
theorem absC_nil {c : Int} : absC c = 0 ↔ clamp c = 0 := by unfold absC; split <;> omega
theorem gcd_pos {a b : Int} (h : clamp b ≠ 0) : 0 < gcdN a b := by
 have h1 := mt absC_nil.1 h
 have h2 := absC_range b
 exact Nat.gcd_pos_of_pos_right _ (by omega)
theorem tdiv_small {x : Int} {g : Nat} (h0 : -1152921504606846976 ≤ x) (h1 : x ≤ 1152921504606846976) : -1152921504606846976 ≤ Int.tdiv x g ∧ Int.tdiv x g ≤ 1152921504606846976 := by
 by_cases c : 0 ≤ x
 · rw [Int.tdiv_eq_ediv_of_nonneg c]
   have a := Int.ediv_nonneg c (show 0 ≤ (g : Int) by omega)
   have b := Int.ediv_le_self (g : Int) c
   omega
 · have e : Int.tdiv x g = -Int.tdiv (-x) g := by rw [Int.neg_tdiv, Int.neg_neg]
   rw [e, Int.tdiv_eq_ediv_of_nonneg (show 0 ≤ -x by omega)]
   have a := Int.ediv_nonneg (show 0 ≤ -x by omega) (show 0 ≤ (g : Int) by omega)
   have b := Int.ediv_le_self (g : Int) (show 0 ≤ -x by omega)
   omega
theorem scaled_Lowest_ev (a b : Int) : Ev (fun k => scaled_Lowest.f k a b) (lowM a b) := by
 have a1 := clamp_le a
 have a2 := clamp_ge a
 have b1 := clamp_le b
 have b2 := clamp_ge b
 refine Ev.bind (scaled_Clamp_ev a) (Ev.bind (scaled_Clamp_ev b) (Ev.dc (fun c => Ev.some_ (by unfold lowM; rw [if_pos c])) (fun c => ?_)))
 have hg := gcd_pos (a := a) c
 have el : lowM a b = (Int.tdiv (if clamp b < 0 then -clamp a else clamp a) (gcdN a b), absC b / (gcdN a b : Int)) := if_neg c
 rw [el, w64 (x := -clamp a) (by omega) (by omega), w64 (x := -clamp b) (by omega) (by omega)]
 have tb : Int.tdiv (absC b) (gcdN a b) = absC b / (gcdN a b : Int) := Int.tdiv_eq_ediv_of_nonneg (absC_range b).1
 have rb := tdiv_small (g := gcdN a b) (x := absC b) (by have := absC_range b; omega) (absC_range b).2
 refine Ev.dc (fun d => ?_) (fun d => ?_)
 · have g := scaled_Gcd_ev (-clamp a) (-clamp b)
   have e : gcdN (-clamp a) (-clamp b) = gcdN a b := by unfold gcdN; rw [absC_neg, absC_neg]
   rw [e] at g
   have eb : absC b = -clamp b := if_pos d
   have ra := tdiv_small (g := gcdN a b) (x := -clamp a) (by omega) (by omega)
   rw [eb] at rb tb
   refine Ev.st (fun k => by rw [scaled_Lowest.j0]) (Ev.bind g ?_)
   refine Ev.ifp (by omega) (Ev.ifp (by omega) (Ev.some_ ?_))
   rw [w64 (by omega) (by omega), w64 (by omega) (by omega), if_pos d, tb, eb]
 · have g := scaled_Gcd_ev (clamp a) (clamp b)
   have e : gcdN (clamp a) (clamp b) = gcdN a b := by unfold gcdN absC; rw [clamp_clamp, clamp_clamp]
   rw [e] at g
   have eb : absC b = clamp b := if_neg d
   have ra := tdiv_small (g := gcdN a b) (x := clamp a) (by omega) (by omega)
   rw [eb] at rb tb
   refine Ev.st (fun k => by rw [scaled_Lowest.j0]) (Ev.bind g ?_)
   refine Ev.ifp (by omega) (Ev.ifp (by omega) (Ev.some_ ?_))
   rw [w64 (by omega) (by omega), w64 (by omega) (by omega), if_neg d, tb, eb]
theorem ref_Lowest_ev (a b : Int) : Ev (fun k => regletref01_Lowest.f k a b) (lowM a b) := by
 have a1 := clamp_le a
 have a2 := clamp_ge a
 have b1 := clamp_le b
 have b2 := clamp_ge b
 refine Ev.bind (ref_Clamp_ev a) (Ev.bind (ref_Clamp_ev b) (Ev.dc (fun c => Ev.some_ (by unfold lowM; rw [if_pos c])) (fun c => ?_)))
 have hg := gcd_pos (a := a) c
 have hgl : (gcdN a b : Int) ≤ 1152921504606846976 := by
  have h2 := absC_range b
  have h1 := mt absC_nil.1 c
  have : gcdN a b ≤ (absC b).toNat := Nat.gcd_le_right _ (by omega)
  omega
 have el : lowM a b = (Int.tdiv (if clamp b < 0 then -clamp a else clamp a) (gcdN a b), absC b / (gcdN a b : Int)) := if_neg c
 have g := ref_Gcd_ev (clamp a) (clamp b)
 have e : gcdN (clamp a) (clamp b) = gcdN a b := by unfold gcdN absC; rw [clamp_clamp, clamp_clamp]
 rw [e] at g
 have tb : Int.tdiv (absC b) (gcdN a b) = absC b / (gcdN a b : Int) := Int.tdiv_eq_ediv_of_nonneg (absC_range b).1
 have rb := tdiv_small (g := gcdN a b) (x := absC b) (by have := absC_range b; omega) (absC_range b).2
 rw [el]
 refine Ev.bind g ?_
 rw [w64 (x := -(gcdN a b : Int)) (by omega) (by omega)]
 refine Ev.dc (fun d => Ev.st (fun k => by rw [regletref01_Lowest.j0]) (Ev.ifp (by omega) (Ev.ifp (by omega) (Ev.some_ ?_)))) (fun d => Ev.st (fun k => by rw [regletref01_Lowest.j0]) (Ev.ifp (by omega) (Ev.ifp (by omega) (Ev.some_ ?_))))
 · have eb : absC b = -clamp b := if_pos d
   have ra := tdiv_small (g := gcdN a b) (x := -clamp a) (by omega) (by omega)
   rw [eb] at rb tb
   rw [Int.tdiv_neg, ← Int.neg_tdiv, Int.tdiv_neg, ← Int.neg_tdiv, w64 (by omega) (by omega), w64 (by omega) (by omega), if_pos d, tb, eb]
 · have eb : absC b = clamp b := if_neg d
   have ra := tdiv_small (g := gcdN a b) (x := clamp a) (by omega) (by omega)
   rw [eb] at rb tb
   rw [w64 (by omega) (by omega), w64 (by omega) (by omega), if_neg d, tb, eb]
theorem low_pos (a b : Int) : (lowM a b).2 > 0 := by
 unfold lowM
 by_cases c : clamp b = 0
 · rw [if_pos c]; show (1 : Int) > 0; omega
 · rw [if_neg c]
   show absC b / (gcdN a b : Int) > 0
   have hg := gcd_pos (a := a) c
   have h2 := absC_range b
   have h1 := mt absC_nil.1 c
   have : gcdN a b ≤ (absC b).toNat := Nat.gcd_le_right _ (by omega)
   have : 1 ≤ absC b / (gcdN a b : Int) := (Int.le_ediv_iff_mul_le (by omega)).2 (by omega)
   omega
end Go.Proofs.YtjbobaeggdafpaaGreat.Vm
