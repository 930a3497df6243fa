/- Greatest common divisors, lowest terms: the program's and the reference's. -/
import Derived.Test.YtjbobaeggdafpaaGreatSb
namespace Go.Proofs.YtjbobaeggdafpaaGreat.Vm
open Go
open _root_.Go.RowKit (wrap64)
open Go.Proofs.YtjbobaeggdafpaaGreat.BadM (yL wS vH qH uR)
theorem gcd_step (x y : Nat) : Nat.gcd x y = Nat.gcd y (x % y) := by
 rw [Nat.gcd_comm x y, Nat.gcd_rec y x, Nat.gcd_comm]
theorem tmod_nat (x y : Nat) : Int.tmod (x : Int) (y : Int) = ((x % y : Nat) : Int) := by
 rw [Int.tmod_eq_emod_of_nonneg (by omega)]; rfl
theorem scaled_gcd_loop : ∀ (y x : Nat), x ≤ 1152921504606846976 → y ≤ 1152921504606846976 → Ev (fun k => zAs.l0 k (x : Int) (y : Int)) ((Nat.gcd x y : Nat) : Int) := by
 intro y
 induction y using Nat.strongRecOn with
 | _ y ih =>
  intro x hx hy
  by_cases c : y = 0
  · subst c
    exact Ev.st (fun k => by rw [zAs.l0]) (Ev.dn (by omega) (Ev.some_ (by rw [w64 (by omega) (by omega), Nat.gcd_zero_right])))
  · have hm : x % y < y := Nat.mod_lt _ (by omega)
    refine Ev.st (fun k => by rw [zAs.l0]) (Ev.dp (by omega) (Ev.ifp (by omega) ?_))
    rw [tmod_nat, gcd_step]
    exact ih (x % y) hm y hy (by omega)
theorem ref_gcd_loop : ∀ (y x : Nat), Ev (fun k => xY.l2 k (x : Int) (y : Int)) ((Nat.gcd x y : Nat) : Int) := by
 intro y
 induction y using Nat.strongRecOn with
 | _ y ih =>
  intro x
  by_cases c : y = 0
  · subst c
    exact Ev.st (fun k => by rw [xY.l2]) (Ev.xn (by omega) (Ev.some_ (by rw [Nat.gcd_zero_right])))
  · have hm : x % y < y := Nat.mod_lt _ (by omega)
    refine Ev.st (fun k => by rw [xY.l2]) (Ev.xp (by omega) (Ev.ifp (by omega) ?_))
    rw [tmod_nat, gcd_step]
    exact ih (x % y) hm y
def gcdN (a b : Int) : Nat := Nat.gcd (absC a).toNat (absC b).toNat
theorem zCW (a : Int) : (((absC a).toNat : Nat) : Int) = absC a := by have := vC a; omega
theorem zAG (a : Int) : Ev (fun k => uS.f k a) (absC a) := by
 have a1 := wS a
 have a2 := vH a
 refine Ev.bind (vA a) ?_
 unfold absC
 refine Ev.dc (fun c => Ev.some_ ?_) (fun c => Ev.some_ ?_)
 · rw [if_pos c, w64 (by omega) (by omega), zCt (by omega) (by omega)]
 · rw [if_neg c, zCt (by omega) (by omega)]
theorem zCR (a b : Int) : Ev (fun k => zAs.f k a b) (gcdN a b : Int) := by
 have ha := vC a
 have hb := vC b
 have := scaled_gcd_loop (absC b).toNat (absC a).toNat (by omega) (by omega)
 rw [zCW, zCW] at this
 exact Ev.bind (zAG a) (Ev.bind (zAG b) this)
theorem ref_Gcd_ev (a b : Int) : Ev (fun k => xY.f k a b) (gcdN a b : Int) := by
 have a1 := wS a
 have a2 := vH a
 have b1 := wS b
 have b2 := vH b
 have g := ref_gcd_loop (absC b).toNat (absC a).toNat
 rw [zCW, zCW] at g
 refine Ev.bind (vD a) (Ev.bind (vD b) ?_)
 rw [w64 (x := -yL a) (by omega) (by omega)]
 have inner : ∀ x, x = absC a → Ev (fun k => xY.j0 k x (yL b)) (gcdN a b : Int) := by
  intro x hx
  refine Ev.st (fun k => by rw [xY.j0]) ?_
  rw [w64 (x := -yL b) (by omega) (by omega)]
  subst hx
  refine Ev.dc (fun c => Ev.st (fun k => by rw [xY.j1]) ?_) (fun c => Ev.st (fun k => by rw [xY.j1]) ?_)
  · have e : absC b = -yL b := if_pos c
    rw [← e]; exact g
  · have e : absC b = yL b := if_neg c
    rw [← e]; exact g
 exact Ev.dc (fun c => inner _ (if_pos c).symm) (fun c => inner _ (if_neg c).symm)
def lowM (a b : Int) : Int × Int := if yL b = 0 then (0, 1) else (Int.tdiv (if yL b < 0 then -yL a else yL a) (gcdN a b), absC b / (gcdN a b : Int))
theorem absC_neg (a : Int) : absC (-yL a) = absC a := by
 have a1 := wS a
 have a2 := vH a
 have : yL (-yL a) = -yL a := qH (by omega) (by omega)
 unfold absC
 rw [this]
 split <;> split <;> omega
theorem absC_nil {c : Int} : absC c = 0 ↔ yL c = 0 := by unfold absC; split <;> omega
theorem gcd_pos {a b : Int} (h : yL b ≠ 0) : 0 < gcdN a b := by
 have h1 := mt absC_nil.1 h
 have h2 := vC b
 exact Nat.gcd_pos_of_pos_right _ (by omega)
theorem zAS {x : Int} {g : Nat} (h0 : -1152921504606846976 ≤ x) (h1 : x ≤ 1152921504606846976) : -1152921504606846976 ≤ Int.tdiv x g ∧ Int.tdiv x g ≤ 1152921504606846976 := by
 by_cases c : 0 ≤ x
 · rw [Int.tdiv_eq_ediv_of_nonneg c]
   have a := Int.ediv_nonneg c (show 0 ≤ (g : Int) by omega)
   have b := Int.ediv_le_self (g : Int) c
   omega
 · have e : Int.tdiv x g = -Int.tdiv (-x) g := by rw [Int.neg_tdiv, Int.neg_neg]
   rw [e, Int.tdiv_eq_ediv_of_nonneg (show 0 ≤ -x by omega)]
   have a := Int.ediv_nonneg (show 0 ≤ -x by omega) (show 0 ≤ (g : Int) by omega)
   have b := Int.ediv_le_self (g : Int) (show 0 ≤ -x by omega)
   omega
theorem zBI (a b : Int) : Ev (fun k => uP.f k a b) (lowM a b) := by
 have a1 := wS a
 have a2 := vH a
 have b1 := wS b
 have b2 := vH b
 refine Ev.bind (vA a) (Ev.bind (vA b) (Ev.dc (fun c => Ev.some_ (by unfold lowM; rw [if_pos c])) (fun c => ?_)))
 have hg := gcd_pos (a := a) c
 have el : lowM a b = (Int.tdiv (if yL b < 0 then -yL a else yL a) (gcdN a b), absC b / (gcdN a b : Int)) := if_neg c
 rw [el, w64 (x := -yL a) (by omega) (by omega), w64 (x := -yL b) (by omega) (by omega)]
 have tb : Int.tdiv (absC b) (gcdN a b) = absC b / (gcdN a b : Int) := Int.tdiv_eq_ediv_of_nonneg (vC b).1
 have rb := zAS (g := gcdN a b) (x := absC b) (by have := vC b; omega) (vC b).2
 refine Ev.dc (fun d => ?_) (fun d => ?_)
 · have g := zCR (-yL a) (-yL b)
   have e : gcdN (-yL a) (-yL b) = gcdN a b := by unfold gcdN; rw [absC_neg, absC_neg]
   rw [e] at g
   have eb : absC b = -yL b := if_pos d
   have ra := zAS (g := gcdN a b) (x := -yL a) (by omega) (by omega)
   rw [eb] at rb tb
   refine Ev.st (fun k => by rw [uP.j0]) (Ev.bind g ?_)
   refine Ev.ifp (by omega) (Ev.ifp (by omega) (Ev.some_ ?_))
   rw [w64 (by omega) (by omega), w64 (by omega) (by omega), if_pos d, tb, eb]
 · have g := zCR (yL a) (yL b)
   have e : gcdN (yL a) (yL b) = gcdN a b := by unfold gcdN absC; rw [uR, uR]
   rw [e] at g
   have eb : absC b = yL b := if_neg d
   have ra := zAS (g := gcdN a b) (x := yL a) (by omega) (by omega)
   rw [eb] at rb tb
   refine Ev.st (fun k => by rw [uP.j0]) (Ev.bind g ?_)
   refine Ev.ifp (by omega) (Ev.ifp (by omega) (Ev.some_ ?_))
   rw [w64 (by omega) (by omega), w64 (by omega) (by omega), if_neg d, tb, eb]
theorem zCL (a b : Int) : Ev (fun k => wU.f k a b) (lowM a b) := by
 have a1 := wS a
 have a2 := vH a
 have b1 := wS b
 have b2 := vH b
 refine Ev.bind (vD a) (Ev.bind (vD b) (Ev.dc (fun c => Ev.some_ (by unfold lowM; rw [if_pos c])) (fun c => ?_)))
 have hg := gcd_pos (a := a) c
 have hgl : (gcdN a b : Int) ≤ 1152921504606846976 := by
  have h2 := vC b
  have h1 := mt absC_nil.1 c
  have : gcdN a b ≤ (absC b).toNat := Nat.gcd_le_right _ (by omega)
  omega
 have el : lowM a b = (Int.tdiv (if yL b < 0 then -yL a else yL a) (gcdN a b), absC b / (gcdN a b : Int)) := if_neg c
 have g := ref_Gcd_ev (yL a) (yL b)
 have e : gcdN (yL a) (yL b) = gcdN a b := by unfold gcdN absC; rw [uR, uR]
 rw [e] at g
 have tb : Int.tdiv (absC b) (gcdN a b) = absC b / (gcdN a b : Int) := Int.tdiv_eq_ediv_of_nonneg (vC b).1
 have rb := zAS (g := gcdN a b) (x := absC b) (by have := vC b; omega) (vC b).2
 rw [el]
 refine Ev.bind g ?_
 rw [w64 (x := -(gcdN a b : Int)) (by omega) (by omega)]
 refine Ev.dc (fun d => Ev.st (fun k => by rw [wU.j0]) (Ev.ifp (by omega) (Ev.ifp (by omega) (Ev.some_ ?_)))) (fun d => Ev.st (fun k => by rw [wU.j0]) (Ev.ifp (by omega) (Ev.ifp (by omega) (Ev.some_ ?_))))
 · have eb : absC b = -yL b := if_pos d
   have ra := zAS (g := gcdN a b) (x := -yL a) (by omega) (by omega)
   rw [eb] at rb tb
   rw [Int.tdiv_neg, ← Int.neg_tdiv, Int.tdiv_neg, ← Int.neg_tdiv, w64 (by omega) (by omega), w64 (by omega) (by omega), if_pos d, tb, eb]
 · have eb : absC b = yL b := if_neg d
   have ra := zAS (g := gcdN a b) (x := yL a) (by omega) (by omega)
   rw [eb] at rb tb
   rw [w64 (by omega) (by omega), w64 (by omega) (by omega), if_neg d, tb, eb]
end Go.Proofs.YtjbobaeggdafpaaGreat.Vm
