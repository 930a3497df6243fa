/- The plain law of books: the reference's Replace tells what Replace tells. -/
import Derived.Test.YtnlocbjojbgdcaaPj
namespace Go.Proofs.Ytnlocbjojbgdcaa.Vm
open Go
open _root_.Go.RowKit (wrap64)
section
variable {B : repage_Book} {come : List api_Slot} {first gone : Int} {p : Nat} {mid tail : List Int}
theorem ref_count (R : Repl B come first gone p mid tail) (m : MayBe B.1 come first gone) (hl : (B.1.length : Int) ≤ 1000000) (hc : (come.length : Int) ≤ 1000000) (ch : Chain B.1 B.2.2.2 B.2.2.1 0 B.2.1) (nl : List api_Slot) (w z : regletlaw13_Start) (now : List Int) (hnow : now = B.2.1.take p ++ mid ++ tail) :
 ∀ (d : Nat) (c : Int), 0 ≤ c → c + d = mid.length → Ev (fun k => regletref13_Replace.l2 k first gone come nl B.2.1 now (p : Int) c (p + c) w z) ((nl, w.2), (p : Int), (mid.length : Int)) := by
 have f0 := m.fits.f0; have g0 := m.fits.g0; have le := m.fits.le
 have sl := ch.length_le
 have rl := R.len
 have nlen := R.chain.length_le
 have spl := spl_len (come := come) m.fits
 have mids := fun {i : Int} => R.mids (i := i)
 have tails := fun {i : Int} => R.tails (i := i)
 have rng := R.chain.ge
 have hp := R.le
 obtain ⟨frm, A⟩ := R.again
 have news := A.news
 have stay := A.stay
 have inm : ∀ x, x ∈ mid → x ∈ B.2.1.take p ++ mid ++ tail := fun x hx => by simp [hx]
 have int : ∀ x, x ∈ tail → x ∈ B.2.1.take p ++ mid ++ tail := fun x hx => by simp [hx]
 rw [← hnow] at rl mids tails rng nlen inm int
 have done : ∀ c : Int, c = mid.length → Ev (fun k => regletref13_Replace.j3 k nl (p : Int) c w z) ((nl, w.2), (p : Int), (mid.length : Int)) := fun c e => by
  subst e
  exact Ev.st (fun k => by rw [regletref13_Replace.j3]) (Ev.now _)
 intro d
 induction d with
 | zero =>
  intro c h0 h1
  have hcm : c = mid.length := by omega
  refine Ev.st (fun k => by rw [regletref13_Replace.l2]) ?_
  by_cases ht : (p + c : Int) < now.length
  · refine Ev.dp ht (Ev.gx (by omega) ht ?_)
    refine Ev.gx (by omega) ht ?_
    have htail : tail.length ≠ 0 := by omega
    rcases stay with rfl | ⟨q, hq, hf, ht2⟩
    · simp at htail
    have e0 : rd now (p + c) = rd B.2.1 q + (come.length - gone) := by
     rw [tails (by omega), ht2, hcm, show (p : Int) + mid.length - (p + mid.length) = 0 by omega, rd_map (by omega) (by rw [List.length_drop]; omega), rd_drop _ (by omega), Int.add_zero]
    have hqm : rd B.2.1 q ∈ B.2.1 := rd_mem (by omega) (by omega)
    have hqr := ch.ge _ hqm
    rw [e0, w64 (x := first + (come.length : Int)) (by omega) (by omega)]
    refine Ev.dp (by omega) ?_
    rw [w64 (x := rd B.2.1 q + ((come.length : Int) - gone) - come.length) (by omega) (by omega), show rd B.2.1 (q : Int) + ((come.length : Int) - gone) - come.length + gone = rd B.2.1 q by omega, w64 (x := rd B.2.1 (q : Int)) (by omega) (by omega)]
    refine Ev.bind (in_ev (by omega)) (Ev.ifp (isTrue_yes hqm) (done c hcm))
  · exact Ev.dn ht (done c hcm)
 | succ d ih =>
  intro c h0 h1
  have hm := mids (i := p + c) (by omega) (by omega)
  have hx := rng _ (inm _ hm)
  have hn := news _ hm
  have next : Ev (fun k => regletref13_Replace.j4 k first gone come nl B.2.1 now (p : Int) c (p + c) w z) ((nl, w.2), (p : Int), (mid.length : Int)) := by
   refine Ev.st (fun k => by rw [regletref13_Replace.j4]) ?_
   rw [w64 (x := c + 1) (by omega) (by omega), w64 (x := (p : Int) + c + 1) (by omega) (by omega), show (p : Int) + c + 1 = p + (c + 1) by omega]
   exact ih (c + 1) (by omega) (by omega)
  refine Ev.st (fun k => by rw [regletref13_Replace.l2]) (Ev.dp (by omega) ?_)
  refine Ev.gx (by omega) (by omega) ?_
  refine Ev.gx (by omega) (by omega) ?_
  rw [w64 (x := first + (come.length : Int)) (by omega) (by omega)]
  refine Ev.dc (fun c1 => ?_) (fun _ => next)
  rw [w64 (x := rd now (p + c) - (come.length : Int)) (by omega) (by omega), w64 (x := rd now (p + c) - (come.length : Int) + gone) (by omega) (by omega)]
  refine Ev.bind (in_ev (by omega)) (Ev.ifn (fun q => ?_) next)
  refine hn ⟨by omega, ?_⟩
  rw [show rd now (p + c) - ((come.length : Int) - gone) = rd now (p + c) - (come.length : Int) + gone by omega]
  exact isTrue_iff.1 q
def pv (u : Int) : Int := if 0 < u - 1 then u - 1 else 0
theorem ref_from {r : regletlaw13_Start × Int × Int} {v : Int} (hv : LastAt B.2.1 first v) (hl : (B.2.1.length : Int) ≤ 1000000) (nl : List api_Slot) (w z : regletlaw13_Start) (now : List Int)
 (h : Ev (fun k => regletref13_Replace.l2 k first gone come nl B.2.1 now (pv v) 0 (pv v) w z) r) :
 ∀ (d : Nat) (i u : Int), 0 ≤ i → i + d = B.2.1.length → ((u = i - 1 ∧ i - 1 ≤ v) ∨ (u = v ∧ v ≤ i - 1)) → Ev (fun k => regletref13_Replace.l0 k first gone come nl B.2.1 now (pv u) i w z) r := by
 obtain ⟨v0, v1, v2, v3⟩ := hv
 intro d
 induction d with
 | zero =>
  intro i u h0 h1 hu
  refine Ev.st (fun k => by rw [regletref13_Replace.l0]) (Ev.dn (by omega) ?_)
  rw [show u = v by omega]
  exact h
 | succ d ih =>
  intro i u h0 h1 hu
  have next : ∀ x u', x = pv u' → ((u' = i ∧ i ≤ v) ∨ (u' = v ∧ v ≤ i)) → Ev (fun k => regletref13_Replace.j1 k first gone come nl B.2.1 now x i w z) r := fun x u' e hu' => by
   subst e
   refine Ev.st (fun k => by rw [regletref13_Replace.j1]) ?_
   rw [w64 (x := i + 1) (by omega) (by omega)]
   exact ih (i + 1) u' (by omega) (by omega) (by omega)
  refine Ev.st (fun k => by rw [regletref13_Replace.l0]) (Ev.dp (by omega) (Ev.gx h0 (by omega) ?_))
  by_cases c : i ≤ v
  · refine Ev.dp (v2 i h0 c) ?_
    by_cases c0 : 0 < i
    · refine Ev.dp c0 (next _ i ?_ (.inl ⟨rfl, c⟩))
      rw [w64 (x := i - 1) (by omega) (by omega)]
      unfold pv
      split <;> omega
    · refine Ev.dn c0 (next _ i ?_ (.inl ⟨rfl, c⟩))
      unfold pv
      rw [if_neg (by omega), if_neg (by omega)]
  · refine Ev.dn (by have := v3 i (by omega) (by omega); omega) (next _ v ?_ (.inr ⟨rfl, by omega⟩))
    rw [show u = v by omega]
theorem ref_Replace_ev (R : Repl B come first gone p mid tail) (m : MayBe B.1 come first gone) (hl : (B.1.length : Int) ≤ 100000) (hc : (come.length : Int) ≤ 100000) (hw : Wf B.1) (hwc : Wf come) (hr : RightL B.1) (hok : HgtOk B.2.2.1 ∧ SetOk B.2.2.2) (ch : Chain B.1 B.2.2.2 B.2.2.1 0 B.2.1) :
 Ev (fun k => regletref13_Replace.f k (B.1, B.2.2) first gone come) ((spl B.1 come first gone, B.2.2), (p : Int), (mid.length : Int)) := by
 have f0 := m.fits.f0; have g0 := m.fits.g0; have le := m.fits.le
 have len := spl_len (come := come) m.fits
 have sl := ch.length_le
 have hsr := spl_right m.fits hr m.right m.one m.two
 have hsw := spl_wf (come := come) m.fits hw hwc (by omega)
 have e1 : ((([] : List api_Slot) ++ ((B.1.drop ((0 : Int).toNat)).take (first.toNat - (0 : Int).toNat))) ++ come) ++ ((B.1.drop ((first + gone).toNat)).take ((B.1.length : Int).toNat - (first + gone).toNat)) = spl B.1 come first gone := by
  rw [List.take_of_length_le (l := B.1.drop ((first + gone).toNat)) (by simp)]
  simp [spl]
 have rep := R.chain
 obtain ⟨v, hv, hp⟩ := R.at_
 unfold regletref13_Replace.f
 dsimp only
 rw [w64 (x := first + gone) (by omega) (by omega), e1]
 refine Ev.ifp ⟨by omega, by omega, by omega⟩ (Ev.ifp (by simp; omega) (Ev.ifp (by simp; omega) ?_))
 refine Ev.ifp ⟨by omega, by omega, by omega⟩ (Ev.ifp (by simp; omega) ?_)
 refine Ev.bind (chain_ref hw (by unfold Few; omega) hok hr ch) ?_
 refine Ev.bind (chain_ref hsw (by unfold Few; omega) hok hsr rep) ?_
 refine ref_from (B := B) hv (by omega) _ (B.1, B.2.2) _ _ ?_ B.2.1.length 0 (-1) (by omega) (by omega) (.inl ⟨by omega, by have := hv.1; omega⟩)
 have := ref_count R m (by omega) (by omega) ch (spl B.1 come first gone) (B.1, B.2.2) (([] : List api_Slot), 0, 0, 0, 0, 0, 0, 0, 0) _ rfl mid.length 0 (by omega) (by omega)
 rw [Int.add_zero, hp] at this
 rw [hp]
 exact this
end
end Go.Proofs.Ytnlocbjojbgdcaa.Vm
