/- The plain law of pages: what the printed functions of the program and of the reference come to. -/
import Derived.Test.YtnlocbjojbgdcaaQ1
import Derived.Test.YtnlocbjojbgdcaaEv
import Derived.Test.YtnlocbjojbgdcaaV3
namespace Go.Proofs.Ytnlocbjojbgdcaa.Vm
open Go
open _root_.Go.RowKit (wrap64)
open Classical in
noncomputable def errOf (p : Prop) : Int := if p then 0 else 1
theorem errOf_yes {p : Prop} (h : p) : errOf p = 0 := by unfold errOf; exact if_pos h
theorem errOf_no {p : Prop} (h : ¬ p) : errOf p = 1 := by unfold errOf; exact if_neg h
open Classical in
noncomputable def isTrue (p : Prop) : Bool := if p then true else false
theorem isTrue_yes {p : Prop} (h : p) : isTrue p = true := by unfold isTrue; exact if_pos h
theorem isTrue_no {p : Prop} (h : ¬ p) : isTrue p = false := by unfold isTrue; exact if_neg h
theorem isTrue_iff {p : Prop} : isTrue p = true ↔ p := by
 by_cases h : p
 · exact ⟨fun _ => h, fun _ => isTrue_yes h⟩
 · exact ⟨(fun e => by rw [isTrue_no h] at e; cases e), fun q => absurd q h⟩
def InS (s : api_Slot) : Prop := (-9223372036854775808 ≤ s.1 ∧ s.1 ≤ 9223372036854775807) ∧ (-9223372036854775808 ≤ s.2.1 ∧ s.2.1 ≤ 9223372036854775807) ∧ (-9223372036854775808 ≤ s.2.2.1 ∧ s.2.2.1 ≤ 9223372036854775807)
def Wf (l : List api_Slot) : Prop := (l.length : Int) ≤ 4611686018427387904 ∧ ∀ i : Int, 0 ≤ i → i < l.length → InS (rd l i)
def closed (l : List api_Slot) (i : Int) : Prop := i = 0 ∨ (rd l (i - 1)).2.1 = (rd l (i - 1)).2.2.1 - 1
def slotOk (l : List api_Slot) (i : Int) : Prop :=
 1 ≤ (rd l i).1 ∧ (rd l i).1 ≤ 1048576 ∧ 0 ≤ (rd l i).2.1 ∧ (rd l i).2.1 < (rd l i).2.2.1 ∧
 (closed l i → (rd l i).2.1 = 0) ∧
 (¬ closed l i → (rd l i).2.1 = (rd l (i - 1)).2.1 + 1 ∧ (rd l i).2.2.1 = (rd l (i - 1)).2.2.1 ∧ (rd l i).2.2.2 = (rd l (i - 1)).2.2.2)
def RightL (l : List api_Slot) : Prop := (∀ i : Int, 0 ≤ i → i < l.length → slotOk l i) ∧ closed l l.length
theorem pages_Right_loop {l : List api_Slot} (hw : Wf l) : ∀ (d : Nat) (i : Int), 0 ≤ i → i + d = l.length → (∀ j, 0 ≤ j → j < i → slotOk l j) →
 Ev (fun k => pages_Right.l0 k l l (l.length : Int) i) (errOf (RightL l)) := by
 intro d
 induction d with
 | zero =>
  intro i h0 hi hok
  have e : i = l.length := by omega
  subst e
  refine Ev.st (fun k => by rw [pages_Right.l0]) (Ev.dn (by omega) ?_)
  refine Ev.dc (fun hp => ?_) (fun hp => Ev.some_ (errOf_yes ⟨hok, .inl (by omega)⟩).symm)
  have hlen := hw.1
  rw [w64 (x := (l.length : Int) - 1) (by omega) (by omega)]
  have hs := hok ((l.length : Int) - 1) (by omega) (by omega)
  have hi := (hw.2 ((l.length : Int) - 1) (by omega) (by omega)).2.2
  obtain ⟨_, _, q1, q2, _⟩ := hs
  refine Ev.at_ (by omega) (by omega) (Ev.at_ (by omega) (by omega) ?_)
  rw [w64 (x := (rd l ((l.length : Int) - 1)).2.2.1 - 1) (by omega) (by omega)]
  refine Ev.xc (fun h => Ev.some_ (errOf_no ?_).symm) (fun h => Ev.some_ (errOf_yes ⟨hok, .inr h⟩).symm)
  rintro ⟨_, hc | hc⟩
  · omega
  · exact h hc
 | succ d ih =>
  intro i h0 hi hok
  have hlen := hw.1
  have hlt : i < l.length := by omega
  have bad : ¬ slotOk l i → errOf (RightL l) = 1 := fun h => errOf_no (fun r => h (r.1 i h0 hlt))
  refine Ev.st (fun k => by rw [pages_Right.l0]) (Ev.dp hlt (Ev.at_ h0 hlt ?_))
  refine Ev.dc (fun c => Ev.some_ (bad (fun s => by have := s.1; omega)).symm) (fun c1 => ?_)
  refine Ev.dc (fun c => Ev.some_ (bad (fun s => by have := s.2.1; omega)).symm) (fun c2 => ?_)
  refine Ev.dc (fun c => Ev.some_ (bad (fun s => by have := s.2.2.1; omega)).symm) (fun c3 => ?_)
  refine Ev.dc (fun c => Ev.some_ (bad (fun s => by have := s.2.2.2.1; omega)).symm) (fun c4 => ?_)
  have next : slotOk l i → Ev (fun k => pages_Right.l0 k l l (l.length : Int) (wrap64 (i + 1))) (errOf (RightL l)) := by
   intro hs
   rw [w64 (x := i + 1) (by omega) (by omega)]
   refine ih (i + 1) (by omega) (by omega) (fun j h1 h2 => ?_)
   by_cases e : j = i
   · subst e; exact hs
   · exact hok j h1 (by omega)
  have atClosed : closed l i → Ev (fun k => if (!decide ((rd l i).2.1 = 0)) = true then some 1 else pages_Right.l0 k l l (l.length : Int) (wrap64 (i + 1))) (errOf (RightL l)) := by
   intro hc
   refine Ev.xc (fun h => Ev.some_ (bad (fun s => h (s.2.2.2.2.1 hc))).symm) (fun h => next ⟨by omega, by omega, by omega, by omega, fun _ => h, fun n => absurd hc n⟩)
  refine Ev.st (fun k => by rw [pages_Right.j1]) ?_
  by_cases e0 : i = 0
  · exact Ev.dp e0 (atClosed (.inl e0))
  · refine Ev.dn e0 ?_
    rw [w64 (x := i - 1) (by omega) (by omega)]
    obtain ⟨_, _, q1, q2, _⟩ := hok (i - 1) (by omega) (by omega)
    have hi' := (hw.2 (i - 1) (by omega) (by omega)).2.2
    have hi1 := (hw.2 (i - 1) (by omega) (by omega)).2.1
    refine Ev.at_ (by omega) (by omega) (Ev.at_ (by omega) (by omega) ?_)
    rw [w64 (x := (rd l (i - 1)).2.2.1 - 1) (by omega) (by omega)]
    by_cases hc : (rd l (i - 1)).2.1 = (rd l (i - 1)).2.2.1 - 1
    · exact Ev.dp hc (atClosed (.inr hc))
    · have nc : ¬ closed l i := by
       rintro (h | h)
       · exact e0 h
       · exact hc h
      refine Ev.dn hc (Ev.st (fun k => by rw [pages_Right.j2]) ?_)
      rw [w64 (x := i - 1) (by omega) (by omega)]
      refine Ev.at_ (by omega) (by omega) ?_
      rw [w64 (x := (rd l (i - 1)).2.1 + 1) (by omega) (by omega)]
      refine Ev.xc (fun h => Ev.some_ (bad (fun s => h (s.2.2.2.2.2 nc).1)).symm) (fun h1 => ?_)
      refine Ev.xc (fun h => Ev.some_ (bad (fun s => h (s.2.2.2.2.2 nc).2.1)).symm) (fun h2 => ?_)
      refine Ev.xc (fun h => Ev.some_ (bad (fun s => h (s.2.2.2.2.2 nc).2.2)).symm) (fun h3 => next ⟨by omega, by omega, by omega, by omega, fun n => absurd n nc, fun _ => ⟨h1, h2, h3⟩⟩)
theorem pages_Right_ev {l : List api_Slot} (hw : Wf l) : Ev (fun k => pages_Right.f k l) (errOf (RightL l)) :=
 pages_Right_loop hw l.length 0 (by omega) (by omega) (fun j h1 h2 => by omega)
theorem para {l : List api_Slot} (hr : RightL l) {i : Int} (h0 : 0 ≤ i) (hlt : i < l.length) (hc : closed l i) :
 ∀ m : Nat, (m : Int) < (rd l i).2.2.1 → i + m < l.length ∧ (rd l (i + m)).2.1 = m ∧ (rd l (i + m)).2.2.1 = (rd l i).2.2.1 ∧ (rd l (i + m)).2.2.2 = (rd l i).2.2.2 := by
 intro m
 induction m with
 | zero =>
  intro _
  have := (hr.1 i h0 hlt).2.2.2.2.1 hc
  rw [show i + ((0 : Nat) : Int) = i by omega]
  exact ⟨hlt, this, rfl, rfl⟩
 | succ m ih =>
  intro hm
  obtain ⟨a, b, c, e⟩ := ih (by omega)
  have nc : ¬ closed l (i + m + 1) := by
   rintro (h | h)
   · omega
   · rw [show i + (m : Int) + 1 - 1 = i + m by omega] at h; omega
  have hlt2 : i + m + 1 < l.length := by
   apply Int.not_le.1; intro h
   have : i + (m : Int) + 1 = l.length := by omega
   rw [this] at nc
   exact nc hr.2
  obtain ⟨x, y, z⟩ := (hr.1 (i + m + 1) (by omega) hlt2).2.2.2.2.2 nc
  rw [show i + (m : Int) + 1 - 1 = i + m by omega] at x y z
  rw [show i + ((m + 1 : Nat) : Int) = i + m + 1 by omega]
  exact ⟨hlt2, by omega, by omega, by rw [z, e]⟩
theorem ref_Right_loop {l : List api_Slot} (hw : Wf l) : ∀ (d : Nat) (i : Int), 0 ≤ i → i + d = l.length → closed l i → (∀ j, 0 ≤ j → j < i → slotOk l j) →
 Ev (fun k => regletref12_Right.l0 k l i) (isTrue (RightL l)) := by
 intro d
 induction d using Nat.strongRecOn with
 | _ d ih =>
  intro i h0 hi hc hok
  have hlen := hw.1
  by_cases hlt : i < l.length
  · have hs := hw.2 i h0 hlt
    refine Ev.st (fun k => by rw [regletref12_Right.l0]) (Ev.dp hlt (Ev.at_ h0 hlt ?_))
    refine Ev.dc (fun c => Ev.some_ (isTrue_no (fun r => ?_)).symm) (fun c1 => ?_)
    · have := (r.1 i h0 hlt); unfold slotOk at this; omega
    rw [w64 (x := (l.length : Int) - i) (by omega) (by omega)]
    refine Ev.dc (fun c => Ev.some_ (isTrue_no (fun r => ?_)).symm) (fun c2 => Ev.st (fun k => by rw [regletref12_Right.j1]) ?_)
    · have := (para r h0 hlt hc ((l.length : Int) - i).toNat (by omega)).1
      omega
    have c2' : (rd l i).2.2.1 ≤ l.length - i := by omega
    have inner : ∀ (e : Nat) (m : Int), 0 ≤ m → m + e = (rd l i).2.2.1 → (∀ j, 0 ≤ j → j < i + m → slotOk l j) →
     (∀ j, 0 ≤ j → j < m → (rd l (i + j)).2.1 = j ∧ (rd l (i + j)).2.2.1 = (rd l i).2.2.1 ∧ (rd l (i + j)).2.2.2 = (rd l i).2.2.2) →
     Ev (fun k => regletref12_Right.l2 k l i (rd l i).2.2.1 m) (isTrue (RightL l)) := by
     intro e
     induction e with
     | zero =>
      intro m hm0 hm hok2 hin
      have em : m = (rd l i).2.2.1 := by omega
      refine Ev.st (fun k => by rw [regletref12_Right.l2]) (Ev.dn (by omega) ?_)
      rw [w64 (x := i + (rd l i).2.2.1) (by omega) (by omega)]
      refine ih ((l.length : Int) - (i + (rd l i).2.2.1)).toNat (by omega) _ (by omega) (by omega) (.inr ?_) (fun j a b => hok2 j a (by omega))
      obtain ⟨a, b, _⟩ := hin (m - 1) (by omega) (by omega)
      rw [show i + (m - 1) = i + (rd l i).2.2.1 - 1 by omega] at a b
      omega
     | succ e ih2 =>
      intro m hm0 hm hok2 hin
      have hlm : i + m < l.length := by omega
      refine Ev.st (fun k => by rw [regletref12_Right.l2]) (Ev.dp (by omega) ?_)
      rw [w64 (x := i + m) (by omega) (by omega)]
      refine Ev.at_ (by omega) hlm ?_
      have pa : RightL l → _ := fun r => para r h0 hlt hc m.toNat (by omega)
      rw [show ((m.toNat : Nat) : Int) = m by omega] at pa
      have sl : RightL l → slotOk l (i + m) := fun r => r.1 (i + m) (by omega) hlm
      refine Ev.dc (fun c => Ev.some_ (isTrue_no (fun r => by have := (sl r).1; omega)).symm) (fun d1 => ?_)
      refine Ev.dc (fun c => Ev.some_ (isTrue_no (fun r => by have := (sl r).2.1; omega)).symm) (fun d2 => ?_)
      refine Ev.xc (fun c => Ev.some_ (isTrue_no (fun r => c (pa r).2.1)).symm) (fun d3 => ?_)
      refine Ev.xc (fun c => Ev.some_ (isTrue_no (fun r => c (pa r).2.2.1)).symm) (fun d4 => ?_)
      refine Ev.at_ h0 hlt (Ev.xc (fun c => Ev.some_ (isTrue_no (fun r => c (pa r).2.2.2)).symm) (fun d5' => Ev.st (fun k => by rw [regletref12_Right.j3]) ?_))
      rw [w64 (x := m + 1) (by omega) (by omega)]
      refine ih2 (m + 1) (by omega) (by omega) (fun j a b => ?_) (fun j a b => ?_)
      · by_cases ej : j = i + m
        · subst ej
          refine ⟨by omega, by omega, by omega, by omega, fun hcl => ?_, fun ncl => ?_⟩
          · by_cases em : m = 0
            · omega
            · exfalso
              obtain ⟨x, y, _⟩ := hin (m - 1) (by omega) (by omega)
              rw [show i + (m - 1) = i + m - 1 by omega] at x y
              rcases hcl with h | h <;> omega
          · by_cases em : m = 0
            · subst em
              rw [Int.add_zero] at ncl
              exact absurd hc ncl
            · obtain ⟨x, y, z⟩ := hin (m - 1) (by omega) (by omega)
              rw [show i + (m - 1) = i + m - 1 by omega] at x y z
              exact ⟨by omega, by omega, by rw [z, d5']⟩
        · exact hok2 j a (by omega)
      · by_cases ej : j = m
        · subst ej; exact ⟨d3, d4, d5'⟩
        · exact hin j a (by omega)
    exact inner (rd l i).2.2.1.toNat 0 (by omega) (by omega) (fun j a b => hok j a (by omega)) (fun j a b => by omega)
  · have e : i = l.length := by omega
    subst e
    exact Ev.st (fun k => by rw [regletref12_Right.l0]) (Ev.dn hlt (Ev.some_ (isTrue_yes ⟨hok, hc⟩).symm))
theorem ref_Right_ev {l : List api_Slot} (hw : Wf l) : Ev (fun k => regletref12_Right.f k l) (isTrue (RightL l)) :=
 ref_Right_loop hw l.length 0 (by omega) (by omega) (.inl rfl) (fun j h1 h2 => by omega)
end Go.Proofs.Ytnlocbjojbgdcaa.Vm
