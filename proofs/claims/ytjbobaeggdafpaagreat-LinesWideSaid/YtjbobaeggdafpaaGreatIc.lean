/- Lines of a paragraph: where they begin, what their items come to, how narrow and wide they can be: the program's answer and the reference's. -/
import Derived.Test.YtjbobaeggdafpaaGreatIb
namespace Go.Proofs.YtjbobaeggdafpaaGreat.Vm
open Go
open _root_.Go.RowKit (wrap64)
structure Good (l : List api_Item) : Prop where
 pos : 0 < l.length
 len : l.length ≤ 262144
 ok : ∀ x ∈ l, OkI x
theorem RightI.good {l : List api_Item} (h : RightI l) : Good l := ⟨h.1.1, h.1.2.1, h.2.mem⟩
def stB (l : List api_Item) (a : Int) : Int := if a < 0 then 0 else if a ≥ (l.length : Int) - 1 then (l.length : Int) else (a + 1) + fs (l.drop (a + 1).toNat)
theorem stB_ge (l : List api_Item) (a : Int) : 0 ≤ stB l a := by unfold stB; split; omega; split <;> omega
theorem Start_ev {l : List api_Item} {p : measure_Para} (hp : Par l p) (hg : Good l) (a : Int) : Ev (fun k => measure_Para_Start.f k p a) (stB l a) := by
 obtain ⟨s, hs, rfl⟩ := hp
 have h0 := hg.pos
 have hl := hg.len
 unfold stB
 refine Ev.dc (fun h => Ev.some_ (if_pos h).symm) (fun h => ?_)
 rw [if_neg h]
 show Ev (fun k => if (decide ((wrap64 ((l.length : Int) - 1)) ≤ a)) = true then (some (l.length : Int)) else ((at? s (wrap64 (a + 1))).bind fun e => some e)) _
 rw [w64 (x := (l.length : Int) - 1) (by omega) (by omega)]
 refine Ev.dc (fun h1 => Ev.some_ (if_pos h1).symm) (fun h1 => ?_)
 rw [if_neg (by omega), w64 (x := a + 1) (by omega) (by omega)]
 have := hs.2 (a + 1).toNat (by omega)
 rw [Int.toNat_of_nonneg (by omega)] at this
 refine Ev.at_ (by omega) (by rw [hs.1]; omega) ?_
 rw [this]
 exact Ev.now _
theorem refStart_l0 {l : List api_Item} (hg : Good l) (a : Int) : ∀ m i : Nat, i + m = l.length → a < i → Ev (fun k => regletref08_Start.l0 k l a (i : Int)) ((i : Int) + fs (l.drop i))
 | 0, i, e, ha => by
  refine Ev.st (fun k => by rw [regletref08_Start.l0]) (Ev.dn (by omega) (Ev.some_ ?_))
  rw [List.drop_of_length_le (by omega)]
  show _ = (i : Int) + ((0 : Nat) : Int)
  omega
 | m + 1, i, e, ha => by
  have hl := hg.len
  have hi : i < l.length := by omega
  have hx := hg.ok _ (rd_in l hi)
  have go := refStart_l0 hg a m (i + 1) (by omega) (by omega)
  rw [drop_rd l i hi, fs]
  have stop : Stop (rd l (i : Int)) → Ev (fun _ => some (i : Int)) ((i : Int) + ((if Stop (rd l (i : Int)) then 0 else fs (l.drop (i + 1)) + 1 : Nat) : Int)) := fun h => Ev.some_ (by rw [if_pos h]; omega)
  have on : ¬ Stop (rd l (i : Int)) → Ev (fun k => regletref08_Start.j1 k l a (i : Int)) ((i : Int) + ((if Stop (rd l (i : Int)) then 0 else fs (l.drop (i + 1)) + 1 : Nat) : Int)) := fun h => by
   refine Ev.st (fun k => by rw [regletref08_Start.j1]) ?_
   rw [if_neg h, nx i (by omega)]
   exact Ev.lift go (by omega)
  refine Ev.st (fun k => by rw [regletref08_Start.l0]) (Ev.dp (by omega) (Ev.dp (by omega) (Ev.at_ (by omega) (by omega) ?_)))
  refine Ev.dc (fun h1 => stop (.inl h1)) (fun h1 => Ev.at_ (by omega) (by omega) ?_)
  refine Ev.bind (rfcd_ev _) (Ev.dc (fun h2 => stop (.inr (.inl h2))) (fun h2 => Ev.at_ (by omega) (by omega) ?_))
  refine Ev.dc (fun h3 => Ev.at_ (by omega) (by omega) ?_) (fun h3 => on (fun q => ?_))
  · refine Ev.bc (fun h4 => stop (.inr (.inr h4))) (fun h4 => on (fun q => ?_))
    rcases q with q | q | q
    · exact h1 q
    · exact h2 q
    · rw [h4] at q; cases q
  · rcases q with q | q | q
    · exact h1 q
    · exact h2 q
    · rcases hx.2.2.2.2 with z | z | z
      · exact h1 z.1
      · exact h3 z.1
      · rw [z.2.2.2.1] at q; cases q
theorem refStart_ev {l : List api_Item} (hg : Good l) (a : Int) : Ev (fun k => regletref08_Start.f k l a) (stB l a) := by
 have h0 := hg.pos
 have hl := hg.len
 unfold stB
 refine Ev.dc (fun h => Ev.some_ (if_pos h).symm) (fun h => ?_)
 rw [if_neg h]
 by_cases h1 : a ≥ (l.length : Int)
 · exact Ev.st (fun k => by rw [regletref08_Start.l0]) (Ev.dn (by omega) (Ev.some_ (if_pos (by omega)).symm))
 · refine Ev.st (fun k => by rw [regletref08_Start.l0]) (Ev.dp (by omega) (Ev.dn (by omega) (Ev.st (fun k => by rw [regletref08_Start.j1]) ?_)))
   rw [w64 (x := a + 1) (by omega) (by omega)]
   have go := refStart_l0 hg a (l.length - (a + 1).toNat) (a + 1).toNat (by omega) (by omega)
   rw [Int.toNat_of_nonneg (by omega)] at go
   refine Ev.lift go ?_
   by_cases h2 : a ≥ (l.length : Int) - 1
   · rw [if_pos h2, List.drop_of_length_le (by omega)]
     show a + 1 + ((0 : Nat) : Int) = _
     omega
   · rw [if_neg h2]
def mn (a b : Int) : Int := if b < a then b else a
def dif (g : api_Item → Int) (l : List api_Item) (a b : Int) : Int := sm g l b.toNat - sm g l (mn (stB l a) b).toNat
def pen (l : List api_Item) (b : Int) : Int := if (rd l b).1 = 3 then (rd l b).2.1 else 0
theorem mn_le (a b : Int) : mn a b ≤ a ∧ mn a b ≤ b ∧ (mn a b = a ∨ mn a b = b) := by unfold mn; split <;> omega
theorem rd_smsI (g : api_Item → Int) (l : List api_Item) {b : Int} {n : Nat} (h0 : 0 ≤ b) (h : b < n) : rd (sms g l n) b = sm g l b.toNat := by
 have := rd_sms g l (i := b.toNat) (n := n) (by omega)
 rwa [Int.toNat_of_nonneg h0] at this
theorem dif_ok {g : api_Item → Int} {l : List api_Item} (hl : l.length ≤ 262144) (hg : ∀ x ∈ l, 0 ≤ g x ∧ g x ≤ 68719476736) (a : Int) {b : Int} (h0 : 0 ≤ b) (h1 : b < l.length) : 0 ≤ dif g l a b ∧ dif g l a b ≤ 18014398509481984 := by
 have q := mn_le (stB l a) b
 have s0 := stB_ge l a
 have m0 : 0 ≤ mn (stB l a) b := by omega
 have x := sm_mono (fun x hx => (hg x hx).1) (i := (mn (stB l a) b).toNat) (j := b.toNat) (by omega) (by omega)
 have y := sm_le hg (mn (stB l a) b).toNat (by omega)
 have z := sm_le hg b.toNat (by omega)
 unfold dif; omega
theorem dif_w {g : api_Item → Int} {l : List api_Item} (hl : l.length ≤ 262144) (hg : ∀ x ∈ l, 0 ≤ g x ∧ g x ≤ 68719476736) (a : Int) {b : Int} (h0 : 0 ≤ b) (h1 : b < l.length) : wrap64 (rd (sms g l (l.length + 1)) b - rd (sms g l (l.length + 1)) (mn (stB l a) b)) = dif g l a b := by
 have q := mn_le (stB l a) b
 have s0 := stB_ge l a
 have z := dif_ok hl hg a h0 h1
 rw [rd_smsI g l h0 (by omega), rd_smsI g l (b := mn (stB l a) b) (by omega) (by omega)]
 exact w64 (by unfold dif at z; omega) (by unfold dif at z; omega)
def lnV (l : List api_Item) (a b : Int) : (Int × Int × Int × Int) := if b < 0 ∨ b ≥ (l.length : Int) then (0, 0, 0, 0) else (dif wdt l a b + pen l b, dif str l a b, dif shr l a b, dif fil l a b)
theorem rd_inI {α : Type} [Inhabited α] (l : List α) {b : Int} (h0 : 0 ≤ b) (h : b < l.length) : rd l b ∈ l := rd_mem h0 h
theorem pen_ok {l : List api_Item} (ho : ∀ x ∈ l, OkI x) {b : Int} (h0 : 0 ≤ b) (h : b < l.length) : 0 ≤ pen l b ∧ pen l b ≤ 68719476736 := by
 have := (ho _ (rd_inI l h0 h)).1
 unfold pen; split <;> omega
theorem Line_ev {l : List api_Item} {p : measure_Para} (hp : Par l p) (hg : Good l) (a b : Int) : Ev (fun k => measure_Para_Line.f k p a b) (lnV l a b) := by
 have hst := Start_ev hp hg a
 obtain ⟨s, hs, rfl⟩ := hp
 have h0 := hg.pos
 have hl := hg.len
 have ho := hg.ok
 unfold lnV
 refine Ev.dc (fun h => Ev.some_ (if_pos (.inl h)).symm) (fun h => ?_)
 refine Ev.dc (fun h1 => Ev.some_ (if_pos (.inr h1)).symm) (fun h1 => ?_)
 replace h1 : ¬ (l.length : Int) ≤ b := h1
 rw [if_neg (by omega)]
 have q := mn_le (stB l a) b
 have s0 := stB_ge l a
 refine Ev.st (fun k => by rw [measure_Para_Line.j0]) (Ev.bind hst ?_)
 have W := dif_w (g := wdt) hl (fun x hx => wdt_ok (ho x hx)) a (b := b) (by omega) (by omega)
 have M := dif_w (g := str) hl (fun x hx => str_ok (ho x hx)) a (b := b) (by omega) (by omega)
 have L := dif_w (g := shr) hl (fun x hx => shr_ok (ho x hx)) a (b := b) (by omega) (by omega)
 have F := dif_w (g := fil) (l := l) hl (fun x _ => fil_ok x) a (b := b) (by omega) (by omega)
 have l1 : ∀ g, (b : Int) < ((sms g l (l.length + 1)).length : Int) := fun g => by rw [sms_len]; omega
 have l2 : ∀ g, mn (stB l a) b < ((sms g l (l.length + 1)).length : Int) := fun g => by rw [sms_len]; omega
 change Ev (fun k => (at? (sms wdt l (l.length + 1)) b).bind fun e => (at? (sms wdt l (l.length + 1)) (mn (stB l a) b)).bind fun e2 => (at? (sms str l (l.length + 1)) b).bind fun e3 => (at? (sms str l (l.length + 1)) (mn (stB l a) b)).bind fun e4 => (at? (sms shr l (l.length + 1)) b).bind fun e5 => (at? (sms shr l (l.length + 1)) (mn (stB l a) b)).bind fun e6 => (at? (sms fil l (l.length + 1)) b).bind fun e7 => (at? (sms fil l (l.length + 1)) (mn (stB l a) b)).bind fun e8 => (at? l b).bind fun e9 => if (decide (e9.1 = 3)) = true then ((at? l b).bind fun e10 => some (wrap64 ((wrap64 (e - e2)) + e10.2.1), wrap64 (e3 - e4), wrap64 (e5 - e6), wrap64 (e7 - e8))) else (some (wrap64 (e - e2), wrap64 (e3 - e4), wrap64 (e5 - e6), wrap64 (e7 - e8)))) _
 refine Ev.at_ (by omega) (l1 _) ?_
 refine Ev.at_ (by omega) (l2 _) ?_
 refine Ev.at_ (by omega) (l1 _) ?_
 refine Ev.at_ (by omega) (l2 _) ?_
 refine Ev.at_ (by omega) (l1 _) ?_
 refine Ev.at_ (by omega) (l2 _) ?_
 refine Ev.at_ (by omega) (l1 _) ?_
 refine Ev.at_ (by omega) (l2 _) ?_
 refine Ev.at_ (by omega) (by omega) ?_
 rw [W, M, L, F]
 have wb := dif_ok (g := wdt) hl (fun x hx => wdt_ok (ho x hx)) a (b := b) (by omega) (by omega)
 have pb := pen_ok ho (b := b) (by omega) (by omega)
 unfold pen at pb ⊢
 refine Ev.dc (fun h2 => Ev.at_ (by omega) (by omega) (Ev.some_ ?_)) (fun h2 => Ev.some_ ?_)
 · rw [if_pos h2] at pb ⊢
   rw [w64 (by omega) (by omega)]
 · rw [if_neg h2, Int.add_zero]
theorem refLine_l0 {l : List api_Item} (hg : Good l) (b : Int) (hb0 : 0 ≤ b) (hb : b < l.length) (t : (Int × Int × Int × Int)) (c1 c2 c3 c4 : Int) (d1 : 0 ≤ c1 ∧ c1 ≤ 18014398509481984) (d2 : 0 ≤ c2 ∧ c2 ≤ 18014398509481984) (d3 : 0 ≤ c3 ∧ c3 ≤ 18014398509481984) (d4 : 0 ≤ c4 ∧ c4 ≤ 18014398509481984) :
 ∀ m i : Nat, (i : Int) + m = b → Ev (fun k => regletref08_Line.l1 k l b (i : Int) t (sm wdt l i - c1, sm str l i - c2, sm shr l i - c3, sm fil l i - c4)) ((sm wdt l b.toNat - c1, sm str l b.toNat - c2, sm shr l b.toNat - c3, sm fil l b.toNat - c4), true)
 | 0, i, e => by
  refine Ev.st (fun k => by rw [regletref08_Line.l1]) (Ev.dn (by omega) (Ev.some_ ?_))
  rw [show b.toNat = i by omega]
 | m + 1, i, e => by
  have hl := hg.len
  have hi : i < l.length := by omega
  have hx := hg.ok _ (rd_in l hi)
  have go := refLine_l0 hg b hb0 hb t c1 c2 c3 c4 d1 d2 d3 d4 m (i + 1) (by omega)
  have b1 := sm_le (g := wdt) (fun x hx => wdt_ok (hg.ok x hx)) i (by omega)
  have b2 := sm_le (g := str) (fun x hx => str_ok (hg.ok x hx)) i (by omega)
  have b3 := sm_le (g := shr) (fun x hx => shr_ok (hg.ok x hx)) i (by omega)
  have b4 := sm_le (g := fil) (l := l) (fun x _ => fil_ok x) i (by omega)
  have x1 := hx.1
  have x2 := hx.2.1
  have x3 := hx.2.2.1
  have f4 := sm_succ fil l hi
  have j2 : ∀ w m s, w = sm wdt l (i + 1) - c1 → m = sm str l (i + 1) - c2 → s = sm shr l (i + 1) - c3 → Ev (fun k => regletref08_Line.j2 k l b (i : Int) t (w, m, s, sm fil l i - c4)) ((sm wdt l b.toNat - c1, sm str l b.toNat - c2, sm shr l b.toNat - c3, sm fil l b.toNat - c4), true) := by
   rintro _ _ _ rfl rfl rfl
   have j3 : Ev (fun k => regletref08_Line.j3 k l b (i : Int) t (sm wdt l (i + 1) - c1, sm str l (i + 1) - c2, sm shr l (i + 1) - c3, sm fil l (i + 1) - c4)) ((sm wdt l b.toNat - c1, sm str l b.toNat - c2, sm shr l b.toNat - c3, sm fil l b.toNat - c4), true) := by
    refine Ev.st (fun k => by rw [regletref08_Line.j3]) ?_
    rw [nx i (by omega)]
    exact go
   refine Ev.st (fun k => by rw [regletref08_Line.j2]) (Ev.at_ (by omega) (by omega) ?_)
   unfold fil at f4
   refine Ev.bc (fun h => ?_) (fun h => ?_)
   · rw [if_pos h] at f4
     rw [w64 (x := sm fil l i - c4 + 1) (by omega) (by omega), show sm fil l i - c4 + 1 = sm fil l (i + 1) - c4 by rw [show sm fil l (i + 1) = sm fil l i + 1 from f4]; omega]
     exact j3
   · rw [if_neg (by rw [h]; exact Bool.false_ne_true), Int.add_zero] at f4
     rw [show sm fil l i = sm fil l (i + 1) from f4.symm]
     exact j3
  refine Ev.st (fun k => by rw [regletref08_Line.l1]) (Ev.dp (by omega) (Ev.at_ (by omega) (by omega) ?_))
  refine Ev.xc (fun h => Ev.at_ (by omega) (by omega) ?_) (fun h => j2 _ _ _ ?_ ?_ ?_)
  · refine Ev.at_ (by omega) (by omega) ?_
    refine Ev.at_ (by omega) (by omega) (j2 _ _ _ ?_ ?_ ?_)
    · dsimp only
      rw [sm_succ _ _ hi, wdt, if_neg h, w64 (by omega) (by omega)]; omega
    · dsimp only
      rw [sm_succ _ _ hi, str, if_neg h, w64 (by omega) (by omega)]; omega
    · dsimp only
      rw [sm_succ _ _ hi, shr, if_neg h, w64 (by omega) (by omega)]; omega
  · rw [sm_succ _ _ hi, wdt, if_pos h, Int.add_zero]
  · rw [sm_succ _ _ hi, str, if_pos h, Int.add_zero]
  · rw [sm_succ _ _ hi, shr, if_pos h, Int.add_zero]
def bsV (l : List api_Item) (a b : Int) : (Int × Int × Int × Int) × Bool := if b < 0 ∨ b ≥ (l.length : Int) then ((0, 0, 0, 0), false) else ((dif wdt l a b, dif str l a b, dif shr l a b, dif fil l a b), true)
theorem refLine_ev {l : List api_Item} (hg : Good l) (a b : Int) : Ev (fun k => regletref08_Line.f k l a b) (bsV l a b) := by
 have hl := hg.len
 have ho := hg.ok
 unfold bsV
 refine Ev.dc (fun h => Ev.some_ (if_pos (.inl h)).symm) (fun h => ?_)
 refine Ev.dc (fun h1 => Ev.some_ (if_pos (.inr h1)).symm) (fun h1 => ?_)
 rw [if_neg (by omega)]
 have s0 := stB_ge l a
 refine Ev.st (fun k => by rw [regletref08_Line.j0]) (Ev.bind (refStart_ev hg a) ?_)
 by_cases q : stB l a < b
 · have e : mn (stB l a) b = stB l a := by unfold mn; split <;> omega
   have i0 : (stB l a).toNat ≤ l.length := by omega
   have b1 := sm_le (g := wdt) (fun x hx => wdt_ok (ho x hx)) (stB l a).toNat i0
   have b2 := sm_le (g := str) (fun x hx => str_ok (ho x hx)) (stB l a).toNat i0
   have b3 := sm_le (g := shr) (fun x hx => shr_ok (ho x hx)) (stB l a).toNat i0
   have b4 := sm_le (g := fil) (l := l) (fun x _ => fil_ok x) (stB l a).toNat i0
   have go := refLine_l0 hg b (by omega) (by omega) (0, 0, 0, 0) (sm wdt l (stB l a).toNat) (sm str l (stB l a).toNat) (sm shr l (stB l a).toNat) (sm fil l (stB l a).toNat) (by omega) (by omega) (by omega) (by omega) (b - stB l a).toNat (stB l a).toNat (by omega)
   rw [Int.sub_self, Int.sub_self, Int.sub_self, Int.sub_self, Int.toNat_of_nonneg s0] at go
   unfold dif
   rw [e]
   exact go
 · have e : mn (stB l a) b = b := by unfold mn; split <;> omega
   refine Ev.st (fun k => by rw [regletref08_Line.l1]) (Ev.dn q (Ev.some_ ?_))
   unfold dif
   rw [e, Int.sub_self, Int.sub_self, Int.sub_self, Int.sub_self]
theorem refWhole_ev {l : List api_Item} (hg : Good l) (a b : Int) : Ev (fun k => regletref08_Whole.f k l a b) (lnV l a b) := by
 have hl := hg.len
 have ho := hg.ok
 refine Ev.bind (refLine_ev hg a b) ?_
 unfold bsV lnV
 by_cases h : b < 0 ∨ b ≥ (l.length : Int)
 · rw [if_pos h, if_pos h]
   exact Ev.bn rfl (Ev.now _)
 · rw [if_neg h, if_neg h]
   refine Ev.bp rfl (Ev.at_ (by omega) (by omega) ?_)
   have wb := dif_ok (g := wdt) hl (fun x hx => wdt_ok (ho x hx)) a (b := b) (by omega) (by omega)
   have pb := pen_ok ho (b := b) (by omega) (by omega)
   unfold pen at pb ⊢
   refine Ev.dc (fun h2 => Ev.at_ (by omega) (by omega) (Ev.some_ ?_)) (fun h2 => Ev.some_ ?_)
   · rw [if_pos h2] at pb ⊢
     show (wrap64 (dif wdt l a b + _), _, _, _) = _
     rw [w64 (by omega) (by omega)]
   · rw [if_neg h2, Int.add_zero]
theorem pmx_ok {l : List api_Item} (ho : ∀ x ∈ l, OkI x) : ∀ i : Nat, i ≤ l.length → 0 ≤ pmx l i ∧ pmx l i ≤ 68719476736 ∧ ∀ j : Nat, j < i → pen l (j : Int) ≤ pmx l i
 | 0, _ => by
  have e : pmx l 0 = 0 := by simp [pmx]
  rw [e]; exact ⟨by omega, by omega, fun j h => absurd h (by omega)⟩
 | i + 1, h => by
  have hi : i < l.length := by omega
  obtain ⟨a, b, c⟩ := pmx_ok ho i (by omega)
  have hx := (ho _ (rd_in l hi)).1
  rw [pmx_succ l hi]
  by_cases q : (rd l (i : Int)).1 = 3
  · rw [if_pos q]
    refine ⟨by split <;> omega, by split <;> omega, fun j hj => ?_⟩
    by_cases e : j = i
    · subst e; unfold pen; rw [if_pos q]; split <;> omega
    · have := c j (by omega); split <;> omega
  · rw [if_neg q]
    refine ⟨a, b, fun j hj => ?_⟩
    by_cases e : j = i
    · subst e; unfold pen; rw [if_neg q]; exact a
    · exact c j (by omega)
theorem bsV_ok {l : List api_Item} (hg : Good l) (a b : Int) : (0 ≤ (bsV l a b).1.1 ∧ (bsV l a b).1.1 ≤ 18014398509481984) ∧ (0 ≤ (bsV l a b).1.2.1 ∧ (bsV l a b).1.2.1 ≤ 18014398509481984) ∧ (0 ≤ (bsV l a b).1.2.2.1 ∧ (bsV l a b).1.2.2.1 ≤ 18014398509481984) := by
 have hl := hg.len
 have ho := hg.ok
 unfold bsV
 by_cases h : b < 0 ∨ b ≥ (l.length : Int)
 · rw [if_pos h]; refine ⟨⟨?_, ?_⟩, ⟨?_, ?_⟩, ⟨?_, ?_⟩⟩ <;> decide
 · rw [if_neg h]
   exact ⟨dif_ok (g := wdt) hl (fun x hx => wdt_ok (ho x hx)) a (by omega) (by omega), dif_ok (g := str) hl (fun x hx => str_ok (ho x hx)) a (by omega) (by omega), dif_ok (g := shr) hl (fun x hx => shr_ok (ho x hx)) a (by omega) (by omega)⟩
def bdV (l : List api_Item) (a b : Int) : Int × Int × Bool := ((bsV l a b).1.1 - (bsV l a b).1.2.2.1, (bsV l a b).1.1 + 5 * (bsV l a b).1.2.1 + pmx l l.length, decide (0 < (bsV l a b).1.2.2.2))
theorem bdV_w {l : List api_Item} (hg : Good l) (a b : Int) :
 wrap64 ((bsV l a b).1.1 - (bsV l a b).1.2.2.1) = (bdV l a b).1 ∧ wrap64 (wrap64 ((bsV l a b).1.1 + wrap64 (5 * (bsV l a b).1.2.1)) + pmx l l.length) = (bdV l a b).2.1 := by
 have q := bsV_ok hg a b
 have s := pmx_ok hg.ok l.length (Nat.le_refl _)
 refine ⟨w64 (by omega) (by omega), ?_⟩
 rw [w64 (x := 5 * (bsV l a b).1.2.1) (by omega) (by omega), w64 (x := (bsV l a b).1.1 + 5 * (bsV l a b).1.2.1) (by omega) (by omega)]
 exact w64 (by omega) (by omega)
theorem Item_ev {l : List api_Item} {p : measure_Para} (hp : p.1 = l) (b : Int) : Ev (fun k => measure_Para_Item.f k p b) (if b < 0 ∨ b ≥ (l.length : Int) then default else rd l b) := by
 refine Ev.dc (fun h => Ev.some_ (if_pos (.inl h)).symm) (fun h => Ev.dc (fun h1 => Ev.some_ (if_pos (.inr (by rw [hp] at h1; exact h1))).symm) (fun h1 => ?_))
 rw [hp] at h1
 rw [if_neg (by omega)]
 refine Ev.st (fun k => by rw [measure_Para_Item.j0]) ?_
 rw [hp]
 exact Ev.at_ (by omega) (by omega) (Ev.now _)
theorem lnV_out {l : List api_Item} {a b : Int} (h : b < 0 ∨ b ≥ (l.length : Int)) : lnV l a b = (0, 0, 0, 0) := by unfold lnV; exact if_pos h
theorem bsV_out {l : List api_Item} {a b : Int} (h : b < 0 ∨ b ≥ (l.length : Int)) : bsV l a b = ((0, 0, 0, 0), false) := by unfold bsV; exact if_pos h
theorem lnV_in {l : List api_Item} {a b : Int} (h : ¬ (b < 0 ∨ b ≥ (l.length : Int))) : lnV l a b = (dif wdt l a b + pen l b, dif str l a b, dif shr l a b, dif fil l a b) := by unfold lnV; exact if_neg h
theorem bsV_in {l : List api_Item} {a b : Int} (h : ¬ (b < 0 ∨ b ≥ (l.length : Int))) : bsV l a b = ((dif wdt l a b, dif str l a b, dif shr l a b, dif fil l a b), true) := by unfold bsV; exact if_neg h
theorem Bounds_ev {l : List api_Item} {p : measure_Para} (hp : Par l p) (hg : Good l) (a b : Int) : Ev (fun k => measure_Para_Bounds.f k p a b) (bdV l a b) := by
 have W := bdV_w hg a b
 have B := bsV_ok hg a b
 have hln := Line_ev hp hg a b
 obtain ⟨s, hs, rfl⟩ := hp
 refine Ev.bind hln (Ev.bind (Item_ev (l := l) rfl b) ?_)
 have last : ∀ t : (Int × Int × Int × Int), t = (bsV l a b).1 → Ev (fun k => measure_Para_Bounds.j0 k (paraOf l (l.length + 1) s (pmx l l.length) (lgs l l.length)) t) (bdV l a b) := by
  rintro _ rfl
  refine Ev.st (fun k => by rw [measure_Para_Bounds.j0]) (Ev.some_ ?_)
  show (wrap64 ((bsV l a b).1.1 - (bsV l a b).1.2.2.1), wrap64 (wrap64 ((bsV l a b).1.1 + wrap64 (5 * (bsV l a b).1.2.1)) + pmx l l.length), decide (0 < (bsV l a b).1.2.2.2)) = _
  rw [W.1, W.2]
  rfl
 by_cases h : b < 0 ∨ b ≥ (l.length : Int)
 · rw [if_pos h, lnV_out h]
   exact Ev.dn (by decide) (last _ (by rw [bsV_out h]))
 · rw [if_neg h, lnV_in h]
   rw [bsV_in h] at B
   have pb := pen_ok hg.ok (b := b) (by omega) (by omega)
   unfold pen at pb ⊢
   refine Ev.dc (fun h2 => last _ ?_) (fun h2 => last _ ?_)
   · rw [if_pos h2] at pb ⊢
     rw [bsV_in h]
     show (wrap64 (dif wdt l a b + (rd l b).2.1 - (rd l b).2.1), _, _, _) = _
     rw [show dif wdt l a b + (rd l b).2.1 - (rd l b).2.1 = dif wdt l a b by omega, w64 (x := dif wdt l a b) (by have := B.1; dsimp only at this; omega) (by have := B.1; dsimp only at this; omega)]
   · rw [if_neg h2, bsV_in h, Int.add_zero]
end Go.Proofs.YtjbobaeggdafpaaGreat.Vm
