/- A paragraph: what measure.New makes of right items, in plain words: sums, ends, and where lines may begin. -/
import Derived.Test.YtdkmmddakidieaaPx28
import Derived.Test.YtdkmmddakidieaaIt2
namespace Go.Proofs.Ytdkmmddakidieaa.P
open Go.RowKit Go.Proofs.YtdkmmddakidieaaW.PrintWords Go.Proofs.YtdkmmddakidieaaW.PrintLast
set_option linter.unusedVariables false
def wdt (x : S34) : Int := if x.f0 = 3 then 0 else x.f1
def str (x : S34) : Int := if x.f0 = 3 then 0 else x.f2
def shr (x : S34) : Int := if x.f0 = 3 then 0 else x.f3
def fil (x : S34) : Int := if x.f4 = true then 1 else 0
/-- of the items ahead of a place -/
def sm (g : S34 → Int) (l : List S34) (i : Nat) : Int := ((l.take i).map g).sum
def sms (g : S34 → Int) (l : List S34) (i : Nat) : List Int := (List.range i).map (sm g l)
def pmx (l : List S34) (i : Nat) : Int := (l.take i).foldl (fun s x => if x.f0 = 3 then mx s x.f1 else s) 0
def lgs (l : List S34) (i : Nat) : List Int := ((List.range i).filter (fun j : Nat => legB l (j : Int))).map (fun j : Nat => (j : Int))
theorem take_rd (l : List S34) (i : Nat) (h : i < l.length) : l.take (i + 1) = l.take i ++ [rd_T34 l (i : Int)] := by
  rw [rdT_mem l i h, List.take_add_one, List.getElem?_eq_getElem h]; rfl
theorem sm_zero (g : S34 → Int) (l : List S34) : sm g l 0 = 0 := by simp [sm]
theorem sm_succ (g : S34 → Int) (l : List S34) {i : Nat} (h : i < l.length) : sm g l (i + 1) = sm g l i + g (rd_T34 l (i : Int)) := by
  unfold sm; rw [take_rd l i h, List.map_append, List.sum_append]; simp
theorem sms_succ (g : S34 → Int) (l : List S34) (i : Nat) : sms g l (i + 1) = sms g l i ++ [sm g l i] := by
  unfold sms; rw [List.range_succ, List.map_append]; rfl
theorem sms_len (g : S34 → Int) (l : List S34) (i : Nat) : (sms g l i).length = i := by simp [sms]
theorem rd_sms (g : S34 → Int) (l : List S34) {i n : Nat} (h : i < n) : rd (sms g l n) (i : Int) = sm g l i := by
  rw [rd_nat, List.getD_eq_getElem?_getD, sms, List.getElem?_map, List.getElem?_range h]; rfl
theorem pmx_succ (l : List S34) {i : Nat} (h : i < l.length) : pmx l (i + 1) = if (rd_T34 l (i : Int)).f0 = 3 then mx (pmx l i) (rd_T34 l (i : Int)).f1 else pmx l i := by
  unfold pmx; rw [take_rd l i h, List.foldl_append]; rfl
theorem lgs_succ (l : List S34) (i : Nat) : lgs l (i + 1) = if legB l (i : Int) = true then lgs l i ++ [(i : Int)] else lgs l i := by
  unfold lgs
  rw [List.range_succ, List.filter_append, List.map_append]
  by_cases h : legB l (i : Int) = true
  · rw [if_pos h]; simp [List.filter, h]
  · rw [if_neg h]; simp [List.filter, h]
theorem rdT_in (l : List S34) {i : Nat} (h : i < l.length) : rd_T34 l (i : Int) ∈ l := by rw [rdT_mem l i h]; exact List.getElem_mem _
theorem sm_step {g : S34 → Int} {l : List S34} (hg : ∀ x ∈ l, 0 ≤ g x) : ∀ (d i : Nat), i + d ≤ l.length → sm g l i ≤ sm g l (i + d)
 | 0, i, _ => Int.le_refl _
 | d + 1, i, h => by
  have a := sm_step hg d i (by omega)
  have b := sm_succ g l (i := i + d) (by omega)
  have c := hg _ (rdT_in l (i := i + d) (by omega))
  rw [← Nat.add_assoc, b]; omega
theorem sm_mono {g : S34 → Int} {l : List S34} (hg : ∀ x ∈ l, 0 ≤ g x) {i j : Nat} (h : i ≤ j) (hj : j ≤ l.length) : sm g l i ≤ sm g l j := by
  have := sm_step hg (j - i) i (by omega)
  rwa [show i + (j - i) = j by omega] at this
theorem sm_le {g : S34 → Int} {l : List S34} (hg : ∀ x ∈ l, 0 ≤ g x ∧ g x ≤ 68719476736) : ∀ i : Nat, i ≤ l.length → 0 ≤ sm g l i ∧ sm g l i ≤ (i : Int) * 68719476736
 | 0, _ => by rw [sm_zero]; omega
 | i + 1, h => by
  have a := sm_le hg i (by omega)
  have b := sm_succ g l (i := i) (by omega)
  have c := hg _ (rdT_in l (i := i) (by omega))
  rw [b]; omega
theorem RtL.mem : ∀ {p : Int} {l : List S34}, RtL p l → ∀ x ∈ l, OkI x
 | _, [], _, x, h => by cases h
 | _, y :: r, q, x, h => by
  cases h with
  | head => exact q.2.1
  | tail _ h => exact RtL.mem q.2.2 x h
theorem wdt_ok {x : S34} (h : OkI x) : 0 ≤ wdt x ∧ wdt x ≤ 68719476736 := by have := h.1; unfold wdt; split <;> omega
theorem str_ok {x : S34} (h : OkI x) : 0 ≤ str x ∧ str x ≤ 68719476736 := by have := h.2.1; unfold str; split <;> omega
theorem shr_ok {x : S34} (h : OkI x) : 0 ≤ shr x ∧ shr x ≤ 68719476736 := by have := h.2.2.1; unfold shr; split <;> omega
theorem fil_ok (x : S34) : 0 ≤ fil x ∧ fil x ≤ 68719476736 := by unfold fil; split <;> omega
/-- may a line begin with it? -/
def Stop (x : S34) : Prop := x.f0 = 1 ∨ Fc x ∨ x.f4 = true
instance (x : S34) : Decidable (Stop x) := by unfold Stop; infer_instance
/-- how many items are passed over -/
def fs : List S34 → Nat
 | [] => 0
 | x :: r => if Stop x then 0 else fs r + 1
theorem fs_le : ∀ l : List S34, fs l ≤ l.length
 | [] => Nat.le_refl _
 | x :: r => by have := fs_le r; unfold fs; split <;> simp <;> omega
theorem rd_set_eq {s : List Int} {i : Nat} (h : i < s.length) (v : Int) : rd (s.set i v) (i : Int) = v := by
  rw [rd_nat, List.getD_eq_getElem?_getD, List.getElem?_set_self h]; rfl
theorem rd_set_ne {s : List Int} {i j : Nat} (h : i ≠ j) (v : Int) : rd (s.set i v) (j : Int) = rd s (j : Int) := by
  rw [rd_nat, rd_nat, List.getD_eq_getElem?_getD, List.getD_eq_getElem?_getD, List.getElem?_set_ne h]
theorem skip_ok (l : List S34) : ∀ (m : Nat) (s : List Int), m ≤ l.length → s.length = l.length + 1 → (∀ i : Nat, m ≤ i → i ≤ l.length → rd s (i : Int) = (i : Int) + fs (l.drop i)) →
    ∃ s', measure_New.skip l m s = some s' ∧ s'.length = l.length + 1 ∧ ∀ i : Nat, i ≤ l.length → rd s' (i : Int) = (i : Int) + fs (l.drop i)
 | 0, s, _, hl, h => ⟨s, rfl, hl, fun i hi => h i (Nat.zero_le _) hi⟩
 | m + 1, s, hm, hl, h => by
  rw [measure_New.skip, fcd_eq]
  show ∃ s', measure_New.skip l m _ = some s' ∧ _
  have hd := drop_rd l m (by omega)
  by_cases q : (rd_T34 l (m : Int)).f0 = 1 ∨ decide (Fc (rd_T34 l (m : Int))) = true ∨ (rd_T34 l (m : Int)).f4 = true
  · rw [if_pos q]
    have st : Stop (rd_T34 l (m : Int)) := by rw [decide_eq_true_iff] at q; exact q
    refine skip_ok l m _ (by omega) (by rw [List.length_set]; exact hl) (fun i h1 h2 => ?_)
    by_cases e : i = m
    · subst e; rw [rd_set_eq (by omega), hd, fs, if_pos st]; omega
    · rw [rd_set_ne (by omega)]; exact h i (by omega) h2
  · rw [if_neg q]
    have st : ¬ Stop (rd_T34 l (m : Int)) := by rw [decide_eq_true_iff] at q; exact q
    refine skip_ok l m _ (by omega) (by rw [List.length_set, List.length_set]; exact hl) (fun i h1 h2 => ?_)
    by_cases e : i = m
    · subst e
      rw [rd_set_eq (by rw [List.length_set]; omega), hd, fs, if_neg st]
      have a := h (i + 1) (by omega) (by omega)
      have b : rd (s.set i (i : Int)) ((i : Int) + 1) = rd s ((i + 1 : Nat) : Int) := by rw [← rd_set_ne (show i ≠ i + 1 by omega) (i : Int)]; rfl
      rw [b, a]; omega
    · rw [rd_set_ne (by omega), rd_set_ne (by omega)]; exact h i (by omega) h2
theorem skip_ev (l : List S34) : ∃ s, measure_New.skip l l.length ((List.replicate (l.length + 1) 0).set l.length (l.length : Int)) = some s ∧ s.length = l.length + 1 ∧ ∀ i : Nat, i ≤ l.length → rd s (i : Int) = (i : Int) + fs (l.drop i) := by
  refine skip_ok l l.length _ (Nat.le_refl _) (by simp) (fun i h1 h2 => ?_)
  obtain rfl : i = l.length := by omega
  rw [rd_set_eq (by simp), List.drop_length]; simp [fs]
theorem New_l0 (l : List S34) (hn : l.length ≤ 262144) (ho : ∀ x ∈ l, OkI x) (s : List Int) (hs : measure_New.skip l l.length ((List.replicate (l.length + 1) 0).set l.length (l.length : Int)) = some s) : ∀ m i : Nat, i + m = l.length →
    Ev (fun k => measure_New.l0 k l i (sm wdt l i) (sm str l i) (sm shr l i) (sm fil l i) (sms wdt l i) (sms str l i) (sms shr l i) (sms fil l i) (lgs l i) (pmx l i))
      (0, true, l, sms wdt l (l.length + 1), sms str l (l.length + 1), sms shr l (l.length + 1), sms fil l (l.length + 1), s, pmx l l.length, lgs l l.length)
 | 0, i, e => by
  obtain rfl : i = l.length := by omega
  refine Ev.step (fun k => by rw [measure_New.l0]) (Ev.ifn (by omega) (Ev.bind (Ev.opt hs) (Ev.some_ ?_)))
  rw [sms_succ, sms_succ, sms_succ, sms_succ]
 | m + 1, i, e => by
  have hi : i < l.length := by omega
  have hm := rdT_in l hi
  have go := New_l0 l hn ho s hs m (i + 1) (by omega)
  refine Ev.step (fun k => by rw [measure_New.l0]) (Ev.ifp hi (Ev.bind (Legal_ev l (by omega) i) ?_))
  have e1 : (if (rd_T34 l (i : Int)).f0 = 3 then sm wdt l i else wrap64 (sm wdt l i + (rd_T34 l (i : Int)).f1)) = sm wdt l (i + 1) := by
    have a := sm_le (g := wdt) (fun x hx => wdt_ok (ho x hx)) i (by omega)
    have b := (ho _ hm).1
    rw [sm_succ _ _ hi, wdt]
    split
    · omega
    · rw [w64 (by omega) (by omega)]
  have e2 : (if (rd_T34 l (i : Int)).f0 = 3 then sm str l i else wrap64 (sm str l i + (rd_T34 l (i : Int)).f2)) = sm str l (i + 1) := by
    have a := sm_le (g := str) (fun x hx => str_ok (ho x hx)) i (by omega)
    have b := (ho _ hm).2.1
    rw [sm_succ _ _ hi, str]
    split
    · omega
    · rw [w64 (by omega) (by omega)]
  have e3 : (if (rd_T34 l (i : Int)).f0 = 3 then sm shr l i else wrap64 (sm shr l i + (rd_T34 l (i : Int)).f3)) = sm shr l (i + 1) := by
    have a := sm_le (g := shr) (fun x hx => shr_ok (ho x hx)) i (by omega)
    have b := (ho _ hm).2.2.1
    rw [sm_succ _ _ hi, shr]
    split
    · omega
    · rw [w64 (by omega) (by omega)]
  have e4 : (if (rd_T34 l (i : Int)).f4 = true then wrap64 (sm fil l i + 1) else sm fil l i) = sm fil l (i + 1) := by
    have a := sm_le (g := fil) (l := l) (fun x _ => fil_ok x) i (by omega)
    rw [sm_succ _ _ hi, fil]
    split
    · rw [w64 (by omega) (by omega)]
    · omega
  rw [e1, e2, e3, e4, ← sms_succ, ← sms_succ, ← sms_succ, ← sms_succ, ← lgs_succ, ← pmx_succ l hi]
  exact go
theorem New_no {l : List S34} (h : rightB l = false) : Ev (fun k => measure_New.f k l) (70, false, [], [], [], [], [], [], 0, []) := by
  unfold measure_New.f
  refine Ev.bind (Right_ev l) ?_
  rw [h]
  exact Ev.ifn (by decide) (Ev.some_ rfl)
/-- what a paragraph's skips are -/
def Skips (l : List S34) (s : List Int) : Prop := s.length = l.length + 1 ∧ ∀ i : Nat, i ≤ l.length → rd s (i : Int) = (i : Int) + fs (l.drop i)
theorem New_yes {l : List S34} (h : rightB l = true) : ∃ s, Skips l s ∧ Ev (fun k => measure_New.f k l) (0, true, l, sms wdt l (l.length + 1), sms str l (l.length + 1), sms shr l (l.length + 1), sms fil l (l.length + 1), s, pmx l l.length, lgs l l.length) := by
  obtain ⟨s, hs, h1, h2⟩ := skip_ev l
  refine ⟨s, ⟨h1, h2⟩, ?_⟩
  obtain ⟨⟨p, q, r⟩, t⟩ := rightB_of h
  unfold measure_New.f
  refine Ev.bind (Right_ev l) ?_
  rw [h]
  refine Ev.ifp (by decide) (Ev.ifp q ?_)
  have := New_l0 l q t.mem s hs l.length 0 (by omega)
  simpa [sm_zero, sms, lgs, pmx] using this
end Go.Proofs.Ytdkmmddakidieaa.P
