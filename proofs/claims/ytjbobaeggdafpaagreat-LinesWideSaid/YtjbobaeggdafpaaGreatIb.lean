/- A paragraph: what measure.New makes of right items, in plain words: sums, ends, and where lines may begin. -/
import Derived.Test.YtjbobaeggdafpaaGreatIa
namespace Go.Proofs.YtjbobaeggdafpaaGreat.Vm
open Go
open _root_.Go.RowKit (wrap64)
def wdt (x : api_Item) : Int := if x.1 = 3 then 0 else x.2.1
def str (x : api_Item) : Int := if x.1 = 3 then 0 else x.2.2.1
def shr (x : api_Item) : Int := if x.1 = 3 then 0 else x.2.2.2.1
def fil (x : api_Item) : Int := if x.2.2.2.2.1 = true then 1 else 0
def sm (g : api_Item → Int) (l : List api_Item) (i : Nat) : Int := ((l.take i).map g).sum
def sms (g : api_Item → Int) (l : List api_Item) (i : Nat) : List Int := (List.range i).map (sm g l)
def pmx (l : List api_Item) (i : Nat) : Int := (l.take i).foldl (fun s x => if x.1 = 3 then (if s < x.2.1 then x.2.1 else s) else s) 0
def lgs (l : List api_Item) (i : Nat) : List Int := ((List.range i).filter (fun j : Nat => legB l (j : Int))).map (fun j : Nat => (j : Int))
theorem sm_zero (g : api_Item → Int) (l : List api_Item) : sm g l 0 = 0 := by simp [sm]
theorem sm_succ (g : api_Item → Int) (l : List api_Item) {i : Nat} (h : i < l.length) : sm g l (i + 1) = sm g l i + g (rd l (i : Int)) := by
 unfold sm; rw [take_rd l i h, List.map_append, List.sum_append]; simp
theorem sms_succ (g : api_Item → Int) (l : List api_Item) (i : Nat) : sms g l (i + 1) = sms g l i ++ [sm g l i] := by
 unfold sms; rw [List.range_succ, List.map_append]; rfl
theorem sms_len (g : api_Item → Int) (l : List api_Item) (i : Nat) : (sms g l i).length = i := by simp [sms]
theorem rd_sms (g : api_Item → Int) (l : List api_Item) {i n : Nat} (h : i < n) : rd (sms g l n) (i : Int) = sm g l i := by
 rw [rdn, List.getD_eq_getElem?_getD, sms, List.getElem?_map, List.getElem?_range h]; rfl
theorem pmx_succ (l : List api_Item) {i : Nat} (h : i < l.length) : pmx l (i + 1) = if (rd l (i : Int)).1 = 3 then (if pmx l i < (rd l (i : Int)).2.1 then (rd l (i : Int)).2.1 else pmx l i) else pmx l i := by
 unfold pmx; rw [take_rd l i h, List.foldl_append]; rfl
theorem lgs_succ (l : List api_Item) (i : Nat) : lgs l (i + 1) = if legB l (i : Int) = true then lgs l i ++ [(i : Int)] else lgs l i := by
 unfold lgs
 rw [List.range_succ, List.filter_append, List.map_append]
 by_cases h : legB l (i : Int) = true
 · rw [if_pos h]; simp [List.filter, h]
 · rw [if_neg h]; simp [List.filter, h]
theorem sm_step {g : api_Item → Int} {l : List api_Item} (hg : ∀ x ∈ l, 0 ≤ g x) : ∀ (d i : Nat), i + d ≤ l.length → sm g l i ≤ sm g l (i + d)
 | 0, i, _ => Int.le_refl _
 | d + 1, i, h => by
  have a := sm_step hg d i (by omega)
  have b := sm_succ g l (i := i + d) (by omega)
  have c := hg _ (rd_in l (i := i + d) (by omega))
  rw [← Nat.add_assoc, b]; omega
theorem sm_mono {g : api_Item → Int} {l : List api_Item} (hg : ∀ x ∈ l, 0 ≤ g x) {i j : Nat} (h : i ≤ j) (hj : j ≤ l.length) : sm g l i ≤ sm g l j := by
 have := sm_step hg (j - i) i (by omega)
 rwa [show i + (j - i) = j by omega] at this
theorem sm_le {g : api_Item → Int} {l : List api_Item} (hg : ∀ x ∈ l, 0 ≤ g x ∧ g x ≤ 68719476736) : ∀ i : Nat, i ≤ l.length → 0 ≤ sm g l i ∧ sm g l i ≤ (i : Int) * 68719476736
 | 0, _ => by rw [sm_zero]; omega
 | i + 1, h => by
  have a := sm_le hg i (by omega)
  have b := sm_succ g l (i := i) (by omega)
  have c := hg _ (rd_in l (i := i) (by omega))
  rw [b]; omega
theorem RtL.mem : ∀ {p : Int} {l : List api_Item}, RtL p l → ∀ x ∈ l, OkI x
 | _, [], _, x, h => by cases h
 | _, y :: r, q, x, h => by
  cases h with
  | head => exact q.2.1
  | tail _ h => exact RtL.mem q.2.2 x h
theorem wdt_ok {x : api_Item} (h : OkI x) : 0 ≤ wdt x ∧ wdt x ≤ 68719476736 := by have := h.1; unfold wdt; split <;> omega
theorem str_ok {x : api_Item} (h : OkI x) : 0 ≤ str x ∧ str x ≤ 68719476736 := by have := h.2.1; unfold str; split <;> omega
theorem shr_ok {x : api_Item} (h : OkI x) : 0 ≤ shr x ∧ shr x ≤ 68719476736 := by have := h.2.2.1; unfold shr; split <;> omega
theorem fil_ok (x : api_Item) : 0 ≤ fil x ∧ fil x ≤ 68719476736 := by unfold fil; split <;> omega
def Stop (x : api_Item) : Prop := x.1 = 1 ∨ Fc x ∨ x.2.2.2.2.1 = true
instance (x : api_Item) : Decidable (Stop x) := by unfold Stop; infer_instance
def fs : List api_Item → Nat
 | [] => 0
 | x :: r => if Stop x then 0 else fs r + 1
def paraOf (l : List api_Item) (i : Nat) (s : List Int) (m : Int) (g : List Int) : measure_Para := (l, sms wdt l i, sms str l i, sms shr l i, sms fil l i, s, m, g)
theorem Ev.gn {α β : Type} [Inhabited α] {xs : List α} {i : Nat} {F : Nat → α → Option β} {r : β} (h : i < xs.length) (k : Ev (fun n => F n (rd xs (i : Int))) r) :
 Ev (fun n => if 0 ≤ (i : Int) ∧ (i : Int) < (xs.length : Int) then (xs[(i : Int).toNat]?).bind (F n) else none) r := Ev.gx (by omega) (by omega) k
def Skips (l : List api_Item) (s : List Int) : Prop := s.length = l.length + 1 ∧ ∀ i : Nat, i ≤ l.length → rd s (i : Int) = (i : Int) + fs (l.drop i)
theorem skip_ok (l : List api_Item) (hn : l.length ≤ 262144) (n : Nat) (pm : Int) (g : List Int) : ∀ (m : Nat) (s : List Int), m ≤ l.length → s.length = l.length + 1 → (∀ i : Nat, m ≤ i → i ≤ l.length → rd s (i : Int) = (i : Int) + fs (l.drop i)) →
 ∃ s', Skips l s' ∧ Ev (fun k => measure_New.l2 k l ((m : Int) - 1) (paraOf l n s pm g)) (some (paraOf l n s' pm g), 0)
 | 0, s, _, hl, h => ⟨s, ⟨hl, fun i hi => h i (Nat.zero_le _) hi⟩, Ev.st (fun k => by rw [measure_New.l2]) (Ev.dn (by omega) (Ev.now _))⟩
 | m + 1, s, hm, hl, h => by
  have hd := drop_rd l m (by omega)
  have key : ∀ s2 : List Int, s2.length = l.length + 1 → (∀ i : Nat, m ≤ i → i ≤ l.length → rd s2 (i : Int) = (i : Int) + fs (l.drop i)) →
   ∃ s', Skips l s' ∧ Ev (fun k => measure_New.j4 k l (m : Int) (paraOf l n s2 pm g)) (some (paraOf l n s' pm g), 0) := by
   intro s2 h1 h2
   obtain ⟨s', a, b⟩ := skip_ok l hn n pm g m s2 (by omega) h1 h2
   refine ⟨s', a, Ev.st (fun k => by rw [measure_New.j4]) ?_⟩
   rw [w64 (x := (m : Int) - 1) (by omega) (by omega)]
   exact b
  have em : ((m + 1 : Nat) : Int) - 1 = (m : Int) := by omega
  rw [em]
  by_cases st : Stop (rd l (m : Int))
  · obtain ⟨s', a, b⟩ := key (s.set m (m : Int)) (by rw [List.length_set]; exact hl) (fun i h1 h2 => by
     by_cases e : i = m
     · subst e; rw [rd_set_eq (by omega), hd, fs, if_pos st]; omega
     · rw [rd_set_ne (by omega)]; exact h i (by omega) h2)
    refine ⟨s', a, Ev.st (fun k => by rw [measure_New.l2]) (Ev.dp (by omega) ?_)⟩
    refine Ev.gn (xs := s) (by omega) ?_
    refine Ev.at_ (by omega) (by omega) ?_
    refine Ev.xc (fun h1 => Ev.bind (fcd_ev _) (Ev.nc (fun h2 => Ev.nc (fun h3 => ?_) (fun _ => b)) (fun _ => b))) (fun _ => b)
    exfalso
    rcases st with q | q | q
    · exact h1 q
    · exact of_decide_eq_false h2 q
    · rw [h3] at q; cases q
  · have a0 := h (m + 1) (by omega) (by omega)
    obtain ⟨s', a, b⟩ := key ((s.set m (m : Int)).set m (rd s ((m + 1 : Nat) : Int))) (by rw [List.length_set, List.length_set]; exact hl) (fun i h1 h2 => by
     by_cases e : i = m
     · subst e
       rw [rd_set_eq (by rw [List.length_set]; omega), hd, fs, if_neg st, a0]; omega
     · rw [rd_set_ne (by omega), rd_set_ne (by omega)]; exact h i (by omega) h2)
    refine ⟨s', a, Ev.st (fun k => by rw [measure_New.l2]) (Ev.dp (by omega) ?_)⟩
    refine Ev.gn (xs := s) (by omega) ?_
    refine Ev.at_ (by omega) (by omega) ?_
    refine Ev.xp (fun q => st (.inl q)) (Ev.bind (fcd_ev _) (Ev.nc (fun h2 => Ev.nc (fun h3 => ?_) (fun q => absurd (.inr (.inr q)) st)) (fun q => absurd (.inr (.inl (of_decide_eq_true q))) st)))
    rw [nx m (by omega)]
    refine Ev.gn (xs := s.set (m : Int).toNat (m : Int)) (by rw [List.length_set]; omega) ?_
    refine Ev.gn (xs := s.set (m : Int).toNat (m : Int)) (by rw [List.length_set]; omega) ?_
    rw [Int.toNat_natCast, rd_set_ne (by omega)]
    exact b
theorem app_ok {α : Type} {xs : List α} {x : α} (h : xs.length ≤ 300000) : (xs.length + ([x] : List α).length) * 8 ≤ 140737488355328 := by simp only [List.length_cons, List.length_nil]; omega
theorem New_l0 (l : List api_Item) (hn : l.length ≤ 262144) (ho : ∀ x ∈ l, OkI x) : ∃ s, Skips l s ∧ ∀ m i : Nat, i + m = l.length →
 Ev (fun k => measure_New.l0 k l (sm wdt l i) (sm str l i) (sm shr l i) (sm fil l i) l (l.length : Int) (i : Int) (paraOf l i [] (pmx l i) (lgs l i)))
  (some (paraOf l (l.length + 1) s (pmx l l.length) (lgs l l.length)), 0) := by
 obtain ⟨s, hs, he⟩ := skip_ok l hn (l.length + 1) (pmx l l.length) (lgs l l.length) l.length ((List.replicate (l.length + 1) 0).set l.length (l.length : Int)) (Nat.le_refl _) (by simp) (fun i h1 h2 => by
  obtain rfl : i = l.length := by omega
  rw [rd_set_eq (by simp), List.drop_length]; simp [fs])
 refine ⟨s, hs, fun m => ?_⟩
 induction m with
 | zero =>
  intro i e
  obtain rfl : i = l.length := by omega
  refine Ev.st (fun k => by rw [measure_New.l0]) (Ev.dn (by omega) ?_)
  refine Ev.ifp (app_ok (xs := sms wdt l l.length) (by rw [sms_len]; omega)) ?_
  refine Ev.ifp (app_ok (xs := sms str l l.length) (by rw [sms_len]; omega)) ?_
  refine Ev.ifp (app_ok (xs := sms shr l l.length) (by rw [sms_len]; omega)) ?_
  refine Ev.ifp (app_ok (xs := sms fil l l.length) (by rw [sms_len]; omega)) ?_
  rw [nx l.length (by omega)]
  refine Ev.ifp ⟨rfl, by omega, by omega⟩ ?_
  rw [Int.toNat_natCast, w64 (x := (l.length : Int) - 1) (by omega) (by omega)]
  refine Ev.gn (xs := List.replicate (l.length + 1) 0) (by simp) ?_
  rw [Int.toNat_natCast]
  have e4 : ∀ g, sms g l l.length ++ [sm g l l.length] = sms g l (l.length + 1) := fun g => (sms_succ g l l.length).symm
  dsimp only [paraOf] at he ⊢
  rw [e4, e4, e4, e4]
  exact he
 | succ m ih =>
  intro i e
  have hi : i < l.length := by omega
  have hm := rd_in l hi
  have go := ih (i + 1) (by omega)
  refine Ev.st (fun k => by rw [measure_New.l0]) (Ev.dp (by omega) (Ev.at_ (by omega) (by omega) ?_))
  refine Ev.ifp (app_ok (xs := sms wdt l i) (by rw [sms_len]; omega)) ?_
  refine Ev.ifp (app_ok (xs := sms str l i) (by rw [sms_len]; omega)) ?_
  refine Ev.ifp (app_ok (xs := sms shr l i) (by rw [sms_len]; omega)) ?_
  refine Ev.ifp (app_ok (xs := sms fil l i) (by rw [sms_len]; omega)) ?_
  have lg : ∀ j, j ≤ l.length → (lgs l j).length ≤ j := fun j _ => by unfold lgs; rw [List.length_map]; exact Nat.le_trans (List.length_filter_le _ _) (by simp)
  have j3 : Ev (fun k => measure_New.j3 k l (sm wdt l (i + 1)) (sm str l (i + 1)) (sm shr l (i + 1)) (sm fil l (i + 1)) (i : Int) l (l.length : Int) (i : Int) (paraOf l (i + 1) [] (pmx l (i + 1)) (lgs l i))) (some (paraOf l (l.length + 1) s (pmx l l.length) (lgs l l.length)), 0) := by
   refine Ev.st (fun k => by rw [measure_New.j3]) (Ev.bind (Legal_ev l (by omega) i) ?_)
   rw [nx i (by omega)]
   rw [lgs_succ] at go
   refine Ev.bc (fun h => Ev.ifp (app_ok (xs := lgs l i) (by have := lg i (by omega); omega)) ?_) (fun h => ?_)
   · rw [if_pos h] at go; exact go
   · rw [if_neg (by rw [h]; exact Bool.false_ne_true)] at go; exact go
  have j1 : ∀ w m r p, w = sm wdt l (i + 1) → m = sm str l (i + 1) → r = sm shr l (i + 1) → p = pmx l (i + 1) → Ev (fun k => measure_New.j1 k l w m r (sm fil l i) (i : Int) l (l.length : Int) (i : Int) (l, sms wdt l i ++ [sm wdt l i], sms str l i ++ [sm str l i], sms shr l i ++ [sm shr l i], sms fil l i ++ [sm fil l i], [], p, lgs l i) (rd l (i : Int))) (some (paraOf l (l.length + 1) s (pmx l l.length) (lgs l l.length)), 0) := by
   rintro _ _ _ _ rfl rfl rfl rfl
   have b4 := sm_le (g := fil) (l := l) (fun x _ => fil_ok x) i (by omega)
   have f4 := sm_succ fil l hi
   rw [← sms_succ, ← sms_succ, ← sms_succ, ← sms_succ]
   refine Ev.st (fun k => by rw [measure_New.j1]) (Ev.bc (fun h => ?_) (fun h => ?_))
   · unfold fil at f4
     rw [if_pos h] at f4
     rw [w64 (x := sm fil l i + 1) (by omega) (by omega), show sm fil l i + 1 = sm fil l (i + 1) from f4.symm]
     exact j3
   · unfold fil at f4
     rw [if_neg (by rw [h]; exact Bool.false_ne_true), Int.add_zero] at f4
     rw [show sm fil l i = sm fil l (i + 1) from f4.symm]
     exact j3
  have b1 := sm_le (g := wdt) (fun x hx => wdt_ok (ho x hx)) i (by omega)
  have b2 := sm_le (g := str) (fun x hx => str_ok (ho x hx)) i (by omega)
  have b3 := sm_le (g := shr) (fun x hx => shr_ok (ho x hx)) i (by omega)
  have c1 := (ho _ hm).1
  have c2 := (ho _ hm).2.1
  have c3 := (ho _ hm).2.2.1
  refine Ev.dc (fun h => j1 _ _ _ _ ?_ ?_ ?_ ?_) (fun h => j1 _ _ _ _ ?_ ?_ ?_ ?_)
  · rw [sm_succ _ _ hi, wdt, if_pos h, Int.add_zero]
  · rw [sm_succ _ _ hi, str, if_pos h, Int.add_zero]
  · rw [sm_succ _ _ hi, shr, if_pos h, Int.add_zero]
  · rw [pmx_succ l hi, if_pos h]; rfl
  · rw [sm_succ _ _ hi, wdt, if_neg h, w64 (by omega) (by omega)]
  · rw [sm_succ _ _ hi, str, if_neg h, w64 (by omega) (by omega)]
  · rw [sm_succ _ _ hi, shr, if_neg h, w64 (by omega) (by omega)]
  · rw [pmx_succ l hi, if_neg h]; rfl
def Par (l : List api_Item) (p : measure_Para) : Prop := ∃ s, Skips l s ∧ p = paraOf l (l.length + 1) s (pmx l l.length) (lgs l l.length)
theorem New_yes {l : List api_Item} (h : RightI l) : ∃ p, Par l p ∧ Ev (fun k => measure_New.f k l) (some p, 0) := by
 obtain ⟨⟨h0, h1, h2⟩, h3⟩ := h
 obtain ⟨s, hs, he⟩ := New_l0 l h1 h3.mem
 refine ⟨_, ⟨s, hs, rfl⟩, Ev.bind (Right_ev l) ?_⟩
 rw [isTrue_yes (show RightI l from ⟨⟨h0, h1, h2⟩, h3⟩)]
 refine Ev.xn rfl (Ev.ifp (by simp only [List.length_nil]; omega) ?_)
 have := he l.length 0 (by omega)
 rw [sm_zero, sm_zero, sm_zero, sm_zero] at this
 exact this
end Go.Proofs.YtjbobaeggdafpaaGreat.Vm
