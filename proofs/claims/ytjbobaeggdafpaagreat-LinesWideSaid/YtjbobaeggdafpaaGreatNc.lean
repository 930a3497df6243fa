/- A paragraph's places where lines may end; how its lines are set and what they cost, as one net of ways. -/
import Derived.Test.YtjbobaeggdafpaaGreatNb
namespace Go.Proofs.YtjbobaeggdafpaaGreat.Vm
open Go
open _root_.Go.RowKit (wrap64)
theorem lgs_len (l : List api_Item) (i : Nat) : (lgs l i).length ≤ i := by unfold lgs; rw [List.length_map]; exact Nat.le_trans (List.length_filter_le _ _) (by simp)
def ends (l : List api_Item) : List Int := lgs l l.length
def endV (l : List api_Item) (j : Nat) : Int := rd (ends l) (j : Int)
def posV (l : List api_Item) : Nat → Int
 | 0 => -1
 | a + 1 => endV l a
theorem endV_mem (l : List api_Item) {j : Nat} (h : j < (ends l).length) : 0 ≤ endV l j ∧ endV l j < l.length ∧ legB l (endV l j) = true := by
 have m : endV l j ∈ ends l := rd_in _ h
 unfold ends lgs at m
 rw [List.mem_map] at m
 obtain ⟨i, hi, e⟩ := m
 rw [List.mem_filter, List.mem_range] at hi
 rw [← e]
 exact ⟨by omega, by omega, hi.2⟩
theorem endV_lt (l : List api_Item) {i j : Nat} (h : i < j) (hj : j < (ends l).length) : endV l i < endV l j := by
 have p : (ends l).Pairwise (· < ·) := by
  unfold ends lgs
  rw [List.pairwise_map]
  exact (List.pairwise_lt_range.filter _).imp (fun h => by omega)
 have := List.pairwise_iff_getElem.1 p i j (by omega) hj h
 unfold endV
 rw [rd_get _ _ (by omega), rd_get _ _ hj]
 exact this
theorem endV_of (l : List api_Item) {x : Nat} (hx : x < l.length) (h : legB l (x : Int) = true) : ∃ j, j < (ends l).length ∧ endV l j = x := by
 have m : (x : Int) ∈ ends l := by
  unfold ends lgs
  rw [List.mem_map]
  exact ⟨x, by rw [List.mem_filter, List.mem_range]; exact ⟨hx, h⟩, rfl⟩
 obtain ⟨j, hj, e⟩ := List.getElem_of_mem m
 exact ⟨j, hj, by unfold endV; rw [rd_get _ _ hj]; exact e⟩
theorem Fc.leg {l : List api_Item} {x : Nat} (hx : x < l.length) (h : Fc (rd l (x : Int))) : legB l (x : Int) = true := by
 have h1 := h.1
 have h2 := h.2
 unfold legB
 rw [if_neg (by omega), if_neg (by omega), if_pos h1, decide_eq_true_iff]; omega
theorem ends_last {l : List api_Item} (h : RightI l) : 0 < (ends l).length ∧ endV l ((ends l).length - 1) = (l.length : Int) - 1 := by
 have e : ((l.length - 1 : Nat) : Int) = (l.length : Int) - 1 := by have := h.1.1; omega
 have f := h.1.2.2
 rw [← e] at f
 obtain ⟨j, hj, k⟩ := endV_of l (x := l.length - 1) (by have := h.1.1; omega) (Fc.leg (by have := h.1.1; omega) f)
 refine ⟨by omega, ?_⟩
 by_cases q : j = (ends l).length - 1
 · rw [← q, k, e]
 · have a := endV_lt l (i := j) (j := (ends l).length - 1) (by omega) (by omega)
   have b := endV_mem l (j := (ends l).length - 1) (by omega)
   omega
open Classical in
noncomputable def fitV (l : List api_Item) (a b w : Int) : api_Fit := if h : ∃ v, Ev (fun k => regletref08_Fit.f k l a b w) v then Classical.choose h else default
theorem fitV_ok {l : List api_Item} {p : measure_Para} (hp : Par l p) (hg : Good l) (a b w : Int) (hx : -1099511627776 ≤ w ∧ w ≤ 1099511627776) :
 Ev (fun k => measure_Para_Fit.f k p a b w) (fitV l a b w) ∧ Ev (fun k => regletref08_Fit.f k l a b w) (fitV l a b w) ∧
  ((bdV l a b).1 > w → (fitV l a b w).2.2.2.2 = true) ∧ ((bdV l a b).2.1 < w → (bdV l a b).2.2 = false → (fitV l a b w).2.2.1 = 10000) ∧ 0 ≤ (fitV l a b w).2.2.2.1 ∧ (fitV l a b w).2.2.2.1 ≤ 3 := by
 obtain ⟨v, x, y, z⟩ := Fit_both hp hg a b w hx
 have e : fitV l a b w = v := by
  unfold fitV
  rw [dif_pos ⟨v, y⟩]
  exact (Classical.choose_spec (⟨v, y⟩ : ∃ v, Ev (fun k => regletref08_Fit.f k l a b w) v)).uniq y
 rw [e]
 exact ⟨x, y, z⟩
open Classical in
noncomputable def costV (s : api_Settings) (f : api_Fit) (e : api_Item) (ah : Int) (flag last : Bool) : Int := if h : ∃ r, (0 ≤ r ∧ r ≤ 1125899906842624) ∧ Ev (fun k => measure_Cost.f k s f e (ah, flag) last) r ∧ Ev (fun k => regletref08_Cost.f k s f e ah flag last) r then Classical.choose h else 0
theorem costV_range (s : api_Settings) (f : api_Fit) (e : api_Item) (ah : Int) (flag last : Bool) : 0 ≤ costV s f e ah flag last ∧ costV s f e ah flag last ≤ 1125899906842624 := by
 unfold costV
 split
 case isTrue h => exact (Classical.choose_spec h).1
 case isFalse => omega
theorem costV_ok (s : api_Settings) (f : api_Fit) (e : api_Item) (ah : Int) (flag last : Bool) (hs : SetOk s) (a0 : -1000 ≤ ah) (a1 : ah ≤ 1000) (c0 : -1000 ≤ f.2.2.2.1) (c1 : f.2.2.2.1 ≤ 1000) :
 Ev (fun k => measure_Cost.f k s f e (ah, flag) last) (costV s f e ah flag last) ∧ Ev (fun k => regletref08_Cost.f k s f e ah flag last) (costV s f e ah flag last) := by
 have h := cost_both s f e ah flag last hs a0 a1 c0 c1
 unfold costV
 rw [dif_pos h]
 exact (Classical.choose_spec h).2
noncomputable def netOf (l : List api_Item) (w : Int) (s : api_Settings) (loose : Bool) : Net where
 n := (ends l).length
 fo j := decide (Fc (rd l (endV l j)))
 D a j := if loose = true then (!(fitV l (posV l a) (endV l j) w).2.2.2.2 || decide (j = a)) else (!(fitV l (posV l a) (endV l j) w).2.2.2.2 && decide ((fitV l (posV l a) (endV l j) w).2.2.1 ≤ s.1))
 C a j c := costV s (fitV l (posV l a) (endV l j) w) (rd l (endV l j)) (if a = 0 then -1 else c) (if a = 0 then false else (rd l (posV l a)).2.2.2.2.2.2.1) (decide (j + 1 = (ends l).length))
 K a j := (fitV l (posV l a) (endV l j) w).2.2.2.1
 c0 _ _ _ := costV_range _ _ _ _ _ _
structure Sit (l : List api_Item) (p : measure_Para) (w : Int) (s : api_Settings) : Prop where
 par : Par l p
 right : RightI l
 ws : WS w s
theorem Sit.good {l : List api_Item} {p : measure_Para} {w : Int} {s : api_Settings} (h : Sit l p w s) : Good l := h.right.good
theorem Sit.fit {l : List api_Item} {p : measure_Para} {w : Int} {s : api_Settings} (h : Sit l p w s) (a b : Int) :
 Ev (fun k => measure_Para_Fit.f k p a b w) (fitV l a b w) ∧ Ev (fun k => regletref08_Fit.f k l a b w) (fitV l a b w) ∧
  ((bdV l a b).1 > w → (fitV l a b w).2.2.2.2 = true) ∧ ((bdV l a b).2.1 < w → (bdV l a b).2.2 = false → (fitV l a b w).2.2.1 = 10000) ∧ 0 ≤ (fitV l a b w).2.2.2.1 ∧ (fitV l a b w).2.2.2.1 ≤ 3 := fitV_ok h.par h.good a b w (by have := h.ws; unfold WS at this; omega)
theorem Sit.n_pos {l : List api_Item} {p : measure_Para} {w : Int} {s : api_Settings} (h : Sit l p w s) : 0 < (ends l).length := (ends_last h.right).1
theorem Sit.n_le {l : List api_Item} {p : measure_Para} {w : Int} {s : api_Settings} (h : Sit l p w s) : (ends l).length ≤ 262144 := Nat.le_trans (lgs_len l _) h.good.len
theorem Sit.fo_last {l : List api_Item} {p : measure_Para} {w : Int} {s : api_Settings} (h : Sit l p w s) (b : Bool) : (netOf l w s b).fo ((ends l).length - 1) = true := by
 show decide (Fc (rd l (endV l ((ends l).length - 1)))) = true
 rw [(ends_last h.right).2]
 exact decide_eq_true h.right.1.2.2
theorem Sit.K_ok {l : List api_Item} {p : measure_Para} {w : Int} {s : api_Settings} (h : Sit l p w s) (b : Bool) (a j : Nat) : 0 ≤ (netOf l w s b).K a j ∧ (netOf l w s b).K a j ≤ 3 := (h.fit _ _).2.2.2.2
theorem Sit.cost {l : List api_Item} {p : measure_Para} {w : Int} {s : api_Settings} (h : Sit l p w s) (b : Bool) (a j : Nat) (c : Int) (c0 : 0 ≤ c) (c1 : c ≤ 3) :
 Ev (fun k => measure_Cost.f k s (fitV l (posV l a) (endV l j) w) (rd l (endV l j)) ((if a = 0 then -1 else c), (if a = 0 then false else (rd l (posV l a)).2.2.2.2.2.2.1)) (decide (j + 1 = (ends l).length))) ((netOf l w s b).C a j c) ∧
 Ev (fun k => regletref08_Cost.f k s (fitV l (posV l a) (endV l j) w) (rd l (endV l j)) (if a = 0 then -1 else c) (if a = 0 then false else (rd l (posV l a)).2.2.2.2.2.2.1) (decide (j + 1 = (ends l).length))) ((netOf l w s b).C a j c) := by
 have f := (h.fit (posV l a) (endV l j)).2.2.2.2
 exact costV_ok s _ _ _ _ _ h.ws.2.2 (by split <;> omega) (by split <;> omega) (by omega) (by omega)
theorem Sit.loose {l : List api_Item} {p : measure_Para} {w : Int} {s : api_Settings} (_ : Sit l p w s) : ∀ (g a : Nat) (c t : Int), a + g = (ends l).length → ∃ W u, (netOf l w s true).Way a c t W u
 | 0, _, _, t, e => ⟨[], t, by show _ = (ends l).length; omega, rfl⟩
 | g + 1, a, c, t, e => by
  rename_i h
  obtain ⟨W, u, q⟩ := Sit.loose h g (a + 1) ((netOf l w s true).K a a) (tot t ((netOf l w s true).C a a c)) (by omega)
  refine ⟨a :: W, u, ⟨Nat.le_refl _, by show a < (ends l).length; omega, ?_, fun m h1 h2 => absurd h1 (by omega)⟩, q⟩
  unfold netOf
  simp
end Go.Proofs.YtjbobaeggdafpaaGreat.Vm
