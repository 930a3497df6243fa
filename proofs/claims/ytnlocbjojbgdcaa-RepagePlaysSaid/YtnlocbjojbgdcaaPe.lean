/- The plain law of books: lines in place of others; what stays of the pages. -/
import Derived.Test.YtnlocbjojbgdcaaPd
namespace Go.Proofs.Ytnlocbjojbgdcaa.Vm
open Go
open _root_.Go.RowKit (wrap64)
theorem rd_app {α : Type} [Inhabited α] (xs ys : List α) {i : Int} (h0 : 0 ≤ i) : rd (xs ++ ys) i = if i < xs.length then rd xs i else rd ys (i - xs.length) := by
 unfold rd
 simp only [List.getD_eq_getElem?_getD]
 by_cases c : i < xs.length
 · rw [if_pos c, List.getElem?_append_left (by omega)]
 · rw [if_neg c, List.getElem?_append_right (by omega), show i.toNat - xs.length = (i - (xs.length : Int)).toNat by omega]
theorem rd_take {α : Type} [Inhabited α] (xs : List α) {n : Nat} {i : Int} (h0 : 0 ≤ i) (h : i < n) : rd (xs.take n) i = rd xs i := by
 unfold rd
 simp only [List.getD_eq_getElem?_getD]
 rw [List.getElem?_take_of_lt (by omega)]
theorem rd_drop {α : Type} [Inhabited α] (xs : List α) {n : Nat} {i : Int} (h0 : 0 ≤ i) : rd (xs.drop n) i = rd xs (n + i) := by
 unfold rd
 simp only [List.getD_eq_getElem?_getD]
 rw [List.getElem?_drop, show n + i.toNat = ((n : Int) + i).toNat by omega]
def spl (l come : List api_Slot) (first gone : Int) : List api_Slot := l.take first.toNat ++ come ++ l.drop (first + gone).toNat
structure Fits (l : List api_Slot) (first gone : Int) : Prop where
 f0 : 0 ≤ first
 g0 : 0 ≤ gone
 le : first + gone ≤ l.length
section
variable {l come : List api_Slot} {first gone : Int}
theorem spl_len (h : Fits l first gone) : ((spl l come first gone).length : Int) = l.length + (come.length - gone) := by
 have := h.f0; have := h.g0; have := h.le
 simp only [spl, List.length_append, List.length_take, List.length_drop]
 omega
theorem spl_lt (h : Fits l first gone) {i : Int} (h0 : 0 ≤ i) (h1 : i < first) : rd (spl l come first gone) i = rd l i := by
 have := h.f0; have := h.g0; have := h.le
 unfold spl
 rw [List.append_assoc, rd_app _ _ h0, if_pos (by rw [List.length_take]; omega), rd_take _ h0 (by omega)]
theorem spl_mid (h : Fits l first gone) {i : Int} (h0 : first ≤ i) (h1 : i < first + come.length) : rd (spl l come first gone) i = rd come (i - first) := by
 have := h.f0; have := h.g0; have := h.le
 unfold spl
 rw [List.append_assoc, rd_app _ _ (by omega), if_neg (by rw [List.length_take]; omega), rd_app _ _ (by rw [List.length_take]; omega), if_pos (by rw [List.length_take]; omega)]
 congr 1
 rw [List.length_take]; omega
theorem spl_ge (h : Fits l first gone) {i : Int} (h0 : first + come.length ≤ i) : rd (spl l come first gone) i = rd l (i - (come.length - gone)) := by
 have := h.f0; have := h.g0; have := h.le
 unfold spl
 rw [rd_app _ _ (by omega), if_neg (by rw [List.length_append, List.length_take]; omega), rd_drop _ (by rw [List.length_append, List.length_take]; omega)]
 congr 1
 rw [List.length_append, List.length_take]; omega
theorem slotOk_of {m : List api_Slot} {i j : Int} (h1 : rd l i = rd m j) (h2 : closed l i ↔ closed m j) (h3 : ¬ closed l i → rd l (i - 1) = rd m (j - 1)) (h : slotOk m j) : slotOk l i := by
 obtain ⟨a, b, c, d, e, f⟩ := h
 unfold slotOk
 rw [h1]
 refine ⟨a, b, c, d, fun k => e (h2.1 k), fun k => ?_⟩
 rw [h3 k]
 exact f (fun q => k (h2.2 q))
theorem closed_of {m : List api_Slot} {i j : Int} (h1 : i ≠ 0) (h2 : j ≠ 0) (h3 : rd l (i - 1) = rd m (j - 1)) : closed l i ↔ closed m j := by
 unfold closed
 rw [h3]
 simp [h1, h2]
theorem spl_closed1 (h : Fits l first gone) {i : Int} (h0 : 0 ≤ i) (h1 : i ≤ first) : closed (spl l come first gone) i ↔ closed l i := by
 by_cases c : i = 0
 · subst c; exact ⟨fun _ => .inl rfl, fun _ => .inl rfl⟩
 · exact closed_of c c (spl_lt h (by omega) (by omega))
theorem spl_closed2 (h : Fits l first gone) (hc : closed l first) (hr : RightL come) : closed (spl l come first gone) (first + come.length) := by
 have := h.f0
 by_cases c : come.length = 0
 · rw [c, show first + ((0 : Nat) : Int) = first by omega]; exact (spl_closed1 h (by omega) (by omega)).2 hc
 · refine (closed_of (by omega) (by omega) ?_).2 hr.2
   rw [spl_mid h (by omega) (by omega)]
   congr 1; omega
theorem spl_closed3 (h : Fits l first gone) {i : Int} (h0 : first + come.length < i) : closed (spl l come first gone) i ↔ closed l (i - (come.length - gone)) := by
 have := h.f0; have := h.g0
 refine closed_of (by omega) (by omega) ?_
 rw [spl_ge h (by omega)]
 congr 1; omega
theorem spl_right (h : Fits l first gone) (hl : RightL l) (hr : RightL come) (h1 : closed l first) (h2 : closed l (first + gone)) : RightL (spl l come first gone) := by
 have hf := h.f0; have hg := h.g0; have hle := h.le
 have len := spl_len (come := come) h
 have c2 := spl_closed2 h h1 hr
 refine ⟨fun i h0 hi => ?_, ?_⟩
 · by_cases c : i < first
   · refine slotOk_of (spl_lt h h0 c) (spl_closed1 h h0 (by omega)) (fun n => ?_) (hl.1 i h0 (by omega))
     have : i ≠ 0 := fun e => n (.inl e)
     exact spl_lt h (by omega) (by omega)
   · by_cases d : i < first + come.length
     · refine slotOk_of (spl_mid h (by omega) d) ?_ (fun n => ?_) (hr.1 (i - first) (by omega) (by omega))
       · by_cases e : i = first
         · subst e
           exact ⟨fun _ => .inl (by omega), fun _ => (spl_closed1 h (by omega) (by omega)).2 h1⟩
         · refine closed_of (by omega) (by omega) ?_
           rw [spl_mid h (by omega) (by omega)]
           congr 1; omega
       · by_cases e : i = first
         · subst e; exact absurd ((spl_closed1 h (by omega) (by omega)).2 h1) n
         · rw [spl_mid h (by omega) (by omega)]
           congr 1; omega
     · refine slotOk_of (spl_ge h (by omega)) ?_ (fun n => ?_) (hl.1 (i - (come.length - gone)) (by omega) (by omega))
       · by_cases e : i = first + come.length
         · subst e
           refine ⟨fun _ => ?_, fun _ => c2⟩
           rw [show first + (come.length : Int) - (come.length - gone) = first + gone by omega]
           exact h2
         · exact spl_closed3 h (by omega)
       · by_cases e : i = first + come.length
         · subst e; exact absurd c2 n
         · rw [spl_ge h (by omega)]
           congr 1; omega
 · by_cases c : ((spl l come first gone).length : Int) = first + come.length
   · rw [c]; exact c2
   · refine (spl_closed3 h (by omega)).2 ?_
     rw [len, show (l.length : Int) + (come.length - gone) - (come.length - gone) = l.length by omega]
     exact hl.2
theorem spl_wf (h : Fits l first gone) (hl : Wf l) (hc : Wf come) (hs : (l.length : Int) + come.length ≤ 4611686018427387904) : Wf (spl l come first gone) := by
 have hf := h.f0; have hg := h.g0; have hle := h.le
 have len := spl_len (come := come) h
 refine ⟨by omega, fun i h0 hi => ?_⟩
 by_cases c : i < first
 · rw [spl_lt h h0 c]; exact hl.2 i h0 (by omega)
 · by_cases d : i < first + come.length
   · rw [spl_mid h (by omega) d]; exact hc.2 _ (by omega) (by omega)
   · rw [spl_ge h (by omega)]; exact hl.2 _ (by omega) (by omega)
theorem hsum_ge (h : Fits l first gone) {a : Int} (ha : first + gone ≤ a) : ∀ n : Nat, hsum (spl l come first gone) (a + (come.length - gone)) n = hsum l a n
 | 0 => rfl
 | n + 1 => by
  have := h.f0; have := h.g0
  show hsum _ _ n + (rd (spl l come first gone) (a + (come.length - gone) + n)).1 = hsum l a n + (rd l (a + n)).1
  rw [hsum_ge h ha n, spl_ge h (by omega), show a + ((come.length : Int) - gone) + n - (come.length - gone) = a + n by omega]
theorem high_ge (h : Fits l first gone) {a x : Int} (ha : first + gone ≤ a) : high (spl l come first gone) (a + (come.length - gone)) (x + (come.length - gone)) = high l a x := by
 unfold high
 rw [show x + ((come.length : Int) - gone) - (a + (come.length - gone)) = x - a by omega]
 exact hsum_ge h ha _
theorem cut_ge (h : Fits l first gone) {b : api_Settings} {x : Int} (hx : first + gone < x) : CutL (spl l come first gone) b (x + (come.length - gone)) ↔ CutL l b x := by
 have hf := h.f0; have hg := h.g0; have hle := h.le
 have len := spl_len (come := come) h
 have e := spl_ge (come := come) h (i := x + (come.length - gone) - 1) (by omega)
 rw [show x + ((come.length : Int) - gone) - 1 - (come.length - gone) = x - 1 by omega] at e
 unfold CutL
 rw [e]
 constructor
 · rintro (k | ⟨k1, k2, k3⟩)
   · exact .inl (by omega)
   · exact .inr ⟨by omega, by omega, k3⟩
 · rintro (k | ⟨k1, k2, k3⟩)
   · exact .inl (by omega)
   · exact .inr ⟨by omega, by omega, k3⟩
theorem next_ge (h : Fits l first gone) {b : api_Settings} {a hgt r : Int} (ha : first + gone ≤ a) (k : IsNext l b a hgt r) : IsNext (spl l come first gone) b (a + (come.length - gone)) hgt (r + (come.length - gone)) := by
 have len := spl_len (come := come) h
 have k1 := k.lt; have k2 := k.le
 refine ⟨by omega, by omega, (cut_ge h (by omega)).2 k.cut, ?_, fun j x y z => ?_⟩
 · rw [high_ge h ha]
   rcases k.fit with q | q
   · exact .inl q
   · refine .inr (fun j x y z => ?_)
     obtain ⟨i, rfl⟩ : ∃ i, j = i + ((come.length : Int) - gone) := ⟨j - (come.length - gone), by omega⟩
     exact q i (by omega) (by omega) ((cut_ge h (by omega)).1 z)
 · obtain ⟨i, rfl⟩ : ∃ i, j = i + ((come.length : Int) - gone) := ⟨j - (come.length - gone), by omega⟩
   rw [high_ge h ha]
   exact k.far i (by omega) (by omega) ((cut_ge h (by omega)).1 z)
theorem chain_ge (h : Fits l first gone) {b : api_Settings} {hgt a : Int} {s : List Int} (k : Chain l b hgt a s) : first + gone ≤ a → Chain (spl l come first gone) b hgt (a + (come.length - gone)) (s.map (· + ((come.length : Int) - gone))) := by
 have hf := h.f0; have hg := h.g0
 have len := spl_len (come := come) h
 induction k with
 | done e => exact fun _ => .done (by omega)
 | more h0 hlt n c ih => exact fun ha => .more (by omega) (by omega) (next_ge h ha n) (ih (by have := n.lt; omega))
theorem hsum_lt (h : Fits l first gone) {a : Int} (ha : 0 ≤ a) : ∀ n : Nat, a + n ≤ first → hsum (spl l come first gone) a n = hsum l a n
 | 0, _ => rfl
 | n + 1, hn => by
  show hsum _ _ n + (rd (spl l come first gone) (a + n)).1 = hsum l a n + (rd l (a + n)).1
  rw [hsum_lt h ha n (by omega), spl_lt h (by omega) (by omega)]
theorem high_first (h : Fits l first gone) {a x : Int} (ha : 0 ≤ a) (hax : a ≤ x) (hx : x ≤ first) : high (spl l come first gone) a x = high l a x := by
 unfold high
 exact hsum_lt h ha _ (by omega)
theorem cut_first (h : Fits l first gone) {b : api_Settings} {x : Int} (hx : x < first) : CutL (spl l come first gone) b x ↔ CutL l b x := by
 have hf := h.f0; have hg := h.g0; have hle := h.le
 have len := spl_len (come := come) h
 unfold CutL
 constructor
 · rintro (k | ⟨k1, k2, k3⟩)
   · omega
   · rw [spl_lt h (by omega) (by omega)] at k3; exact .inr ⟨k1, by omega, k3⟩
 · rintro (k | ⟨k1, k2, k3⟩)
   · omega
   · refine .inr ⟨k1, by omega, ?_⟩
     rw [spl_lt h (by omega) (by omega)]; exact k3
theorem next_first (h : Fits l first gone) (hh : HighOk (spl l come first gone)) {b : api_Settings} {a hgt r q : Int} (ha : 0 ≤ a) (hrq : r < q) (hq : q ≤ first) (hcq : CutL l b q) (k : IsNext l b a hgt r) : IsNext (spl l come first gone) b a hgt r := by
 have hf := h.f0; have hg := h.g0; have hle := h.le
 have len := spl_len (come := come) h
 have k1 := k.lt
 refine ⟨k1, by omega, (cut_first h (by omega)).2 k.cut, ?_, fun j x y z => ?_⟩
 · rw [high_first h ha (by omega) (by omega)]
   rcases k.fit with p | p
   · exact .inl p
   · exact .inr (fun j x y z => p j x y ((cut_first h (by omega)).1 z))
 · by_cases c : j < q
   · rw [high_first h ha (by omega) (by omega)]
     exact k.far j x (by omega) ((cut_first h (by omega)).1 z)
   · have f := k.far q hrq (by omega) hcq
     rw [← high_first (come := come) h ha (by omega) hq] at f
     by_cases e : j = q
     · subst e; exact f
     · have := high_lt hh ha (show a ≤ q by omega) (show q < j by omega) y; omega
end
theorem Chain.head {l : List api_Slot} {b : api_Settings} {hgt a x : Int} {s : List Int} (h : Chain l b hgt a (x :: s)) : x = a ∧ 0 ≤ a ∧ a < l.length := by
 cases h with
 | more h0 hlt n c => exact ⟨rfl, h0, hlt⟩
theorem Chain.ge {l : List api_Slot} {b : api_Settings} {hgt a : Int} {s : List Int} (h : Chain l b hgt a s) : ∀ x, x ∈ s → a ≤ x ∧ x < l.length := by
 induction h with
 | done e => intro x hx; cases hx
 | more h0 hlt n c ih =>
  intro x hx
  have := n.lt
  rcases List.mem_cons.1 hx with rfl | hx
  · exact ⟨by omega, hlt⟩
  · have := ih x hx; exact ⟨by omega, this.2⟩
theorem Chain.drop {l : List api_Slot} {b : api_Settings} {hgt a : Int} {s : List Int} (h : Chain l b hgt a s) : ∀ q : Nat, q < s.length → Chain l b hgt (rd s q) (s.drop q) := by
 induction h with
 | done e => intro q hq; simp at hq
 | more h0 hlt n c ih =>
  intro q hq
  cases q with
  | zero => exact .more h0 hlt n c
  | succ q => exact ih q (by simpa using hq)
theorem Chain.up {l : List api_Slot} {b : api_Settings} {hgt a : Int} {s : List Int} (h : Chain l b hgt a s) : ∀ i j : Int, 0 ≤ i → i < j → j < s.length → rd s i < rd s j := by
 induction h with
 | done e => intro i j h0 h1 h2; simp at h2; omega
 | @more a r s h0 hlt n c ih =>
  intro i j i0 i1 i2
  have e : ∀ k : Int, 0 < k → rd (a :: s) k = rd s (k - 1) := fun k hk => by
   unfold rd
   rw [show k.toNat = (k - 1).toNat + 1 by omega]; rfl
  simp only [List.length_cons] at i2
  rw [e j (by omega)]
  by_cases z : i = 0
  · subst z
    show a < _
    have := (c.ge _ (rd_mem (xs := s) (show 0 ≤ j - 1 by omega) (by omega))).1
    have := n.lt
    omega
  · rw [e i (by omega)]
    exact ih (i - 1) (j - 1) (by omega) (by omega) (by omega)
theorem Chain.uniq {l : List api_Slot} {b : api_Settings} {hgt a : Int} {s t : List Int} (h : Chain l b hgt a s) (k : Chain l b hgt a t) : s = t := by
 induction h generalizing t with
 | done e =>
  cases k with
  | done _ => rfl
  | more h0 hlt n c => omega
 | more h0 hlt n c ih =>
  cases k with
  | done e => omega
  | more h0' hlt' n' c' =>
   have := n.uniq n'
   subst this
   rw [ih c']
theorem chain_first {l come : List api_Slot} {first gone : Int} (hF : Fits l first gone) (hh : HighOk (spl l come first gone)) {b : api_Settings} {hgt : Int} {t : List Int} : ∀ (p : Nat) (a : Int) (s : List Int), Chain l b hgt a s → p + 1 < s.length → rd s (p + 1 : Nat) ≤ first →
 Chain (spl l come first gone) b hgt (rd s p) t → Chain (spl l come first gone) b hgt a (s.take p ++ t)
 | 0, a, s, h, hp, hf, k => by
  cases h with
  | done e => simp at hp
  | more h0 hlt n c => exact k
 | p + 1, a, s, h, hp, hf, k => by
  have up := h.up
  cases h with
  | done e => simp at hp
  | @more _ r s h0 hlt n c =>
   simp only [List.length_cons] at hp
   have ih := chain_first hF hh p r s c (by omega) hf k
   have cc := c
   cases cc with
   | done e => simp at hp
   | @more _ r2 s2 g0 glt gn gc =>
    have q1 : r2 ≤ first ∧ r2 < l.length := by
     cases gc with
     | done e => exact absurd hp (by simp)
     | @more _ r3 s3 f0 flt fn fc =>
      have := up 2 (p + 1 + 1 : Nat) (by omega)
      by_cases z : p = 0
      · subst z; exact ⟨hf, flt⟩
      · have := this (by omega) (by simp at hp ⊢; omega)
        have e : rd (a :: r :: r2 :: s3) (2 : Int) = r2 := rfl
        rw [e] at this
        exact ⟨by omega, flt⟩
    have hl := spl_len (come := come) hF
    have := hF.le; have := hF.g0; have := n.lt; have := gn.lt
    exact .more h0 (by omega) (next_first hF hh h0 gn.lt q1.1 gn.cut n) ih
end Go.Proofs.Ytnlocbjojbgdcaa.Vm
