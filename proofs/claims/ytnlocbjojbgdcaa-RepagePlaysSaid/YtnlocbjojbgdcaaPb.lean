/- The plain law of pages: where a page may end, and where the next one begins. -/
import Derived.Test.YtnlocbjojbgdcaaPa
namespace Go.Proofs.Ytnlocbjojbgdcaa.Vm
open Go
open _root_.Go.RowKit (wrap64)
def mayB (s : api_Slot) (b : api_Settings) : Bool := if s.2.1 = s.2.2.1 - 1 then !s.2.2.2 else decide (b.2.2.2.2.2.1 ≤ s.2.1 + 1) && decide (b.2.2.2.2.2.2 ≤ s.2.2.1 - 1 - s.2.1)
def Small (s : api_Slot) : Prop := 0 ≤ s.2.1 ∧ s.2.1 < s.2.2.1 ∧ s.2.2.1 ≤ 4611686018427387904
theorem pages_May_eq {s : api_Slot} (h : Small s) (b : api_Settings) (k : Nat) : pages_May.f k s b = some (mayB s b) := by
 obtain ⟨h0, h1, h2⟩ := h
 unfold pages_May.f mayB
 rw [w64 (x := s.2.2.1 - 1) (by omega) (by omega), w64 (x := s.2.1 + 1) (by omega) (by omega), w64 (x := s.2.2.1 - 1 - s.2.1) (by omega) (by omega)]
 simp only [decide_eq_true_eq]
 by_cases c : s.2.1 = s.2.2.1 - 1
 · rw [if_pos c, if_pos c]
 · rw [if_neg c, if_neg c]
   by_cases c2 : b.2.2.2.2.2.1 ≤ s.2.1 + 1
   · rw [if_pos c2, decide_eq_true c2]; rfl
   · rw [if_neg c2, decide_eq_false c2]; rfl
theorem ref_May_eq {s : api_Slot} (h : Small s) (b : api_Settings) (k : Nat) : regletref12_May.f k s b = some (mayB s b) := by
 obtain ⟨h0, h1, h2⟩ := h
 unfold regletref12_May.f mayB
 rw [w64 (x := s.2.1 + 1) (by omega) (by omega), w64 (x := s.2.2.1 - (s.2.1 + 1)) (by omega) (by omega)]
 simp only [decide_eq_true_eq]
 by_cases c : s.2.1 = s.2.2.1 - 1
 · rw [if_pos (by omega), if_pos c]
 · rw [if_neg (by omega), if_neg c]
   by_cases c2 : b.2.2.2.2.2.1 ≤ s.2.1 + 1
   · rw [if_pos c2, decide_eq_true c2, show s.2.2.1 - (s.2.1 + 1) = s.2.2.1 - 1 - s.2.1 by omega]; rfl
   · rw [if_neg c2, decide_eq_false c2]; rfl
theorem right_small {l : List api_Slot} (hw : Wf l) (hr : RightL l) : ∀ i : Int, 0 ≤ i → i < l.length → Small (rd l i) := by
 have key : ∀ n : Nat, (n : Int) < l.length → ∃ b : Int, 0 ≤ b ∧ b ≤ n ∧ closed l b ∧ b + (rd l n).2.1 = n ∧ (rd l n).2.2.1 = (rd l b).2.2.1 := by
  intro n
  induction n with
  | zero =>
   intro h
   refine ⟨0, by omega, by omega, .inl rfl, ?_, rfl⟩
   have := (hr.1 0 (by omega) h).2.2.2.2.1 (.inl rfl)
   rw [show ((0 : Nat) : Int) = 0 from rfl, this]; rfl
  | succ n ih =>
   intro h
   obtain ⟨b, b0, b1, b2, b3, b4⟩ := ih (by omega)
   have s := hr.1 ((n + 1 : Nat) : Int) (by omega) h
   by_cases c : closed l ((n + 1 : Nat) : Int)
   · exact ⟨((n + 1 : Nat) : Int), by omega, by omega, c, by have := s.2.2.2.2.1 c; omega, rfl⟩
   · obtain ⟨x, y, _⟩ := s.2.2.2.2.2 c
     rw [show ((n + 1 : Nat) : Int) - 1 = n by omega] at x y
     exact ⟨b, b0, by omega, b2, by omega, by omega⟩
 intro i h0 hi
 obtain ⟨b, b0, b1, b2, b3, b4⟩ := key i.toNat (by omega)
 rw [show ((i.toNat : Nat) : Int) = i by omega] at b1 b3 b4
 obtain ⟨_, _, q1, q2, _⟩ := hr.1 i h0 hi
 have := hw.1
 have hp := (para hr b0 (by omega) b2 ((rd l b).2.2.1 - 1).toNat (by omega)).1
 exact ⟨q1, q2, by omega⟩
def CutL (l : List api_Slot) (b : api_Settings) (k : Int) : Prop := k = l.length ∨ 0 < k ∧ k < l.length ∧ mayB (rd l (k - 1)) b = true
theorem ref_Cut_eq {l : List api_Slot} (hw : Wf l) (hr : RightL l) {k : Int} (h0 : 0 ≤ k) (hk : k ≤ 4611686018427387905) (b : api_Settings) (n : Nat) :
 regletref12_Cut.f n l k b = some (isTrue (CutL l b k)) := by
 unfold regletref12_Cut.f
 simp only [decide_eq_true_eq]
 by_cases c : k = l.length
 · rw [if_pos c, isTrue_yes (.inl c)]
 · rw [if_neg c]
   by_cases c1 : 0 < k
   · rw [if_pos c1]
     by_cases c2 : k < l.length
     · rw [if_pos c2, w64 (x := k - 1) (by omega) (by omega), at?_rd (by omega) (by omega)]
       simp only [Option.bind_some]
       rw [ref_May_eq (right_small hw hr (k - 1) (by omega) (by omega))]
       simp only [Option.bind_some]
       by_cases c3 : mayB (rd l (k - 1)) b = true
       · rw [c3, isTrue_yes (.inr ⟨c1, c2, c3⟩)]
       · rw [isTrue_no (p := CutL l b k) (by rintro (h | ⟨_, _, h⟩); exact c h; exact c3 h)]
         simpa using c3
     · rw [if_neg c2, isTrue_no (by rintro (h | ⟨_, h, _⟩); exact c h; exact c2 h)]
   · rw [if_neg c1, isTrue_no (by rintro (h | ⟨h, _, _⟩); exact c h; exact c1 h)]
def hsum (l : List api_Slot) (a : Int) : Nat → Int
 | 0 => 0
 | n + 1 => hsum l a n + (rd l (a + n)).1
def high (l : List api_Slot) (a b : Int) : Int := hsum l a (b - a).toNat
theorem high_self (l : List api_Slot) (a : Int) : high l a a = 0 := by unfold high; rw [show (a - a).toNat = 0 by omega]; rfl
theorem high_succ (l : List api_Slot) {a b : Int} (h : a ≤ b) : high l a (b + 1) = high l a b + (rd l b).1 := by
 unfold high
 rw [show (b + 1 - a).toNat = (b - a).toNat + 1 by omega]
 show _ + (rd l (a + ((b - a).toNat : Nat))).1 = _
 rw [show a + (((b - a).toNat : Nat) : Int) = b by omega]
def HighOk (l : List api_Slot) : Prop := ∀ i : Int, 0 ≤ i → i < l.length → 1 ≤ (rd l i).1 ∧ (rd l i).1 ≤ 1048576
theorem RightL.high {l : List api_Slot} (h : RightL l) : HighOk l := fun i h0 hi => ⟨(h.1 i h0 hi).1, (h.1 i h0 hi).2.1⟩
theorem high_bound {l : List api_Slot} (h : HighOk l) {a : Int} (ha : 0 ≤ a) : ∀ n : Nat, a + n ≤ l.length → (n : Int) ≤ high l a (a + n) ∧ high l a (a + n) ≤ 1048576 * n := by
 intro n
 induction n with
 | zero => intro _; rw [show a + ((0 : Nat) : Int) = a by omega, high_self]; omega
 | succ n ih =>
  intro hn
  obtain ⟨x, y⟩ := ih (by omega)
  rw [show a + ((n + 1 : Nat) : Int) = a + n + 1 by omega, high_succ l (by omega)]
  have := h (a + n) (by omega) (by omega)
  omega
theorem high_le {l : List api_Slot} (h : HighOk l) {a b : Int} (ha : 0 ≤ a) (hab : a ≤ b) (hb : b ≤ l.length) : b - a ≤ high l a b ∧ high l a b ≤ 1048576 * (b - a) := by
 have := high_bound h ha (b - a).toNat (by omega)
 rw [show a + (((b - a).toNat : Nat) : Int) = b by omega] at this
 omega
theorem high_lt {l : List api_Slot} (h : HighOk l) {a b c : Int} (ha : 0 ≤ a) (hab : a ≤ b) (hbc : b < c) (hc : c ≤ l.length) : high l a b < high l a c := by
 have key : ∀ n : Nat, b + 1 + n ≤ l.length → high l a b < high l a (b + 1 + n) := by
  intro n
  induction n with
  | zero =>
   intro hn
   rw [show b + 1 + ((0 : Nat) : Int) = b + 1 by omega, high_succ l hab]
   have := h b (by omega) (by omega)
   omega
  | succ n ih =>
   intro hn
   have := ih (by omega)
   rw [show b + 1 + ((n + 1 : Nat) : Int) = b + 1 + n + 1 by omega, high_succ l (by omega)]
   have := h (b + 1 + n) (by omega) (by omega)
   omega
 have := key (c - b - 1).toNat (by omega)
 rwa [show b + 1 + (((c - b - 1).toNat : Nat) : Int) = c by omega] at this
def Few (l : List api_Slot) : Prop := (l.length : Int) ≤ 1099511627776
theorem ref_High_loop {l : List api_Slot} (hf : Few l) (h : HighOk l) {a b : Int} (ha : 0 ≤ a) (hb : b ≤ l.length) : ∀ (d : Nat) (i : Int), a ≤ i → i + d = b →
 Ev (fun k => regletref12_High.l0 k l b (high l a i) i) (high l a b) := by
 unfold Few at hf
 intro d
 induction d with
 | zero =>
  intro i h1 h2
  have : i = b := by omega
  subst this
  exact Ev.st (fun k => by rw [regletref12_High.l0]) (Ev.dn (by omega) (Ev.now _))
 | succ d ih =>
  intro i h1 h2
  have e := high_succ l h1
  have p := high_le h ha (show a ≤ i + 1 by omega) (by omega)
  refine Ev.st (fun k => by rw [regletref12_High.l0]) (Ev.dp (by omega) (Ev.dp (by omega) (Ev.st (fun k => by rw [regletref12_High.j1]) (Ev.at_ (by omega) (by omega) ?_))))
  rw [← e, w64 (x := high l a (i + 1)) (by omega) (by omega), w64 (x := i + 1) (by omega) (by omega)]
  exact ih (i + 1) (by omega) (by omega)
theorem ref_High_ev {l : List api_Slot} (hf : Few l) (h : HighOk l) {a b : Int} (ha : 0 ≤ a) (hab : a ≤ b) (hb : b ≤ l.length) : Ev (fun k => regletref12_High.f k l a b) (high l a b) := by
 have := ref_High_loop hf h ha hb (b - a).toNat a (Int.le_refl _) (by omega)
 rwa [high_self] at this
structure IsNext (l : List api_Slot) (b : api_Settings) (a hgt r : Int) : Prop where
 lt : a < r
 le : r ≤ l.length
 cut : CutL l b r
 fit : high l a r ≤ hgt ∨ ∀ j, a < j → j < r → ¬ CutL l b j
 far : ∀ j, r < j → j ≤ l.length → CutL l b j → hgt < high l a j
theorem IsNext.uniq {l : List api_Slot} {b : api_Settings} {a hgt r s : Int} (h : IsNext l b a hgt r) (k : IsNext l b a hgt s) : r = s := by
 have one : ∀ {r s}, IsNext l b a hgt r → IsNext l b a hgt s → ¬ r < s := by
  intro r s h k hlt
  have f := h.far s hlt k.le k.cut
  rcases k.fit with h1 | h1
  · omega
  · exact h1 r h.lt hlt h.cut
 have := one h k
 have := one k h
 omega
theorem pages_Next_loop {l : List api_Slot} (hw : Wf l) (hf : Few l) (hr : RightL l) {a hgt : Int} (ha : 0 ≤ a) (hlt : a < l.length) (b : api_Settings) : ∀ (d : Nat) (i e : Int), a ≤ i → i + d = l.length →
 ((e = a ∧ ∀ j, a < j → j ≤ i → ¬ CutL l b j) ∨ (a < e ∧ e ≤ i ∧ CutL l b e ∧ high l a e ≤ hgt ∧ ∀ j, e < j → j ≤ i → ¬ CutL l b j)) →
 ∃ r, IsNext l b a hgt r ∧ Ev (fun k => pages_Next.l0 k l a hgt (high l a i) e i b) r := by
 have hf' := hf
 unfold Few at hf'
 have hh := hr.high
 intro d
 induction d with
 | zero =>
  intro i e h1 h2 h3
  have ei : i = l.length := by omega
  subst ei
  refine ⟨e, ?_, Ev.st (fun k => by rw [pages_Next.l0]) (Ev.dn (by omega) (Ev.now _))⟩
  rcases h3 with ⟨_, h⟩ | ⟨q1, q2, q3, q4, q5⟩
  · exact absurd (.inl rfl) (h l.length (by omega) (Int.le_refl _))
  · exact ⟨q1, q2, q3, .inl q4, fun j x y z => absurd z (q5 j x y)⟩
 | succ d ih =>
  intro i e h1 h2 h3
  have es := high_succ l h1
  have p := high_le hh ha (show a ≤ i + 1 by omega) (by omega)
  have hm := fun k => pages_May_eq (right_small hw hr i (by omega) (by omega)) b k
  have hcut : CutL l b (i + 1) ↔ (mayB (rd l i) b = true ∨ i = (l.length : Int) - 1) := by
   unfold CutL
   rw [show i + 1 - 1 = i by omega]
   constructor
   · rintro (h | ⟨_, _, h⟩)
     · exact .inr (by omega)
     · exact .inl h
   · rintro (h | h)
     · by_cases q : i + 1 = l.length
       · exact .inl q
       · exact .inr ⟨by omega, by omega, h⟩
     · exact .inl (by omega)
  have third : ∀ e', ((e' = a ∧ ∀ j, a < j → j ≤ i + 1 → ¬ CutL l b j) ∨ (a < e' ∧ e' ≤ i + 1 ∧ CutL l b e' ∧ high l a e' ≤ hgt ∧ ∀ j, e' < j → j ≤ i + 1 → ¬ CutL l b j)) →
   ∃ r, IsNext l b a hgt r ∧ Ev (fun k => pages_Next.j3 k l a hgt (high l a (i + 1)) e' i b) r := by
   intro e' h
   obtain ⟨r, hr1, hr2⟩ := ih (i + 1) e' (by omega) (by omega) h
   refine ⟨r, hr1, Ev.st (fun k => by rw [pages_Next.j3]) ?_⟩
   rw [w64 (x := i + 1) (by omega) (by omega)]
   exact hr2
  have rest : ¬ (hgt < high l a (i + 1) ∧ a < e) → ∃ r, IsNext l b a hgt r ∧ Ev (fun k => pages_Next.j1 k l a hgt (high l a (i + 1)) e i b) r := by
   intro hn
   have yes : CutL l b (i + 1) → ∃ r, IsNext l b a hgt r ∧ Ev (fun k => pages_Next.j2 k l a hgt (high l a (i + 1)) (wrap64 (i + 1)) i b) r := by
    intro hc
    rw [w64 (x := i + 1) (by omega) (by omega)]
    by_cases c2 : hgt < high l a (i + 1)
    · have ea : e = a := by rcases h3 with ⟨h, _⟩ | ⟨h, _⟩ <;> omega
      refine ⟨i + 1, ⟨by omega, by omega, hc, .inr (fun j x y => ?_), fun j x y z => ?_⟩, Ev.st (fun k => by rw [pages_Next.j2]) (Ev.dp c2 (Ev.now _))⟩
      · rcases h3 with ⟨_, h⟩ | ⟨h, _⟩
        · exact h j x (by omega)
        · omega
      · have := high_lt hh ha (show a ≤ i + 1 by omega) x y; omega
    · obtain ⟨r, hr1, hr2⟩ := third (i + 1) (.inr ⟨by omega, Int.le_refl _, hc, by omega, fun j x y => by omega⟩)
      exact ⟨r, hr1, Ev.st (fun k => by rw [pages_Next.j2]) (Ev.dn c2 hr2)⟩
   have no : ¬ CutL l b (i + 1) → ∃ r, IsNext l b a hgt r ∧ Ev (fun k => pages_Next.j3 k l a hgt (high l a (i + 1)) e i b) r := by
    intro hc
    refine third e ?_
    rcases h3 with ⟨h, k⟩ | ⟨q1, q2, q3, q4, q5⟩
    · refine .inl ⟨h, fun j x y => ?_⟩
      by_cases ej : j = i + 1
      · subst ej; exact hc
      · exact k j x (by omega)
    · refine .inr ⟨q1, by omega, q3, q4, fun j x y => ?_⟩
      by_cases ej : j = i + 1
      · subst ej; exact hc
      · exact q5 j x (by omega)
   have first : ∀ {r : Int} {G : Nat → Bool → Option Int}, Ev (fun k => G k (mayB (rd l i) b)) r → Ev (fun k => (at? l i).bind fun e2 => (pages_May.f k e2 b).bind fun t => G k t) r :=
    fun {r} {G} h => Ev.at_ (by omega) (by omega) (Ev.congr (fun k => by rw [hm k]; rfl) h)
   by_cases c : mayB (rd l i) b = true
   · obtain ⟨r, hr1, hr2⟩ := yes (hcut.2 (.inl c))
     exact ⟨r, hr1, Ev.st (fun k => by rw [pages_Next.j1]) (first (Ev.ifp c hr2))⟩
   · by_cases d : i = (l.length : Int) - 1
     · obtain ⟨r, hr1, hr2⟩ := yes (hcut.2 (.inr d))
       refine ⟨r, hr1, Ev.st (fun k => by rw [pages_Next.j1]) (first (Ev.ifn c ?_))⟩
       rw [w64 (x := (l.length : Int) - 1) (by omega) (by omega)]
       exact Ev.dp d hr2
     · obtain ⟨r, hr1, hr2⟩ := no (fun h => by rcases hcut.1 h with h | h; exact c h; exact d h)
       refine ⟨r, hr1, Ev.st (fun k => by rw [pages_Next.j1]) (first (Ev.ifn c ?_))⟩
       rw [w64 (x := (l.length : Int) - 1) (by omega) (by omega)]
       exact Ev.dn d hr2
  have open_ : ∀ {r}, Ev (fun k => if (decide (hgt < high l a (i + 1))) = true then (if (decide (a < e)) = true then some e else pages_Next.j1 k l a hgt (high l a (i + 1)) e i b) else pages_Next.j1 k l a hgt (high l a (i + 1)) e i b) r → Ev (fun k => pages_Next.l0 k l a hgt (high l a i) e i b) r := by
   intro r h
   refine Ev.st (fun k => by rw [pages_Next.l0]) (Ev.dp (by omega) (Ev.at_ (by omega) (by omega) ?_))
   rw [← es, w64 (x := high l a (i + 1)) (by omega) (by omega)]
   exact h
  by_cases c : hgt < high l a (i + 1)
  · by_cases c2 : a < e
    · refine ⟨e, ?_, open_ (Ev.dp c (Ev.dp c2 (Ev.now _)))⟩
      rcases h3 with ⟨h, _⟩ | ⟨q1, q2, q3, q4, q5⟩
      · omega
      · refine ⟨q1, by omega, q3, .inl q4, fun j x y z => ?_⟩
        by_cases ej : j ≤ i
        · exact absurd z (q5 j x ej)
        · by_cases e2 : j = i + 1
          · subst e2; exact c
          · have := high_lt hh ha (show a ≤ i + 1 by omega) (show i + 1 < j by omega) y; omega
    · obtain ⟨r, hr1, hr2⟩ := rest (by omega)
      exact ⟨r, hr1, open_ (Ev.dp c (Ev.dn c2 hr2))⟩
  · obtain ⟨r, hr1, hr2⟩ := rest (by omega)
    exact ⟨r, hr1, open_ (Ev.dn c hr2)⟩
theorem pages_Next_ev {l : List api_Slot} (hw : Wf l) (hf : Few l) (hr : RightL l) {a : Int} (hgt : Int) (ha : 0 ≤ a) (hlt : a < l.length) (b : api_Settings) :
 ∃ r, IsNext l b a hgt r ∧ Ev (fun k => pages_Next.f k l a hgt b) r := by
 have := pages_Next_loop (hgt := hgt) hw hf hr ha hlt b ((l.length : Int) - a).toNat a a (Int.le_refl _) (by omega) (.inl ⟨rfl, fun j x y => by omega⟩)
 rwa [high_self] at this
theorem pages_Next_end {l : List api_Slot} (hgt : Int) (b : api_Settings) : Ev (fun k => pages_Next.f k l (l.length : Int) hgt b) (l.length : Int) :=
 Ev.st (fun k => by rw [pages_Next.f, pages_Next.l0]) (Ev.dn (by omega) (Ev.now _))
theorem ref_Next_loop {l : List api_Slot} (hw : Wf l) (hf : Few l) (hr : RightL l) {a hgt : Int} (ha : 0 ≤ a) (hlt : a < l.length) (b : api_Settings) : ∀ (d : Nat) (i e : Int), a < i → i + d = l.length + 1 →
 ((e = a ∧ ∀ j, a < j → j < i → ¬ CutL l b j) ∨ (a < e ∧ e < i ∧ CutL l b e ∧ (high l a e ≤ hgt ∨ ∀ j, a < j → j < e → ¬ CutL l b j) ∧ ∀ j, e < j → j < i → CutL l b j → hgt < high l a j)) →
 ∃ r, IsNext l b a hgt r ∧ Ev (fun k => regletref12_Next.l0 k l a hgt e i b) r := by
 have hf' := hf
 unfold Few at hf'
 have hh := hr.high
 intro d
 induction d with
 | zero =>
  intro i e h1 h2 h3
  refine ⟨e, ?_, Ev.st (fun k => by rw [regletref12_Next.l0]) (Ev.dn (by omega) (Ev.now _))⟩
  rcases h3 with ⟨_, h⟩ | ⟨q1, q2, q3, q4, q5⟩
  · exact absurd (.inl rfl) (h l.length (by omega) (by omega))
  · exact ⟨q1, by omega, q3, q4, fun j x y z => q5 j x (by omega) z⟩
 | succ d ih =>
  intro i e h1 h2 h3
  have hc := fun k => ref_Cut_eq hw hr (show 0 ≤ i by omega) (by omega) b k
  have step : ∀ {r e'}, Ev (fun k => regletref12_Next.l0 k l a hgt e' (i + 1) b) r → Ev (fun k => regletref12_Next.j1 k l a hgt e' i b) r := by
   intro r e' h
   refine Ev.st (fun k => by rw [regletref12_Next.j1]) ?_
   rw [w64 (x := i + 1) (by omega) (by omega)]
   exact h
  by_cases c : CutL l b i
  · have open_ : ∀ {r}, Ev (fun k => if (decide (e = a)) = true then regletref12_Next.j1 k l a hgt i i b else (regletref12_High.f k l a i).bind fun t184 => if (decide (t184 ≤ hgt)) = true then regletref12_Next.j1 k l a hgt i i b else regletref12_Next.j1 k l a hgt e i b) r → Ev (fun k => regletref12_Next.l0 k l a hgt e i b) r :=
     fun h => Ev.st (fun k => by rw [regletref12_Next.l0]) (Ev.dp (by omega) (Ev.congr (fun k => by rw [hc k, Option.bind_some]) (Ev.ifn (by rw [isTrue_yes c]; simp) h)))
    by_cases c2 : e = a
    · obtain ⟨r, hr1, hr2⟩ := ih (i + 1) i (by omega) (by omega) (.inr ⟨by omega, by omega, c, .inr (fun j x y => by
       rcases h3 with ⟨_, h⟩ | ⟨h, _⟩
       · exact h j x y
       · omega), fun j x y => by omega⟩)
      exact ⟨r, hr1, open_ (Ev.dp c2 (step hr2))⟩
    · have hev := ref_High_ev hf hh ha (show a ≤ i by omega) (show i ≤ l.length by omega)
      by_cases c3 : high l a i ≤ hgt
      · obtain ⟨r, hr1, hr2⟩ := ih (i + 1) i (by omega) (by omega) (.inr ⟨by omega, by omega, c, .inl c3, fun j x y => by omega⟩)
        exact ⟨r, hr1, open_ (Ev.dn c2 (Ev.bind hev (Ev.dp c3 (step hr2))))⟩
      · obtain ⟨r, hr1, hr2⟩ := ih (i + 1) e (by omega) (by omega) (by
         rcases h3 with ⟨h, _⟩ | ⟨q1, q2, q3, q4, q5⟩
         · exact absurd h c2
         · refine .inr ⟨q1, by omega, q3, q4, fun j x y z => ?_⟩
           by_cases ej : j = i
           · subst ej; omega
           · exact q5 j x (by omega) z)
        exact ⟨r, hr1, open_ (Ev.dn c2 (Ev.bind hev (Ev.dn c3 (step hr2))))⟩
  · obtain ⟨r, hr1, hr2⟩ := ih (i + 1) e (by omega) (by omega) (by
     rcases h3 with ⟨h, k⟩ | ⟨q1, q2, q3, q4, q5⟩
     · refine .inl ⟨h, fun j x y => ?_⟩
       by_cases ej : j = i
       · subst ej; exact c
       · exact k j x (by omega)
     · refine .inr ⟨q1, by omega, q3, q4, fun j x y z => ?_⟩
       by_cases ej : j = i
       · subst ej; exact absurd z c
       · exact q5 j x (by omega) z)
    exact ⟨r, hr1, Ev.st (fun k => by rw [regletref12_Next.l0]) (Ev.dp (by omega) (Ev.congr (fun k => by rw [hc k, Option.bind_some]) (Ev.ifp (by rw [isTrue_no c]; rfl) (step hr2))))⟩
theorem ref_Next_ev {l : List api_Slot} (hw : Wf l) (hf : Few l) (hr : RightL l) {a : Int} (hgt : Int) (ha : 0 ≤ a) (hlt : a < l.length) (b : api_Settings) :
 ∃ r, IsNext l b a hgt r ∧ Ev (fun k => regletref12_Next.f k l a hgt b) r := by
 have hf' := hf
 unfold Few at hf'
 have := ref_Next_loop (hgt := hgt) hw hf hr ha hlt b ((l.length : Int) - a).toNat (a + 1) a (by omega) (by omega) (.inl ⟨rfl, fun j x y => by omega⟩)
 unfold regletref12_Next.f
 rwa [w64 (x := a + 1) (by omega) (by omega)]
theorem ref_Next_end {l : List api_Slot} (hf : Few l) (hgt : Int) (b : api_Settings) : Ev (fun k => regletref12_Next.f k l (l.length : Int) hgt b) (l.length : Int) := by
 unfold Few at hf
 unfold regletref12_Next.f
 rw [w64 (x := (l.length : Int) + 1) (by omega) (by omega)]
 exact Ev.st (fun k => by rw [regletref12_Next.l0]) (Ev.dn (by omega) (Ev.now _))
inductive Chain (l : List api_Slot) (b : api_Settings) (hgt : Int) : Int → List Int → Prop
 | done {a : Int} (h : a = l.length) : Chain l b hgt a []
 | more {a r : Int} {s : List Int} (h0 : 0 ≤ a) (h : a < l.length) (n : IsNext l b a hgt r) (c : Chain l b hgt r s) : Chain l b hgt a (a :: s)
theorem Chain.length_le {l : List api_Slot} {b : api_Settings} {hgt a : Int} {s : List Int} (h : Chain l b hgt a s) : a + s.length ≤ l.length := by
 induction h with
 | done h => simp; omega
 | more h0 h n c ih => have := n.lt; simp only [List.length_cons]; omega
theorem chain_ev {l : List api_Slot} (hw : Wf l) (hf : Few l) (hr : RightL l) (hgt : Int) (b : api_Settings) : ∀ (d : Nat) (a : Int), 0 ≤ a → a + d = l.length →
 ∃ s, Chain l b hgt a s ∧ ∀ acc : List Int, (acc.length : Int) + d ≤ l.length → Ev (fun k => pages_Paginate.l0 k l hgt acc a b) (acc ++ s, 0) ∧ Ev (fun k => regletref12_Paginate.l0 k l hgt acc a b) (acc ++ s) := by
 have hf' := hf
 unfold Few at hf'
 intro d
 induction d using Nat.strongRecOn with
 | _ d ih =>
  intro a ha hd
  by_cases hlt : a < l.length
  · obtain ⟨r, hr1, hr2⟩ := pages_Next_ev hw hf hr hgt ha hlt b
    obtain ⟨r', hr3, hr4⟩ := ref_Next_ev hw hf hr hgt ha hlt b
    obtain rfl := hr1.uniq hr3
    have := hr1.lt
    have := hr1.le
    obtain ⟨s, hs, h⟩ := ih ((l.length : Int) - r).toNat (by omega) r (by omega) (by omega)
    refine ⟨a :: s, .more ha hlt hr1 hs, fun acc hacc => ?_⟩
    obtain ⟨e1, e2⟩ := h (acc ++ [a]) (by simp only [List.length_append, List.length_singleton]; omega)
    rw [List.append_assoc] at e1 e2
    exact ⟨Ev.st (fun k => by rw [pages_Paginate.l0]) (Ev.dp hlt (Ev.ifp (by simp only [List.length_singleton]; omega) (Ev.bind hr2 e1))), Ev.st (fun k => by rw [regletref12_Paginate.l0]) (Ev.dp hlt (Ev.ifp (by simp only [List.length_singleton]; omega) (Ev.bind hr4 e2)))⟩
  · refine ⟨[], .done (by omega), fun acc _ => ?_⟩
    rw [List.append_nil]
    exact ⟨Ev.st (fun k => by rw [pages_Paginate.l0]) (Ev.dn hlt (Ev.now _)), Ev.st (fun k => by rw [regletref12_Paginate.l0]) (Ev.dn hlt (Ev.now _))⟩
end Go.Proofs.Ytnlocbjojbgdcaa.Vm
