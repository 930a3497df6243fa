/- The plain law of pages: where a page may end, and where the next one begins. -/
import Derived.Test.YtknlneeglkchmaaPx3
import Derived.Test.YtknlneeglkchmaaPx4
import Derived.Test.YtknlneeglkchmaaPx7
import Derived.Test.YtknlneeglkchmaaPx8
import Derived.Test.YtknlneeglkchmaaPx9
import Derived.Test.YtknlneeglkchmaaPg
namespace Go.Proofs.Ytknlneeglkchmaa.P
open Go.RowKit Go.Proofs.YtknlneeglkchmaaW.PrintWords Go.Proofs.YtknlneeglkchmaaW.PrintLast

/-- May a page end behind a line? (o, w: orphans, widows) -/
def mayB (s : S42) (o w : Int) : Bool := if s.f1 = s.f2 - 1 then !s.f3 else decide (s.f1 + 1 ≥ o) && decide (s.f2 - 1 - s.f1 ≥ w)
def Small (s : S42) : Prop := 0 ≤ s.f1 ∧ s.f1 < s.f2 ∧ s.f2 ≤ 4611686018427387904
theorem pages_May_eq {s : S42} (h : Small s) (b0 b1 b2 b3 b4 o w : Int) : pages_May.f s.f0 s.f1 s.f2 s.f3 b0 b1 b2 b3 b4 o w = some (mayB s o w) := by
  obtain ⟨h0, h1, h2⟩ := h
  unfold pages_May.f mayB
  rw [w64 (x := s.f2 - 1) (by omega) (by omega), w64 (x := s.f1 + 1) (by omega) (by omega), w64 (x := s.f2 - 1 - s.f1) (by omega) (by omega)]
  by_cases c : s.f1 = s.f2 - 1
  · rw [if_pos c, if_pos c]
  · rw [if_neg c, if_neg c]
    by_cases c2 : s.f1 + 1 ≥ o
    · rw [if_pos c2, decide_eq_true c2]; rfl
    · rw [if_neg c2, decide_eq_false c2]; rfl
theorem ref_May_eq {s : S42} (h : Small s) (b0 b1 b2 b3 b4 o w : Int) : regletref12_May.f s.f0 s.f1 s.f2 s.f3 b0 b1 b2 b3 b4 o w = some (mayB s o w) := by
  obtain ⟨h0, h1, h2⟩ := h
  unfold regletref12_May.f mayB
  rw [w64 (x := s.f1 + 1) (by omega) (by omega), w64 (x := s.f2 - (s.f1 + 1)) (by omega) (by omega)]
  by_cases c : s.f1 = s.f2 - 1
  · rw [if_pos (by omega), if_pos c]
  · rw [if_neg (by omega), if_neg c]
    by_cases c2 : s.f1 + 1 ≥ o
    · rw [if_pos c2, decide_eq_true c2, show s.f2 - (s.f1 + 1) = s.f2 - 1 - s.f1 by omega]; rfl
    · rw [if_neg c2, decide_eq_false c2]; rfl

/-- of a right list every line's paragraph is no longer than the list -/
theorem right_small {l : List S42} (hw : Wf l) (hr : RightL l) : ∀ i : Int, 0 ≤ i → i < l.length → Small (rd_T42 l i) := by
  have key : ∀ n : Nat, (n : Int) < l.length → ∃ b : Int, 0 ≤ b ∧ b ≤ n ∧ closed l b ∧ b + (rd_T42 l n).f1 = n ∧ (rd_T42 l n).f2 = (rd_T42 l b).f2 := by
    intro n
    induction n with
    | zero =>
      intro h
      refine ⟨0, by omega, by omega, .inl rfl, ?_, rfl⟩
      have := (hr.1 0 (by omega) h).2.2.2.2.1 (.inl rfl)
      rw [show ((0 : Nat) : Int) = 0 from rfl, this]; rfl
    | succ n ih =>
      intro h
      obtain ⟨b, b0, b1, b2, b3, b4⟩ := ih (by omega)
      have s := hr.1 ((n + 1 : Nat) : Int) (by omega) h
      by_cases c : closed l ((n + 1 : Nat) : Int)
      · exact ⟨((n + 1 : Nat) : Int), by omega, by omega, c, by have := s.2.2.2.2.1 c; omega, rfl⟩
      · obtain ⟨x, y, _⟩ := s.2.2.2.2.2 c
        rw [show ((n + 1 : Nat) : Int) - 1 = n by omega] at x y
        exact ⟨b, b0, by omega, b2, by omega, by omega⟩
  intro i h0 hi
  obtain ⟨b, b0, b1, b2, b3, b4⟩ := key i.toNat (by omega)
  rw [show ((i.toNat : Nat) : Int) = i by omega] at b1 b3 b4
  obtain ⟨_, _, q1, q2, _⟩ := hr.1 i h0 hi
  have := hw.1
  have hp := (para hr b0 (by omega) b2 ((rd_T42 l b).f2 - 1).toNat (by omega)).1
  exact ⟨q1, q2, by omega⟩

/-- may a page end ahead of line k? -/
def CutL (l : List S42) (o w k : Int) : Prop := k = l.length ∨ 0 < k ∧ k < l.length ∧ mayB (rd_T42 l (k - 1)) o w = true
theorem ref_Cut_eq {l : List S42} (hw : Wf l) (hr : RightL l) {k : Int} (h0 : 0 ≤ k) (hk : k ≤ 4611686018427387905) (b0 b1 b2 b3 b4 o w : Int) :
    regletref12_Cut.f l k b0 b1 b2 b3 b4 o w = some (isTrue (CutL l o w k)) := by
  unfold regletref12_Cut.f
  by_cases c : k = l.length
  · rw [if_pos c, isTrue_yes (.inl c)]
  · rw [if_neg c]
    by_cases c1 : k > 0
    · rw [if_pos c1]
      by_cases c2 : k < l.length
      · rw [if_pos c2, w64 (x := k - 1) (by omega) (by omega), if_pos (by omega), if_pos (by omega), ref_May_eq (right_small hw hr (k - 1) (by omega) (by omega))]
        simp only [Option.bind_some]
        by_cases c3 : mayB (rd_T42 l (k - 1)) o w = true
        · rw [c3, isTrue_yes (.inr ⟨c1, c2, c3⟩)]
        · rw [isTrue_no (p := CutL l o w k) (by rintro (h | ⟨_, _, h⟩); exact c h; exact c3 h)]
          simpa using c3
      · rw [if_neg c2, isTrue_no (by rintro (h | ⟨_, h, _⟩); exact c h; exact c2 h)]
    · rw [if_neg c1, isTrue_no (by rintro (h | ⟨h, _, _⟩); exact c h; exact c1 h)]

/-! ### heights -/
def hsum (l : List S42) (a : Int) : Nat → Int
  | 0 => 0
  | n + 1 => hsum l a n + (rd_T42 l (a + n)).f0
/-- the lines from a up to b together -/
def high (l : List S42) (a b : Int) : Int := hsum l a (b - a).toNat
theorem high_self (l : List S42) (a : Int) : high l a a = 0 := by unfold high; rw [show (a - a).toNat = 0 by omega]; rfl
theorem high_succ (l : List S42) {a b : Int} (h : a ≤ b) : high l a (b + 1) = high l a b + (rd_T42 l b).f0 := by
  unfold high
  rw [show (b + 1 - a).toNat = (b - a).toNat + 1 by omega]
  show _ + (rd_T42 l (a + ((b - a).toNat : Nat))).f0 = _
  rw [show a + (((b - a).toNat : Nat) : Int) = b by omega]
def HighOk (l : List S42) : Prop := ∀ i : Int, 0 ≤ i → i < l.length → 1 ≤ (rd_T42 l i).f0 ∧ (rd_T42 l i).f0 ≤ 1048576
theorem RightL.high {l : List S42} (h : RightL l) : HighOk l := fun i h0 hi => ⟨(h.1 i h0 hi).1, (h.1 i h0 hi).2.1⟩
theorem high_bound {l : List S42} (h : HighOk l) {a : Int} (ha : 0 ≤ a) : ∀ n : Nat, a + n ≤ l.length → (n : Int) ≤ high l a (a + n) ∧ high l a (a + n) ≤ 1048576 * n := by
  intro n
  induction n with
  | zero => intro _; rw [show a + ((0 : Nat) : Int) = a by omega, high_self]; omega
  | succ n ih =>
    intro hn
    obtain ⟨x, y⟩ := ih (by omega)
    rw [show a + ((n + 1 : Nat) : Int) = a + n + 1 by omega, high_succ l (by omega)]
    have := h (a + n) (by omega) (by omega)
    omega
theorem high_le {l : List S42} (h : HighOk l) {a b : Int} (ha : 0 ≤ a) (hab : a ≤ b) (hb : b ≤ l.length) : b - a ≤ high l a b ∧ high l a b ≤ 1048576 * (b - a) := by
  have := high_bound h ha (b - a).toNat (by omega)
  rw [show a + (((b - a).toNat : Nat) : Int) = b by omega] at this
  omega
theorem high_lt {l : List S42} (h : HighOk l) {a b c : Int} (ha : 0 ≤ a) (hab : a ≤ b) (hbc : b < c) (hc : c ≤ l.length) : high l a b < high l a c := by
  have key : ∀ n : Nat, b + 1 + n ≤ l.length → high l a b < high l a (b + 1 + n) := by
    intro n
    induction n with
    | zero =>
      intro hn
      rw [show b + 1 + ((0 : Nat) : Int) = b + 1 by omega, high_succ l hab]
      have := h b (by omega) (by omega)
      omega
    | succ n ih =>
      intro hn
      have := ih (by omega)
      rw [show b + 1 + ((n + 1 : Nat) : Int) = b + 1 + n + 1 by omega, high_succ l (by omega)]
      have := h (b + 1 + n) (by omega) (by omega)
      omega
  have := key (c - b - 1).toNat (by omega)
  rwa [show b + 1 + (((c - b - 1).toNat : Nat) : Int) = c by omega] at this
def Few (l : List S42) : Prop := (l.length : Int) ≤ 1099511627776
theorem ref_High_loop {l : List S42} (hf : Few l) (h : HighOk l) {a b : Int} (ha : 0 ≤ a) (hb : b ≤ l.length) : ∀ (d : Nat) (i : Int), a ≤ i → i + d = b →
    Ev (fun k => regletref12_High.l0 k l b (high l a i) i) (high l a b) := by
  unfold Few at hf
  intro d
  induction d with
  | zero =>
    intro i h1 h2
    have : i = b := by omega
    subst this
    exact regletref12_High.l0.ev (Ev.ifn (by omega) (Ev.now _))
  | succ d ih =>
    intro i h1 h2
    have e := high_succ l h1
    have p := high_le h ha (show a ≤ i + 1 by omega) (by omega)
    refine regletref12_High.l0.ev (Ev.ifp (by omega) (Ev.ifp (by omega) (Ev.ifp (by omega) ?_)))
    rw [← e, w64 (x := high l a (i + 1)) (by omega) (by omega), w64 (x := i + 1) (by omega) (by omega)]
    exact ih (i + 1) (by omega) (by omega)
theorem ref_High_ev {l : List S42} (hf : Few l) (h : HighOk l) {a b : Int} (ha : 0 ≤ a) (hab : a ≤ b) (hb : b ≤ l.length) : Ev (fun k => regletref12_High.f k l a b) (high l a b) := by
  have := ref_High_loop hf h ha hb (b - a).toNat a (Int.le_refl _) (by omega)
  rwa [high_self] at this

/-! ### the next page -/
/-- r is where the page behind the one that begins with line a begins -/
structure IsNext (l : List S42) (o w a hgt r : Int) : Prop where
  lt : a < r
  le : r ≤ l.length
  cut : CutL l o w r
  fit : high l a r ≤ hgt ∨ ∀ j, a < j → j < r → ¬ CutL l o w j
  far : ∀ j, r < j → j ≤ l.length → CutL l o w j → hgt < high l a j
theorem IsNext.uniq {l : List S42} {o w a hgt r s : Int} (h : IsNext l o w a hgt r) (k : IsNext l o w a hgt s) : r = s := by
  have one : ∀ {r s}, IsNext l o w a hgt r → IsNext l o w a hgt s → ¬ r < s := by
    intro r s h k hlt
    have f := h.far s hlt k.le k.cut
    rcases k.fit with h1 | h1
    · omega
    · exact h1 r h.lt hlt h.cut
  have := one h k
  have := one k h
  omega

theorem pages_Next_loop {l : List S42} (hw : Wf l) (hf : Few l) (hr : RightL l) {a hgt : Int} (ha : 0 ≤ a) (hlt : a < l.length) (b0 b1 b2 b3 b4 o w : Int) : ∀ (d : Nat) (i e : Int), a ≤ i → i + d = l.length →
    ((e = a ∧ ∀ j, a < j → j ≤ i → ¬ CutL l o w j) ∨ (a < e ∧ e ≤ i ∧ CutL l o w e ∧ high l a e ≤ hgt ∧ ∀ j, e < j → j ≤ i → ¬ CutL l o w j)) →
    ∃ r, IsNext l o w a hgt r ∧ Ev (fun k => pages_Next.l0 k l a hgt (high l a i) e i b0 b1 b2 b3 b4 o w) r := by
  have hf' := hf
  unfold Few at hf'
  have hh := hr.high
  intro d
  induction d with
  | zero =>
    intro i e h1 h2 h3
    have ei : i = l.length := by omega
    subst ei
    refine ⟨e, ?_, pages_Next.l0.ev (Ev.ifn (by omega) (Ev.now _))⟩
    rcases h3 with ⟨_, h⟩ | ⟨q1, q2, q3, q4, q5⟩
    · exact absurd (.inl rfl) (h l.length (by omega) (Int.le_refl _))
    · exact ⟨q1, q2, q3, .inl q4, fun j x y z => absurd z (q5 j x y)⟩
  | succ d ih =>
    intro i e h1 h2 h3
    have es := high_succ l h1
    have p := high_le hh ha (show a ≤ i + 1 by omega) (by omega)
    have hm := pages_May_eq (right_small hw hr i (by omega) (by omega)) b0 b1 b2 b3 b4 o w
    have hcut : CutL l o w (i + 1) ↔ (mayB (rd_T42 l i) o w = true ∨ i = (l.length : Int) - 1) := by
      unfold CutL
      rw [show i + 1 - 1 = i by omega]
      constructor
      · rintro (h | ⟨_, _, h⟩)
        · exact .inr (by omega)
        · exact .inl h
      · rintro (h | h)
        · by_cases q : i + 1 = l.length
          · exact .inl q
          · exact .inr ⟨by omega, by omega, h⟩
        · exact .inl (by omega)
    -- what comes behind the first test
    have rest : ¬ (high l a (i + 1) > hgt ∧ e > a) → ∃ r, IsNext l o w a hgt r ∧ Ev (fun k => pages_Next.j1 k l a hgt (high l a (i + 1)) e i false b0 b1 b2 b3 b4 o w) r := by
      intro hn
      have after : ∀ b, (b = true ↔ CutL l o w (i + 1)) → ∃ r, IsNext l o w a hgt r ∧ Ev (fun k => pages_Next.j2 k l a hgt (high l a (i + 1)) e i b b0 b1 b2 b3 b4 o w) r := by
        intro b hb
        by_cases c : b = true
        · have hc := hb.1 c
          by_cases c2 : high l a (i + 1) > hgt
          · have ea : e = a := by rcases h3 with ⟨h, _⟩ | ⟨h, _⟩ <;> omega
            refine ⟨i + 1, ⟨by omega, by omega, hc, .inr (fun j x y => ?_), fun j x y z => ?_⟩, pages_Next.j2.ev (Ev.ifp c (Ev.ifp c2 (Ev.some_ (w64 (by omega) (by omega)))))⟩
            · rcases h3 with ⟨_, h⟩ | ⟨h, _⟩
              · exact h j x (by omega)
              · omega
            · have := high_lt hh ha (show a ≤ i + 1 by omega) x y; omega
          · obtain ⟨r, hr1, hr2⟩ := ih (i + 1) (i + 1) (by omega) (by omega) (.inr ⟨by omega, Int.le_refl _, hc, by omega, fun j x y => by omega⟩)
            refine ⟨r, hr1, pages_Next.j2.ev (Ev.ifp c (Ev.ifn c2 ?_))⟩
            rw [w64 (x := i + 1) (by omega) (by omega)]
            exact hr2
        · have hc : ¬ CutL l o w (i + 1) := fun h => c (hb.2 h)
          obtain ⟨r, hr1, hr2⟩ := ih (i + 1) e (by omega) (by omega) (by
            rcases h3 with ⟨h, k⟩ | ⟨q1, q2, q3, q4, q5⟩
            · refine .inl ⟨h, fun j x y => ?_⟩
              by_cases ej : j = i + 1
              · subst ej; exact hc
              · exact k j x (by omega)
            · refine .inr ⟨q1, by omega, q3, q4, fun j x y => ?_⟩
              by_cases ej : j = i + 1
              · subst ej; exact hc
              · exact q5 j x (by omega))
          refine ⟨r, hr1, pages_Next.j2.ev (Ev.ifn c ?_)⟩
          rw [w64 (x := i + 1) (by omega) (by omega)]
          exact hr2
      by_cases c : mayB (rd_T42 l i) o w = true
      · obtain ⟨r, hr1, hr2⟩ := after true ⟨fun _ => hcut.2 (.inl c), fun _ => rfl⟩
        exact ⟨r, hr1, pages_Next.j1.ev (Ev.ifn (by simp) (Ev.ifp (by omega) (Ev.ifp (by omega) (Ev.bind (Ev.opt hm) (Ev.ifp c hr2)))))⟩
      · obtain ⟨r, hr1, hr2⟩ := after (i == (l.length : Int) - 1) ⟨fun h => hcut.2 (.inr (by simpa using h)), fun h => by rcases hcut.1 h with h | h; exact absurd h c; simpa using h⟩
        refine ⟨r, hr1, pages_Next.j1.ev (Ev.ifn (by simp) (Ev.ifp (by omega) (Ev.ifp (by omega) (Ev.bind (Ev.opt hm) (Ev.ifn c ?_)))))⟩
        rw [w64 (x := (l.length : Int) - 1) (by omega) (by omega)]
        exact hr2
    have open_ : ∀ {r}, Ev (fun k => if high l a (i + 1) > hgt then pages_Next.j1 k l a hgt (high l a (i + 1)) e i (decide (e > a)) b0 b1 b2 b3 b4 o w else pages_Next.j1 k l a hgt (high l a (i + 1)) e i false b0 b1 b2 b3 b4 o w) r → Ev (fun k => pages_Next.l0 k l a hgt (high l a i) e i b0 b1 b2 b3 b4 o w) r := by
      intro r h
      refine pages_Next.l0.ev (Ev.ifp (by omega) (Ev.ifp (by omega) ?_))
      rw [← es, w64 (x := high l a (i + 1)) (by omega) (by omega)]
      exact h
    by_cases c : high l a (i + 1) > hgt
    · by_cases c2 : e > a
      · refine ⟨e, ?_, open_ (Ev.ifp c (pages_Next.j1.ev (Ev.ifp (decide_eq_true c2) (Ev.now _))))⟩
        rcases h3 with ⟨h, _⟩ | ⟨q1, q2, q3, q4, q5⟩
        · omega
        · refine ⟨q1, by omega, q3, .inl q4, fun j x y z => ?_⟩
          by_cases ej : j ≤ i
          · exact absurd z (q5 j x ej)
          · by_cases e2 : j = i + 1
            · subst e2; exact c
            · have := high_lt hh ha (show a ≤ i + 1 by omega) (show i + 1 < j by omega) y; omega
      · obtain ⟨r, hr1, hr2⟩ := rest (by omega)
        refine ⟨r, hr1, open_ (Ev.ifp c ?_)⟩
        rw [decide_eq_false c2]; exact hr2
    · obtain ⟨r, hr1, hr2⟩ := rest (by omega)
      exact ⟨r, hr1, open_ (Ev.ifn c hr2)⟩
theorem pages_Next_ev {l : List S42} (hw : Wf l) (hf : Few l) (hr : RightL l) {a : Int} (hgt : Int) (ha : 0 ≤ a) (hlt : a < l.length) (b0 b1 b2 b3 b4 o w : Int) :
    ∃ r, IsNext l o w a hgt r ∧ Ev (fun k => pages_Next.f k l a hgt b0 b1 b2 b3 b4 o w) r := by
  have := pages_Next_loop (hgt := hgt) hw hf hr ha hlt b0 b1 b2 b3 b4 o w ((l.length : Int) - a).toNat a a (Int.le_refl _) (by omega) (.inl ⟨rfl, fun j x y => by omega⟩)
  rwa [high_self] at this
theorem pages_Next_end {l : List S42} (hgt b0 b1 b2 b3 b4 o w : Int) : Ev (fun k => pages_Next.f k l (l.length : Int) hgt b0 b1 b2 b3 b4 o w) (l.length : Int) :=
  pages_Next.l0.ev (Ev.ifn (by omega) (Ev.now _))

theorem ref_Next_loop {l : List S42} (hw : Wf l) (hf : Few l) (hr : RightL l) {a hgt : Int} (ha : 0 ≤ a) (hlt : a < l.length) (b0 b1 b2 b3 b4 o w : Int) : ∀ (d : Nat) (i e : Int), a < i → i + d = l.length + 1 →
    ((e = a ∧ ∀ j, a < j → j < i → ¬ CutL l o w j) ∨ (a < e ∧ e < i ∧ CutL l o w e ∧ (high l a e ≤ hgt ∨ ∀ j, a < j → j < e → ¬ CutL l o w j) ∧ ∀ j, e < j → j < i → CutL l o w j → hgt < high l a j)) →
    ∃ r, IsNext l o w a hgt r ∧ Ev (fun k => regletref12_Next.l0 k l a hgt e i b0 b1 b2 b3 b4 o w) r := by
  have hf' := hf
  unfold Few at hf'
  have hh := hr.high
  intro d
  induction d with
  | zero =>
    intro i e h1 h2 h3
    refine ⟨e, ?_, regletref12_Next.l0.ev (Ev.ifn (by omega) (Ev.now _))⟩
    rcases h3 with ⟨_, h⟩ | ⟨q1, q2, q3, q4, q5⟩
    · exact absurd (.inl rfl) (h l.length (by omega) (by omega))
    · exact ⟨q1, by omega, q3, q4, fun j x y z => q5 j x (by omega) z⟩
  | succ d ih =>
    intro i e h1 h2 h3
    have hc := ref_Cut_eq hw hr (show 0 ≤ i by omega) (by omega) b0 b1 b2 b3 b4 o w
    by_cases c : CutL l o w i
    · have open_ : ∀ {r}, Ev (fun k => if e = a then regletref12_Next.l0 k l a hgt i (wrap64 (i + 1)) b0 b1 b2 b3 b4 o w else (regletref12_High.f k l a i).bind fun t184 => if t184 ≤ hgt then regletref12_Next.l0 k l a hgt i (wrap64 (i + 1)) b0 b1 b2 b3 b4 o w else regletref12_Next.l0 k l a hgt e (wrap64 (i + 1)) b0 b1 b2 b3 b4 o w) r → Ev (fun k => regletref12_Next.l0 k l a hgt e i b0 b1 b2 b3 b4 o w) r :=
        fun h => regletref12_Next.l0.ev (Ev.ifp (by omega) (Ev.bind (Ev.opt hc) (Ev.ifp (isTrue_yes c) h)))
      rw [w64 (x := i + 1) (by omega) (by omega)] at open_
      by_cases c2 : e = a
      · obtain ⟨r, hr1, hr2⟩ := ih (i + 1) i (by omega) (by omega) (.inr ⟨by omega, by omega, c, .inr (fun j x y => by
            rcases h3 with ⟨_, h⟩ | ⟨h, _⟩
            · exact h j x y
            · omega), fun j x y => by omega⟩)
        exact ⟨r, hr1, open_ (Ev.ifp c2 hr2)⟩
      · have hev := ref_High_ev hf hh ha (show a ≤ i by omega) (show i ≤ l.length by omega)
        by_cases c3 : high l a i ≤ hgt
        · obtain ⟨r, hr1, hr2⟩ := ih (i + 1) i (by omega) (by omega) (.inr ⟨by omega, by omega, c, .inl c3, fun j x y => by omega⟩)
          exact ⟨r, hr1, open_ (Ev.ifn c2 (Ev.bind hev (Ev.ifp c3 hr2)))⟩
        · obtain ⟨r, hr1, hr2⟩ := ih (i + 1) e (by omega) (by omega) (by
            rcases h3 with ⟨h, _⟩ | ⟨q1, q2, q3, q4, q5⟩
            · exact absurd h c2
            · refine .inr ⟨q1, by omega, q3, q4, fun j x y z => ?_⟩
              by_cases ej : j = i
              · subst ej; omega
              · exact q5 j x (by omega) z)
          exact ⟨r, hr1, open_ (Ev.ifn c2 (Ev.bind hev (Ev.ifn c3 hr2)))⟩
    · obtain ⟨r, hr1, hr2⟩ := ih (i + 1) e (by omega) (by omega) (by
        rcases h3 with ⟨h, k⟩ | ⟨q1, q2, q3, q4, q5⟩
        · refine .inl ⟨h, fun j x y => ?_⟩
          by_cases ej : j = i
          · subst ej; exact c
          · exact k j x (by omega)
        · refine .inr ⟨q1, by omega, q3, q4, fun j x y z => ?_⟩
          by_cases ej : j = i
          · subst ej; exact absurd z c
          · exact q5 j x (by omega) z)
      refine ⟨r, hr1, regletref12_Next.l0.ev (Ev.ifp (by omega) (Ev.bind (Ev.opt hc) (Ev.ifn (by rw [isTrue_no c]; simp) ?_)))⟩
      rw [w64 (x := i + 1) (by omega) (by omega)]
      exact hr2
theorem ref_Next_ev {l : List S42} (hw : Wf l) (hf : Few l) (hr : RightL l) {a : Int} (hgt : Int) (ha : 0 ≤ a) (hlt : a < l.length) (b0 b1 b2 b3 b4 o w : Int) :
    ∃ r, IsNext l o w a hgt r ∧ Ev (fun k => regletref12_Next.f k l a hgt b0 b1 b2 b3 b4 o w) r := by
  have hf' := hf
  unfold Few at hf'
  have := ref_Next_loop (hgt := hgt) hw hf hr ha hlt b0 b1 b2 b3 b4 o w ((l.length : Int) - a).toNat (a + 1) a (by omega) (by omega) (.inl ⟨rfl, fun j x y => by omega⟩)
  unfold regletref12_Next.f
  rwa [w64 (x := a + 1) (by omega) (by omega)]
theorem ref_Next_end {l : List S42} (hf : Few l) (hgt b0 b1 b2 b3 b4 o w : Int) : Ev (fun k => regletref12_Next.f k l (l.length : Int) hgt b0 b1 b2 b3 b4 o w) (l.length : Int) := by
  unfold Few at hf
  unfold regletref12_Next.f
  rw [w64 (x := (l.length : Int) + 1) (by omega) (by omega)]
  exact regletref12_Next.l0.ev (Ev.ifn (by omega) (Ev.now _))

/-! ### all pages -/
inductive Chain (l : List S42) (o w hgt : Int) : Int → List Int → Prop
  | done {a : Int} (h : a = l.length) : Chain l o w hgt a []
  | more {a r : Int} {s : List Int} (h0 : 0 ≤ a) (h : a < l.length) (n : IsNext l o w a hgt r) (c : Chain l o w hgt r s) : Chain l o w hgt a (a :: s)
theorem Chain.length_le {l : List S42} {o w hgt a : Int} {s : List Int} (h : Chain l o w hgt a s) : a + s.length ≤ l.length := by
  induction h with
  | done h => simp; omega
  | more h0 h n c ih => have := n.lt; simp only [List.length_cons]; omega
theorem chain_ev {l : List S42} (hw : Wf l) (hf : Few l) (hr : RightL l) (hgt : Int) (b0 b1 b2 b3 b4 o w : Int) : ∀ (d : Nat) (a : Int), 0 ≤ a → a + d = l.length →
    ∃ s, Chain l o w hgt a s ∧ ∀ acc : List Int, (acc.length : Int) + d ≤ l.length → Ev (fun k => pages_Paginate.l0 k l hgt acc a b0 b1 b2 b3 b4 o w) (acc ++ s, 0) ∧ Ev (fun k => regletref12_Paginate.l0 k l hgt acc a b0 b1 b2 b3 b4 o w) (acc ++ s) := by
  have hf' := hf
  unfold Few at hf'
  intro d
  induction d using Nat.strongRecOn with
  | _ d ih =>
    intro a ha hd
    by_cases hlt : a < l.length
    · obtain ⟨r, hr1, hr2⟩ := pages_Next_ev hw hf hr hgt ha hlt b0 b1 b2 b3 b4 o w
      obtain ⟨r', hr3, hr4⟩ := ref_Next_ev hw hf hr hgt ha hlt b0 b1 b2 b3 b4 o w
      obtain rfl := hr1.uniq hr3
      have := hr1.lt
      have := hr1.le
      obtain ⟨s, hs, h⟩ := ih ((l.length : Int) - r).toNat (by omega) r (by omega) (by omega)
      refine ⟨a :: s, .more ha hlt hr1 hs, fun acc hacc => ?_⟩
      obtain ⟨e1, e2⟩ := h (acc ++ [a]) (by simp only [List.length_append, List.length_singleton]; omega)
      rw [List.append_assoc] at e1 e2
      exact ⟨pages_Paginate.l0.ev (Ev.ifp hlt (Ev.ifp (by omega) (Ev.bind hr2 e1))), regletref12_Paginate.l0.ev (Ev.ifp hlt (Ev.ifp (by omega) (Ev.bind hr4 e2)))⟩
    · refine ⟨[], .done (by omega), fun acc _ => ?_⟩
      rw [List.append_nil]
      exact ⟨pages_Paginate.l0.ev (Ev.ifn hlt (Ev.now _)), regletref12_Paginate.l0.ev (Ev.ifn hlt (Ev.now _))⟩
end Go.Proofs.Ytknlneeglkchmaa.P
