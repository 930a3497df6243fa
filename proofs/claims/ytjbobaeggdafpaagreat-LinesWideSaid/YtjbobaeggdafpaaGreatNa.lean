/- Ways through places, and what they cost: plain words. -/
import Derived.Test.YtjbobaeggdafpaaGreatKit
namespace Go.Proofs.YtjbobaeggdafpaaGreat.Vm
open Go
def tot (a b : Int) : Int := if 1125899906842624 < a + b then 1125899906842624 else a + b
theorem tot_ok {a b : Int} (ha : 0 ≤ a) (hb : 0 ≤ b) : 0 ≤ tot a b ∧ tot a b ≤ 1125899906842624 := by unfold tot; split <;> omega
theorem tot_as {a b c : Int} (ha : 0 ≤ a) (_ : 0 ≤ b) (hc : 0 ≤ c) : tot (tot a b) c = tot a (tot b c) := by unfold tot; repeat' split <;> omega
theorem tot_z {x : Int} (h' : x ≤ 1125899906842624) : tot 0 x = x := by unfold tot; split <;> omega
theorem tot_z' {x : Int} (h' : x ≤ 1125899906842624) : tot x 0 = x := by unfold tot; split <;> omega
theorem tot_mono {a x y : Int} (h : x ≤ y) : tot a x ≤ tot a y := by unfold tot; repeat' split <;> omega
structure Net where
 n : Nat
 fo : Nat → Bool
 D : Nat → Nat → Bool
 C : Nat → Nat → Int → Int
 K : Nat → Nat → Int
 c0 : ∀ a j c, 0 ≤ C a j c ∧ C a j c ≤ 1125899906842624
def Net.ok (N : Net) (a j : Nat) : Prop := a ≤ j ∧ j < N.n ∧ N.D a j = true ∧ ∀ m, a ≤ m → m < j → N.fo m = false
def Net.Way (N : Net) : Nat → Int → Int → List Nat → Int → Prop
 | a, _, t, [], u => a = N.n ∧ u = t
 | a, c, t, j :: r, u => N.ok a j ∧ N.Way (j + 1) (N.K a j) (tot t (N.C a j c)) r u
theorem Net.Way.to {N : Net} : ∀ {w : List Nat} {a : Nat} {c t u s : Int}, 0 ≤ t → 0 ≤ s → N.Way a c t w u → N.Way a c (tot s t) w (tot s u)
 | [], _, _, _, _, _, _, _, h => ⟨h.1, by rw [h.2]⟩
 | j :: r, a, c, t, _, s, ht, hs, h => by
  have z := N.c0 a j c
  have := Net.Way.to (s := s) (tot_ok ht z.1).1 hs h.2
  rw [← tot_as hs ht z.1] at this
  exact ⟨h.1, this⟩
theorem Net.Way.fro {N : Net} : ∀ {w : List Nat} {a : Nat} {c t v s : Int}, 0 ≤ t → 0 ≤ s → N.Way a c (tot s t) w v → ∃ u, N.Way a c t w u ∧ v = tot s u
 | [], _, _, t, _, _, _, _, h => ⟨t, ⟨h.1, rfl⟩, h.2⟩
 | j :: r, a, c, t, _, s, ht, hs, h => by
  have z := N.c0 a j c
  have k := h.2
  rw [tot_as hs ht z.1] at k
  obtain ⟨u, x, y⟩ := Net.Way.fro (tot_ok ht z.1).1 hs k
  exact ⟨u, ⟨h.1, x⟩, y⟩
theorem Net.Way.on {N : Net} {w : List Nat} {a : Nat} {c t u : Int} (h0 : 0 ≤ t) (h1 : t ≤ 1125899906842624) (h : N.Way a c 0 w u) : N.Way a c t w (tot t u) := by
 have := h.to (Int.le_refl 0) h0
 rwa [tot_z' h1] at this
theorem Net.Way.off {N : Net} {w : List Nat} {a : Nat} {c t v : Int} (h0 : 0 ≤ t) (h1 : t ≤ 1125899906842624) (h : N.Way a c t w v) : ∃ u, N.Way a c 0 w u ∧ v = tot t u := by
 rw [← tot_z' h1] at h
 exact h.fro (Int.le_refl 0) h0
theorem Net.Way.range {N : Net} : ∀ {w : List Nat} {a : Nat} {c t u : Int}, 0 ≤ t → t ≤ 1125899906842624 → N.Way a c t w u → 0 ≤ u ∧ u ≤ 1125899906842624
 | [], _, _, _, _, h0, h1, h => by rw [h.2]; exact ⟨h0, h1⟩
 | j :: _, a, c, _, _, h0, _, h => by
  have q := tot_ok h0 (N.c0 a j c).1
  exact Net.Way.range q.1 q.2 h.2
def Net.Val (N : Net) (a : Nat) (c : Int) : Option Int → Prop
 | none => ∀ w u, ¬ N.Way a c 0 w u
 | some v => (∃ w, N.Way a c 0 w v) ∧ ∀ w u, N.Way a c 0 w u → v ≤ u
def Net.Upto (N : Net) (a : Nat) (c : Int) (j : Nat) : Option Int → Prop
 | none => ∀ i w u, i < j → ¬ N.Way a c 0 (i :: w) u
 | some v => (∃ i w, i < j ∧ N.Way a c 0 (i :: w) v) ∧ ∀ i w u, i < j → N.Way a c 0 (i :: w) u → v ≤ u
def omin : Option Int → Int → Int
 | none, x => x
 | some v, x => if x < v then x else v
theorem Net.Upto.start (N : Net) (a : Nat) (c : Int) : N.Upto a c a none := fun i _ _ h k => by have := k.1.1; omega
theorem Net.Upto.gone {N : Net} {a : Nat} {c : Int} {j : Nat} {o : Option Int} (h : N.Upto a c j o) (k : ∀ w u, ¬ N.Way a c 0 (j :: w) u) : N.Upto a c (j + 1) o := by
 have lt : ∀ i w u, i < j + 1 → N.Way a c 0 (i :: w) u → i < j := fun i w u hi hw => by
  by_cases e : i = j
  · subst e; exact absurd hw (k w u)
  · omega
 cases o with
 | none => exact fun i w u hi hw => h i w u (lt i w u hi hw) hw
 | some v =>
  obtain ⟨⟨i, w, hi, hw⟩, q⟩ := h
  exact ⟨⟨i, w, by omega, hw⟩, fun i w u hi hw => q i w u (lt i w u hi hw) hw⟩
theorem Net.Upto.skip {N : Net} {a : Nat} {c : Int} {j : Nat} {o : Option Int} (h : N.Upto a c j o) (k : ¬ N.ok a j) : N.Upto a c (j + 1) o := h.gone fun _ _ q => k q.1
theorem Net.Upto.dead {N : Net} {a : Nat} {c : Int} {j : Nat} {o : Option Int} (h : N.Upto a c j o) (k : N.Val (j + 1) (N.K a j) none) : N.Upto a c (j + 1) o := h.gone fun w u q => by
 have z := N.c0 a j c
 obtain ⟨v, x, _⟩ := Net.Way.off (tot_ok (Int.le_refl 0) z.1).1 (tot_ok (Int.le_refl 0) z.1).2 q.2
 exact k w v x
theorem Net.way_cons {N : Net} {a : Nat} {c : Int} {j : Nat} {w : List Nat} {u : Int} : N.Way a c 0 (j :: w) u ↔ N.ok a j ∧ ∃ v, N.Way (j + 1) (N.K a j) 0 w v ∧ u = tot (N.C a j c) v := by
 have z := N.c0 a j c
 have e : tot 0 (N.C a j c) = N.C a j c := tot_z z.2
 constructor
 · intro h
   have k := h.2
   rw [e] at k
   exact ⟨h.1, k.off z.1 z.2⟩
 · rintro ⟨h, v, k, rfl⟩
   refine ⟨h, ?_⟩
   rw [e]
   exact k.on z.1 z.2
theorem Net.Upto.take {N : Net} {a : Nat} {c : Int} {j : Nat} {o : Option Int} {r : Int} (h : N.Upto a c j o) (ok : N.ok a j) (k : N.Val (j + 1) (N.K a j) (some r)) : N.Upto a c (j + 1) (some (omin o (tot (N.C a j c) r))) := by
 obtain ⟨⟨w1, hw1⟩, hm⟩ := k
 have one : N.Way a c 0 (j :: w1) (tot (N.C a j c) r) := Net.way_cons.2 ⟨ok, r, hw1, rfl⟩
 have all : ∀ w u, N.Way a c 0 (j :: w) u → tot (N.C a j c) r ≤ u := fun w u q => by
  obtain ⟨_, v, x, rfl⟩ := Net.way_cons.1 q
  exact tot_mono (hm w v x)
 cases o with
 | none =>
  refine ⟨⟨j, w1, by omega, one⟩, fun i w u hi hw => ?_⟩
  by_cases e : i = j
  · subst e; exact all w u hw
  · exact absurd hw (h i w u (by omega))
 | some v =>
  obtain ⟨⟨i0, w0, h0, hw0⟩, q⟩ := h
  have e : omin (some v) (tot (N.C a j c) r) = if tot (N.C a j c) r < v then tot (N.C a j c) r else v := rfl
  rw [e]
  refine ⟨?_, fun i w u hi hw => ?_⟩
  · split
    · exact ⟨j, w1, by omega, one⟩
    · exact ⟨i0, w0, by omega, hw0⟩
  · by_cases e : i = j
    · subst e; have := all w u hw; split <;> omega
    · have := q i w u (by omega) hw; split <;> omega
theorem Net.Upto.val {N : Net} {a : Nat} {c : Int} {j : Nat} {o : Option Int} (h : N.Upto a c j o) (ha : a < N.n) (k : ∀ i, j ≤ i → ¬ N.ok a i) : N.Val a c o := by
 have lt : ∀ w u, N.Way a c 0 w u → ∃ i r, w = i :: r ∧ i < j := fun w u q => by
  cases w with
  | nil => have := q.1; omega
  | cons i r => exact ⟨i, r, rfl, by by_cases e : j ≤ i; exact absurd q.1 (k i e); omega⟩
 cases o with
 | none =>
  intro w u q
  obtain ⟨i, r, rfl, hi⟩ := lt w u q
  exact h i r u hi q
 | some v =>
  obtain ⟨⟨i, w, _, hw⟩, q⟩ := h
  refine ⟨⟨_, hw⟩, fun w u q' => ?_⟩
  obtain ⟨i, r, rfl, hi⟩ := lt w u q'
  exact q i r u hi q'
theorem Net.Val.done (N : Net) (c : Int) : N.Val N.n c (some 0) := by
 refine ⟨⟨[], rfl, rfl⟩, fun w u h => ?_⟩
 exact (h.range (Int.le_refl 0) (by omega)).1
theorem Net.Val.uniq {N : Net} {a : Nat} {c : Int} : ∀ {o o' : Option Int}, N.Val a c o → N.Val a c o' → o = o'
 | none, none, _, _ => rfl
 | none, some _, h, k => by obtain ⟨⟨w, q⟩, _⟩ := k; exact absurd q (h w _)
 | some _, none, h, k => by obtain ⟨⟨w, q⟩, _⟩ := h; exact absurd q (k w _)
 | some v, some v', h, k => by
  obtain ⟨⟨w, q⟩, m⟩ := h
  obtain ⟨⟨w', q'⟩, m'⟩ := k
  have := m _ _ q'
  have := m' _ _ q
  rw [show v = v' by omega]
theorem Net.Val.ex (N : Net) : ∀ (g a : Nat) (c : Int), a + g = N.n → ∃ o, N.Val a c o
 | 0, a, c, e => by
  obtain rfl : a = N.n := by omega
  exact ⟨_, Net.Val.done N c⟩
 | g + 1, a, c, e => by
  have up : ∀ m, m ≤ g + 1 → ∃ o, N.Upto a c (a + m) o := by
   intro m
   induction m with
   | zero => exact fun _ => ⟨_, Net.Upto.start N a c⟩
   | succ m ih =>
    intro hm
    obtain ⟨o, h⟩ := ih (by omega)
    obtain ⟨r, hr⟩ := Net.Val.ex N (g - m) (a + m + 1) (N.K a (a + m)) (by omega)
    by_cases ok : N.ok a (a + m)
    · cases r with
      | none => exact ⟨_, h.dead hr⟩
      | some r => exact ⟨_, h.take ok hr⟩
    · exact ⟨_, h.skip ok⟩
  obtain ⟨o, h⟩ := up (g + 1) (Nat.le_refl _)
  exact ⟨o, h.val (by omega) fun i hi q => by have := q.2.1; omega⟩
termination_by g => g
open Classical in
noncomputable def Net.val (N : Net) (a : Nat) (c : Int) : Option Int := if h : ∃ o, N.Val a c o then Classical.choose h else none
theorem Net.val_ok (N : Net) {a : Nat} (c : Int) (h : a ≤ N.n) : N.Val a c (N.val a c) := by
 have e := Net.Val.ex N (N.n - a) a c (by omega)
 unfold Net.val
 rw [dif_pos e]
 exact Classical.choose_spec e
theorem Net.Val.is {N : Net} {a : Nat} {c : Int} {o : Option Int} (ha : a ≤ N.n) (h : N.Val a c o) : N.val a c = o := (N.val_ok c ha).uniq h
theorem Net.val_done (N : Net) (c : Int) : N.val N.n c = some 0 := (Net.Val.done N c).is (Nat.le_refl _)
theorem Net.val_range {N : Net} {a : Nat} {c v : Int} (ha : a ≤ N.n) (h : N.val a c = some v) : 0 ≤ v ∧ v ≤ 1125899906842624 := by
 have := N.val_ok c ha
 rw [h] at this
 obtain ⟨⟨w, q⟩, _⟩ := this
 exact q.range (Int.le_refl 0) (by omega)
def Net.Hit (N : Net) (a : Nat) (c t total : Int) (j : Nat) : Prop := N.ok a j ∧ ∃ r, N.val (j + 1) (N.K a j) = some r ∧ tot (tot t (N.C a j c)) r = total
theorem Net.Hit.ge {N : Net} {a : Nat} {c t total r : Int} {j : Nat} (ht : 0 ≤ t) (ha : a ≤ N.n) (h : N.val a c = some r) (k : N.Hit a c t total j) : tot t r ≤ total := by
 obtain ⟨ok, s, hs, rfl⟩ := k
 have v := N.val_ok c ha
 rw [h] at v
 have v2 := N.val_ok (N.K a j) (a := j + 1) (by have := ok.2.1; omega)
 rw [hs] at v2
 obtain ⟨⟨w, q⟩, _⟩ := v2
 have z := N.c0 a j c
 have := v.2 _ _ (Net.way_cons.2 ⟨ok, s, q, rfl⟩)
 rw [tot_as ht z.1 (q.range (Int.le_refl 0) (by omega)).1]
 exact tot_mono this
theorem Net.Hit.ex {N : Net} {a : Nat} {c t r : Int} (ht : 0 ≤ t) (ha : a < N.n) (h : N.val a c = some r) : ∃ j, N.Hit a c t (tot t r) j := by
 have v := N.val_ok c (Nat.le_of_lt ha)
 rw [h] at v
 obtain ⟨⟨w, q⟩, m⟩ := v
 cases w with
 | nil => have := q.1; omega
 | cons j w =>
  obtain ⟨ok, s, x, e⟩ := Net.way_cons.1 q
  have hj : j + 1 ≤ N.n := by have := ok.2.1; omega
  have v2 := N.val_ok (N.K a j) hj
  have z := N.c0 a j c
  cases hv : N.val (j + 1) (N.K a j) with
  | none => rw [hv] at v2; exact absurd x (v2 _ _)
  | some s' =>
   rw [hv] at v2
   obtain ⟨⟨w', q'⟩, m'⟩ := v2
   have l1 := m' _ _ x
   have l2 := m _ _ (Net.way_cons.2 ⟨ok, s', q', rfl⟩)
   have l3 := tot_mono (a := N.C a j c) l1
   refine ⟨j, ok, s', hv, ?_⟩
   rw [tot_as ht z.1 (q'.range (Int.le_refl 0) (by omega)).1, show tot (N.C a j c) s' = r by omega]
def Lx : List Nat → List Nat → Prop
 | [], [] => False
 | [], _ :: _ => True
 | _ :: _, [] => False
 | a :: r, b :: s => a < b ∨ a = b ∧ Lx r s
def Net.First (N : Net) (a : Nat) (c t : Int) (w : List Nat) (u : Int) : Prop := N.Way a c t w u ∧ ∀ w' u', N.Way a c t w' u' → u ≤ u' ∧ (u' = u → ¬ Lx w' w)
theorem Net.First.done (N : Net) (c t : Int) : N.First N.n c t [] t := by
 refine ⟨⟨rfl, rfl⟩, fun w u h => ?_⟩
 cases w with
 | nil => exact ⟨by rw [h.2]; exact Int.le_refl _, fun _ q => q⟩
 | cons j w => have := h.1.1; have := h.1.2.1; omega
theorem Net.First.val {N : Net} {a : Nat} {c t r u : Int} {w : List Nat} (ht : 0 ≤ t) (h1 : t ≤ 1125899906842624) (ha : a ≤ N.n) (h : N.First a c t w u) (hr : N.val a c = some r) : u = tot t r := by
 have v := N.val_ok c ha
 rw [hr] at v
 obtain ⟨⟨w', q⟩, m⟩ := v
 have x := (h.2 _ _ (q.on ht h1)).1
 obtain ⟨s, y, e⟩ := h.1.off ht h1
 have := tot_mono (a := t) (m _ _ y)
 omega
theorem Net.First.step {N : Net} {a : Nat} {c t r u : Int} {j : Nat} {w : List Nat} (ht : 0 ≤ t) (h1 : t ≤ 1125899906842624) (ha : a < N.n) (hr : N.val a c = some r)
 (hit : N.Hit a c t (tot t r) j) (no : ∀ i, i < j → ¬ N.Hit a c t (tot t r) i) (h : N.First (j + 1) (N.K a j) (tot t (N.C a j c)) w u) : N.First a c t (j :: w) u := by
 have z := N.c0 a j c
 have tc := tot_ok ht z.1
 obtain ⟨ok, s, hs, e⟩ := hit
 have eu : u = tot t r := (h.val tc.1 tc.2 (by have := ok.2.1; omega) hs).trans e
 have v := N.val_ok c (Nat.le_of_lt ha)
 rw [hr] at v
 refine ⟨⟨ok, h.1⟩, fun w' u' q => ?_⟩
 obtain ⟨x, y, ex⟩ := q.off ht h1
 have ge := tot_mono (a := t) (v.2 _ _ y)
 refine ⟨by omega, fun eq lx => ?_⟩
 cases w' with
 | nil => have := q.1; omega
 | cons i w' =>
  rcases lx with lt | ⟨rfl, lx⟩
  · refine no i lt ⟨q.1, ?_⟩
    have zi := N.c0 a i c
    have ti := tot_ok ht zi.1
    have hi : i + 1 ≤ N.n := by have := q.1.2.1; omega
    obtain ⟨x2, y2, e2⟩ := q.2.off ti.1 ti.2
    have v2 := N.val_ok (N.K a i) hi
    cases hv : N.val (i + 1) (N.K a i) with
    | none => rw [hv] at v2; exact absurd y2 (v2 _ _)
    | some s2 =>
     rw [hv] at v2
     have l1 := tot_mono (a := tot t (N.C a i c)) (v2.2 _ _ y2)
     have l2 := Net.Hit.ge ht (Nat.le_of_lt ha) hr ⟨q.1, s2, hv, rfl⟩
     exact ⟨s2, rfl, by omega⟩
  · exact (h.2 _ _ q.2).2 eq lx
end Go.Proofs.YtjbobaeggdafpaaGreat.Vm
