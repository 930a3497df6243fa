/- A right text's runes: what the reference reads is what a range over the text reads; and so of its parts. -/
import Derived.Test.YtljbfmehdgfcfaaPx18
import Derived.Test.YtljbfmehdgfcfaaPx19
import Derived.Test.YtljbfmehdgfcfaaPx20
import Derived.Test.YtljbfmehdgfcfaaMt3
namespace Go.Proofs.Ytljbfmehdgfcfaa.P
open Go.RowKit Go.Proofs.YtljbfmehdgfcfaaW.PrintWords Go.Proofs.YtljbfmehdgfcfaaW.PrintLast
/-- the byte at a place, as a number -/
def by_ (s : ByteArray) (i : Nat) : Nat := (s.get! i).toNat
theorem by_lt (s : ByteArray) (i : Nat) : by_ s i < 256 := UInt8.toNat_lt _
theorem get!_at (s : ByteArray) (i : Nat) (h : i < s.size) : s.get! i = s[i]'h := by
  simp [ByteArray.get!, getElem!_pos, h]; rfl
theorem bt_by (s : ByteArray) (i : Nat) (h : i < s.size) : bt s (i : Int) = by_ s i := by
  unfold bt by_
  rw [dif_pos (show ((i : Int)).toNat < s.size from by omega), get!_at s i h]; rfl
/-- a rune's bytes stand at a place -/
def Enc (s : ByteArray) (pos : Nat) (r n : Nat) : Prop := pos + n ≤ s.size ∧
  ((n = 1 ∧ r < 128 ∧ by_ s pos = r) ∨
   (n = 2 ∧ 128 ≤ r ∧ r < 2048 ∧ by_ s pos = 192 + r / 64 ∧ by_ s (pos + 1) = 128 + r % 64) ∨
   (n = 3 ∧ 2048 ≤ r ∧ r < 65536 ∧ (r < 55296 ∨ 57343 < r) ∧ by_ s pos = 224 + r / 4096 ∧ by_ s (pos + 1) = 128 + r / 64 % 64 ∧ by_ s (pos + 2) = 128 + r % 64) ∨
   (n = 4 ∧ 65536 ≤ r ∧ r ≤ 1114111 ∧ by_ s pos = 240 + r / 262144 ∧ by_ s (pos + 1) = 128 + r / 4096 % 64 ∧ by_ s (pos + 2) = 128 + r / 64 % 64 ∧ by_ s (pos + 3) = 128 + r % 64))
theorem decode_enc {s : ByteArray} {pos r n : Nat} (h : Enc s pos r n) : Utf8.decode s pos = (r, n) := by
  obtain ⟨hs, h⟩ := h
  have e0 : (s.get! (pos + 0)).toNat = by_ s pos := rfl
  have e1 : (s.get! (pos + 1)).toNat = by_ s (pos + 1) := rfl
  have e2 : (s.get! (pos + 2)).toNat = by_ s (pos + 2) := rfl
  have e3 : (s.get! (pos + 3)).toNat = by_ s (pos + 3) := rfl
  simp only [Utf8.decode, e0, e1, e2, e3]
  generalize by_ s pos = b0 at *
  generalize by_ s (pos + 1) = b1 at *
  generalize by_ s (pos + 2) = b2 at *
  generalize by_ s (pos + 3) = b3 at *
  have cont : ∀ {k b : Nat}, pos + k < s.size → b / 64 = 2 → (decide (pos + k < s.size) && (b / 64 == 2)) = true := fun h1 h2 => by simp [h1, h2]
  rcases h with ⟨rfl, h1, h2⟩ | ⟨rfl, h1, h2, h3, h4⟩ | ⟨rfl, h1, h2, h3, h4, h5, h6⟩ | ⟨rfl, h1, h2, h3, h4, h5, h6⟩
  · rw [if_pos (by omega), h2]
  · rw [if_neg (by omega), if_pos (by rw [cont (by omega) (by omega)]; simp; omega), if_pos (by omega)]
    rw [show b0 % 32 * 64 + b1 % 64 = r by omega]
  · have hv : Utf8.valid ((r : Nat) : Int) = true := by simp [Utf8.valid]; omega
    have er : b0 % 16 * 4096 + b1 % 64 * 64 + b2 % 64 = r := by omega
    rw [if_neg (by omega), if_neg (by simp; omega), if_pos (by rw [cont (by omega) (by omega), cont (by omega) (by omega)]; simp; omega), er, if_pos (by rw [hv]; simp; omega)]
  · have hv : Utf8.valid ((r : Nat) : Int) = true := by simp [Utf8.valid]; omega
    have er : b0 % 8 * 262144 + b1 % 64 * 4096 + b2 % 64 * 64 + b3 % 64 = r := by omega
    rw [if_neg (by omega), if_neg (by simp; omega), if_neg (by simp; omega), if_pos (by rw [cont (by omega) (by omega), cont (by omega) (by omega), cont (by omega) (by omega)]; simp; omega), er, if_pos (by rw [hv]; simp; omega)]
theorem Enc.pos1 {s : ByteArray} {pos r n : Nat} (h : Enc s pos r n) : 1 ≤ n ∧ n ≤ 4 ∧ r ≤ 1114111 := by
  obtain ⟨_, h⟩ := h; omega

/-- bytes as the reference tells them -/
theorem Bytes_some (v : Int) : ∃ l, regletref02_Bytes.f v = some l ∧ l.length ≤ 4 ∧ ∀ (s : ByteArray) (pos : Nat), pos + l.length ≤ s.size → l.length ≠ 0 → (∀ j : Nat, j < l.length → (by_ s (pos + j) : Int) = l.getD j 0) → 0 ≤ v ∧ Enc s pos v.toNat l.length := by
  unfold regletref02_Bytes.f regletref02_IsRune.f
  have none_ : ∃ l : List Int, (some ([] : List Int)) = some l ∧ l.length ≤ 4 ∧ ∀ (s : ByteArray) (pos : Nat), pos + l.length ≤ s.size → l.length ≠ 0 → (∀ j : Nat, j < l.length → (by_ s (pos + j) : Int) = l.getD j 0) → 0 ≤ v ∧ Enc s pos v.toNat l.length :=
    ⟨[], rfl, by simp, fun _ _ _ h => absurd rfl h⟩
  by_cases h0 : v ≥ 0
  rotate_left
  · rw [if_neg h0]; exact none_
  rw [if_pos h0]
  by_cases h1 : v ≤ 1114111
  rotate_left
  · rw [if_neg h1]; exact none_
  rw [if_pos h1]
  have yes : (v < 55296 ∨ v > 57343) → ∃ l, (if v < 128 then (some (([v] : List Int))) else (if v < 2048 then (some (([wrap64 (192 + (wrap64 (Int.tdiv v 64))), wrap64 (128 + (Int.tmod v 64))] : List Int))) else (if v < 65536 then (some (([wrap64 (224 + (wrap64 (Int.tdiv v 4096))), wrap64 (128 + (Int.tmod (wrap64 (Int.tdiv v 64)) 64)), wrap64 (128 + (Int.tmod v 64))] : List Int))) else (some (([wrap64 (240 + (wrap64 (Int.tdiv v 262144))), wrap64 (128 + (Int.tmod (wrap64 (Int.tdiv v 4096)) 64)), wrap64 (128 + (Int.tmod (wrap64 (Int.tdiv v 64)) 64)), wrap64 (128 + (Int.tmod v 64))] : List Int)))))) = some l ∧ l.length ≤ 4 ∧ ∀ (s : ByteArray) (pos : Nat), pos + l.length ≤ s.size → l.length ≠ 0 → (∀ j : Nat, j < l.length → (by_ s (pos + j) : Int) = l.getD j 0) → 0 ≤ v ∧ Enc s pos v.toNat l.length := by
    intro hr
    obtain ⟨n, rfl⟩ : ∃ n : Nat, v = n := ⟨v.toNat, by omega⟩
    have d64 : wrap64 (Int.tdiv (n : Int) 64) = ((n / 64 : Nat) : Int) := by rw [Int.tdiv_eq_ediv_of_nonneg (by omega), w64 (by omega) (by omega)]; omega
    have d4096 : wrap64 (Int.tdiv (n : Int) 4096) = ((n / 4096 : Nat) : Int) := by rw [Int.tdiv_eq_ediv_of_nonneg (by omega), w64 (by omega) (by omega)]; omega
    have d262144 : wrap64 (Int.tdiv (n : Int) 262144) = ((n / 262144 : Nat) : Int) := by rw [Int.tdiv_eq_ediv_of_nonneg (by omega), w64 (by omega) (by omega)]; omega
    have m1 : ∀ x : Nat, Int.tmod (x : Int) 64 = ((x % 64 : Nat) : Int) := fun x => by rw [Int.tmod_eq_emod_of_nonneg (by omega)]; omega
    have w : ∀ (c : Int) (x : Nat), 0 ≤ c → c < 1000 → x < 1000000 → wrap64 (c + (x : Int)) = c + x := fun c x h0 h1 h2 => w64 (by omega) (by omega)
    have e1 := w 192 (n / 64) (by omega) (by omega)
    have e2 := w 128 (n % 64) (by omega) (by omega) (by omega)
    have e3 := w 224 (n / 4096) (by omega) (by omega)
    have e4 := w 128 (n / 64 % 64) (by omega) (by omega) (by omega)
    have e5 := w 240 (n / 262144) (by omega) (by omega)
    have e6 := w 128 (n / 4096 % 64) (by omega) (by omega) (by omega)
    by_cases c1 : (n : Int) < 128
    · rw [if_pos c1]
      clear d64 d4096 d262144 m1 w e1 e2 e3 e4 e5 e6
      refine ⟨_, rfl, by simp, fun s pos hs _ hj => ⟨by omega, ?_⟩⟩
      have j0 := hj 0 (by simp)
      simp only [List.length_cons, List.length_nil, List.getD_cons_zero, Nat.add_zero] at *
      exact ⟨by omega, .inl ⟨rfl, by omega, by omega⟩⟩
    rw [if_neg c1]
    by_cases c2 : (n : Int) < 2048
    · rw [if_pos c2, d64, m1, e1 (by clear d64 d4096 d262144 e1 e2 e3 e4 e5 e6 w; omega), e2]
      clear d64 d4096 d262144 m1 w e1 e2 e3 e4 e5 e6
      refine ⟨_, rfl, by simp, fun s pos hs _ hj => ⟨by omega, ?_⟩⟩
      have j0 := hj 0 (by simp)
      have j1 := hj 1 (by simp)
      simp only [List.length_cons, List.length_nil, List.getD_cons_zero, List.getD_cons_succ, Nat.add_zero] at *
      exact ⟨by omega, .inr (.inl ⟨rfl, by omega, by omega, by omega, by omega⟩)⟩
    rw [if_neg c2]
    by_cases c3 : (n : Int) < 65536
    · rw [if_pos c3, d64, d4096, m1, m1, e3 (by clear d64 d4096 d262144 e1 e2 e3 e4 e5 e6 w; omega), e2, e4]
      clear d64 d4096 d262144 m1 w e1 e2 e3 e4 e5 e6
      refine ⟨_, rfl, by simp, fun s pos hs _ hj => ⟨by omega, ?_⟩⟩
      have j0 := hj 0 (by simp)
      have j1 := hj 1 (by simp)
      have j2 := hj 2 (by simp)
      simp only [List.length_cons, List.length_nil, List.getD_cons_zero, List.getD_cons_succ, Nat.add_zero] at *
      exact ⟨by omega, .inr (.inr (.inl ⟨rfl, by omega, by omega, by omega, by omega, by omega, by omega⟩))⟩
    · rw [if_neg c3, d64, d4096, d262144, m1, m1, m1, e5 (by clear d64 d4096 d262144 e1 e2 e3 e4 e5 e6 w; omega), e2, e4, e6]
      clear d64 d4096 d262144 m1 w e1 e2 e3 e4 e5 e6
      refine ⟨_, rfl, by simp, fun s pos hs _ hj => ⟨by omega, ?_⟩⟩
      have j0 := hj 0 (by simp)
      have j1 := hj 1 (by simp)
      have j2 := hj 2 (by simp)
      have j3 := hj 3 (by simp)
      simp only [List.length_cons, List.length_nil, List.getD_cons_zero, List.getD_cons_succ, Nat.add_zero] at *
      exact ⟨by omega, .inr (.inr (.inr ⟨rfl, by omega, by omega, by omega, by omega, by omega, by omega⟩))⟩
  by_cases h2 : v < 55296
  · rw [if_pos h2]; exact yes (.inl h2)
  · rw [if_neg h2]
    by_cases h3 : v > 57343
    · rw [decide_eq_true h3]; exact yes (.inr h3)
    · rw [decide_eq_false h3]; exact none_

/-! ### the reference's reading -/
theorem begins_ev (s : ByteArray) (hs : s.size ≤ 4096) (pos : Nat) (l : List Int) (hl : l.length ≤ 4) (h : pos ≤ s.size) : ∃ b, Ev (fun k => regletref02_begins.f k s pos l) b ∧ (b = true → l.length ≠ 0 ∧ pos + l.length ≤ s.size ∧ ∀ j : Nat, j < l.length → (by_ s (pos + j) : Int) = l.getD j 0) := by
  by_cases h0 : (l.length : Int) = 0
  · exact ⟨false, Ev.ifp h0 (regletref02_begins.j0.ev (Ev.ifp rfl (Ev.now _))), fun h => by cases h⟩
  by_cases h1 : wrap64 ((pos : Int) + (l.length : Int)) > (s.size : Int)
  · exact ⟨false, Ev.ifn h0 (regletref02_begins.j0.ev (Ev.ifp (decide_eq_true h1) (Ev.now _))), fun h => by cases h⟩
  have h2 : pos + l.length ≤ s.size := by rw [w64 (by omega) (by omega)] at h1; omega
  have loop : ∀ (d i : Nat), i + d = l.length → ∃ b, Ev (fun k => regletref02_begins.l0 k s pos l i) b ∧ (b = true → ∀ j : Nat, i ≤ j → j < l.length → (by_ s (pos + j) : Int) = l.getD j 0) := by
    intro d
    induction d with
    | zero => exact fun i hi => ⟨true, regletref02_begins.l0.ev (Ev.ifn (by omega) (Ev.now _)), fun _ j h1 h2 => by omega⟩
    | succ d ih =>
      intro i hi
      have hw : wrap64 ((pos : Int) + (i : Int)) = ((pos + i : Nat) : Int) := by rw [w64 (by omega) (by omega)]; omega
      have hb : wrap64 (bt s ((pos + i : Nat) : Int)) = by_ s (pos + i) := by have := by_lt s (pos + i); rw [bt_by _ _ (by omega), w64 (by omega) (by omega)]
      obtain ⟨b, hb1, hb2⟩ := ih (i + 1) (by omega)
      by_cases c : (by_ s (pos + i) : Int) = l.getD i 0
      · refine ⟨b, regletref02_begins.l0.ev (Ev.ifp (by omega) ?_), fun q j hj1 hj2 => ?_⟩
        · rw [hw, hb, rd_nat]
          refine Ev.ifp (by omega) (Ev.ifp (by omega) (Ev.ifp (by omega) (Ev.ifp c ?_)))
          rw [w64 (by omega) (by omega)]
          exact hb1
        · by_cases e : j = i
          · rw [e]; exact c
          · exact hb2 q j (by omega) hj2
      · refine ⟨false, regletref02_begins.l0.ev (Ev.ifp (by omega) ?_), fun q => by cases q⟩
        rw [hw, hb, rd_nat]
        exact Ev.ifp (by omega) (Ev.ifp (by omega) (Ev.ifp (by omega) (Ev.ifn c (Ev.now _))))
  obtain ⟨b, hb1, hb2⟩ := loop l.length 0 (by omega)
  refine ⟨b, Ev.ifn h0 (regletref02_begins.j0.ev (Ev.ifn (by simpa using h1) hb1)), fun q => ⟨by omega, h2, fun j hj => hb2 q j (by omega) hj⟩⟩
theorem value_ev (s : ByteArray) (hs : s.size ≤ 4096) (pos n : Nat) (h1 : 1 ≤ n) (h4 : n ≤ 4) (h : pos + n ≤ s.size) : ∃ v, Ev (fun k => regletref02_value.f k s pos n) v := by
  have loop : ∀ (d i : Nat) (x : Int), i + d = n → ∃ v, Ev (fun k => regletref02_value.l0 k s pos n x i) v := by
    intro d
    induction d with
    | zero => exact fun i x hi => ⟨_, regletref02_value.l0.ev (Ev.ifn (by omega) (Ev.now _))⟩
    | succ d ih =>
      intro i x hi
      have hw : wrap64 ((pos : Int) + (i : Int)) = ((pos + i : Nat) : Int) := by rw [w64 (by omega) (by omega)]; omega
      have hi1 : wrap64 ((i : Int) + 1) = ((i + 1 : Nat) : Int) := by rw [w64 (by omega) (by omega)]; omega
      obtain ⟨v, hv⟩ := ih (i + 1) (wrap64 ((wrap64 (x * 64)) + (Int.tmod (wrap64 (bt s ((pos + i : Nat) : Int))) 64))) (by omega)
      refine ⟨v, regletref02_value.l0.ev (Ev.ifp (by omega) ?_)⟩
      rw [hw, hi1]
      exact Ev.ifp (by omega) (Ev.ifp (by omega) hv)
  by_cases c : (n : Int) = 1
  · exact ⟨_, Ev.ifp (by omega) (Ev.ifp (by omega) (Ev.ifp c (Ev.now _)))⟩
  · obtain ⟨v, hv⟩ := loop (n - 1) 1 (Int.tmod (wrap64 (bt s pos)) (shl .i64 1 (wrap64 (7 - n)))) (by omega)
    refine ⟨v, Ev.ifp (by omega) (Ev.ifp (by omega) (Ev.ifn c (Ev.ifp ?_ (Ev.ifn ?_ hv))))⟩
    · rw [w64 (by omega) (by omega)]; omega
    · rw [w64 (by omega) (by omega)]
      obtain rfl | rfl | rfl : n = 2 ∨ n = 3 ∨ n = 4 := by omega
      all_goals decide
theorem Read_ev (s : ByteArray) (hs : s.size ≤ 4096) (pos : Nat) (h : pos < s.size) : ∃ r n : Int, Ev (fun k => regletref02_Read.f k s pos) (r, n) ∧ (n = 0 ∨ ∃ a m : Nat, r = a ∧ n = m ∧ Enc s pos a m) := by
  have none_ : ∀ n : Nat, Ev (fun k => regletref02_Read.j1 k s pos n false) (-1, 0) := fun n => regletref02_Read.j1.ev (Ev.ifn (by simp) (Ev.now _))
  have loop : ∀ (d n : Nat), n + d = 5 → 1 ≤ n → ∃ r m : Int, Ev (fun k => regletref02_Read.l0 k s pos n) (r, m) ∧ (m = 0 ∨ ∃ a b : Nat, r = a ∧ m = b ∧ Enc s pos a b) := by
    intro d
    induction d with
    | zero => exact fun n hn h1 => ⟨-1, 0, regletref02_Read.l0.ev (Ev.ifn (by omega) (none_ n)), .inl rfl⟩
    | succ d ih =>
      intro n hn h1
      have hw : wrap64 ((pos : Int) + (n : Int)) = ((pos + n : Nat) : Int) := by rw [w64 (by omega) (by omega)]; omega
      have hw1 : wrap64 ((n : Int) + 1) = ((n + 1 : Nat) : Int) := by rw [w64 (by omega) (by omega)]; omega
      by_cases c : pos + n ≤ s.size
      rotate_left
      · refine ⟨-1, 0, regletref02_Read.l0.ev (Ev.ifp (by omega) ?_), .inl rfl⟩
        rw [hw, decide_eq_false (by omega)]
        exact none_ n
      obtain ⟨v, hv⟩ := value_ev s hs pos n h1 (by omega) c
      obtain ⟨l, hl, hl4, hl2⟩ := Bytes_some v
      obtain ⟨r, m, ih1, ih2⟩ := ih (n + 1) (by omega) (by omega)
      have go : ∀ {r m : Int}, Ev (fun k => if (l.length : Int) = n then ((regletref02_begins.f k s pos l).bind fun t262 => (if t262 = true then (some (v, (n : Int))) else (regletref02_Read.l0 k s pos (wrap64 (n + 1))))) else (regletref02_Read.l0 k s pos (wrap64 (n + 1)))) (r, m) → Ev (fun k => regletref02_Read.l0 k s pos n) (r, m) := by
        intro r m hq
        refine regletref02_Read.l0.ev (Ev.ifp (by omega) ?_)
        rw [hw, decide_eq_true (by omega)]
        exact regletref02_Read.j1.ev (Ev.ifp rfl (Ev.bind hv (Ev.bind (Ev.opt hl) hq)))
      by_cases e : (l.length : Int) = n
      · obtain ⟨b, hb1, hb2⟩ := begins_ev s hs pos l hl4 (by omega)
        cases b with
        | true =>
          obtain ⟨z1, z2, z3⟩ := hb2 rfl
          obtain ⟨p1, p2⟩ := hl2 s pos z2 z1 z3
          exact ⟨v, n, go (Ev.ifp e (Ev.bind hb1 (Ev.ifp rfl (Ev.now _)))), .inr ⟨v.toNat, l.length, by omega, e.symm, p2⟩⟩
        | false => exact ⟨r, m, go (Ev.ifp e (Ev.bind hb1 (Ev.ifn (by simp) (by rw [hw1]; exact ih1)))), ih2⟩
      · exact ⟨r, m, go (Ev.ifn e (by rw [hw1]; exact ih1)), ih2⟩
  exact loop 4 1 (by omega) (by omega)

/-- from one place on up to another one a text is these runes, which begin at these places -/
inductive Dec (s : ByteArray) (e : Nat) : Nat → List Int → List Int → Prop
  | done : Dec s e e [] []
  | step {pos r n : Nat} {L A : List Int} : Enc s pos r n → Dec s e (pos + n) L A → Dec s e pos (r :: L) (pos :: A)
theorem Dec.le {s : ByteArray} {e pos : Nat} {L A : List Int} (h : Dec s e pos L A) : pos ≤ e ∧ L.length ≤ e - pos ∧ A.length = L.length := by
  induction h with
  | done => simp
  | step h _ ih => have := h.pos1; simp only [List.length_cons]; omega
theorem Runes_ev (s : ByteArray) (hs : s.size ≤ 4096) : ∃ L A b, Ev (fun k => regletref02_Runes.f k s) (L, A, b) ∧ (b < 0 → Dec s s.size 0 L A) := by
  have loop : ∀ (d pos : Nat) (x y : List Int), s.size - pos ≤ d → pos ≤ s.size → x.length ≤ pos → y.length ≤ pos →
      ∃ L A b, Ev (fun k => regletref02_Runes.l0 k s x y pos) (x ++ L, y ++ A, b) ∧ (b < 0 → Dec s s.size pos L A) := by
    intro d
    induction d with
    | zero =>
      intro pos x y h1 h2 h3 h4
      obtain rfl : pos = s.size := by omega
      exact ⟨[], [], -1, regletref02_Runes.l0.ev (Ev.ifn (by omega) (Ev.some_ (by simp))), fun _ => .done⟩
    | succ d ih =>
      intro pos x y h1 h2 h3 h4
      by_cases c : pos < s.size
      rotate_left
      · obtain rfl : pos = s.size := by omega
        exact ⟨[], [], -1, regletref02_Runes.l0.ev (Ev.ifn (by omega) (Ev.some_ (by simp))), fun _ => .done⟩
      obtain ⟨r, n, hr, q⟩ := Read_ev s hs pos c
      by_cases c0 : n = 0
      · exact ⟨[], [], pos, regletref02_Runes.l0.ev (Ev.ifp (by omega) (Ev.bind hr (Ev.ifp c0 (Ev.some_ (by simp))))), fun h => by omega⟩
      obtain ⟨a, m, rfl, rfl, he⟩ := q.resolve_left c0
      have p1 := he.pos1
      have p2 := he.1
      obtain ⟨L, A, b, i1, i2⟩ := ih (pos + m) (x ++ [(a : Int)]) (y ++ [(pos : Int)]) (by omega) (by omega) (by simp; omega) (by simp; omega)
      refine ⟨a :: L, pos :: A, b, regletref02_Runes.l0.ev (Ev.ifp (by omega) (Ev.bind hr (Ev.ifn c0 (Ev.ifp (by omega) (Ev.ifp (by omega) ?_))))), fun h => .step he (i2 h)⟩
      rw [w64 (by omega) (by omega)]
      rw [List.append_assoc, List.append_assoc] at i1
      exact i1
  obtain ⟨L, A, b, h1, h2⟩ := loop s.size 0 [] [] (by omega) (by omega) (by simp) (by simp)
  exact ⟨L, A, b, h1, h2⟩

/-! ### parts -/
theorem by_extract (s : ByteArray) (a e j : Nat) (h : a + j < e) (he : e ≤ s.size) : by_ (s.extract a e) j = by_ s (a + j) := by
  unfold by_
  rw [get!_at _ _ (by simp; omega), get!_at _ _ (by omega)]
  simp [ByteArray.getElem_extract]
theorem Enc.extract {s : ByteArray} {a e pos r n : Nat} (h : Enc s (a + pos) r n) (he : a + pos + n ≤ e) (hs : e ≤ s.size) : Enc (s.extract a e) pos r n := by
  obtain ⟨p1, p4, _⟩ := h.pos1
  refine ⟨by rw [ByteArray.size_extract]; omega, ?_⟩
  rcases h.2 with ⟨hn, h1, h2⟩ | ⟨hn, h1, h2, h3, h4⟩ | ⟨hn, h1, h2, h3, h4, h5, h6⟩ | ⟨hn, h1, h2, h3, h4, h5, h6⟩
  · exact .inl ⟨hn, h1, by rw [by_extract s a e pos (by omega) hs]; exact h2⟩
  · exact .inr (.inl ⟨hn, h1, h2, by rw [by_extract s a e pos (by omega) hs]; exact h3, by rw [by_extract s a e (pos + 1) (by omega) hs]; exact h4⟩)
  · exact .inr (.inr (.inl ⟨hn, h1, h2, h3, by rw [by_extract s a e pos (by omega) hs]; exact h4, by rw [by_extract s a e (pos + 1) (by omega) hs]; exact h5, by rw [by_extract s a e (pos + 2) (by omega) hs]; exact h6⟩))
  · exact .inr (.inr (.inr ⟨hn, h1, h2, by rw [by_extract s a e pos (by omega) hs]; exact h3, by rw [by_extract s a e (pos + 1) (by omega) hs]; exact h4, by rw [by_extract s a e (pos + 2) (by omega) hs]; exact h5, by rw [by_extract s a e (pos + 3) (by omega) hs]; exact h6⟩))
theorem Dec.extract {s : ByteArray} {e p : Nat} {L A : List Int} (h : Dec s e p L A) : ∀ (a pos : Nat), p = a + pos → e ≤ s.size → ∃ A', Dec (s.extract a e) (e - a) pos L A' := by
  induction h with
  | done =>
    intro a pos hp he
    obtain rfl : pos = e - a := by omega
    exact ⟨[], .done⟩
  | step h1 h2 ih =>
    intro a pos hp he
    subst hp
    have hle := h2.le
    obtain ⟨A', q⟩ := ih a (pos + _) (by rw [Nat.add_assoc]) he
    exact ⟨_, .step (h1.extract hle.1 he) q⟩
theorem Dec.split {s : ByteArray} {e pos : Nat} {L A : List Int} (h : Dec s e pos L A) : ∀ a ∈ A, ∃ (m : Nat) (L1 L2 A1 A2 : List Int), a = m ∧ m ≤ e ∧ L = L1 ++ L2 ∧ Dec s m pos L1 A1 ∧ Dec s e m L2 A2 := by
  induction h with
  | done => intro a ha; cases ha
  | @step pos r n L A h1 h2 ih =>
    intro a ha
    rcases List.mem_cons.1 ha with rfl | ha
    · exact ⟨pos, [], _, [], _, rfl, by have := h2.le; omega, rfl, .done, .step h1 h2⟩
    · obtain ⟨m, L1, L2, A1, A2, q1, q2, q3, q4, q5⟩ := ih a ha
      exact ⟨m, r :: L1, L2, pos :: A1, A2, q1, q2, by rw [q3]; rfl, .step h1 q4, q5⟩
end Go.Proofs.Ytljbfmehdgfcfaa.P
