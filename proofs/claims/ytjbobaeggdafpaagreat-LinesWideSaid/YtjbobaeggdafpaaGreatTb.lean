/- The reference's reading of a text: its runes, one behind the other. -/
import Derived.Test.YtjbobaeggdafpaaGreatTa
namespace Go.Proofs.YtjbobaeggdafpaaGreat.Vm
open Go
open _root_.Go.RowKit (wrap64)
def Stands (s : ByteArray) (pos : Nat) (l : List Int) : Prop := l.length ≠ 0 ∧ pos + l.length ≤ s.size ∧ ∀ j : Nat, j < l.length → (by_ s (pos + j) : Int) = rd l (j : Int)
theorem begins_ev (s : ByteArray) (hs : s.size ≤ 1000000) (pos : Nat) (l : List Int) (hl : l.length ≤ 4) (h : pos ≤ s.size) : Ev (fun k => regletref02_begins.f k s (pos : Int) l) (isTrue (Stands s pos l)) := by
 refine Ev.dc (fun h0 => Ev.some_ (isTrue_no (fun q => q.1 (by omega))).symm) (fun h0 => ?_)
 rw [nx2 pos l.length (by omega)]
 refine Ev.dc (fun h1 => Ev.some_ (isTrue_no (fun q => by have := q.2.1; omega)).symm) (fun h1 => ?_)
 have loop : ∀ (d i : Nat), i + d = l.length → (∀ j : Nat, j < i → (by_ s (pos + j) : Int) = rd l (j : Int)) → Ev (fun k => regletref02_begins.l1 k s (pos : Int) l (i : Int)) (isTrue (Stands s pos l)) := by
  intro d
  induction d with
  | zero => exact fun i hi hj => Ev.st (fun k => by rw [regletref02_begins.l1]) (Ev.dn (by omega) (Ev.some_ (isTrue_yes ⟨by omega, by omega, fun j h => hj j (by omega)⟩).symm))
  | succ d ih =>
   intro i hi hj
   have b := by_lt s (pos + i)
   refine Ev.st (fun k => by rw [regletref02_begins.l1]) (Ev.dp (by omega) ?_)
   rw [nx2 pos i (by omega)]
   refine Ev.byte (by omega) ?_
   refine Ev.at_ (by omega) (by omega) ?_
   rw [w64 (x := (by_ s (pos + i) : Int)) (by omega) (by omega)]
   refine Ev.xc (fun q => Ev.some_ (isTrue_no (fun z => q (z.2.2 i (by omega)))).symm) (fun q => ?_)
   rw [nx i (by omega)]
   exact ih (i + 1) (by omega) (fun j h => by
    by_cases e : j = i
    · rw [e]; exact q
    · exact hj j (by omega))
 exact Ev.st (fun k => by rw [regletref02_begins.j0]; rfl) (loop l.length 0 (by omega) (fun j h => by omega))
def valV (s : ByteArray) (pos : Nat) : Nat → Nat
 | 1 => by_ s pos
 | 2 => by_ s pos % 32 * 64 + by_ s (pos + 1) % 64
 | 3 => (by_ s pos % 16 * 64 + by_ s (pos + 1) % 64) * 64 + by_ s (pos + 2) % 64
 | _ => ((by_ s pos % 8 * 64 + by_ s (pos + 1) % 64) * 64 + by_ s (pos + 2) % 64) * 64 + by_ s (pos + 3) % 64
theorem value_step (s : ByteArray) (hs : s.size ≤ 1000000) (pos n i x : Nat) (hi : i < n) (h : pos + n ≤ s.size) (hx : x < 1000000) {r : Int} (k : Ev (fun k => regletref02_value.l0 k s (pos : Int) (n : Int) ((x * 64 + by_ s (pos + i) % 64 : Nat) : Int) ((i + 1 : Nat) : Int)) r) : Ev (fun k => regletref02_value.l0 k s (pos : Int) (n : Int) (x : Int) (i : Int)) r := by
 have b := by_lt s (pos + i)
 refine Ev.st (fun k => by rw [regletref02_value.l0]) (Ev.dp (by omega) ?_)
 rw [nx2 pos i (by omega)]
 refine Ev.byte (by omega) ?_
 rw [w64 (x := (by_ s (pos + i) : Int)) (by omega) (by omega), w64 (x := (x : Int) * 64) (by omega) (by omega), nx i (by omega)]
 rw [show ((by_ s (pos + i) : Int)).tmod 64 = ((by_ s (pos + i) % 64 : Nat) : Int) by rw [Int.tmod_eq_emod_of_nonneg (by omega)]; rfl]
 rw [w64 (x := (x : Int) * 64 + ((by_ s (pos + i) % 64 : Nat) : Int)) (by omega) (by omega)]
 rw [show (x : Int) * 64 + ((by_ s (pos + i) % 64 : Nat) : Int) = ((x * 64 + by_ s (pos + i) % 64 : Nat) : Int) by omega]
 exact k
theorem value_end (s : ByteArray) (pos n x : Nat) : Ev (fun k => regletref02_value.l0 k s (pos : Int) (n : Int) (x : Int) (n : Int)) (x : Int) := Ev.st (fun k => by rw [regletref02_value.l0]) (Ev.dn (by omega) (Ev.now _))
theorem value_ev (s : ByteArray) (hs : s.size ≤ 1000000) (pos n : Nat) (h1 : 1 ≤ n) (h4 : n ≤ 4) (h : pos + n ≤ s.size) : Ev (fun k => regletref02_value.f k s (pos : Int) (n : Int)) (valV s pos n : Int) := by
 have b := by_lt s pos
 have b1 := by_lt s (pos + 1)
 have b2 := by_lt s (pos + 2)
 unfold regletref02_value.f
 refine Ev.byte (by omega) ?_
 rw [w64 (x := (by_ s pos : Int)) (by omega) (by omega)]
 obtain rfl | rfl | rfl | rfl : n = 1 ∨ n = 2 ∨ n = 3 ∨ n = 4 := by omega
 · exact Ev.dp rfl (Ev.now _)
 · refine Ev.dn (by omega) ?_
   rw [show wrap64 (7 - ((2 : Nat) : Int)) = 5 from w64 (x := 7 - ((2 : Nat) : Int)) (by omega) (by omega), show shlI .i64 (1 : Int) 5 = 32 by kernel_rfl]
   refine Ev.ifp (by omega) (Ev.ifp (by omega) ?_)
   rw [show ((by_ s pos : Int)).tmod 32 = ((by_ s pos % 32 : Nat) : Int) by rw [Int.tmod_eq_emod_of_nonneg (by omega)]; rfl]
   exact value_step s hs pos 2 1 _ (by omega) h (by omega) (value_end s pos 2 _)
 · refine Ev.dn (by omega) ?_
   rw [show wrap64 (7 - ((3 : Nat) : Int)) = 4 from w64 (x := 7 - ((3 : Nat) : Int)) (by omega) (by omega), show shlI .i64 (1 : Int) 4 = 16 by kernel_rfl]
   refine Ev.ifp (by omega) (Ev.ifp (by omega) ?_)
   rw [show ((by_ s pos : Int)).tmod 16 = ((by_ s pos % 16 : Nat) : Int) by rw [Int.tmod_eq_emod_of_nonneg (by omega)]; rfl]
   exact value_step s hs pos 3 1 _ (by omega) h (by omega) (value_step s hs pos 3 2 _ (by omega) h (by omega) (value_end s pos 3 _))
 · refine Ev.dn (by omega) ?_
   rw [show wrap64 (7 - ((4 : Nat) : Int)) = 3 from w64 (x := 7 - ((4 : Nat) : Int)) (by omega) (by omega), show shlI .i64 (1 : Int) 3 = 8 by kernel_rfl]
   refine Ev.ifp (by omega) (Ev.ifp (by omega) ?_)
   rw [show ((by_ s pos : Int)).tmod 8 = ((by_ s pos % 8 : Nat) : Int) by rw [Int.tmod_eq_emod_of_nonneg (by omega)]; rfl]
   exact value_step s hs pos 4 1 _ (by omega) h (by omega) (value_step s hs pos 4 2 _ (by omega) h (by omega) (value_step s hs pos 4 3 _ (by omega) h (by omega) (value_end s pos 4 _)))
theorem Enc.val {s : ByteArray} {pos r n : Nat} (h : Enc s pos r n) : valV s pos n = r := by
 obtain ⟨_, h⟩ := h
 rcases h with ⟨rfl, h1, h2⟩ | ⟨rfl, h1, h2, h3, h4⟩ | ⟨rfl, h1, h2, h3, h4, h5, h6⟩ | ⟨rfl, h1, h2, h3, h4, h5, h6⟩
 · exact h2
 · show by_ s pos % 32 * 64 + by_ s (pos + 1) % 64 = r; omega
 · show (by_ s pos % 16 * 64 + by_ s (pos + 1) % 64) * 64 + by_ s (pos + 2) % 64 = r; omega
 · show ((by_ s pos % 8 * 64 + by_ s (pos + 1) % 64) * 64 + by_ s (pos + 2) % 64) * 64 + by_ s (pos + 3) % 64 = r; omega
theorem enc_stands {s : ByteArray} {pos r n : Nat} : Enc s pos r n ↔ (runeL r).length = n ∧ Stands s pos (runeL r) := by
 unfold Stands runeL
 by_cases q : 1114111 < r ∨ (55296 ≤ r ∧ r ≤ 57343)
 · rw [if_pos q]
   exact ⟨fun h => by have := h.2; omega, fun h => absurd rfl h.2.1⟩
 rw [if_neg q]
 by_cases c1 : r < 128
 · rw [if_pos c1]
   constructor
   · intro h
     obtain ⟨rfl, e⟩ : n = 1 ∧ by_ s pos = r := by have := h.2; omega
     refine ⟨rfl, by simp, h.1, fun j hj => ?_⟩
     obtain rfl : j = 0 := by simpa using hj
     exact congrArg Int.ofNat e
   · rintro ⟨rfl, _, hz, hj⟩
     have j0 : (by_ s (pos + 0) : Int) = (r : Int) := hj 0 (by simp)
     rw [Nat.add_zero] at j0
     exact ⟨hz, .inl ⟨rfl, c1, by omega⟩⟩
 rw [if_neg c1]
 by_cases c2 : r < 2048
 · rw [if_pos c2]
   constructor
   · intro h
     obtain ⟨rfl, e0, e1⟩ : n = 2 ∧ by_ s pos = 192 + r / 64 ∧ by_ s (pos + 1) = 128 + r % 64 := by have := h.2; omega
     refine ⟨rfl, by simp, h.1, fun j hj => ?_⟩
     obtain rfl | rfl : j = 0 ∨ j = 1 := by have : j < 2 := hj; omega
     · exact congrArg Int.ofNat e0
     · exact congrArg Int.ofNat e1
   · rintro ⟨rfl, _, hz, hj⟩
     have j0 : (by_ s (pos + 0) : Int) = ((192 + r / 64 : Nat) : Int) := hj 0 (by simp)
     have j1 : (by_ s (pos + 1) : Int) = ((128 + r % 64 : Nat) : Int) := hj 1 (by simp)
     rw [Nat.add_zero] at j0
     exact ⟨hz, .inr (.inl ⟨rfl, by omega, c2, by omega, by omega⟩)⟩
 rw [if_neg c2]
 by_cases c3 : r < 65536
 · rw [if_pos c3]
   constructor
   · intro h
     obtain ⟨rfl, e0, e1, e2⟩ : n = 3 ∧ by_ s pos = 224 + r / 4096 ∧ by_ s (pos + 1) = 128 + r / 64 % 64 ∧ by_ s (pos + 2) = 128 + r % 64 := by have := h.2; omega
     refine ⟨rfl, by simp, h.1, fun j hj => ?_⟩
     obtain rfl | rfl | rfl : j = 0 ∨ j = 1 ∨ j = 2 := by have : j < 3 := hj; omega
     · exact congrArg Int.ofNat e0
     · exact congrArg Int.ofNat e1
     · exact congrArg Int.ofNat e2
   · rintro ⟨rfl, _, hz, hj⟩
     have j0 : (by_ s (pos + 0) : Int) = ((224 + r / 4096 : Nat) : Int) := hj 0 (by simp)
     have j1 : (by_ s (pos + 1) : Int) = ((128 + r / 64 % 64 : Nat) : Int) := hj 1 (by simp)
     have j2 : (by_ s (pos + 2) : Int) = ((128 + r % 64 : Nat) : Int) := hj 2 (by simp)
     rw [Nat.add_zero] at j0
     exact ⟨hz, .inr (.inr (.inl ⟨rfl, by omega, c3, by omega, by omega, by omega, by omega⟩))⟩
 · rw [if_neg c3]
   constructor
   · intro h
     obtain ⟨rfl, e0, e1, e2, e3⟩ : n = 4 ∧ by_ s pos = 240 + r / 262144 ∧ by_ s (pos + 1) = 128 + r / 4096 % 64 ∧ by_ s (pos + 2) = 128 + r / 64 % 64 ∧ by_ s (pos + 3) = 128 + r % 64 := by have := h.2; omega
     refine ⟨rfl, by simp, h.1, fun j hj => ?_⟩
     obtain rfl | rfl | rfl | rfl : j = 0 ∨ j = 1 ∨ j = 2 ∨ j = 3 := by have : j < 4 := hj; omega
     · exact congrArg Int.ofNat e0
     · exact congrArg Int.ofNat e1
     · exact congrArg Int.ofNat e2
     · exact congrArg Int.ofNat e3
   · rintro ⟨rfl, _, hz, hj⟩
     have j0 : (by_ s (pos + 0) : Int) = ((240 + r / 262144 : Nat) : Int) := hj 0 (by simp)
     have j1 : (by_ s (pos + 1) : Int) = ((128 + r / 4096 % 64 : Nat) : Int) := hj 1 (by simp)
     have j2 : (by_ s (pos + 2) : Int) = ((128 + r / 64 % 64 : Nat) : Int) := hj 2 (by simp)
     have j3 : (by_ s (pos + 3) : Int) = ((128 + r % 64 : Nat) : Int) := hj 3 (by simp)
     rw [Nat.add_zero] at j0
     exact ⟨hz, .inr (.inr (.inr ⟨rfl, by omega, by omega, by omega, by omega, by omega, by omega⟩))⟩
theorem runeL_len (r : Nat) : (runeL r).length ≤ 4 := by unfold runeL; repeat' (first | (simp; done) | split)
theorem Read_ev (s : ByteArray) (hs : s.size ≤ 1000000) (pos : Nat) (h : pos < s.size) : (∃ r n : Nat, Enc s pos r n ∧ Ev (fun k => regletref02_Read.f k s (pos : Int)) ((r : Int), (n : Int))) ∨ ((∀ r n, ¬ Enc s pos r n) ∧ Ev (fun k => regletref02_Read.f k s (pos : Int)) (-1, 0)) := by
 have loop : ∀ (d n : Nat), n + d = 5 → 1 ≤ n → (∀ m r, m < n → ¬ Enc s pos r m) → (∃ r n' : Nat, Enc s pos r n' ∧ Ev (fun k => regletref02_Read.l0 k s (pos : Int) (n : Int)) ((r : Int), (n' : Int))) ∨ ((∀ r n', ¬ Enc s pos r n') ∧ Ev (fun k => regletref02_Read.l0 k s (pos : Int) (n : Int)) (-1, 0)) := by
  intro d
  induction d with
  | zero => exact fun n hn h1 no => .inr ⟨fun r m q => no m r (by have := q.pos1; omega) q, Ev.st (fun k => by rw [regletref02_Read.l0]) (Ev.dn (by omega) (Ev.now _))⟩
  | succ d ih =>
   intro n hn h1 no
   by_cases c : pos + n ≤ s.size
   · have V := value_ev s hs pos n h1 (by omega) c
     have B := Bytes_ev (valV s pos n)
     have G := begins_ev s hs pos (runeL (valV s pos n)) (runeL_len _) (by omega)
     have pre : ∀ q, Ev (fun k => if (decide (((runeL (valV s pos n)).length : Int) = (n : Int))) = true then ((regletref02_begins.f k s (pos : Int) (runeL (valV s pos n))).bind fun r3 => if r3 = true then (some ((valV s pos n : Int), (n : Int))) else (regletref02_Read.j2 k s (pos : Int) (n : Int))) else (regletref02_Read.j2 k s (pos : Int) (n : Int))) q → Ev (fun k => regletref02_Read.l0 k s (pos : Int) (n : Int)) q := fun q v => by
      refine Ev.st (fun k => by rw [regletref02_Read.l0]) (Ev.dp (by omega) ?_)
      rw [nx2 pos n (by omega)]
      refine Ev.dp (by omega) ?_
      refine Ev.st (fun k => by rw [regletref02_Read.j1]) ?_
      exact Ev.bind V (Ev.bind B v)
     by_cases e : Enc s pos (valV s pos n) n
     · obtain ⟨e1, e2⟩ := enc_stands.1 e
       rw [isTrue_yes e2] at G
       exact .inl ⟨_, n, e, pre _ (Ev.dp (by omega) (Ev.bind G (Ev.bp rfl (Ev.now _))))⟩
     · have j2 : ∀ q, Ev (fun k => regletref02_Read.l0 k s (pos : Int) ((n + 1 : Nat) : Int)) q → Ev (fun k => regletref02_Read.j2 k s (pos : Int) (n : Int)) q := fun q v => by
        refine Ev.st (fun k => by rw [regletref02_Read.j2]) ?_
        rw [nx n (by omega)]
        exact v
       have on : ∀ q, Ev (fun k => regletref02_Read.l0 k s (pos : Int) ((n + 1 : Nat) : Int)) q → Ev (fun k => regletref02_Read.l0 k s (pos : Int) (n : Int)) q := fun q v => by
        refine pre q (Ev.dc (fun z => Ev.bind G (Ev.bn (isTrue_no fun st => e (enc_stands.2 ⟨by omega, st⟩)) (j2 q v))) (fun _ => j2 q v))
       rcases ih (n + 1) (by omega) (by omega) (fun m r hm q => by
        by_cases em : m = n
        · subst em
          have := q.val
          rw [this] at e
          exact e q
        · exact no m r (by omega) q) with ⟨r, n', a, b⟩ | ⟨a, b⟩
       · exact .inl ⟨r, n', a, on _ b⟩
       · exact .inr ⟨a, on _ b⟩
   · refine .inr ⟨fun r m q => ?_, Ev.st (fun k => by rw [regletref02_Read.l0]) (Ev.dp (by omega) ?_)⟩
     · by_cases z : m < n
       · exact no m r z q
       · have := q.1; omega
     · rw [nx2 pos n (by omega)]
       exact Ev.dn (by omega) (Ev.now _)
 exact loop 4 1 (by omega) (by omega) (fun m r hm q => by have := q.pos1; omega)
inductive Dec (s : ByteArray) (e : Nat) : Nat → List Int → List Int → Prop
 | done : Dec s e e [] []
 | step {pos r n : Nat} {L A : List Int} : Enc s pos r n → Dec s e (pos + n) L A → Dec s e pos (r :: L) (pos :: A)
theorem Dec.le {s : ByteArray} {e pos : Nat} {L A : List Int} (h : Dec s e pos L A) : pos ≤ e ∧ L.length ≤ e - pos ∧ A.length = L.length := by
 induction h with
 | done => simp
 | step h _ ih => have := h.pos1; simp only [List.length_cons]; omega
theorem Runes_ev (s : ByteArray) (hs : s.size ≤ 1000000) : ∃ L A b, Ev (fun k => regletref02_Runes.f k s) (L, A, b) ∧ ((b < 0 ∧ Dec s s.size 0 L A) ∨ (∃ e : Nat, b = e ∧ e < s.size ∧ Dec s e 0 L A ∧ ∀ r n, ¬ Enc s e r n)) := by
 have loop : ∀ (d pos : Nat) (x y : List Int), s.size - pos ≤ d → pos ≤ s.size → x.length ≤ pos → y.length ≤ pos →
  ∃ L A b, Ev (fun k => regletref02_Runes.l0 k s x y (pos : Int)) (x ++ L, y ++ A, b) ∧ ((b < 0 ∧ Dec s s.size pos L A) ∨ (∃ e : Nat, b = e ∧ e < s.size ∧ Dec s e pos L A ∧ ∀ r n, ¬ Enc s e r n)) := by
  intro d
  induction d with
  | zero =>
   intro pos x y h1 h2 h3 h4
   obtain rfl : pos = s.size := by omega
   exact ⟨[], [], -1, Ev.st (fun k => by rw [regletref02_Runes.l0]) (Ev.dn (by omega) (Ev.some_ (by simp))), .inl ⟨by omega, .done⟩⟩
  | succ d ih =>
   intro pos x y h1 h2 h3 h4
   by_cases c : pos < s.size
   · rcases Read_ev s hs pos c with ⟨a, m, he, hr⟩ | ⟨no, hr⟩
     · have p1 := he.pos1
       have p2 := he.1
       obtain ⟨L, A, b, i1, i2⟩ := ih (pos + m) (x ++ [(a : Int)]) (y ++ [(pos : Int)]) (by omega) (by omega) (by simp; omega) (by simp; omega)
       refine ⟨a :: L, pos :: A, b, Ev.st (fun k => by rw [regletref02_Runes.l0]) (Ev.dp (by omega) (Ev.bind hr ?_)), ?_⟩
       · refine Ev.dn (by dsimp only; omega) ?_
         refine Ev.ifp (by simp; omega) (Ev.ifp (by simp; omega) ?_)
         rw [nx2 pos m (by omega)]
         rw [List.append_assoc, List.append_assoc] at i1
         exact i1
       · rcases i2 with ⟨q1, q2⟩ | ⟨e, q1, q2, q3, q4⟩
         · exact .inl ⟨q1, .step he q2⟩
         · exact .inr ⟨e, q1, q2, .step he q3, q4⟩
     · refine ⟨[], [], pos, Ev.st (fun k => by rw [regletref02_Runes.l0]) (Ev.dp (by omega) (Ev.bind hr (Ev.dp rfl ?_))), .inr ⟨pos, rfl, c, .done, no⟩⟩
       exact Ev.some_ (by rw [List.append_nil, List.append_nil])
   · obtain rfl : pos = s.size := by omega
     exact ⟨[], [], -1, Ev.st (fun k => by rw [regletref02_Runes.l0]) (Ev.dn (by omega) (Ev.some_ (by simp))), .inl ⟨by omega, .done⟩⟩
 obtain ⟨L, A, b, h1, h2⟩ := loop s.size 0 [] [] (by omega) (by omega) (by simp) (by simp)
 exact ⟨L, A, b, h1, h2⟩
end Go.Proofs.YtjbobaeggdafpaaGreat.Vm
