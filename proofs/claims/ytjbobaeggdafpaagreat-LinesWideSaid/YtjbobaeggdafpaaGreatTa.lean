/- A text's runes: what the reference reads at a place, and what a range over the text reads. -/
import Derived.Test.YtjbobaeggdafpaaGreatQz
import Derived.Test.YtjbobaeggdafpaaGreatKit
namespace Go.Proofs.YtjbobaeggdafpaaGreat.Vm
open Go
open _root_.Go.RowKit (wrap64)
def by_ (s : ByteArray) (i : Nat) : Nat := (s.get! i).toNat
theorem by_lt (s : ByteArray) (i : Nat) : by_ s i < 256 := UInt8.toNat_lt _
theorem get!_at (s : ByteArray) (i : Nat) (h : i < s.size) : s.get! i = s[i]'h := by
 simp [ByteArray.get!, getElem!_pos, h]; rfl
theorem bAt_by (s : ByteArray) (i : Nat) (h : i < s.size) : bAt s (i : Int) = some (by_ s i : Int) := by
 unfold bAt by_
 rw [if_pos (by omega), Int.toNat_natCast, getElem?_pos s i h, get!_at s i h]; rfl
theorem Ev.byte {β : Type} {s : ByteArray} {i : Nat} {F : Nat → Int → Option β} {r : β} (h : i < s.size) (k : Ev (fun n => F n (by_ s i : Int)) r) : Ev (fun n => (bAt s (i : Int)).bind (F n)) r := Ev.bind (Ev.opt (bAt_by s i h)) k
def Enc (s : ByteArray) (pos : Nat) (r n : Nat) : Prop := pos + n ≤ s.size ∧
 ((n = 1 ∧ r < 128 ∧ by_ s pos = r) ∨
  (n = 2 ∧ 128 ≤ r ∧ r < 2048 ∧ by_ s pos = 192 + r / 64 ∧ by_ s (pos + 1) = 128 + r % 64) ∨
  (n = 3 ∧ 2048 ≤ r ∧ r < 65536 ∧ (r < 55296 ∨ 57343 < r) ∧ by_ s pos = 224 + r / 4096 ∧ by_ s (pos + 1) = 128 + r / 64 % 64 ∧ by_ s (pos + 2) = 128 + r % 64) ∨
  (n = 4 ∧ 65536 ≤ r ∧ r ≤ 1114111 ∧ by_ s pos = 240 + r / 262144 ∧ by_ s (pos + 1) = 128 + r / 4096 % 64 ∧ by_ s (pos + 2) = 128 + r / 64 % 64 ∧ by_ s (pos + 3) = 128 + r % 64))
theorem decode_enc {s : ByteArray} {pos r n : Nat} (h : Enc s pos r n) : Utf8.decode s pos = (r, n) := by
 obtain ⟨hs, h⟩ := h
 have e0 : (s.get! (pos + 0)).toNat = by_ s pos := rfl
 have e1 : (s.get! (pos + 1)).toNat = by_ s (pos + 1) := rfl
 have e2 : (s.get! (pos + 2)).toNat = by_ s (pos + 2) := rfl
 have e3 : (s.get! (pos + 3)).toNat = by_ s (pos + 3) := rfl
 simp only [Utf8.decode, e0, e1, e2, e3]
 generalize by_ s pos = b0 at *
 generalize by_ s (pos + 1) = b1 at *
 generalize by_ s (pos + 2) = b2 at *
 generalize by_ s (pos + 3) = b3 at *
 have cont : ∀ {k b : Nat}, pos + k < s.size → b / 64 = 2 → (decide (pos + k < s.size) && (b / 64 == 2)) = true := fun h1 h2 => by simp [h1, h2]
 rcases h with ⟨rfl, h1, h2⟩ | ⟨rfl, h1, h2, h3, h4⟩ | ⟨rfl, h1, h2, h3, h4, h5, h6⟩ | ⟨rfl, h1, h2, h3, h4, h5, h6⟩
 · rw [if_pos (by omega), h2]
 · rw [if_neg (by omega), if_pos (by rw [cont (by omega) (by omega)]; simp; omega), if_pos (by omega)]
   rw [show b0 % 32 * 64 + b1 % 64 = r by omega]
 · have hv : Utf8.valid ((r : Nat) : Int) = true := by simp [Utf8.valid]; omega
   have er : b0 % 16 * 4096 + b1 % 64 * 64 + b2 % 64 = r := by omega
   rw [if_neg (by omega), if_neg (by simp; omega), if_pos (by rw [cont (by omega) (by omega), cont (by omega) (by omega)]; simp; omega), er, if_pos (by rw [hv]; simp; omega)]
 · have hv : Utf8.valid ((r : Nat) : Int) = true := by simp [Utf8.valid]; omega
   have er : b0 % 8 * 262144 + b1 % 64 * 4096 + b2 % 64 * 64 + b3 % 64 = r := by omega
   rw [if_neg (by omega), if_neg (by simp; omega), if_neg (by simp; omega), if_pos (by rw [cont (by omega) (by omega), cont (by omega) (by omega), cont (by omega) (by omega)]; simp; omega), er, if_pos (by rw [hv]; simp; omega)]
theorem Enc.pos1 {s : ByteArray} {pos r n : Nat} (h : Enc s pos r n) : 1 ≤ n ∧ n ≤ 4 ∧ r ≤ 1114111 := by
 obtain ⟨_, h⟩ := h; omega
theorem Enc.uniq {s : ByteArray} {pos r n r' n' : Nat} (h : Enc s pos r n) (k : Enc s pos r' n') : r = r' ∧ n = n' := by
 have := (decode_enc h).symm.trans (decode_enc k)
 injection this with a b
 exact ⟨a, b⟩
def runeL (r : Nat) : List Int := if 1114111 < r ∨ (55296 ≤ r ∧ r ≤ 57343) then [] else if r < 128 then [(r : Int)] else if r < 2048 then [((192 + r / 64 : Nat) : Int), ((128 + r % 64 : Nat) : Int)] else if r < 65536 then [((224 + r / 4096 : Nat) : Int), ((128 + r / 64 % 64 : Nat) : Int), ((128 + r % 64 : Nat) : Int)] else [((240 + r / 262144 : Nat) : Int), ((128 + r / 4096 % 64 : Nat) : Int), ((128 + r / 64 % 64 : Nat) : Int), ((128 + r % 64 : Nat) : Int)]
theorem Bytes_ev (r : Nat) : Ev (fun k => regletref02_Bytes.f k (r : Int)) (runeL r) := by
 have is : Ev (fun k => regletref02_IsRune.f k (r : Int)) (!decide (1114111 < r ∨ (55296 ≤ r ∧ r ≤ 57343))) := by
  refine Ev.dp (by omega) (Ev.dc (fun h => Ev.dc (fun h1 => Ev.some_ ?_) (fun h1 => Ev.some_ ?_)) (fun h => Ev.some_ ?_))
  · rw [decide_eq_false (by omega)]; rfl
  · by_cases q : 57343 < r
    · rw [decide_eq_false (show ¬ (1114111 < r ∨ (55296 ≤ r ∧ r ≤ 57343)) by omega)]
      exact decide_eq_true (by omega)
    · rw [decide_eq_true (show (1114111 < r ∨ (55296 ≤ r ∧ r ≤ 57343)) by omega)]
      exact decide_eq_false (by omega)
  · rw [decide_eq_true (by omega)]; rfl
 unfold runeL
 refine Ev.bind is ?_
 by_cases q : 1114111 < r ∨ (55296 ≤ r ∧ r ≤ 57343)
 · rw [if_pos q, decide_eq_true q]
   exact Ev.bp rfl (Ev.now _)
 · rw [if_neg q, decide_eq_false q]
   refine Ev.bn rfl ?_
   have d : ∀ c : Nat, 0 < c → wrap64 ((r : Int).tdiv (c : Int)) = ((r / c : Nat) : Int) := fun c hc => by
    have b : r / c ≤ r := Nat.div_le_self _ _
    have e : (r : Int).tdiv (c : Int) = ((r / c : Nat) : Int) := by rw [Int.tdiv_eq_ediv_of_nonneg (by omega)]; rfl
    rw [e]
    clear e
    generalize r / c = q at *
    exact w64 (by omega) (by omega)
   have m : ∀ x : Nat, (x : Int).tmod 64 = ((x % 64 : Nat) : Int) := fun x => by rw [Int.tmod_eq_emod_of_nonneg (by omega)]; rfl
   have a : ∀ (c x : Nat), c < 1000 → x < 2000000 → wrap64 ((c : Int) + (x : Int)) = ((c + x : Nat) : Int) := fun c x h0 h1 => by rw [w64 (by omega) (by omega)]; omega
   have d1 := d 64 (by omega)
   have d2 := d 4096 (by omega)
   have d3 := d 262144 (by omega)
   have b1 : r / 64 ≤ r := Nat.div_le_self _ _
   have b2 : r / 4096 ≤ r := Nat.div_le_self _ _
   have b3 : r / 262144 ≤ r := Nat.div_le_self _ _
   have l1 : r % 64 < 64 := Nat.mod_lt _ (by omega)
   have l2 : r / 64 % 64 < 64 := Nat.mod_lt _ (by omega)
   have l3 : r / 4096 % 64 < 64 := Nat.mod_lt _ (by omega)
   refine Ev.dc (fun h => Ev.some_ ?_) (fun h => Ev.dc (fun h1 => Ev.some_ ?_) (fun h1 => Ev.dc (fun h2 => Ev.some_ ?_) (fun h2 => Ev.some_ ?_)))
   · clear d d1 d2 d3 a; rw [if_pos (by omega)]
   · have e1 := a 192 (r / 64) (by omega) (by clear d d1 d2 d3 a; omega)
     have e2 := a 128 (r % 64) (by omega) (by clear d d1 d2 d3 a e1; omega)
     rw [if_neg (by clear d d1 d2 d3 a e1 e2; omega), if_pos (by clear d d1 d2 d3 a e1 e2; omega), show (64 : Int) = ((64 : Nat) : Int) from rfl, d1, ← e1, ← e2, ← m]
     rfl
   · have e1 := a 224 (r / 4096) (by omega) (by clear d d1 d2 d3 a; omega)
     have e2 := a 128 (r / 64 % 64) (by omega) (by clear d d1 d2 d3 a e1; omega)
     have e3 := a 128 (r % 64) (by omega) (by clear d d1 d2 d3 a e1 e2; omega)
     rw [if_neg (by clear d d1 d2 d3 a e1 e2 e3; omega), if_neg (by clear d d1 d2 d3 a e1 e2 e3; omega), if_pos (by clear d d1 d2 d3 a e1 e2 e3; omega), ← e1, ← e2, ← e3, ← m, ← m, ← d1, ← d2]
     rfl
   · have e1 := a 240 (r / 262144) (by omega) (by clear d d1 d2 d3 a; omega)
     have e2 := a 128 (r / 4096 % 64) (by omega) (by clear d d1 d2 d3 a e1; omega)
     have e3 := a 128 (r / 64 % 64) (by omega) (by clear d d1 d2 d3 a e1 e2; omega)
     have e4 := a 128 (r % 64) (by omega) (by clear d d1 d2 d3 a e1 e2 e3; omega)
     rw [if_neg (by clear d d1 d2 d3 a e1 e2 e3 e4; omega), if_neg (by clear d d1 d2 d3 a e1 e2 e3 e4; omega), if_neg (by clear d d1 d2 d3 a e1 e2 e3 e4; omega), ← e1, ← e2, ← e3, ← e4, ← m, ← m, ← m, ← d1, ← d2, ← d3]
     rfl
end Go.Proofs.YtjbobaeggdafpaaGreat.Vm
