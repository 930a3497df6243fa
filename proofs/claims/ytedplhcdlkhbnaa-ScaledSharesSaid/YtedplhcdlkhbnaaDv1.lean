/- How many digits a word has, in twos. -/
import Derived.Test.YtedplhcdlkhbnaaPx20
import Derived.Test.YtedplhcdlkhbnaaSc4
import Derived.Laws.Bits64b
namespace Go.Proofs.Ytedplhcdlkhbnaa.P
open Go.RowKit Go.Proofs.YtedplhcdlkhbnaaW.PrintWords Go.Proofs.YtedplhcdlkhbnaaW.PrintLast Go.Proofs.YtedplhcdlkhbnaaW.PrintMore

set_option maxRecDepth 10000
def tabb : ByteArray := (⟨#[0, 1, 2, 2, 3, 3, 3, 3, 4, 4, 4, 4, 4, 4, 4, 4, 5, 5, 5, 5, 5, 5, 5, 5, 5, 5, 5, 5, 5, 5, 5, 5, 6, 6, 6, 6, 6, 6, 6, 6, 6, 6, 6, 6, 6, 6, 6, 6, 6, 6, 6, 6, 6, 6, 6, 6, 6, 6, 6, 6, 6, 6, 6, 6, 7, 7, 7, 7, 7, 7, 7, 7, 7, 7, 7, 7, 7, 7, 7, 7, 7, 7, 7, 7, 7, 7, 7, 7, 7, 7, 7, 7, 7, 7, 7, 7, 7, 7, 7, 7, 7, 7, 7, 7, 7, 7, 7, 7, 7, 7, 7, 7, 7, 7, 7, 7, 7, 7, 7, 7, 7, 7, 7, 7, 7, 7, 7, 7, 8, 8, 8, 8, 8, 8, 8, 8, 8, 8, 8, 8, 8, 8, 8, 8, 8, 8, 8, 8, 8, 8, 8, 8, 8, 8, 8, 8, 8, 8, 8, 8, 8, 8, 8, 8, 8, 8, 8, 8, 8, 8, 8, 8, 8, 8, 8, 8, 8, 8, 8, 8, 8, 8, 8, 8, 8, 8, 8, 8, 8, 8, 8, 8, 8, 8, 8, 8, 8, 8, 8, 8, 8, 8, 8, 8, 8, 8, 8, 8, 8, 8, 8, 8, 8, 8, 8, 8, 8, 8, 8, 8, 8, 8, 8, 8, 8, 8, 8, 8, 8, 8, 8, 8, 8, 8, 8, 8, 8, 8, 8, 8, 8, 8, 8, 8, 8, 8, 8, 8, 8, 8, 8, 8, 8, 8, 8, 8]⟩ : ByteArray)
/-- n digits are just enough -/
structure Digs (x : Int) (n : Nat) : Prop where
  lt : x < 2 ^ n
  ge : 0 < x → 2 ^ n ≤ 2 * x
  nil : x = 0 → n = 0
theorem digs_up {x : Int} {n : Nat} (m : Nat) (h : Digs (x / 2 ^ m) n) (hx : 0 < x / 2 ^ m) : Digs x (n + m) := by
  have hp : (0 : Int) < 2 ^ m := Int.pow_pos (by omega)
  refine ⟨?_, fun _ => ?_, fun e => ?_⟩
  · rw [Int.pow_add]
    exact (Int.ediv_lt_iff_lt_mul hp).1 h.lt
  · have := h.ge hx
    have a : 2 ^ n * 2 ^ m ≤ (2 * (x / 2 ^ m)) * 2 ^ m := Int.mul_le_mul_of_nonneg_right this (by omega)
    have b : x / 2 ^ m * 2 ^ m ≤ x := Int.ediv_mul_le x (by omega)
    rw [Int.mul_assoc] at a
    rw [Int.pow_add]; omega
  · subst e
    rw [Int.zero_ediv] at hx; omega
def tabOk (i : Nat) : Bool := decide ((i : Int) < 2 ^ (bt tabb (i : Int)).toNat) && (decide (i = 0) || decide ((2 : Int) ^ (bt tabb (i : Int)).toNat ≤ 2 * (i : Int))) && (decide (i ≠ 0) || decide (bt tabb (i : Int) = 0)) && decide (0 ≤ bt tabb (i : Int)) && decide (bt tabb (i : Int) ≤ 8)
theorem tab_all : (List.range 256).all tabOk = true := by kernel_rfl
theorem tab_at {i : Int} (h0 : 0 ≤ i) (h1 : i < 256) : ∃ n : Nat, n ≤ 8 ∧ bt tabb i = n ∧ Digs i n := by
  have h := List.all_eq_true.1 tab_all i.toNat (List.mem_range.2 (by omega))
  have e : (i.toNat : Int) = i := Int.toNat_of_nonneg h0
  unfold tabOk at h
  rw [e] at h
  simp only [Bool.and_eq_true, Bool.or_eq_true, decide_eq_true_eq] at h
  obtain ⟨⟨⟨⟨a, b⟩, c⟩, d⟩, f⟩ := h
  refine ⟨(bt tabb i).toNat, by omega, by omega, a, fun p => ?_, fun p => ?_⟩
  · rcases b with b | b
    · omega
    · exact b
  · rcases c with c | c
    · omega
    · omega
theorem len_j0 {x : Int} (h0 : 0 ≤ x) (h1 : x < 4294967296) (c : Nat) (hc : c ≤ 32) : ∃ n : Nat, n ≤ 32 ∧ Digs x n ∧ Ev (fun k => bits_Len64.j0 k x (c : Int)) ((n + c : Nat) : Int) := by
  by_cases a : x ≥ 65536
  · by_cases b : x / 65536 ≥ 256
    · obtain ⟨n, hn, e, d⟩ := tab_at (i := ((x / 65536) / 256) % 256) (by omega) (by omega)
      have ei : ((x / 65536) / 256) % 256 = x / 2 ^ 24 := by omega
      refine ⟨n + 24, by omega, digs_up 24 (ei ▸ d) (by omega), bits_Len64.j0.ev (Ev.ifp a (Ev.ifp b (Ev.ifp (by omega) (Ev.ifp (by omega) (Ev.some_ ?_)))))⟩
      delta tabb at e
      rw [e, w64 (x := (c : Int) + 16) (by omega) (by omega), w64 (x := (c : Int) + 16 + 8) (by omega) (by omega), w64 (x := (n : Int)) (by omega) (by omega), w64 (by omega) (by omega)]
      omega
    · obtain ⟨n, hn, e, d⟩ := tab_at (i := (x / 65536) % 256) (by omega) (by omega)
      have ei : (x / 65536) % 256 = x / 2 ^ 16 := by omega
      refine ⟨n + 16, by omega, digs_up 16 (ei ▸ d) (by omega), bits_Len64.j0.ev (Ev.ifp a (Ev.ifn b (Ev.ifp (by omega) (Ev.ifp (by omega) (Ev.some_ ?_)))))⟩
      delta tabb at e
      rw [e, w64 (x := (c : Int) + 16) (by omega) (by omega), w64 (x := (n : Int)) (by omega) (by omega), w64 (by omega) (by omega)]
      omega
  · by_cases b : x ≥ 256
    · obtain ⟨n, hn, e, d⟩ := tab_at (i := (x / 256) % 256) (by omega) (by omega)
      have ei : (x / 256) % 256 = x / 2 ^ 8 := by omega
      refine ⟨n + 8, by omega, digs_up 8 (ei ▸ d) (by omega), bits_Len64.j0.ev (Ev.ifn a (Ev.ifp b (Ev.ifp (by omega) (Ev.ifp (by omega) (Ev.some_ ?_)))))⟩
      delta tabb at e
      rw [e, w64 (x := (c : Int) + 8) (by omega) (by omega), w64 (x := (n : Int)) (by omega) (by omega), w64 (by omega) (by omega)]
      omega
    · obtain ⟨n, hn, e, d⟩ := tab_at (i := x % 256) (by omega) (by omega)
      have ei : x % 256 = x := by omega
      refine ⟨n, by omega, ei ▸ d, bits_Len64.j0.ev (Ev.ifn a (Ev.ifn b (Ev.ifp (by omega) (Ev.ifp (by omega) (Ev.some_ ?_)))))⟩
      delta tabb at e
      rw [e, w64 (x := (n : Int)) (by omega) (by omega), w64 (by omega) (by omega)]
      omega
theorem len64_ev {x : Int} (h0 : 0 ≤ x) (h1 : x < 18446744073709551616) : ∃ n : Nat, n ≤ 64 ∧ Digs x n ∧ Ev (fun k => bits_Len64.f k x) (n : Int) := by
  by_cases a : x ≥ 4294967296
  · obtain ⟨n, hn, d, e⟩ := len_j0 (x := x / 4294967296) (by omega) (by omega) 32 (by omega)
    exact ⟨n + 32, by omega, digs_up 32 d (by omega), Ev.ifp a e⟩
  · obtain ⟨n, hn, d, e⟩ := len_j0 (x := x) (by omega) (by omega) 0 (by omega)
    exact ⟨n, by omega, d, Ev.ifn a e⟩
theorem zeros_ev {y : Int} (h0 : 0 < y) (h1 : y < 18446744073709551616) : ∃ s : Nat, s ≤ 63 ∧ 9223372036854775808 ≤ y * 2 ^ s ∧ y * 2 ^ s < 18446744073709551616 ∧ Ev (fun k => bits_LeadingZeros64.f k y) (s : Int) := by
  obtain ⟨n, hn, d, e⟩ := len64_ev (x := y) (by omega) h1
  have n0 : 1 ≤ n := by
    apply Nat.one_le_iff_ne_zero.2
    rintro rfl
    have := d.lt
    omega
  have hp : (0 : Int) < 2 ^ (64 - n) := Int.pow_pos (by omega)
  have hs : (2 : Int) ^ n * 2 ^ (64 - n) = 18446744073709551616 := by rw [← Int.pow_add, show n + (64 - n) = 64 by omega]; rfl
  refine ⟨64 - n, by omega, ?_, ?_, Ev.bind e (Ev.some_ ?_)⟩
  · have := Int.mul_le_mul_of_nonneg_right (d.ge h0) (show 0 ≤ (2 : Int) ^ (64 - n) by omega)
    rw [hs, Int.mul_assoc] at this; omega
  · have := Int.mul_lt_mul_of_pos_right d.lt hp
    rw [hs] at this; exact this
  · rw [w64 (by omega) (by omega)]; omega
end Go.Proofs.Ytedplhcdlkhbnaa.P
