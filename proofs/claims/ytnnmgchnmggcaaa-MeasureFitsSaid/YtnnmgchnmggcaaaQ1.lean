-- PRINTED by vq.py. Not trusted: Lean checks it.
import Derived.Test.YtnnmgchnmggcaaaQ0
namespace Go.Proofs.Ytnnmgchnmggcaaa.Vm
open Go
open _root_.Go.RowKit (wrap64)
set_option maxRecDepth 100000
set_option linter.unusedVariables false
/-! reglet/scaled.Clamp -/
def scaled_Clamp.f (k : Nat) (a0 : Int) : Option Int := some (if (-1152921504606846976) < (if a0 < 1152921504606846976 then a0 else 1152921504606846976) then (if a0 < 1152921504606846976 then a0 else 1152921504606846976) else (-1152921504606846976))
def scaled_Clamp.sig (k : Nat) : Sig := .p [(false, (.i .i64))] [.c false (.i .i64)] fun x => scaled_Clamp.f k x.1
def scaled_Clamp.E (k : Nat) : List (Nat × Sig) := []
def scaled_Clamp.G (P : Program) : GI := ⟨P, TT, 6, 6, [], [], [], [], [], AD⟩
def scaled_Clamp.H : H := .n
def scaled_Clamp.O (k : Nat) : List (Orc (denR [.c false (.i .i64)])) := []
theorem scaled_Clamp.go : goesTo Try.prog 32 := ⟨_, Try.func32, by kernel_rfl, rfl⟩
theorem scaled_Clamp.ok (k : Nat) : SigOk Try.prog 32 (scaled_Clamp.sig k) :=
  fn_p (G := scaled_Clamp.G Try.prog) (c := cd Try.f32) (rs := [.tmp 2]) (args := [(false, (.i .i64))]) (l := [.c false (.i .i64)]) (fn := Try.f32) ⟨Try.func32, by kernel_rfl, by kernel_rfl, by kernel_rfl, le_of rfl, le_of rfl, TT_ok, AD_ok⟩ rfl scaled_Clamp.E (fun k p hp => nomatch hp)
    (fun k i => (scaled_Clamp.O k)[i]?) scaled_Clamp.H (fun k x => scaled_Clamp.f k x.1)
    (fun id o y h => by cases id <;> cases h)
    (fun k p hp => by rw [show pts (cd Try.f32) scaled_Clamp.H = [] by kernel_rfl] at hp; nomatch hp)
    (fun k x => by kernel_rfl) k
/-! math/bits.Mul64 -/
def bits_Mul64.f (k : Nat) (a0 : Int) (a1 : Int) : Option (Int × Int) := some (IntKind.u64.wrap ((IntKind.u64.wrap ((IntKind.u64.wrap ((shrI .u64 a0 (32 : Int)) * (shrI .u64 a1 (32 : Int)))) + (shrI .u64 (IntKind.u64.wrap ((IntKind.u64.wrap ((shrI .u64 a0 (32 : Int)) * (andI .u64 a1 (4294967295 : Int)))) + (shrI .u64 (IntKind.u64.wrap ((andI .u64 a0 (4294967295 : Int)) * (andI .u64 a1 (4294967295 : Int)))) (32 : Int)))) (32 : Int)))) + (shrI .u64 (IntKind.u64.wrap ((andI .u64 (IntKind.u64.wrap ((IntKind.u64.wrap ((shrI .u64 a0 (32 : Int)) * (andI .u64 a1 (4294967295 : Int)))) + (shrI .u64 (IntKind.u64.wrap ((andI .u64 a0 (4294967295 : Int)) * (andI .u64 a1 (4294967295 : Int)))) (32 : Int)))) (4294967295 : Int)) + (IntKind.u64.wrap ((andI .u64 a0 (4294967295 : Int)) * (shrI .u64 a1 (32 : Int)))))) (32 : Int))), IntKind.u64.wrap (a0 * a1))
def bits_Mul64.sig (k : Nat) : Sig := .p [(false, (.i .u64)), (false, (.i .u64))] [.c false (.i .u64), .c false (.i .u64)] fun x => bits_Mul64.f k x.1 x.2.1
def bits_Mul64.E (k : Nat) : List (Nat × Sig) := []
def bits_Mul64.G (P : Program) : GI := ⟨P, TT, 51, 51, [], [], [], [], [], AD⟩
def bits_Mul64.H : H := .n
def bits_Mul64.O (k : Nat) : List (Orc (denR [.c false (.i .u64), .c false (.i .u64)])) := []
theorem bits_Mul64.go : goesTo Try.prog 44 := ⟨_, Try.func44, by kernel_rfl, rfl⟩
theorem bits_Mul64.ok (k : Nat) : SigOk Try.prog 44 (bits_Mul64.sig k) :=
  fn_p (G := bits_Mul64.G Try.prog) (c := cd Try.f44) (rs := [.tmp 4, .tmp 5]) (args := [(false, (.i .u64)), (false, (.i .u64))]) (l := [.c false (.i .u64), .c false (.i .u64)]) (fn := Try.f44) ⟨Try.func44, by kernel_rfl, by kernel_rfl, by kernel_rfl, le_of rfl, le_of rfl, TT_ok, AD_ok⟩ rfl bits_Mul64.E (fun k p hp => nomatch hp)
    (fun k i => (bits_Mul64.O k)[i]?) bits_Mul64.H (fun k x => bits_Mul64.f k x.1 x.2.1)
    (fun id o y h => by cases id <;> cases h)
    (fun k p hp => by rw [show pts (cd Try.f44) bits_Mul64.H = [] by kernel_rfl] at hp; nomatch hp)
    (fun k x => by kernel_rfl) k
/-! reglet/scaled.product -/
def scaled_product.f (k : Nat) (a0 : Int) (a1 : Int) : Option measure_Sum := (bits_Mul64.f k a0 a1).bind fun r => some (r.2, r.1, 0, 0)
def scaled_product.sig (k : Nat) : Sig := .p [(false, (.i .u64)), (false, (.i .u64))] [.c true y2] fun x => scaled_product.f k x.1 x.2.1
def scaled_product.E (k : Nat) : List (Nat × Sig) := [(44, bits_Mul64.sig k)]
def scaled_product.G (P : Program) : GI := ⟨P, TT, 16, 20, [(4, 16, 4)], [], [], [], [], AD⟩
def scaled_product.H : H := .n
def scaled_product.O (k : Nat) : List (Orc (denR [.c true y2])) := []
theorem scaled_product.go : goesTo Try.prog 33 := ⟨_, Try.func33, by kernel_rfl, rfl⟩
theorem scaled_product.ok (k : Nat) : SigOk Try.prog 33 (scaled_product.sig k) :=
  fn_p (G := scaled_product.G Try.prog) (c := cd Try.f33) (rs := [.cell 4 68]) (args := [(false, (.i .u64)), (false, (.i .u64))]) (l := [.c true y2]) (fn := Try.f33) ⟨Try.func33, by kernel_rfl, by kernel_rfl, by kernel_rfl, le_of rfl, le_of rfl, TT_ok, AD_ok⟩ rfl scaled_product.E (fun k p hp => by
    simp only [scaled_product.E, List.mem_cons, List.not_mem_nil, or_false] at hp
    rcases hp with rfl
    · exact ⟨bits_Mul64.ok k, bits_Mul64.go⟩)
    (fun k i => (scaled_product.O k)[i]?) scaled_product.H (fun k x => scaled_product.f k x.1 x.2.1)
    (fun id o y h => by cases id <;> cases h)
    (fun k p hp => by rw [show pts (cd Try.f33) scaled_product.H = [] by kernel_rfl] at hp; nomatch hp)
    (fun k x => by kernel_rfl) k
/-! (reglet/scaled.wide).times -/
mutual
def scaled_wide_times.l0 : Nat → Int → Int → measure_Sum → Int → measure_Sum → measure_Sum → Option measure_Sum
  | 0, _, _, _, _, _, _ => none
  | k + 1, by_, carry, t, t2, t3, out => if (decide (t2 < 4)) = true then ((at? ([t.1, t.2.1, t.2.2.1, t.2.2.2] : List Int) t2).bind fun e => (bits_Mul64.f k e by_).bind fun r => if 0 ≤ r.2 ∧ 0 ≤ carry ∧ 0 ≤ (0 : Int) ∧ (0 : Int) ≤ 1 then (if 0 ≤ t2 ∧ t2 < (4 : Int) then (if t2.toNat < 4 then (scaled_wide_times.l0 k by_ (IntKind.u64.wrap (r.1 + ((r.2 + carry + (0 : Int)) / 18446744073709551616))) t (wrap64 (t2 + 1)) t3 ((if t2.toNat = 0 then ((r.2 + carry + (0 : Int)) % 18446744073709551616) else out.1), (if t2.toNat = 1 then ((r.2 + carry + (0 : Int)) % 18446744073709551616) else out.2.1), (if t2.toNat = 2 then ((r.2 + carry + (0 : Int)) % 18446744073709551616) else out.2.2.1), (if t2.toNat = 3 then ((r.2 + carry + (0 : Int)) % 18446744073709551616) else out.2.2.2))) else none) else none) else none) else (some out)
end
def scaled_wide_times.f (k : Nat) (a0 : measure_Sum) (a1 : Int) : Option measure_Sum := scaled_wide_times.l0 k a1 0 a0 0 (0, 0, 0, 0) (0, 0, 0, 0)
def scaled_wide_times.sig (k : Nat) : Sig := .p [(true, y2), (false, (.i .u64))] [.c true y2] fun x => scaled_wide_times.f k x.1 x.2.1
def scaled_wide_times.E (k : Nat) : List (Nat × Sig) := [(44, bits_Mul64.sig k)]
def scaled_wide_times.G (P : Program) : GI := ⟨P, TT, 38, 50, [(2, 38, 4), (4, 42, 4), (5, 46, 4)], [], [], [], [], AD⟩
def scaled_wide_times.H : H := .s .n (.s .n (.s .n (.s (.s .n (.s (.l 0 .n) .n)) .n)))
abbrev scaled_wide_times.l0_s : Sh := [(1, .v (.i .u64)), (4, .at_ 42), (5, .at_ 46), (6, .v (.i .u64)), (13, .agg y2), (14, .v (.i .i64)), (42, .box y2), (46, .box y2)]
def scaled_wide_times.O (k : Nat) : List (Orc (denR [.c true y2])) := [⟨scaled_wide_times.l0_s, fun y => scaled_wide_times.l0 k y.1 y.2.2.2.1 y.2.2.2.2.1 y.2.2.2.2.2.1 y.2.2.2.2.2.2.1 y.2.2.2.2.2.2.2.1⟩]
theorem scaled_wide_times.l0_e (k : Nat) (y : denS scaled_wide_times.l0_s) : scaled_wide_times.l0 (k + 1) y.1 y.2.2.2.1 y.2.2.2.2.1 y.2.2.2.2.2.1 y.2.2.2.2.2.2.1 y.2.2.2.2.2.2.2.1 = evP ((scaled_wide_times.G Try.prog).at (scaled_wide_times.E k)) (fun i => (scaled_wide_times.O k)[i]?) [1, 1, 1, 0, 1, 0, 0] (cd Try.f34) scaled_wide_times.H (kFin ((scaled_wide_times.G Try.prog).at (scaled_wide_times.E k)) [.cell 4 68] [.c true y2]) (unS scaled_wide_times.l0_s y) := by rw [scaled_wide_times.l0]; kernel_rfl
theorem scaled_wide_times.go : goesTo Try.prog 34 := ⟨_, Try.func34, by kernel_rfl, rfl⟩
theorem scaled_wide_times.ok (k : Nat) : SigOk Try.prog 34 (scaled_wide_times.sig k) :=
  fn_p (G := scaled_wide_times.G Try.prog) (c := cd Try.f34) (rs := [.cell 4 68]) (args := [(true, y2), (false, (.i .u64))]) (l := [.c true y2]) (fn := Try.f34) ⟨Try.func34, by kernel_rfl, by kernel_rfl, by kernel_rfl, le_of rfl, le_of rfl, TT_ok, AD_ok⟩ rfl scaled_wide_times.E (fun k p hp => by
    simp only [scaled_wide_times.E, List.mem_cons, List.not_mem_nil, or_false] at hp
    rcases hp with rfl
    · exact ⟨bits_Mul64.ok k, bits_Mul64.go⟩)
    (fun k i => (scaled_wide_times.O k)[i]?) scaled_wide_times.H (fun k x => scaled_wide_times.f k x.1 x.2.1)
    (fun id o y h => by
    have h' := List.mem_of_getElem? h
    simp only [scaled_wide_times.O, List.mem_cons, List.not_mem_nil, or_false] at h'
    rcases h' with rfl <;> rfl)
    (fun k p hp => by
    rw [show pts (cd Try.f34) scaled_wide_times.H = [(0, [1, 1, 1, 0, 1, 0, 0])] by kernel_rfl] at hp
    simp only [List.mem_cons, List.not_mem_nil, or_false] at hp
    rcases hp with rfl
    · exact ptOk_of rfl (scaled_wide_times.l0_e k))
    (fun k x => by kernel_rfl) k
/-! reglet/scaled.smaller -/
mutual
def scaled_smaller.l0 : Nat → Int → measure_Sum → measure_Sum → Option Bool
  | 0, _, _, _ => none
  | k + 1, i, a, b => if (decide (0 ≤ i)) = true then (if 0 ≤ i ∧ i < (4 : Int) then ((([a.1, a.2.1, a.2.2.1, a.2.2.2] : List Int)[i.toNat]?).bind fun e => if 0 ≤ i ∧ i < (4 : Int) then ((([b.1, b.2.1, b.2.2.1, b.2.2.2] : List Int)[i.toNat]?).bind fun e2 => if (!decide (e = e2)) = true then (if 0 ≤ i ∧ i < (4 : Int) then ((([a.1, a.2.1, a.2.2.1, a.2.2.2] : List Int)[i.toNat]?).bind fun e3 => if 0 ≤ i ∧ i < (4 : Int) then ((([b.1, b.2.1, b.2.2.1, b.2.2.2] : List Int)[i.toNat]?).bind fun e4 => some (decide (e3 < e4))) else none) else none) else (scaled_smaller.l0 k (wrap64 (i - 1)) a b)) else none) else none) else (some false)
end
def scaled_smaller.f (k : Nat) (a0 : measure_Sum) (a1 : measure_Sum) : Option Bool := scaled_smaller.l0 k 3 a0 a1
def scaled_smaller.sig (k : Nat) : Sig := .p [(true, y2), (true, y2)] [.c false .b] fun x => scaled_smaller.f k x.1 x.2.1
def scaled_smaller.E (k : Nat) : List (Nat × Sig) := []
def scaled_smaller.G (P : Program) : GI := ⟨P, TT, 24, 32, [(2, 24, 4), (3, 28, 4)], [], [], [], [], AD⟩
def scaled_smaller.H : H := .s .n (.s (.s .n (.s (.l 0 .n) .n)) .n)
abbrev scaled_smaller.l0_s : Sh := [(2, .at_ 24), (3, .at_ 28), (5, .v (.i .i64)), (24, .box y2), (28, .box y2)]
def scaled_smaller.O (k : Nat) : List (Orc (denR [.c false .b])) := [⟨scaled_smaller.l0_s, fun y => scaled_smaller.l0 k y.2.2.1 y.2.2.2.1 y.2.2.2.2.1⟩]
theorem scaled_smaller.l0_e (k : Nat) (y : denS scaled_smaller.l0_s) : scaled_smaller.l0 (k + 1) y.2.2.1 y.2.2.2.1 y.2.2.2.2.1 = evP ((scaled_smaller.G Try.prog).at (scaled_smaller.E k)) (fun i => (scaled_smaller.O k)[i]?) [1, 0, 1, 0, 0] (cd Try.f35) scaled_smaller.H (kFin ((scaled_smaller.G Try.prog).at (scaled_smaller.E k)) [.tmp 4] [.c false .b]) (unS scaled_smaller.l0_s y) := by rw [scaled_smaller.l0]; kernel_rfl
theorem scaled_smaller.go : goesTo Try.prog 35 := ⟨_, Try.func35, by kernel_rfl, rfl⟩
theorem scaled_smaller.ok (k : Nat) : SigOk Try.prog 35 (scaled_smaller.sig k) :=
  fn_p (G := scaled_smaller.G Try.prog) (c := cd Try.f35) (rs := [.tmp 4]) (args := [(true, y2), (true, y2)]) (l := [.c false .b]) (fn := Try.f35) ⟨Try.func35, by kernel_rfl, by kernel_rfl, by kernel_rfl, le_of rfl, le_of rfl, TT_ok, AD_ok⟩ rfl scaled_smaller.E (fun k p hp => nomatch hp)
    (fun k i => (scaled_smaller.O k)[i]?) scaled_smaller.H (fun k x => scaled_smaller.f k x.1 x.2.1)
    (fun id o y h => by
    have h' := List.mem_of_getElem? h
    simp only [scaled_smaller.O, List.mem_cons, List.not_mem_nil, or_false] at h'
    rcases h' with rfl <;> rfl)
    (fun k p hp => by
    rw [show pts (cd Try.f35) scaled_smaller.H = [(0, [1, 0, 1, 0, 0])] by kernel_rfl] at hp
    simp only [List.mem_cons, List.not_mem_nil, or_false] at hp
    rcases hp with rfl
    · exact ptOk_of rfl (scaled_smaller.l0_e k))
    (fun k x => by kernel_rfl) k
/-! reglet/scaled.Bad -/
mutual
def scaled_Bad.j0 : Nat → Int → Int → Option Int
  | 0, _, _ => none
  | k + 1, t, s => (scaled_product.f k (IntKind.u64.wrap (t)) (IntKind.u64.wrap (t))).bind fun r3 => (scaled_wide_times.f k r3 (IntKind.u64.wrap (t))).bind fun r4 => (scaled_wide_times.f k r4 100).bind fun r5 => (scaled_product.f k (IntKind.u64.wrap (s)) (IntKind.u64.wrap (s))).bind fun r6 => (scaled_wide_times.f k r6 (IntKind.u64.wrap (s))).bind fun r7 => scaled_Bad.l1 k 0 10000 r5 r7
def scaled_Bad.l1 : Nat → Int → Int → measure_Sum → measure_Sum → Option Int
  | 0, _, _, _, _ => none
  | k + 1, low, high, left, cube => if (decide (low < high)) = true then ((scaled_wide_times.f k cube (IntKind.u64.wrap (wrap64 ((wrap64 ((wrap64 (low + high)) + 1)).tdiv 2)))).bind fun r8 => (scaled_smaller.f k left r8).bind fun r9 => if r9 = true then (scaled_Bad.l1 k low (wrap64 ((wrap64 ((wrap64 ((wrap64 (low + high)) + 1)).tdiv 2)) - 1)) left cube) else (scaled_Bad.l1 k (wrap64 ((wrap64 ((wrap64 (low + high)) + 1)).tdiv 2)) high left cube)) else (some low)
end
def scaled_Bad.f (k : Nat) (a0 : Int) (a1 : Int) : Option Int := (scaled_Clamp.f k a0).bind fun r => (scaled_Clamp.f k a1).bind fun r2 => if (decide (r ≤ 0)) = true then (some 0) else (if (decide (r2 ≤ 0)) = true then (some 10000) else (if r2 ≠ 0 then (if (decide (5 ≤ (wrap64 (r.tdiv r2)))) = true then (some 10000) else (scaled_Bad.j0 k r r2)) else none))
def scaled_Bad.sig (k : Nat) : Sig := .p [(false, (.i .i64)), (false, (.i .i64))] [.c false (.i .i64)] fun x => scaled_Bad.f k x.1 x.2.1
def scaled_Bad.E (k : Nat) : List (Nat × Sig) := [(32, scaled_Clamp.sig k), (33, scaled_product.sig k), (34, scaled_wide_times.sig k), (35, scaled_smaller.sig k)]
def scaled_Bad.G (P : Program) : GI := ⟨P, TT, 59, 67, [(5, 59, 4), (6, 63, 4)], [], [], [], [], AD⟩
def scaled_Bad.H : H := .s .n (.s .n (.s .n (.j 0 .n (.s .n (.s .n (.s .n (.s (.s (.l 1 .n) .n) .n)))))))
abbrev scaled_Bad.j0_s : Sh := [(0, .v (.i .i64)), (1, .v (.i .i64))]
abbrev scaled_Bad.l1_s : Sh := [(5, .at_ 59), (6, .at_ 63), (7, .v (.i .i64)), (8, .v (.i .i64)), (59, .box y2), (63, .box y2)]
def scaled_Bad.O (k : Nat) : List (Orc (denR [.c false (.i .i64)])) := [⟨scaled_Bad.j0_s, fun y => scaled_Bad.j0 k y.1 y.2.1⟩, ⟨scaled_Bad.l1_s, fun y => scaled_Bad.l1 k y.2.2.1 y.2.2.2.1 y.2.2.2.2.1 y.2.2.2.2.2.1⟩]
theorem scaled_Bad.l1_e (k : Nat) (y : denS scaled_Bad.l1_s) : scaled_Bad.l1 (k + 1) y.2.2.1 y.2.2.2.1 y.2.2.2.2.1 y.2.2.2.2.2.1 = evP ((scaled_Bad.G Try.prog).at (scaled_Bad.E k)) (fun i => (scaled_Bad.O k)[i]?) [1, 1, 1, 1, 1, 1, 1, 0, 0, 0] (cd Try.f23) scaled_Bad.H (kFin ((scaled_Bad.G Try.prog).at (scaled_Bad.E k)) [.tmp 4] [.c false (.i .i64)]) (unS scaled_Bad.l1_s y) := by rw [scaled_Bad.l1]; kernel_rfl
theorem scaled_Bad.j0_e (k : Nat) (y : denS scaled_Bad.j0_s) : scaled_Bad.j0 (k + 1) y.1 y.2.1 = evP ((scaled_Bad.G Try.prog).at (scaled_Bad.E k)) (fun i => (scaled_Bad.O k)[i]?) [1, 1, 1, 1] (cd Try.f23) scaled_Bad.H (kFin ((scaled_Bad.G Try.prog).at (scaled_Bad.E k)) [.tmp 4] [.c false (.i .i64)]) (unS scaled_Bad.j0_s y) := by rw [scaled_Bad.j0]; kernel_rfl
theorem scaled_Bad.go : goesTo Try.prog 23 := ⟨_, Try.func23, by kernel_rfl, rfl⟩
theorem scaled_Bad.ok (k : Nat) : SigOk Try.prog 23 (scaled_Bad.sig k) :=
  fn_p (G := scaled_Bad.G Try.prog) (c := cd Try.f23) (rs := [.tmp 4]) (args := [(false, (.i .i64)), (false, (.i .i64))]) (l := [.c false (.i .i64)]) (fn := Try.f23) ⟨Try.func23, by kernel_rfl, by kernel_rfl, by kernel_rfl, le_of rfl, le_of rfl, TT_ok, AD_ok⟩ rfl scaled_Bad.E (fun k p hp => by
    simp only [scaled_Bad.E, List.mem_cons, List.not_mem_nil, or_false] at hp
    rcases hp with rfl | rfl | rfl | rfl
    · exact ⟨scaled_Clamp.ok k, scaled_Clamp.go⟩
    · exact ⟨scaled_product.ok k, scaled_product.go⟩
    · exact ⟨scaled_wide_times.ok k, scaled_wide_times.go⟩
    · exact ⟨scaled_smaller.ok k, scaled_smaller.go⟩)
    (fun k i => (scaled_Bad.O k)[i]?) scaled_Bad.H (fun k x => scaled_Bad.f k x.1 x.2.1)
    (fun id o y h => by
    have h' := List.mem_of_getElem? h
    simp only [scaled_Bad.O, List.mem_cons, List.not_mem_nil, or_false] at h'
    rcases h' with rfl | rfl <;> rfl)
    (fun k p hp => by
    rw [show pts (cd Try.f23) scaled_Bad.H = [(1, [1, 1, 1, 1, 1, 1, 1, 0, 0, 0]), (0, [1, 1, 1, 1])] by kernel_rfl] at hp
    simp only [List.mem_cons, List.not_mem_nil, or_false] at hp
    rcases hp with rfl | rfl
    · exact ptOk_of rfl (scaled_Bad.l1_e k)
    · exact ptOk_of rfl (scaled_Bad.j0_e k))
    (fun k x => by kernel_rfl) k
/-! reglet/scaled.size -/
def scaled_size.f (k : Nat) (a0 : Int) : Option Int := (scaled_Clamp.f k a0).bind fun r => if (decide (r < 0)) = true then (some (IntKind.u64.wrap (wrap64 (-r)))) else (some (IntKind.u64.wrap (r)))
def scaled_size.sig (k : Nat) : Sig := .p [(false, (.i .i64))] [.c false (.i .u64)] fun x => scaled_size.f k x.1
def scaled_size.E (k : Nat) : List (Nat × Sig) := [(32, scaled_Clamp.sig k)]
def scaled_size.G (P : Program) : GI := ⟨P, TT, 12, 12, [], [], [], [], [], AD⟩
def scaled_size.H : H := .n
def scaled_size.O (k : Nat) : List (Orc (denR [.c false (.i .u64)])) := []
theorem scaled_size.go : goesTo Try.prog 46 := ⟨_, Try.func46, by kernel_rfl, rfl⟩
theorem scaled_size.ok (k : Nat) : SigOk Try.prog 46 (scaled_size.sig k) :=
  fn_p (G := scaled_size.G Try.prog) (c := cd Try.f46) (rs := [.tmp 2]) (args := [(false, (.i .i64))]) (l := [.c false (.i .u64)]) (fn := Try.f46) ⟨Try.func46, by kernel_rfl, by kernel_rfl, by kernel_rfl, le_of rfl, le_of rfl, TT_ok, AD_ok⟩ rfl scaled_size.E (fun k p hp => by
    simp only [scaled_size.E, List.mem_cons, List.not_mem_nil, or_false] at hp
    rcases hp with rfl
    · exact ⟨scaled_Clamp.ok k, scaled_Clamp.go⟩)
    (fun k i => (scaled_size.O k)[i]?) scaled_size.H (fun k x => scaled_size.f k x.1)
    (fun id o y h => by cases id <;> cases h)
    (fun k p hp => by rw [show pts (cd Try.f46) scaled_size.H = [] by kernel_rfl] at hp; nomatch hp)
    (fun k x => by kernel_rfl) k
/-! reglet/scaled.Gcd -/
mutual
def scaled_Gcd.l0 : Nat → Int → Int → Option Int
  | 0, _, _ => none
  | k + 1, x, y => if (decide (0 < y)) = true then (if y ≠ 0 then (scaled_Gcd.l0 k y (x.tmod y)) else none) else (some (wrap64 (x)))
end
def scaled_Gcd.f (k : Nat) (a0 : Int) (a1 : Int) : Option Int := (scaled_size.f k a0).bind fun r => (scaled_size.f k a1).bind fun r2 => scaled_Gcd.l0 k r r2
def scaled_Gcd.sig (k : Nat) : Sig := .p [(false, (.i .i64)), (false, (.i .i64))] [.c false (.i .i64)] fun x => scaled_Gcd.f k x.1 x.2.1
def scaled_Gcd.E (k : Nat) : List (Nat × Sig) := [(46, scaled_size.sig k)]
def scaled_Gcd.G (P : Program) : GI := ⟨P, TT, 19, 19, [], [], [], [], [], AD⟩
def scaled_Gcd.H : H := .s .n (.s .n (.s (.s (.l 0 .n) .n) .n))
abbrev scaled_Gcd.l0_s : Sh := [(5, .v (.i .u64)), (6, .v (.i .u64))]
def scaled_Gcd.O (k : Nat) : List (Orc (denR [.c false (.i .i64)])) := [⟨scaled_Gcd.l0_s, fun y => scaled_Gcd.l0 k y.1 y.2.1⟩]
theorem scaled_Gcd.l0_e (k : Nat) (y : denS scaled_Gcd.l0_s) : scaled_Gcd.l0 (k + 1) y.1 y.2.1 = evP ((scaled_Gcd.G Try.prog).at (scaled_Gcd.E k)) (fun i => (scaled_Gcd.O k)[i]?) [1, 1, 0, 0, 0] (cd Try.f36) scaled_Gcd.H (kFin ((scaled_Gcd.G Try.prog).at (scaled_Gcd.E k)) [.tmp 4] [.c false (.i .i64)]) (unS scaled_Gcd.l0_s y) := by rw [scaled_Gcd.l0]; kernel_rfl
theorem scaled_Gcd.go : goesTo Try.prog 36 := ⟨_, Try.func36, by kernel_rfl, rfl⟩
theorem scaled_Gcd.ok (k : Nat) : SigOk Try.prog 36 (scaled_Gcd.sig k) :=
  fn_p (G := scaled_Gcd.G Try.prog) (c := cd Try.f36) (rs := [.tmp 4]) (args := [(false, (.i .i64)), (false, (.i .i64))]) (l := [.c false (.i .i64)]) (fn := Try.f36) ⟨Try.func36, by kernel_rfl, by kernel_rfl, by kernel_rfl, le_of rfl, le_of rfl, TT_ok, AD_ok⟩ rfl scaled_Gcd.E (fun k p hp => by
    simp only [scaled_Gcd.E, List.mem_cons, List.not_mem_nil, or_false] at hp
    rcases hp with rfl
    · exact ⟨scaled_size.ok k, scaled_size.go⟩)
    (fun k i => (scaled_Gcd.O k)[i]?) scaled_Gcd.H (fun k x => scaled_Gcd.f k x.1 x.2.1)
    (fun id o y h => by
    have h' := List.mem_of_getElem? h
    simp only [scaled_Gcd.O, List.mem_cons, List.not_mem_nil, or_false] at h'
    rcases h' with rfl <;> rfl)
    (fun k p hp => by
    rw [show pts (cd Try.f36) scaled_Gcd.H = [(0, [1, 1, 0, 0, 0])] by kernel_rfl] at hp
    simp only [List.mem_cons, List.not_mem_nil, or_false] at hp
    rcases hp with rfl
    · exact ptOk_of rfl (scaled_Gcd.l0_e k))
    (fun k x => by kernel_rfl) k
/-! reglet/scaled.Lowest -/
mutual
def scaled_Lowest.j0 : Nat → Int → Int → Option (Int × Int)
  | 0, _, _ => none
  | k + 1, a, b => (scaled_Gcd.f k a b).bind fun r3 => if r3 ≠ 0 then (if r3 ≠ 0 then (some (wrap64 (a.tdiv r3), wrap64 (b.tdiv r3))) else none) else none
end
def scaled_Lowest.f (k : Nat) (a0 : Int) (a1 : Int) : Option (Int × Int) := (scaled_Clamp.f k a0).bind fun r => (scaled_Clamp.f k a1).bind fun r2 => if (decide (r2 = 0)) = true then (some (0, 1)) else (if (decide (r2 < 0)) = true then (scaled_Lowest.j0 k (wrap64 (-r)) (wrap64 (-r2))) else (scaled_Lowest.j0 k r r2))
def scaled_Lowest.sig (k : Nat) : Sig := .p [(false, (.i .i64)), (false, (.i .i64))] [.c false (.i .i64), .c false (.i .i64)] fun x => scaled_Lowest.f k x.1 x.2.1
def scaled_Lowest.E (k : Nat) : List (Nat × Sig) := [(32, scaled_Clamp.sig k), (36, scaled_Gcd.sig k)]
def scaled_Lowest.G (P : Program) : GI := ⟨P, TT, 28, 28, [], [], [], [], [], AD⟩
def scaled_Lowest.H : H := .s .n (.s .n (.s .n (.j 0 .n .n)))
abbrev scaled_Lowest.j0_s : Sh := [(0, .v (.i .i64)), (1, .v (.i .i64))]
def scaled_Lowest.O (k : Nat) : List (Orc (denR [.c false (.i .i64), .c false (.i .i64)])) := [⟨scaled_Lowest.j0_s, fun y => scaled_Lowest.j0 k y.1 y.2.1⟩]
theorem scaled_Lowest.j0_e (k : Nat) (y : denS scaled_Lowest.j0_s) : scaled_Lowest.j0 (k + 1) y.1 y.2.1 = evP ((scaled_Lowest.G Try.prog).at (scaled_Lowest.E k)) (fun i => (scaled_Lowest.O k)[i]?) [1, 1, 1, 1] (cd Try.f24) scaled_Lowest.H (kFin ((scaled_Lowest.G Try.prog).at (scaled_Lowest.E k)) [.tmp 4, .tmp 5] [.c false (.i .i64), .c false (.i .i64)]) (unS scaled_Lowest.j0_s y) := by rw [scaled_Lowest.j0]; kernel_rfl
theorem scaled_Lowest.go : goesTo Try.prog 24 := ⟨_, Try.func24, by kernel_rfl, rfl⟩
theorem scaled_Lowest.ok (k : Nat) : SigOk Try.prog 24 (scaled_Lowest.sig k) :=
  fn_p (G := scaled_Lowest.G Try.prog) (c := cd Try.f24) (rs := [.tmp 4, .tmp 5]) (args := [(false, (.i .i64)), (false, (.i .i64))]) (l := [.c false (.i .i64), .c false (.i .i64)]) (fn := Try.f24) ⟨Try.func24, by kernel_rfl, by kernel_rfl, by kernel_rfl, le_of rfl, le_of rfl, TT_ok, AD_ok⟩ rfl scaled_Lowest.E (fun k p hp => by
    simp only [scaled_Lowest.E, List.mem_cons, List.not_mem_nil, or_false] at hp
    rcases hp with rfl | rfl
    · exact ⟨scaled_Clamp.ok k, scaled_Clamp.go⟩
    · exact ⟨scaled_Gcd.ok k, scaled_Gcd.go⟩)
    (fun k i => (scaled_Lowest.O k)[i]?) scaled_Lowest.H (fun k x => scaled_Lowest.f k x.1 x.2.1)
    (fun id o y h => by
    have h' := List.mem_of_getElem? h
    simp only [scaled_Lowest.O, List.mem_cons, List.not_mem_nil, or_false] at h'
    rcases h' with rfl <;> rfl)
    (fun k p hp => by
    rw [show pts (cd Try.f24) scaled_Lowest.H = [(0, [1, 1, 1, 1])] by kernel_rfl] at hp
    simp only [List.mem_cons, List.not_mem_nil, or_false] at hp
    rcases hp with rfl
    · exact ptOk_of rfl (scaled_Lowest.j0_e k))
    (fun k x => by kernel_rfl) k
/-! reglet/measure.Set -/
mutual
def measure_Set.j0 : Nat → Int → measure_Sum → api_Fit → api_Fit → Option api_Fit
  | 0, _, _, _, _ => none
  | k + 1, t, t2, t3, t4 => (scaled_Lowest.f k t t2.2.1).bind fun r5 => if (decide (12 < t4.2.2.1)) = true then (measure_Set.j3 k t3 (r5.1, r5.2, t4.2.2.1, 2, t4.2.2.2.2)) else (measure_Set.j3 k t3 (r5.1, r5.2, t4.2.2.1, t4.2.2.2.1, t4.2.2.2.2))
def measure_Set.j1 : Nat → measure_Sum → api_Fit → api_Fit → Option api_Fit
  | 0, _, _, _ => none
  | k + 1, t5, t6, t7 => if (decide (0 < t5.2.2.1)) = true then (some ((-1), t7.2.1, t7.2.2.1, t7.2.2.2.1, t7.2.2.2.2)) else (some t7)
def measure_Set.j2 : Nat → Int → measure_Sum → api_Fit → Option api_Fit
  | 0, _, _, _ => none
  | k + 1, t8, t9, t10 => (scaled_Bad.f k (wrap64 (-t8)) t9.2.2.1).bind fun r6 => (scaled_Lowest.f k t8 t9.2.2.1).bind fun r7 => if (decide (12 < r6)) = true then (some (r7.1, r7.2, r6, 0, (false))) else (some (r7.1, r7.2, r6, 1, (false)))
def measure_Set.j3 : Nat → api_Fit → api_Fit → Option api_Fit
  | 0, _, _ => none
  | k + 1, t11, t12 => if (decide (99 < t12.2.2.1)) = true then (some (t12.1, t12.2.1, t12.2.2.1, 3, t12.2.2.2.2)) else (some t12)
end
def measure_Set.f (k : Nat) (a0 : measure_Sum) (a1 : Int) : Option api_Fit := if (decide ((wrap64 (a1 - a0.1)) = 0)) = true then (some (0, 1, 0, 1, (false))) else (if (decide (0 < (wrap64 (a1 - a0.1)))) = true then (if (decide (0 < a0.2.2.2)) = true then (some (0, 1, 0, 1, (false))) else (if (decide (0 < (wrap64 (a1 - a0.1)))) = true then (if (decide (a0.2.1 = 0)) = true then (some (0, 1, 10000, 3, (false))) else (if (decide (0 < (wrap64 (a1 - a0.1)))) = true then ((scaled_Bad.f k (wrap64 (a1 - a0.1)) a0.2.1).bind fun r => measure_Set.j0 k (wrap64 (a1 - a0.1)) a0 (0, 0, 0, 0, (false)) (0, 0, r, 1, (false))) else (if (decide (a0.2.2.1 < (wrap64 (-(wrap64 (a1 - a0.1)))))) = true then (measure_Set.j1 k a0 (0, 0, 0, 0, (false)) (0, 1, 10000, 0, (true))) else (measure_Set.j2 k (wrap64 (a1 - a0.1)) a0 (0, 0, 0, 0, (false)))))) else (if (decide (0 < (wrap64 (a1 - a0.1)))) = true then ((scaled_Bad.f k (wrap64 (a1 - a0.1)) a0.2.1).bind fun r2 => measure_Set.j0 k (wrap64 (a1 - a0.1)) a0 (0, 0, 0, 0, (false)) (0, 0, r2, 1, (false))) else (if (decide (a0.2.2.1 < (wrap64 (-(wrap64 (a1 - a0.1)))))) = true then (measure_Set.j1 k a0 (0, 0, 0, 0, (false)) (0, 1, 10000, 0, (true))) else (measure_Set.j2 k (wrap64 (a1 - a0.1)) a0 (0, 0, 0, 0, (false))))))) else (if (decide (0 < (wrap64 (a1 - a0.1)))) = true then (if (decide (a0.2.1 = 0)) = true then (some (0, 1, 10000, 3, (false))) else (if (decide (0 < (wrap64 (a1 - a0.1)))) = true then ((scaled_Bad.f k (wrap64 (a1 - a0.1)) a0.2.1).bind fun r3 => measure_Set.j0 k (wrap64 (a1 - a0.1)) a0 (0, 0, 0, 0, (false)) (0, 0, r3, 1, (false))) else (if (decide (a0.2.2.1 < (wrap64 (-(wrap64 (a1 - a0.1)))))) = true then (measure_Set.j1 k a0 (0, 0, 0, 0, (false)) (0, 1, 10000, 0, (true))) else (measure_Set.j2 k (wrap64 (a1 - a0.1)) a0 (0, 0, 0, 0, (false)))))) else (if (decide (0 < (wrap64 (a1 - a0.1)))) = true then ((scaled_Bad.f k (wrap64 (a1 - a0.1)) a0.2.1).bind fun r4 => measure_Set.j0 k (wrap64 (a1 - a0.1)) a0 (0, 0, 0, 0, (false)) (0, 0, r4, 1, (false))) else (if (decide (a0.2.2.1 < (wrap64 (-(wrap64 (a1 - a0.1)))))) = true then (measure_Set.j1 k a0 (0, 0, 0, 0, (false)) (0, 1, 10000, 0, (true))) else (measure_Set.j2 k (wrap64 (a1 - a0.1)) a0 (0, 0, 0, 0, (false)))))))
def measure_Set.sig (k : Nat) : Sig := .p [(true, y9), (false, (.i .i64))] [.c true y6] fun x => measure_Set.f k x.1 x.2.1
def measure_Set.E (k : Nat) : List (Nat × Sig) := [(23, scaled_Bad.sig k), (24, scaled_Lowest.sig k)]
def measure_Set.G (P : Program) : GI := ⟨P, TT, 93, 117, [(2, 93, 4), (4, 97, 5), (6, 102, 5), (7, 107, 5), (8, 112, 5)], [], [], [], [], AD⟩
def measure_Set.H : H := .s .n (.s .n (.j 2 (.s (.s .n (.s .n (.s .n (.s .n (.s .n (.s (.j 0 .n (.s .n (.j 3 .n .n))) (.s .n (.s (.j 1 .n .n) .n)))))))) .n) .n))
abbrev measure_Set.j0_s : Sh := [(2, .at_ 93), (4, .at_ 97), (5, .v (.i .i64)), (6, .at_ 102), (93, .box y9), (97, .box y6), (102, .box y6)]
abbrev measure_Set.j1_s : Sh := [(2, .at_ 93), (4, .at_ 97), (7, .at_ 107), (93, .box y9), (97, .box y6), (107, .box y6)]
abbrev measure_Set.j2_s : Sh := [(2, .at_ 93), (4, .at_ 97), (5, .v (.i .i64)), (93, .box y9), (97, .box y6)]
abbrev measure_Set.j3_s : Sh := [(4, .at_ 97), (6, .at_ 102), (97, .box y6), (102, .box y6)]
def measure_Set.O (k : Nat) : List (Orc (denR [.c true y6])) := [⟨measure_Set.j0_s, fun y => measure_Set.j0 k y.2.2.1 y.2.2.2.2.1 y.2.2.2.2.2.1 y.2.2.2.2.2.2.1⟩, ⟨measure_Set.j1_s, fun y => measure_Set.j1 k y.2.2.2.1 y.2.2.2.2.1 y.2.2.2.2.2.1⟩, ⟨measure_Set.j2_s, fun y => measure_Set.j2 k y.2.2.1 y.2.2.2.1 y.2.2.2.2.1⟩, ⟨measure_Set.j3_s, fun y => measure_Set.j3 k y.2.2.1 y.2.2.2.1⟩]
theorem measure_Set.j3_e (k : Nat) (y : denS measure_Set.j3_s) : measure_Set.j3 (k + 1) y.2.2.1 y.2.2.2.1 = evP ((measure_Set.G Try.prog).at (measure_Set.E k)) (fun i => (measure_Set.O k)[i]?) [1, 1, 0, 0, 1, 1, 1, 1, 1, 0, 1, 1, 1] (cd Try.f16) measure_Set.H (kFin ((measure_Set.G Try.prog).at (measure_Set.E k)) [.cell 4 28] [.c true y6]) (unS measure_Set.j3_s y) := by rw [measure_Set.j3]; kernel_rfl
theorem measure_Set.j0_e (k : Nat) (y : denS measure_Set.j0_s) : measure_Set.j0 (k + 1) y.2.2.1 y.2.2.2.2.1 y.2.2.2.2.2.1 y.2.2.2.2.2.2.1 = evP ((measure_Set.G Try.prog).at (measure_Set.E k)) (fun i => (measure_Set.O k)[i]?) [1, 1, 0, 0, 1, 1, 1, 1, 1, 0, 1] (cd Try.f16) measure_Set.H (kFin ((measure_Set.G Try.prog).at (measure_Set.E k)) [.cell 4 28] [.c true y6]) (unS measure_Set.j0_s y) := by rw [measure_Set.j0]; kernel_rfl
theorem measure_Set.j1_e (k : Nat) (y : denS measure_Set.j1_s) : measure_Set.j1 (k + 1) y.2.2.2.1 y.2.2.2.2.1 y.2.2.2.2.2.1 = evP ((measure_Set.G Try.prog).at (measure_Set.E k)) (fun i => (measure_Set.O k)[i]?) [1, 1, 0, 0, 1, 1, 1, 1, 1, 1, 1, 0, 1] (cd Try.f16) measure_Set.H (kFin ((measure_Set.G Try.prog).at (measure_Set.E k)) [.cell 4 28] [.c true y6]) (unS measure_Set.j1_s y) := by rw [measure_Set.j1]; kernel_rfl
theorem measure_Set.j2_e (k : Nat) (y : denS measure_Set.j2_s) : measure_Set.j2 (k + 1) y.2.2.1 y.2.2.2.1 y.2.2.2.2.1 = evP ((measure_Set.G Try.prog).at (measure_Set.E k)) (fun i => (measure_Set.O k)[i]?) [1, 1, 1] (cd Try.f16) measure_Set.H (kFin ((measure_Set.G Try.prog).at (measure_Set.E k)) [.cell 4 28] [.c true y6]) (unS measure_Set.j2_s y) := by rw [measure_Set.j2]; kernel_rfl
theorem measure_Set.go : goesTo Try.prog 16 := ⟨_, Try.func16, by kernel_rfl, rfl⟩
theorem measure_Set.ok (k : Nat) : SigOk Try.prog 16 (measure_Set.sig k) :=
  fn_p (G := measure_Set.G Try.prog) (c := cd Try.f16) (rs := [.cell 4 28]) (args := [(true, y9), (false, (.i .i64))]) (l := [.c true y6]) (fn := Try.f16) ⟨Try.func16, by kernel_rfl, by kernel_rfl, by kernel_rfl, le_of rfl, le_of rfl, TT_ok, AD_ok⟩ rfl measure_Set.E (fun k p hp => by
    simp only [measure_Set.E, List.mem_cons, List.not_mem_nil, or_false] at hp
    rcases hp with rfl | rfl
    · exact ⟨scaled_Bad.ok k, scaled_Bad.go⟩
    · exact ⟨scaled_Lowest.ok k, scaled_Lowest.go⟩)
    (fun k i => (measure_Set.O k)[i]?) measure_Set.H (fun k x => measure_Set.f k x.1 x.2.1)
    (fun id o y h => by
    have h' := List.mem_of_getElem? h
    simp only [measure_Set.O, List.mem_cons, List.not_mem_nil, or_false] at h'
    rcases h' with rfl | rfl | rfl | rfl <;> rfl)
    (fun k p hp => by
    rw [show pts (cd Try.f16) measure_Set.H = [(3, [1, 1, 0, 0, 1, 1, 1, 1, 1, 0, 1, 1, 1]), (0, [1, 1, 0, 0, 1, 1, 1, 1, 1, 0, 1]), (1, [1, 1, 0, 0, 1, 1, 1, 1, 1, 1, 1, 0, 1]), (2, [1, 1, 1])] by kernel_rfl] at hp
    simp only [List.mem_cons, List.not_mem_nil, or_false] at hp
    rcases hp with rfl | rfl | rfl | rfl
    · exact ptOk_of rfl (measure_Set.j3_e k)
    · exact ptOk_of rfl (measure_Set.j0_e k)
    · exact ptOk_of rfl (measure_Set.j1_e k)
    · exact ptOk_of rfl (measure_Set.j2_e k))
    (fun k x => by kernel_rfl) k
/-! reglet/measure.Usual -/
def measure_Usual.f (k : Nat)  : Option api_Settings := some (200, 10, 10000, 10000, 5000, 2, 2)
def measure_Usual.sig (k : Nat) : Sig := .p [] [.c true y12] fun x => measure_Usual.f k
def measure_Usual.E (k : Nat) : List (Nat × Sig) := []
def measure_Usual.G (P : Program) : GI := ⟨P, TT, 2, 9, [(0, 2, 7)], [], [], [], [], AD⟩
def measure_Usual.H : H := .n
def measure_Usual.O (k : Nat) : List (Orc (denR [.c true y12])) := []
theorem measure_Usual.go : goesTo Try.prog 17 := ⟨_, Try.func17, by kernel_rfl, rfl⟩
theorem measure_Usual.ok (k : Nat) : SigOk Try.prog 17 (measure_Usual.sig k) :=
  fn_p (G := measure_Usual.G Try.prog) (c := cd Try.f17) (rs := [.cell 0 48]) (args := []) (l := [.c true y12]) (fn := Try.f17) ⟨Try.func17, by kernel_rfl, by kernel_rfl, by kernel_rfl, le_of rfl, le_of rfl, TT_ok, AD_ok⟩ rfl measure_Usual.E (fun k p hp => nomatch hp)
    (fun k i => (measure_Usual.O k)[i]?) measure_Usual.H (fun k x => measure_Usual.f k)
    (fun id o y h => by cases id <;> cases h)
    (fun k p hp => by rw [show pts (cd Try.f17) measure_Usual.H = [] by kernel_rfl] at hp; nomatch hp)
    (fun k x => by kernel_rfl) k
/-! reglet/regletlaw08.awake -/
def regletlaw08_awake.f (k : Nat)  : Option Bool := (measure_Set.f k (90, 20, 0, 0) 100).bind fun r => (measure_Set.f k (90, 20, 0, 0) 120).bind fun r2 => if (decide (r.1 = 1) && (decide (r.2.1 = 2) && (decide (r.2.2.1 = 12) && (decide (r.2.2.2.1 = 1) && (decide (r.2.2.2.2 = (false)) && true))))) = true then (if (decide (r2.1 = 3) && (decide (r2.2.1 = 2) && (decide (r2.2.2.1 = 337) && (decide (r2.2.2.2.1 = 3) && (decide (r2.2.2.2.2 = (false)) && true))))) = true then ((measure_Usual.f k).bind fun r3 => some (decide (r3.1 = 200))) else (some false)) else (some false)
def regletlaw08_awake.sig (k : Nat) : Sig := .p [] [.c false .b] fun x => regletlaw08_awake.f k
def regletlaw08_awake.E (k : Nat) : List (Nat × Sig) := [(16, measure_Set.sig k), (17, measure_Usual.sig k)]
def regletlaw08_awake.G (P : Program) : GI := ⟨P, TT, 20, 30, [(1, 20, 5), (2, 25, 5)], [], [], [], [], AD⟩
def regletlaw08_awake.H : H := .n
def regletlaw08_awake.O (k : Nat) : List (Orc (denR [.c false .b])) := []
theorem regletlaw08_awake.go : goesTo Try.prog 6 := ⟨_, Try.func6, by kernel_rfl, rfl⟩
theorem regletlaw08_awake.ok (k : Nat) : SigOk Try.prog 6 (regletlaw08_awake.sig k) :=
  fn_p (G := regletlaw08_awake.G Try.prog) (c := cd Try.f6) (rs := [.tmp 0]) (args := []) (l := [.c false .b]) (fn := Try.f6) ⟨Try.func6, by kernel_rfl, by kernel_rfl, by kernel_rfl, le_of rfl, le_of rfl, TT_ok, AD_ok⟩ rfl regletlaw08_awake.E (fun k p hp => by
    simp only [regletlaw08_awake.E, List.mem_cons, List.not_mem_nil, or_false] at hp
    rcases hp with rfl | rfl
    · exact ⟨measure_Set.ok k, measure_Set.go⟩
    · exact ⟨measure_Usual.ok k, measure_Usual.go⟩)
    (fun k i => (regletlaw08_awake.O k)[i]?) regletlaw08_awake.H (fun k x => regletlaw08_awake.f k)
    (fun id o y h => by cases id <;> cases h)
    (fun k p hp => by rw [show pts (cd Try.f6) regletlaw08_awake.H = [] by kernel_rfl] at hp; nomatch hp)
    (fun k x => by kernel_rfl) k
/-! reglet/regletref07.Forced -/
def regletref07_Forced.f (k : Nat) (a0 : api_Item) : Option Bool := if (decide (a0.1 = 3)) = true then (some (decide (a0.2.2.2.2.2.1 ≤ (-10000)))) else (some false)
def regletref07_Forced.sig (k : Nat) : Sig := .p [(true, y19)] [.c false .b] fun x => regletref07_Forced.f k x.1
def regletref07_Forced.E (k : Nat) : List (Nat × Sig) := []
def regletref07_Forced.G (P : Program) : GI := ⟨P, TT, 11, 20, [(1, 11, 9)], [], [], [], [], AD⟩
def regletref07_Forced.H : H := .n
def regletref07_Forced.O (k : Nat) : List (Orc (denR [.c false .b])) := []
theorem regletref07_Forced.go : goesTo Try.prog 22 := ⟨_, Try.func22, by kernel_rfl, rfl⟩
theorem regletref07_Forced.ok (k : Nat) : SigOk Try.prog 22 (regletref07_Forced.sig k) :=
  fn_p (G := regletref07_Forced.G Try.prog) (c := cd Try.f22) (rs := [.tmp 2]) (args := [(true, y19)]) (l := [.c false .b]) (fn := Try.f22) ⟨Try.func22, by kernel_rfl, by kernel_rfl, by kernel_rfl, le_of rfl, le_of rfl, TT_ok, AD_ok⟩ rfl regletref07_Forced.E (fun k p hp => nomatch hp)
    (fun k i => (regletref07_Forced.O k)[i]?) regletref07_Forced.H (fun k x => regletref07_Forced.f k x.1)
    (fun id o y h => by cases id <;> cases h)
    (fun k p hp => by rw [show pts (cd Try.f22) regletref07_Forced.H = [] by kernel_rfl] at hp; nomatch hp)
    (fun k x => by kernel_rfl) k
/-! reglet/regletref07.one -/
mutual
def regletref07_one.l0 : Nat → (List Int) → Int → api_Item → Option Bool
  | 0, _, _, _ => none
  | k + 1, t, t2, t3 => if (decide (t2 < (t.length : Int))) = true then (if 0 ≤ t2 ∧ t2 < (t.length : Int) then ((t[t2.toNat]?).bind fun e => if (decide (e < 0)) = true then (some false) else (if 0 ≤ t2 ∧ t2 < (t.length : Int) then ((t[t2.toNat]?).bind fun e2 => if (decide (68719476736 < e2)) = true then (some false) else (regletref07_one.j1 k t t2 t3)) else none)) else none) else (if (decide (t3.2.1 < t3.2.2.2.1)) = true then (some false) else (if (decide (t3.1 = 1)) = true then (some (decide (t3.1 = 1) && (decide (t3.2.1 = t3.2.1) && (decide (t3.2.2.1 = 0) && (decide (t3.2.2.2.1 = 0) && (decide (t3.2.2.2.2.1 = (false)) && (decide (t3.2.2.2.2.2.1 = 0) && (decide (t3.2.2.2.2.2.2.1 = (false)) && (decide (t3.2.2.2.2.2.2.2.1 = t3.2.2.2.2.2.2.2.1) && (decide (t3.2.2.2.2.2.2.2.2 = t3.2.2.2.2.2.2.2.2) && true)))))))))) else (if (decide (t3.1 = 2)) = true then (if t3.2.2.2.2.1 = true then (some (decide (t3.1 = 2) && (decide (t3.2.1 = 0) && (decide (t3.2.2.1 = 0) && (decide (t3.2.2.2.1 = 0) && (decide (t3.2.2.2.2.1 = (true)) && (decide (t3.2.2.2.2.2.1 = 0) && (decide (t3.2.2.2.2.2.2.1 = (false)) && (decide (t3.2.2.2.2.2.2.2.1 = t3.2.2.2.2.2.2.2.1) && (decide (t3.2.2.2.2.2.2.2.2 = t3.2.2.2.2.2.2.2.2) && true)))))))))) else (if (decide (t3.2.2.2.2.2.1 = 0)) = true then (some (!t3.2.2.2.2.2.2.1)) else (some false))) else (if (decide (t3.1 = 3)) = true then (if (decide (t3.2.2.1 = 0)) = true then (if (decide (t3.2.2.2.1 = 0)) = true then (if (!t3.2.2.2.2.1) = true then (if (decide ((-10000) ≤ t3.2.2.2.2.2.1)) = true then (some (decide (t3.2.2.2.2.2.1 ≤ 10000))) else (some false)) else (some false)) else (some false)) else (some false)) else (some false)))))
def regletref07_one.j1 : Nat → (List Int) → Int → api_Item → Option Bool
  | 0, _, _, _ => none
  | k + 1, t4, t5, t6 => regletref07_one.l0 k t4 (wrap64 (t5 + 1)) t6
end
def regletref07_one.f (k : Nat) (a0 : api_Item) : Option Bool := regletref07_one.l0 k ([a0.2.1, a0.2.2.1, a0.2.2.2.1] : List Int) 0 a0
def regletref07_one.sig (k : Nat) : Sig := .p [(true, y19)] [.c false .b] fun x => regletref07_one.f k x.1
def regletref07_one.E (k : Nat) : List (Nat × Sig) := []
def regletref07_one.G (P : Program) : GI := ⟨P, TT, 92, 101, [(1, 92, 9)], [], [], [], [], AD⟩
def regletref07_one.H : H := .s .n (.s .n (.s (.s .n (.s (.l 0 (.s .n (.j 1 .n .n))) .n)) .n))
abbrev regletref07_one.l0_s : Sh := [(1, .at_ 92), (3, .v y20), (4, .v (.i .i64)), (92, .box y19)]
abbrev regletref07_one.j1_s : Sh := [(1, .at_ 92), (3, .v y20), (4, .v (.i .i64)), (92, .box y19)]
def regletref07_one.O (k : Nat) : List (Orc (denR [.c false .b])) := [⟨regletref07_one.l0_s, fun y => regletref07_one.l0 k y.2.1 y.2.2.1 y.2.2.2.1⟩, ⟨regletref07_one.j1_s, fun y => regletref07_one.j1 k y.2.1 y.2.2.1 y.2.2.2.1⟩]
theorem regletref07_one.j1_e (k : Nat) (y : denS regletref07_one.j1_s) : regletref07_one.j1 (k + 1) y.2.1 y.2.2.1 y.2.2.2.1 = evP ((regletref07_one.G Try.prog).at (regletref07_one.E k)) (fun i => (regletref07_one.O k)[i]?) [1, 1, 0, 1, 0, 0, 1, 1] (cd Try.f25) regletref07_one.H (kFin ((regletref07_one.G Try.prog).at (regletref07_one.E k)) [.tmp 2] [.c false .b]) (unS regletref07_one.j1_s y) := by rw [regletref07_one.j1]; kernel_rfl
theorem regletref07_one.l0_e (k : Nat) (y : denS regletref07_one.l0_s) : regletref07_one.l0 (k + 1) y.2.1 y.2.2.1 y.2.2.2.1 = evP ((regletref07_one.G Try.prog).at (regletref07_one.E k)) (fun i => (regletref07_one.O k)[i]?) [1, 1, 0, 1, 0, 0] (cd Try.f25) regletref07_one.H (kFin ((regletref07_one.G Try.prog).at (regletref07_one.E k)) [.tmp 2] [.c false .b]) (unS regletref07_one.l0_s y) := by rw [regletref07_one.l0]; kernel_rfl
theorem regletref07_one.go : goesTo Try.prog 25 := ⟨_, Try.func25, by kernel_rfl, rfl⟩
theorem regletref07_one.ok (k : Nat) : SigOk Try.prog 25 (regletref07_one.sig k) :=
  fn_p (G := regletref07_one.G Try.prog) (c := cd Try.f25) (rs := [.tmp 2]) (args := [(true, y19)]) (l := [.c false .b]) (fn := Try.f25) ⟨Try.func25, by kernel_rfl, by kernel_rfl, by kernel_rfl, le_of rfl, le_of rfl, TT_ok, AD_ok⟩ rfl regletref07_one.E (fun k p hp => nomatch hp)
    (fun k i => (regletref07_one.O k)[i]?) regletref07_one.H (fun k x => regletref07_one.f k x.1)
    (fun id o y h => by
    have h' := List.mem_of_getElem? h
    simp only [regletref07_one.O, List.mem_cons, List.not_mem_nil, or_false] at h'
    rcases h' with rfl | rfl <;> rfl)
    (fun k p hp => by
    rw [show pts (cd Try.f25) regletref07_one.H = [(1, [1, 1, 0, 1, 0, 0, 1, 1]), (0, [1, 1, 0, 1, 0, 0])] by kernel_rfl] at hp
    simp only [List.mem_cons, List.not_mem_nil, or_false] at hp
    rcases hp with rfl | rfl
    · exact ptOk_of rfl (regletref07_one.j1_e k)
    · exact ptOk_of rfl (regletref07_one.l0_e k))
    (fun k x => by kernel_rfl) k
/-! reglet/regletref07.Right -/
mutual
def regletref07_Right.j0 : Nat → (List api_Item) → Option Bool
  | 0, _ => none
  | k + 1, t => regletref07_Right.l1 k t 0
def regletref07_Right.l1 : Nat → (List api_Item) → Int → Option Bool
  | 0, _, _ => none
  | k + 1, t2, t3 => if (decide (t3 < (t2.length : Int))) = true then (if (decide (0 < t3)) = true then ((at? t2 t3).bind fun e3 => (at? t2 (wrap64 (t3 - 1))).bind fun e4 => if (!decide (e3.2.2.2.2.2.2.2.1 = e4.2.2.2.2.2.2.2.2)) = true then (some false) else ((at? t2 t3).bind fun e5 => (at? t2 t3).bind fun e6 => if (decide (e5.2.2.2.2.2.2.2.2 < e6.2.2.2.2.2.2.2.1)) = true then (some false) else ((at? t2 t3).bind fun e7 => if (decide (65536 < e7.2.2.2.2.2.2.2.2)) = true then (some false) else ((at? t2 t3).bind fun e8 => (regletref07_one.f k e8).bind fun r2 => if (!r2) = true then (some false) else (regletref07_Right.j2 k t2 t3))))) else ((at? t2 t3).bind fun e9 => (at? t2 t3).bind fun e10 => if (decide (e9.2.2.2.2.2.2.2.2 < e10.2.2.2.2.2.2.2.1)) = true then (some false) else ((at? t2 t3).bind fun e11 => if (decide (65536 < e11.2.2.2.2.2.2.2.2)) = true then (some false) else ((at? t2 t3).bind fun e12 => (regletref07_one.f k e12).bind fun r3 => if (!r3) = true then (some false) else (regletref07_Right.j2 k t2 t3))))) else (some true)
def regletref07_Right.j2 : Nat → (List api_Item) → Int → Option Bool
  | 0, _, _ => none
  | k + 1, t4, t5 => regletref07_Right.l1 k t4 (wrap64 (t5 + 1))
end
def regletref07_Right.f (k : Nat) (a0 : List api_Item) : Option Bool := if (decide ((a0.length : Int) = 0)) = true then (some false) else (if (decide (262144 < (a0.length : Int))) = true then (some false) else ((at? a0 (wrap64 ((a0.length : Int) - 1))).bind fun e => (regletref07_Forced.f k e).bind fun r => if (!r) = true then (some false) else ((at? a0 0).bind fun e2 => if (!decide (e2.2.2.2.2.2.2.2.1 = 0)) = true then (some false) else (regletref07_Right.j0 k a0))))
def regletref07_Right.sig (k : Nat) : Sig := .p [(false, y21)] [.c false .b] fun x => regletref07_Right.f k x.1
def regletref07_Right.E (k : Nat) : List (Nat × Sig) := [(22, regletref07_Forced.sig k), (25, regletref07_one.sig k)]
def regletref07_Right.G (P : Program) : GI := ⟨P, TT, 80, 80, [], [], [], [], [], AD⟩
def regletref07_Right.H : H := .s .n (.j 0 .n (.s (.s .n (.s (.l 1 (.s .n (.j 2 .n .n))) .n)) .n))
abbrev regletref07_Right.j0_s : Sh := [(0, .v y21)]
abbrev regletref07_Right.l1_s : Sh := [(0, .v y21), (3, .v (.i .i64))]
abbrev regletref07_Right.j2_s : Sh := [(0, .v y21), (3, .v (.i .i64))]
def regletref07_Right.O (k : Nat) : List (Orc (denR [.c false .b])) := [⟨regletref07_Right.j0_s, fun y => regletref07_Right.j0 k y.1⟩, ⟨regletref07_Right.l1_s, fun y => regletref07_Right.l1 k y.1 y.2.1⟩, ⟨regletref07_Right.j2_s, fun y => regletref07_Right.j2 k y.1 y.2.1⟩]
theorem regletref07_Right.j2_e (k : Nat) (y : denS regletref07_Right.j2_s) : regletref07_Right.j2 (k + 1) y.1 y.2.1 = evP ((regletref07_Right.G Try.prog).at (regletref07_Right.E k)) (fun i => (regletref07_Right.O k)[i]?) [1, 1, 0, 1, 0, 0, 1, 1] (cd Try.f18) regletref07_Right.H (kFin ((regletref07_Right.G Try.prog).at (regletref07_Right.E k)) [.tmp 2] [.c false .b]) (unS regletref07_Right.j2_s y) := by rw [regletref07_Right.j2]; kernel_rfl
theorem regletref07_Right.l1_e (k : Nat) (y : denS regletref07_Right.l1_s) : regletref07_Right.l1 (k + 1) y.1 y.2.1 = evP ((regletref07_Right.G Try.prog).at (regletref07_Right.E k)) (fun i => (regletref07_Right.O k)[i]?) [1, 1, 0, 1, 0, 0] (cd Try.f18) regletref07_Right.H (kFin ((regletref07_Right.G Try.prog).at (regletref07_Right.E k)) [.tmp 2] [.c false .b]) (unS regletref07_Right.l1_s y) := by rw [regletref07_Right.l1]; kernel_rfl
theorem regletref07_Right.j0_e (k : Nat) (y : denS regletref07_Right.j0_s) : regletref07_Right.j0 (k + 1) y.1 = evP ((regletref07_Right.G Try.prog).at (regletref07_Right.E k)) (fun i => (regletref07_Right.O k)[i]?) [1, 1] (cd Try.f18) regletref07_Right.H (kFin ((regletref07_Right.G Try.prog).at (regletref07_Right.E k)) [.tmp 2] [.c false .b]) (unS regletref07_Right.j0_s y) := by rw [regletref07_Right.j0]; kernel_rfl
theorem regletref07_Right.go : goesTo Try.prog 18 := ⟨_, Try.func18, by kernel_rfl, rfl⟩
theorem regletref07_Right.ok (k : Nat) : SigOk Try.prog 18 (regletref07_Right.sig k) :=
  fn_p (G := regletref07_Right.G Try.prog) (c := cd Try.f18) (rs := [.tmp 2]) (args := [(false, y21)]) (l := [.c false .b]) (fn := Try.f18) ⟨Try.func18, by kernel_rfl, by kernel_rfl, by kernel_rfl, le_of rfl, le_of rfl, TT_ok, AD_ok⟩ rfl regletref07_Right.E (fun k p hp => by
    simp only [regletref07_Right.E, List.mem_cons, List.not_mem_nil, or_false] at hp
    rcases hp with rfl | rfl
    · exact ⟨regletref07_Forced.ok k, regletref07_Forced.go⟩
    · exact ⟨regletref07_one.ok k, regletref07_one.go⟩)
    (fun k i => (regletref07_Right.O k)[i]?) regletref07_Right.H (fun k x => regletref07_Right.f k x.1)
    (fun id o y h => by
    have h' := List.mem_of_getElem? h
    simp only [regletref07_Right.O, List.mem_cons, List.not_mem_nil, or_false] at h'
    rcases h' with rfl | rfl | rfl <;> rfl)
    (fun k p hp => by
    rw [show pts (cd Try.f18) regletref07_Right.H = [(2, [1, 1, 0, 1, 0, 0, 1, 1]), (1, [1, 1, 0, 1, 0, 0]), (0, [1, 1])] by kernel_rfl] at hp
    simp only [List.mem_cons, List.not_mem_nil, or_false] at hp
    rcases hp with rfl | rfl | rfl
    · exact ptOk_of rfl (regletref07_Right.j2_e k)
    · exact ptOk_of rfl (regletref07_Right.l1_e k)
    · exact ptOk_of rfl (regletref07_Right.j0_e k))
    (fun k x => by kernel_rfl) k
/-! reglet/items.Forced -/
def items_Forced.f (k : Nat) (a0 : api_Item) : Option Bool := if (decide (a0.1 = 3)) = true then (some (decide (a0.2.2.2.2.2.1 ≤ (-10000)))) else (some false)
def items_Forced.sig (k : Nat) : Sig := .p [(true, y19)] [.c false .b] fun x => items_Forced.f k x.1
def items_Forced.E (k : Nat) : List (Nat × Sig) := []
def items_Forced.G (P : Program) : GI := ⟨P, TT, 11, 20, [(1, 11, 9)], [], [], [], [], AD⟩
def items_Forced.H : H := .n
def items_Forced.O (k : Nat) : List (Orc (denR [.c false .b])) := []
theorem items_Forced.go : goesTo Try.prog 28 := ⟨_, Try.func28, by kernel_rfl, rfl⟩
theorem items_Forced.ok (k : Nat) : SigOk Try.prog 28 (items_Forced.sig k) :=
  fn_p (G := items_Forced.G Try.prog) (c := cd Try.f28) (rs := [.tmp 2]) (args := [(true, y19)]) (l := [.c false .b]) (fn := Try.f28) ⟨Try.func28, by kernel_rfl, by kernel_rfl, by kernel_rfl, le_of rfl, le_of rfl, TT_ok, AD_ok⟩ rfl items_Forced.E (fun k p hp => nomatch hp)
    (fun k i => (items_Forced.O k)[i]?) items_Forced.H (fun k x => items_Forced.f k x.1)
    (fun id o y h => by cases id <;> cases h)
    (fun k p hp => by rw [show pts (cd Try.f28) items_Forced.H = [] by kernel_rfl] at hp; nomatch hp)
    (fun k x => by kernel_rfl) k
/-! reglet/items.measure -/
def items_measure.f (k : Nat) (a0 : Int) : Option Bool := if (decide (0 ≤ a0)) = true then (some (decide (a0 ≤ 68719476736))) else (some false)
def items_measure.sig (k : Nat) : Sig := .p [(false, (.i .i64))] [.c false .b] fun x => items_measure.f k x.1
def items_measure.E (k : Nat) : List (Nat × Sig) := []
def items_measure.G (P : Program) : GI := ⟨P, TT, 9, 9, [], [], [], [], [], AD⟩
def items_measure.H : H := .n
def items_measure.O (k : Nat) : List (Orc (denR [.c false .b])) := []
theorem items_measure.go : goesTo Try.prog 47 := ⟨_, Try.func47, by kernel_rfl, rfl⟩
theorem items_measure.ok (k : Nat) : SigOk Try.prog 47 (items_measure.sig k) :=
  fn_p (G := items_measure.G Try.prog) (c := cd Try.f47) (rs := [.tmp 2]) (args := [(false, (.i .i64))]) (l := [.c false .b]) (fn := Try.f47) ⟨Try.func47, by kernel_rfl, by kernel_rfl, by kernel_rfl, le_of rfl, le_of rfl, TT_ok, AD_ok⟩ rfl items_measure.E (fun k p hp => nomatch hp)
    (fun k i => (items_measure.O k)[i]?) items_measure.H (fun k x => items_measure.f k x.1)
    (fun id o y h => by cases id <;> cases h)
    (fun k p hp => by rw [show pts (cd Try.f47) items_measure.H = [] by kernel_rfl] at hp; nomatch hp)
    (fun k x => by kernel_rfl) k
/-! reglet/items.fits -/
mutual
def items_fits.j0 : Nat → api_Item → Option Bool
  | 0, _ => none
  | k + 1, t => if (decide (t.1 = 1)) = true then (if (decide (t.2.2.1 = 0)) = true then (if (decide (t.2.2.2.1 = 0)) = true then (if (decide (t.2.2.2.2.2.1 = 0)) = true then (if (!t.2.2.2.2.1) = true then (some (!t.2.2.2.2.2.2.1)) else (some false)) else (some false)) else (some false)) else (some false)) else (if (decide (t.1 = 2)) = true then (if (decide (t.2.2.2.2.2.1 = 0)) = true then (if (!t.2.2.2.2.2.2.1) = true then (if (!t.2.2.2.2.1) = true then (some true) else (if (decide (t.2.1 = 0)) = true then (some (decide (t.2.2.1 = 0))) else (some false))) else (some false)) else (some false)) else (if (decide (t.1 = 3)) = true then (if (decide (t.2.2.1 = 0)) = true then (if (decide (t.2.2.2.1 = 0)) = true then (if (!t.2.2.2.2.1) = true then (if (decide ((-10000) ≤ t.2.2.2.2.2.1)) = true then (some (decide (t.2.2.2.2.2.1 ≤ 10000))) else (some false)) else (some false)) else (some false)) else (some false)) else (some false)))
end
def items_fits.f (k : Nat) (a0 : api_Item) : Option Bool := (items_measure.f k a0.2.1).bind fun r => if (!r) = true then (some false) else ((items_measure.f k a0.2.2.1).bind fun r2 => if (!r2) = true then (some false) else ((items_measure.f k a0.2.2.2.1).bind fun r3 => if (!r3) = true then (some false) else (if (decide (a0.2.1 < a0.2.2.2.1)) = true then (some false) else (items_fits.j0 k a0))))
def items_fits.sig (k : Nat) : Sig := .p [(true, y19)] [.c false .b] fun x => items_fits.f k x.1
def items_fits.E (k : Nat) : List (Nat × Sig) := [(47, items_measure.sig k)]
def items_fits.G (P : Program) : GI := ⟨P, TT, 103, 112, [(1, 103, 9)], [], [], [], [], AD⟩
def items_fits.H : H := .s .n (.j 0 .n .n)
abbrev items_fits.j0_s : Sh := [(1, .at_ 103), (103, .box y19)]
def items_fits.O (k : Nat) : List (Orc (denR [.c false .b])) := [⟨items_fits.j0_s, fun y => items_fits.j0 k y.2.1⟩]
theorem items_fits.j0_e (k : Nat) (y : denS items_fits.j0_s) : items_fits.j0 (k + 1) y.2.1 = evP ((items_fits.G Try.prog).at (items_fits.E k)) (fun i => (items_fits.O k)[i]?) [1, 1] (cd Try.f37) items_fits.H (kFin ((items_fits.G Try.prog).at (items_fits.E k)) [.tmp 2] [.c false .b]) (unS items_fits.j0_s y) := by rw [items_fits.j0]; kernel_rfl
theorem items_fits.go : goesTo Try.prog 37 := ⟨_, Try.func37, by kernel_rfl, rfl⟩
theorem items_fits.ok (k : Nat) : SigOk Try.prog 37 (items_fits.sig k) :=
  fn_p (G := items_fits.G Try.prog) (c := cd Try.f37) (rs := [.tmp 2]) (args := [(true, y19)]) (l := [.c false .b]) (fn := Try.f37) ⟨Try.func37, by kernel_rfl, by kernel_rfl, by kernel_rfl, le_of rfl, le_of rfl, TT_ok, AD_ok⟩ rfl items_fits.E (fun k p hp => by
    simp only [items_fits.E, List.mem_cons, List.not_mem_nil, or_false] at hp
    rcases hp with rfl
    · exact ⟨items_measure.ok k, items_measure.go⟩)
    (fun k i => (items_fits.O k)[i]?) items_fits.H (fun k x => items_fits.f k x.1)
    (fun id o y h => by
    have h' := List.mem_of_getElem? h
    simp only [items_fits.O, List.mem_cons, List.not_mem_nil, or_false] at h'
    rcases h' with rfl <;> rfl)
    (fun k p hp => by
    rw [show pts (cd Try.f37) items_fits.H = [(0, [1, 1])] by kernel_rfl] at hp
    simp only [List.mem_cons, List.not_mem_nil, or_false] at hp
    rcases hp with rfl
    · exact ptOk_of rfl (items_fits.j0_e k))
    (fun k x => by kernel_rfl) k
/-! reglet/items.Right -/
mutual
def items_Right.j0 : Nat → (List api_Item) → Option Int
  | 0, _ => none
  | k + 1, list => items_Right.l1 k 0 list (list.length : Int) 0
def items_Right.l1 : Nat → Int → (List api_Item) → Int → Int → Option Int
  | 0, _, _, _, _ => none
  | k + 1, at_, t, t2, t3 => if (decide (t3 < t2)) = true then ((at? t t3).bind fun e2 => if (!decide (e2.2.2.2.2.2.2.2.1 = at_)) = true then (some 70) else (if (decide (e2.2.2.2.2.2.2.2.2 < e2.2.2.2.2.2.2.2.1)) = true then (some 70) else (if (decide (65536 < e2.2.2.2.2.2.2.2.2)) = true then (some 70) else ((items_fits.f k e2).bind fun r2 => if (!r2) = true then (some 70) else (items_Right.j2 k t t2 t3 e2))))) else (some 0)
def items_Right.j2 : Nat → (List api_Item) → Int → Int → api_Item → Option Int
  | 0, _, _, _, _ => none
  | k + 1, t4, t5, t6, x => items_Right.l1 k x.2.2.2.2.2.2.2.2 t4 t5 (wrap64 (t6 + 1))
end
def items_Right.f (k : Nat) (a0 : List api_Item) : Option Int := if (decide ((a0.length : Int) = 0)) = true then (some 70) else (if (decide (262144 < (a0.length : Int))) = true then (some 70) else ((at? a0 (wrap64 ((a0.length : Int) - 1))).bind fun e => (items_Forced.f k e).bind fun r => if (!r) = true then (some 70) else (items_Right.j0 k a0)))
def items_Right.sig (k : Nat) : Sig := .p [(false, y21)] [.c false (.i .i64)] fun x => items_Right.f k x.1
def items_Right.E (k : Nat) : List (Nat × Sig) := [(28, items_Forced.sig k), (37, items_fits.sig k)]
def items_Right.G (P : Program) : GI := ⟨P, TT, 54, 63, [(5, 54, 9)], [], [], [], [], AD⟩
def items_Right.H : H := .s .n (.j 0 .n (.s .n (.s (.s .n (.s (.l 1 (.s .n (.s .n (.s (.s (.s .n (.j 2 .n .n)) .n) .n)))) .n)) .n)))
abbrev items_Right.j0_s : Sh := [(0, .v y21)]
abbrev items_Right.l1_s : Sh := [(3, .v (.i .i64)), (24, .v y21), (25, .v (.i .i64)), (26, .v (.i .i64))]
abbrev items_Right.j2_s : Sh := [(5, .at_ 54), (24, .v y21), (25, .v (.i .i64)), (26, .v (.i .i64)), (54, .box y19)]
def items_Right.O (k : Nat) : List (Orc (denR [.c false (.i .i64)])) := [⟨items_Right.j0_s, fun y => items_Right.j0 k y.1⟩, ⟨items_Right.l1_s, fun y => items_Right.l1 k y.1 y.2.1 y.2.2.1 y.2.2.2.1⟩, ⟨items_Right.j2_s, fun y => items_Right.j2 k y.2.1 y.2.2.1 y.2.2.2.1 y.2.2.2.2.1⟩]
theorem items_Right.j2_e (k : Nat) (y : denS items_Right.j2_s) : items_Right.j2 (k + 1) y.2.1 y.2.2.1 y.2.2.2.1 y.2.2.2.2.1 = evP ((items_Right.G Try.prog).at (items_Right.E k)) (fun i => (items_Right.O k)[i]?) [1, 1, 1, 0, 1, 0, 0, 1, 1, 0, 0, 1, 1] (cd Try.f26) items_Right.H (kFin ((items_Right.G Try.prog).at (items_Right.E k)) [.tmp 2] [.c false (.i .i64)]) (unS items_Right.j2_s y) := by rw [items_Right.j2]; kernel_rfl
theorem items_Right.l1_e (k : Nat) (y : denS items_Right.l1_s) : items_Right.l1 (k + 1) y.1 y.2.1 y.2.2.1 y.2.2.2.1 = evP ((items_Right.G Try.prog).at (items_Right.E k)) (fun i => (items_Right.O k)[i]?) [1, 1, 1, 0, 1, 0, 0] (cd Try.f26) items_Right.H (kFin ((items_Right.G Try.prog).at (items_Right.E k)) [.tmp 2] [.c false (.i .i64)]) (unS items_Right.l1_s y) := by rw [items_Right.l1]; kernel_rfl
theorem items_Right.j0_e (k : Nat) (y : denS items_Right.j0_s) : items_Right.j0 (k + 1) y.1 = evP ((items_Right.G Try.prog).at (items_Right.E k)) (fun i => (items_Right.O k)[i]?) [1, 1] (cd Try.f26) items_Right.H (kFin ((items_Right.G Try.prog).at (items_Right.E k)) [.tmp 2] [.c false (.i .i64)]) (unS items_Right.j0_s y) := by rw [items_Right.j0]; kernel_rfl
theorem items_Right.go : goesTo Try.prog 26 := ⟨_, Try.func26, by kernel_rfl, rfl⟩
theorem items_Right.ok (k : Nat) : SigOk Try.prog 26 (items_Right.sig k) :=
  fn_p (G := items_Right.G Try.prog) (c := cd Try.f26) (rs := [.tmp 2]) (args := [(false, y21)]) (l := [.c false (.i .i64)]) (fn := Try.f26) ⟨Try.func26, by kernel_rfl, by kernel_rfl, by kernel_rfl, le_of rfl, le_of rfl, TT_ok, AD_ok⟩ rfl items_Right.E (fun k p hp => by
    simp only [items_Right.E, List.mem_cons, List.not_mem_nil, or_false] at hp
    rcases hp with rfl | rfl
    · exact ⟨items_Forced.ok k, items_Forced.go⟩
    · exact ⟨items_fits.ok k, items_fits.go⟩)
    (fun k i => (items_Right.O k)[i]?) items_Right.H (fun k x => items_Right.f k x.1)
    (fun id o y h => by
    have h' := List.mem_of_getElem? h
    simp only [items_Right.O, List.mem_cons, List.not_mem_nil, or_false] at h'
    rcases h' with rfl | rfl | rfl <;> rfl)
    (fun k p hp => by
    rw [show pts (cd Try.f26) items_Right.H = [(2, [1, 1, 1, 0, 1, 0, 0, 1, 1, 0, 0, 1, 1]), (1, [1, 1, 1, 0, 1, 0, 0]), (0, [1, 1])] by kernel_rfl] at hp
    simp only [List.mem_cons, List.not_mem_nil, or_false] at hp
    rcases hp with rfl | rfl | rfl
    · exact ptOk_of rfl (items_Right.j2_e k)
    · exact ptOk_of rfl (items_Right.l1_e k)
    · exact ptOk_of rfl (items_Right.j0_e k))
    (fun k x => by kernel_rfl) k
/-! reglet/items.Legal -/
mutual
def items_Legal.j0 : Nat → (List api_Item) → Int → Option Bool
  | 0, _, _ => none
  | k + 1, list, k_ => (at? list k_).bind fun e => if (decide (e.1 = 3)) = true then (some (decide (e.2.2.2.2.2.1 < 10000))) else (if (decide (e.1 = 2)) = true then (if (!e.2.2.2.2.1) = true then (if (decide (0 < k_)) = true then ((at? list (wrap64 (k_ - 1))).bind fun e2 => some (decide (e2.1 = 1))) else (some false)) else (some false)) else (some false))
end
def items_Legal.f (k : Nat) (a0 : List api_Item) (a1 : Int) : Option Bool := if (decide (a1 < 0)) = true then (some false) else (if (decide ((a0.length : Int) ≤ a1)) = true then (some false) else (items_Legal.j0 k a0 a1))
def items_Legal.sig (k : Nat) : Sig := .p [(false, y21), (false, (.i .i64))] [.c false .b] fun x => items_Legal.f k x.1 x.2.1
def items_Legal.E (k : Nat) : List (Nat × Sig) := []
def items_Legal.G (P : Program) : GI := ⟨P, TT, 43, 52, [(5, 43, 9)], [], [], [], [], AD⟩
def items_Legal.H : H := .s .n (.j 0 .n .n)
abbrev items_Legal.j0_s : Sh := [(0, .v y21), (1, .v (.i .i64))]
def items_Legal.O (k : Nat) : List (Orc (denR [.c false .b])) := [⟨items_Legal.j0_s, fun y => items_Legal.j0 k y.1 y.2.1⟩]
theorem items_Legal.j0_e (k : Nat) (y : denS items_Legal.j0_s) : items_Legal.j0 (k + 1) y.1 y.2.1 = evP ((items_Legal.G Try.prog).at (items_Legal.E k)) (fun i => (items_Legal.O k)[i]?) [1, 1] (cd Try.f27) items_Legal.H (kFin ((items_Legal.G Try.prog).at (items_Legal.E k)) [.tmp 4] [.c false .b]) (unS items_Legal.j0_s y) := by rw [items_Legal.j0]; kernel_rfl
theorem items_Legal.go : goesTo Try.prog 27 := ⟨_, Try.func27, by kernel_rfl, rfl⟩
theorem items_Legal.ok (k : Nat) : SigOk Try.prog 27 (items_Legal.sig k) :=
  fn_p (G := items_Legal.G Try.prog) (c := cd Try.f27) (rs := [.tmp 4]) (args := [(false, y21), (false, (.i .i64))]) (l := [.c false .b]) (fn := Try.f27) ⟨Try.func27, by kernel_rfl, by kernel_rfl, by kernel_rfl, le_of rfl, le_of rfl, TT_ok, AD_ok⟩ rfl items_Legal.E (fun k p hp => nomatch hp)
    (fun k i => (items_Legal.O k)[i]?) items_Legal.H (fun k x => items_Legal.f k x.1 x.2.1)
    (fun id o y h => by
    have h' := List.mem_of_getElem? h
    simp only [items_Legal.O, List.mem_cons, List.not_mem_nil, or_false] at h'
    rcases h' with rfl <;> rfl)
    (fun k p hp => by
    rw [show pts (cd Try.f27) items_Legal.H = [(0, [1, 1])] by kernel_rfl] at hp
    simp only [List.mem_cons, List.not_mem_nil, or_false] at hp
    rcases hp with rfl
    · exact ptOk_of rfl (items_Legal.j0_e k))
    (fun k x => by kernel_rfl) k
/-! reglet/measure.New -/
mutual
def measure_New.l0 : Nat → (List api_Item) → Int → Int → Int → Int → (List api_Item) → Int → Int → measure_Para → Option (Option measure_Para × Int)
  | 0, _, _, _, _, _, _, _, _, _ => none
  | k + 1, t, t2, t3, t4, t5, t6, t7, t8, t9 => if (decide (t8 < t7)) = true then ((at? t6 t8).bind fun e => if (t9.2.1.length + ([t2] : List Int).length) * 8 ≤ 140737488355328 then (if (t9.2.2.1.length + ([t3] : List Int).length) * 8 ≤ 140737488355328 then (if (t9.2.2.2.1.length + ([t4] : List Int).length) * 8 ≤ 140737488355328 then (if (t9.2.2.2.2.1.length + ([t5] : List Int).length) * 8 ≤ 140737488355328 then (if (decide (e.1 = 3)) = true then (measure_New.j1 k t t2 t3 t4 t5 t8 t6 t7 t8 (t9.1, t9.2.1 ++ ([t2] : List Int), t9.2.2.1 ++ ([t3] : List Int), t9.2.2.2.1 ++ ([t4] : List Int), t9.2.2.2.2.1 ++ ([t5] : List Int), t9.2.2.2.2.2.1, (if t9.2.2.2.2.2.2.1 < e.2.1 then e.2.1 else t9.2.2.2.2.2.2.1), t9.2.2.2.2.2.2.2) e) else (measure_New.j1 k t (wrap64 (t2 + e.2.1)) (wrap64 (t3 + e.2.2.1)) (wrap64 (t4 + e.2.2.2.1)) t5 t8 t6 t7 t8 (t9.1, t9.2.1 ++ ([t2] : List Int), t9.2.2.1 ++ ([t3] : List Int), t9.2.2.2.1 ++ ([t4] : List Int), t9.2.2.2.2.1 ++ ([t5] : List Int), t9.2.2.2.2.2.1, t9.2.2.2.2.2.2.1, t9.2.2.2.2.2.2.2) e)) else none) else none) else none) else none) else (if (t9.2.1.length + ([t2] : List Int).length) * 8 ≤ 140737488355328 then (if (t9.2.2.1.length + ([t3] : List Int).length) * 8 ≤ 140737488355328 then (if (t9.2.2.2.1.length + ([t4] : List Int).length) * 8 ≤ 140737488355328 then (if (t9.2.2.2.2.1.length + ([t5] : List Int).length) * 8 ≤ 140737488355328 then (if (wrap64 ((t.length : Int) + 1)) = (wrap64 ((t.length : Int) + 1)) ∧ 0 ≤ (wrap64 ((t.length : Int) + 1)) ∧ (8 : Int) * (wrap64 ((t.length : Int) + 1)) ≤ 281474976710656 then (if 0 ≤ (t.length : Int) ∧ (t.length : Int) < ((List.replicate ((wrap64 ((t.length : Int) + 1)).toNat) 0 : List Int).length : Int) then (((List.replicate ((wrap64 ((t.length : Int) + 1)).toNat) 0 : List Int)[(t.length : Int).toNat]?).bind fun e2 => measure_New.l2 k t (wrap64 ((t.length : Int) - 1)) (t9.1, t9.2.1 ++ ([t2] : List Int), t9.2.2.1 ++ ([t3] : List Int), t9.2.2.2.1 ++ ([t4] : List Int), t9.2.2.2.2.1 ++ ([t5] : List Int), (List.replicate ((wrap64 ((t.length : Int) + 1)).toNat) 0 : List Int).set ((t.length : Int).toNat) (t.length : Int), t9.2.2.2.2.2.2.1, t9.2.2.2.2.2.2.2)) else none) else none) else none) else none) else none) else none)
def measure_New.j1 : Nat → (List api_Item) → Int → Int → Int → Int → Int → (List api_Item) → Int → Int → measure_Para → api_Item → Option (Option measure_Para × Int)
  | 0, _, _, _, _, _, _, _, _, _, _, _ => none
  | k + 1, t10, t11, t12, t13, t14, t15, t16, t17, t18, t19, t20 => if t20.2.2.2.2.1 = true then (measure_New.j3 k t10 t11 t12 t13 (wrap64 (t14 + 1)) t15 t16 t17 t18 t19) else (measure_New.j3 k t10 t11 t12 t13 t14 t15 t16 t17 t18 t19)
def measure_New.l2 : Nat → (List api_Item) → Int → measure_Para → Option (Option measure_Para × Int)
  | 0, _, _, _ => none
  | k + 1, t21, t22, t23 => if (decide (0 ≤ t22)) = true then (if 0 ≤ t22 ∧ t22 < (t23.2.2.2.2.2.1.length : Int) then ((t23.2.2.2.2.2.1[t22.toNat]?).bind fun e3 => (at? t21 t22).bind fun e4 => if (!decide (e4.1 = 1)) = true then ((items_Forced.f k e4).bind fun r2 => if (!r2) = true then (if (!e4.2.2.2.2.1) = true then (if 0 ≤ (wrap64 (t22 + 1)) ∧ (wrap64 (t22 + 1)) < ((t23.2.2.2.2.2.1.set t22.toNat t22).length : Int) then (((t23.2.2.2.2.2.1.set t22.toNat t22)[(wrap64 (t22 + 1)).toNat]?).bind fun e5 => if 0 ≤ t22 ∧ t22 < ((t23.2.2.2.2.2.1.set t22.toNat t22).length : Int) then (((t23.2.2.2.2.2.1.set t22.toNat t22)[t22.toNat]?).bind fun e6 => measure_New.j4 k t21 t22 (t23.1, t23.2.1, t23.2.2.1, t23.2.2.2.1, t23.2.2.2.2.1, (t23.2.2.2.2.2.1.set t22.toNat t22).set t22.toNat e5, t23.2.2.2.2.2.2.1, t23.2.2.2.2.2.2.2)) else none) else none) else (measure_New.j4 k t21 t22 (t23.1, t23.2.1, t23.2.2.1, t23.2.2.2.1, t23.2.2.2.2.1, t23.2.2.2.2.2.1.set t22.toNat t22, t23.2.2.2.2.2.2.1, t23.2.2.2.2.2.2.2))) else (measure_New.j4 k t21 t22 (t23.1, t23.2.1, t23.2.2.1, t23.2.2.2.1, t23.2.2.2.2.1, t23.2.2.2.2.2.1.set t22.toNat t22, t23.2.2.2.2.2.2.1, t23.2.2.2.2.2.2.2))) else (measure_New.j4 k t21 t22 (t23.1, t23.2.1, t23.2.2.1, t23.2.2.2.1, t23.2.2.2.2.1, t23.2.2.2.2.2.1.set t22.toNat t22, t23.2.2.2.2.2.2.1, t23.2.2.2.2.2.2.2))) else none) else (some (some t23, 0))
def measure_New.j3 : Nat → (List api_Item) → Int → Int → Int → Int → Int → (List api_Item) → Int → Int → measure_Para → Option (Option measure_Para × Int)
  | 0, _, _, _, _, _, _, _, _, _, _ => none
  | k + 1, t24, t25, t26, t27, t28, t29, t30, t31, t32, t33 => (items_Legal.f k t24 t29).bind fun r3 => if r3 = true then (if (t33.2.2.2.2.2.2.2.length + ([t29] : List Int).length) * 8 ≤ 140737488355328 then (measure_New.l0 k t24 t25 t26 t27 t28 t30 t31 (wrap64 (t32 + 1)) (t33.1, t33.2.1, t33.2.2.1, t33.2.2.2.1, t33.2.2.2.2.1, t33.2.2.2.2.2.1, t33.2.2.2.2.2.2.1, t33.2.2.2.2.2.2.2 ++ ([t29] : List Int))) else none) else (measure_New.l0 k t24 t25 t26 t27 t28 t30 t31 (wrap64 (t32 + 1)) t33)
def measure_New.j4 : Nat → (List api_Item) → Int → measure_Para → Option (Option measure_Para × Int)
  | 0, _, _, _ => none
  | k + 1, t34, t35, t36 => measure_New.l2 k t34 (wrap64 (t35 - 1)) t36
end
def measure_New.f (k : Nat) (a0 : List api_Item) : Option (Option measure_Para × Int) := (items_Right.f k a0).bind fun r => if (!decide (r = 0)) = true then (some (none, r)) else (if (([] : List api_Item).length + a0.length) * 72 ≤ 140737488355328 then (measure_New.l0 k a0 0 0 0 0 a0 (a0.length : Int) 0 (([] : List api_Item) ++ a0, ([] : List Int), ([] : List Int), ([] : List Int), ([] : List Int), ([] : List Int), 0, ([] : List Int))) else none)
def measure_New.sig (k : Nat) : Sig := .p [(false, y21)] [.o y29, .c false (.i .i64)] fun x => measure_New.f k x.1
def measure_New.E (k : Nat) : List (Nat × Sig) := [(26, items_Right.sig k), (27, items_Legal.sig k), (28, items_Forced.sig k)]
def measure_New.G (P : Program) : GI := ⟨P, TT, 216, 242, [(23, 216, 8), (11, 224, 9), (13, 233, 9)], [], [], [], [], AD⟩
def measure_New.H : H := .s .n (.s .n (.s .n (.s .n (.s (.s .n (.s (.l 0 (.s .n (.s .n (.s (.s (.s .n (.s .n (.j 1 .n (.j 3 .n .n)))) .n) .n)))) .n)) (.s .n (.s .n (.s .n (.s (.s .n (.s (.l 2 (.s .n (.j 4 .n .n))) .n)) .n))))))))
abbrev measure_New.l0_s : Sh := [(0, .v y21), (5, .at_ 216), (6, .v (.i .i64)), (7, .v (.i .i64)), (8, .v (.i .i64)), (9, .v (.i .i64)), (24, .v y21), (25, .v (.i .i64)), (26, .v (.i .i64)), (216, .box y29)]
abbrev measure_New.j1_s : Sh := [(0, .v y21), (5, .at_ 216), (6, .v (.i .i64)), (7, .v (.i .i64)), (8, .v (.i .i64)), (9, .v (.i .i64)), (10, .v (.i .i64)), (11, .at_ 224), (24, .v y21), (25, .v (.i .i64)), (26, .v (.i .i64)), (216, .box y29), (224, .box y19)]
abbrev measure_New.l2_s : Sh := [(0, .v y21), (5, .at_ 216), (12, .v (.i .i64)), (216, .box y29)]
abbrev measure_New.j3_s : Sh := [(0, .v y21), (5, .at_ 216), (6, .v (.i .i64)), (7, .v (.i .i64)), (8, .v (.i .i64)), (9, .v (.i .i64)), (10, .v (.i .i64)), (24, .v y21), (25, .v (.i .i64)), (26, .v (.i .i64)), (216, .box y29)]
abbrev measure_New.j4_s : Sh := [(0, .v y21), (5, .at_ 216), (12, .v (.i .i64)), (216, .box y29)]
def measure_New.O (k : Nat) : List (Orc (denR [.o y29, .c false (.i .i64)])) := [⟨measure_New.l0_s, fun y => measure_New.l0 k y.1 y.2.2.1 y.2.2.2.1 y.2.2.2.2.1 y.2.2.2.2.2.1 y.2.2.2.2.2.2.1 y.2.2.2.2.2.2.2.1 y.2.2.2.2.2.2.2.2.1 y.2.2.2.2.2.2.2.2.2.1⟩, ⟨measure_New.j1_s, fun y => measure_New.j1 k y.1 y.2.2.1 y.2.2.2.1 y.2.2.2.2.1 y.2.2.2.2.2.1 y.2.2.2.2.2.2.1 y.2.2.2.2.2.2.2.2.1 y.2.2.2.2.2.2.2.2.2.1 y.2.2.2.2.2.2.2.2.2.2.1 y.2.2.2.2.2.2.2.2.2.2.2.1 y.2.2.2.2.2.2.2.2.2.2.2.2.1⟩, ⟨measure_New.l2_s, fun y => measure_New.l2 k y.1 y.2.2.1 y.2.2.2.1⟩, ⟨measure_New.j3_s, fun y => measure_New.j3 k y.1 y.2.2.1 y.2.2.2.1 y.2.2.2.2.1 y.2.2.2.2.2.1 y.2.2.2.2.2.2.1 y.2.2.2.2.2.2.2.1 y.2.2.2.2.2.2.2.2.1 y.2.2.2.2.2.2.2.2.2.1 y.2.2.2.2.2.2.2.2.2.2.1⟩, ⟨measure_New.j4_s, fun y => measure_New.j4 k y.1 y.2.2.1 y.2.2.2.1⟩]
theorem measure_New.j3_e (k : Nat) (y : denS measure_New.j3_s) : measure_New.j3 (k + 1) y.1 y.2.2.1 y.2.2.2.1 y.2.2.2.2.1 y.2.2.2.2.2.1 y.2.2.2.2.2.2.1 y.2.2.2.2.2.2.2.1 y.2.2.2.2.2.2.2.2.1 y.2.2.2.2.2.2.2.2.2.1 y.2.2.2.2.2.2.2.2.2.2.1 = evP ((measure_New.G Try.prog).at (measure_New.E k)) (fun i => (measure_New.O k)[i]?) [1, 1, 1, 1, 0, 1, 0, 0, 1, 1, 0, 0, 1, 1, 1, 1] (cd Try.f19) measure_New.H (kFin ((measure_New.G Try.prog).at (measure_New.E k)) [.tmp 2, .tmp 3] [.o y29, .c false (.i .i64)]) (unS measure_New.j3_s y) := by rw [measure_New.j3]; kernel_rfl
theorem measure_New.j1_e (k : Nat) (y : denS measure_New.j1_s) : measure_New.j1 (k + 1) y.1 y.2.2.1 y.2.2.2.1 y.2.2.2.2.1 y.2.2.2.2.2.1 y.2.2.2.2.2.2.1 y.2.2.2.2.2.2.2.2.1 y.2.2.2.2.2.2.2.2.2.1 y.2.2.2.2.2.2.2.2.2.2.1 y.2.2.2.2.2.2.2.2.2.2.2.1 y.2.2.2.2.2.2.2.2.2.2.2.2.1 = evP ((measure_New.G Try.prog).at (measure_New.E k)) (fun i => (measure_New.O k)[i]?) [1, 1, 1, 1, 0, 1, 0, 0, 1, 1, 0, 0, 1, 1, 1] (cd Try.f19) measure_New.H (kFin ((measure_New.G Try.prog).at (measure_New.E k)) [.tmp 2, .tmp 3] [.o y29, .c false (.i .i64)]) (unS measure_New.j1_s y) := by rw [measure_New.j1]; kernel_rfl
theorem measure_New.l0_e (k : Nat) (y : denS measure_New.l0_s) : measure_New.l0 (k + 1) y.1 y.2.2.1 y.2.2.2.1 y.2.2.2.2.1 y.2.2.2.2.2.1 y.2.2.2.2.2.2.1 y.2.2.2.2.2.2.2.1 y.2.2.2.2.2.2.2.2.1 y.2.2.2.2.2.2.2.2.2.1 = evP ((measure_New.G Try.prog).at (measure_New.E k)) (fun i => (measure_New.O k)[i]?) [1, 1, 1, 1, 0, 1, 0, 0] (cd Try.f19) measure_New.H (kFin ((measure_New.G Try.prog).at (measure_New.E k)) [.tmp 2, .tmp 3] [.o y29, .c false (.i .i64)]) (unS measure_New.l0_s y) := by rw [measure_New.l0]; kernel_rfl
theorem measure_New.j4_e (k : Nat) (y : denS measure_New.j4_s) : measure_New.j4 (k + 1) y.1 y.2.2.1 y.2.2.2.1 = evP ((measure_New.G Try.prog).at (measure_New.E k)) (fun i => (measure_New.O k)[i]?) [1, 1, 1, 1, 1, 1, 1, 1, 0, 1, 0, 0, 1, 1] (cd Try.f19) measure_New.H (kFin ((measure_New.G Try.prog).at (measure_New.E k)) [.tmp 2, .tmp 3] [.o y29, .c false (.i .i64)]) (unS measure_New.j4_s y) := by rw [measure_New.j4]; kernel_rfl
theorem measure_New.l2_e (k : Nat) (y : denS measure_New.l2_s) : measure_New.l2 (k + 1) y.1 y.2.2.1 y.2.2.2.1 = evP ((measure_New.G Try.prog).at (measure_New.E k)) (fun i => (measure_New.O k)[i]?) [1, 1, 1, 1, 1, 1, 1, 1, 0, 1, 0, 0] (cd Try.f19) measure_New.H (kFin ((measure_New.G Try.prog).at (measure_New.E k)) [.tmp 2, .tmp 3] [.o y29, .c false (.i .i64)]) (unS measure_New.l2_s y) := by rw [measure_New.l2]; kernel_rfl
theorem measure_New.go : goesTo Try.prog 19 := ⟨_, Try.func19, by kernel_rfl, rfl⟩
theorem measure_New.ok (k : Nat) : SigOk Try.prog 19 (measure_New.sig k) :=
  fn_p (G := measure_New.G Try.prog) (c := cd Try.f19) (rs := [.tmp 2, .tmp 3]) (args := [(false, y21)]) (l := [.o y29, .c false (.i .i64)]) (fn := Try.f19) ⟨Try.func19, by kernel_rfl, by kernel_rfl, by kernel_rfl, le_of rfl, le_of rfl, TT_ok, AD_ok⟩ rfl measure_New.E (fun k p hp => by
    simp only [measure_New.E, List.mem_cons, List.not_mem_nil, or_false] at hp
    rcases hp with rfl | rfl | rfl
    · exact ⟨items_Right.ok k, items_Right.go⟩
    · exact ⟨items_Legal.ok k, items_Legal.go⟩
    · exact ⟨items_Forced.ok k, items_Forced.go⟩)
    (fun k i => (measure_New.O k)[i]?) measure_New.H (fun k x => measure_New.f k x.1)
    (fun id o y h => by
    have h' := List.mem_of_getElem? h
    simp only [measure_New.O, List.mem_cons, List.not_mem_nil, or_false] at h'
    rcases h' with rfl | rfl | rfl | rfl | rfl <;> rfl)
    (fun k p hp => by
    rw [show pts (cd Try.f19) measure_New.H = [(3, [1, 1, 1, 1, 0, 1, 0, 0, 1, 1, 0, 0, 1, 1, 1, 1]), (1, [1, 1, 1, 1, 0, 1, 0, 0, 1, 1, 0, 0, 1, 1, 1]), (0, [1, 1, 1, 1, 0, 1, 0, 0]), (4, [1, 1, 1, 1, 1, 1, 1, 1, 0, 1, 0, 0, 1, 1]), (2, [1, 1, 1, 1, 1, 1, 1, 1, 0, 1, 0, 0])] by kernel_rfl] at hp
    simp only [List.mem_cons, List.not_mem_nil, or_false] at hp
    rcases hp with rfl | rfl | rfl | rfl | rfl
    · exact ptOk_of rfl (measure_New.j3_e k)
    · exact ptOk_of rfl (measure_New.j1_e k)
    · exact ptOk_of rfl (measure_New.l0_e k)
    · exact ptOk_of rfl (measure_New.j4_e k)
    · exact ptOk_of rfl (measure_New.l2_e k))
    (fun k x => by kernel_rfl) k
/-! reglet/regletlaw08.para -/
mutual
def regletlaw08_para.j0 : Nat → (List api_Item) → Option (Option measure_Para)
  | 0, _ => none
  | k + 1, l => (measure_New.f k l).bind fun r2 => optK r2.1 (if (!decide (r2.2 = 0)) = true then (some none) else (some none)) fun p => if (!decide (r2.2 = 0)) = true then (some none) else (some (some p))
end
def regletlaw08_para.f (k : Nat) (a0 : List api_Item) : Option (Option measure_Para) := if (decide (400 < (a0.length : Int))) = true then (some none) else ((regletref07_Right.f k a0).bind fun r => if (!r) = true then (some none) else (regletlaw08_para.j0 k a0))
def regletlaw08_para.sig (k : Nat) : Sig := .p [(false, y21)] [.o y29] fun x => regletlaw08_para.f k x.1
def regletlaw08_para.E (k : Nat) : List (Nat × Sig) := [(18, regletref07_Right.sig k), (19, measure_New.sig k)]
def regletlaw08_para.G (P : Program) : GI := ⟨P, TT, 21, 21, [], [], [], [], [], AD⟩
def regletlaw08_para.H : H := .s .n (.j 0 .n .n)
abbrev regletlaw08_para.j0_s : Sh := [(0, .v y21)]
def regletlaw08_para.O (k : Nat) : List (Orc (denR [.o y29])) := [⟨regletlaw08_para.j0_s, fun y => regletlaw08_para.j0 k y.1⟩]
theorem regletlaw08_para.j0_e (k : Nat) (y : denS regletlaw08_para.j0_s) : regletlaw08_para.j0 (k + 1) y.1 = evP ((regletlaw08_para.G Try.prog).at (regletlaw08_para.E k)) (fun i => (regletlaw08_para.O k)[i]?) [1, 1] (cd Try.f7) regletlaw08_para.H (kFin ((regletlaw08_para.G Try.prog).at (regletlaw08_para.E k)) [.tmp 2] [.o y29]) (unS regletlaw08_para.j0_s y) := by rw [regletlaw08_para.j0]; kernel_rfl
theorem regletlaw08_para.go : goesTo Try.prog 7 := ⟨_, Try.func7, by kernel_rfl, rfl⟩
theorem regletlaw08_para.ok (k : Nat) : SigOk Try.prog 7 (regletlaw08_para.sig k) :=
  fn_p (G := regletlaw08_para.G Try.prog) (c := cd Try.f7) (rs := [.tmp 2]) (args := [(false, y21)]) (l := [.o y29]) (fn := Try.f7) ⟨Try.func7, by kernel_rfl, by kernel_rfl, by kernel_rfl, le_of rfl, le_of rfl, TT_ok, AD_ok⟩ rfl regletlaw08_para.E (fun k p hp => by
    simp only [regletlaw08_para.E, List.mem_cons, List.not_mem_nil, or_false] at hp
    rcases hp with rfl | rfl
    · exact ⟨regletref07_Right.ok k, regletref07_Right.go⟩
    · exact ⟨measure_New.ok k, measure_New.go⟩)
    (fun k i => (regletlaw08_para.O k)[i]?) regletlaw08_para.H (fun k x => regletlaw08_para.f k x.1)
    (fun id o y h => by
    have h' := List.mem_of_getElem? h
    simp only [regletlaw08_para.O, List.mem_cons, List.not_mem_nil, or_false] at h'
    rcases h' with rfl <;> rfl)
    (fun k p hp => by
    rw [show pts (cd Try.f7) regletlaw08_para.H = [(0, [1, 1])] by kernel_rfl] at hp
    simp only [List.mem_cons, List.not_mem_nil, or_false] at hp
    rcases hp with rfl
    · exact ptOk_of rfl (regletlaw08_para.j0_e k))
    (fun k x => by kernel_rfl) k
/-! (*reglet/measure.Para).Start -/
def measure_Para_Start.f (k : Nat) (a0 : measure_Para) (a1 : Int) : Option Int := if (decide (a1 < 0)) = true then (some 0) else (if (decide ((wrap64 ((a0.1.length : Int) - 1)) ≤ a1)) = true then (some (a0.1.length : Int)) else ((at? a0.2.2.2.2.2.1 (wrap64 (a1 + 1))).bind fun e => some e))
def measure_Para_Start.sig (k : Nat) : Sig := .p [(false, y38), (false, (.i .i64))] [.c false (.i .i64)] fun x => measure_Para_Start.f k x.1 x.2.1
def measure_Para_Start.E (k : Nat) : List (Nat × Sig) := []
def measure_Para_Start.G (P : Program) : GI := ⟨P, TT, 30, 30, [], [], [], [], [], AD⟩
def measure_Para_Start.H : H := .n
def measure_Para_Start.O (k : Nat) : List (Orc (denR [.c false (.i .i64)])) := []
theorem measure_Para_Start.go : goesTo Try.prog 14 := ⟨_, Try.func14, by kernel_rfl, rfl⟩
theorem measure_Para_Start.ok (k : Nat) : SigOk Try.prog 14 (measure_Para_Start.sig k) :=
  fn_p (G := measure_Para_Start.G Try.prog) (c := cd Try.f14) (rs := [.tmp 4]) (args := [(false, y38), (false, (.i .i64))]) (l := [.c false (.i .i64)]) (fn := Try.f14) ⟨Try.func14, by kernel_rfl, by kernel_rfl, by kernel_rfl, le_of rfl, le_of rfl, TT_ok, AD_ok⟩ rfl measure_Para_Start.E (fun k p hp => nomatch hp)
    (fun k i => (measure_Para_Start.O k)[i]?) measure_Para_Start.H (fun k x => measure_Para_Start.f k x.1 x.2.1)
    (fun id o y h => by cases id <;> cases h)
    (fun k p hp => by rw [show pts (cd Try.f14) measure_Para_Start.H = [] by kernel_rfl] at hp; nomatch hp)
    (fun k x => by kernel_rfl) k
/-! (*reglet/measure.Para).Line -/
mutual
def measure_Para_Line.j0 : Nat → measure_Para → Int → Int → measure_Sum → Option measure_Sum
  | 0, _, _, _, _ => none
  | k + 1, t, t2, t3, t4 => (measure_Para_Start.f k t t2).bind fun r => (at? t.2.1 t3).bind fun e => (at? t.2.1 (if t3 < r then t3 else r)).bind fun e2 => (at? t.2.2.1 t3).bind fun e3 => (at? t.2.2.1 (if t3 < r then t3 else r)).bind fun e4 => (at? t.2.2.2.1 t3).bind fun e5 => (at? t.2.2.2.1 (if t3 < r then t3 else r)).bind fun e6 => (at? t.2.2.2.2.1 t3).bind fun e7 => (at? t.2.2.2.2.1 (if t3 < r then t3 else r)).bind fun e8 => (at? t.1 t3).bind fun e9 => if (decide (e9.1 = 3)) = true then ((at? t.1 t3).bind fun e10 => some (wrap64 ((wrap64 (e - e2)) + e10.2.1), wrap64 (e3 - e4), wrap64 (e5 - e6), wrap64 (e7 - e8))) else (some (wrap64 (e - e2), wrap64 (e3 - e4), wrap64 (e5 - e6), wrap64 (e7 - e8)))
end
def measure_Para_Line.f (k : Nat) (a0 : measure_Para) (a1 : Int) (a2 : Int) : Option measure_Sum := if (decide (a2 < 0)) = true then (some (0, 0, 0, 0)) else (if (decide ((a0.1.length : Int) ≤ a2)) = true then (some (0, 0, 0, 0)) else (measure_Para_Line.j0 k a0 a1 a2 (0, 0, 0, 0)))
def measure_Para_Line.sig (k : Nat) : Sig := .p [(false, y38), (false, (.i .i64)), (false, (.i .i64))] [.c true y9] fun x => measure_Para_Line.f k x.1 x.2.1 x.2.2.1
def measure_Para_Line.E (k : Nat) : List (Nat × Sig) := [(14, measure_Para_Start.sig k)]
def measure_Para_Line.G (P : Program) : GI := ⟨P, TT, 109, 117, [(6, 109, 4), (8, 113, 4)], [], [], [], [], AD⟩
def measure_Para_Line.H : H := .s .n (.j 0 .n .n)
abbrev measure_Para_Line.j0_s : Sh := [(0, .v y38), (1, .v (.i .i64)), (2, .v (.i .i64)), (6, .at_ 109), (109, .box y9)]
def measure_Para_Line.O (k : Nat) : List (Orc (denR [.c true y9])) := [⟨measure_Para_Line.j0_s, fun y => measure_Para_Line.j0 k y.1 y.2.1 y.2.2.1 y.2.2.2.2.1⟩]
theorem measure_Para_Line.j0_e (k : Nat) (y : denS measure_Para_Line.j0_s) : measure_Para_Line.j0 (k + 1) y.1 y.2.1 y.2.2.1 y.2.2.2.2.1 = evP ((measure_Para_Line.G Try.prog).at (measure_Para_Line.E k)) (fun i => (measure_Para_Line.O k)[i]?) [1, 1] (cd Try.f10) measure_Para_Line.H (kFin ((measure_Para_Line.G Try.prog).at (measure_Para_Line.E k)) [.cell 6 33] [.c true y9]) (unS measure_Para_Line.j0_s y) := by rw [measure_Para_Line.j0]; kernel_rfl
theorem measure_Para_Line.go : goesTo Try.prog 10 := ⟨_, Try.func10, by kernel_rfl, rfl⟩
theorem measure_Para_Line.ok (k : Nat) : SigOk Try.prog 10 (measure_Para_Line.sig k) :=
  fn_p (G := measure_Para_Line.G Try.prog) (c := cd Try.f10) (rs := [.cell 6 33]) (args := [(false, y38), (false, (.i .i64)), (false, (.i .i64))]) (l := [.c true y9]) (fn := Try.f10) ⟨Try.func10, by kernel_rfl, by kernel_rfl, by kernel_rfl, le_of rfl, le_of rfl, TT_ok, AD_ok⟩ rfl measure_Para_Line.E (fun k p hp => by
    simp only [measure_Para_Line.E, List.mem_cons, List.not_mem_nil, or_false] at hp
    rcases hp with rfl
    · exact ⟨measure_Para_Start.ok k, measure_Para_Start.go⟩)
    (fun k i => (measure_Para_Line.O k)[i]?) measure_Para_Line.H (fun k x => measure_Para_Line.f k x.1 x.2.1 x.2.2.1)
    (fun id o y h => by
    have h' := List.mem_of_getElem? h
    simp only [measure_Para_Line.O, List.mem_cons, List.not_mem_nil, or_false] at h'
    rcases h' with rfl <;> rfl)
    (fun k p hp => by
    rw [show pts (cd Try.f10) measure_Para_Line.H = [(0, [1, 1])] by kernel_rfl] at hp
    simp only [List.mem_cons, List.not_mem_nil, or_false] at hp
    rcases hp with rfl
    · exact ptOk_of rfl (measure_Para_Line.j0_e k))
    (fun k x => by kernel_rfl) k
/-! (*reglet/measure.Para).Fit -/
def measure_Para_Fit.f (k : Nat) (a0 : measure_Para) (a1 : Int) (a2 : Int) (a3 : Int) : Option api_Fit := (measure_Para_Line.f k a0 a1 a2).bind fun r => (measure_Set.f k r a3).bind fun r2 => some r2
def measure_Para_Fit.sig (k : Nat) : Sig := .p [(false, y38), (false, (.i .i64)), (false, (.i .i64)), (false, (.i .i64))] [.c true y6] fun x => measure_Para_Fit.f k x.1 x.2.1 x.2.2.1 x.2.2.2.1
def measure_Para_Fit.E (k : Nat) : List (Nat × Sig) := [(10, measure_Para_Line.sig k), (16, measure_Set.sig k)]
def measure_Para_Fit.G (P : Program) : GI := ⟨P, TT, 15, 20, [(8, 15, 5)], [], [], [], [], AD⟩
def measure_Para_Fit.H : H := .n
def measure_Para_Fit.O (k : Nat) : List (Orc (denR [.c true y6])) := []
theorem measure_Para_Fit.go : goesTo Try.prog 8 := ⟨_, Try.func8, by kernel_rfl, rfl⟩
theorem measure_Para_Fit.ok (k : Nat) : SigOk Try.prog 8 (measure_Para_Fit.sig k) :=
  fn_p (G := measure_Para_Fit.G Try.prog) (c := cd Try.f8) (rs := [.cell 8 28]) (args := [(false, y38), (false, (.i .i64)), (false, (.i .i64)), (false, (.i .i64))]) (l := [.c true y6]) (fn := Try.f8) ⟨Try.func8, by kernel_rfl, by kernel_rfl, by kernel_rfl, le_of rfl, le_of rfl, TT_ok, AD_ok⟩ rfl measure_Para_Fit.E (fun k p hp => by
    simp only [measure_Para_Fit.E, List.mem_cons, List.not_mem_nil, or_false] at hp
    rcases hp with rfl | rfl
    · exact ⟨measure_Para_Line.ok k, measure_Para_Line.go⟩
    · exact ⟨measure_Set.ok k, measure_Set.go⟩)
    (fun k i => (measure_Para_Fit.O k)[i]?) measure_Para_Fit.H (fun k x => measure_Para_Fit.f k x.1 x.2.1 x.2.2.1 x.2.2.2.1)
    (fun id o y h => by cases id <;> cases h)
    (fun k p hp => by rw [show pts (cd Try.f8) measure_Para_Fit.H = [] by kernel_rfl] at hp; nomatch hp)
    (fun k x => by kernel_rfl) k
/-! reglet/regletref08.Start -/
mutual
def regletref08_Start.l0 : Nat → (List api_Item) → Int → Int → Option Int
  | 0, _, _, _ => none
  | k + 1, l, a, k_ => if (decide (k_ < (l.length : Int))) = true then (if (decide (a < k_)) = true then ((at? l k_).bind fun e => if (decide (e.1 = 1)) = true then (some k_) else ((at? l k_).bind fun e2 => (regletref07_Forced.f k e2).bind fun r => if r = true then (some k_) else ((at? l k_).bind fun e3 => if (decide (e3.1 = 2)) = true then ((at? l k_).bind fun e4 => if e4.2.2.2.2.1 = true then (some k_) else (regletref08_Start.j1 k l a k_)) else (regletref08_Start.j1 k l a k_)))) else (regletref08_Start.j1 k l a k_)) else (some (l.length : Int))
def regletref08_Start.j1 : Nat → (List api_Item) → Int → Int → Option Int
  | 0, _, _, _ => none
  | k + 1, l2, a2, k_2 => regletref08_Start.l0 k l2 a2 (wrap64 (k_2 + 1))
end
def regletref08_Start.f (k : Nat) (a0 : List api_Item) (a1 : Int) : Option Int := if (decide (a1 < 0)) = true then (some 0) else (regletref08_Start.l0 k a0 a1 a1)
def regletref08_Start.sig (k : Nat) : Sig := .p [(false, y21), (false, (.i .i64))] [.c false (.i .i64)] fun x => regletref08_Start.f k x.1 x.2.1
def regletref08_Start.E (k : Nat) : List (Nat × Sig) := [(22, regletref07_Forced.sig k)]
def regletref08_Start.G (P : Program) : GI := ⟨P, TT, 51, 51, [], [], [], [], [], AD⟩
def regletref08_Start.H : H := .s .n (.s .n (.s (.s .n (.s (.l 0 (.s .n (.j 1 .n .n))) .n)) .n))
abbrev regletref08_Start.l0_s : Sh := [(0, .v y21), (1, .v (.i .i64)), (5, .v (.i .i64))]
abbrev regletref08_Start.j1_s : Sh := [(0, .v y21), (1, .v (.i .i64)), (5, .v (.i .i64))]
def regletref08_Start.O (k : Nat) : List (Orc (denR [.c false (.i .i64)])) := [⟨regletref08_Start.l0_s, fun y => regletref08_Start.l0 k y.1 y.2.1 y.2.2.1⟩, ⟨regletref08_Start.j1_s, fun y => regletref08_Start.j1 k y.1 y.2.1 y.2.2.1⟩]
theorem regletref08_Start.j1_e (k : Nat) (y : denS regletref08_Start.j1_s) : regletref08_Start.j1 (k + 1) y.1 y.2.1 y.2.2.1 = evP ((regletref08_Start.G Try.prog).at (regletref08_Start.E k)) (fun i => (regletref08_Start.O k)[i]?) [1, 1, 0, 1, 0, 0, 1, 1] (cd Try.f15) regletref08_Start.H (kFin ((regletref08_Start.G Try.prog).at (regletref08_Start.E k)) [.tmp 4] [.c false (.i .i64)]) (unS regletref08_Start.j1_s y) := by rw [regletref08_Start.j1]; kernel_rfl
theorem regletref08_Start.l0_e (k : Nat) (y : denS regletref08_Start.l0_s) : regletref08_Start.l0 (k + 1) y.1 y.2.1 y.2.2.1 = evP ((regletref08_Start.G Try.prog).at (regletref08_Start.E k)) (fun i => (regletref08_Start.O k)[i]?) [1, 1, 0, 1, 0, 0] (cd Try.f15) regletref08_Start.H (kFin ((regletref08_Start.G Try.prog).at (regletref08_Start.E k)) [.tmp 4] [.c false (.i .i64)]) (unS regletref08_Start.l0_s y) := by rw [regletref08_Start.l0]; kernel_rfl
theorem regletref08_Start.go : goesTo Try.prog 15 := ⟨_, Try.func15, by kernel_rfl, rfl⟩
theorem regletref08_Start.ok (k : Nat) : SigOk Try.prog 15 (regletref08_Start.sig k) :=
  fn_p (G := regletref08_Start.G Try.prog) (c := cd Try.f15) (rs := [.tmp 4]) (args := [(false, y21), (false, (.i .i64))]) (l := [.c false (.i .i64)]) (fn := Try.f15) ⟨Try.func15, by kernel_rfl, by kernel_rfl, by kernel_rfl, le_of rfl, le_of rfl, TT_ok, AD_ok⟩ rfl regletref08_Start.E (fun k p hp => by
    simp only [regletref08_Start.E, List.mem_cons, List.not_mem_nil, or_false] at hp
    rcases hp with rfl
    · exact ⟨regletref07_Forced.ok k, regletref07_Forced.go⟩)
    (fun k i => (regletref08_Start.O k)[i]?) regletref08_Start.H (fun k x => regletref08_Start.f k x.1 x.2.1)
    (fun id o y h => by
    have h' := List.mem_of_getElem? h
    simp only [regletref08_Start.O, List.mem_cons, List.not_mem_nil, or_false] at h'
    rcases h' with rfl | rfl <;> rfl)
    (fun k p hp => by
    rw [show pts (cd Try.f15) regletref08_Start.H = [(1, [1, 1, 0, 1, 0, 0, 1, 1]), (0, [1, 1, 0, 1, 0, 0])] by kernel_rfl] at hp
    simp only [List.mem_cons, List.not_mem_nil, or_false] at hp
    rcases hp with rfl | rfl
    · exact ptOk_of rfl (regletref08_Start.j1_e k)
    · exact ptOk_of rfl (regletref08_Start.l0_e k))
    (fun k x => by kernel_rfl) k
/-! reglet/regletref08.Line -/
mutual
def regletref08_Line.j0 : Nat → (List api_Item) → Int → Int → measure_Sum → measure_Sum → Option (measure_Sum × Bool)
  | 0, _, _, _, _, _ => none
  | k + 1, t, t2, t3, t4, t5 => (regletref08_Start.f k t t2).bind fun r => regletref08_Line.l1 k t t3 r t4 t5
def regletref08_Line.l1 : Nat → (List api_Item) → Int → Int → measure_Sum → measure_Sum → Option (measure_Sum × Bool)
  | 0, _, _, _, _, _ => none
  | k + 1, t6, t7, t8, t9, t10 => if (decide (t8 < t7)) = true then ((at? t6 t8).bind fun e => if (!decide (e.1 = 3)) = true then ((at? t6 t8).bind fun e2 => (at? t6 t8).bind fun e3 => (at? t6 t8).bind fun e4 => regletref08_Line.j2 k t6 t7 t8 t9 (wrap64 (t10.1 + e2.2.1), wrap64 (t10.2.1 + e3.2.2.1), wrap64 (t10.2.2.1 + e4.2.2.2.1), t10.2.2.2)) else (regletref08_Line.j2 k t6 t7 t8 t9 t10)) else (some (t10, true))
def regletref08_Line.j2 : Nat → (List api_Item) → Int → Int → measure_Sum → measure_Sum → Option (measure_Sum × Bool)
  | 0, _, _, _, _, _ => none
  | k + 1, t11, t12, t13, t14, t15 => (at? t11 t13).bind fun e5 => if e5.2.2.2.2.1 = true then (regletref08_Line.j3 k t11 t12 t13 t14 (t15.1, t15.2.1, t15.2.2.1, wrap64 (t15.2.2.2 + 1))) else (regletref08_Line.j3 k t11 t12 t13 t14 t15)
def regletref08_Line.j3 : Nat → (List api_Item) → Int → Int → measure_Sum → measure_Sum → Option (measure_Sum × Bool)
  | 0, _, _, _, _, _ => none
  | k + 1, t16, t17, t18, t19, t20 => regletref08_Line.l1 k t16 t17 (wrap64 (t18 + 1)) t19 t20
end
def regletref08_Line.f (k : Nat) (a0 : List api_Item) (a1 : Int) (a2 : Int) : Option (measure_Sum × Bool) := if (decide (a2 < 0)) = true then (some ((0, 0, 0, 0), false)) else (if (decide ((a0.length : Int) ≤ a2)) = true then (some ((0, 0, 0, 0), false)) else (regletref08_Line.j0 k a0 a1 a2 (0, 0, 0, 0) (0, 0, 0, 0)))
def regletref08_Line.sig (k : Nat) : Sig := .p [(false, y21), (false, (.i .i64)), (false, (.i .i64))] [.c true y9, .c false .b] fun x => regletref08_Line.f k x.1 x.2.1 x.2.2.1
def regletref08_Line.E (k : Nat) : List (Nat × Sig) := [(15, regletref08_Start.sig k)]
def regletref08_Line.G (P : Program) : GI := ⟨P, TT, 70, 78, [(6, 70, 4), (8, 74, 4)], [], [], [], [], AD⟩
def regletref08_Line.H : H := .s .n (.s .n (.j 0 .n (.s (.s .n (.s (.l 1 (.s .n (.j 3 (.s (.j 2 .n .n) .n) .n))) .n)) .n)))
abbrev regletref08_Line.j0_s : Sh := [(0, .v y21), (1, .v (.i .i64)), (2, .v (.i .i64)), (6, .at_ 70), (8, .at_ 74), (70, .box y9), (74, .box y9)]
abbrev regletref08_Line.l1_s : Sh := [(0, .v y21), (2, .v (.i .i64)), (6, .at_ 70), (8, .at_ 74), (9, .v (.i .i64)), (70, .box y9), (74, .box y9)]
abbrev regletref08_Line.j2_s : Sh := [(0, .v y21), (2, .v (.i .i64)), (6, .at_ 70), (8, .at_ 74), (9, .v (.i .i64)), (70, .box y9), (74, .box y9)]
abbrev regletref08_Line.j3_s : Sh := [(0, .v y21), (2, .v (.i .i64)), (6, .at_ 70), (8, .at_ 74), (9, .v (.i .i64)), (70, .box y9), (74, .box y9)]
def regletref08_Line.O (k : Nat) : List (Orc (denR [.c true y9, .c false .b])) := [⟨regletref08_Line.j0_s, fun y => regletref08_Line.j0 k y.1 y.2.1 y.2.2.1 y.2.2.2.2.2.1 y.2.2.2.2.2.2.1⟩, ⟨regletref08_Line.l1_s, fun y => regletref08_Line.l1 k y.1 y.2.1 y.2.2.2.2.1 y.2.2.2.2.2.1 y.2.2.2.2.2.2.1⟩, ⟨regletref08_Line.j2_s, fun y => regletref08_Line.j2 k y.1 y.2.1 y.2.2.2.2.1 y.2.2.2.2.2.1 y.2.2.2.2.2.2.1⟩, ⟨regletref08_Line.j3_s, fun y => regletref08_Line.j3 k y.1 y.2.1 y.2.2.2.2.1 y.2.2.2.2.2.1 y.2.2.2.2.2.2.1⟩]
theorem regletref08_Line.j2_e (k : Nat) (y : denS regletref08_Line.j2_s) : regletref08_Line.j2 (k + 1) y.1 y.2.1 y.2.2.2.2.1 y.2.2.2.2.2.1 y.2.2.2.2.2.2.1 = evP ((regletref08_Line.G Try.prog).at (regletref08_Line.E k)) (fun i => (regletref08_Line.O k)[i]?) [1, 1, 1, 0, 1, 0, 0, 1, 0, 0, 1] (cd Try.f12) regletref08_Line.H (kFin ((regletref08_Line.G Try.prog).at (regletref08_Line.E k)) [.cell 6 35, .tmp 7] [.c true y9, .c false .b]) (unS regletref08_Line.j2_s y) := by rw [regletref08_Line.j2]; kernel_rfl
theorem regletref08_Line.j3_e (k : Nat) (y : denS regletref08_Line.j3_s) : regletref08_Line.j3 (k + 1) y.1 y.2.1 y.2.2.2.2.1 y.2.2.2.2.2.1 y.2.2.2.2.2.2.1 = evP ((regletref08_Line.G Try.prog).at (regletref08_Line.E k)) (fun i => (regletref08_Line.O k)[i]?) [1, 1, 1, 0, 1, 0, 0, 1, 1] (cd Try.f12) regletref08_Line.H (kFin ((regletref08_Line.G Try.prog).at (regletref08_Line.E k)) [.cell 6 35, .tmp 7] [.c true y9, .c false .b]) (unS regletref08_Line.j3_s y) := by rw [regletref08_Line.j3]; kernel_rfl
theorem regletref08_Line.l1_e (k : Nat) (y : denS regletref08_Line.l1_s) : regletref08_Line.l1 (k + 1) y.1 y.2.1 y.2.2.2.2.1 y.2.2.2.2.2.1 y.2.2.2.2.2.2.1 = evP ((regletref08_Line.G Try.prog).at (regletref08_Line.E k)) (fun i => (regletref08_Line.O k)[i]?) [1, 1, 1, 0, 1, 0, 0] (cd Try.f12) regletref08_Line.H (kFin ((regletref08_Line.G Try.prog).at (regletref08_Line.E k)) [.cell 6 35, .tmp 7] [.c true y9, .c false .b]) (unS regletref08_Line.l1_s y) := by rw [regletref08_Line.l1]; kernel_rfl
theorem regletref08_Line.j0_e (k : Nat) (y : denS regletref08_Line.j0_s) : regletref08_Line.j0 (k + 1) y.1 y.2.1 y.2.2.1 y.2.2.2.2.2.1 y.2.2.2.2.2.2.1 = evP ((regletref08_Line.G Try.prog).at (regletref08_Line.E k)) (fun i => (regletref08_Line.O k)[i]?) [1, 1, 1] (cd Try.f12) regletref08_Line.H (kFin ((regletref08_Line.G Try.prog).at (regletref08_Line.E k)) [.cell 6 35, .tmp 7] [.c true y9, .c false .b]) (unS regletref08_Line.j0_s y) := by rw [regletref08_Line.j0]; kernel_rfl
theorem regletref08_Line.go : goesTo Try.prog 12 := ⟨_, Try.func12, by kernel_rfl, rfl⟩
theorem regletref08_Line.ok (k : Nat) : SigOk Try.prog 12 (regletref08_Line.sig k) :=
  fn_p (G := regletref08_Line.G Try.prog) (c := cd Try.f12) (rs := [.cell 6 35, .tmp 7]) (args := [(false, y21), (false, (.i .i64)), (false, (.i .i64))]) (l := [.c true y9, .c false .b]) (fn := Try.f12) ⟨Try.func12, by kernel_rfl, by kernel_rfl, by kernel_rfl, le_of rfl, le_of rfl, TT_ok, AD_ok⟩ rfl regletref08_Line.E (fun k p hp => by
    simp only [regletref08_Line.E, List.mem_cons, List.not_mem_nil, or_false] at hp
    rcases hp with rfl
    · exact ⟨regletref08_Start.ok k, regletref08_Start.go⟩)
    (fun k i => (regletref08_Line.O k)[i]?) regletref08_Line.H (fun k x => regletref08_Line.f k x.1 x.2.1 x.2.2.1)
    (fun id o y h => by
    have h' := List.mem_of_getElem? h
    simp only [regletref08_Line.O, List.mem_cons, List.not_mem_nil, or_false] at h'
    rcases h' with rfl | rfl | rfl | rfl <;> rfl)
    (fun k p hp => by
    rw [show pts (cd Try.f12) regletref08_Line.H = [(2, [1, 1, 1, 0, 1, 0, 0, 1, 0, 0, 1]), (3, [1, 1, 1, 0, 1, 0, 0, 1, 1]), (1, [1, 1, 1, 0, 1, 0, 0]), (0, [1, 1, 1])] by kernel_rfl] at hp
    simp only [List.mem_cons, List.not_mem_nil, or_false] at hp
    rcases hp with rfl | rfl | rfl | rfl
    · exact ptOk_of rfl (regletref08_Line.j2_e k)
    · exact ptOk_of rfl (regletref08_Line.j3_e k)
    · exact ptOk_of rfl (regletref08_Line.l1_e k)
    · exact ptOk_of rfl (regletref08_Line.j0_e k))
    (fun k x => by kernel_rfl) k
/-! reglet/regletref08.Whole -/
def regletref08_Whole.f (k : Nat) (a0 : List api_Item) (a1 : Int) (a2 : Int) : Option measure_Sum := (regletref08_Line.f k a0 a1 a2).bind fun r => if r.2 = true then ((at? a0 a2).bind fun e => if (decide (e.1 = 3)) = true then ((at? a0 a2).bind fun e2 => some (wrap64 (r.1.1 + e2.2.1), r.1.2.1, r.1.2.2.1, r.1.2.2.2)) else (some r.1)) else (some r.1)
def regletref08_Whole.sig (k : Nat) : Sig := .p [(false, y21), (false, (.i .i64)), (false, (.i .i64))] [.c true y9] fun x => regletref08_Whole.f k x.1 x.2.1 x.2.2.1
def regletref08_Whole.E (k : Nat) : List (Nat × Sig) := [(12, regletref08_Line.sig k)]
def regletref08_Whole.G (P : Program) : GI := ⟨P, TT, 35, 43, [(6, 35, 4), (7, 39, 4)], [], [], [], [], AD⟩
def regletref08_Whole.H : H := .n
def regletref08_Whole.O (k : Nat) : List (Orc (denR [.c true y9])) := []
theorem regletref08_Whole.go : goesTo Try.prog 11 := ⟨_, Try.func11, by kernel_rfl, rfl⟩
theorem regletref08_Whole.ok (k : Nat) : SigOk Try.prog 11 (regletref08_Whole.sig k) :=
  fn_p (G := regletref08_Whole.G Try.prog) (c := cd Try.f11) (rs := [.cell 6 35]) (args := [(false, y21), (false, (.i .i64)), (false, (.i .i64))]) (l := [.c true y9]) (fn := Try.f11) ⟨Try.func11, by kernel_rfl, by kernel_rfl, by kernel_rfl, le_of rfl, le_of rfl, TT_ok, AD_ok⟩ rfl regletref08_Whole.E (fun k p hp => by
    simp only [regletref08_Whole.E, List.mem_cons, List.not_mem_nil, or_false] at hp
    rcases hp with rfl
    · exact ⟨regletref08_Line.ok k, regletref08_Line.go⟩)
    (fun k i => (regletref08_Whole.O k)[i]?) regletref08_Whole.H (fun k x => regletref08_Whole.f k x.1 x.2.1 x.2.2.1)
    (fun id o y h => by cases id <;> cases h)
    (fun k p hp => by rw [show pts (cd Try.f11) regletref08_Whole.H = [] by kernel_rfl] at hp; nomatch hp)
    (fun k x => by kernel_rfl) k
/-! reglet/regletref01.Clamp -/
def regletref01_Clamp.f (k : Nat) (a0 : Int) : Option Int := if (decide (1152921504606846976 < a0)) = true then (some 1152921504606846976) else (if (decide (a0 < (-1152921504606846976))) = true then (some (-1152921504606846976)) else (some a0))
def regletref01_Clamp.sig (k : Nat) : Sig := .p [(false, (.i .i64))] [.c false (.i .i64)] fun x => regletref01_Clamp.f k x.1
def regletref01_Clamp.E (k : Nat) : List (Nat × Sig) := []
def regletref01_Clamp.G (P : Program) : GI := ⟨P, TT, 8, 8, [], [], [], [], [], AD⟩
def regletref01_Clamp.H : H := .n
def regletref01_Clamp.O (k : Nat) : List (Orc (denR [.c false (.i .i64)])) := []
theorem regletref01_Clamp.go : goesTo Try.prog 38 := ⟨_, Try.func38, by kernel_rfl, rfl⟩
theorem regletref01_Clamp.ok (k : Nat) : SigOk Try.prog 38 (regletref01_Clamp.sig k) :=
  fn_p (G := regletref01_Clamp.G Try.prog) (c := cd Try.f38) (rs := [.tmp 2]) (args := [(false, (.i .i64))]) (l := [.c false (.i .i64)]) (fn := Try.f38) ⟨Try.func38, by kernel_rfl, by kernel_rfl, by kernel_rfl, le_of rfl, le_of rfl, TT_ok, AD_ok⟩ rfl regletref01_Clamp.E (fun k p hp => nomatch hp)
    (fun k i => (regletref01_Clamp.O k)[i]?) regletref01_Clamp.H (fun k x => regletref01_Clamp.f k x.1)
    (fun id o y h => by cases id <;> cases h)
    (fun k p hp => by rw [show pts (cd Try.f38) regletref01_Clamp.H = [] by kernel_rfl] at hp; nomatch hp)
    (fun k x => by kernel_rfl) k
/-! reglet/regletref01.bare -/
mutual
def regletref01_bare.l0 : Nat → (List Int) → Int → Option (List Int)
  | 0, _, _ => none
  | k + 1, a, n => if (decide (0 < n)) = true then ((at? a (wrap64 (n - 1))).bind fun e => if (decide (e = 0)) = true then (regletref01_bare.j1 k a n) else (regletref01_bare.j2 k a n)) else (regletref01_bare.j2 k a n)
def regletref01_bare.j1 : Nat → (List Int) → Int → Option (List Int)
  | 0, _, _ => none
  | k + 1, a2, n2 => regletref01_bare.l0 k a2 (wrap64 (n2 - 1))
def regletref01_bare.j2 : Nat → (List Int) → Int → Option (List Int)
  | 0, _, _ => none
  | k + 1, a3, n3 => if 0 ≤ (0 : Int) ∧ (0 : Int) ≤ n3 ∧ n3 ≤ (a3.length : Int) then (if (([] : List Int).length + ((a3.drop ((0 : Int).toNat)).take (n3.toNat - (0 : Int).toNat)).length) * 8 ≤ 140737488355328 then (some (([] : List Int) ++ ((a3.drop ((0 : Int).toNat)).take (n3.toNat - (0 : Int).toNat)))) else none) else none
end
def regletref01_bare.f (k : Nat) (a0 : List Int) : Option (List Int) := regletref01_bare.l0 k a0 (a0.length : Int)
def regletref01_bare.sig (k : Nat) : Sig := .p [(false, y30)] [.c false y20] fun x => regletref01_bare.f k x.1
def regletref01_bare.E (k : Nat) : List (Nat × Sig) := []
def regletref01_bare.G (P : Program) : GI := ⟨P, TT, 23, 23, [], [], [], [], [], AD⟩
def regletref01_bare.H : H := .s .n (.s .n (.j 2 (.s (.l 0 (.j 1 .n .n)) .n) .n))
abbrev regletref01_bare.l0_s : Sh := [(0, .v y30), (3, .v (.i .i64))]
abbrev regletref01_bare.j1_s : Sh := [(0, .v y30), (3, .v (.i .i64))]
abbrev regletref01_bare.j2_s : Sh := [(0, .v y30), (3, .v (.i .i64))]
def regletref01_bare.O (k : Nat) : List (Orc (denR [.c false y20])) := [⟨regletref01_bare.l0_s, fun y => regletref01_bare.l0 k y.1 y.2.1⟩, ⟨regletref01_bare.j1_s, fun y => regletref01_bare.j1 k y.1 y.2.1⟩, ⟨regletref01_bare.j2_s, fun y => regletref01_bare.j2 k y.1 y.2.1⟩]
theorem regletref01_bare.j1_e (k : Nat) (y : denS regletref01_bare.j1_s) : regletref01_bare.j1 (k + 1) y.1 y.2.1 = evP ((regletref01_bare.G Try.prog).at (regletref01_bare.E k)) (fun i => (regletref01_bare.O k)[i]?) [1, 1, 0, 0, 0, 1] (cd Try.f48) regletref01_bare.H (kFin ((regletref01_bare.G Try.prog).at (regletref01_bare.E k)) [.tmp 2] [.c false y20]) (unS regletref01_bare.j1_s y) := by rw [regletref01_bare.j1]; kernel_rfl
theorem regletref01_bare.l0_e (k : Nat) (y : denS regletref01_bare.l0_s) : regletref01_bare.l0 (k + 1) y.1 y.2.1 = evP ((regletref01_bare.G Try.prog).at (regletref01_bare.E k)) (fun i => (regletref01_bare.O k)[i]?) [1, 1, 0, 0, 0] (cd Try.f48) regletref01_bare.H (kFin ((regletref01_bare.G Try.prog).at (regletref01_bare.E k)) [.tmp 2] [.c false y20]) (unS regletref01_bare.l0_s y) := by rw [regletref01_bare.l0]; kernel_rfl
theorem regletref01_bare.j2_e (k : Nat) (y : denS regletref01_bare.j2_s) : regletref01_bare.j2 (k + 1) y.1 y.2.1 = evP ((regletref01_bare.G Try.prog).at (regletref01_bare.E k)) (fun i => (regletref01_bare.O k)[i]?) [1, 1, 1] (cd Try.f48) regletref01_bare.H (kFin ((regletref01_bare.G Try.prog).at (regletref01_bare.E k)) [.tmp 2] [.c false y20]) (unS regletref01_bare.j2_s y) := by rw [regletref01_bare.j2]; kernel_rfl
theorem regletref01_bare.go : goesTo Try.prog 48 := ⟨_, Try.func48, by kernel_rfl, rfl⟩
theorem regletref01_bare.ok (k : Nat) : SigOk Try.prog 48 (regletref01_bare.sig k) :=
  fn_p (G := regletref01_bare.G Try.prog) (c := cd Try.f48) (rs := [.tmp 2]) (args := [(false, y30)]) (l := [.c false y20]) (fn := Try.f48) ⟨Try.func48, by kernel_rfl, by kernel_rfl, by kernel_rfl, le_of rfl, le_of rfl, TT_ok, AD_ok⟩ rfl regletref01_bare.E (fun k p hp => nomatch hp)
    (fun k i => (regletref01_bare.O k)[i]?) regletref01_bare.H (fun k x => regletref01_bare.f k x.1)
    (fun id o y h => by
    have h' := List.mem_of_getElem? h
    simp only [regletref01_bare.O, List.mem_cons, List.not_mem_nil, or_false] at h'
    rcases h' with rfl | rfl | rfl <;> rfl)
    (fun k p hp => by
    rw [show pts (cd Try.f48) regletref01_bare.H = [(1, [1, 1, 0, 0, 0, 1]), (0, [1, 1, 0, 0, 0]), (2, [1, 1, 1])] by kernel_rfl] at hp
    simp only [List.mem_cons, List.not_mem_nil, or_false] at hp
    rcases hp with rfl | rfl | rfl
    · exact ptOk_of rfl (regletref01_bare.j1_e k)
    · exact ptOk_of rfl (regletref01_bare.l0_e k)
    · exact ptOk_of rfl (regletref01_bare.j2_e k))
    (fun k x => by kernel_rfl) k
/-! reglet/regletref01.Times -/
mutual
def regletref01_Times.l0 : Nat → (List Int) → (List Int) → (List Int) → Int → Option (List Int)
  | 0, _, _, _, _ => none
  | k + 1, t, t2, t3, t4 => if (decide (t4 < (t.length : Int))) = true then (regletref01_Times.l1 k t t2 t3 t4 0) else (regletref01_Times.l2 k t3 0)
def regletref01_Times.l1 : Nat → (List Int) → (List Int) → (List Int) → Int → Int → Option (List Int)
  | 0, _, _, _, _, _ => none
  | k + 1, t5, t6, t7, t8, t9 => if (decide (t9 < (t6.length : Int))) = true then (if 0 ≤ (wrap64 (t8 + t9)) ∧ (wrap64 (t8 + t9)) < (t7.length : Int) then ((t7[(wrap64 (t8 + t9)).toNat]?).bind fun e => (at? t5 t8).bind fun e2 => (at? t6 t9).bind fun e3 => if 0 ≤ (wrap64 (t8 + t9)) ∧ (wrap64 (t8 + t9)) < (t7.length : Int) then ((t7[(wrap64 (t8 + t9)).toNat]?).bind fun e4 => if 0 ≤ (wrap64 ((wrap64 (t8 + t9)) + 1)) ∧ (wrap64 ((wrap64 (t8 + t9)) + 1)) < ((t7.set ((wrap64 (t8 + t9)).toNat) (wrap64 (e + (wrap64 (e2 * e3))))).length : Int) then (((t7.set ((wrap64 (t8 + t9)).toNat) (wrap64 (e + (wrap64 (e2 * e3)))))[(wrap64 ((wrap64 (t8 + t9)) + 1)).toNat]?).bind fun e5 => if 0 ≤ (wrap64 (t8 + t9)) ∧ (wrap64 (t8 + t9)) < ((t7.set ((wrap64 (t8 + t9)).toNat) (wrap64 (e + (wrap64 (e2 * e3))))).length : Int) then (((t7.set ((wrap64 (t8 + t9)).toNat) (wrap64 (e + (wrap64 (e2 * e3)))))[(wrap64 (t8 + t9)).toNat]?).bind fun e6 => if 0 ≤ (wrap64 ((wrap64 (t8 + t9)) + 1)) ∧ (wrap64 ((wrap64 (t8 + t9)) + 1)) < ((t7.set ((wrap64 (t8 + t9)).toNat) (wrap64 (e + (wrap64 (e2 * e3))))).length : Int) then (((t7.set ((wrap64 (t8 + t9)).toNat) (wrap64 (e + (wrap64 (e2 * e3)))))[(wrap64 ((wrap64 (t8 + t9)) + 1)).toNat]?).bind fun e7 => if 0 ≤ (wrap64 (t8 + t9)) ∧ (wrap64 (t8 + t9)) < (((t7.set ((wrap64 (t8 + t9)).toNat) (wrap64 (e + (wrap64 (e2 * e3))))).set ((wrap64 ((wrap64 (t8 + t9)) + 1)).toNat) (wrap64 (e5 + (wrap64 (e6.tdiv 1000))))).length : Int) then ((((t7.set ((wrap64 (t8 + t9)).toNat) (wrap64 (e + (wrap64 (e2 * e3))))).set ((wrap64 ((wrap64 (t8 + t9)) + 1)).toNat) (wrap64 (e5 + (wrap64 (e6.tdiv 1000)))))[(wrap64 (t8 + t9)).toNat]?).bind fun e8 => if 0 ≤ (wrap64 (t8 + t9)) ∧ (wrap64 (t8 + t9)) < (((t7.set ((wrap64 (t8 + t9)).toNat) (wrap64 (e + (wrap64 (e2 * e3))))).set ((wrap64 ((wrap64 (t8 + t9)) + 1)).toNat) (wrap64 (e5 + (wrap64 (e6.tdiv 1000))))).length : Int) then ((((t7.set ((wrap64 (t8 + t9)).toNat) (wrap64 (e + (wrap64 (e2 * e3))))).set ((wrap64 ((wrap64 (t8 + t9)) + 1)).toNat) (wrap64 (e5 + (wrap64 (e6.tdiv 1000)))))[(wrap64 (t8 + t9)).toNat]?).bind fun e9 => regletref01_Times.l1 k t5 t6 (((t7.set ((wrap64 (t8 + t9)).toNat) (wrap64 (e + (wrap64 (e2 * e3))))).set ((wrap64 ((wrap64 (t8 + t9)) + 1)).toNat) (wrap64 (e5 + (wrap64 (e6.tdiv 1000))))).set ((wrap64 (t8 + t9)).toNat) (e8.tmod 1000)) t8 (wrap64 (t9 + 1))) else none) else none) else none) else none) else none) else none) else none) else (regletref01_Times.l0 k t5 t6 t7 (wrap64 (t8 + 1)))
def regletref01_Times.l2 : Nat → (List Int) → Int → Option (List Int)
  | 0, _, _ => none
  | k + 1, t10, t11 => if (decide ((wrap64 (t11 + 1)) < (t10.length : Int))) = true then (if 0 ≤ (wrap64 (t11 + 1)) ∧ (wrap64 (t11 + 1)) < (t10.length : Int) then ((t10[(wrap64 (t11 + 1)).toNat]?).bind fun e10 => if 0 ≤ t11 ∧ t11 < (t10.length : Int) then ((t10[t11.toNat]?).bind fun e11 => if 0 ≤ (wrap64 (t11 + 1)) ∧ (wrap64 (t11 + 1)) < (t10.length : Int) then ((t10[(wrap64 (t11 + 1)).toNat]?).bind fun e12 => if 0 ≤ t11 ∧ t11 < ((t10.set ((wrap64 (t11 + 1)).toNat) (wrap64 (e10 + (wrap64 (e11.tdiv 1000))))).length : Int) then (((t10.set ((wrap64 (t11 + 1)).toNat) (wrap64 (e10 + (wrap64 (e11.tdiv 1000)))))[t11.toNat]?).bind fun e13 => if 0 ≤ t11 ∧ t11 < ((t10.set ((wrap64 (t11 + 1)).toNat) (wrap64 (e10 + (wrap64 (e11.tdiv 1000))))).length : Int) then (((t10.set ((wrap64 (t11 + 1)).toNat) (wrap64 (e10 + (wrap64 (e11.tdiv 1000)))))[t11.toNat]?).bind fun e14 => regletref01_Times.l2 k ((t10.set ((wrap64 (t11 + 1)).toNat) (wrap64 (e10 + (wrap64 (e11.tdiv 1000))))).set t11.toNat (e13.tmod 1000)) (wrap64 (t11 + 1))) else none) else none) else none) else none) else none) else ((regletref01_bare.f k t10).bind fun r => some r)
end
def regletref01_Times.f (k : Nat) (a0 : List Int) (a1 : List Int) : Option (List Int) := if (wrap64 ((wrap64 ((a0.length : Int) + (a1.length : Int))) + 1)) = (wrap64 ((wrap64 ((a0.length : Int) + (a1.length : Int))) + 1)) ∧ 0 ≤ (wrap64 ((wrap64 ((a0.length : Int) + (a1.length : Int))) + 1)) ∧ (8 : Int) * (wrap64 ((wrap64 ((a0.length : Int) + (a1.length : Int))) + 1)) ≤ 281474976710656 then (regletref01_Times.l0 k a0 a1 (List.replicate ((wrap64 ((wrap64 ((a0.length : Int) + (a1.length : Int))) + 1)).toNat) 0 : List Int) 0) else none
def regletref01_Times.sig (k : Nat) : Sig := .p [(false, y30), (false, y30)] [.c false y20] fun x => regletref01_Times.f k x.1 x.2.1
def regletref01_Times.E (k : Nat) : List (Nat × Sig) := [(48, regletref01_bare.sig k)]
def regletref01_Times.G (P : Program) : GI := ⟨P, TT, 114, 114, [], [], [], [], [], AD⟩
def regletref01_Times.H : H := .s .n (.s .n (.s (.s .n (.s (.l 0 (.s .n (.s (.s (.s .n (.s (.l 1 .n) .n)) .n) .n))) .n)) (.s (.s .n (.s (.l 2 .n) .n)) .n)))
abbrev regletref01_Times.l0_s : Sh := [(0, .v y30), (1, .v y30), (5, .v y20), (6, .v (.i .i64))]
abbrev regletref01_Times.l1_s : Sh := [(0, .v y30), (1, .v y30), (5, .v y20), (6, .v (.i .i64)), (7, .v (.i .i64))]
abbrev regletref01_Times.l2_s : Sh := [(5, .v y20), (8, .v (.i .i64))]
def regletref01_Times.O (k : Nat) : List (Orc (denR [.c false y20])) := [⟨regletref01_Times.l0_s, fun y => regletref01_Times.l0 k y.1 y.2.1 y.2.2.1 y.2.2.2.1⟩, ⟨regletref01_Times.l1_s, fun y => regletref01_Times.l1 k y.1 y.2.1 y.2.2.1 y.2.2.2.1 y.2.2.2.2.1⟩, ⟨regletref01_Times.l2_s, fun y => regletref01_Times.l2 k y.1 y.2.1⟩]
theorem regletref01_Times.l1_e (k : Nat) (y : denS regletref01_Times.l1_s) : regletref01_Times.l1 (k + 1) y.1 y.2.1 y.2.2.1 y.2.2.2.1 y.2.2.2.2.1 = evP ((regletref01_Times.G Try.prog).at (regletref01_Times.E k)) (fun i => (regletref01_Times.O k)[i]?) [1, 1, 0, 1, 0, 0, 1, 0, 0, 1, 0, 0] (cd Try.f39) regletref01_Times.H (kFin ((regletref01_Times.G Try.prog).at (regletref01_Times.E k)) [.tmp 4] [.c false y20]) (unS regletref01_Times.l1_s y) := by rw [regletref01_Times.l1]; kernel_rfl
theorem regletref01_Times.l0_e (k : Nat) (y : denS regletref01_Times.l0_s) : regletref01_Times.l0 (k + 1) y.1 y.2.1 y.2.2.1 y.2.2.2.1 = evP ((regletref01_Times.G Try.prog).at (regletref01_Times.E k)) (fun i => (regletref01_Times.O k)[i]?) [1, 1, 0, 1, 0, 0] (cd Try.f39) regletref01_Times.H (kFin ((regletref01_Times.G Try.prog).at (regletref01_Times.E k)) [.tmp 4] [.c false y20]) (unS regletref01_Times.l0_s y) := by rw [regletref01_Times.l0]; kernel_rfl
theorem regletref01_Times.l2_e (k : Nat) (y : denS regletref01_Times.l2_s) : regletref01_Times.l2 (k + 1) y.1 y.2.1 = evP ((regletref01_Times.G Try.prog).at (regletref01_Times.E k)) (fun i => (regletref01_Times.O k)[i]?) [1, 1, 1, 0, 1, 0, 0] (cd Try.f39) regletref01_Times.H (kFin ((regletref01_Times.G Try.prog).at (regletref01_Times.E k)) [.tmp 4] [.c false y20]) (unS regletref01_Times.l2_s y) := by rw [regletref01_Times.l2]; kernel_rfl
theorem regletref01_Times.go : goesTo Try.prog 39 := ⟨_, Try.func39, by kernel_rfl, rfl⟩
theorem regletref01_Times.ok (k : Nat) : SigOk Try.prog 39 (regletref01_Times.sig k) :=
  fn_p (G := regletref01_Times.G Try.prog) (c := cd Try.f39) (rs := [.tmp 4]) (args := [(false, y30), (false, y30)]) (l := [.c false y20]) (fn := Try.f39) ⟨Try.func39, by kernel_rfl, by kernel_rfl, by kernel_rfl, le_of rfl, le_of rfl, TT_ok, AD_ok⟩ rfl regletref01_Times.E (fun k p hp => by
    simp only [regletref01_Times.E, List.mem_cons, List.not_mem_nil, or_false] at hp
    rcases hp with rfl
    · exact ⟨regletref01_bare.ok k, regletref01_bare.go⟩)
    (fun k i => (regletref01_Times.O k)[i]?) regletref01_Times.H (fun k x => regletref01_Times.f k x.1 x.2.1)
    (fun id o y h => by
    have h' := List.mem_of_getElem? h
    simp only [regletref01_Times.O, List.mem_cons, List.not_mem_nil, or_false] at h'
    rcases h' with rfl | rfl | rfl <;> rfl)
    (fun k p hp => by
    rw [show pts (cd Try.f39) regletref01_Times.H = [(1, [1, 1, 0, 1, 0, 0, 1, 0, 0, 1, 0, 0]), (0, [1, 1, 0, 1, 0, 0]), (2, [1, 1, 1, 0, 1, 0, 0])] by kernel_rfl] at hp
    simp only [List.mem_cons, List.not_mem_nil, or_false] at hp
    rcases hp with rfl | rfl | rfl
    · exact ptOk_of rfl (regletref01_Times.l1_e k)
    · exact ptOk_of rfl (regletref01_Times.l0_e k)
    · exact ptOk_of rfl (regletref01_Times.l2_e k))
    (fun k x => by kernel_rfl) k
/-! reglet/regletref01.Of -/
mutual
def regletref01_Of.j0 : Nat → Int → Option (List Int)
  | 0, _ => none
  | k + 1, a => regletref01_Of.l1 k a ([] : List Int)
def regletref01_Of.l1 : Nat → Int → (List Int) → Option (List Int)
  | 0, _, _ => none
  | k + 1, a2, out => if (decide (0 < a2)) = true then (if (out.length + ([a2.tmod 1000] : List Int).length) * 8 ≤ 140737488355328 then (regletref01_Of.l1 k (wrap64 (a2.tdiv 1000)) (out ++ ([a2.tmod 1000] : List Int))) else none) else (some out)
end
def regletref01_Of.f (k : Nat) (a0 : Int) : Option (List Int) := (regletref01_Clamp.f k a0).bind fun r => if (decide (r < 0)) = true then (regletref01_Of.j0 k (wrap64 (-r))) else (regletref01_Of.j0 k r)
def regletref01_Of.sig (k : Nat) : Sig := .p [(false, (.i .i64))] [.c false y20] fun x => regletref01_Of.f k x.1
def regletref01_Of.E (k : Nat) : List (Nat × Sig) := [(38, regletref01_Clamp.sig k)]
def regletref01_Of.G (P : Program) : GI := ⟨P, TT, 20, 20, [], [], [], [], [], AD⟩
def regletref01_Of.H : H := .s .n (.s .n (.j 0 .n (.s .n (.s (.s (.l 1 .n) .n) .n))))
abbrev regletref01_Of.j0_s : Sh := [(0, .v (.i .i64))]
abbrev regletref01_Of.l1_s : Sh := [(0, .v (.i .i64)), (3, .v y20)]
def regletref01_Of.O (k : Nat) : List (Orc (denR [.c false y20])) := [⟨regletref01_Of.j0_s, fun y => regletref01_Of.j0 k y.1⟩, ⟨regletref01_Of.l1_s, fun y => regletref01_Of.l1 k y.1 y.2.1⟩]
theorem regletref01_Of.l1_e (k : Nat) (y : denS regletref01_Of.l1_s) : regletref01_Of.l1 (k + 1) y.1 y.2.1 = evP ((regletref01_Of.G Try.prog).at (regletref01_Of.E k)) (fun i => (regletref01_Of.O k)[i]?) [1, 1, 1, 1, 0, 0, 0] (cd Try.f40) regletref01_Of.H (kFin ((regletref01_Of.G Try.prog).at (regletref01_Of.E k)) [.tmp 2] [.c false y20]) (unS regletref01_Of.l1_s y) := by rw [regletref01_Of.l1]; kernel_rfl
theorem regletref01_Of.j0_e (k : Nat) (y : denS regletref01_Of.j0_s) : regletref01_Of.j0 (k + 1) y.1 = evP ((regletref01_Of.G Try.prog).at (regletref01_Of.E k)) (fun i => (regletref01_Of.O k)[i]?) [1, 1, 1] (cd Try.f40) regletref01_Of.H (kFin ((regletref01_Of.G Try.prog).at (regletref01_Of.E k)) [.tmp 2] [.c false y20]) (unS regletref01_Of.j0_s y) := by rw [regletref01_Of.j0]; kernel_rfl
theorem regletref01_Of.go : goesTo Try.prog 40 := ⟨_, Try.func40, by kernel_rfl, rfl⟩
theorem regletref01_Of.ok (k : Nat) : SigOk Try.prog 40 (regletref01_Of.sig k) :=
  fn_p (G := regletref01_Of.G Try.prog) (c := cd Try.f40) (rs := [.tmp 2]) (args := [(false, (.i .i64))]) (l := [.c false y20]) (fn := Try.f40) ⟨Try.func40, by kernel_rfl, by kernel_rfl, by kernel_rfl, le_of rfl, le_of rfl, TT_ok, AD_ok⟩ rfl regletref01_Of.E (fun k p hp => by
    simp only [regletref01_Of.E, List.mem_cons, List.not_mem_nil, or_false] at hp
    rcases hp with rfl
    · exact ⟨regletref01_Clamp.ok k, regletref01_Clamp.go⟩)
    (fun k i => (regletref01_Of.O k)[i]?) regletref01_Of.H (fun k x => regletref01_Of.f k x.1)
    (fun id o y h => by
    have h' := List.mem_of_getElem? h
    simp only [regletref01_Of.O, List.mem_cons, List.not_mem_nil, or_false] at h'
    rcases h' with rfl | rfl <;> rfl)
    (fun k p hp => by
    rw [show pts (cd Try.f40) regletref01_Of.H = [(1, [1, 1, 1, 1, 0, 0, 0]), (0, [1, 1, 1])] by kernel_rfl] at hp
    simp only [List.mem_cons, List.not_mem_nil, or_false] at hp
    rcases hp with rfl | rfl
    · exact ptOk_of rfl (regletref01_Of.l1_e k)
    · exact ptOk_of rfl (regletref01_Of.j0_e k))
    (fun k x => by kernel_rfl) k
/-! reglet/regletref01.Compare -/
mutual
def regletref01_Compare.l0 : Nat → (List Int) → (List Int) → Int → Option Int
  | 0, _, _, _ => none
  | k + 1, a, b, i => if (decide (0 ≤ i)) = true then (if 0 ≤ i ∧ i < (a.length : Int) then ((a[i.toNat]?).bind fun e => if 0 ≤ i ∧ i < (b.length : Int) then ((b[i.toNat]?).bind fun e2 => if (decide (e < e2)) = true then (some (-1)) else (if 0 ≤ i ∧ i < (a.length : Int) then ((a[i.toNat]?).bind fun e3 => if 0 ≤ i ∧ i < (b.length : Int) then ((b[i.toNat]?).bind fun e4 => if (decide (e4 < e3)) = true then (some 1) else (regletref01_Compare.l0 k a b (wrap64 (i - 1)))) else none) else none)) else none) else none) else (some 0)
end
def regletref01_Compare.f (k : Nat) (a0 : List Int) (a1 : List Int) : Option Int := (regletref01_bare.f k a0).bind fun r => (regletref01_bare.f k a1).bind fun r2 => if (!decide ((r.length : Int) = (r2.length : Int))) = true then (if (decide ((r.length : Int) < (r2.length : Int))) = true then (some (-1)) else (some 1)) else (regletref01_Compare.l0 k r r2 (wrap64 ((r.length : Int) - 1)))
def regletref01_Compare.sig (k : Nat) : Sig := .p [(false, y30), (false, y30)] [.c false (.i .i64)] fun x => regletref01_Compare.f k x.1 x.2.1
def regletref01_Compare.E (k : Nat) : List (Nat × Sig) := [(48, regletref01_bare.sig k)]
def regletref01_Compare.G (P : Program) : GI := ⟨P, TT, 45, 45, [], [], [], [], [], AD⟩
def regletref01_Compare.H : H := .s .n (.s .n (.s .n (.s (.s .n (.s (.l 0 .n) .n)) .n)))
abbrev regletref01_Compare.l0_s : Sh := [(0, .v y20), (1, .v y20), (5, .v (.i .i64))]
def regletref01_Compare.O (k : Nat) : List (Orc (denR [.c false (.i .i64)])) := [⟨regletref01_Compare.l0_s, fun y => regletref01_Compare.l0 k y.1 y.2.1 y.2.2.1⟩]
theorem regletref01_Compare.l0_e (k : Nat) (y : denS regletref01_Compare.l0_s) : regletref01_Compare.l0 (k + 1) y.1 y.2.1 y.2.2.1 = evP ((regletref01_Compare.G Try.prog).at (regletref01_Compare.E k)) (fun i => (regletref01_Compare.O k)[i]?) [1, 1, 1, 0, 1, 0, 0] (cd Try.f41) regletref01_Compare.H (kFin ((regletref01_Compare.G Try.prog).at (regletref01_Compare.E k)) [.tmp 4] [.c false (.i .i64)]) (unS regletref01_Compare.l0_s y) := by rw [regletref01_Compare.l0]; kernel_rfl
theorem regletref01_Compare.go : goesTo Try.prog 41 := ⟨_, Try.func41, by kernel_rfl, rfl⟩
theorem regletref01_Compare.ok (k : Nat) : SigOk Try.prog 41 (regletref01_Compare.sig k) :=
  fn_p (G := regletref01_Compare.G Try.prog) (c := cd Try.f41) (rs := [.tmp 4]) (args := [(false, y30), (false, y30)]) (l := [.c false (.i .i64)]) (fn := Try.f41) ⟨Try.func41, by kernel_rfl, by kernel_rfl, by kernel_rfl, le_of rfl, le_of rfl, TT_ok, AD_ok⟩ rfl regletref01_Compare.E (fun k p hp => by
    simp only [regletref01_Compare.E, List.mem_cons, List.not_mem_nil, or_false] at hp
    rcases hp with rfl
    · exact ⟨regletref01_bare.ok k, regletref01_bare.go⟩)
    (fun k i => (regletref01_Compare.O k)[i]?) regletref01_Compare.H (fun k x => regletref01_Compare.f k x.1 x.2.1)
    (fun id o y h => by
    have h' := List.mem_of_getElem? h
    simp only [regletref01_Compare.O, List.mem_cons, List.not_mem_nil, or_false] at h'
    rcases h' with rfl <;> rfl)
    (fun k p hp => by
    rw [show pts (cd Try.f41) regletref01_Compare.H = [(0, [1, 1, 1, 0, 1, 0, 0])] by kernel_rfl] at hp
    simp only [List.mem_cons, List.not_mem_nil, or_false] at hp
    rcases hp with rfl
    · exact ptOk_of rfl (regletref01_Compare.l0_e k))
    (fun k x => by kernel_rfl) k
/-! reglet/regletref01.Quotient -/
mutual
def regletref01_Quotient.l0 : Nat → (List Int) → (List Int) → Int → Int → Option (Int × Bool)
  | 0, _, _, _, _ => none
  | k + 1, a, b, low, high => if (decide (low < high)) = true then ((regletref01_Of.f k (wrap64 (low + (wrap64 ((wrap64 ((wrap64 (high - low)) + 1)).tdiv 2))))).bind fun r => (regletref01_Times.f k r b).bind fun r2 => (regletref01_Compare.f k r2 a).bind fun r3 => if (decide (r3 ≤ 0)) = true then (regletref01_Quotient.l0 k a b (wrap64 (low + (wrap64 ((wrap64 ((wrap64 (high - low)) + 1)).tdiv 2)))) high) else (regletref01_Quotient.l0 k a b low (wrap64 ((wrap64 (low + (wrap64 ((wrap64 ((wrap64 (high - low)) + 1)).tdiv 2)))) - 1)))) else ((regletref01_Of.f k low).bind fun r4 => (regletref01_Times.f k r4 b).bind fun r5 => (regletref01_Compare.f k r5 a).bind fun r6 => some (low, decide (r6 = 0)))
end
def regletref01_Quotient.f (k : Nat) (a0 : List Int) (a1 : List Int) : Option (Int × Bool) := regletref01_Quotient.l0 k a0 a1 0 1152921504606846976
def regletref01_Quotient.sig (k : Nat) : Sig := .p [(false, y30), (false, y30)] [.c false (.i .i64), .c false .b] fun x => regletref01_Quotient.f k x.1 x.2.1
def regletref01_Quotient.E (k : Nat) : List (Nat × Sig) := [(39, regletref01_Times.sig k), (40, regletref01_Of.sig k), (41, regletref01_Compare.sig k)]
def regletref01_Quotient.G (P : Program) : GI := ⟨P, TT, 37, 37, [], [], [], [], [], AD⟩
def regletref01_Quotient.H : H := .s .n (.s .n (.s (.s (.l 0 .n) .n) .n))
abbrev regletref01_Quotient.l0_s : Sh := [(0, .v y30), (1, .v y30), (6, .v (.i .i64)), (7, .v (.i .i64))]
def regletref01_Quotient.O (k : Nat) : List (Orc (denR [.c false (.i .i64), .c false .b])) := [⟨regletref01_Quotient.l0_s, fun y => regletref01_Quotient.l0 k y.1 y.2.1 y.2.2.1 y.2.2.2.1⟩]
theorem regletref01_Quotient.l0_e (k : Nat) (y : denS regletref01_Quotient.l0_s) : regletref01_Quotient.l0 (k + 1) y.1 y.2.1 y.2.2.1 y.2.2.2.1 = evP ((regletref01_Quotient.G Try.prog).at (regletref01_Quotient.E k)) (fun i => (regletref01_Quotient.O k)[i]?) [1, 1, 0, 0, 0] (cd Try.f42) regletref01_Quotient.H (kFin ((regletref01_Quotient.G Try.prog).at (regletref01_Quotient.E k)) [.tmp 4, .tmp 5] [.c false (.i .i64), .c false .b]) (unS regletref01_Quotient.l0_s y) := by rw [regletref01_Quotient.l0]; kernel_rfl
theorem regletref01_Quotient.go : goesTo Try.prog 42 := ⟨_, Try.func42, by kernel_rfl, rfl⟩
theorem regletref01_Quotient.ok (k : Nat) : SigOk Try.prog 42 (regletref01_Quotient.sig k) :=
  fn_p (G := regletref01_Quotient.G Try.prog) (c := cd Try.f42) (rs := [.tmp 4, .tmp 5]) (args := [(false, y30), (false, y30)]) (l := [.c false (.i .i64), .c false .b]) (fn := Try.f42) ⟨Try.func42, by kernel_rfl, by kernel_rfl, by kernel_rfl, le_of rfl, le_of rfl, TT_ok, AD_ok⟩ rfl regletref01_Quotient.E (fun k p hp => by
    simp only [regletref01_Quotient.E, List.mem_cons, List.not_mem_nil, or_false] at hp
    rcases hp with rfl | rfl | rfl
    · exact ⟨regletref01_Times.ok k, regletref01_Times.go⟩
    · exact ⟨regletref01_Of.ok k, regletref01_Of.go⟩
    · exact ⟨regletref01_Compare.ok k, regletref01_Compare.go⟩)
    (fun k i => (regletref01_Quotient.O k)[i]?) regletref01_Quotient.H (fun k x => regletref01_Quotient.f k x.1 x.2.1)
    (fun id o y h => by
    have h' := List.mem_of_getElem? h
    simp only [regletref01_Quotient.O, List.mem_cons, List.not_mem_nil, or_false] at h'
    rcases h' with rfl <;> rfl)
    (fun k p hp => by
    rw [show pts (cd Try.f42) regletref01_Quotient.H = [(0, [1, 1, 0, 0, 0])] by kernel_rfl] at hp
    simp only [List.mem_cons, List.not_mem_nil, or_false] at hp
    rcases hp with rfl
    · exact ptOk_of rfl (regletref01_Quotient.l0_e k))
    (fun k x => by kernel_rfl) k
/-! reglet/regletref01.Bad -/
def regletref01_Bad.f (k : Nat) (a0 : Int) (a1 : Int) : Option Int := (regletref01_Clamp.f k a0).bind fun r => (regletref01_Clamp.f k a1).bind fun r2 => if (decide (r ≤ 0)) = true then (some 0) else (if (decide (r2 ≤ 0)) = true then (some 10000) else ((regletref01_Of.f k r).bind fun r3 => (regletref01_Of.f k r).bind fun r4 => (regletref01_Times.f k r3 r4).bind fun r5 => (regletref01_Of.f k r).bind fun r6 => (regletref01_Times.f k r5 r6).bind fun r7 => (regletref01_Of.f k 100).bind fun r8 => (regletref01_Times.f k r7 r8).bind fun r9 => (regletref01_Of.f k r2).bind fun r10 => (regletref01_Of.f k r2).bind fun r11 => (regletref01_Times.f k r10 r11).bind fun r12 => (regletref01_Of.f k r2).bind fun r13 => (regletref01_Times.f k r12 r13).bind fun r14 => (regletref01_Of.f k 10000).bind fun r15 => (regletref01_Times.f k r14 r15).bind fun r16 => (regletref01_Compare.f k r16 r9).bind fun r17 => if (decide (r17 ≤ 0)) = true then (some 10000) else ((regletref01_Quotient.f k r9 r14).bind fun r18 => some r18.1)))
def regletref01_Bad.sig (k : Nat) : Sig := .p [(false, (.i .i64)), (false, (.i .i64))] [.c false (.i .i64)] fun x => regletref01_Bad.f k x.1 x.2.1
def regletref01_Bad.E (k : Nat) : List (Nat × Sig) := [(38, regletref01_Clamp.sig k), (39, regletref01_Times.sig k), (40, regletref01_Of.sig k), (41, regletref01_Compare.sig k), (42, regletref01_Quotient.sig k)]
def regletref01_Bad.G (P : Program) : GI := ⟨P, TT, 48, 48, [], [], [], [], [], AD⟩
def regletref01_Bad.H : H := .n
def regletref01_Bad.O (k : Nat) : List (Orc (denR [.c false (.i .i64)])) := []
theorem regletref01_Bad.go : goesTo Try.prog 29 := ⟨_, Try.func29, by kernel_rfl, rfl⟩
theorem regletref01_Bad.ok (k : Nat) : SigOk Try.prog 29 (regletref01_Bad.sig k) :=
  fn_p (G := regletref01_Bad.G Try.prog) (c := cd Try.f29) (rs := [.tmp 4]) (args := [(false, (.i .i64)), (false, (.i .i64))]) (l := [.c false (.i .i64)]) (fn := Try.f29) ⟨Try.func29, by kernel_rfl, by kernel_rfl, by kernel_rfl, le_of rfl, le_of rfl, TT_ok, AD_ok⟩ rfl regletref01_Bad.E (fun k p hp => by
    simp only [regletref01_Bad.E, List.mem_cons, List.not_mem_nil, or_false] at hp
    rcases hp with rfl | rfl | rfl | rfl | rfl
    · exact ⟨regletref01_Clamp.ok k, regletref01_Clamp.go⟩
    · exact ⟨regletref01_Times.ok k, regletref01_Times.go⟩
    · exact ⟨regletref01_Of.ok k, regletref01_Of.go⟩
    · exact ⟨regletref01_Compare.ok k, regletref01_Compare.go⟩
    · exact ⟨regletref01_Quotient.ok k, regletref01_Quotient.go⟩)
    (fun k i => (regletref01_Bad.O k)[i]?) regletref01_Bad.H (fun k x => regletref01_Bad.f k x.1 x.2.1)
    (fun id o y h => by cases id <;> cases h)
    (fun k p hp => by rw [show pts (cd Try.f29) regletref01_Bad.H = [] by kernel_rfl] at hp; nomatch hp)
    (fun k x => by kernel_rfl) k
/-! reglet/regletref01.Gcd -/
mutual
def regletref01_Gcd.j0 : Nat → Int → Int → Option Int
  | 0, _, _ => none
  | k + 1, a, b => if (decide (b < 0)) = true then (regletref01_Gcd.j1 k a (wrap64 (-b))) else (regletref01_Gcd.j1 k a b)
def regletref01_Gcd.j1 : Nat → Int → Int → Option Int
  | 0, _, _ => none
  | k + 1, a2, b2 => regletref01_Gcd.l2 k a2 b2
def regletref01_Gcd.l2 : Nat → Int → Int → Option Int
  | 0, _, _ => none
  | k + 1, a3, b3 => if (!decide (b3 = 0)) = true then (if b3 ≠ 0 then (regletref01_Gcd.l2 k b3 (a3.tmod b3)) else none) else (some a3)
end
def regletref01_Gcd.f (k : Nat) (a0 : Int) (a1 : Int) : Option Int := (regletref01_Clamp.f k a0).bind fun r => (regletref01_Clamp.f k a1).bind fun r2 => if (decide (r < 0)) = true then (regletref01_Gcd.j0 k (wrap64 (-r)) r2) else (regletref01_Gcd.j0 k r r2)
def regletref01_Gcd.sig (k : Nat) : Sig := .p [(false, (.i .i64)), (false, (.i .i64))] [.c false (.i .i64)] fun x => regletref01_Gcd.f k x.1 x.2.1
def regletref01_Gcd.E (k : Nat) : List (Nat × Sig) := [(38, regletref01_Clamp.sig k)]
def regletref01_Gcd.G (P : Program) : GI := ⟨P, TT, 24, 24, [], [], [], [], [], AD⟩
def regletref01_Gcd.H : H := .s .n (.s .n (.j 0 .n (.j 1 .n (.s (.s (.l 2 .n) .n) .n))))
abbrev regletref01_Gcd.j0_s : Sh := [(0, .v (.i .i64)), (1, .v (.i .i64))]
abbrev regletref01_Gcd.j1_s : Sh := [(0, .v (.i .i64)), (1, .v (.i .i64))]
abbrev regletref01_Gcd.l2_s : Sh := [(0, .v (.i .i64)), (1, .v (.i .i64))]
def regletref01_Gcd.O (k : Nat) : List (Orc (denR [.c false (.i .i64)])) := [⟨regletref01_Gcd.j0_s, fun y => regletref01_Gcd.j0 k y.1 y.2.1⟩, ⟨regletref01_Gcd.j1_s, fun y => regletref01_Gcd.j1 k y.1 y.2.1⟩, ⟨regletref01_Gcd.l2_s, fun y => regletref01_Gcd.l2 k y.1 y.2.1⟩]
theorem regletref01_Gcd.l2_e (k : Nat) (y : denS regletref01_Gcd.l2_s) : regletref01_Gcd.l2 (k + 1) y.1 y.2.1 = evP ((regletref01_Gcd.G Try.prog).at (regletref01_Gcd.E k)) (fun i => (regletref01_Gcd.O k)[i]?) [1, 1, 1, 1, 0, 0, 0] (cd Try.f43) regletref01_Gcd.H (kFin ((regletref01_Gcd.G Try.prog).at (regletref01_Gcd.E k)) [.tmp 4] [.c false (.i .i64)]) (unS regletref01_Gcd.l2_s y) := by rw [regletref01_Gcd.l2]; kernel_rfl
theorem regletref01_Gcd.j1_e (k : Nat) (y : denS regletref01_Gcd.j1_s) : regletref01_Gcd.j1 (k + 1) y.1 y.2.1 = evP ((regletref01_Gcd.G Try.prog).at (regletref01_Gcd.E k)) (fun i => (regletref01_Gcd.O k)[i]?) [1, 1, 1, 1] (cd Try.f43) regletref01_Gcd.H (kFin ((regletref01_Gcd.G Try.prog).at (regletref01_Gcd.E k)) [.tmp 4] [.c false (.i .i64)]) (unS regletref01_Gcd.j1_s y) := by rw [regletref01_Gcd.j1]; kernel_rfl
theorem regletref01_Gcd.j0_e (k : Nat) (y : denS regletref01_Gcd.j0_s) : regletref01_Gcd.j0 (k + 1) y.1 y.2.1 = evP ((regletref01_Gcd.G Try.prog).at (regletref01_Gcd.E k)) (fun i => (regletref01_Gcd.O k)[i]?) [1, 1, 1] (cd Try.f43) regletref01_Gcd.H (kFin ((regletref01_Gcd.G Try.prog).at (regletref01_Gcd.E k)) [.tmp 4] [.c false (.i .i64)]) (unS regletref01_Gcd.j0_s y) := by rw [regletref01_Gcd.j0]; kernel_rfl
theorem regletref01_Gcd.go : goesTo Try.prog 43 := ⟨_, Try.func43, by kernel_rfl, rfl⟩
theorem regletref01_Gcd.ok (k : Nat) : SigOk Try.prog 43 (regletref01_Gcd.sig k) :=
  fn_p (G := regletref01_Gcd.G Try.prog) (c := cd Try.f43) (rs := [.tmp 4]) (args := [(false, (.i .i64)), (false, (.i .i64))]) (l := [.c false (.i .i64)]) (fn := Try.f43) ⟨Try.func43, by kernel_rfl, by kernel_rfl, by kernel_rfl, le_of rfl, le_of rfl, TT_ok, AD_ok⟩ rfl regletref01_Gcd.E (fun k p hp => by
    simp only [regletref01_Gcd.E, List.mem_cons, List.not_mem_nil, or_false] at hp
    rcases hp with rfl
    · exact ⟨regletref01_Clamp.ok k, regletref01_Clamp.go⟩)
    (fun k i => (regletref01_Gcd.O k)[i]?) regletref01_Gcd.H (fun k x => regletref01_Gcd.f k x.1 x.2.1)
    (fun id o y h => by
    have h' := List.mem_of_getElem? h
    simp only [regletref01_Gcd.O, List.mem_cons, List.not_mem_nil, or_false] at h'
    rcases h' with rfl | rfl | rfl <;> rfl)
    (fun k p hp => by
    rw [show pts (cd Try.f43) regletref01_Gcd.H = [(2, [1, 1, 1, 1, 0, 0, 0]), (1, [1, 1, 1, 1]), (0, [1, 1, 1])] by kernel_rfl] at hp
    simp only [List.mem_cons, List.not_mem_nil, or_false] at hp
    rcases hp with rfl | rfl | rfl
    · exact ptOk_of rfl (regletref01_Gcd.l2_e k)
    · exact ptOk_of rfl (regletref01_Gcd.j1_e k)
    · exact ptOk_of rfl (regletref01_Gcd.j0_e k))
    (fun k x => by kernel_rfl) k
/-! reglet/regletref01.Lowest -/
mutual
def regletref01_Lowest.j0 : Nat → Int → Int → Int → Option (Int × Int)
  | 0, _, _, _ => none
  | k + 1, a, b, g => if g ≠ 0 then (if g ≠ 0 then (some (wrap64 (a.tdiv g), wrap64 (b.tdiv g))) else none) else none
end
def regletref01_Lowest.f (k : Nat) (a0 : Int) (a1 : Int) : Option (Int × Int) := (regletref01_Clamp.f k a0).bind fun r => (regletref01_Clamp.f k a1).bind fun r2 => if (decide (r2 = 0)) = true then (some (0, 1)) else ((regletref01_Gcd.f k r r2).bind fun r3 => if (decide (r2 < 0)) = true then (regletref01_Lowest.j0 k r r2 (wrap64 (-r3))) else (regletref01_Lowest.j0 k r r2 r3))
def regletref01_Lowest.sig (k : Nat) : Sig := .p [(false, (.i .i64)), (false, (.i .i64))] [.c false (.i .i64), .c false (.i .i64)] fun x => regletref01_Lowest.f k x.1 x.2.1
def regletref01_Lowest.E (k : Nat) : List (Nat × Sig) := [(38, regletref01_Clamp.sig k), (43, regletref01_Gcd.sig k)]
def regletref01_Lowest.G (P : Program) : GI := ⟨P, TT, 26, 26, [], [], [], [], [], AD⟩
def regletref01_Lowest.H : H := .s .n (.s .n (.s .n (.s .n (.j 0 .n .n))))
abbrev regletref01_Lowest.j0_s : Sh := [(0, .v (.i .i64)), (1, .v (.i .i64)), (6, .v (.i .i64))]
def regletref01_Lowest.O (k : Nat) : List (Orc (denR [.c false (.i .i64), .c false (.i .i64)])) := [⟨regletref01_Lowest.j0_s, fun y => regletref01_Lowest.j0 k y.1 y.2.1 y.2.2.1⟩]
theorem regletref01_Lowest.j0_e (k : Nat) (y : denS regletref01_Lowest.j0_s) : regletref01_Lowest.j0 (k + 1) y.1 y.2.1 y.2.2.1 = evP ((regletref01_Lowest.G Try.prog).at (regletref01_Lowest.E k)) (fun i => (regletref01_Lowest.O k)[i]?) [1, 1, 1, 1, 1] (cd Try.f30) regletref01_Lowest.H (kFin ((regletref01_Lowest.G Try.prog).at (regletref01_Lowest.E k)) [.tmp 4, .tmp 5] [.c false (.i .i64), .c false (.i .i64)]) (unS regletref01_Lowest.j0_s y) := by rw [regletref01_Lowest.j0]; kernel_rfl
theorem regletref01_Lowest.go : goesTo Try.prog 30 := ⟨_, Try.func30, by kernel_rfl, rfl⟩
theorem regletref01_Lowest.ok (k : Nat) : SigOk Try.prog 30 (regletref01_Lowest.sig k) :=
  fn_p (G := regletref01_Lowest.G Try.prog) (c := cd Try.f30) (rs := [.tmp 4, .tmp 5]) (args := [(false, (.i .i64)), (false, (.i .i64))]) (l := [.c false (.i .i64), .c false (.i .i64)]) (fn := Try.f30) ⟨Try.func30, by kernel_rfl, by kernel_rfl, by kernel_rfl, le_of rfl, le_of rfl, TT_ok, AD_ok⟩ rfl regletref01_Lowest.E (fun k p hp => by
    simp only [regletref01_Lowest.E, List.mem_cons, List.not_mem_nil, or_false] at hp
    rcases hp with rfl | rfl
    · exact ⟨regletref01_Clamp.ok k, regletref01_Clamp.go⟩
    · exact ⟨regletref01_Gcd.ok k, regletref01_Gcd.go⟩)
    (fun k i => (regletref01_Lowest.O k)[i]?) regletref01_Lowest.H (fun k x => regletref01_Lowest.f k x.1 x.2.1)
    (fun id o y h => by
    have h' := List.mem_of_getElem? h
    simp only [regletref01_Lowest.O, List.mem_cons, List.not_mem_nil, or_false] at h'
    rcases h' with rfl <;> rfl)
    (fun k p hp => by
    rw [show pts (cd Try.f30) regletref01_Lowest.H = [(0, [1, 1, 1, 1, 1])] by kernel_rfl] at hp
    simp only [List.mem_cons, List.not_mem_nil, or_false] at hp
    rcases hp with rfl
    · exact ptOk_of rfl (regletref01_Lowest.j0_e k))
    (fun k x => by kernel_rfl) k
/-! reglet/regletref08.class -/
def regletref08_class.f (k : Nat) (a0 : Int) (a1 : Bool) : Option Int := if (decide (a0 ≤ 12)) = true then (some 1) else (if (!a1) = true then (some 0) else (if (decide (99 < a0)) = true then (some 3) else (some 2)))
def regletref08_class.sig (k : Nat) : Sig := .p [(false, (.i .i64)), (false, .b)] [.c false (.i .i64)] fun x => regletref08_class.f k x.1 x.2.1
def regletref08_class.E (k : Nat) : List (Nat × Sig) := []
def regletref08_class.G (P : Program) : GI := ⟨P, TT, 11, 11, [], [], [], [], [], AD⟩
def regletref08_class.H : H := .n
def regletref08_class.O (k : Nat) : List (Orc (denR [.c false (.i .i64)])) := []
theorem regletref08_class.go : goesTo Try.prog 31 := ⟨_, Try.func31, by kernel_rfl, rfl⟩
theorem regletref08_class.ok (k : Nat) : SigOk Try.prog 31 (regletref08_class.sig k) :=
  fn_p (G := regletref08_class.G Try.prog) (c := cd Try.f31) (rs := [.tmp 4]) (args := [(false, (.i .i64)), (false, .b)]) (l := [.c false (.i .i64)]) (fn := Try.f31) ⟨Try.func31, by kernel_rfl, by kernel_rfl, by kernel_rfl, le_of rfl, le_of rfl, TT_ok, AD_ok⟩ rfl regletref08_class.E (fun k p hp => nomatch hp)
    (fun k i => (regletref08_class.O k)[i]?) regletref08_class.H (fun k x => regletref08_class.f k x.1 x.2.1)
    (fun id o y h => by cases id <;> cases h)
    (fun k p hp => by rw [show pts (cd Try.f31) regletref08_class.H = [] by kernel_rfl] at hp; nomatch hp)
    (fun k x => by kernel_rfl) k
/-! reglet/regletref08.Set -/
mutual
def regletref08_Set.j0 : Nat → Int → measure_Sum → api_Fit → Option api_Fit
  | 0, _, _, _ => none
  | k + 1, t, t2, t3 => if (decide (0 < t)) = true then ((regletref01_Bad.f k t t2.2.1).bind fun r => (regletref01_Lowest.f k t t2.2.1).bind fun r2 => (regletref08_class.f k r true).bind fun r3 => some (r2.1, r2.2, r, r3, (false))) else ((regletref01_Bad.f k (wrap64 (-t)) t2.2.2.1).bind fun r4 => (regletref01_Lowest.f k t t2.2.2.1).bind fun r5 => (regletref08_class.f k r4 false).bind fun r6 => if (decide (t2.2.2.1 < (wrap64 (-t)))) = true then (if (decide (0 < t2.2.2.1)) = true then (some ((-1), 1, 10000, 0, (true))) else (some (0, 1, 10000, 0, (true)))) else (some (r5.1, r5.2, r4, r6, (false))))
end
def regletref08_Set.f (k : Nat) (a0 : measure_Sum) (a1 : Int) : Option api_Fit := if (decide ((wrap64 (a1 - a0.1)) = 0)) = true then (some (0, 1, 0, 1, (false))) else (if (decide (0 < (wrap64 (a1 - a0.1)))) = true then (if (decide (0 < a0.2.2.2)) = true then (some (0, 1, 0, 1, (false))) else (regletref08_Set.j0 k (wrap64 (a1 - a0.1)) a0 (0, 0, 0, 0, (false)))) else (regletref08_Set.j0 k (wrap64 (a1 - a0.1)) a0 (0, 0, 0, 0, (false))))
def regletref08_Set.sig (k : Nat) : Sig := .p [(true, y9), (false, (.i .i64))] [.c true y6] fun x => regletref08_Set.f k x.1 x.2.1
def regletref08_Set.E (k : Nat) : List (Nat × Sig) := [(29, regletref01_Bad.sig k), (30, regletref01_Lowest.sig k), (31, regletref08_class.sig k)]
def regletref08_Set.G (P : Program) : GI := ⟨P, TT, 74, 88, [(2, 74, 4), (4, 78, 5), (6, 83, 5)], [], [], [], [], AD⟩
def regletref08_Set.H : H := .s .n (.s .n (.j 0 .n .n))
abbrev regletref08_Set.j0_s : Sh := [(2, .at_ 74), (4, .at_ 78), (5, .v (.i .i64)), (74, .box y9), (78, .box y6)]
def regletref08_Set.O (k : Nat) : List (Orc (denR [.c true y6])) := [⟨regletref08_Set.j0_s, fun y => regletref08_Set.j0 k y.2.2.1 y.2.2.2.1 y.2.2.2.2.1⟩]
theorem regletref08_Set.j0_e (k : Nat) (y : denS regletref08_Set.j0_s) : regletref08_Set.j0 (k + 1) y.2.2.1 y.2.2.2.1 y.2.2.2.2.1 = evP ((regletref08_Set.G Try.prog).at (regletref08_Set.E k)) (fun i => (regletref08_Set.O k)[i]?) [1, 1, 1] (cd Try.f20) regletref08_Set.H (kFin ((regletref08_Set.G Try.prog).at (regletref08_Set.E k)) [.cell 4 28] [.c true y6]) (unS regletref08_Set.j0_s y) := by rw [regletref08_Set.j0]; kernel_rfl
theorem regletref08_Set.go : goesTo Try.prog 20 := ⟨_, Try.func20, by kernel_rfl, rfl⟩
theorem regletref08_Set.ok (k : Nat) : SigOk Try.prog 20 (regletref08_Set.sig k) :=
  fn_p (G := regletref08_Set.G Try.prog) (c := cd Try.f20) (rs := [.cell 4 28]) (args := [(true, y9), (false, (.i .i64))]) (l := [.c true y6]) (fn := Try.f20) ⟨Try.func20, by kernel_rfl, by kernel_rfl, by kernel_rfl, le_of rfl, le_of rfl, TT_ok, AD_ok⟩ rfl regletref08_Set.E (fun k p hp => by
    simp only [regletref08_Set.E, List.mem_cons, List.not_mem_nil, or_false] at hp
    rcases hp with rfl | rfl | rfl
    · exact ⟨regletref01_Bad.ok k, regletref01_Bad.go⟩
    · exact ⟨regletref01_Lowest.ok k, regletref01_Lowest.go⟩
    · exact ⟨regletref08_class.ok k, regletref08_class.go⟩)
    (fun k i => (regletref08_Set.O k)[i]?) regletref08_Set.H (fun k x => regletref08_Set.f k x.1 x.2.1)
    (fun id o y h => by
    have h' := List.mem_of_getElem? h
    simp only [regletref08_Set.O, List.mem_cons, List.not_mem_nil, or_false] at h'
    rcases h' with rfl <;> rfl)
    (fun k p hp => by
    rw [show pts (cd Try.f20) regletref08_Set.H = [(0, [1, 1, 1])] by kernel_rfl] at hp
    simp only [List.mem_cons, List.not_mem_nil, or_false] at hp
    rcases hp with rfl
    · exact ptOk_of rfl (regletref08_Set.j0_e k))
    (fun k x => by kernel_rfl) k
/-! reglet/regletref08.Fit -/
def regletref08_Fit.f (k : Nat) (a0 : List api_Item) (a1 : Int) (a2 : Int) (a3 : Int) : Option api_Fit := (regletref08_Whole.f k a0 a1 a2).bind fun r => (regletref08_Set.f k r a3).bind fun r2 => some r2
def regletref08_Fit.sig (k : Nat) : Sig := .p [(false, y21), (false, (.i .i64)), (false, (.i .i64)), (false, (.i .i64))] [.c true y6] fun x => regletref08_Fit.f k x.1 x.2.1 x.2.2.1 x.2.2.2.1
def regletref08_Fit.E (k : Nat) : List (Nat × Sig) := [(11, regletref08_Whole.sig k), (20, regletref08_Set.sig k)]
def regletref08_Fit.G (P : Program) : GI := ⟨P, TT, 15, 20, [(8, 15, 5)], [], [], [], [], AD⟩
def regletref08_Fit.H : H := .n
def regletref08_Fit.O (k : Nat) : List (Orc (denR [.c true y6])) := []
theorem regletref08_Fit.go : goesTo Try.prog 9 := ⟨_, Try.func9, by kernel_rfl, rfl⟩
theorem regletref08_Fit.ok (k : Nat) : SigOk Try.prog 9 (regletref08_Fit.sig k) :=
  fn_p (G := regletref08_Fit.G Try.prog) (c := cd Try.f9) (rs := [.cell 8 28]) (args := [(false, y21), (false, (.i .i64)), (false, (.i .i64)), (false, (.i .i64))]) (l := [.c true y6]) (fn := Try.f9) ⟨Try.func9, by kernel_rfl, by kernel_rfl, by kernel_rfl, le_of rfl, le_of rfl, TT_ok, AD_ok⟩ rfl regletref08_Fit.E (fun k p hp => by
    simp only [regletref08_Fit.E, List.mem_cons, List.not_mem_nil, or_false] at hp
    rcases hp with rfl | rfl
    · exact ⟨regletref08_Whole.ok k, regletref08_Whole.go⟩
    · exact ⟨regletref08_Set.ok k, regletref08_Set.go⟩)
    (fun k i => (regletref08_Fit.O k)[i]?) regletref08_Fit.H (fun k x => regletref08_Fit.f k x.1 x.2.1 x.2.2.1 x.2.2.2.1)
    (fun id o y h => by cases id <;> cases h)
    (fun k p hp => by rw [show pts (cd Try.f9) regletref08_Fit.H = [] by kernel_rfl] at hp; nomatch hp)
    (fun k x => by kernel_rfl) k
/-! reglet/regletlaw08.MeasureFits -/
mutual
def regletlaw08_MeasureFits.j0 : Nat → (List api_Item) → Int → measure_Para → (Int × Int) → Option Bool
  | 0, _, _, _, _ => none
  | k + 1, l, width, p2, ab => (measure_Para_Fit.f k p2 ab.1 ab.2 width).bind fun r3 => (regletref08_Fit.f k l ab.1 ab.2 width).bind fun r4 => some (decide (r3.1 = r4.1) && (decide (r3.2.1 = r4.2.1) && (decide (r3.2.2.1 = r4.2.2.1) && (decide (r3.2.2.2.1 = r4.2.2.2.1) && (decide (r3.2.2.2.2 = r4.2.2.2.2) && true)))))
end
def regletlaw08_MeasureFits.f (k : Nat) (a0 : List api_Item) (a1 : Int × Int) (a2 : Int) : Option Bool := (regletlaw08_awake.f k).bind fun r => if (!r) = true then (some false) else ((regletlaw08_para.f k a0).bind fun r2 => optK r2 (some true) fun p => if (decide (a2 < (-1099511627776))) = true then (some true) else (if (decide (1099511627776 < a2)) = true then (some true) else (regletlaw08_MeasureFits.j0 k a0 a2 p a1)))
def regletlaw08_MeasureFits.sig (k : Nat) : Sig := .p [(false, y39), (true, y7), (false, (.i .i64))] [.c false .b] fun x => regletlaw08_MeasureFits.f k x.1 x.2.1 x.2.2.1
def regletlaw08_MeasureFits.E (k : Nat) : List (Nat × Sig) := [(6, regletlaw08_awake.sig k), (7, regletlaw08_para.sig k), (8, measure_Para_Fit.sig k), (9, regletref08_Fit.sig k)]
def regletlaw08_MeasureFits.G (P : Program) : GI := ⟨P, TT, 37, 39, [(4, 37, 2)], [], [], [], [], AD⟩
def regletlaw08_MeasureFits.H : H := .s .n (.s .n (.s .n (.j 0 (.s (.f 7 .n) .n) .n)))
abbrev regletlaw08_MeasureFits.j0_s : Sh := [(0, .v y39), (2, .v (.i .i64)), (4, .at_ 37), (7, .v y48), (37, .box y7)]
def regletlaw08_MeasureFits.O (k : Nat) : List (Orc (denR [.c false .b])) := [⟨regletlaw08_MeasureFits.j0_s, fun y => regletlaw08_MeasureFits.j0 k y.1 y.2.1 y.2.2.2.1 y.2.2.2.2.1⟩]
theorem regletlaw08_MeasureFits.j0_e (k : Nat) (y : denS regletlaw08_MeasureFits.j0_s) : regletlaw08_MeasureFits.j0 (k + 1) y.1 y.2.1 y.2.2.2.1 y.2.2.2.2.1 = evP ((regletlaw08_MeasureFits.G Try.prog).at (regletlaw08_MeasureFits.E k)) (fun i => (regletlaw08_MeasureFits.O k)[i]?) [1, 1, 1, 1] (cd Try.f3) regletlaw08_MeasureFits.H (kFin ((regletlaw08_MeasureFits.G Try.prog).at (regletlaw08_MeasureFits.E k)) [.tmp 6] [.c false .b]) (unS regletlaw08_MeasureFits.j0_s y) := by rw [regletlaw08_MeasureFits.j0]; kernel_rfl
theorem regletlaw08_MeasureFits.go : goesTo Try.prog 3 := ⟨_, Try.func3, by kernel_rfl, rfl⟩
theorem regletlaw08_MeasureFits.ok (k : Nat) : SigOk Try.prog 3 (regletlaw08_MeasureFits.sig k) :=
  fn_p (G := regletlaw08_MeasureFits.G Try.prog) (c := cd Try.f3) (rs := [.tmp 6]) (args := [(false, y39), (true, y7), (false, (.i .i64))]) (l := [.c false .b]) (fn := Try.f3) ⟨Try.func3, by kernel_rfl, by kernel_rfl, by kernel_rfl, le_of rfl, le_of rfl, TT_ok, AD_ok⟩ rfl regletlaw08_MeasureFits.E (fun k p hp => by
    simp only [regletlaw08_MeasureFits.E, List.mem_cons, List.not_mem_nil, or_false] at hp
    rcases hp with rfl | rfl | rfl | rfl
    · exact ⟨regletlaw08_awake.ok k, regletlaw08_awake.go⟩
    · exact ⟨regletlaw08_para.ok k, regletlaw08_para.go⟩
    · exact ⟨measure_Para_Fit.ok k, measure_Para_Fit.go⟩
    · exact ⟨regletref08_Fit.ok k, regletref08_Fit.go⟩)
    (fun k i => (regletlaw08_MeasureFits.O k)[i]?) regletlaw08_MeasureFits.H (fun k x => regletlaw08_MeasureFits.f k x.1 x.2.1 x.2.2.1)
    (fun id o y h => by
    have h' := List.mem_of_getElem? h
    simp only [regletlaw08_MeasureFits.O, List.mem_cons, List.not_mem_nil, or_false] at h'
    rcases h' with rfl <;> rfl)
    (fun k p hp => by
    rw [show pts (cd Try.f3) regletlaw08_MeasureFits.H = [(0, [1, 1, 1, 1])] by kernel_rfl] at hp
    simp only [List.mem_cons, List.not_mem_nil, or_false] at hp
    rcases hp with rfl
    · exact ptOk_of rfl (regletlaw08_MeasureFits.j0_e k))
    (fun k x => by kernel_rfl) k
/-! (*reglet/measure.Para).Item -/
mutual
def measure_Para_Item.j0 : Nat → measure_Para → Int → api_Item → Option api_Item
  | 0, _, _, _ => none
  | k + 1, p, k_, t => (at? p.1 k_).bind fun e => some e
end
def measure_Para_Item.f (k : Nat) (a0 : measure_Para) (a1 : Int) : Option api_Item := if (decide (a1 < 0)) = true then (some (0, 0, 0, 0, (false), 0, (false), 0, 0)) else (if (decide ((a0.1.length : Int) ≤ a1)) = true then (some (0, 0, 0, 0, (false), 0, (false), 0, 0)) else (measure_Para_Item.j0 k a0 a1 (0, 0, 0, 0, (false), 0, (false), 0, 0)))
def measure_Para_Item.sig (k : Nat) : Sig := .p [(false, y38), (false, (.i .i64))] [.c true y19] fun x => measure_Para_Item.f k x.1 x.2.1
def measure_Para_Item.E (k : Nat) : List (Nat × Sig) := []
def measure_Para_Item.G (P : Program) : GI := ⟨P, TT, 24, 33, [(4, 24, 9)], [], [], [], [], AD⟩
def measure_Para_Item.H : H := .s .n (.j 0 .n .n)
abbrev measure_Para_Item.j0_s : Sh := [(0, .v y38), (1, .v (.i .i64)), (4, .at_ 24), (24, .box y19)]
def measure_Para_Item.O (k : Nat) : List (Orc (denR [.c true y19])) := [⟨measure_Para_Item.j0_s, fun y => measure_Para_Item.j0 k y.1 y.2.1 y.2.2.2.1⟩]
theorem measure_Para_Item.j0_e (k : Nat) (y : denS measure_Para_Item.j0_s) : measure_Para_Item.j0 (k + 1) y.1 y.2.1 y.2.2.2.1 = evP ((measure_Para_Item.G Try.prog).at (measure_Para_Item.E k)) (fun i => (measure_Para_Item.O k)[i]?) [1, 1] (cd Try.f21) measure_Para_Item.H (kFin ((measure_Para_Item.G Try.prog).at (measure_Para_Item.E k)) [.cell 4 40] [.c true y19]) (unS measure_Para_Item.j0_s y) := by rw [measure_Para_Item.j0]; kernel_rfl
theorem measure_Para_Item.go : goesTo Try.prog 21 := ⟨_, Try.func21, by kernel_rfl, rfl⟩
theorem measure_Para_Item.ok (k : Nat) : SigOk Try.prog 21 (measure_Para_Item.sig k) :=
  fn_p (G := measure_Para_Item.G Try.prog) (c := cd Try.f21) (rs := [.cell 4 40]) (args := [(false, y38), (false, (.i .i64))]) (l := [.c true y19]) (fn := Try.f21) ⟨Try.func21, by kernel_rfl, by kernel_rfl, by kernel_rfl, le_of rfl, le_of rfl, TT_ok, AD_ok⟩ rfl measure_Para_Item.E (fun k p hp => nomatch hp)
    (fun k i => (measure_Para_Item.O k)[i]?) measure_Para_Item.H (fun k x => measure_Para_Item.f k x.1 x.2.1)
    (fun id o y h => by
    have h' := List.mem_of_getElem? h
    simp only [measure_Para_Item.O, List.mem_cons, List.not_mem_nil, or_false] at h'
    rcases h' with rfl <;> rfl)
    (fun k p hp => by
    rw [show pts (cd Try.f21) measure_Para_Item.H = [(0, [1, 1])] by kernel_rfl] at hp
    simp only [List.mem_cons, List.not_mem_nil, or_false] at hp
    rcases hp with rfl
    · exact ptOk_of rfl (measure_Para_Item.j0_e k))
    (fun k x => by kernel_rfl) k
/-! (*reglet/measure.Para).Bounds -/
mutual
def measure_Para_Bounds.j0 : Nat → measure_Para → measure_Sum → Option (Int × Int × Bool)
  | 0, _, _ => none
  | k + 1, p, s => some (wrap64 (s.1 - s.2.2.1), wrap64 ((wrap64 (s.1 + (wrap64 (5 * s.2.1)))) + p.2.2.2.2.2.2.1), decide (0 < s.2.2.2))
end
def measure_Para_Bounds.f (k : Nat) (a0 : measure_Para) (a1 : Int) (a2 : Int) : Option (Int × Int × Bool) := (measure_Para_Line.f k a0 a1 a2).bind fun r => (measure_Para_Item.f k a0 a2).bind fun r2 => if (decide (r2.1 = 3)) = true then (measure_Para_Bounds.j0 k a0 (wrap64 (r.1 - r2.2.1), r.2.1, r.2.2.1, r.2.2.2)) else (measure_Para_Bounds.j0 k a0 r)
def measure_Para_Bounds.sig (k : Nat) : Sig := .p [(false, y38), (false, (.i .i64)), (false, (.i .i64))] [.c false (.i .i64), .c false (.i .i64), .c false .b] fun x => measure_Para_Bounds.f k x.1 x.2.1 x.2.2.1
def measure_Para_Bounds.E (k : Nat) : List (Nat × Sig) := [(10, measure_Para_Line.sig k), (21, measure_Para_Item.sig k)]
def measure_Para_Bounds.G (P : Program) : GI := ⟨P, TT, 46, 59, [(9, 46, 4), (10, 50, 9)], [], [], [], [], AD⟩
def measure_Para_Bounds.H : H := .s .n (.s .n (.j 0 .n .n))
abbrev measure_Para_Bounds.j0_s : Sh := [(0, .v y38), (9, .at_ 46), (46, .box y9)]
def measure_Para_Bounds.O (k : Nat) : List (Orc (denR [.c false (.i .i64), .c false (.i .i64), .c false .b])) := [⟨measure_Para_Bounds.j0_s, fun y => measure_Para_Bounds.j0 k y.1 y.2.2.1⟩]
theorem measure_Para_Bounds.j0_e (k : Nat) (y : denS measure_Para_Bounds.j0_s) : measure_Para_Bounds.j0 (k + 1) y.1 y.2.2.1 = evP ((measure_Para_Bounds.G Try.prog).at (measure_Para_Bounds.E k)) (fun i => (measure_Para_Bounds.O k)[i]?) [1, 1, 1] (cd Try.f13) measure_Para_Bounds.H (kFin ((measure_Para_Bounds.G Try.prog).at (measure_Para_Bounds.E k)) [.tmp 6, .tmp 7, .tmp 8] [.c false (.i .i64), .c false (.i .i64), .c false .b]) (unS measure_Para_Bounds.j0_s y) := by rw [measure_Para_Bounds.j0]; kernel_rfl
theorem measure_Para_Bounds.go : goesTo Try.prog 13 := ⟨_, Try.func13, by kernel_rfl, rfl⟩
theorem measure_Para_Bounds.ok (k : Nat) : SigOk Try.prog 13 (measure_Para_Bounds.sig k) :=
  fn_p (G := measure_Para_Bounds.G Try.prog) (c := cd Try.f13) (rs := [.tmp 6, .tmp 7, .tmp 8]) (args := [(false, y38), (false, (.i .i64)), (false, (.i .i64))]) (l := [.c false (.i .i64), .c false (.i .i64), .c false .b]) (fn := Try.f13) ⟨Try.func13, by kernel_rfl, by kernel_rfl, by kernel_rfl, le_of rfl, le_of rfl, TT_ok, AD_ok⟩ rfl measure_Para_Bounds.E (fun k p hp => by
    simp only [measure_Para_Bounds.E, List.mem_cons, List.not_mem_nil, or_false] at hp
    rcases hp with rfl | rfl
    · exact ⟨measure_Para_Line.ok k, measure_Para_Line.go⟩
    · exact ⟨measure_Para_Item.ok k, measure_Para_Item.go⟩)
    (fun k i => (measure_Para_Bounds.O k)[i]?) measure_Para_Bounds.H (fun k x => measure_Para_Bounds.f k x.1 x.2.1 x.2.2.1)
    (fun id o y h => by
    have h' := List.mem_of_getElem? h
    simp only [measure_Para_Bounds.O, List.mem_cons, List.not_mem_nil, or_false] at h'
    rcases h' with rfl <;> rfl)
    (fun k p hp => by
    rw [show pts (cd Try.f13) measure_Para_Bounds.H = [(0, [1, 1, 1])] by kernel_rfl] at hp
    simp only [List.mem_cons, List.not_mem_nil, or_false] at hp
    rcases hp with rfl
    · exact ptOk_of rfl (measure_Para_Bounds.j0_e k))
    (fun k x => by kernel_rfl) k
/-! reglet/regletlaw08.MeasureLines -/
mutual
def regletlaw08_MeasureLines.l0 : Nat → (List api_Item) → Int → Int → measure_Para → Int → Int → measure_Sum → measure_Sum → measure_Sum → Option Bool
  | 0, _, _, _, _, _, _, _, _, _ => none
  | k + 1, t, t2, t3, t4, t5, t6, t7, t8, t9 => if (decide (t6 < (t.length : Int))) = true then ((at? t t6).bind fun e => if (decide (e.1 = 3)) = true then ((at? t t6).bind fun e2 => regletlaw08_MeasureLines.j1 k t t2 t3 t4 (if t5 < e2.2.1 then e2.2.1 else t5) t6 t7 t8 t9) else (regletlaw08_MeasureLines.j1 k t t2 t3 t4 t5 t6 t7 t8 t9)) else ((measure_Para_Bounds.f k t4 t2 t3).bind fun r6 => (measure_Para_Start.f k t4 t2).bind fun r7 => (regletref08_Start.f k t t2).bind fun r8 => if (!decide (r7 = r8)) = true then (some false) else (if (!decide (r6.1 = (wrap64 (t9.1 - t9.2.2.1)))) = true then (some false) else (if (!decide (r6.2.1 = (wrap64 ((wrap64 (t9.1 + (wrap64 (5 * t9.2.1)))) + t5)))) = true then (some false) else (if (!decide (r6.2.2 = (decide (0 < t9.2.2.2)))) = true then (some false) else (regletlaw08_MeasureLines.j2 k t7 t8)))))
def regletlaw08_MeasureLines.j1 : Nat → (List api_Item) → Int → Int → measure_Para → Int → Int → measure_Sum → measure_Sum → measure_Sum → Option Bool
  | 0, _, _, _, _, _, _, _, _, _ => none
  | k + 1, t10, t11, t12, t13, t14, t15, t16, t17, t18 => regletlaw08_MeasureLines.l0 k t10 t11 t12 t13 t14 (wrap64 (t15 + 1)) t16 t17 t18
def regletlaw08_MeasureLines.j2 : Nat → measure_Sum → measure_Sum → Option Bool
  | 0, _, _ => none
  | k + 1, t19, t20 => some (decide (t19.1 = t20.1) && (decide (t19.2.1 = t20.2.1) && (decide (t19.2.2.1 = t20.2.2.1) && (decide (t19.2.2.2 = t20.2.2.2) && true))))
end
def regletlaw08_MeasureLines.f (k : Nat) (a0 : List api_Item) (a1 : Int) (a2 : Int) : Option Bool := (regletlaw08_awake.f k).bind fun r => if (!r) = true then (some false) else ((regletlaw08_para.f k a0).bind fun r2 => optK r2 (some true) fun p => (measure_Para_Line.f k p a1 a2).bind fun r3 => (regletref08_Whole.f k a0 a1 a2).bind fun r4 => (regletref08_Line.f k a0 a1 a2).bind fun r5 => regletlaw08_MeasureLines.l0 k a0 a1 a2 p 0 0 r3 r4 r5.1)
def regletlaw08_MeasureLines.sig (k : Nat) : Sig := .p [(false, y39), (false, (.i .i64)), (false, (.i .i64))] [.c false .b] fun x => regletlaw08_MeasureLines.f k x.1 x.2.1 x.2.2.1
def regletlaw08_MeasureLines.E (k : Nat) : List (Nat × Sig) := [(6, regletlaw08_awake.sig k), (7, regletlaw08_para.sig k), (10, measure_Para_Line.sig k), (11, regletref08_Whole.sig k), (12, regletref08_Line.sig k), (13, measure_Para_Bounds.sig k), (14, measure_Para_Start.sig k), (15, regletref08_Start.sig k)]
def regletlaw08_MeasureLines.G (P : Program) : GI := ⟨P, TT, 111, 123, [(8, 111, 4), (9, 115, 4), (10, 119, 4)], [], [], [], [], AD⟩
def regletlaw08_MeasureLines.H : H := .s .n (.s .n (.s .n (.s (.s (.f 7 .n) .n) (.s .n (.s .n (.s .n (.s (.s .n (.s (.l 0 (.s .n (.j 1 .n .n))) .n)) (.s .n (.j 2 .n .n)))))))))
abbrev regletlaw08_MeasureLines.l0_s : Sh := [(0, .v y39), (1, .v (.i .i64)), (2, .v (.i .i64)), (7, .v y48), (8, .at_ 111), (9, .at_ 115), (10, .at_ 119), (12, .v (.i .i64)), (13, .v (.i .i64)), (111, .box y9), (115, .box y9), (119, .box y9)]
abbrev regletlaw08_MeasureLines.j1_s : Sh := [(0, .v y39), (1, .v (.i .i64)), (2, .v (.i .i64)), (7, .v y48), (8, .at_ 111), (9, .at_ 115), (10, .at_ 119), (12, .v (.i .i64)), (13, .v (.i .i64)), (111, .box y9), (115, .box y9), (119, .box y9)]
abbrev regletlaw08_MeasureLines.j2_s : Sh := [(8, .at_ 111), (9, .at_ 115), (111, .box y9), (115, .box y9)]
def regletlaw08_MeasureLines.O (k : Nat) : List (Orc (denR [.c false .b])) := [⟨regletlaw08_MeasureLines.l0_s, fun y => regletlaw08_MeasureLines.l0 k y.1 y.2.1 y.2.2.1 y.2.2.2.1 y.2.2.2.2.2.2.2.1 y.2.2.2.2.2.2.2.2.1 y.2.2.2.2.2.2.2.2.2.1 y.2.2.2.2.2.2.2.2.2.2.1 y.2.2.2.2.2.2.2.2.2.2.2.1⟩, ⟨regletlaw08_MeasureLines.j1_s, fun y => regletlaw08_MeasureLines.j1 k y.1 y.2.1 y.2.2.1 y.2.2.2.1 y.2.2.2.2.2.2.2.1 y.2.2.2.2.2.2.2.2.1 y.2.2.2.2.2.2.2.2.2.1 y.2.2.2.2.2.2.2.2.2.2.1 y.2.2.2.2.2.2.2.2.2.2.2.1⟩, ⟨regletlaw08_MeasureLines.j2_s, fun y => regletlaw08_MeasureLines.j2 k y.2.2.1 y.2.2.2.1⟩]
theorem regletlaw08_MeasureLines.j1_e (k : Nat) (y : denS regletlaw08_MeasureLines.j1_s) : regletlaw08_MeasureLines.j1 (k + 1) y.1 y.2.1 y.2.2.1 y.2.2.2.1 y.2.2.2.2.2.2.2.1 y.2.2.2.2.2.2.2.2.1 y.2.2.2.2.2.2.2.2.2.1 y.2.2.2.2.2.2.2.2.2.2.1 y.2.2.2.2.2.2.2.2.2.2.2.1 = evP ((regletlaw08_MeasureLines.G Try.prog).at (regletlaw08_MeasureLines.E k)) (fun i => (regletlaw08_MeasureLines.O k)[i]?) [1, 1, 1, 1, 1, 1, 1, 0, 1, 0, 0, 1, 1] (cd Try.f4) regletlaw08_MeasureLines.H (kFin ((regletlaw08_MeasureLines.G Try.prog).at (regletlaw08_MeasureLines.E k)) [.tmp 6] [.c false .b]) (unS regletlaw08_MeasureLines.j1_s y) := by rw [regletlaw08_MeasureLines.j1]; kernel_rfl
theorem regletlaw08_MeasureLines.l0_e (k : Nat) (y : denS regletlaw08_MeasureLines.l0_s) : regletlaw08_MeasureLines.l0 (k + 1) y.1 y.2.1 y.2.2.1 y.2.2.2.1 y.2.2.2.2.2.2.2.1 y.2.2.2.2.2.2.2.2.1 y.2.2.2.2.2.2.2.2.2.1 y.2.2.2.2.2.2.2.2.2.2.1 y.2.2.2.2.2.2.2.2.2.2.2.1 = evP ((regletlaw08_MeasureLines.G Try.prog).at (regletlaw08_MeasureLines.E k)) (fun i => (regletlaw08_MeasureLines.O k)[i]?) [1, 1, 1, 1, 1, 1, 1, 0, 1, 0, 0] (cd Try.f4) regletlaw08_MeasureLines.H (kFin ((regletlaw08_MeasureLines.G Try.prog).at (regletlaw08_MeasureLines.E k)) [.tmp 6] [.c false .b]) (unS regletlaw08_MeasureLines.l0_s y) := by rw [regletlaw08_MeasureLines.l0]; kernel_rfl
theorem regletlaw08_MeasureLines.j2_e (k : Nat) (y : denS regletlaw08_MeasureLines.j2_s) : regletlaw08_MeasureLines.j2 (k + 1) y.2.2.1 y.2.2.2.1 = evP ((regletlaw08_MeasureLines.G Try.prog).at (regletlaw08_MeasureLines.E k)) (fun i => (regletlaw08_MeasureLines.O k)[i]?) [1, 1, 1, 1, 1, 1, 1, 1, 1, 1] (cd Try.f4) regletlaw08_MeasureLines.H (kFin ((regletlaw08_MeasureLines.G Try.prog).at (regletlaw08_MeasureLines.E k)) [.tmp 6] [.c false .b]) (unS regletlaw08_MeasureLines.j2_s y) := by rw [regletlaw08_MeasureLines.j2]; kernel_rfl
theorem regletlaw08_MeasureLines.go : goesTo Try.prog 4 := ⟨_, Try.func4, by kernel_rfl, rfl⟩
theorem regletlaw08_MeasureLines.ok (k : Nat) : SigOk Try.prog 4 (regletlaw08_MeasureLines.sig k) :=
  fn_p (G := regletlaw08_MeasureLines.G Try.prog) (c := cd Try.f4) (rs := [.tmp 6]) (args := [(false, y39), (false, (.i .i64)), (false, (.i .i64))]) (l := [.c false .b]) (fn := Try.f4) ⟨Try.func4, by kernel_rfl, by kernel_rfl, by kernel_rfl, le_of rfl, le_of rfl, TT_ok, AD_ok⟩ rfl regletlaw08_MeasureLines.E (fun k p hp => by
    simp only [regletlaw08_MeasureLines.E, List.mem_cons, List.not_mem_nil, or_false] at hp
    rcases hp with rfl | rfl | rfl | rfl | rfl | rfl | rfl | rfl
    · exact ⟨regletlaw08_awake.ok k, regletlaw08_awake.go⟩
    · exact ⟨regletlaw08_para.ok k, regletlaw08_para.go⟩
    · exact ⟨measure_Para_Line.ok k, measure_Para_Line.go⟩
    · exact ⟨regletref08_Whole.ok k, regletref08_Whole.go⟩
    · exact ⟨regletref08_Line.ok k, regletref08_Line.go⟩
    · exact ⟨measure_Para_Bounds.ok k, measure_Para_Bounds.go⟩
    · exact ⟨measure_Para_Start.ok k, measure_Para_Start.go⟩
    · exact ⟨regletref08_Start.ok k, regletref08_Start.go⟩)
    (fun k i => (regletlaw08_MeasureLines.O k)[i]?) regletlaw08_MeasureLines.H (fun k x => regletlaw08_MeasureLines.f k x.1 x.2.1 x.2.2.1)
    (fun id o y h => by
    have h' := List.mem_of_getElem? h
    simp only [regletlaw08_MeasureLines.O, List.mem_cons, List.not_mem_nil, or_false] at h'
    rcases h' with rfl | rfl | rfl <;> rfl)
    (fun k p hp => by
    rw [show pts (cd Try.f4) regletlaw08_MeasureLines.H = [(1, [1, 1, 1, 1, 1, 1, 1, 0, 1, 0, 0, 1, 1]), (0, [1, 1, 1, 1, 1, 1, 1, 0, 1, 0, 0]), (2, [1, 1, 1, 1, 1, 1, 1, 1, 1, 1])] by kernel_rfl] at hp
    simp only [List.mem_cons, List.not_mem_nil, or_false] at hp
    rcases hp with rfl | rfl | rfl
    · exact ptOk_of rfl (regletlaw08_MeasureLines.j1_e k)
    · exact ptOk_of rfl (regletlaw08_MeasureLines.l0_e k)
    · exact ptOk_of rfl (regletlaw08_MeasureLines.j2_e k))
    (fun k x => by kernel_rfl) k
/-! reglet/regletlaw08.MeasureBounds -/
mutual
def regletlaw08_MeasureBounds.j0 : Nat → (List api_Item) → Int → Int → measure_Para → Option Bool
  | 0, _, _, _, _ => none
  | k + 1, t, t2, t3, t4 => regletlaw08_MeasureBounds.l1 k t t2 t3 t4 0 0 false 0
def regletlaw08_MeasureBounds.l1 : Nat → (List api_Item) → Int → Int → measure_Para → Int → Int → Bool → Int → Option Bool
  | 0, _, _, _, _, _, _, _, _ => none
  | k + 1, t5, t6, t7, t8, t9, t10, t11, t12 => if (decide (t12 < (t5.length : Int))) = true then ((measure_Para_Bounds.f k t8 t6 t12).bind fun r3 => if (decide (0 < t12)) = true then (if (decide (r3.1 < t9)) = true then (some false) else (if (decide (r3.2.1 < t10)) = true then (some false) else (if t11 = true then (if (!r3.2.2) = true then (some false) else (regletlaw08_MeasureBounds.j2 k t5 t6 t7 t8 t12 r3.1 r3.2.1 r3.2.2)) else (regletlaw08_MeasureBounds.j2 k t5 t6 t7 t8 t12 r3.1 r3.2.1 r3.2.2)))) else (regletlaw08_MeasureBounds.j2 k t5 t6 t7 t8 t12 r3.1 r3.2.1 r3.2.2)) else (some true)
def regletlaw08_MeasureBounds.j2 : Nat → (List api_Item) → Int → Int → measure_Para → Int → Int → Int → Bool → Option Bool
  | 0, _, _, _, _, _, _, _, _ => none
  | k + 1, t13, t14, t15, t16, t17, t18, t19, t20 => (measure_Para_Fit.f k t16 t14 t17 t15).bind fun r4 => if (decide (t15 < t18)) = true then (if (!r4.2.2.2.2) = true then (some false) else (if (decide (t19 < t15)) = true then (if (!t20) = true then (if (decide (r4.2.2.1 < 10000)) = true then (some false) else (regletlaw08_MeasureBounds.j3 k t13 t14 t15 t16 t17 t18 t19 t20)) else (regletlaw08_MeasureBounds.j3 k t13 t14 t15 t16 t17 t18 t19 t20)) else (regletlaw08_MeasureBounds.j3 k t13 t14 t15 t16 t17 t18 t19 t20))) else (if (decide (t19 < t15)) = true then (if (!t20) = true then (if (decide (r4.2.2.1 < 10000)) = true then (some false) else (regletlaw08_MeasureBounds.j3 k t13 t14 t15 t16 t17 t18 t19 t20)) else (regletlaw08_MeasureBounds.j3 k t13 t14 t15 t16 t17 t18 t19 t20)) else (regletlaw08_MeasureBounds.j3 k t13 t14 t15 t16 t17 t18 t19 t20))
def regletlaw08_MeasureBounds.j3 : Nat → (List api_Item) → Int → Int → measure_Para → Int → Int → Int → Bool → Option Bool
  | 0, _, _, _, _, _, _, _, _ => none
  | k + 1, t21, t22, t23, t24, t25, t26, t27, t28 => regletlaw08_MeasureBounds.l1 k t21 t22 t23 t24 t26 t27 t28 (wrap64 (t25 + 1))
end
def regletlaw08_MeasureBounds.f (k : Nat) (a0 : List api_Item) (a1 : Int) (a2 : Int) : Option Bool := (regletlaw08_awake.f k).bind fun r => if (!r) = true then (some false) else ((regletlaw08_para.f k a0).bind fun r2 => optK r2 (some true) fun p => if (decide (a2 < (-1099511627776))) = true then (some true) else (if (decide (1099511627776 < a2)) = true then (some true) else (regletlaw08_MeasureBounds.j0 k a0 a1 a2 p)))
def regletlaw08_MeasureBounds.sig (k : Nat) : Sig := .p [(false, y39), (false, (.i .i64)), (false, (.i .i64))] [.c false .b] fun x => regletlaw08_MeasureBounds.f k x.1 x.2.1 x.2.2.1
def regletlaw08_MeasureBounds.E (k : Nat) : List (Nat × Sig) := [(6, regletlaw08_awake.sig k), (7, regletlaw08_para.sig k), (8, measure_Para_Fit.sig k), (13, measure_Para_Bounds.sig k)]
def regletlaw08_MeasureBounds.G (P : Program) : GI := ⟨P, TT, 93, 98, [(15, 93, 5)], [], [], [], [], AD⟩
def regletlaw08_MeasureBounds.H : H := .s .n (.s .n (.s .n (.j 0 (.s (.f 7 .n) .n) (.s .n (.s (.s .n (.s (.l 1 (.s .n (.s (.s (.s .n (.j 2 .n (.s .n (.j 3 .n .n)))) .n) .n))) .n)) .n)))))
abbrev regletlaw08_MeasureBounds.j0_s : Sh := [(0, .v y39), (1, .v (.i .i64)), (2, .v (.i .i64)), (7, .v y48)]
abbrev regletlaw08_MeasureBounds.l1_s : Sh := [(0, .v y39), (1, .v (.i .i64)), (2, .v (.i .i64)), (7, .v y48), (8, .v (.i .i64)), (9, .v (.i .i64)), (10, .v .b), (11, .v (.i .i64))]
abbrev regletlaw08_MeasureBounds.j2_s : Sh := [(0, .v y39), (1, .v (.i .i64)), (2, .v (.i .i64)), (7, .v y48), (11, .v (.i .i64)), (12, .v (.i .i64)), (13, .v (.i .i64)), (14, .v .b)]
abbrev regletlaw08_MeasureBounds.j3_s : Sh := [(0, .v y39), (1, .v (.i .i64)), (2, .v (.i .i64)), (7, .v y48), (11, .v (.i .i64)), (12, .v (.i .i64)), (13, .v (.i .i64)), (14, .v .b)]
def regletlaw08_MeasureBounds.O (k : Nat) : List (Orc (denR [.c false .b])) := [⟨regletlaw08_MeasureBounds.j0_s, fun y => regletlaw08_MeasureBounds.j0 k y.1 y.2.1 y.2.2.1 y.2.2.2.1⟩, ⟨regletlaw08_MeasureBounds.l1_s, fun y => regletlaw08_MeasureBounds.l1 k y.1 y.2.1 y.2.2.1 y.2.2.2.1 y.2.2.2.2.1 y.2.2.2.2.2.1 y.2.2.2.2.2.2.1 y.2.2.2.2.2.2.2.1⟩, ⟨regletlaw08_MeasureBounds.j2_s, fun y => regletlaw08_MeasureBounds.j2 k y.1 y.2.1 y.2.2.1 y.2.2.2.1 y.2.2.2.2.1 y.2.2.2.2.2.1 y.2.2.2.2.2.2.1 y.2.2.2.2.2.2.2.1⟩, ⟨regletlaw08_MeasureBounds.j3_s, fun y => regletlaw08_MeasureBounds.j3 k y.1 y.2.1 y.2.2.1 y.2.2.2.1 y.2.2.2.2.1 y.2.2.2.2.2.1 y.2.2.2.2.2.2.1 y.2.2.2.2.2.2.2.1⟩]
theorem regletlaw08_MeasureBounds.j3_e (k : Nat) (y : denS regletlaw08_MeasureBounds.j3_s) : regletlaw08_MeasureBounds.j3 (k + 1) y.1 y.2.1 y.2.2.1 y.2.2.2.1 y.2.2.2.2.1 y.2.2.2.2.2.1 y.2.2.2.2.2.2.1 y.2.2.2.2.2.2.2.1 = evP ((regletlaw08_MeasureBounds.G Try.prog).at (regletlaw08_MeasureBounds.E k)) (fun i => (regletlaw08_MeasureBounds.O k)[i]?) [1, 1, 1, 1, 1, 0, 1, 0, 0, 1, 0, 0, 1, 1, 1, 1] (cd Try.f5) regletlaw08_MeasureBounds.H (kFin ((regletlaw08_MeasureBounds.G Try.prog).at (regletlaw08_MeasureBounds.E k)) [.tmp 6] [.c false .b]) (unS regletlaw08_MeasureBounds.j3_s y) := by rw [regletlaw08_MeasureBounds.j3]; kernel_rfl
theorem regletlaw08_MeasureBounds.j2_e (k : Nat) (y : denS regletlaw08_MeasureBounds.j2_s) : regletlaw08_MeasureBounds.j2 (k + 1) y.1 y.2.1 y.2.2.1 y.2.2.2.1 y.2.2.2.2.1 y.2.2.2.2.2.1 y.2.2.2.2.2.2.1 y.2.2.2.2.2.2.2.1 = evP ((regletlaw08_MeasureBounds.G Try.prog).at (regletlaw08_MeasureBounds.E k)) (fun i => (regletlaw08_MeasureBounds.O k)[i]?) [1, 1, 1, 1, 1, 0, 1, 0, 0, 1, 0, 0, 1, 1] (cd Try.f5) regletlaw08_MeasureBounds.H (kFin ((regletlaw08_MeasureBounds.G Try.prog).at (regletlaw08_MeasureBounds.E k)) [.tmp 6] [.c false .b]) (unS regletlaw08_MeasureBounds.j2_s y) := by rw [regletlaw08_MeasureBounds.j2]; kernel_rfl
theorem regletlaw08_MeasureBounds.l1_e (k : Nat) (y : denS regletlaw08_MeasureBounds.l1_s) : regletlaw08_MeasureBounds.l1 (k + 1) y.1 y.2.1 y.2.2.1 y.2.2.2.1 y.2.2.2.2.1 y.2.2.2.2.2.1 y.2.2.2.2.2.2.1 y.2.2.2.2.2.2.2.1 = evP ((regletlaw08_MeasureBounds.G Try.prog).at (regletlaw08_MeasureBounds.E k)) (fun i => (regletlaw08_MeasureBounds.O k)[i]?) [1, 1, 1, 1, 1, 0, 1, 0, 0] (cd Try.f5) regletlaw08_MeasureBounds.H (kFin ((regletlaw08_MeasureBounds.G Try.prog).at (regletlaw08_MeasureBounds.E k)) [.tmp 6] [.c false .b]) (unS regletlaw08_MeasureBounds.l1_s y) := by rw [regletlaw08_MeasureBounds.l1]; kernel_rfl
theorem regletlaw08_MeasureBounds.j0_e (k : Nat) (y : denS regletlaw08_MeasureBounds.j0_s) : regletlaw08_MeasureBounds.j0 (k + 1) y.1 y.2.1 y.2.2.1 y.2.2.2.1 = evP ((regletlaw08_MeasureBounds.G Try.prog).at (regletlaw08_MeasureBounds.E k)) (fun i => (regletlaw08_MeasureBounds.O k)[i]?) [1, 1, 1, 1] (cd Try.f5) regletlaw08_MeasureBounds.H (kFin ((regletlaw08_MeasureBounds.G Try.prog).at (regletlaw08_MeasureBounds.E k)) [.tmp 6] [.c false .b]) (unS regletlaw08_MeasureBounds.j0_s y) := by rw [regletlaw08_MeasureBounds.j0]; kernel_rfl
theorem regletlaw08_MeasureBounds.go : goesTo Try.prog 5 := ⟨_, Try.func5, by kernel_rfl, rfl⟩
theorem regletlaw08_MeasureBounds.ok (k : Nat) : SigOk Try.prog 5 (regletlaw08_MeasureBounds.sig k) :=
  fn_p (G := regletlaw08_MeasureBounds.G Try.prog) (c := cd Try.f5) (rs := [.tmp 6]) (args := [(false, y39), (false, (.i .i64)), (false, (.i .i64))]) (l := [.c false .b]) (fn := Try.f5) ⟨Try.func5, by kernel_rfl, by kernel_rfl, by kernel_rfl, le_of rfl, le_of rfl, TT_ok, AD_ok⟩ rfl regletlaw08_MeasureBounds.E (fun k p hp => by
    simp only [regletlaw08_MeasureBounds.E, List.mem_cons, List.not_mem_nil, or_false] at hp
    rcases hp with rfl | rfl | rfl | rfl
    · exact ⟨regletlaw08_awake.ok k, regletlaw08_awake.go⟩
    · exact ⟨regletlaw08_para.ok k, regletlaw08_para.go⟩
    · exact ⟨measure_Para_Fit.ok k, measure_Para_Fit.go⟩
    · exact ⟨measure_Para_Bounds.ok k, measure_Para_Bounds.go⟩)
    (fun k i => (regletlaw08_MeasureBounds.O k)[i]?) regletlaw08_MeasureBounds.H (fun k x => regletlaw08_MeasureBounds.f k x.1 x.2.1 x.2.2.1)
    (fun id o y h => by
    have h' := List.mem_of_getElem? h
    simp only [regletlaw08_MeasureBounds.O, List.mem_cons, List.not_mem_nil, or_false] at h'
    rcases h' with rfl | rfl | rfl | rfl <;> rfl)
    (fun k p hp => by
    rw [show pts (cd Try.f5) regletlaw08_MeasureBounds.H = [(3, [1, 1, 1, 1, 1, 0, 1, 0, 0, 1, 0, 0, 1, 1, 1, 1]), (2, [1, 1, 1, 1, 1, 0, 1, 0, 0, 1, 0, 0, 1, 1]), (1, [1, 1, 1, 1, 1, 0, 1, 0, 0]), (0, [1, 1, 1, 1])] by kernel_rfl] at hp
    simp only [List.mem_cons, List.not_mem_nil, or_false] at hp
    rcases hp with rfl | rfl | rfl | rfl
    · exact ptOk_of rfl (regletlaw08_MeasureBounds.j3_e k)
    · exact ptOk_of rfl (regletlaw08_MeasureBounds.j2_e k)
    · exact ptOk_of rfl (regletlaw08_MeasureBounds.l1_e k)
    · exact ptOk_of rfl (regletlaw08_MeasureBounds.j0_e k))
    (fun k x => by kernel_rfl) k
end Go.Proofs.Ytnnmgchnmggcaaa.Vm
