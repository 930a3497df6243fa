-- PRINTED by vq.py. Not trusted: Lean checks it.
import Derived.Test.YtjbobaeggdafpaaQ0
namespace Go.Proofs.Ytjbobaeggdafpaa.Vm
open Go
open _root_.Go.RowKit (wrap64)
set_option maxRecDepth 100000
set_option linter.unusedVariables false
/-! reglet/regletref04.fits -/
def regletref04_fits.f (k : Nat) (a0 : Int) (a1 : Int) : Option Bool := if (decide (a1 ≤ a0)) = true then (some (decide (a0 ≤ 1048576))) else (some false)
def regletref04_fits.sig (k : Nat) : Sig := .p [(false, (.i .i64)), (false, (.i .i64))] [.c false .b] fun x => regletref04_fits.f k x.1 x.2.1
def regletref04_fits.E (k : Nat) : List (Nat × Sig) := []
def regletref04_fits.G (P : Program) : GI := ⟨P, TT, 12, 12, [], [], [], [], [], AD⟩
def regletref04_fits.H : H := .n
def regletref04_fits.O (k : Nat) : List (Orc (denR [.c false .b])) := []
theorem regletref04_fits.go : goesTo Try.prog 56 := ⟨_, Try.func56, by kernel_rfl, rfl⟩
theorem regletref04_fits.ok (k : Nat) : SigOk Try.prog 56 (regletref04_fits.sig k) :=
  fn_p (G := regletref04_fits.G Try.prog) (c := cd Try.f56) (rs := [.tmp 4]) (args := [(false, (.i .i64)), (false, (.i .i64))]) (l := [.c false .b]) (fn := Try.f56) ⟨Try.func56, by kernel_rfl, by kernel_rfl, by kernel_rfl, le_of rfl, le_of rfl, TT_ok, AD_ok⟩ rfl regletref04_fits.E (fun k p hp => nomatch hp)
    (fun k i => (regletref04_fits.O k)[i]?) regletref04_fits.H (fun k x => regletref04_fits.f k x.1 x.2.1)
    (fun id o y h => by cases id <;> cases h)
    (fun k p hp => by rw [show pts (cd Try.f56) regletref04_fits.H = [] by kernel_rfl] at hp; nomatch hp)
    (fun k x => by kernel_rfl) k
/-! reglet/regletref04.Style -/
mutual
def regletref04_Style.l0 : Nat → (List Int) → Int → (Int × Int × Int × Int × Int × Int × List api_Range × Bool) → Option Int
  | 0, _, _, _ => none
  | k + 1, t, t2, t3 => if (decide (t2 < (t.length : Int))) = true then (if 0 ≤ t2 ∧ t2 < (t.length : Int) then ((t[t2.toNat]?).bind fun e => (regletref04_fits.f k e 0).bind fun r => if (!r) = true then (some 41) else (regletref04_Style.l0 k t (wrap64 (t2 + 1)) t3)) else none) else ((regletref04_fits.f k t3.1 1).bind fun r2 => if (!r2) = true then (some 41) else (if (decide (t3.2.1 < t3.2.2.2.1)) = true then (some 41) else (regletref04_Style.j1 k t3)))
def regletref04_Style.j1 : Nat → (Int × Int × Int × Int × Int × Int × List api_Range × Bool) → Option Int
  | 0, _ => none
  | k + 1, t4 => if (decide (64 < (t4.2.2.2.2.2.2.1.length : Int))) = true then (some 42) else (regletref04_Style.l2 k 0 t4)
def regletref04_Style.l2 : Nat → Int → (Int × Int × Int × Int × Int × Int × List api_Range × Bool) → Option Int
  | 0, _, _ => none
  | k + 1, t5, t6 => if (decide (t5 < (t6.2.2.2.2.2.2.1.length : Int))) = true then ((at? t6.2.2.2.2.2.2.1 t5).bind fun e2 => if (decide (t5 = 0)) = true then (if (decide (e2.1 < 0)) = true then (some 42) else (if (decide (0 < t5)) = true then ((at? t6.2.2.2.2.2.2.1 (wrap64 (t5 - 1))).bind fun e3 => if (decide (e2.1 ≤ e3.2.1)) = true then (some 42) else (if (decide (e2.2.1 < e2.1)) = true then (some 42) else (if (decide (1114111 < e2.2.1)) = true then (some 42) else (regletref04_Style.j3 k t5 t6 e2)))) else (if (decide (e2.2.1 < e2.1)) = true then (some 42) else (if (decide (1114111 < e2.2.1)) = true then (some 42) else (regletref04_Style.j3 k t5 t6 e2))))) else (if (decide (0 < t5)) = true then ((at? t6.2.2.2.2.2.2.1 (wrap64 (t5 - 1))).bind fun e4 => if (decide (e2.1 ≤ e4.2.1)) = true then (some 42) else (if (decide (e2.2.1 < e2.1)) = true then (some 42) else (if (decide (1114111 < e2.2.1)) = true then (some 42) else (regletref04_Style.j3 k t5 t6 e2)))) else (if (decide (e2.2.1 < e2.1)) = true then (some 42) else (if (decide (1114111 < e2.2.1)) = true then (some 42) else (regletref04_Style.j3 k t5 t6 e2))))) else (some 0)
def regletref04_Style.j3 : Nat → Int → (Int × Int × Int × Int × Int × Int × List api_Range × Bool) → api_Range → Option Int
  | 0, _, _, _ => none
  | k + 1, t7, t8, t9 => (regletref04_fits.f k t9.2.2 0).bind fun r3 => if (!r3) = true then (some 41) else (regletref04_Style.l2 k (wrap64 (t7 + 1)) t8)
end
def regletref04_Style.f (k : Nat) (a0 : Int × Int × Int × Int × Int × Int × List api_Range × Bool) : Option Int := regletref04_Style.l0 k ([a0.2.1, a0.2.2.1, a0.2.2.2.1, a0.2.2.2.2.1, a0.2.2.2.2.2.1] : List Int) 0 a0
def regletref04_Style.sig (k : Nat) : Sig := .p [(true, y9)] [.c false (.i .i64)] fun x => regletref04_Style.f k x.1
def regletref04_Style.E (k : Nat) : List (Nat × Sig) := [(56, regletref04_fits.sig k)]
def regletref04_Style.G (P : Program) : GI := ⟨P, TT, 96, 107, [(1, 96, 8), (6, 104, 3)], [], [], [], [], AD⟩
def regletref04_Style.H : H := .s .n (.s .n (.s (.s .n (.s (.l 0 .n) .n)) (.j 1 .n (.s .n (.s (.s .n (.s (.l 2 (.s .n (.s (.s (.s .n (.j 3 .n .n)) .n) .n))) .n)) .n)))))
abbrev regletref04_Style.l0_s : Sh := [(1, .at_ 96), (3, .v y10), (4, .v (.i .i64)), (96, .box y9)]
abbrev regletref04_Style.j1_s : Sh := [(1, .at_ 96), (96, .box y9)]
abbrev regletref04_Style.l2_s : Sh := [(1, .at_ 96), (5, .v (.i .i64)), (96, .box y9)]
abbrev regletref04_Style.j3_s : Sh := [(1, .at_ 96), (5, .v (.i .i64)), (6, .at_ 104), (96, .box y9), (104, .box y1)]
def regletref04_Style.O (k : Nat) : List (Orc (denR [.c false (.i .i64)])) := [⟨regletref04_Style.l0_s, fun y => regletref04_Style.l0 k y.2.1 y.2.2.1 y.2.2.2.1⟩, ⟨regletref04_Style.j1_s, fun y => regletref04_Style.j1 k y.2.1⟩, ⟨regletref04_Style.l2_s, fun y => regletref04_Style.l2 k y.2.1 y.2.2.1⟩, ⟨regletref04_Style.j3_s, fun y => regletref04_Style.j3 k y.2.1 y.2.2.2.1 y.2.2.2.2.1⟩]
theorem regletref04_Style.l0_e (k : Nat) (y : denS regletref04_Style.l0_s) : regletref04_Style.l0 (k + 1) y.2.1 y.2.2.1 y.2.2.2.1 = evP ((regletref04_Style.G Try.prog).at (regletref04_Style.E k)) (fun i => (regletref04_Style.O k)[i]?) [1, 1, 0, 1, 0, 0] (cd Try.f34) regletref04_Style.H (kFin ((regletref04_Style.G Try.prog).at (regletref04_Style.E k)) [.tmp 2] [.c false (.i .i64)]) (unS regletref04_Style.l0_s y) := by rw [regletref04_Style.l0]; kernel_rfl
theorem regletref04_Style.j3_e (k : Nat) (y : denS regletref04_Style.j3_s) : regletref04_Style.j3 (k + 1) y.2.1 y.2.2.2.1 y.2.2.2.2.1 = evP ((regletref04_Style.G Try.prog).at (regletref04_Style.E k)) (fun i => (regletref04_Style.O k)[i]?) [1, 1, 1, 1, 1, 0, 1, 0, 0, 1, 0, 0, 1, 1] (cd Try.f34) regletref04_Style.H (kFin ((regletref04_Style.G Try.prog).at (regletref04_Style.E k)) [.tmp 2] [.c false (.i .i64)]) (unS regletref04_Style.j3_s y) := by rw [regletref04_Style.j3]; kernel_rfl
theorem regletref04_Style.l2_e (k : Nat) (y : denS regletref04_Style.l2_s) : regletref04_Style.l2 (k + 1) y.2.1 y.2.2.1 = evP ((regletref04_Style.G Try.prog).at (regletref04_Style.E k)) (fun i => (regletref04_Style.O k)[i]?) [1, 1, 1, 1, 1, 0, 1, 0, 0] (cd Try.f34) regletref04_Style.H (kFin ((regletref04_Style.G Try.prog).at (regletref04_Style.E k)) [.tmp 2] [.c false (.i .i64)]) (unS regletref04_Style.l2_s y) := by rw [regletref04_Style.l2]; kernel_rfl
theorem regletref04_Style.j1_e (k : Nat) (y : denS regletref04_Style.j1_s) : regletref04_Style.j1 (k + 1) y.2.1 = evP ((regletref04_Style.G Try.prog).at (regletref04_Style.E k)) (fun i => (regletref04_Style.O k)[i]?) [1, 1, 1, 1] (cd Try.f34) regletref04_Style.H (kFin ((regletref04_Style.G Try.prog).at (regletref04_Style.E k)) [.tmp 2] [.c false (.i .i64)]) (unS regletref04_Style.j1_s y) := by rw [regletref04_Style.j1]; kernel_rfl
theorem regletref04_Style.go : goesTo Try.prog 34 := ⟨_, Try.func34, by kernel_rfl, rfl⟩
theorem regletref04_Style.ok (k : Nat) : SigOk Try.prog 34 (regletref04_Style.sig k) :=
  fn_p (G := regletref04_Style.G Try.prog) (c := cd Try.f34) (rs := [.tmp 2]) (args := [(true, y9)]) (l := [.c false (.i .i64)]) (fn := Try.f34) ⟨Try.func34, by kernel_rfl, by kernel_rfl, by kernel_rfl, le_of rfl, le_of rfl, TT_ok, AD_ok⟩ rfl regletref04_Style.E (fun k p hp => by
    simp only [regletref04_Style.E, List.mem_cons, List.not_mem_nil, or_false] at hp
    rcases hp with rfl
    · exact ⟨regletref04_fits.ok k, regletref04_fits.go⟩)
    (fun k i => (regletref04_Style.O k)[i]?) regletref04_Style.H (fun k x => regletref04_Style.f k x.1)
    (fun id o y h => by
    have h' := List.mem_of_getElem? h
    simp only [regletref04_Style.O, List.mem_cons, List.not_mem_nil, or_false] at h'
    rcases h' with rfl | rfl | rfl | rfl <;> rfl)
    (fun k p hp => by
    rw [show pts (cd Try.f34) regletref04_Style.H = [(0, [1, 1, 0, 1, 0, 0]), (3, [1, 1, 1, 1, 1, 0, 1, 0, 0, 1, 0, 0, 1, 1]), (2, [1, 1, 1, 1, 1, 0, 1, 0, 0]), (1, [1, 1, 1, 1])] by kernel_rfl] at hp
    simp only [List.mem_cons, List.not_mem_nil, or_false] at hp
    rcases hp with rfl | rfl | rfl | rfl
    · exact ptOk_of rfl (regletref04_Style.l0_e k)
    · exact ptOk_of rfl (regletref04_Style.j3_e k)
    · exact ptOk_of rfl (regletref04_Style.l2_e k)
    · exact ptOk_of rfl (regletref04_Style.j1_e k))
    (fun k x => by kernel_rfl) k
/-! reglet/regletref04.Check -/
mutual
def regletref04_Check.j0 : Nat → (List (Int × Int × Int × Int × Int × Int × List api_Range × Bool)) → Option (Int × Int)
  | 0, _ => none
  | k + 1, l => regletref04_Check.l1 k l 0
def regletref04_Check.l1 : Nat → (List (Int × Int × Int × Int × Int × Int × List api_Range × Bool)) → Int → Option (Int × Int)
  | 0, _, _ => none
  | k + 1, l2, i => if (decide (i < (l2.length : Int))) = true then ((at? l2 i).bind fun e => (regletref04_Style.f k e).bind fun r => if (!decide (r = 0)) = true then (some (r, i)) else (regletref04_Check.l1 k l2 (wrap64 (i + 1)))) else (some (0, 0))
end
def regletref04_Check.f (k : Nat) (a0 : List (Int × Int × Int × Int × Int × Int × List api_Range × Bool)) : Option (Int × Int) := if (decide ((a0.length : Int) = 0)) = true then (some (40, 0)) else (if (decide (32 < (a0.length : Int))) = true then (some (40, 0)) else (regletref04_Check.j0 k a0))
def regletref04_Check.sig (k : Nat) : Sig := .p [(false, y11)] [.c false (.i .i64), .c false (.i .i64)] fun x => regletref04_Check.f k x.1
def regletref04_Check.E (k : Nat) : List (Nat × Sig) := [(34, regletref04_Style.sig k)]
def regletref04_Check.G (P : Program) : GI := ⟨P, TT, 29, 29, [], [], [], [], [], AD⟩
def regletref04_Check.H : H := .s .n (.j 0 .n (.s (.s .n (.s (.l 1 .n) .n)) .n))
abbrev regletref04_Check.j0_s : Sh := [(0, .v y11)]
abbrev regletref04_Check.l1_s : Sh := [(0, .v y11), (4, .v (.i .i64))]
def regletref04_Check.O (k : Nat) : List (Orc (denR [.c false (.i .i64), .c false (.i .i64)])) := [⟨regletref04_Check.j0_s, fun y => regletref04_Check.j0 k y.1⟩, ⟨regletref04_Check.l1_s, fun y => regletref04_Check.l1 k y.1 y.2.1⟩]
theorem regletref04_Check.l1_e (k : Nat) (y : denS regletref04_Check.l1_s) : regletref04_Check.l1 (k + 1) y.1 y.2.1 = evP ((regletref04_Check.G Try.prog).at (regletref04_Check.E k)) (fun i => (regletref04_Check.O k)[i]?) [1, 1, 0, 1, 0, 0] (cd Try.f21) regletref04_Check.H (kFin ((regletref04_Check.G Try.prog).at (regletref04_Check.E k)) [.tmp 2, .tmp 3] [.c false (.i .i64), .c false (.i .i64)]) (unS regletref04_Check.l1_s y) := by rw [regletref04_Check.l1]; kernel_rfl
theorem regletref04_Check.j0_e (k : Nat) (y : denS regletref04_Check.j0_s) : regletref04_Check.j0 (k + 1) y.1 = evP ((regletref04_Check.G Try.prog).at (regletref04_Check.E k)) (fun i => (regletref04_Check.O k)[i]?) [1, 1] (cd Try.f21) regletref04_Check.H (kFin ((regletref04_Check.G Try.prog).at (regletref04_Check.E k)) [.tmp 2, .tmp 3] [.c false (.i .i64), .c false (.i .i64)]) (unS regletref04_Check.j0_s y) := by rw [regletref04_Check.j0]; kernel_rfl
theorem regletref04_Check.go : goesTo Try.prog 21 := ⟨_, Try.func21, by kernel_rfl, rfl⟩
theorem regletref04_Check.ok (k : Nat) : SigOk Try.prog 21 (regletref04_Check.sig k) :=
  fn_p (G := regletref04_Check.G Try.prog) (c := cd Try.f21) (rs := [.tmp 2, .tmp 3]) (args := [(false, y11)]) (l := [.c false (.i .i64), .c false (.i .i64)]) (fn := Try.f21) ⟨Try.func21, by kernel_rfl, by kernel_rfl, by kernel_rfl, le_of rfl, le_of rfl, TT_ok, AD_ok⟩ rfl regletref04_Check.E (fun k p hp => by
    simp only [regletref04_Check.E, List.mem_cons, List.not_mem_nil, or_false] at hp
    rcases hp with rfl
    · exact ⟨regletref04_Style.ok k, regletref04_Style.go⟩)
    (fun k i => (regletref04_Check.O k)[i]?) regletref04_Check.H (fun k x => regletref04_Check.f k x.1)
    (fun id o y h => by
    have h' := List.mem_of_getElem? h
    simp only [regletref04_Check.O, List.mem_cons, List.not_mem_nil, or_false] at h'
    rcases h' with rfl | rfl <;> rfl)
    (fun k p hp => by
    rw [show pts (cd Try.f21) regletref04_Check.H = [(1, [1, 1, 0, 1, 0, 0]), (0, [1, 1])] by kernel_rfl] at hp
    simp only [List.mem_cons, List.not_mem_nil, or_false] at hp
    rcases hp with rfl | rfl
    · exact ptOk_of rfl (regletref04_Check.l1_e k)
    · exact ptOk_of rfl (regletref04_Check.j0_e k))
    (fun k x => by kernel_rfl) k
/-! reglet/metrics.unit -/
def metrics_unit.f (k : Nat) (a0 : Int) (a1 : Int) : Option Bool := if (decide (a1 ≤ a0)) = true then (some (decide (a0 ≤ 1048576))) else (some false)
def metrics_unit.sig (k : Nat) : Sig := .p [(false, (.i .i64)), (false, (.i .i64))] [.c false .b] fun x => metrics_unit.f k x.1 x.2.1
def metrics_unit.E (k : Nat) : List (Nat × Sig) := []
def metrics_unit.G (P : Program) : GI := ⟨P, TT, 12, 12, [], [], [], [], [], AD⟩
def metrics_unit.H : H := .n
def metrics_unit.O (k : Nat) : List (Orc (denR [.c false .b])) := []
theorem metrics_unit.go : goesTo Try.prog 57 := ⟨_, Try.func57, by kernel_rfl, rfl⟩
theorem metrics_unit.ok (k : Nat) : SigOk Try.prog 57 (metrics_unit.sig k) :=
  fn_p (G := metrics_unit.G Try.prog) (c := cd Try.f57) (rs := [.tmp 4]) (args := [(false, (.i .i64)), (false, (.i .i64))]) (l := [.c false .b]) (fn := Try.f57) ⟨Try.func57, by kernel_rfl, by kernel_rfl, by kernel_rfl, le_of rfl, le_of rfl, TT_ok, AD_ok⟩ rfl metrics_unit.E (fun k p hp => nomatch hp)
    (fun k i => (metrics_unit.O k)[i]?) metrics_unit.H (fun k x => metrics_unit.f k x.1 x.2.1)
    (fun id o y h => by cases id <;> cases h)
    (fun k p hp => by rw [show pts (cd Try.f57) metrics_unit.H = [] by kernel_rfl] at hp; nomatch hp)
    (fun k x => by kernel_rfl) k
/-! reglet/metrics.check -/
mutual
def metrics_check.j0 : Nat → (Int × Int × Int × Int × Int × Int × List api_Range × Bool) → Option Int
  | 0, _ => none
  | k + 1, t => if (decide (64 < (t.2.2.2.2.2.2.1.length : Int))) = true then (some 42) else (metrics_check.l1 k (-1) t.2.2.2.2.2.2.1 (t.2.2.2.2.2.2.1.length : Int) 0)
def metrics_check.l1 : Nat → Int → (List api_Range) → Int → Int → Option Int
  | 0, _, _, _, _ => none
  | k + 1, t2, t3, t4, t5 => if (decide (t5 < t4)) = true then ((at? t3 t5).bind fun e => if (decide (e.1 ≤ t2)) = true then (some 42) else (if (decide (e.2.1 < e.1)) = true then (some 42) else (if (decide (1114111 < e.2.1)) = true then (some 42) else (metrics_check.j2 k t3 t4 t5 e)))) else (some 0)
def metrics_check.j2 : Nat → (List api_Range) → Int → Int → api_Range → Option Int
  | 0, _, _, _, _ => none
  | k + 1, t6, t7, t8, t9 => (metrics_unit.f k t9.2.2 0).bind fun r7 => if (!r7) = true then (some 41) else (metrics_check.l1 k t9.2.1 t6 t7 (wrap64 (t8 + 1)))
end
def metrics_check.f (k : Nat) (a0 : Int × Int × Int × Int × Int × Int × List api_Range × Bool) : Option Int := (metrics_unit.f k a0.1 1).bind fun r => if (!r) = true then (some 41) else ((metrics_unit.f k a0.2.1 0).bind fun r2 => if (!r2) = true then (some 41) else ((metrics_unit.f k a0.2.2.1 0).bind fun r3 => if (!r3) = true then (some 41) else ((metrics_unit.f k a0.2.2.2.1 0).bind fun r4 => if (!r4) = true then (some 41) else ((metrics_unit.f k a0.2.2.2.2.1 0).bind fun r5 => if (!r5) = true then (some 41) else ((metrics_unit.f k a0.2.2.2.2.2.1 0).bind fun r6 => if (!r6) = true then (some 41) else (if (decide (a0.2.1 < a0.2.2.2.1)) = true then (some 41) else (metrics_check.j0 k a0)))))))
def metrics_check.sig (k : Nat) : Sig := .p [(true, y9)] [.c false (.i .i64)] fun x => metrics_check.f k x.1
def metrics_check.E (k : Nat) : List (Nat × Sig) := [(57, metrics_unit.sig k)]
def metrics_check.G (P : Program) : GI := ⟨P, TT, 81, 92, [(1, 81, 8), (5, 89, 3)], [], [], [], [], AD⟩
def metrics_check.H : H := .s .n (.j 0 .n (.s .n (.s .n (.s (.s .n (.s (.l 1 (.s .n (.s .n (.s (.s (.s .n (.j 2 .n .n)) .n) .n)))) .n)) .n))))
abbrev metrics_check.j0_s : Sh := [(1, .at_ 81), (81, .box y9)]
abbrev metrics_check.l1_s : Sh := [(3, .v (.i .i64)), (52, .v y2), (53, .v (.i .i64)), (54, .v (.i .i64))]
abbrev metrics_check.j2_s : Sh := [(5, .at_ 89), (52, .v y2), (53, .v (.i .i64)), (54, .v (.i .i64)), (89, .box y1)]
def metrics_check.O (k : Nat) : List (Orc (denR [.c false (.i .i64)])) := [⟨metrics_check.j0_s, fun y => metrics_check.j0 k y.2.1⟩, ⟨metrics_check.l1_s, fun y => metrics_check.l1 k y.1 y.2.1 y.2.2.1 y.2.2.2.1⟩, ⟨metrics_check.j2_s, fun y => metrics_check.j2 k y.2.1 y.2.2.1 y.2.2.2.1 y.2.2.2.2.1⟩]
theorem metrics_check.j2_e (k : Nat) (y : denS metrics_check.j2_s) : metrics_check.j2 (k + 1) y.2.1 y.2.2.1 y.2.2.2.1 y.2.2.2.2.1 = evP ((metrics_check.G Try.prog).at (metrics_check.E k)) (fun i => (metrics_check.O k)[i]?) [1, 1, 1, 1, 0, 1, 0, 0, 1, 1, 0, 0, 1, 1] (cd Try.f35) metrics_check.H (kFin ((metrics_check.G Try.prog).at (metrics_check.E k)) [.tmp 2] [.c false (.i .i64)]) (unS metrics_check.j2_s y) := by rw [metrics_check.j2]; kernel_rfl
theorem metrics_check.l1_e (k : Nat) (y : denS metrics_check.l1_s) : metrics_check.l1 (k + 1) y.1 y.2.1 y.2.2.1 y.2.2.2.1 = evP ((metrics_check.G Try.prog).at (metrics_check.E k)) (fun i => (metrics_check.O k)[i]?) [1, 1, 1, 1, 0, 1, 0, 0] (cd Try.f35) metrics_check.H (kFin ((metrics_check.G Try.prog).at (metrics_check.E k)) [.tmp 2] [.c false (.i .i64)]) (unS metrics_check.l1_s y) := by rw [metrics_check.l1]; kernel_rfl
theorem metrics_check.j0_e (k : Nat) (y : denS metrics_check.j0_s) : metrics_check.j0 (k + 1) y.2.1 = evP ((metrics_check.G Try.prog).at (metrics_check.E k)) (fun i => (metrics_check.O k)[i]?) [1, 1] (cd Try.f35) metrics_check.H (kFin ((metrics_check.G Try.prog).at (metrics_check.E k)) [.tmp 2] [.c false (.i .i64)]) (unS metrics_check.j0_s y) := by rw [metrics_check.j0]; kernel_rfl
theorem metrics_check.go : goesTo Try.prog 35 := ⟨_, Try.func35, by kernel_rfl, rfl⟩
theorem metrics_check.ok (k : Nat) : SigOk Try.prog 35 (metrics_check.sig k) :=
  fn_p (G := metrics_check.G Try.prog) (c := cd Try.f35) (rs := [.tmp 2]) (args := [(true, y9)]) (l := [.c false (.i .i64)]) (fn := Try.f35) ⟨Try.func35, by kernel_rfl, by kernel_rfl, by kernel_rfl, le_of rfl, le_of rfl, TT_ok, AD_ok⟩ rfl metrics_check.E (fun k p hp => by
    simp only [metrics_check.E, List.mem_cons, List.not_mem_nil, or_false] at hp
    rcases hp with rfl
    · exact ⟨metrics_unit.ok k, metrics_unit.go⟩)
    (fun k i => (metrics_check.O k)[i]?) metrics_check.H (fun k x => metrics_check.f k x.1)
    (fun id o y h => by
    have h' := List.mem_of_getElem? h
    simp only [metrics_check.O, List.mem_cons, List.not_mem_nil, or_false] at h'
    rcases h' with rfl | rfl | rfl <;> rfl)
    (fun k p hp => by
    rw [show pts (cd Try.f35) metrics_check.H = [(2, [1, 1, 1, 1, 0, 1, 0, 0, 1, 1, 0, 0, 1, 1]), (1, [1, 1, 1, 1, 0, 1, 0, 0]), (0, [1, 1])] by kernel_rfl] at hp
    simp only [List.mem_cons, List.not_mem_nil, or_false] at hp
    rcases hp with rfl | rfl | rfl
    · exact ptOk_of rfl (metrics_check.j2_e k)
    · exact ptOk_of rfl (metrics_check.l1_e k)
    · exact ptOk_of rfl (metrics_check.j0_e k))
    (fun k x => by kernel_rfl) k
/-! reglet/metrics.New -/
mutual
def metrics_New.j0 : Nat → (List (Int × Int × Int × Int × Int × Int × List api_Range × Bool)) → Option ((Option (List (Int × Int × Int × Int × Int × Int × List api_Range × Bool))) × Int × Int)
  | 0, _ => none
  | k + 1, styles => metrics_New.l1 k styles (styles.length : Int) 0 ([] : List (Int × Int × Int × Int × Int × Int × List api_Range × Bool))
def metrics_New.l1 : Nat → (List (Int × Int × Int × Int × Int × Int × List api_Range × Bool)) → Int → Int → (List (Int × Int × Int × Int × Int × Int × List api_Range × Bool)) → Option ((Option (List (Int × Int × Int × Int × Int × Int × List api_Range × Bool))) × Int × Int)
  | 0, _, _, _, _ => none
  | k + 1, t, t2, t3, t4 => if (decide (t3 < t2)) = true then ((at? t t3).bind fun e => (metrics_check.f k e).bind fun r => if (!decide (r = 0)) = true then (some (none, r, t3)) else (if (([] : List api_Range).length + e.2.2.2.2.2.2.1.length) * 24 ≤ 140737488355328 then (if (t4.length + ([(e.1, e.2.1, e.2.2.1, e.2.2.2.1, e.2.2.2.2.1, e.2.2.2.2.2.1, ([] : List api_Range) ++ e.2.2.2.2.2.2.1, e.2.2.2.2.2.2.2)] : List (Int × Int × Int × Int × Int × Int × List api_Range × Bool)).length) * 80 ≤ 140737488355328 then (metrics_New.l1 k t t2 (wrap64 (t3 + 1)) (t4 ++ ([(e.1, e.2.1, e.2.2.1, e.2.2.2.1, e.2.2.2.2.1, e.2.2.2.2.2.1, ([] : List api_Range) ++ e.2.2.2.2.2.2.1, e.2.2.2.2.2.2.2)] : List (Int × Int × Int × Int × Int × Int × List api_Range × Bool)))) else none) else none)) else (some (some t4, 0, 0))
end
def metrics_New.f (k : Nat) (a0 : List (Int × Int × Int × Int × Int × Int × List api_Range × Bool)) : Option ((Option (List (Int × Int × Int × Int × Int × Int × List api_Range × Bool))) × Int × Int) := if (decide ((a0.length : Int) = 0)) = true then (some (none, 40, 0)) else (if (decide (32 < (a0.length : Int))) = true then (some (none, 40, 0)) else (metrics_New.j0 k a0))
def metrics_New.sig (k : Nat) : Sig := .p [(false, y11)] [.o y20, .c false (.i .i64), .c false (.i .i64)] fun x => metrics_New.f k x.1
def metrics_New.E (k : Nat) : List (Nat × Sig) := [(35, metrics_check.sig k)]
def metrics_New.G (P : Program) : GI := ⟨P, TT, 49, 58, [(18, 49, 1), (7, 50, 8)], [], [], [], [], AD⟩
def metrics_New.H : H := .s .n (.j 0 .n (.s .n (.s (.s .n (.s (.l 1 .n) .n)) .n)))
abbrev metrics_New.j0_s : Sh := [(0, .v y11)]
abbrev metrics_New.l1_s : Sh := [(5, .at_ 49), (19, .v y11), (20, .v (.i .i64)), (21, .v (.i .i64)), (49, .box y20)]
def metrics_New.O (k : Nat) : List (Orc (denR [.o y20, .c false (.i .i64), .c false (.i .i64)])) := [⟨metrics_New.j0_s, fun y => metrics_New.j0 k y.1⟩, ⟨metrics_New.l1_s, fun y => metrics_New.l1 k y.2.1 y.2.2.1 y.2.2.2.1 y.2.2.2.2.1⟩]
theorem metrics_New.l1_e (k : Nat) (y : denS metrics_New.l1_s) : metrics_New.l1 (k + 1) y.2.1 y.2.2.1 y.2.2.2.1 y.2.2.2.2.1 = evP ((metrics_New.G Try.prog).at (metrics_New.E k)) (fun i => (metrics_New.O k)[i]?) [1, 1, 1, 0, 1, 0, 0] (cd Try.f22) metrics_New.H (kFin ((metrics_New.G Try.prog).at (metrics_New.E k)) [.tmp 2, .tmp 3, .tmp 4] [.o y20, .c false (.i .i64), .c false (.i .i64)]) (unS metrics_New.l1_s y) := by rw [metrics_New.l1]; kernel_rfl
theorem metrics_New.j0_e (k : Nat) (y : denS metrics_New.j0_s) : metrics_New.j0 (k + 1) y.1 = evP ((metrics_New.G Try.prog).at (metrics_New.E k)) (fun i => (metrics_New.O k)[i]?) [1, 1] (cd Try.f22) metrics_New.H (kFin ((metrics_New.G Try.prog).at (metrics_New.E k)) [.tmp 2, .tmp 3, .tmp 4] [.o y20, .c false (.i .i64), .c false (.i .i64)]) (unS metrics_New.j0_s y) := by rw [metrics_New.j0]; kernel_rfl
theorem metrics_New.go : goesTo Try.prog 22 := ⟨_, Try.func22, by kernel_rfl, rfl⟩
theorem metrics_New.ok (k : Nat) : SigOk Try.prog 22 (metrics_New.sig k) :=
  fn_p (G := metrics_New.G Try.prog) (c := cd Try.f22) (rs := [.tmp 2, .tmp 3, .tmp 4]) (args := [(false, y11)]) (l := [.o y20, .c false (.i .i64), .c false (.i .i64)]) (fn := Try.f22) ⟨Try.func22, by kernel_rfl, by kernel_rfl, by kernel_rfl, le_of rfl, le_of rfl, TT_ok, AD_ok⟩ rfl metrics_New.E (fun k p hp => by
    simp only [metrics_New.E, List.mem_cons, List.not_mem_nil, or_false] at hp
    rcases hp with rfl
    · exact ⟨metrics_check.ok k, metrics_check.go⟩)
    (fun k i => (metrics_New.O k)[i]?) metrics_New.H (fun k x => metrics_New.f k x.1)
    (fun id o y h => by
    have h' := List.mem_of_getElem? h
    simp only [metrics_New.O, List.mem_cons, List.not_mem_nil, or_false] at h'
    rcases h' with rfl | rfl <;> rfl)
    (fun k p hp => by
    rw [show pts (cd Try.f22) metrics_New.H = [(1, [1, 1, 1, 0, 1, 0, 0]), (0, [1, 1])] by kernel_rfl] at hp
    simp only [List.mem_cons, List.not_mem_nil, or_false] at hp
    rcases hp with rfl | rfl
    · exact ptOk_of rfl (metrics_New.l1_e k)
    · exact ptOk_of rfl (metrics_New.j0_e k))
    (fun k x => by kernel_rfl) k
/-! reglet/regletlaw10.table -/
def regletlaw10_table.f (k : Nat) (a0 : List (Int × Int × Int × Int × Int × Int × List api_Range × Bool)) : Option ((Option (List (Int × Int × Int × Int × Int × Int × List api_Range × Bool)))) := (regletref04_Check.f k a0).bind fun r => if (!decide (r.1 = 0)) = true then (some none) else ((metrics_New.f k a0).bind fun r2 => optK r2.1 (some none) fun p => some (some p))
def regletlaw10_table.sig (k : Nat) : Sig := .p [(false, y11)] [.o y20] fun x => regletlaw10_table.f k x.1
def regletlaw10_table.E (k : Nat) : List (Nat × Sig) := [(21, regletref04_Check.sig k), (22, metrics_New.sig k)]
def regletlaw10_table.G (P : Program) : GI := ⟨P, TT, 22, 22, [], [], [], [], [], AD⟩
def regletlaw10_table.H : H := .n
def regletlaw10_table.O (k : Nat) : List (Orc (denR [.o y20])) := []
theorem regletlaw10_table.go : goesTo Try.prog 8 := ⟨_, Try.func8, by kernel_rfl, rfl⟩
theorem regletlaw10_table.ok (k : Nat) : SigOk Try.prog 8 (regletlaw10_table.sig k) :=
  fn_p (G := regletlaw10_table.G Try.prog) (c := cd Try.f8) (rs := [.tmp 2]) (args := [(false, y11)]) (l := [.o y20]) (fn := Try.f8) ⟨Try.func8, by kernel_rfl, by kernel_rfl, by kernel_rfl, le_of rfl, le_of rfl, TT_ok, AD_ok⟩ rfl regletlaw10_table.E (fun k p hp => by
    simp only [regletlaw10_table.E, List.mem_cons, List.not_mem_nil, or_false] at hp
    rcases hp with rfl | rfl
    · exact ⟨regletref04_Check.ok k, regletref04_Check.go⟩
    · exact ⟨metrics_New.ok k, metrics_New.go⟩)
    (fun k i => (regletlaw10_table.O k)[i]?) regletlaw10_table.H (fun k x => regletlaw10_table.f k x.1)
    (fun id o y h => by cases id <;> cases h)
    (fun k p hp => by rw [show pts (cd Try.f8) regletlaw10_table.H = [] by kernel_rfl] at hp; nomatch hp)
    (fun k x => by kernel_rfl) k
/-! reglet/runes.Kind -/
mutual
def runes_Kind.j0 : Nat → Int → Bool → Option Int
  | 0, _, _ => none
  | k + 1, t, t2 => if t2 = true then (some 1) else (if (decide (t = 160)) = true then (runes_Kind.j1 k t true) else (runes_Kind.j1 k t (decide (t = 8239))))
def runes_Kind.j1 : Nat → Int → Bool → Option Int
  | 0, _, _ => none
  | k + 1, t3, t4 => if t4 = true then (some 2) else (if (decide (t3 = 173)) = true then (some 3) else (if (decide (t3 = 8203)) = true then (some 4) else (if (decide (t3 = 8288)) = true then (runes_Kind.j2 k t3 true) else (runes_Kind.j2 k t3 (decide (t3 = 65279))))))
def runes_Kind.j2 : Nat → Int → Bool → Option Int
  | 0, _, _ => none
  | k + 1, t5, t6 => if t6 = true then (some 5) else (if (decide (t5 = 45)) = true then (runes_Kind.j3 k t5 true) else (runes_Kind.j3 k t5 (decide (t5 = 8208))))
def runes_Kind.j3 : Nat → Int → Bool → Option Int
  | 0, _, _ => none
  | k + 1, t7, t8 => if t8 = true then (some 6) else (if (decide (t7 = 8232)) = true then (some 7) else (if (decide (t7 = 10)) = true then (some 8) else (some 0)))
end
def runes_Kind.f (k : Nat) (a0 : Int) : Option Int := if (decide (a0 = 32)) = true then (runes_Kind.j0 k a0 true) else (runes_Kind.j0 k a0 (decide (a0 = 9)))
def runes_Kind.sig (k : Nat) : Sig := .p [(false, (.i .i32))] [.c false (.i .i64)] fun x => runes_Kind.f k x.1
def runes_Kind.E (k : Nat) : List (Nat × Sig) := []
def runes_Kind.G (P : Program) : GI := ⟨P, TT, 24, 24, [], [], [], [], [], AD⟩
def runes_Kind.H : H := .s .n (.s (.s .n (.s (.j 0 .n (.s .n (.j 1 .n (.s .n (.s .n (.s .n (.s .n (.s .n (.j 2 .n (.s .n (.j 3 .n .n))))))))))) .n)) .n)
abbrev runes_Kind.j0_s : Sh := [(3, .v (.i .i32)), (4, .v .b)]
abbrev runes_Kind.j1_s : Sh := [(3, .v (.i .i32)), (7, .v .b)]
abbrev runes_Kind.j2_s : Sh := [(3, .v (.i .i32)), (14, .v .b)]
abbrev runes_Kind.j3_s : Sh := [(3, .v (.i .i32)), (17, .v .b)]
def runes_Kind.O (k : Nat) : List (Orc (denR [.c false (.i .i64)])) := [⟨runes_Kind.j0_s, fun y => runes_Kind.j0 k y.1 y.2.1⟩, ⟨runes_Kind.j1_s, fun y => runes_Kind.j1 k y.1 y.2.1⟩, ⟨runes_Kind.j2_s, fun y => runes_Kind.j2 k y.1 y.2.1⟩, ⟨runes_Kind.j3_s, fun y => runes_Kind.j3 k y.1 y.2.1⟩]
theorem runes_Kind.j3_e (k : Nat) (y : denS runes_Kind.j3_s) : runes_Kind.j3 (k + 1) y.1 y.2.1 = evP ((runes_Kind.G Try.prog).at (runes_Kind.E k)) (fun i => (runes_Kind.O k)[i]?) [1, 0, 1, 0, 1, 1, 1, 1, 1, 1, 1, 1, 1, 1, 1] (cd Try.f29) runes_Kind.H (kFin ((runes_Kind.G Try.prog).at (runes_Kind.E k)) [.tmp 2] [.c false (.i .i64)]) (unS runes_Kind.j3_s y) := by rw [runes_Kind.j3]; kernel_rfl
theorem runes_Kind.j2_e (k : Nat) (y : denS runes_Kind.j2_s) : runes_Kind.j2 (k + 1) y.1 y.2.1 = evP ((runes_Kind.G Try.prog).at (runes_Kind.E k)) (fun i => (runes_Kind.O k)[i]?) [1, 0, 1, 0, 1, 1, 1, 1, 1, 1, 1, 1, 1] (cd Try.f29) runes_Kind.H (kFin ((runes_Kind.G Try.prog).at (runes_Kind.E k)) [.tmp 2] [.c false (.i .i64)]) (unS runes_Kind.j2_s y) := by rw [runes_Kind.j2]; kernel_rfl
theorem runes_Kind.j1_e (k : Nat) (y : denS runes_Kind.j1_s) : runes_Kind.j1 (k + 1) y.1 y.2.1 = evP ((runes_Kind.G Try.prog).at (runes_Kind.E k)) (fun i => (runes_Kind.O k)[i]?) [1, 0, 1, 0, 1, 1, 1] (cd Try.f29) runes_Kind.H (kFin ((runes_Kind.G Try.prog).at (runes_Kind.E k)) [.tmp 2] [.c false (.i .i64)]) (unS runes_Kind.j1_s y) := by rw [runes_Kind.j1]; kernel_rfl
theorem runes_Kind.j0_e (k : Nat) (y : denS runes_Kind.j0_s) : runes_Kind.j0 (k + 1) y.1 y.2.1 = evP ((runes_Kind.G Try.prog).at (runes_Kind.E k)) (fun i => (runes_Kind.O k)[i]?) [1, 0, 1, 0, 1] (cd Try.f29) runes_Kind.H (kFin ((runes_Kind.G Try.prog).at (runes_Kind.E k)) [.tmp 2] [.c false (.i .i64)]) (unS runes_Kind.j0_s y) := by rw [runes_Kind.j0]; kernel_rfl
theorem runes_Kind.go : goesTo Try.prog 29 := ⟨_, Try.func29, by kernel_rfl, rfl⟩
theorem runes_Kind.ok (k : Nat) : SigOk Try.prog 29 (runes_Kind.sig k) :=
  fn_p (G := runes_Kind.G Try.prog) (c := cd Try.f29) (rs := [.tmp 2]) (args := [(false, (.i .i32))]) (l := [.c false (.i .i64)]) (fn := Try.f29) ⟨Try.func29, by kernel_rfl, by kernel_rfl, by kernel_rfl, le_of rfl, le_of rfl, TT_ok, AD_ok⟩ rfl runes_Kind.E (fun k p hp => nomatch hp)
    (fun k i => (runes_Kind.O k)[i]?) runes_Kind.H (fun k x => runes_Kind.f k x.1)
    (fun id o y h => by
    have h' := List.mem_of_getElem? h
    simp only [runes_Kind.O, List.mem_cons, List.not_mem_nil, or_false] at h'
    rcases h' with rfl | rfl | rfl | rfl <;> rfl)
    (fun k p hp => by
    rw [show pts (cd Try.f29) runes_Kind.H = [(3, [1, 0, 1, 0, 1, 1, 1, 1, 1, 1, 1, 1, 1, 1, 1]), (2, [1, 0, 1, 0, 1, 1, 1, 1, 1, 1, 1, 1, 1]), (1, [1, 0, 1, 0, 1, 1, 1]), (0, [1, 0, 1, 0, 1])] by kernel_rfl] at hp
    simp only [List.mem_cons, List.not_mem_nil, or_false] at hp
    rcases hp with rfl | rfl | rfl | rfl
    · exact ptOk_of rfl (runes_Kind.j3_e k)
    · exact ptOk_of rfl (runes_Kind.j2_e k)
    · exact ptOk_of rfl (runes_Kind.j1_e k)
    · exact ptOk_of rfl (runes_Kind.j0_e k))
    (fun k x => by kernel_rfl) k
/-! reglet/runes.size -/
mutual
def runes_size.j0 : Nat → ByteArray → Int → Option Int
  | 0, _, _ => none
  | k + 1, t, t2 => (bAt t t2).bind fun e => if (decide (e < 128)) = true then (some 1) else (if (decide (e < 194)) = true then (some 0) else (if (decide (244 < e)) = true then (some 0) else (if (decide (e < 224)) = true then (runes_size.j1 k t t2 1 128 191 (wrap64 (t2 + 1))) else (if (decide (e < 240)) = true then (runes_size.j2 k t t2 2 128 191 e (wrap64 (t2 + 1))) else (runes_size.j3 k t t2 3 128 191 e (wrap64 (t2 + 1)))))))
def runes_size.j1 : Nat → ByteArray → Int → Int → Int → Int → Int → Option Int
  | 0, _, _, _, _, _, _ => none
  | k + 1, t3, t4, t5, t6, t7, t8 => runes_size.j4 k t3 t4 t5 t6 t7 t8
def runes_size.j2 : Nat → ByteArray → Int → Int → Int → Int → Int → Int → Option Int
  | 0, _, _, _, _, _, _, _ => none
  | k + 1, t9, t10, t11, t12, t13, t14, t15 => if (decide (t14 = 224)) = true then (runes_size.j5 k t9 t10 t11 160 t13 t14 t15) else (runes_size.j5 k t9 t10 t11 t12 t13 t14 t15)
def runes_size.j3 : Nat → ByteArray → Int → Int → Int → Int → Int → Int → Option Int
  | 0, _, _, _, _, _, _, _ => none
  | k + 1, t16, t17, t18, t19, t20, t21, t22 => if (decide (t21 = 240)) = true then (runes_size.j6 k t16 t17 t18 144 t20 t21 t22) else (runes_size.j6 k t16 t17 t18 t19 t20 t21 t22)
def runes_size.j4 : Nat → ByteArray → Int → Int → Int → Int → Int → Option Int
  | 0, _, _, _, _, _, _ => none
  | k + 1, t23, t24, t25, t26, t27, t28 => if (decide (t25 = 0)) = true then (some (wrap64 (t28 - t24))) else (if (decide ((t23.size : Int) ≤ t28)) = true then (some 0) else ((bAt t23 t28).bind fun e2 => if (decide (e2 < t26)) = true then (some 0) else ((bAt t23 t28).bind fun e3 => if (decide (t27 < e3)) = true then (some 0) else (runes_size.j7 k t23 t24 t25 t28))))
def runes_size.j5 : Nat → ByteArray → Int → Int → Int → Int → Int → Int → Option Int
  | 0, _, _, _, _, _, _, _ => none
  | k + 1, t29, t30, t31, t32, t33, t34, t35 => if (decide (t34 = 237)) = true then (runes_size.j1 k t29 t30 t31 t32 159 t35) else (runes_size.j1 k t29 t30 t31 t32 t33 t35)
def runes_size.j6 : Nat → ByteArray → Int → Int → Int → Int → Int → Int → Option Int
  | 0, _, _, _, _, _, _, _ => none
  | k + 1, t36, t37, t38, t39, t40, t41, t42 => if (decide (t41 = 244)) = true then (runes_size.j1 k t36 t37 t38 t39 143 t42) else (runes_size.j1 k t36 t37 t38 t39 t40 t42)
def runes_size.j7 : Nat → ByteArray → Int → Int → Int → Option Int
  | 0, _, _, _, _ => none
  | k + 1, t43, t44, t45, t46 => runes_size.j4 k t43 t44 (wrap64 (t45 - 1)) 128 191 (wrap64 (t46 + 1))
end
def runes_size.f (k : Nat) (a0 : ByteArray) (a1 : Int) : Option Int := if (decide (a1 < 0)) = true then (some 0) else (if (decide ((a0.size : Int) ≤ a1)) = true then (some 0) else (runes_size.j0 k a0 a1))
def runes_size.sig (k : Nat) : Sig := .p [(false, .s), (false, (.i .i64))] [.c false (.i .i64)] fun x => runes_size.f k x.1 x.2.1
def runes_size.E (k : Nat) : List (Nat × Sig) := []
def runes_size.G (P : Program) : GI := ⟨P, TT, 74, 74, [], [], [], [], [], AD⟩
def runes_size.H : H := .s .n (.g 0 4 (.j 0 .n (.s .n (.s .n (.s .n (.s .n (.j 1 (.s (.s .n (.s .n (.s .n (.s .n (.s .n (.s .n (.s .n (.s (.j 2 .n (.j 5 .n .n)) (.j 3 .n (.j 6 .n .n)))))))))) .n) (.j 4 .n (.s .n (.j 7 .n .n))))))))))
abbrev runes_size.j0_s : Sh := [(0, .v .s), (1, .v (.i .i64))]
abbrev runes_size.j1_s : Sh := [(0, .v .s), (1, .v (.i .i64)), (5, .v (.i .i64)), (6, .v (.i .u8)), (7, .v (.i .u8)), (9, .v (.i .i64))]
abbrev runes_size.j2_s : Sh := [(0, .v .s), (1, .v (.i .i64)), (5, .v (.i .i64)), (6, .v (.i .u8)), (7, .v (.i .u8)), (8, .v (.i .u8)), (9, .v (.i .i64))]
abbrev runes_size.j3_s : Sh := [(0, .v .s), (1, .v (.i .i64)), (5, .v (.i .i64)), (6, .v (.i .u8)), (7, .v (.i .u8)), (8, .v (.i .u8)), (9, .v (.i .i64))]
abbrev runes_size.j4_s : Sh := [(0, .v .s), (1, .v (.i .i64)), (5, .v (.i .i64)), (6, .v (.i .u8)), (7, .v (.i .u8)), (9, .v (.i .i64))]
abbrev runes_size.j5_s : Sh := [(0, .v .s), (1, .v (.i .i64)), (5, .v (.i .i64)), (6, .v (.i .u8)), (7, .v (.i .u8)), (8, .v (.i .u8)), (9, .v (.i .i64))]
abbrev runes_size.j6_s : Sh := [(0, .v .s), (1, .v (.i .i64)), (5, .v (.i .i64)), (6, .v (.i .u8)), (7, .v (.i .u8)), (8, .v (.i .u8)), (9, .v (.i .i64))]
abbrev runes_size.j7_s : Sh := [(0, .v .s), (1, .v (.i .i64)), (5, .v (.i .i64)), (9, .v (.i .i64))]
def runes_size.O (k : Nat) : List (Orc (denR [.c false (.i .i64)])) := [⟨runes_size.j0_s, fun y => runes_size.j0 k y.1 y.2.1⟩, ⟨runes_size.j1_s, fun y => runes_size.j1 k y.1 y.2.1 y.2.2.1 y.2.2.2.1 y.2.2.2.2.1 y.2.2.2.2.2.1⟩, ⟨runes_size.j2_s, fun y => runes_size.j2 k y.1 y.2.1 y.2.2.1 y.2.2.2.1 y.2.2.2.2.1 y.2.2.2.2.2.1 y.2.2.2.2.2.2.1⟩, ⟨runes_size.j3_s, fun y => runes_size.j3 k y.1 y.2.1 y.2.2.1 y.2.2.2.1 y.2.2.2.2.1 y.2.2.2.2.2.1 y.2.2.2.2.2.2.1⟩, ⟨runes_size.j4_s, fun y => runes_size.j4 k y.1 y.2.1 y.2.2.1 y.2.2.2.1 y.2.2.2.2.1 y.2.2.2.2.2.1⟩, ⟨runes_size.j5_s, fun y => runes_size.j5 k y.1 y.2.1 y.2.2.1 y.2.2.2.1 y.2.2.2.2.1 y.2.2.2.2.2.1 y.2.2.2.2.2.2.1⟩, ⟨runes_size.j6_s, fun y => runes_size.j6 k y.1 y.2.1 y.2.2.1 y.2.2.2.1 y.2.2.2.2.1 y.2.2.2.2.2.1 y.2.2.2.2.2.2.1⟩, ⟨runes_size.j7_s, fun y => runes_size.j7 k y.1 y.2.1 y.2.2.1 y.2.2.2.1⟩]
theorem runes_size.j5_e (k : Nat) (y : denS runes_size.j5_s) : runes_size.j5 (k + 1) y.1 y.2.1 y.2.2.1 y.2.2.2.1 y.2.2.2.2.1 y.2.2.2.2.2.1 y.2.2.2.2.2.2.1 = evP ((runes_size.G Try.prog).at (runes_size.E k)) (fun i => (runes_size.O k)[i]?) [1, 0, 1, 1, 1, 1, 1, 0, 0, 1, 1, 1, 1, 1, 1, 1, 0, 1, 1] (cd Try.f62) runes_size.H (kFin ((runes_size.G Try.prog).at (runes_size.E k)) [.tmp 4] [.c false (.i .i64)]) (unS runes_size.j5_s y) := by rw [runes_size.j5]; kernel_rfl
theorem runes_size.j2_e (k : Nat) (y : denS runes_size.j2_s) : runes_size.j2 (k + 1) y.1 y.2.1 y.2.2.1 y.2.2.2.1 y.2.2.2.2.1 y.2.2.2.2.2.1 y.2.2.2.2.2.2.1 = evP ((runes_size.G Try.prog).at (runes_size.E k)) (fun i => (runes_size.O k)[i]?) [1, 0, 1, 1, 1, 1, 1, 0, 0, 1, 1, 1, 1, 1, 1, 1, 0, 1] (cd Try.f62) runes_size.H (kFin ((runes_size.G Try.prog).at (runes_size.E k)) [.tmp 4] [.c false (.i .i64)]) (unS runes_size.j2_s y) := by rw [runes_size.j2]; kernel_rfl
theorem runes_size.j6_e (k : Nat) (y : denS runes_size.j6_s) : runes_size.j6 (k + 1) y.1 y.2.1 y.2.2.1 y.2.2.2.1 y.2.2.2.2.1 y.2.2.2.2.2.1 y.2.2.2.2.2.2.1 = evP ((runes_size.G Try.prog).at (runes_size.E k)) (fun i => (runes_size.O k)[i]?) [1, 0, 1, 1, 1, 1, 1, 0, 0, 1, 1, 1, 1, 1, 1, 1, 1, 1, 1] (cd Try.f62) runes_size.H (kFin ((runes_size.G Try.prog).at (runes_size.E k)) [.tmp 4] [.c false (.i .i64)]) (unS runes_size.j6_s y) := by rw [runes_size.j6]; kernel_rfl
theorem runes_size.j3_e (k : Nat) (y : denS runes_size.j3_s) : runes_size.j3 (k + 1) y.1 y.2.1 y.2.2.1 y.2.2.2.1 y.2.2.2.2.1 y.2.2.2.2.2.1 y.2.2.2.2.2.2.1 = evP ((runes_size.G Try.prog).at (runes_size.E k)) (fun i => (runes_size.O k)[i]?) [1, 0, 1, 1, 1, 1, 1, 0, 0, 1, 1, 1, 1, 1, 1, 1, 1, 1] (cd Try.f62) runes_size.H (kFin ((runes_size.G Try.prog).at (runes_size.E k)) [.tmp 4] [.c false (.i .i64)]) (unS runes_size.j3_s y) := by rw [runes_size.j3]; kernel_rfl
theorem runes_size.j7_e (k : Nat) (y : denS runes_size.j7_s) : runes_size.j7 (k + 1) y.1 y.2.1 y.2.2.1 y.2.2.2.1 = evP ((runes_size.G Try.prog).at (runes_size.E k)) (fun i => (runes_size.O k)[i]?) [1, 0, 1, 1, 1, 1, 1, 1, 1, 1, 1] (cd Try.f62) runes_size.H (kFin ((runes_size.G Try.prog).at (runes_size.E k)) [.tmp 4] [.c false (.i .i64)]) (unS runes_size.j7_s y) := by rw [runes_size.j7]; kernel_rfl
theorem runes_size.j4_e (k : Nat) (y : denS runes_size.j4_s) : runes_size.j4 (k + 1) y.1 y.2.1 y.2.2.1 y.2.2.2.1 y.2.2.2.2.1 y.2.2.2.2.2.1 = evP ((runes_size.G Try.prog).at (runes_size.E k)) (fun i => (runes_size.O k)[i]?) [1, 0, 1, 1, 1, 1, 1, 1, 1] (cd Try.f62) runes_size.H (kFin ((runes_size.G Try.prog).at (runes_size.E k)) [.tmp 4] [.c false (.i .i64)]) (unS runes_size.j4_s y) := by rw [runes_size.j4]; kernel_rfl
theorem runes_size.j1_e (k : Nat) (y : denS runes_size.j1_s) : runes_size.j1 (k + 1) y.1 y.2.1 y.2.2.1 y.2.2.2.1 y.2.2.2.2.1 y.2.2.2.2.2.1 = evP ((runes_size.G Try.prog).at (runes_size.E k)) (fun i => (runes_size.O k)[i]?) [1, 0, 1, 1, 1, 1, 1, 1] (cd Try.f62) runes_size.H (kFin ((runes_size.G Try.prog).at (runes_size.E k)) [.tmp 4] [.c false (.i .i64)]) (unS runes_size.j1_s y) := by rw [runes_size.j1]; kernel_rfl
theorem runes_size.j0_e (k : Nat) (y : denS runes_size.j0_s) : runes_size.j0 (k + 1) y.1 y.2.1 = evP ((runes_size.G Try.prog).at (runes_size.E k)) (fun i => (runes_size.O k)[i]?) [1, 0, 1] (cd Try.f62) runes_size.H (kFin ((runes_size.G Try.prog).at (runes_size.E k)) [.tmp 4] [.c false (.i .i64)]) (unS runes_size.j0_s y) := by rw [runes_size.j0]; kernel_rfl
theorem runes_size.go : goesTo Try.prog 62 := ⟨_, Try.func62, by kernel_rfl, rfl⟩
theorem runes_size.ok (k : Nat) : SigOk Try.prog 62 (runes_size.sig k) :=
  fn_p (G := runes_size.G Try.prog) (c := cd Try.f62) (rs := [.tmp 4]) (args := [(false, .s), (false, (.i .i64))]) (l := [.c false (.i .i64)]) (fn := Try.f62) ⟨Try.func62, by kernel_rfl, by kernel_rfl, by kernel_rfl, le_of rfl, le_of rfl, TT_ok, AD_ok⟩ rfl runes_size.E (fun k p hp => nomatch hp)
    (fun k i => (runes_size.O k)[i]?) runes_size.H (fun k x => runes_size.f k x.1 x.2.1)
    (fun id o y h => by
    have h' := List.mem_of_getElem? h
    simp only [runes_size.O, List.mem_cons, List.not_mem_nil, or_false] at h'
    rcases h' with rfl | rfl | rfl | rfl | rfl | rfl | rfl | rfl <;> rfl)
    (fun k p hp => by
    rw [show pts (cd Try.f62) runes_size.H = [(5, [1, 0, 1, 1, 1, 1, 1, 0, 0, 1, 1, 1, 1, 1, 1, 1, 0, 1, 1]), (2, [1, 0, 1, 1, 1, 1, 1, 0, 0, 1, 1, 1, 1, 1, 1, 1, 0, 1]), (6, [1, 0, 1, 1, 1, 1, 1, 0, 0, 1, 1, 1, 1, 1, 1, 1, 1, 1, 1]), (3, [1, 0, 1, 1, 1, 1, 1, 0, 0, 1, 1, 1, 1, 1, 1, 1, 1, 1]), (7, [1, 0, 1, 1, 1, 1, 1, 1, 1, 1, 1]), (4, [1, 0, 1, 1, 1, 1, 1, 1, 1]), (1, [1, 0, 1, 1, 1, 1, 1, 1]), (0, [1, 0, 1])] by kernel_rfl] at hp
    simp only [List.mem_cons, List.not_mem_nil, or_false] at hp
    rcases hp with rfl | rfl | rfl | rfl | rfl | rfl | rfl | rfl
    · exact ptOk_of rfl (runes_size.j5_e k)
    · exact ptOk_of rfl (runes_size.j2_e k)
    · exact ptOk_of rfl (runes_size.j6_e k)
    · exact ptOk_of rfl (runes_size.j3_e k)
    · exact ptOk_of rfl (runes_size.j7_e k)
    · exact ptOk_of rfl (runes_size.j4_e k)
    · exact ptOk_of rfl (runes_size.j1_e k)
    · exact ptOk_of rfl (runes_size.j0_e k))
    (fun k x => by kernel_rfl) k
/-! reglet/runes.Bad -/
mutual
def runes_Bad.j0 : Nat → ByteArray → Int → Option Int
  | 0, _, _ => none
  | k + 1, s, at_ => if (decide (at_ = (s.size : Int))) = true then (some (-1)) else ((runes_size.f k s at_).bind fun r => if (decide (r = 0)) = true then (some at_) else (runes_Bad.j0 k s (wrap64 (at_ + r))))
end
def runes_Bad.f (k : Nat) (a0 : ByteArray) : Option Int := runes_Bad.j0 k a0 0
def runes_Bad.sig (k : Nat) : Sig := .p [(false, .s)] [.c false (.i .i64)] fun x => runes_Bad.f k x.1
def runes_Bad.E (k : Nat) : List (Nat × Sig) := [(62, runes_size.sig k)]
def runes_Bad.G (P : Program) : GI := ⟨P, TT, 18, 18, [], [], [], [], [], AD⟩
def runes_Bad.H : H := .s .n (.g 0 0 (.s .n (.j 0 .n .n)))
abbrev runes_Bad.j0_s : Sh := [(0, .v .s), (3, .v (.i .i64))]
def runes_Bad.O (k : Nat) : List (Orc (denR [.c false (.i .i64)])) := [⟨runes_Bad.j0_s, fun y => runes_Bad.j0 k y.1 y.2.1⟩]
theorem runes_Bad.j0_e (k : Nat) (y : denS runes_Bad.j0_s) : runes_Bad.j0 (k + 1) y.1 y.2.1 = evP ((runes_Bad.G Try.prog).at (runes_Bad.E k)) (fun i => (runes_Bad.O k)[i]?) [1, 0, 1, 1] (cd Try.f82) runes_Bad.H (kFin ((runes_Bad.G Try.prog).at (runes_Bad.E k)) [.tmp 2] [.c false (.i .i64)]) (unS runes_Bad.j0_s y) := by rw [runes_Bad.j0]; kernel_rfl
theorem runes_Bad.go : goesTo Try.prog 82 := ⟨_, Try.func82, by kernel_rfl, rfl⟩
theorem runes_Bad.ok (k : Nat) : SigOk Try.prog 82 (runes_Bad.sig k) :=
  fn_p (G := runes_Bad.G Try.prog) (c := cd Try.f82) (rs := [.tmp 2]) (args := [(false, .s)]) (l := [.c false (.i .i64)]) (fn := Try.f82) ⟨Try.func82, by kernel_rfl, by kernel_rfl, by kernel_rfl, le_of rfl, le_of rfl, TT_ok, AD_ok⟩ rfl runes_Bad.E (fun k p hp => by
    simp only [runes_Bad.E, List.mem_cons, List.not_mem_nil, or_false] at hp
    rcases hp with rfl
    · exact ⟨runes_size.ok k, runes_size.go⟩)
    (fun k i => (runes_Bad.O k)[i]?) runes_Bad.H (fun k x => runes_Bad.f k x.1)
    (fun id o y h => by
    have h' := List.mem_of_getElem? h
    simp only [runes_Bad.O, List.mem_cons, List.not_mem_nil, or_false] at h'
    rcases h' with rfl <;> rfl)
    (fun k p hp => by
    rw [show pts (cd Try.f82) runes_Bad.H = [(0, [1, 0, 1, 1])] by kernel_rfl] at hp
    simp only [List.mem_cons, List.not_mem_nil, or_false] at hp
    rcases hp with rfl
    · exact ptOk_of rfl (runes_Bad.j0_e k))
    (fun k x => by kernel_rfl) k
/-! reglet/runes.Check -/
def runes_Check.f (k : Nat) (a0 : ByteArray) : Option Int := (runes_Bad.f k a0).bind fun r => if (decide (0 ≤ r)) = true then (some 20) else (some 0)
def runes_Check.sig (k : Nat) : Sig := .p [(false, .s)] [.c false (.i .i64)] fun x => runes_Check.f k x.1
def runes_Check.E (k : Nat) : List (Nat × Sig) := [(82, runes_Bad.sig k)]
def runes_Check.G (P : Program) : GI := ⟨P, TT, 6, 6, [], [], [], [], [], AD⟩
def runes_Check.H : H := .n
def runes_Check.O (k : Nat) : List (Orc (denR [.c false (.i .i64)])) := []
theorem runes_Check.go : goesTo Try.prog 58 := ⟨_, Try.func58, by kernel_rfl, rfl⟩
theorem runes_Check.ok (k : Nat) : SigOk Try.prog 58 (runes_Check.sig k) :=
  fn_p (G := runes_Check.G Try.prog) (c := cd Try.f58) (rs := [.tmp 2]) (args := [(false, .s)]) (l := [.c false (.i .i64)]) (fn := Try.f58) ⟨Try.func58, by kernel_rfl, by kernel_rfl, by kernel_rfl, le_of rfl, le_of rfl, TT_ok, AD_ok⟩ rfl runes_Check.E (fun k p hp => by
    simp only [runes_Check.E, List.mem_cons, List.not_mem_nil, or_false] at hp
    rcases hp with rfl
    · exact ⟨runes_Bad.ok k, runes_Bad.go⟩)
    (fun k i => (runes_Check.O k)[i]?) runes_Check.H (fun k x => runes_Check.f k x.1)
    (fun id o y h => by cases id <;> cases h)
    (fun k p hp => by rw [show pts (cd Try.f58) runes_Check.H = [] by kernel_rfl] at hp; nomatch hp)
    (fun k x => by kernel_rfl) k
/-! reglet/runes.Lines -/
mutual
def runes_Lines.l0 : Nat → Int → (ByteArray × Nat) → Option Int
  | 0, _, _ => none
  | k + 1, n, t => if t.2 < t.1.size then ((runes_Kind.f k ((Utf8.decode t.1 t.2).1 : Int)).bind fun r => if (decide (r = 8)) = true then (runes_Lines.l0 k (wrap64 (n + 1)) (t.1, (t.2 + (Utf8.decode t.1 t.2).2))) else (runes_Lines.l0 k n (t.1, (t.2 + (Utf8.decode t.1 t.2).2)))) else (some n)
end
def runes_Lines.f (k : Nat) (a0 : ByteArray) : Option Int := runes_Lines.l0 k 0 (a0, 0)
def runes_Lines.sig (k : Nat) : Sig := .p [(false, .s)] [.c false (.i .i64)] fun x => runes_Lines.f k x.1
def runes_Lines.E (k : Nat) : List (Nat × Sig) := [(29, runes_Kind.sig k)]
def runes_Lines.G (P : Program) : GI := ⟨P, TT, 17, 17, [], [], [], [], [], AD⟩
def runes_Lines.H : H := .s .n (.s .n (.s (.s .n (.s (.l 0 .n) .n)) .n))
abbrev runes_Lines.l0_s : Sh := [(3, .v (.i .i64)), (7, .it)]
def runes_Lines.O (k : Nat) : List (Orc (denR [.c false (.i .i64)])) := [⟨runes_Lines.l0_s, fun y => runes_Lines.l0 k y.1 y.2.1⟩]
theorem runes_Lines.l0_e (k : Nat) (y : denS runes_Lines.l0_s) : runes_Lines.l0 (k + 1) y.1 y.2.1 = evP ((runes_Lines.G Try.prog).at (runes_Lines.E k)) (fun i => (runes_Lines.O k)[i]?) [1, 1, 0, 1, 0, 0] (cd Try.f59) runes_Lines.H (kFin ((runes_Lines.G Try.prog).at (runes_Lines.E k)) [.tmp 2] [.c false (.i .i64)]) (unS runes_Lines.l0_s y) := by rw [runes_Lines.l0]; kernel_rfl
theorem runes_Lines.go : goesTo Try.prog 59 := ⟨_, Try.func59, by kernel_rfl, rfl⟩
theorem runes_Lines.ok (k : Nat) : SigOk Try.prog 59 (runes_Lines.sig k) :=
  fn_p (G := runes_Lines.G Try.prog) (c := cd Try.f59) (rs := [.tmp 2]) (args := [(false, .s)]) (l := [.c false (.i .i64)]) (fn := Try.f59) ⟨Try.func59, by kernel_rfl, by kernel_rfl, by kernel_rfl, le_of rfl, le_of rfl, TT_ok, AD_ok⟩ rfl runes_Lines.E (fun k p hp => by
    simp only [runes_Lines.E, List.mem_cons, List.not_mem_nil, or_false] at hp
    rcases hp with rfl
    · exact ⟨runes_Kind.ok k, runes_Kind.go⟩)
    (fun k i => (runes_Lines.O k)[i]?) runes_Lines.H (fun k x => runes_Lines.f k x.1)
    (fun id o y h => by
    have h' := List.mem_of_getElem? h
    simp only [runes_Lines.O, List.mem_cons, List.not_mem_nil, or_false] at h'
    rcases h' with rfl <;> rfl)
    (fun k p hp => by
    rw [show pts (cd Try.f59) runes_Lines.H = [(0, [1, 1, 0, 1, 0, 0])] by kernel_rfl] at hp
    simp only [List.mem_cons, List.not_mem_nil, or_false] at hp
    rcases hp with rfl
    · exact ptOk_of rfl (runes_Lines.l0_e k))
    (fun k x => by kernel_rfl) k
/-! (*reglet/metrics.Table).Check -/
def metrics_Table_Check.f (k : Nat) (a0 : List (Int × Int × Int × Int × Int × Int × List api_Range × Bool)) (a1 : Int) : Option Int := if (decide (a1 < 0)) = true then (some 43) else (if (decide ((a0.length : Int) ≤ a1)) = true then (some 43) else (some 0))
def metrics_Table_Check.sig (k : Nat) : Sig := .p [(false, y21), (false, (.i .i64))] [.c false (.i .i64)] fun x => metrics_Table_Check.f k x.1 x.2.1
def metrics_Table_Check.E (k : Nat) : List (Nat × Sig) := []
def metrics_Table_Check.G (P : Program) : GI := ⟨P, TT, 16, 16, [], [], [], [], [], AD⟩
def metrics_Table_Check.H : H := .n
def metrics_Table_Check.O (k : Nat) : List (Orc (denR [.c false (.i .i64)])) := []
theorem metrics_Table_Check.go : goesTo Try.prog 60 := ⟨_, Try.func60, by kernel_rfl, rfl⟩
theorem metrics_Table_Check.ok (k : Nat) : SigOk Try.prog 60 (metrics_Table_Check.sig k) :=
  fn_p (G := metrics_Table_Check.G Try.prog) (c := cd Try.f60) (rs := [.tmp 4]) (args := [(false, y21), (false, (.i .i64))]) (l := [.c false (.i .i64)]) (fn := Try.f60) ⟨Try.func60, by kernel_rfl, by kernel_rfl, by kernel_rfl, le_of rfl, le_of rfl, TT_ok, AD_ok⟩ rfl metrics_Table_Check.E (fun k p hp => nomatch hp)
    (fun k i => (metrics_Table_Check.O k)[i]?) metrics_Table_Check.H (fun k x => metrics_Table_Check.f k x.1 x.2.1)
    (fun id o y h => by cases id <;> cases h)
    (fun k p hp => by rw [show pts (cd Try.f60) metrics_Table_Check.H = [] by kernel_rfl] at hp; nomatch hp)
    (fun k x => by kernel_rfl) k
/-! reglet/runes.Inside -/
def runes_Inside.f (k : Nat) (a0 : Int) : Option Bool := some (decide ((andI .u8 a0 (192 : Int)) = 128))
def runes_Inside.sig (k : Nat) : Sig := .p [(false, (.i .u8))] [.c false .b] fun x => runes_Inside.f k x.1
def runes_Inside.E (k : Nat) : List (Nat × Sig) := []
def runes_Inside.G (P : Program) : GI := ⟨P, TT, 6, 6, [], [], [], [], [], AD⟩
def runes_Inside.H : H := .n
def runes_Inside.O (k : Nat) : List (Orc (denR [.c false .b])) := []
theorem runes_Inside.go : goesTo Try.prog 83 := ⟨_, Try.func83, by kernel_rfl, rfl⟩
theorem runes_Inside.ok (k : Nat) : SigOk Try.prog 83 (runes_Inside.sig k) :=
  fn_p (G := runes_Inside.G Try.prog) (c := cd Try.f83) (rs := [.tmp 2]) (args := [(false, (.i .u8))]) (l := [.c false .b]) (fn := Try.f83) ⟨Try.func83, by kernel_rfl, by kernel_rfl, by kernel_rfl, le_of rfl, le_of rfl, TT_ok, AD_ok⟩ rfl runes_Inside.E (fun k p hp => nomatch hp)
    (fun k i => (runes_Inside.O k)[i]?) runes_Inside.H (fun k x => runes_Inside.f k x.1)
    (fun id o y h => by cases id <;> cases h)
    (fun k p hp => by rw [show pts (cd Try.f83) runes_Inside.H = [] by kernel_rfl] at hp; nomatch hp)
    (fun k x => by kernel_rfl) k
/-! reglet/runes.Boundary -/
mutual
def runes_Boundary.j0 : Nat → ByteArray → Int → Option Int
  | 0, _, _ => none
  | k + 1, s, at_ => if (decide (at_ < (s.size : Int))) = true then ((bAt s at_).bind fun e => (runes_Inside.f k e).bind fun r => if r = true then (some 21) else (some 0)) else (some 0)
end
def runes_Boundary.f (k : Nat) (a0 : ByteArray) (a1 : Int) : Option Int := if (decide (a1 < 0)) = true then (some 30) else (if (decide ((a0.size : Int) < a1)) = true then (some 30) else (runes_Boundary.j0 k a0 a1))
def runes_Boundary.sig (k : Nat) : Sig := .p [(false, .s), (false, (.i .i64))] [.c false (.i .i64)] fun x => runes_Boundary.f k x.1 x.2.1
def runes_Boundary.E (k : Nat) : List (Nat × Sig) := [(83, runes_Inside.sig k)]
def runes_Boundary.G (P : Program) : GI := ⟨P, TT, 23, 23, [], [], [], [], [], AD⟩
def runes_Boundary.H : H := .s .n (.j 0 .n .n)
abbrev runes_Boundary.j0_s : Sh := [(0, .v .s), (1, .v (.i .i64))]
def runes_Boundary.O (k : Nat) : List (Orc (denR [.c false (.i .i64)])) := [⟨runes_Boundary.j0_s, fun y => runes_Boundary.j0 k y.1 y.2.1⟩]
theorem runes_Boundary.j0_e (k : Nat) (y : denS runes_Boundary.j0_s) : runes_Boundary.j0 (k + 1) y.1 y.2.1 = evP ((runes_Boundary.G Try.prog).at (runes_Boundary.E k)) (fun i => (runes_Boundary.O k)[i]?) [1, 1] (cd Try.f61) runes_Boundary.H (kFin ((runes_Boundary.G Try.prog).at (runes_Boundary.E k)) [.tmp 4] [.c false (.i .i64)]) (unS runes_Boundary.j0_s y) := by rw [runes_Boundary.j0]; kernel_rfl
theorem runes_Boundary.go : goesTo Try.prog 61 := ⟨_, Try.func61, by kernel_rfl, rfl⟩
theorem runes_Boundary.ok (k : Nat) : SigOk Try.prog 61 (runes_Boundary.sig k) :=
  fn_p (G := runes_Boundary.G Try.prog) (c := cd Try.f61) (rs := [.tmp 4]) (args := [(false, .s), (false, (.i .i64))]) (l := [.c false (.i .i64)]) (fn := Try.f61) ⟨Try.func61, by kernel_rfl, by kernel_rfl, by kernel_rfl, le_of rfl, le_of rfl, TT_ok, AD_ok⟩ rfl runes_Boundary.E (fun k p hp => by
    simp only [runes_Boundary.E, List.mem_cons, List.not_mem_nil, or_false] at hp
    rcases hp with rfl
    · exact ⟨runes_Inside.ok k, runes_Inside.go⟩)
    (fun k i => (runes_Boundary.O k)[i]?) runes_Boundary.H (fun k x => runes_Boundary.f k x.1 x.2.1)
    (fun id o y h => by
    have h' := List.mem_of_getElem? h
    simp only [runes_Boundary.O, List.mem_cons, List.not_mem_nil, or_false] at h'
    rcases h' with rfl <;> rfl)
    (fun k p hp => by
    rw [show pts (cd Try.f61) runes_Boundary.H = [(0, [1, 1])] by kernel_rfl] at hp
    simp only [List.mem_cons, List.not_mem_nil, or_false] at hp
    rcases hp with rfl
    · exact ptOk_of rfl (runes_Boundary.j0_e k))
    (fun k x => by kernel_rfl) k
/-! reglet/items.Check -/
mutual
def items_Check.j0 : Nat → (List (Int × Int × Int × Int × Int × Int × List api_Range × Bool)) → ByteArray → (List api_Run) → Option Int
  | 0, _, _, _ => none
  | k + 1, t, t2, t3 => items_Check.l1 k t t2 0 t3 (t3.length : Int) 0
def items_Check.l1 : Nat → (List (Int × Int × Int × Int × Int × Int × List api_Range × Bool)) → ByteArray → Int → (List api_Run) → Int → Int → Option Int
  | 0, _, _, _, _, _, _ => none
  | k + 1, t4, t5, t6, t7, t8, t9 => if (decide (t9 < t8)) = true then ((at? t7 t9).bind fun e2 => if (decide (e2.1 < 0)) = true then (some 70) else (if (decide ((wrap64 ((t5.size : Int) - t6)) < e2.1)) = true then (some 70) else (items_Check.j2 k t4 t5 t6 t7 t8 t9 e2))) else (if (!decide (t6 = (t5.size : Int))) = true then (some 70) else (some 0))
def items_Check.j2 : Nat → (List (Int × Int × Int × Int × Int × Int × List api_Range × Bool)) → ByteArray → Int → (List api_Run) → Int → Int → api_Run → Option Int
  | 0, _, _, _, _, _, _, _ => none
  | k + 1, t10, t11, t12, t13, t14, t15, t16 => (metrics_Table_Check.f k t10 t16.2).bind fun r3 => if (!decide (r3 = 0)) = true then (some r3) else ((runes_Boundary.f k t11 (wrap64 (t12 + t16.1))).bind fun r4 => if (!decide (r4 = 0)) = true then (some r4) else (items_Check.l1 k t10 t11 (wrap64 (t12 + t16.1)) t13 t14 (wrap64 (t15 + 1))))
end
def items_Check.f (k : Nat) (a0 : List (Int × Int × Int × Int × Int × Int × List api_Range × Bool)) (a1 : ByteArray) (a2 : List api_Run) : Option Int := (runes_Check.f k a1).bind fun r => if (!decide (r = 0)) = true then (some r) else ((runes_Lines.f k a1).bind fun r2 => if (decide (a1 = ByteArray.empty)) = true then (some 70) else (if (decide (1 < r2)) = true then (some 70) else (if (decide (r2 = 1)) = true then ((bAt a1 (wrap64 ((a1.size : Int) - 1))).bind fun e => if (!decide (e = 10)) = true then (some 70) else (items_Check.j0 k a0 a1 a2)) else (items_Check.j0 k a0 a1 a2))))
def items_Check.sig (k : Nat) : Sig := .p [(false, y21), (false, .s), (false, y22)] [.c false (.i .i64)] fun x => items_Check.f k x.1 x.2.1 x.2.2.1
def items_Check.E (k : Nat) : List (Nat × Sig) := [(58, runes_Check.sig k), (59, runes_Lines.sig k), (60, metrics_Table_Check.sig k), (61, runes_Boundary.sig k)]
def items_Check.G (P : Program) : GI := ⟨P, TT, 79, 81, [(11, 79, 2)], [], [], [], [], AD⟩
def items_Check.H : H := .s .n (.s .n (.j 0 .n (.s .n (.s (.s .n (.s (.l 1 (.s .n (.s .n (.s (.s (.s .n (.j 2 .n .n)) .n) .n)))) .n)) .n))))
abbrev items_Check.j0_s : Sh := [(0, .v y21), (1, .v .s), (2, .v y22)]
abbrev items_Check.l1_s : Sh := [(0, .v y21), (1, .v .s), (9, .v (.i .i64)), (39, .v y22), (40, .v (.i .i64)), (41, .v (.i .i64))]
abbrev items_Check.j2_s : Sh := [(0, .v y21), (1, .v .s), (9, .v (.i .i64)), (11, .at_ 79), (39, .v y22), (40, .v (.i .i64)), (41, .v (.i .i64)), (79, .box y0)]
def items_Check.O (k : Nat) : List (Orc (denR [.c false (.i .i64)])) := [⟨items_Check.j0_s, fun y => items_Check.j0 k y.1 y.2.1 y.2.2.1⟩, ⟨items_Check.l1_s, fun y => items_Check.l1 k y.1 y.2.1 y.2.2.1 y.2.2.2.1 y.2.2.2.2.1 y.2.2.2.2.2.1⟩, ⟨items_Check.j2_s, fun y => items_Check.j2 k y.1 y.2.1 y.2.2.1 y.2.2.2.2.1 y.2.2.2.2.2.1 y.2.2.2.2.2.2.1 y.2.2.2.2.2.2.2.1⟩]
theorem items_Check.j2_e (k : Nat) (y : denS items_Check.j2_s) : items_Check.j2 (k + 1) y.1 y.2.1 y.2.2.1 y.2.2.2.2.1 y.2.2.2.2.2.1 y.2.2.2.2.2.2.1 y.2.2.2.2.2.2.2.1 = evP ((items_Check.G Try.prog).at (items_Check.E k)) (fun i => (items_Check.O k)[i]?) [1, 1, 1, 1, 0, 1, 0, 0, 1, 1, 0, 0, 1, 1] (cd Try.f36) items_Check.H (kFin ((items_Check.G Try.prog).at (items_Check.E k)) [.tmp 6] [.c false (.i .i64)]) (unS items_Check.j2_s y) := by rw [items_Check.j2]; kernel_rfl
theorem items_Check.l1_e (k : Nat) (y : denS items_Check.l1_s) : items_Check.l1 (k + 1) y.1 y.2.1 y.2.2.1 y.2.2.2.1 y.2.2.2.2.1 y.2.2.2.2.2.1 = evP ((items_Check.G Try.prog).at (items_Check.E k)) (fun i => (items_Check.O k)[i]?) [1, 1, 1, 1, 0, 1, 0, 0] (cd Try.f36) items_Check.H (kFin ((items_Check.G Try.prog).at (items_Check.E k)) [.tmp 6] [.c false (.i .i64)]) (unS items_Check.l1_s y) := by rw [items_Check.l1]; kernel_rfl
theorem items_Check.j0_e (k : Nat) (y : denS items_Check.j0_s) : items_Check.j0 (k + 1) y.1 y.2.1 y.2.2.1 = evP ((items_Check.G Try.prog).at (items_Check.E k)) (fun i => (items_Check.O k)[i]?) [1, 1, 1] (cd Try.f36) items_Check.H (kFin ((items_Check.G Try.prog).at (items_Check.E k)) [.tmp 6] [.c false (.i .i64)]) (unS items_Check.j0_s y) := by rw [items_Check.j0]; kernel_rfl
theorem items_Check.go : goesTo Try.prog 36 := ⟨_, Try.func36, by kernel_rfl, rfl⟩
theorem items_Check.ok (k : Nat) : SigOk Try.prog 36 (items_Check.sig k) :=
  fn_p (G := items_Check.G Try.prog) (c := cd Try.f36) (rs := [.tmp 6]) (args := [(false, y21), (false, .s), (false, y22)]) (l := [.c false (.i .i64)]) (fn := Try.f36) ⟨Try.func36, by kernel_rfl, by kernel_rfl, by kernel_rfl, le_of rfl, le_of rfl, TT_ok, AD_ok⟩ rfl items_Check.E (fun k p hp => by
    simp only [items_Check.E, List.mem_cons, List.not_mem_nil, or_false] at hp
    rcases hp with rfl | rfl | rfl | rfl
    · exact ⟨runes_Check.ok k, runes_Check.go⟩
    · exact ⟨runes_Lines.ok k, runes_Lines.go⟩
    · exact ⟨metrics_Table_Check.ok k, metrics_Table_Check.go⟩
    · exact ⟨runes_Boundary.ok k, runes_Boundary.go⟩)
    (fun k i => (items_Check.O k)[i]?) items_Check.H (fun k x => items_Check.f k x.1 x.2.1 x.2.2.1)
    (fun id o y h => by
    have h' := List.mem_of_getElem? h
    simp only [items_Check.O, List.mem_cons, List.not_mem_nil, or_false] at h'
    rcases h' with rfl | rfl | rfl <;> rfl)
    (fun k p hp => by
    rw [show pts (cd Try.f36) items_Check.H = [(2, [1, 1, 1, 1, 0, 1, 0, 0, 1, 1, 0, 0, 1, 1]), (1, [1, 1, 1, 1, 0, 1, 0, 0]), (0, [1, 1, 1])] by kernel_rfl] at hp
    simp only [List.mem_cons, List.not_mem_nil, or_false] at hp
    rcases hp with rfl | rfl | rfl
    · exact ptOk_of rfl (items_Check.j2_e k)
    · exact ptOk_of rfl (items_Check.l1_e k)
    · exact ptOk_of rfl (items_Check.j0_e k))
    (fun k x => by kernel_rfl) k
/-! reglet/runes.First -/
mutual
def runes_First.l0 : Nat → Int → (ByteArray × Nat) → Option (Int × Int)
  | 0, _, _ => none
  | k + 1, n, t => if t.2 < t.1.size then (some (((Utf8.decode t.1 t.2).1 : Int), n)) else (some (0, 0))
end
def runes_First.f (k : Nat) (a0 : ByteArray) : Option (Int × Int) := (runes_size.f k a0 0).bind fun r => (sSub a0 0 r).bind fun v => runes_First.l0 k r (v, 0)
def runes_First.sig (k : Nat) : Sig := .p [(false, .s)] [.c false (.i .i32), .c false (.i .i64)] fun x => runes_First.f k x.1
def runes_First.E (k : Nat) : List (Nat × Sig) := [(62, runes_size.sig k)]
def runes_First.G (P : Program) : GI := ⟨P, TT, 18, 18, [], [], [], [], [], AD⟩
def runes_First.H : H := .s .n (.s .n (.s (.s .n (.s (.l 0 .n) .n)) .n))
abbrev runes_First.l0_s : Sh := [(4, .v (.i .i64)), (12, .it)]
def runes_First.O (k : Nat) : List (Orc (denR [.c false (.i .i32), .c false (.i .i64)])) := [⟨runes_First.l0_s, fun y => runes_First.l0 k y.1 y.2.1⟩]
theorem runes_First.l0_e (k : Nat) (y : denS runes_First.l0_s) : runes_First.l0 (k + 1) y.1 y.2.1 = evP ((runes_First.G Try.prog).at (runes_First.E k)) (fun i => (runes_First.O k)[i]?) [1, 1, 0, 1, 0, 0] (cd Try.f37) runes_First.H (kFin ((runes_First.G Try.prog).at (runes_First.E k)) [.tmp 2, .tmp 3] [.c false (.i .i32), .c false (.i .i64)]) (unS runes_First.l0_s y) := by rw [runes_First.l0]; kernel_rfl
theorem runes_First.go : goesTo Try.prog 37 := ⟨_, Try.func37, by kernel_rfl, rfl⟩
theorem runes_First.ok (k : Nat) : SigOk Try.prog 37 (runes_First.sig k) :=
  fn_p (G := runes_First.G Try.prog) (c := cd Try.f37) (rs := [.tmp 2, .tmp 3]) (args := [(false, .s)]) (l := [.c false (.i .i32), .c false (.i .i64)]) (fn := Try.f37) ⟨Try.func37, by kernel_rfl, by kernel_rfl, by kernel_rfl, le_of rfl, le_of rfl, TT_ok, AD_ok⟩ rfl runes_First.E (fun k p hp => by
    simp only [runes_First.E, List.mem_cons, List.not_mem_nil, or_false] at hp
    rcases hp with rfl
    · exact ⟨runes_size.ok k, runes_size.go⟩)
    (fun k i => (runes_First.O k)[i]?) runes_First.H (fun k x => runes_First.f k x.1)
    (fun id o y h => by
    have h' := List.mem_of_getElem? h
    simp only [runes_First.O, List.mem_cons, List.not_mem_nil, or_false] at h'
    rcases h' with rfl <;> rfl)
    (fun k p hp => by
    rw [show pts (cd Try.f37) runes_First.H = [(0, [1, 1, 0, 1, 0, 0])] by kernel_rfl] at hp
    simp only [List.mem_cons, List.not_mem_nil, or_false] at hp
    rcases hp with rfl
    · exact ptOk_of rfl (runes_First.l0_e k))
    (fun k x => by kernel_rfl) k
/-! (*reglet/items.builder).put -/
def items_builder_put.f (k : Nat) (a0 : (List (Int × Int × Int × Int × Int × Int × List api_Range × Bool)) × List api_Item × Int × Bool) (a1 : api_Item) : Option (((List (Int × Int × Int × Int × Int × Int × List api_Range × Bool)) × List api_Item × Int × Bool)) := if (a0.2.1.length + ([a1] : List api_Item).length) * 72 ≤ 140737488355328 then (some (a0.1, a0.2.1 ++ ([a1] : List api_Item), a0.2.2.1, (false))) else none
def items_builder_put.sig (k : Nat) : Sig := .l y43 [(true, y29)] [] fun b x => items_builder_put.f k b x.1
def items_builder_put.E (k : Nat) : List (Nat × Sig) := []
def items_builder_put.G (P : Program) : GI := ⟨P, TT, 17, 30, [(0, 17, 4), (3, 21, 9)], [0], [], [], [], AD⟩
def items_builder_put.H : H := .n
def items_builder_put.O (k : Nat) : List (Orc (denR ([] ++ [.c true y43]))) := []
theorem items_builder_put.go : goesTo Try.prog 63 := ⟨_, Try.func63, by kernel_rfl, rfl⟩
theorem items_builder_put.ok (k : Nat) : SigOk Try.prog 63 (items_builder_put.sig k) :=
  fn_l (G := items_builder_put.G Try.prog) (c := cd Try.f63) (rs := []) (args := [(true, y29)]) (l := []) (fn := Try.f63) ⟨Try.func63, by kernel_rfl, by kernel_rfl, by kernel_rfl, le_of rfl, le_of rfl, TT_ok, AD_ok⟩ rfl items_builder_put.E (fun k p hp => nomatch hp)
    (fun k i => (items_builder_put.O k)[i]?) items_builder_put.H (fun k b x => items_builder_put.f k b x.1)
    (fun id o y h => by cases id <;> cases h)
    (fun k p hp => by rw [show pts (cd Try.f63) items_builder_put.H = [] by kernel_rfl] at hp; nomatch hp)
    (fun k b x => by kernel_rfl) k
/-! (*reglet/items.builder).end -/
def items_builder_end.f (k : Nat) (a0 : (List (Int × Int × Int × Int × Int × Int × List api_Range × Bool)) × List api_Item × Int × Bool) (a1 : Int) (a2 : Int) : Option (((List (Int × Int × Int × Int × Int × Int × List api_Range × Bool)) × List api_Item × Int × Bool)) := (items_builder_put.f k a0 (2, 0, 0, 0, (true), 0, (false), a1, a1)).bind fun r => (items_builder_put.f k r (3, 0, 0, 0, (false), (-10000), (false), a1, a2)).bind fun r2 => some r2
def items_builder_end.sig (k : Nat) : Sig := .l y43 [(false, (.i .i64)), (false, (.i .i64))] [] fun b x => items_builder_end.f k b x.1 x.2.1
def items_builder_end.E (k : Nat) : List (Nat × Sig) := [(63, items_builder_put.sig k)]
def items_builder_end.G (P : Program) : GI := ⟨P, TT, 16, 20, [(0, 16, 4)], [0], [], [], [], AD⟩
def items_builder_end.H : H := .n
def items_builder_end.O (k : Nat) : List (Orc (denR ([] ++ [.c true y43]))) := []
theorem items_builder_end.go : goesTo Try.prog 38 := ⟨_, Try.func38, by kernel_rfl, rfl⟩
theorem items_builder_end.ok (k : Nat) : SigOk Try.prog 38 (items_builder_end.sig k) :=
  fn_l (G := items_builder_end.G Try.prog) (c := cd Try.f38) (rs := []) (args := [(false, (.i .i64)), (false, (.i .i64))]) (l := []) (fn := Try.f38) ⟨Try.func38, by kernel_rfl, by kernel_rfl, by kernel_rfl, le_of rfl, le_of rfl, TT_ok, AD_ok⟩ rfl items_builder_end.E (fun k p hp => by
    simp only [items_builder_end.E, List.mem_cons, List.not_mem_nil, or_false] at hp
    rcases hp with rfl
    · exact ⟨items_builder_put.ok k, items_builder_put.go⟩)
    (fun k i => (items_builder_end.O k)[i]?) items_builder_end.H (fun k b x => items_builder_end.f k b x.1 x.2.1)
    (fun id o y h => by cases id <;> cases h)
    (fun k p hp => by rw [show pts (cd Try.f38) items_builder_end.H = [] by kernel_rfl] at hp; nomatch hp)
    (fun k b x => by kernel_rfl) k
/-! (*reglet/metrics.Table).of -/
def metrics_Table_of.f (k : Nat) (a0 : List (Int × Int × Int × Int × Int × Int × List api_Range × Bool)) (a1 : Int) : Option ((Int × Int × Int × Int × Int × Int × List api_Range × Bool)) := (metrics_Table_Check.f k a0 a1).bind fun r => if (!decide (r = 0)) = true then (some (0, 0, 0, 0, 0, 0, ([] : List api_Range), (false))) else ((at? a0 a1).bind fun e => some e)
def metrics_Table_of.sig (k : Nat) : Sig := .p [(false, y39), (false, (.i .i64))] [.c true y37] fun x => metrics_Table_of.f k x.1 x.2.1
def metrics_Table_of.E (k : Nat) : List (Nat × Sig) := [(60, metrics_Table_Check.sig k)]
def metrics_Table_of.G (P : Program) : GI := ⟨P, TT, 17, 25, [(4, 17, 8)], [], [], [], [], AD⟩
def metrics_Table_of.H : H := .n
def metrics_Table_of.O (k : Nat) : List (Orc (denR [.c true y37])) := []
theorem metrics_Table_of.go : goesTo Try.prog 84 := ⟨_, Try.func84, by kernel_rfl, rfl⟩
theorem metrics_Table_of.ok (k : Nat) : SigOk Try.prog 84 (metrics_Table_of.sig k) :=
  fn_p (G := metrics_Table_of.G Try.prog) (c := cd Try.f84) (rs := [.cell 4 59]) (args := [(false, y39), (false, (.i .i64))]) (l := [.c true y37]) (fn := Try.f84) ⟨Try.func84, by kernel_rfl, by kernel_rfl, by kernel_rfl, le_of rfl, le_of rfl, TT_ok, AD_ok⟩ rfl metrics_Table_of.E (fun k p hp => by
    simp only [metrics_Table_of.E, List.mem_cons, List.not_mem_nil, or_false] at hp
    rcases hp with rfl
    · exact ⟨metrics_Table_Check.ok k, metrics_Table_Check.go⟩)
    (fun k i => (metrics_Table_of.O k)[i]?) metrics_Table_of.H (fun k x => metrics_Table_of.f k x.1 x.2.1)
    (fun id o y h => by cases id <;> cases h)
    (fun k p hp => by rw [show pts (cd Try.f84) metrics_Table_of.H = [] by kernel_rfl] at hp; nomatch hp)
    (fun k x => by kernel_rfl) k
/-! (*reglet/metrics.Table).Space -/
def metrics_Table_Space.f (k : Nat) (a0 : List (Int × Int × Int × Int × Int × Int × List api_Range × Bool)) (a1 : Int) : Option (Int × Int × Int) := (metrics_Table_of.f k a0 a1).bind fun r => some (r.2.1, r.2.2.1, r.2.2.2.1)
def metrics_Table_Space.sig (k : Nat) : Sig := .p [(false, y39), (false, (.i .i64))] [.c false (.i .i64), .c false (.i .i64), .c false (.i .i64)] fun x => metrics_Table_Space.f k x.1 x.2.1
def metrics_Table_Space.E (k : Nat) : List (Nat × Sig) := [(84, metrics_Table_of.sig k)]
def metrics_Table_Space.G (P : Program) : GI := ⟨P, TT, 17, 25, [(7, 17, 8)], [], [], [], [], AD⟩
def metrics_Table_Space.H : H := .n
def metrics_Table_Space.O (k : Nat) : List (Orc (denR [.c false (.i .i64), .c false (.i .i64), .c false (.i .i64)])) := []
theorem metrics_Table_Space.go : goesTo Try.prog 64 := ⟨_, Try.func64, by kernel_rfl, rfl⟩
theorem metrics_Table_Space.ok (k : Nat) : SigOk Try.prog 64 (metrics_Table_Space.sig k) :=
  fn_p (G := metrics_Table_Space.G Try.prog) (c := cd Try.f64) (rs := [.tmp 4, .tmp 5, .tmp 6]) (args := [(false, y39), (false, (.i .i64))]) (l := [.c false (.i .i64), .c false (.i .i64), .c false (.i .i64)]) (fn := Try.f64) ⟨Try.func64, by kernel_rfl, by kernel_rfl, by kernel_rfl, le_of rfl, le_of rfl, TT_ok, AD_ok⟩ rfl metrics_Table_Space.E (fun k p hp => by
    simp only [metrics_Table_Space.E, List.mem_cons, List.not_mem_nil, or_false] at hp
    rcases hp with rfl
    · exact ⟨metrics_Table_of.ok k, metrics_Table_of.go⟩)
    (fun k i => (metrics_Table_Space.O k)[i]?) metrics_Table_Space.H (fun k x => metrics_Table_Space.f k x.1 x.2.1)
    (fun id o y h => by cases id <;> cases h)
    (fun k p hp => by rw [show pts (cd Try.f64) metrics_Table_Space.H = [] by kernel_rfl] at hp; nomatch hp)
    (fun k x => by kernel_rfl) k
/-! (*reglet/metrics.Table).Hyphen -/
def metrics_Table_Hyphen.f (k : Nat) (a0 : List (Int × Int × Int × Int × Int × Int × List api_Range × Bool)) (a1 : Int) : Option Int := (metrics_Table_of.f k a0 a1).bind fun r => some r.2.2.2.2.1
def metrics_Table_Hyphen.sig (k : Nat) : Sig := .p [(false, y39), (false, (.i .i64))] [.c false (.i .i64)] fun x => metrics_Table_Hyphen.f k x.1 x.2.1
def metrics_Table_Hyphen.E (k : Nat) : List (Nat × Sig) := [(84, metrics_Table_of.sig k)]
def metrics_Table_Hyphen.G (P : Program) : GI := ⟨P, TT, 9, 9, [], [], [], [], [], AD⟩
def metrics_Table_Hyphen.H : H := .n
def metrics_Table_Hyphen.O (k : Nat) : List (Orc (denR [.c false (.i .i64)])) := []
theorem metrics_Table_Hyphen.go : goesTo Try.prog 65 := ⟨_, Try.func65, by kernel_rfl, rfl⟩
theorem metrics_Table_Hyphen.ok (k : Nat) : SigOk Try.prog 65 (metrics_Table_Hyphen.sig k) :=
  fn_p (G := metrics_Table_Hyphen.G Try.prog) (c := cd Try.f65) (rs := [.tmp 4]) (args := [(false, y39), (false, (.i .i64))]) (l := [.c false (.i .i64)]) (fn := Try.f65) ⟨Try.func65, by kernel_rfl, by kernel_rfl, by kernel_rfl, le_of rfl, le_of rfl, TT_ok, AD_ok⟩ rfl metrics_Table_Hyphen.E (fun k p hp => by
    simp only [metrics_Table_Hyphen.E, List.mem_cons, List.not_mem_nil, or_false] at hp
    rcases hp with rfl
    · exact ⟨metrics_Table_of.ok k, metrics_Table_of.go⟩)
    (fun k i => (metrics_Table_Hyphen.O k)[i]?) metrics_Table_Hyphen.H (fun k x => metrics_Table_Hyphen.f k x.1 x.2.1)
    (fun id o y h => by cases id <;> cases h)
    (fun k p hp => by rw [show pts (cd Try.f65) metrics_Table_Hyphen.H = [] by kernel_rfl] at hp; nomatch hp)
    (fun k x => by kernel_rfl) k
/-! reglet/scaled.Clamp -/
def scaled_Clamp.f (k : Nat) (a0 : Int) : Option Int := some (if (-1152921504606846976) < (if a0 < 1152921504606846976 then a0 else 1152921504606846976) then (if a0 < 1152921504606846976 then a0 else 1152921504606846976) else (-1152921504606846976))
def scaled_Clamp.sig (k : Nat) : Sig := .p [(false, (.i .i64))] [.c false (.i .i64)] fun x => scaled_Clamp.f k x.1
def scaled_Clamp.E (k : Nat) : List (Nat × Sig) := []
def scaled_Clamp.G (P : Program) : GI := ⟨P, TT, 6, 6, [], [], [], [], [], AD⟩
def scaled_Clamp.H : H := .n
def scaled_Clamp.O (k : Nat) : List (Orc (denR [.c false (.i .i64)])) := []
theorem scaled_Clamp.go : goesTo Try.prog 94 := ⟨_, Try.func94, by kernel_rfl, rfl⟩
theorem scaled_Clamp.ok (k : Nat) : SigOk Try.prog 94 (scaled_Clamp.sig k) :=
  fn_p (G := scaled_Clamp.G Try.prog) (c := cd Try.f94) (rs := [.tmp 2]) (args := [(false, (.i .i64))]) (l := [.c false (.i .i64)]) (fn := Try.f94) ⟨Try.func94, by kernel_rfl, by kernel_rfl, by kernel_rfl, le_of rfl, le_of rfl, TT_ok, AD_ok⟩ rfl scaled_Clamp.E (fun k p hp => nomatch hp)
    (fun k i => (scaled_Clamp.O k)[i]?) scaled_Clamp.H (fun k x => scaled_Clamp.f k x.1)
    (fun id o y h => by cases id <;> cases h)
    (fun k p hp => by rw [show pts (cd Try.f94) scaled_Clamp.H = [] by kernel_rfl] at hp; nomatch hp)
    (fun k x => by kernel_rfl) k
/-! reglet/scaled.Add -/
def scaled_Add.f (k : Nat) (a0 : Int) (a1 : Int) : Option Int := (scaled_Clamp.f k a0).bind fun r => (scaled_Clamp.f k a1).bind fun r2 => (scaled_Clamp.f k (wrap64 (r + r2))).bind fun r3 => some r3
def scaled_Add.sig (k : Nat) : Sig := .p [(false, (.i .i64)), (false, (.i .i64))] [.c false (.i .i64)] fun x => scaled_Add.f k x.1 x.2.1
def scaled_Add.E (k : Nat) : List (Nat × Sig) := [(94, scaled_Clamp.sig k)]
def scaled_Add.G (P : Program) : GI := ⟨P, TT, 11, 11, [], [], [], [], [], AD⟩
def scaled_Add.H : H := .n
def scaled_Add.O (k : Nat) : List (Orc (denR [.c false (.i .i64)])) := []
theorem scaled_Add.go : goesTo Try.prog 85 := ⟨_, Try.func85, by kernel_rfl, rfl⟩
theorem scaled_Add.ok (k : Nat) : SigOk Try.prog 85 (scaled_Add.sig k) :=
  fn_p (G := scaled_Add.G Try.prog) (c := cd Try.f85) (rs := [.tmp 4]) (args := [(false, (.i .i64)), (false, (.i .i64))]) (l := [.c false (.i .i64)]) (fn := Try.f85) ⟨Try.func85, by kernel_rfl, by kernel_rfl, by kernel_rfl, le_of rfl, le_of rfl, TT_ok, AD_ok⟩ rfl scaled_Add.E (fun k p hp => by
    simp only [scaled_Add.E, List.mem_cons, List.not_mem_nil, or_false] at hp
    rcases hp with rfl
    · exact ⟨scaled_Clamp.ok k, scaled_Clamp.go⟩)
    (fun k i => (scaled_Add.O k)[i]?) scaled_Add.H (fun k x => scaled_Add.f k x.1 x.2.1)
    (fun id o y h => by cases id <;> cases h)
    (fun k p hp => by rw [show pts (cd Try.f85) scaled_Add.H = [] by kernel_rfl] at hp; nomatch hp)
    (fun k x => by kernel_rfl) k
/-! (*reglet/items.builder).box -/
mutual
def items_builder_box.j0 : Nat → Int → Int → ((List (Int × Int × Int × Int × Int × Int × List api_Range × Bool)) × List api_Item × Int × Bool) → Option (((List (Int × Int × Int × Int × Int × Int × List api_Range × Bool)) × List api_Item × Int × Bool))
  | 0, _, _, _ => none
  | k + 1, t, t2, t3 => if 0 ≤ t2 ∧ t2 < (t3.2.1.length : Int) then ((t3.2.1[t2.toNat]?).bind fun e3 => some (t3.1, t3.2.1.set t2.toNat (e3.1, e3.2.1, e3.2.2.1, e3.2.2.2.1, e3.2.2.2.2.1, e3.2.2.2.2.2.1, e3.2.2.2.2.2.2.1, e3.2.2.2.2.2.2.2.1, t), t3.2.2.1, t3.2.2.2)) else none
def items_builder_box.j1 : Nat → Int → Int → Int → Int → ((List (Int × Int × Int × Int × Int × Int × List api_Range × Bool)) × List api_Item × Int × Bool) → Option (((List (Int × Int × Int × Int × Int × Int × List api_Range × Bool)) × List api_Item × Int × Bool))
  | 0, _, _, _, _, _ => none
  | k + 1, t4, t5, t6, t7, t8 => (items_builder_put.f k t8 (1, t4, 0, 0, (false), 0, (false), t6, t7)).bind fun r2 => some (r2.1, r2.2.1, t5, (true))
end
def items_builder_box.f (k : Nat) (a0 : (List (Int × Int × Int × Int × Int × Int × List api_Range × Bool)) × List api_Item × Int × Bool) (a1 : Int) (a2 : Int) (a3 : Int) (a4 : Int) : Option (((List (Int × Int × Int × Int × Int × Int × List api_Range × Bool)) × List api_Item × Int × Bool)) := if a0.2.2.2 = true then (if (decide (a0.2.2.1 = a2)) = true then (if 0 ≤ (wrap64 ((a0.2.1.length : Int) - 1)) ∧ (wrap64 ((a0.2.1.length : Int) - 1)) < (a0.2.1.length : Int) then ((a0.2.1[(wrap64 ((a0.2.1.length : Int) - 1)).toNat]?).bind fun e => (scaled_Add.f k e.2.1 a1).bind fun r => if 0 ≤ (wrap64 ((a0.2.1.length : Int) - 1)) ∧ (wrap64 ((a0.2.1.length : Int) - 1)) < (a0.2.1.length : Int) then ((a0.2.1[(wrap64 ((a0.2.1.length : Int) - 1)).toNat]?).bind fun e2 => items_builder_box.j0 k a4 (wrap64 ((a0.2.1.length : Int) - 1)) (a0.1, a0.2.1.set ((wrap64 ((a0.2.1.length : Int) - 1)).toNat) (e2.1, r, e2.2.2.1, e2.2.2.2.1, e2.2.2.2.2.1, e2.2.2.2.2.2.1, e2.2.2.2.2.2.2.1, e2.2.2.2.2.2.2.2.1, e2.2.2.2.2.2.2.2.2), a0.2.2.1, a0.2.2.2)) else none) else none) else (items_builder_box.j1 k a1 a2 a3 a4 a0)) else (items_builder_box.j1 k a1 a2 a3 a4 a0)
def items_builder_box.sig (k : Nat) : Sig := .l y43 [(false, (.i .i64)), (false, (.i .i64)), (false, (.i .i64)), (false, (.i .i64))] [] fun b x => items_builder_box.f k b x.1 x.2.1 x.2.2.1 x.2.2.2.1
def items_builder_box.E (k : Nat) : List (Nat × Sig) := [(63, items_builder_put.sig k), (85, scaled_Add.sig k)]
def items_builder_box.G (P : Program) : GI := ⟨P, TT, 67, 71, [(0, 67, 4)], [0], [], [], [], AD⟩
def items_builder_box.H : H := .j 1 (.s .n (.s .n (.s (.j 0 .n .n) .n))) .n
abbrev items_builder_box.j0_s : Sh := [(0, .at_ 67), (4, .v (.i .i64)), (10, .v (.i .i64)), (67, .box y43)]
abbrev items_builder_box.j1_s : Sh := [(0, .at_ 67), (1, .v (.i .i64)), (2, .v (.i .i64)), (3, .v (.i .i64)), (4, .v (.i .i64)), (67, .box y43)]
def items_builder_box.O (k : Nat) : List (Orc (denR ([] ++ [.c true y43]))) := [⟨items_builder_box.j0_s, fun y => items_builder_box.j0 k y.2.1 y.2.2.1 y.2.2.2.1⟩, ⟨items_builder_box.j1_s, fun y => items_builder_box.j1 k y.2.1 y.2.2.1 y.2.2.2.1 y.2.2.2.2.1 y.2.2.2.2.2.1⟩]
theorem items_builder_box.j0_e (k : Nat) (y : denS items_builder_box.j0_s) : items_builder_box.j0 (k + 1) y.2.1 y.2.2.1 y.2.2.2.1 = evP ((items_builder_box.G Try.prog).at (items_builder_box.E k)) (fun i => (items_builder_box.O k)[i]?) [0, 1, 1, 0, 1] (cd Try.f66) items_builder_box.H (kFinL ((items_builder_box.G Try.prog).at (items_builder_box.E k)) y43 [] []) (unS items_builder_box.j0_s y) := by rw [items_builder_box.j0]; kernel_rfl
theorem items_builder_box.j1_e (k : Nat) (y : denS items_builder_box.j1_s) : items_builder_box.j1 (k + 1) y.2.1 y.2.2.1 y.2.2.2.1 y.2.2.2.2.1 y.2.2.2.2.2.1 = evP ((items_builder_box.G Try.prog).at (items_builder_box.E k)) (fun i => (items_builder_box.O k)[i]?) [1] (cd Try.f66) items_builder_box.H (kFinL ((items_builder_box.G Try.prog).at (items_builder_box.E k)) y43 [] []) (unS items_builder_box.j1_s y) := by rw [items_builder_box.j1]; kernel_rfl
theorem items_builder_box.go : goesTo Try.prog 66 := ⟨_, Try.func66, by kernel_rfl, rfl⟩
theorem items_builder_box.ok (k : Nat) : SigOk Try.prog 66 (items_builder_box.sig k) :=
  fn_l (G := items_builder_box.G Try.prog) (c := cd Try.f66) (rs := []) (args := [(false, (.i .i64)), (false, (.i .i64)), (false, (.i .i64)), (false, (.i .i64))]) (l := []) (fn := Try.f66) ⟨Try.func66, by kernel_rfl, by kernel_rfl, by kernel_rfl, le_of rfl, le_of rfl, TT_ok, AD_ok⟩ rfl items_builder_box.E (fun k p hp => by
    simp only [items_builder_box.E, List.mem_cons, List.not_mem_nil, or_false] at hp
    rcases hp with rfl | rfl
    · exact ⟨items_builder_put.ok k, items_builder_put.go⟩
    · exact ⟨scaled_Add.ok k, scaled_Add.go⟩)
    (fun k i => (items_builder_box.O k)[i]?) items_builder_box.H (fun k b x => items_builder_box.f k b x.1 x.2.1 x.2.2.1 x.2.2.2.1)
    (fun id o y h => by
    have h' := List.mem_of_getElem? h
    simp only [items_builder_box.O, List.mem_cons, List.not_mem_nil, or_false] at h'
    rcases h' with rfl | rfl <;> rfl)
    (fun k p hp => by
    rw [show pts (cd Try.f66) items_builder_box.H = [(0, [0, 1, 1, 0, 1]), (1, [1])] by kernel_rfl] at hp
    simp only [List.mem_cons, List.not_mem_nil, or_false] at hp
    rcases hp with rfl | rfl
    · exact ptOk_of rfl (items_builder_box.j0_e k)
    · exact ptOk_of rfl (items_builder_box.j1_e k))
    (fun k b x => by kernel_rfl) k
/-! reglet/metrics.lookup -/
mutual
def metrics_lookup.l0 : Nat → Int → Int → Int → (Int × Int × Int × Int × Int × Int × List api_Range × Bool) → Option Int
  | 0, _, _, _, _ => none
  | k + 1, r, low, high, s => if (decide (low < high)) = true then ((at? s.2.2.2.2.2.2.1 (wrap64 ((wrap64 (low + high)).tdiv 2))).bind fun e => if (decide (e.2.1 < r)) = true then (metrics_lookup.l0 k r (wrap64 ((wrap64 ((wrap64 (low + high)).tdiv 2)) + 1)) high s) else (metrics_lookup.l0 k r low (wrap64 ((wrap64 (low + high)).tdiv 2)) s)) else (if (decide (low < (s.2.2.2.2.2.2.1.length : Int))) = true then ((at? s.2.2.2.2.2.2.1 low).bind fun e2 => if (decide (e2.1 ≤ r)) = true then ((at? s.2.2.2.2.2.2.1 low).bind fun e3 => some e3.2.2) else (metrics_lookup.j1 k s)) else (metrics_lookup.j1 k s))
def metrics_lookup.j1 : Nat → (Int × Int × Int × Int × Int × Int × List api_Range × Bool) → Option Int
  | 0, _ => none
  | k + 1, s2 => some s2.2.2.2.2.2.1
end
def metrics_lookup.f (k : Nat) (a0 : Int × Int × Int × Int × Int × Int × List api_Range × Bool) (a1 : Int) : Option Int := metrics_lookup.l0 k a1 0 (a0.2.2.2.2.2.2.1.length : Int) a0
def metrics_lookup.sig (k : Nat) : Sig := .p [(true, y9), (false, (.i .i64))] [.c false (.i .i64)] fun x => metrics_lookup.f k x.1 x.2.1
def metrics_lookup.E (k : Nat) : List (Nat × Sig) := []
def metrics_lookup.G (P : Program) : GI := ⟨P, TT, 52, 60, [(2, 52, 8)], [], [], [], [], AD⟩
def metrics_lookup.H : H := .s .n (.s .n (.s (.s (.l 0 .n) .n) (.j 1 .n .n)))
abbrev metrics_lookup.l0_s : Sh := [(1, .v (.i .i64)), (2, .at_ 52), (5, .v (.i .i64)), (6, .v (.i .i64)), (52, .box y9)]
abbrev metrics_lookup.j1_s : Sh := [(2, .at_ 52), (52, .box y9)]
def metrics_lookup.O (k : Nat) : List (Orc (denR [.c false (.i .i64)])) := [⟨metrics_lookup.l0_s, fun y => metrics_lookup.l0 k y.1 y.2.2.1 y.2.2.2.1 y.2.2.2.2.1⟩, ⟨metrics_lookup.j1_s, fun y => metrics_lookup.j1 k y.2.1⟩]
theorem metrics_lookup.l0_e (k : Nat) (y : denS metrics_lookup.l0_s) : metrics_lookup.l0 (k + 1) y.1 y.2.2.1 y.2.2.2.1 y.2.2.2.2.1 = evP ((metrics_lookup.G Try.prog).at (metrics_lookup.E k)) (fun i => (metrics_lookup.O k)[i]?) [1, 1, 0, 0, 0] (cd Try.f86) metrics_lookup.H (kFin ((metrics_lookup.G Try.prog).at (metrics_lookup.E k)) [.tmp 4] [.c false (.i .i64)]) (unS metrics_lookup.l0_s y) := by rw [metrics_lookup.l0]; kernel_rfl
theorem metrics_lookup.j1_e (k : Nat) (y : denS metrics_lookup.j1_s) : metrics_lookup.j1 (k + 1) y.2.1 = evP ((metrics_lookup.G Try.prog).at (metrics_lookup.E k)) (fun i => (metrics_lookup.O k)[i]?) [1, 1, 1, 1] (cd Try.f86) metrics_lookup.H (kFin ((metrics_lookup.G Try.prog).at (metrics_lookup.E k)) [.tmp 4] [.c false (.i .i64)]) (unS metrics_lookup.j1_s y) := by rw [metrics_lookup.j1]; kernel_rfl
theorem metrics_lookup.go : goesTo Try.prog 86 := ⟨_, Try.func86, by kernel_rfl, rfl⟩
theorem metrics_lookup.ok (k : Nat) : SigOk Try.prog 86 (metrics_lookup.sig k) :=
  fn_p (G := metrics_lookup.G Try.prog) (c := cd Try.f86) (rs := [.tmp 4]) (args := [(true, y9), (false, (.i .i64))]) (l := [.c false (.i .i64)]) (fn := Try.f86) ⟨Try.func86, by kernel_rfl, by kernel_rfl, by kernel_rfl, le_of rfl, le_of rfl, TT_ok, AD_ok⟩ rfl metrics_lookup.E (fun k p hp => nomatch hp)
    (fun k i => (metrics_lookup.O k)[i]?) metrics_lookup.H (fun k x => metrics_lookup.f k x.1 x.2.1)
    (fun id o y h => by
    have h' := List.mem_of_getElem? h
    simp only [metrics_lookup.O, List.mem_cons, List.not_mem_nil, or_false] at h'
    rcases h' with rfl | rfl <;> rfl)
    (fun k p hp => by
    rw [show pts (cd Try.f86) metrics_lookup.H = [(0, [1, 1, 0, 0, 0]), (1, [1, 1, 1, 1])] by kernel_rfl] at hp
    simp only [List.mem_cons, List.not_mem_nil, or_false] at hp
    rcases hp with rfl | rfl
    · exact ptOk_of rfl (metrics_lookup.l0_e k)
    · exact ptOk_of rfl (metrics_lookup.j1_e k))
    (fun k x => by kernel_rfl) k
/-! (*reglet/metrics.Table).Width -/
mutual
def metrics_Table_Width.j0 : Nat → Int → Int → Bool → (Int × Int × Int × Int × Int × Int × List api_Range × Bool) → Option Int
  | 0, _, _, _, _ => none
  | k + 1, r3, t, t2, s => if t2 = true then (some s.2.1) else (if (decide (t = 3)) = true then (metrics_Table_Width.j1 k r3 true s) else (if (decide (t = 4)) = true then (metrics_Table_Width.j1 k r3 true s) else (if (decide (t = 5)) = true then (metrics_Table_Width.j1 k r3 true s) else (if (decide (t = 7)) = true then (metrics_Table_Width.j1 k r3 true s) else (metrics_Table_Width.j1 k r3 (decide (t = 8)) s)))))
def metrics_Table_Width.j1 : Nat → Int → Bool → (Int × Int × Int × Int × Int × Int × List api_Range × Bool) → Option Int
  | 0, _, _, _ => none
  | k + 1, r4, t3, s2 => if t3 = true then (some 0) else ((metrics_lookup.f k s2 (wrap64 (r4))).bind fun r5 => some r5)
end
def metrics_Table_Width.f (k : Nat) (a0 : List (Int × Int × Int × Int × Int × Int × List api_Range × Bool)) (a1 : Int) (a2 : Int) : Option Int := (metrics_Table_of.f k a0 a1).bind fun r => (runes_Kind.f k a2).bind fun r2 => if (decide (r2 = 1)) = true then (metrics_Table_Width.j0 k a2 r2 true r) else (metrics_Table_Width.j0 k a2 r2 (decide (r2 = 2)) r)
def metrics_Table_Width.sig (k : Nat) : Sig := .p [(false, y39), (false, (.i .i64)), (false, (.i .i32))] [.c false (.i .i64)] fun x => metrics_Table_Width.f k x.1 x.2.1 x.2.2.1
def metrics_Table_Width.E (k : Nat) : List (Nat × Sig) := [(29, runes_Kind.sig k), (84, metrics_Table_of.sig k), (86, metrics_lookup.sig k)]
def metrics_Table_Width.G (P : Program) : GI := ⟨P, TT, 28, 36, [(7, 28, 8)], [], [], [], [], AD⟩
def metrics_Table_Width.H : H := .s .n (.s .n (.s (.s .n (.s (.j 0 .n (.s .n (.j 1 .n .n))) .n)) .n))
abbrev metrics_Table_Width.j0_s : Sh := [(2, .v (.i .i32)), (7, .at_ 28), (12, .v (.i .i64)), (13, .v .b), (28, .box y37)]
abbrev metrics_Table_Width.j1_s : Sh := [(2, .v (.i .i32)), (7, .at_ 28), (18, .v .b), (28, .box y37)]
def metrics_Table_Width.O (k : Nat) : List (Orc (denR [.c false (.i .i64)])) := [⟨metrics_Table_Width.j0_s, fun y => metrics_Table_Width.j0 k y.1 y.2.2.1 y.2.2.2.1 y.2.2.2.2.1⟩, ⟨metrics_Table_Width.j1_s, fun y => metrics_Table_Width.j1 k y.1 y.2.2.1 y.2.2.2.1⟩]
theorem metrics_Table_Width.j1_e (k : Nat) (y : denS metrics_Table_Width.j1_s) : metrics_Table_Width.j1 (k + 1) y.1 y.2.2.1 y.2.2.2.1 = evP ((metrics_Table_Width.G Try.prog).at (metrics_Table_Width.E k)) (fun i => (metrics_Table_Width.O k)[i]?) [1, 1, 0, 1, 0, 1, 1, 1] (cd Try.f67) metrics_Table_Width.H (kFin ((metrics_Table_Width.G Try.prog).at (metrics_Table_Width.E k)) [.tmp 6] [.c false (.i .i64)]) (unS metrics_Table_Width.j1_s y) := by rw [metrics_Table_Width.j1]; kernel_rfl
theorem metrics_Table_Width.j0_e (k : Nat) (y : denS metrics_Table_Width.j0_s) : metrics_Table_Width.j0 (k + 1) y.1 y.2.2.1 y.2.2.2.1 y.2.2.2.2.1 = evP ((metrics_Table_Width.G Try.prog).at (metrics_Table_Width.E k)) (fun i => (metrics_Table_Width.O k)[i]?) [1, 1, 0, 1, 0, 1] (cd Try.f67) metrics_Table_Width.H (kFin ((metrics_Table_Width.G Try.prog).at (metrics_Table_Width.E k)) [.tmp 6] [.c false (.i .i64)]) (unS metrics_Table_Width.j0_s y) := by rw [metrics_Table_Width.j0]; kernel_rfl
theorem metrics_Table_Width.go : goesTo Try.prog 67 := ⟨_, Try.func67, by kernel_rfl, rfl⟩
theorem metrics_Table_Width.ok (k : Nat) : SigOk Try.prog 67 (metrics_Table_Width.sig k) :=
  fn_p (G := metrics_Table_Width.G Try.prog) (c := cd Try.f67) (rs := [.tmp 6]) (args := [(false, y39), (false, (.i .i64)), (false, (.i .i32))]) (l := [.c false (.i .i64)]) (fn := Try.f67) ⟨Try.func67, by kernel_rfl, by kernel_rfl, by kernel_rfl, le_of rfl, le_of rfl, TT_ok, AD_ok⟩ rfl metrics_Table_Width.E (fun k p hp => by
    simp only [metrics_Table_Width.E, List.mem_cons, List.not_mem_nil, or_false] at hp
    rcases hp with rfl | rfl | rfl
    · exact ⟨runes_Kind.ok k, runes_Kind.go⟩
    · exact ⟨metrics_Table_of.ok k, metrics_Table_of.go⟩
    · exact ⟨metrics_lookup.ok k, metrics_lookup.go⟩)
    (fun k i => (metrics_Table_Width.O k)[i]?) metrics_Table_Width.H (fun k x => metrics_Table_Width.f k x.1 x.2.1 x.2.2.1)
    (fun id o y h => by
    have h' := List.mem_of_getElem? h
    simp only [metrics_Table_Width.O, List.mem_cons, List.not_mem_nil, or_false] at h'
    rcases h' with rfl | rfl <;> rfl)
    (fun k p hp => by
    rw [show pts (cd Try.f67) metrics_Table_Width.H = [(1, [1, 1, 0, 1, 0, 1, 1, 1]), (0, [1, 1, 0, 1, 0, 1])] by kernel_rfl] at hp
    simp only [List.mem_cons, List.not_mem_nil, or_false] at hp
    rcases hp with rfl | rfl
    · exact ptOk_of rfl (metrics_Table_Width.j1_e k)
    · exact ptOk_of rfl (metrics_Table_Width.j0_e k))
    (fun k x => by kernel_rfl) k
/-! (*reglet/items.builder).rune -/
def items_builder_rune.f (k : Nat) (a0 : (List (Int × Int × Int × Int × Int × Int × List api_Range × Bool)) × List api_Item × Int × Bool) (a1 : Int) (a2 : Int) (a3 : Int) (a4 : Int) : Option (((List (Int × Int × Int × Int × Int × Int × List api_Range × Bool)) × List api_Item × Int × Bool)) := (runes_Kind.f k a1).bind fun r => if (decide (r = 1)) = true then ((metrics_Table_Space.f k a0.1 a2).bind fun r2 => (items_builder_put.f k a0 (2, r2.1, r2.2.1, r2.2.2, (false), 0, (false), a3, a4)).bind fun r3 => some r3) else (if (decide (r = 3)) = true then ((metrics_Table_Hyphen.f k a0.1 a2).bind fun r4 => (items_builder_put.f k a0 (3, r4, 0, 0, (false), 50, (true), a3, a4)).bind fun r5 => some r5) else (if (decide (r = 4)) = true then ((items_builder_put.f k a0 (3, 0, 0, 0, (false), 0, (false), a3, a4)).bind fun r6 => some r6) else (if (decide (r = 5)) = true then ((items_builder_put.f k a0 (3, 0, 0, 0, (false), 10000, (false), a3, a4)).bind fun r7 => some r7) else (if (decide (r = 7)) = true then ((items_builder_end.f k a0 a3 a4).bind fun r8 => some r8) else (if (decide (r = 6)) = true then ((metrics_Table_Width.f k a0.1 a2 a1).bind fun r9 => (items_builder_box.f k a0 r9 a2 a3 a4).bind fun r10 => (items_builder_put.f k r10 (3, 0, 0, 0, (false), 50, (true), a4, a4)).bind fun r11 => some r11) else ((metrics_Table_Width.f k a0.1 a2 a1).bind fun r12 => (items_builder_box.f k a0 r12 a2 a3 a4).bind fun r13 => some r13))))))
def items_builder_rune.sig (k : Nat) : Sig := .l y43 [(false, (.i .i32)), (false, (.i .i64)), (false, (.i .i64)), (false, (.i .i64))] [] fun b x => items_builder_rune.f k b x.1 x.2.1 x.2.2.1 x.2.2.2.1
def items_builder_rune.E (k : Nat) : List (Nat × Sig) := [(29, runes_Kind.sig k), (38, items_builder_end.sig k), (63, items_builder_put.sig k), (64, metrics_Table_Space.sig k), (65, metrics_Table_Hyphen.sig k), (66, items_builder_box.sig k), (67, metrics_Table_Width.sig k)]
def items_builder_rune.G (P : Program) : GI := ⟨P, TT, 99, 103, [(0, 99, 4)], [0], [], [], [], AD⟩
def items_builder_rune.H : H := .n
def items_builder_rune.O (k : Nat) : List (Orc (denR ([] ++ [.c true y43]))) := []
theorem items_builder_rune.go : goesTo Try.prog 39 := ⟨_, Try.func39, by kernel_rfl, rfl⟩
theorem items_builder_rune.ok (k : Nat) : SigOk Try.prog 39 (items_builder_rune.sig k) :=
  fn_l (G := items_builder_rune.G Try.prog) (c := cd Try.f39) (rs := []) (args := [(false, (.i .i32)), (false, (.i .i64)), (false, (.i .i64)), (false, (.i .i64))]) (l := []) (fn := Try.f39) ⟨Try.func39, by kernel_rfl, by kernel_rfl, by kernel_rfl, le_of rfl, le_of rfl, TT_ok, AD_ok⟩ rfl items_builder_rune.E (fun k p hp => by
    simp only [items_builder_rune.E, List.mem_cons, List.not_mem_nil, or_false] at hp
    rcases hp with rfl | rfl | rfl | rfl | rfl | rfl | rfl
    · exact ⟨runes_Kind.ok k, runes_Kind.go⟩
    · exact ⟨items_builder_end.ok k, items_builder_end.go⟩
    · exact ⟨items_builder_put.ok k, items_builder_put.go⟩
    · exact ⟨metrics_Table_Space.ok k, metrics_Table_Space.go⟩
    · exact ⟨metrics_Table_Hyphen.ok k, metrics_Table_Hyphen.go⟩
    · exact ⟨items_builder_box.ok k, items_builder_box.go⟩
    · exact ⟨metrics_Table_Width.ok k, metrics_Table_Width.go⟩)
    (fun k i => (items_builder_rune.O k)[i]?) items_builder_rune.H (fun k b x => items_builder_rune.f k b x.1 x.2.1 x.2.2.1 x.2.2.2.1)
    (fun id o y h => by cases id <;> cases h)
    (fun k p hp => by rw [show pts (cd Try.f39) items_builder_rune.H = [] by kernel_rfl] at hp; nomatch hp)
    (fun k b x => by kernel_rfl) k
/-! reglet/items.Build -/
mutual
def items_Build.l0 : Nat → ByteArray → (List api_Run) → Int → Int → Int → (ByteArray × Nat) → ((List (Int × Int × Int × Int × Int × Int × List api_Range × Bool)) × List api_Item × Int × Bool) → Option (List api_Item × Int)
  | 0, _, _, _, _, _, _, _ => none
  | k + 1, t, t2, t3, t4, t5, t6, t7 => if t6.2 < t6.1.size then (items_Build.l1 k t t2 t4 t5 (t6.2 : Int) ((Utf8.decode t6.1 t6.2).1 : Int) (t6.1, (t6.2 + (Utf8.decode t6.1 t6.2).2)) t7) else ((items_builder_end.f k t7 t3 t3).bind fun r2 => some (r2.2.1, 0))
def items_Build.l1 : Nat → ByteArray → (List api_Run) → Int → Int → Int → Int → (ByteArray × Nat) → ((List (Int × Int × Int × Int × Int × Int × List api_Range × Bool)) × List api_Item × Int × Bool) → Option (List api_Item × Int)
  | 0, _, _, _, _, _, _, _, _ => none
  | k + 1, t8, t9, t10, t11, t12, t13, t14, t15 => if (decide (t11 = 0)) = true then ((at? t9 (wrap64 (t10 + 1))).bind fun e => items_Build.l1 k t8 t9 (wrap64 (t10 + 1)) e.1 t12 t13 (t14.1, t14.2) t15) else ((sSub t8 t12 (t8.size : Int)).bind fun v => (runes_First.f k v).bind fun r3 => if (decide (0 < r3.2)) = true then (items_Build.j2 k t8 t9 t10 t11 t12 t13 (wrap64 (t12 + r3.2)) (t14.1, t14.2) t15) else (items_Build.j2 k t8 t9 t10 t11 t12 t13 (t8.size : Int) (t14.1, t14.2) t15))
def items_Build.j2 : Nat → ByteArray → (List api_Run) → Int → Int → Int → Int → Int → (ByteArray × Nat) → ((List (Int × Int × Int × Int × Int × Int × List api_Range × Bool)) × List api_Item × Int × Bool) → Option (List api_Item × Int)
  | 0, _, _, _, _, _, _, _, _, _ => none
  | k + 1, t16, t17, t18, t19, t20, t21, t22, t23, t24 => (runes_Kind.f k t21).bind fun r4 => if (decide (r4 = 8)) = true then ((items_builder_end.f k t24 t20 t22).bind fun r5 => some (r5.2.1, 0)) else ((at? t17 t18).bind fun e2 => (items_builder_rune.f k t24 t21 e2.2 t20 t22).bind fun r6 => items_Build.l0 k t16 t17 t22 t18 (wrap64 (t19 - (wrap64 (t22 - t20)))) (t23.1, t23.2) r6)
end
def items_Build.f (k : Nat) (a0 : List (Int × Int × Int × Int × Int × Int × List api_Range × Bool)) (a1 : ByteArray) (a2 : List api_Run) : Option (List api_Item × Int) := (items_Check.f k a0 a1 a2).bind fun r => if (!decide (r = 0)) = true then (some (([] : List api_Item), r)) else (items_Build.l0 k a1 a2 0 (-1) 0 (a1, 0) (a0, ([] : List api_Item), 0, (false)))
def items_Build.sig (k : Nat) : Sig := .p [(false, y39), (false, .s), (false, y22)] [.c false y40, .c false (.i .i64)] fun x => items_Build.f k x.1 x.2.1 x.2.2.1
def items_Build.E (k : Nat) : List (Nat × Sig) := [(29, runes_Kind.sig k), (36, items_Check.sig k), (37, runes_First.sig k), (38, items_builder_end.sig k), (39, items_builder_rune.sig k)]
def items_Build.G (P : Program) : GI := ⟨P, TT, 92, 96, [(27, 92, 4)], [], [6], [], [], AD⟩
def items_Build.H : H := .s .n (.s .n (.s .n (.s .n (.s (.s .n (.s (.l 0 (.s .n (.s .n (.s (.s .n (.s (.s (.l 1 .n) .n) (.s .n (.j 2 .n .n)))) .n)))) .n)) .n))))
abbrev items_Build.l0_s : Sh := [(1, .v .s), (2, .v y22), (9, .at_ 92), (10, .v (.i .i64)), (11, .v (.i .i64)), (12, .v (.i .i64)), (29, .it), (92, .box y43)]
abbrev items_Build.l1_s : Sh := [(1, .v .s), (2, .v y22), (9, .at_ 92), (11, .v (.i .i64)), (12, .v (.i .i64)), (13, .v (.i .i64)), (14, .v (.i .i32)), (29, .it), (92, .box y43)]
abbrev items_Build.j2_s : Sh := [(1, .v .s), (2, .v y22), (9, .at_ 92), (11, .v (.i .i64)), (12, .v (.i .i64)), (13, .v (.i .i64)), (14, .v (.i .i32)), (15, .v (.i .i64)), (29, .it), (92, .box y43)]
def items_Build.O (k : Nat) : List (Orc (denR [.c false y40, .c false (.i .i64)])) := [⟨items_Build.l0_s, fun y => items_Build.l0 k y.1 y.2.1 y.2.2.2.1 y.2.2.2.2.1 y.2.2.2.2.2.1 y.2.2.2.2.2.2.1 y.2.2.2.2.2.2.2.1⟩, ⟨items_Build.l1_s, fun y => items_Build.l1 k y.1 y.2.1 y.2.2.2.1 y.2.2.2.2.1 y.2.2.2.2.2.1 y.2.2.2.2.2.2.1 y.2.2.2.2.2.2.2.1 y.2.2.2.2.2.2.2.2.1⟩, ⟨items_Build.j2_s, fun y => items_Build.j2 k y.1 y.2.1 y.2.2.2.1 y.2.2.2.2.1 y.2.2.2.2.2.1 y.2.2.2.2.2.2.1 y.2.2.2.2.2.2.2.1 y.2.2.2.2.2.2.2.2.1 y.2.2.2.2.2.2.2.2.2.1⟩]
theorem items_Build.l1_e (k : Nat) (y : denS items_Build.l1_s) : items_Build.l1 (k + 1) y.1 y.2.1 y.2.2.2.1 y.2.2.2.2.1 y.2.2.2.2.2.1 y.2.2.2.2.2.2.1 y.2.2.2.2.2.2.2.1 y.2.2.2.2.2.2.2.2.1 = evP ((items_Build.G Try.prog).at (items_Build.E k)) (fun i => (items_Build.O k)[i]?) [1, 1, 1, 1, 0, 1, 0, 0, 1, 1, 0, 1, 0, 0, 0] (cd Try.f23) items_Build.H (kFin ((items_Build.G Try.prog).at (items_Build.E k)) [.tmp 6, .tmp 7] [.c false y40, .c false (.i .i64)]) (unS items_Build.l1_s y) := by rw [items_Build.l1]; kernel_rfl
theorem items_Build.j2_e (k : Nat) (y : denS items_Build.j2_s) : items_Build.j2 (k + 1) y.1 y.2.1 y.2.2.2.1 y.2.2.2.2.1 y.2.2.2.2.2.1 y.2.2.2.2.2.2.1 y.2.2.2.2.2.2.2.1 y.2.2.2.2.2.2.2.2.1 y.2.2.2.2.2.2.2.2.2.1 = evP ((items_Build.G Try.prog).at (items_Build.E k)) (fun i => (items_Build.O k)[i]?) [1, 1, 1, 1, 0, 1, 0, 0, 1, 1, 0, 1, 1, 1, 1] (cd Try.f23) items_Build.H (kFin ((items_Build.G Try.prog).at (items_Build.E k)) [.tmp 6, .tmp 7] [.c false y40, .c false (.i .i64)]) (unS items_Build.j2_s y) := by rw [items_Build.j2]; kernel_rfl
theorem items_Build.l0_e (k : Nat) (y : denS items_Build.l0_s) : items_Build.l0 (k + 1) y.1 y.2.1 y.2.2.2.1 y.2.2.2.2.1 y.2.2.2.2.2.1 y.2.2.2.2.2.2.1 y.2.2.2.2.2.2.2.1 = evP ((items_Build.G Try.prog).at (items_Build.E k)) (fun i => (items_Build.O k)[i]?) [1, 1, 1, 1, 0, 1, 0, 0] (cd Try.f23) items_Build.H (kFin ((items_Build.G Try.prog).at (items_Build.E k)) [.tmp 6, .tmp 7] [.c false y40, .c false (.i .i64)]) (unS items_Build.l0_s y) := by rw [items_Build.l0]; kernel_rfl
theorem items_Build.go : goesTo Try.prog 23 := ⟨_, Try.func23, by kernel_rfl, rfl⟩
theorem items_Build.ok (k : Nat) : SigOk Try.prog 23 (items_Build.sig k) :=
  fn_p (G := items_Build.G Try.prog) (c := cd Try.f23) (rs := [.tmp 6, .tmp 7]) (args := [(false, y39), (false, .s), (false, y22)]) (l := [.c false y40, .c false (.i .i64)]) (fn := Try.f23) ⟨Try.func23, by kernel_rfl, by kernel_rfl, by kernel_rfl, le_of rfl, le_of rfl, TT_ok, AD_ok⟩ rfl items_Build.E (fun k p hp => by
    simp only [items_Build.E, List.mem_cons, List.not_mem_nil, or_false] at hp
    rcases hp with rfl | rfl | rfl | rfl | rfl
    · exact ⟨runes_Kind.ok k, runes_Kind.go⟩
    · exact ⟨items_Check.ok k, items_Check.go⟩
    · exact ⟨runes_First.ok k, runes_First.go⟩
    · exact ⟨items_builder_end.ok k, items_builder_end.go⟩
    · exact ⟨items_builder_rune.ok k, items_builder_rune.go⟩)
    (fun k i => (items_Build.O k)[i]?) items_Build.H (fun k x => items_Build.f k x.1 x.2.1 x.2.2.1)
    (fun id o y h => by
    have h' := List.mem_of_getElem? h
    simp only [items_Build.O, List.mem_cons, List.not_mem_nil, or_false] at h'
    rcases h' with rfl | rfl | rfl <;> rfl)
    (fun k p hp => by
    rw [show pts (cd Try.f23) items_Build.H = [(1, [1, 1, 1, 1, 0, 1, 0, 0, 1, 1, 0, 1, 0, 0, 0]), (2, [1, 1, 1, 1, 0, 1, 0, 0, 1, 1, 0, 1, 1, 1, 1]), (0, [1, 1, 1, 1, 0, 1, 0, 0])] by kernel_rfl] at hp
    simp only [List.mem_cons, List.not_mem_nil, or_false] at hp
    rcases hp with rfl | rfl | rfl
    · exact ptOk_of rfl (items_Build.l1_e k)
    · exact ptOk_of rfl (items_Build.j2_e k)
    · exact ptOk_of rfl (items_Build.l0_e k))
    (fun k x => by kernel_rfl) k
/-! reglet/measure.Check -/
mutual
def measure_Check.l0 : Nat → (List Int) → Int → Int → api_Settings → Option Int
  | 0, _, _, _, _ => none
  | k + 1, t, t2, t3, s => if (decide (t3 < t2)) = true then (if 0 ≤ t3 ∧ t3 < (t.length : Int) then ((t[t3.toNat]?).bind fun e => if (decide (e < 0)) = true then (some 80) else (if (decide (10000 < e)) = true then (some 80) else (measure_Check.l0 k t t2 (wrap64 (t3 + 1)) s))) else none) else (measure_Check.l1 k ([s.2.2.1, s.2.2.2.1, s.2.2.2.2.1] : List Int) (([s.2.2.1, s.2.2.2.1, s.2.2.2.2.1] : List Int).length : Int) 0 s)
def measure_Check.l1 : Nat → (List Int) → Int → Int → api_Settings → Option Int
  | 0, _, _, _, _ => none
  | k + 1, t4, t5, t6, s2 => if (decide (t6 < t5)) = true then (if 0 ≤ t6 ∧ t6 < (t4.length : Int) then ((t4[t6.toNat]?).bind fun e2 => if (decide (e2 < 0)) = true then (some 80) else (if (decide (1048576 < e2)) = true then (some 80) else (measure_Check.l1 k t4 t5 (wrap64 (t6 + 1)) s2))) else none) else (measure_Check.l2 k ([s2.2.2.2.2.2.1, s2.2.2.2.2.2.2] : List Int) (([s2.2.2.2.2.2.1, s2.2.2.2.2.2.2] : List Int).length : Int) 0)
def measure_Check.l2 : Nat → (List Int) → Int → Int → Option Int
  | 0, _, _, _ => none
  | k + 1, t7, t8, t9 => if (decide (t9 < t8)) = true then (if 0 ≤ t9 ∧ t9 < (t7.length : Int) then ((t7[t9.toNat]?).bind fun e3 => if (decide (e3 < 1)) = true then (some 80) else (if (decide (100 < e3)) = true then (some 80) else (measure_Check.l2 k t7 t8 (wrap64 (t9 + 1))))) else none) else (some 0)
end
def measure_Check.f (k : Nat) (a0 : api_Settings) : Option Int := measure_Check.l0 k ([a0.1, a0.2.1] : List Int) (([a0.1, a0.2.1] : List Int).length : Int) 0 a0
def measure_Check.sig (k : Nat) : Sig := .p [(true, y48)] [.c false (.i .i64)] fun x => measure_Check.f k x.1
def measure_Check.E (k : Nat) : List (Nat × Sig) := []
def measure_Check.G (P : Program) : GI := ⟨P, TT, 62, 69, [(1, 62, 7)], [], [], [], [], AD⟩
def measure_Check.H : H := .s .n (.s (.s .n (.s (.l 0 .n) .n)) (.s (.s .n (.s (.l 1 .n) .n)) (.s (.s .n (.s (.l 2 .n) .n)) .n)))
abbrev measure_Check.l0_s : Sh := [(1, .at_ 62), (13, .v y10), (14, .v (.i .i64)), (15, .v (.i .i64)), (62, .box y48)]
abbrev measure_Check.l1_s : Sh := [(1, .at_ 62), (32, .v y10), (33, .v (.i .i64)), (34, .v (.i .i64)), (62, .box y48)]
abbrev measure_Check.l2_s : Sh := [(49, .v y10), (50, .v (.i .i64)), (51, .v (.i .i64))]
def measure_Check.O (k : Nat) : List (Orc (denR [.c false (.i .i64)])) := [⟨measure_Check.l0_s, fun y => measure_Check.l0 k y.2.1 y.2.2.1 y.2.2.2.1 y.2.2.2.2.1⟩, ⟨measure_Check.l1_s, fun y => measure_Check.l1 k y.2.1 y.2.2.1 y.2.2.2.1 y.2.2.2.2.1⟩, ⟨measure_Check.l2_s, fun y => measure_Check.l2 k y.1 y.2.1 y.2.2.1⟩]
theorem measure_Check.l0_e (k : Nat) (y : denS measure_Check.l0_s) : measure_Check.l0 (k + 1) y.2.1 y.2.2.1 y.2.2.2.1 y.2.2.2.2.1 = evP ((measure_Check.G Try.prog).at (measure_Check.E k)) (fun i => (measure_Check.O k)[i]?) [1, 0, 1, 0, 0] (cd Try.f40) measure_Check.H (kFin ((measure_Check.G Try.prog).at (measure_Check.E k)) [.tmp 2] [.c false (.i .i64)]) (unS measure_Check.l0_s y) := by rw [measure_Check.l0]; kernel_rfl
theorem measure_Check.l1_e (k : Nat) (y : denS measure_Check.l1_s) : measure_Check.l1 (k + 1) y.2.1 y.2.2.1 y.2.2.2.1 y.2.2.2.2.1 = evP ((measure_Check.G Try.prog).at (measure_Check.E k)) (fun i => (measure_Check.O k)[i]?) [1, 1, 0, 1, 0, 0] (cd Try.f40) measure_Check.H (kFin ((measure_Check.G Try.prog).at (measure_Check.E k)) [.tmp 2] [.c false (.i .i64)]) (unS measure_Check.l1_s y) := by rw [measure_Check.l1]; kernel_rfl
theorem measure_Check.l2_e (k : Nat) (y : denS measure_Check.l2_s) : measure_Check.l2 (k + 1) y.1 y.2.1 y.2.2.1 = evP ((measure_Check.G Try.prog).at (measure_Check.E k)) (fun i => (measure_Check.O k)[i]?) [1, 1, 1, 0, 1, 0, 0] (cd Try.f40) measure_Check.H (kFin ((measure_Check.G Try.prog).at (measure_Check.E k)) [.tmp 2] [.c false (.i .i64)]) (unS measure_Check.l2_s y) := by rw [measure_Check.l2]; kernel_rfl
theorem measure_Check.go : goesTo Try.prog 40 := ⟨_, Try.func40, by kernel_rfl, rfl⟩
theorem measure_Check.ok (k : Nat) : SigOk Try.prog 40 (measure_Check.sig k) :=
  fn_p (G := measure_Check.G Try.prog) (c := cd Try.f40) (rs := [.tmp 2]) (args := [(true, y48)]) (l := [.c false (.i .i64)]) (fn := Try.f40) ⟨Try.func40, by kernel_rfl, by kernel_rfl, by kernel_rfl, le_of rfl, le_of rfl, TT_ok, AD_ok⟩ rfl measure_Check.E (fun k p hp => nomatch hp)
    (fun k i => (measure_Check.O k)[i]?) measure_Check.H (fun k x => measure_Check.f k x.1)
    (fun id o y h => by
    have h' := List.mem_of_getElem? h
    simp only [measure_Check.O, List.mem_cons, List.not_mem_nil, or_false] at h'
    rcases h' with rfl | rfl | rfl <;> rfl)
    (fun k p hp => by
    rw [show pts (cd Try.f40) measure_Check.H = [(0, [1, 0, 1, 0, 0]), (1, [1, 1, 0, 1, 0, 0]), (2, [1, 1, 1, 0, 1, 0, 0])] by kernel_rfl] at hp
    simp only [List.mem_cons, List.not_mem_nil, or_false] at hp
    rcases hp with rfl | rfl | rfl
    · exact ptOk_of rfl (measure_Check.l0_e k)
    · exact ptOk_of rfl (measure_Check.l1_e k)
    · exact ptOk_of rfl (measure_Check.l2_e k))
    (fun k x => by kernel_rfl) k
/-! reglet/breaks.Check -/
mutual
def breaks_Check.j0 : Nat → api_Settings → Option Int
  | 0, _ => none
  | k + 1, set_ => (measure_Check.f k set_).bind fun r => some r
end
def breaks_Check.f (k : Nat) (a0 : Int) (a1 : api_Settings) : Option Int := if (decide (a0 < 1)) = true then (some 41) else (if (decide (1073741824 < a0)) = true then (some 41) else (breaks_Check.j0 k a1))
def breaks_Check.sig (k : Nat) : Sig := .p [(false, (.i .i64)), (true, y48)] [.c false (.i .i64)] fun x => breaks_Check.f k x.1 x.2.1
def breaks_Check.E (k : Nat) : List (Nat × Sig) := [(40, measure_Check.sig k)]
def breaks_Check.G (P : Program) : GI := ⟨P, TT, 13, 20, [(3, 13, 7)], [], [], [], [], AD⟩
def breaks_Check.H : H := .s .n (.j 0 .n .n)
abbrev breaks_Check.j0_s : Sh := [(3, .at_ 13), (13, .box y48)]
def breaks_Check.O (k : Nat) : List (Orc (denR [.c false (.i .i64)])) := [⟨breaks_Check.j0_s, fun y => breaks_Check.j0 k y.2.1⟩]
theorem breaks_Check.j0_e (k : Nat) (y : denS breaks_Check.j0_s) : breaks_Check.j0 (k + 1) y.2.1 = evP ((breaks_Check.G Try.prog).at (breaks_Check.E k)) (fun i => (breaks_Check.O k)[i]?) [1, 1] (cd Try.f24) breaks_Check.H (kFin ((breaks_Check.G Try.prog).at (breaks_Check.E k)) [.tmp 4] [.c false (.i .i64)]) (unS breaks_Check.j0_s y) := by rw [breaks_Check.j0]; kernel_rfl
theorem breaks_Check.go : goesTo Try.prog 24 := ⟨_, Try.func24, by kernel_rfl, rfl⟩
theorem breaks_Check.ok (k : Nat) : SigOk Try.prog 24 (breaks_Check.sig k) :=
  fn_p (G := breaks_Check.G Try.prog) (c := cd Try.f24) (rs := [.tmp 4]) (args := [(false, (.i .i64)), (true, y48)]) (l := [.c false (.i .i64)]) (fn := Try.f24) ⟨Try.func24, by kernel_rfl, by kernel_rfl, by kernel_rfl, le_of rfl, le_of rfl, TT_ok, AD_ok⟩ rfl breaks_Check.E (fun k p hp => by
    simp only [breaks_Check.E, List.mem_cons, List.not_mem_nil, or_false] at hp
    rcases hp with rfl
    · exact ⟨measure_Check.ok k, measure_Check.go⟩)
    (fun k i => (breaks_Check.O k)[i]?) breaks_Check.H (fun k x => breaks_Check.f k x.1 x.2.1)
    (fun id o y h => by
    have h' := List.mem_of_getElem? h
    simp only [breaks_Check.O, List.mem_cons, List.not_mem_nil, or_false] at h'
    rcases h' with rfl <;> rfl)
    (fun k p hp => by
    rw [show pts (cd Try.f24) breaks_Check.H = [(0, [1, 1])] by kernel_rfl] at hp
    simp only [List.mem_cons, List.not_mem_nil, or_false] at hp
    rcases hp with rfl
    · exact ptOk_of rfl (breaks_Check.j0_e k))
    (fun k x => by kernel_rfl) k
/-! reglet/items.Forced -/
def items_Forced.f (k : Nat) (a0 : api_Item) : Option Bool := if (decide (a0.1 = 3)) = true then (some (decide (a0.2.2.2.2.2.1 ≤ (-10000)))) else (some false)
def items_Forced.sig (k : Nat) : Sig := .p [(true, y29)] [.c false .b] fun x => items_Forced.f k x.1
def items_Forced.E (k : Nat) : List (Nat × Sig) := []
def items_Forced.G (P : Program) : GI := ⟨P, TT, 11, 20, [(1, 11, 9)], [], [], [], [], AD⟩
def items_Forced.H : H := .n
def items_Forced.O (k : Nat) : List (Orc (denR [.c false .b])) := []
theorem items_Forced.go : goesTo Try.prog 43 := ⟨_, Try.func43, by kernel_rfl, rfl⟩
theorem items_Forced.ok (k : Nat) : SigOk Try.prog 43 (items_Forced.sig k) :=
  fn_p (G := items_Forced.G Try.prog) (c := cd Try.f43) (rs := [.tmp 2]) (args := [(true, y29)]) (l := [.c false .b]) (fn := Try.f43) ⟨Try.func43, by kernel_rfl, by kernel_rfl, by kernel_rfl, le_of rfl, le_of rfl, TT_ok, AD_ok⟩ rfl items_Forced.E (fun k p hp => nomatch hp)
    (fun k i => (items_Forced.O k)[i]?) items_Forced.H (fun k x => items_Forced.f k x.1)
    (fun id o y h => by cases id <;> cases h)
    (fun k p hp => by rw [show pts (cd Try.f43) items_Forced.H = [] by kernel_rfl] at hp; nomatch hp)
    (fun k x => by kernel_rfl) k
/-! reglet/items.measure -/
def items_measure.f (k : Nat) (a0 : Int) : Option Bool := if (decide (0 ≤ a0)) = true then (some (decide (a0 ≤ 68719476736))) else (some false)
def items_measure.sig (k : Nat) : Sig := .p [(false, (.i .i64))] [.c false .b] fun x => items_measure.f k x.1
def items_measure.E (k : Nat) : List (Nat × Sig) := []
def items_measure.G (P : Program) : GI := ⟨P, TT, 9, 9, [], [], [], [], [], AD⟩
def items_measure.H : H := .n
def items_measure.O (k : Nat) : List (Orc (denR [.c false .b])) := []
theorem items_measure.go : goesTo Try.prog 87 := ⟨_, Try.func87, by kernel_rfl, rfl⟩
theorem items_measure.ok (k : Nat) : SigOk Try.prog 87 (items_measure.sig k) :=
  fn_p (G := items_measure.G Try.prog) (c := cd Try.f87) (rs := [.tmp 2]) (args := [(false, (.i .i64))]) (l := [.c false .b]) (fn := Try.f87) ⟨Try.func87, by kernel_rfl, by kernel_rfl, by kernel_rfl, le_of rfl, le_of rfl, TT_ok, AD_ok⟩ rfl items_measure.E (fun k p hp => nomatch hp)
    (fun k i => (items_measure.O k)[i]?) items_measure.H (fun k x => items_measure.f k x.1)
    (fun id o y h => by cases id <;> cases h)
    (fun k p hp => by rw [show pts (cd Try.f87) items_measure.H = [] by kernel_rfl] at hp; nomatch hp)
    (fun k x => by kernel_rfl) k
/-! reglet/items.fits -/
mutual
def items_fits.j0 : Nat → api_Item → Option Bool
  | 0, _ => none
  | k + 1, t => if (decide (t.1 = 1)) = true then (if (decide (t.2.2.1 = 0)) = true then (if (decide (t.2.2.2.1 = 0)) = true then (if (decide (t.2.2.2.2.2.1 = 0)) = true then (if (!t.2.2.2.2.1) = true then (some (!t.2.2.2.2.2.2.1)) else (some false)) else (some false)) else (some false)) else (some false)) else (if (decide (t.1 = 2)) = true then (if (decide (t.2.2.2.2.2.1 = 0)) = true then (if (!t.2.2.2.2.2.2.1) = true then (if (!t.2.2.2.2.1) = true then (some true) else (if (decide (t.2.1 = 0)) = true then (some (decide (t.2.2.1 = 0))) else (some false))) else (some false)) else (some false)) else (if (decide (t.1 = 3)) = true then (if (decide (t.2.2.1 = 0)) = true then (if (decide (t.2.2.2.1 = 0)) = true then (if (!t.2.2.2.2.1) = true then (if (decide ((-10000) ≤ t.2.2.2.2.2.1)) = true then (some (decide (t.2.2.2.2.2.1 ≤ 10000))) else (some false)) else (some false)) else (some false)) else (some false)) else (some false)))
end
def items_fits.f (k : Nat) (a0 : api_Item) : Option Bool := (items_measure.f k a0.2.1).bind fun r => if (!r) = true then (some false) else ((items_measure.f k a0.2.2.1).bind fun r2 => if (!r2) = true then (some false) else ((items_measure.f k a0.2.2.2.1).bind fun r3 => if (!r3) = true then (some false) else (if (decide (a0.2.1 < a0.2.2.2.1)) = true then (some false) else (items_fits.j0 k a0))))
def items_fits.sig (k : Nat) : Sig := .p [(true, y29)] [.c false .b] fun x => items_fits.f k x.1
def items_fits.E (k : Nat) : List (Nat × Sig) := [(87, items_measure.sig k)]
def items_fits.G (P : Program) : GI := ⟨P, TT, 103, 112, [(1, 103, 9)], [], [], [], [], AD⟩
def items_fits.H : H := .s .n (.j 0 .n .n)
abbrev items_fits.j0_s : Sh := [(1, .at_ 103), (103, .box y29)]
def items_fits.O (k : Nat) : List (Orc (denR [.c false .b])) := [⟨items_fits.j0_s, fun y => items_fits.j0 k y.2.1⟩]
theorem items_fits.j0_e (k : Nat) (y : denS items_fits.j0_s) : items_fits.j0 (k + 1) y.2.1 = evP ((items_fits.G Try.prog).at (items_fits.E k)) (fun i => (items_fits.O k)[i]?) [1, 1] (cd Try.f68) items_fits.H (kFin ((items_fits.G Try.prog).at (items_fits.E k)) [.tmp 2] [.c false .b]) (unS items_fits.j0_s y) := by rw [items_fits.j0]; kernel_rfl
theorem items_fits.go : goesTo Try.prog 68 := ⟨_, Try.func68, by kernel_rfl, rfl⟩
theorem items_fits.ok (k : Nat) : SigOk Try.prog 68 (items_fits.sig k) :=
  fn_p (G := items_fits.G Try.prog) (c := cd Try.f68) (rs := [.tmp 2]) (args := [(true, y29)]) (l := [.c false .b]) (fn := Try.f68) ⟨Try.func68, by kernel_rfl, by kernel_rfl, by kernel_rfl, le_of rfl, le_of rfl, TT_ok, AD_ok⟩ rfl items_fits.E (fun k p hp => by
    simp only [items_fits.E, List.mem_cons, List.not_mem_nil, or_false] at hp
    rcases hp with rfl
    · exact ⟨items_measure.ok k, items_measure.go⟩)
    (fun k i => (items_fits.O k)[i]?) items_fits.H (fun k x => items_fits.f k x.1)
    (fun id o y h => by
    have h' := List.mem_of_getElem? h
    simp only [items_fits.O, List.mem_cons, List.not_mem_nil, or_false] at h'
    rcases h' with rfl <;> rfl)
    (fun k p hp => by
    rw [show pts (cd Try.f68) items_fits.H = [(0, [1, 1])] by kernel_rfl] at hp
    simp only [List.mem_cons, List.not_mem_nil, or_false] at hp
    rcases hp with rfl
    · exact ptOk_of rfl (items_fits.j0_e k))
    (fun k x => by kernel_rfl) k
/-! reglet/items.Right -/
mutual
def items_Right.j0 : Nat → (List api_Item) → Option Int
  | 0, _ => none
  | k + 1, list => items_Right.l1 k 0 list (list.length : Int) 0
def items_Right.l1 : Nat → Int → (List api_Item) → Int → Int → Option Int
  | 0, _, _, _, _ => none
  | k + 1, at_, t, t2, t3 => if (decide (t3 < t2)) = true then ((at? t t3).bind fun e2 => if (!decide (e2.2.2.2.2.2.2.2.1 = at_)) = true then (some 70) else (if (decide (e2.2.2.2.2.2.2.2.2 < e2.2.2.2.2.2.2.2.1)) = true then (some 70) else (if (decide (65536 < e2.2.2.2.2.2.2.2.2)) = true then (some 70) else ((items_fits.f k e2).bind fun r2 => if (!r2) = true then (some 70) else (items_Right.j2 k t t2 t3 e2))))) else (some 0)
def items_Right.j2 : Nat → (List api_Item) → Int → Int → api_Item → Option Int
  | 0, _, _, _, _ => none
  | k + 1, t4, t5, t6, x => items_Right.l1 k x.2.2.2.2.2.2.2.2 t4 t5 (wrap64 (t6 + 1))
end
def items_Right.f (k : Nat) (a0 : List api_Item) : Option Int := if (decide ((a0.length : Int) = 0)) = true then (some 70) else (if (decide (262144 < (a0.length : Int))) = true then (some 70) else ((at? a0 (wrap64 ((a0.length : Int) - 1))).bind fun e => (items_Forced.f k e).bind fun r => if (!r) = true then (some 70) else (items_Right.j0 k a0)))
def items_Right.sig (k : Nat) : Sig := .p [(false, y49)] [.c false (.i .i64)] fun x => items_Right.f k x.1
def items_Right.E (k : Nat) : List (Nat × Sig) := [(43, items_Forced.sig k), (68, items_fits.sig k)]
def items_Right.G (P : Program) : GI := ⟨P, TT, 54, 63, [(5, 54, 9)], [], [], [], [], AD⟩
def items_Right.H : H := .s .n (.j 0 .n (.s .n (.s (.s .n (.s (.l 1 (.s .n (.s .n (.s (.s (.s .n (.j 2 .n .n)) .n) .n)))) .n)) .n)))
abbrev items_Right.j0_s : Sh := [(0, .v y49)]
abbrev items_Right.l1_s : Sh := [(3, .v (.i .i64)), (24, .v y49), (25, .v (.i .i64)), (26, .v (.i .i64))]
abbrev items_Right.j2_s : Sh := [(5, .at_ 54), (24, .v y49), (25, .v (.i .i64)), (26, .v (.i .i64)), (54, .box y29)]
def items_Right.O (k : Nat) : List (Orc (denR [.c false (.i .i64)])) := [⟨items_Right.j0_s, fun y => items_Right.j0 k y.1⟩, ⟨items_Right.l1_s, fun y => items_Right.l1 k y.1 y.2.1 y.2.2.1 y.2.2.2.1⟩, ⟨items_Right.j2_s, fun y => items_Right.j2 k y.2.1 y.2.2.1 y.2.2.2.1 y.2.2.2.2.1⟩]
theorem items_Right.j2_e (k : Nat) (y : denS items_Right.j2_s) : items_Right.j2 (k + 1) y.2.1 y.2.2.1 y.2.2.2.1 y.2.2.2.2.1 = evP ((items_Right.G Try.prog).at (items_Right.E k)) (fun i => (items_Right.O k)[i]?) [1, 1, 1, 0, 1, 0, 0, 1, 1, 0, 0, 1, 1] (cd Try.f41) items_Right.H (kFin ((items_Right.G Try.prog).at (items_Right.E k)) [.tmp 2] [.c false (.i .i64)]) (unS items_Right.j2_s y) := by rw [items_Right.j2]; kernel_rfl
theorem items_Right.l1_e (k : Nat) (y : denS items_Right.l1_s) : items_Right.l1 (k + 1) y.1 y.2.1 y.2.2.1 y.2.2.2.1 = evP ((items_Right.G Try.prog).at (items_Right.E k)) (fun i => (items_Right.O k)[i]?) [1, 1, 1, 0, 1, 0, 0] (cd Try.f41) items_Right.H (kFin ((items_Right.G Try.prog).at (items_Right.E k)) [.tmp 2] [.c false (.i .i64)]) (unS items_Right.l1_s y) := by rw [items_Right.l1]; kernel_rfl
theorem items_Right.j0_e (k : Nat) (y : denS items_Right.j0_s) : items_Right.j0 (k + 1) y.1 = evP ((items_Right.G Try.prog).at (items_Right.E k)) (fun i => (items_Right.O k)[i]?) [1, 1] (cd Try.f41) items_Right.H (kFin ((items_Right.G Try.prog).at (items_Right.E k)) [.tmp 2] [.c false (.i .i64)]) (unS items_Right.j0_s y) := by rw [items_Right.j0]; kernel_rfl
theorem items_Right.go : goesTo Try.prog 41 := ⟨_, Try.func41, by kernel_rfl, rfl⟩
theorem items_Right.ok (k : Nat) : SigOk Try.prog 41 (items_Right.sig k) :=
  fn_p (G := items_Right.G Try.prog) (c := cd Try.f41) (rs := [.tmp 2]) (args := [(false, y49)]) (l := [.c false (.i .i64)]) (fn := Try.f41) ⟨Try.func41, by kernel_rfl, by kernel_rfl, by kernel_rfl, le_of rfl, le_of rfl, TT_ok, AD_ok⟩ rfl items_Right.E (fun k p hp => by
    simp only [items_Right.E, List.mem_cons, List.not_mem_nil, or_false] at hp
    rcases hp with rfl | rfl
    · exact ⟨items_Forced.ok k, items_Forced.go⟩
    · exact ⟨items_fits.ok k, items_fits.go⟩)
    (fun k i => (items_Right.O k)[i]?) items_Right.H (fun k x => items_Right.f k x.1)
    (fun id o y h => by
    have h' := List.mem_of_getElem? h
    simp only [items_Right.O, List.mem_cons, List.not_mem_nil, or_false] at h'
    rcases h' with rfl | rfl | rfl <;> rfl)
    (fun k p hp => by
    rw [show pts (cd Try.f41) items_Right.H = [(2, [1, 1, 1, 0, 1, 0, 0, 1, 1, 0, 0, 1, 1]), (1, [1, 1, 1, 0, 1, 0, 0]), (0, [1, 1])] by kernel_rfl] at hp
    simp only [List.mem_cons, List.not_mem_nil, or_false] at hp
    rcases hp with rfl | rfl | rfl
    · exact ptOk_of rfl (items_Right.j2_e k)
    · exact ptOk_of rfl (items_Right.l1_e k)
    · exact ptOk_of rfl (items_Right.j0_e k))
    (fun k x => by kernel_rfl) k
/-! reglet/items.Legal -/
mutual
def items_Legal.j0 : Nat → (List api_Item) → Int → Option Bool
  | 0, _, _ => none
  | k + 1, list, k_ => (at? list k_).bind fun e => if (decide (e.1 = 3)) = true then (some (decide (e.2.2.2.2.2.1 < 10000))) else (if (decide (e.1 = 2)) = true then (if (!e.2.2.2.2.1) = true then (if (decide (0 < k_)) = true then ((at? list (wrap64 (k_ - 1))).bind fun e2 => some (decide (e2.1 = 1))) else (some false)) else (some false)) else (some false))
end
def items_Legal.f (k : Nat) (a0 : List api_Item) (a1 : Int) : Option Bool := if (decide (a1 < 0)) = true then (some false) else (if (decide ((a0.length : Int) ≤ a1)) = true then (some false) else (items_Legal.j0 k a0 a1))
def items_Legal.sig (k : Nat) : Sig := .p [(false, y49), (false, (.i .i64))] [.c false .b] fun x => items_Legal.f k x.1 x.2.1
def items_Legal.E (k : Nat) : List (Nat × Sig) := []
def items_Legal.G (P : Program) : GI := ⟨P, TT, 43, 52, [(5, 43, 9)], [], [], [], [], AD⟩
def items_Legal.H : H := .s .n (.j 0 .n .n)
abbrev items_Legal.j0_s : Sh := [(0, .v y49), (1, .v (.i .i64))]
def items_Legal.O (k : Nat) : List (Orc (denR [.c false .b])) := [⟨items_Legal.j0_s, fun y => items_Legal.j0 k y.1 y.2.1⟩]
theorem items_Legal.j0_e (k : Nat) (y : denS items_Legal.j0_s) : items_Legal.j0 (k + 1) y.1 y.2.1 = evP ((items_Legal.G Try.prog).at (items_Legal.E k)) (fun i => (items_Legal.O k)[i]?) [1, 1] (cd Try.f42) items_Legal.H (kFin ((items_Legal.G Try.prog).at (items_Legal.E k)) [.tmp 4] [.c false .b]) (unS items_Legal.j0_s y) := by rw [items_Legal.j0]; kernel_rfl
theorem items_Legal.go : goesTo Try.prog 42 := ⟨_, Try.func42, by kernel_rfl, rfl⟩
theorem items_Legal.ok (k : Nat) : SigOk Try.prog 42 (items_Legal.sig k) :=
  fn_p (G := items_Legal.G Try.prog) (c := cd Try.f42) (rs := [.tmp 4]) (args := [(false, y49), (false, (.i .i64))]) (l := [.c false .b]) (fn := Try.f42) ⟨Try.func42, by kernel_rfl, by kernel_rfl, by kernel_rfl, le_of rfl, le_of rfl, TT_ok, AD_ok⟩ rfl items_Legal.E (fun k p hp => nomatch hp)
    (fun k i => (items_Legal.O k)[i]?) items_Legal.H (fun k x => items_Legal.f k x.1 x.2.1)
    (fun id o y h => by
    have h' := List.mem_of_getElem? h
    simp only [items_Legal.O, List.mem_cons, List.not_mem_nil, or_false] at h'
    rcases h' with rfl <;> rfl)
    (fun k p hp => by
    rw [show pts (cd Try.f42) items_Legal.H = [(0, [1, 1])] by kernel_rfl] at hp
    simp only [List.mem_cons, List.not_mem_nil, or_false] at hp
    rcases hp with rfl
    · exact ptOk_of rfl (items_Legal.j0_e k))
    (fun k x => by kernel_rfl) k
/-! reglet/measure.New -/
mutual
def measure_New.l0 : Nat → (List api_Item) → Int → Int → Int → Int → (List api_Item) → Int → Int → (List api_Item × List Int × List Int × List Int × List Int × List Int × Int × List Int) → Option ((Option (List api_Item × List Int × List Int × List Int × List Int × List Int × Int × List Int)) × Int)
  | 0, _, _, _, _, _, _, _, _, _ => none
  | k + 1, t, t2, t3, t4, t5, t6, t7, t8, t9 => if (decide (t8 < t7)) = true then ((at? t6 t8).bind fun e => if (t9.2.1.length + ([t2] : List Int).length) * 8 ≤ 140737488355328 then (if (t9.2.2.1.length + ([t3] : List Int).length) * 8 ≤ 140737488355328 then (if (t9.2.2.2.1.length + ([t4] : List Int).length) * 8 ≤ 140737488355328 then (if (t9.2.2.2.2.1.length + ([t5] : List Int).length) * 8 ≤ 140737488355328 then (if (decide (e.1 = 3)) = true then (measure_New.j1 k t t2 t3 t4 t5 t8 t6 t7 t8 (t9.1, t9.2.1 ++ ([t2] : List Int), t9.2.2.1 ++ ([t3] : List Int), t9.2.2.2.1 ++ ([t4] : List Int), t9.2.2.2.2.1 ++ ([t5] : List Int), t9.2.2.2.2.2.1, (if t9.2.2.2.2.2.2.1 < e.2.1 then e.2.1 else t9.2.2.2.2.2.2.1), t9.2.2.2.2.2.2.2) e) else (measure_New.j1 k t (wrap64 (t2 + e.2.1)) (wrap64 (t3 + e.2.2.1)) (wrap64 (t4 + e.2.2.2.1)) t5 t8 t6 t7 t8 (t9.1, t9.2.1 ++ ([t2] : List Int), t9.2.2.1 ++ ([t3] : List Int), t9.2.2.2.1 ++ ([t4] : List Int), t9.2.2.2.2.1 ++ ([t5] : List Int), t9.2.2.2.2.2.1, t9.2.2.2.2.2.2.1, t9.2.2.2.2.2.2.2) e)) else none) else none) else none) else none) else (if (t9.2.1.length + ([t2] : List Int).length) * 8 ≤ 140737488355328 then (if (t9.2.2.1.length + ([t3] : List Int).length) * 8 ≤ 140737488355328 then (if (t9.2.2.2.1.length + ([t4] : List Int).length) * 8 ≤ 140737488355328 then (if (t9.2.2.2.2.1.length + ([t5] : List Int).length) * 8 ≤ 140737488355328 then (if (wrap64 ((t.length : Int) + 1)) = (wrap64 ((t.length : Int) + 1)) ∧ 0 ≤ (wrap64 ((t.length : Int) + 1)) ∧ (8 : Int) * (wrap64 ((t.length : Int) + 1)) ≤ 281474976710656 then (if 0 ≤ (t.length : Int) ∧ (t.length : Int) < ((List.replicate ((wrap64 ((t.length : Int) + 1)).toNat) 0 : List Int).length : Int) then (((List.replicate ((wrap64 ((t.length : Int) + 1)).toNat) 0 : List Int)[(t.length : Int).toNat]?).bind fun e2 => measure_New.l2 k t (wrap64 ((t.length : Int) - 1)) (t9.1, t9.2.1 ++ ([t2] : List Int), t9.2.2.1 ++ ([t3] : List Int), t9.2.2.2.1 ++ ([t4] : List Int), t9.2.2.2.2.1 ++ ([t5] : List Int), (List.replicate ((wrap64 ((t.length : Int) + 1)).toNat) 0 : List Int).set ((t.length : Int).toNat) (t.length : Int), t9.2.2.2.2.2.2.1, t9.2.2.2.2.2.2.2)) else none) else none) else none) else none) else none) else none)
def measure_New.j1 : Nat → (List api_Item) → Int → Int → Int → Int → Int → (List api_Item) → Int → Int → (List api_Item × List Int × List Int × List Int × List Int × List Int × Int × List Int) → api_Item → Option ((Option (List api_Item × List Int × List Int × List Int × List Int × List Int × Int × List Int)) × Int)
  | 0, _, _, _, _, _, _, _, _, _, _, _ => none
  | k + 1, t10, t11, t12, t13, t14, t15, t16, t17, t18, t19, t20 => if t20.2.2.2.2.1 = true then (measure_New.j3 k t10 t11 t12 t13 (wrap64 (t14 + 1)) t15 t16 t17 t18 t19) else (measure_New.j3 k t10 t11 t12 t13 t14 t15 t16 t17 t18 t19)
def measure_New.l2 : Nat → (List api_Item) → Int → (List api_Item × List Int × List Int × List Int × List Int × List Int × Int × List Int) → Option ((Option (List api_Item × List Int × List Int × List Int × List Int × List Int × Int × List Int)) × Int)
  | 0, _, _, _ => none
  | k + 1, t21, t22, t23 => if (decide (0 ≤ t22)) = true then (if 0 ≤ t22 ∧ t22 < (t23.2.2.2.2.2.1.length : Int) then ((t23.2.2.2.2.2.1[t22.toNat]?).bind fun e3 => (at? t21 t22).bind fun e4 => if (!decide (e4.1 = 1)) = true then ((items_Forced.f k e4).bind fun r2 => if (!r2) = true then (if (!e4.2.2.2.2.1) = true then (if 0 ≤ (wrap64 (t22 + 1)) ∧ (wrap64 (t22 + 1)) < ((t23.2.2.2.2.2.1.set t22.toNat t22).length : Int) then (((t23.2.2.2.2.2.1.set t22.toNat t22)[(wrap64 (t22 + 1)).toNat]?).bind fun e5 => if 0 ≤ t22 ∧ t22 < ((t23.2.2.2.2.2.1.set t22.toNat t22).length : Int) then (((t23.2.2.2.2.2.1.set t22.toNat t22)[t22.toNat]?).bind fun e6 => measure_New.j4 k t21 t22 (t23.1, t23.2.1, t23.2.2.1, t23.2.2.2.1, t23.2.2.2.2.1, (t23.2.2.2.2.2.1.set t22.toNat t22).set t22.toNat e5, t23.2.2.2.2.2.2.1, t23.2.2.2.2.2.2.2)) else none) else none) else (measure_New.j4 k t21 t22 (t23.1, t23.2.1, t23.2.2.1, t23.2.2.2.1, t23.2.2.2.2.1, t23.2.2.2.2.2.1.set t22.toNat t22, t23.2.2.2.2.2.2.1, t23.2.2.2.2.2.2.2))) else (measure_New.j4 k t21 t22 (t23.1, t23.2.1, t23.2.2.1, t23.2.2.2.1, t23.2.2.2.2.1, t23.2.2.2.2.2.1.set t22.toNat t22, t23.2.2.2.2.2.2.1, t23.2.2.2.2.2.2.2))) else (measure_New.j4 k t21 t22 (t23.1, t23.2.1, t23.2.2.1, t23.2.2.2.1, t23.2.2.2.2.1, t23.2.2.2.2.2.1.set t22.toNat t22, t23.2.2.2.2.2.2.1, t23.2.2.2.2.2.2.2))) else none) else (some (some t23, 0))
def measure_New.j3 : Nat → (List api_Item) → Int → Int → Int → Int → Int → (List api_Item) → Int → Int → (List api_Item × List Int × List Int × List Int × List Int × List Int × Int × List Int) → Option ((Option (List api_Item × List Int × List Int × List Int × List Int × List Int × Int × List Int)) × Int)
  | 0, _, _, _, _, _, _, _, _, _, _ => none
  | k + 1, t24, t25, t26, t27, t28, t29, t30, t31, t32, t33 => (items_Legal.f k t24 t29).bind fun r3 => if r3 = true then (if (t33.2.2.2.2.2.2.2.length + ([t29] : List Int).length) * 8 ≤ 140737488355328 then (measure_New.l0 k t24 t25 t26 t27 t28 t30 t31 (wrap64 (t32 + 1)) (t33.1, t33.2.1, t33.2.2.1, t33.2.2.2.1, t33.2.2.2.2.1, t33.2.2.2.2.2.1, t33.2.2.2.2.2.2.1, t33.2.2.2.2.2.2.2 ++ ([t29] : List Int))) else none) else (measure_New.l0 k t24 t25 t26 t27 t28 t30 t31 (wrap64 (t32 + 1)) t33)
def measure_New.j4 : Nat → (List api_Item) → Int → (List api_Item × List Int × List Int × List Int × List Int × List Int × Int × List Int) → Option ((Option (List api_Item × List Int × List Int × List Int × List Int × List Int × Int × List Int)) × Int)
  | 0, _, _, _ => none
  | k + 1, t34, t35, t36 => measure_New.l2 k t34 (wrap64 (t35 - 1)) t36
end
def measure_New.f (k : Nat) (a0 : List api_Item) : Option ((Option (List api_Item × List Int × List Int × List Int × List Int × List Int × Int × List Int)) × Int) := (items_Right.f k a0).bind fun r => if (!decide (r = 0)) = true then (some (none, r)) else (if (([] : List api_Item).length + a0.length) * 72 ≤ 140737488355328 then (measure_New.l0 k a0 0 0 0 0 a0 (a0.length : Int) 0 (([] : List api_Item) ++ a0, ([] : List Int), ([] : List Int), ([] : List Int), ([] : List Int), ([] : List Int), 0, ([] : List Int))) else none)
def measure_New.sig (k : Nat) : Sig := .p [(false, y49)] [.o y56, .c false (.i .i64)] fun x => measure_New.f k x.1
def measure_New.E (k : Nat) : List (Nat × Sig) := [(41, items_Right.sig k), (42, items_Legal.sig k), (43, items_Forced.sig k)]
def measure_New.G (P : Program) : GI := ⟨P, TT, 216, 242, [(23, 216, 8), (11, 224, 9), (13, 233, 9)], [], [], [], [], AD⟩
def measure_New.H : H := .s .n (.s .n (.s .n (.s .n (.s (.s .n (.s (.l 0 (.s .n (.s .n (.s (.s (.s .n (.s .n (.j 1 .n (.j 3 .n .n)))) .n) .n)))) .n)) (.s .n (.s .n (.s .n (.s (.s .n (.s (.l 2 (.s .n (.j 4 .n .n))) .n)) .n))))))))
abbrev measure_New.l0_s : Sh := [(0, .v y49), (5, .at_ 216), (6, .v (.i .i64)), (7, .v (.i .i64)), (8, .v (.i .i64)), (9, .v (.i .i64)), (24, .v y49), (25, .v (.i .i64)), (26, .v (.i .i64)), (216, .box y56)]
abbrev measure_New.j1_s : Sh := [(0, .v y49), (5, .at_ 216), (6, .v (.i .i64)), (7, .v (.i .i64)), (8, .v (.i .i64)), (9, .v (.i .i64)), (10, .v (.i .i64)), (11, .at_ 224), (24, .v y49), (25, .v (.i .i64)), (26, .v (.i .i64)), (216, .box y56), (224, .box y29)]
abbrev measure_New.l2_s : Sh := [(0, .v y49), (5, .at_ 216), (12, .v (.i .i64)), (216, .box y56)]
abbrev measure_New.j3_s : Sh := [(0, .v y49), (5, .at_ 216), (6, .v (.i .i64)), (7, .v (.i .i64)), (8, .v (.i .i64)), (9, .v (.i .i64)), (10, .v (.i .i64)), (24, .v y49), (25, .v (.i .i64)), (26, .v (.i .i64)), (216, .box y56)]
abbrev measure_New.j4_s : Sh := [(0, .v y49), (5, .at_ 216), (12, .v (.i .i64)), (216, .box y56)]
def measure_New.O (k : Nat) : List (Orc (denR [.o y56, .c false (.i .i64)])) := [⟨measure_New.l0_s, fun y => measure_New.l0 k y.1 y.2.2.1 y.2.2.2.1 y.2.2.2.2.1 y.2.2.2.2.2.1 y.2.2.2.2.2.2.1 y.2.2.2.2.2.2.2.1 y.2.2.2.2.2.2.2.2.1 y.2.2.2.2.2.2.2.2.2.1⟩, ⟨measure_New.j1_s, fun y => measure_New.j1 k y.1 y.2.2.1 y.2.2.2.1 y.2.2.2.2.1 y.2.2.2.2.2.1 y.2.2.2.2.2.2.1 y.2.2.2.2.2.2.2.2.1 y.2.2.2.2.2.2.2.2.2.1 y.2.2.2.2.2.2.2.2.2.2.1 y.2.2.2.2.2.2.2.2.2.2.2.1 y.2.2.2.2.2.2.2.2.2.2.2.2.1⟩, ⟨measure_New.l2_s, fun y => measure_New.l2 k y.1 y.2.2.1 y.2.2.2.1⟩, ⟨measure_New.j3_s, fun y => measure_New.j3 k y.1 y.2.2.1 y.2.2.2.1 y.2.2.2.2.1 y.2.2.2.2.2.1 y.2.2.2.2.2.2.1 y.2.2.2.2.2.2.2.1 y.2.2.2.2.2.2.2.2.1 y.2.2.2.2.2.2.2.2.2.1 y.2.2.2.2.2.2.2.2.2.2.1⟩, ⟨measure_New.j4_s, fun y => measure_New.j4 k y.1 y.2.2.1 y.2.2.2.1⟩]
theorem measure_New.j3_e (k : Nat) (y : denS measure_New.j3_s) : measure_New.j3 (k + 1) y.1 y.2.2.1 y.2.2.2.1 y.2.2.2.2.1 y.2.2.2.2.2.1 y.2.2.2.2.2.2.1 y.2.2.2.2.2.2.2.1 y.2.2.2.2.2.2.2.2.1 y.2.2.2.2.2.2.2.2.2.1 y.2.2.2.2.2.2.2.2.2.2.1 = evP ((measure_New.G Try.prog).at (measure_New.E k)) (fun i => (measure_New.O k)[i]?) [1, 1, 1, 1, 0, 1, 0, 0, 1, 1, 0, 0, 1, 1, 1, 1] (cd Try.f25) measure_New.H (kFin ((measure_New.G Try.prog).at (measure_New.E k)) [.tmp 2, .tmp 3] [.o y56, .c false (.i .i64)]) (unS measure_New.j3_s y) := by rw [measure_New.j3]; kernel_rfl
theorem measure_New.j1_e (k : Nat) (y : denS measure_New.j1_s) : measure_New.j1 (k + 1) y.1 y.2.2.1 y.2.2.2.1 y.2.2.2.2.1 y.2.2.2.2.2.1 y.2.2.2.2.2.2.1 y.2.2.2.2.2.2.2.2.1 y.2.2.2.2.2.2.2.2.2.1 y.2.2.2.2.2.2.2.2.2.2.1 y.2.2.2.2.2.2.2.2.2.2.2.1 y.2.2.2.2.2.2.2.2.2.2.2.2.1 = evP ((measure_New.G Try.prog).at (measure_New.E k)) (fun i => (measure_New.O k)[i]?) [1, 1, 1, 1, 0, 1, 0, 0, 1, 1, 0, 0, 1, 1, 1] (cd Try.f25) measure_New.H (kFin ((measure_New.G Try.prog).at (measure_New.E k)) [.tmp 2, .tmp 3] [.o y56, .c false (.i .i64)]) (unS measure_New.j1_s y) := by rw [measure_New.j1]; kernel_rfl
theorem measure_New.l0_e (k : Nat) (y : denS measure_New.l0_s) : measure_New.l0 (k + 1) y.1 y.2.2.1 y.2.2.2.1 y.2.2.2.2.1 y.2.2.2.2.2.1 y.2.2.2.2.2.2.1 y.2.2.2.2.2.2.2.1 y.2.2.2.2.2.2.2.2.1 y.2.2.2.2.2.2.2.2.2.1 = evP ((measure_New.G Try.prog).at (measure_New.E k)) (fun i => (measure_New.O k)[i]?) [1, 1, 1, 1, 0, 1, 0, 0] (cd Try.f25) measure_New.H (kFin ((measure_New.G Try.prog).at (measure_New.E k)) [.tmp 2, .tmp 3] [.o y56, .c false (.i .i64)]) (unS measure_New.l0_s y) := by rw [measure_New.l0]; kernel_rfl
theorem measure_New.j4_e (k : Nat) (y : denS measure_New.j4_s) : measure_New.j4 (k + 1) y.1 y.2.2.1 y.2.2.2.1 = evP ((measure_New.G Try.prog).at (measure_New.E k)) (fun i => (measure_New.O k)[i]?) [1, 1, 1, 1, 1, 1, 1, 1, 0, 1, 0, 0, 1, 1] (cd Try.f25) measure_New.H (kFin ((measure_New.G Try.prog).at (measure_New.E k)) [.tmp 2, .tmp 3] [.o y56, .c false (.i .i64)]) (unS measure_New.j4_s y) := by rw [measure_New.j4]; kernel_rfl
theorem measure_New.l2_e (k : Nat) (y : denS measure_New.l2_s) : measure_New.l2 (k + 1) y.1 y.2.2.1 y.2.2.2.1 = evP ((measure_New.G Try.prog).at (measure_New.E k)) (fun i => (measure_New.O k)[i]?) [1, 1, 1, 1, 1, 1, 1, 1, 0, 1, 0, 0] (cd Try.f25) measure_New.H (kFin ((measure_New.G Try.prog).at (measure_New.E k)) [.tmp 2, .tmp 3] [.o y56, .c false (.i .i64)]) (unS measure_New.l2_s y) := by rw [measure_New.l2]; kernel_rfl
theorem measure_New.go : goesTo Try.prog 25 := ⟨_, Try.func25, by kernel_rfl, rfl⟩
theorem measure_New.ok (k : Nat) : SigOk Try.prog 25 (measure_New.sig k) :=
  fn_p (G := measure_New.G Try.prog) (c := cd Try.f25) (rs := [.tmp 2, .tmp 3]) (args := [(false, y49)]) (l := [.o y56, .c false (.i .i64)]) (fn := Try.f25) ⟨Try.func25, by kernel_rfl, by kernel_rfl, by kernel_rfl, le_of rfl, le_of rfl, TT_ok, AD_ok⟩ rfl measure_New.E (fun k p hp => by
    simp only [measure_New.E, List.mem_cons, List.not_mem_nil, or_false] at hp
    rcases hp with rfl | rfl | rfl
    · exact ⟨items_Right.ok k, items_Right.go⟩
    · exact ⟨items_Legal.ok k, items_Legal.go⟩
    · exact ⟨items_Forced.ok k, items_Forced.go⟩)
    (fun k i => (measure_New.O k)[i]?) measure_New.H (fun k x => measure_New.f k x.1)
    (fun id o y h => by
    have h' := List.mem_of_getElem? h
    simp only [measure_New.O, List.mem_cons, List.not_mem_nil, or_false] at h'
    rcases h' with rfl | rfl | rfl | rfl | rfl <;> rfl)
    (fun k p hp => by
    rw [show pts (cd Try.f25) measure_New.H = [(3, [1, 1, 1, 1, 0, 1, 0, 0, 1, 1, 0, 0, 1, 1, 1, 1]), (1, [1, 1, 1, 1, 0, 1, 0, 0, 1, 1, 0, 0, 1, 1, 1]), (0, [1, 1, 1, 1, 0, 1, 0, 0]), (4, [1, 1, 1, 1, 1, 1, 1, 1, 0, 1, 0, 0, 1, 1]), (2, [1, 1, 1, 1, 1, 1, 1, 1, 0, 1, 0, 0])] by kernel_rfl] at hp
    simp only [List.mem_cons, List.not_mem_nil, or_false] at hp
    rcases hp with rfl | rfl | rfl | rfl | rfl
    · exact ptOk_of rfl (measure_New.j3_e k)
    · exact ptOk_of rfl (measure_New.j1_e k)
    · exact ptOk_of rfl (measure_New.l0_e k)
    · exact ptOk_of rfl (measure_New.j4_e k)
    · exact ptOk_of rfl (measure_New.l2_e k))
    (fun k x => by kernel_rfl) k
/-! (*reglet/measure.Para).Item -/
mutual
def measure_Para_Item.j0 : Nat → (List api_Item × List Int × List Int × List Int × List Int × List Int × Int × List Int) → Int → api_Item → Option api_Item
  | 0, _, _, _ => none
  | k + 1, p, k_, t => (at? p.1 k_).bind fun e => some e
end
def measure_Para_Item.f (k : Nat) (a0 : List api_Item × List Int × List Int × List Int × List Int × List Int × Int × List Int) (a1 : Int) : Option api_Item := if (decide (a1 < 0)) = true then (some (0, 0, 0, 0, (false), 0, (false), 0, 0)) else (if (decide ((a0.1.length : Int) ≤ a1)) = true then (some (0, 0, 0, 0, (false), 0, (false), 0, 0)) else (measure_Para_Item.j0 k a0 a1 (0, 0, 0, 0, (false), 0, (false), 0, 0)))
def measure_Para_Item.sig (k : Nat) : Sig := .p [(false, y65), (false, (.i .i64))] [.c true y29] fun x => measure_Para_Item.f k x.1 x.2.1
def measure_Para_Item.E (k : Nat) : List (Nat × Sig) := []
def measure_Para_Item.G (P : Program) : GI := ⟨P, TT, 24, 33, [(4, 24, 9)], [], [], [], [], AD⟩
def measure_Para_Item.H : H := .s .n (.j 0 .n .n)
abbrev measure_Para_Item.j0_s : Sh := [(0, .v y65), (1, .v (.i .i64)), (4, .at_ 24), (24, .box y29)]
def measure_Para_Item.O (k : Nat) : List (Orc (denR [.c true y29])) := [⟨measure_Para_Item.j0_s, fun y => measure_Para_Item.j0 k y.1 y.2.1 y.2.2.2.1⟩]
theorem measure_Para_Item.j0_e (k : Nat) (y : denS measure_Para_Item.j0_s) : measure_Para_Item.j0 (k + 1) y.1 y.2.1 y.2.2.2.1 = evP ((measure_Para_Item.G Try.prog).at (measure_Para_Item.E k)) (fun i => (measure_Para_Item.O k)[i]?) [1, 1] (cd Try.f49) measure_Para_Item.H (kFin ((measure_Para_Item.G Try.prog).at (measure_Para_Item.E k)) [.cell 4 98] [.c true y29]) (unS measure_Para_Item.j0_s y) := by rw [measure_Para_Item.j0]; kernel_rfl
theorem measure_Para_Item.go : goesTo Try.prog 49 := ⟨_, Try.func49, by kernel_rfl, rfl⟩
theorem measure_Para_Item.ok (k : Nat) : SigOk Try.prog 49 (measure_Para_Item.sig k) :=
  fn_p (G := measure_Para_Item.G Try.prog) (c := cd Try.f49) (rs := [.cell 4 98]) (args := [(false, y65), (false, (.i .i64))]) (l := [.c true y29]) (fn := Try.f49) ⟨Try.func49, by kernel_rfl, by kernel_rfl, by kernel_rfl, le_of rfl, le_of rfl, TT_ok, AD_ok⟩ rfl measure_Para_Item.E (fun k p hp => nomatch hp)
    (fun k i => (measure_Para_Item.O k)[i]?) measure_Para_Item.H (fun k x => measure_Para_Item.f k x.1 x.2.1)
    (fun id o y h => by
    have h' := List.mem_of_getElem? h
    simp only [measure_Para_Item.O, List.mem_cons, List.not_mem_nil, or_false] at h'
    rcases h' with rfl <;> rfl)
    (fun k p hp => by
    rw [show pts (cd Try.f49) measure_Para_Item.H = [(0, [1, 1])] by kernel_rfl] at hp
    simp only [List.mem_cons, List.not_mem_nil, or_false] at hp
    rcases hp with rfl
    · exact ptOk_of rfl (measure_Para_Item.j0_e k))
    (fun k x => by kernel_rfl) k
/-! (*reglet/measure.Para).Ends -/
def measure_Para_Ends.f (k : Nat) (a0 : List api_Item × List Int × List Int × List Int × List Int × List Int × Int × List Int) : Option Int := some (a0.2.2.2.2.2.2.2.length : Int)
def measure_Para_Ends.sig (k : Nat) : Sig := .p [(false, y65)] [.c false (.i .i64)] fun x => measure_Para_Ends.f k x.1
def measure_Para_Ends.E (k : Nat) : List (Nat × Sig) := []
def measure_Para_Ends.G (P : Program) : GI := ⟨P, TT, 8, 8, [], [], [], [], [], AD⟩
def measure_Para_Ends.H : H := .n
def measure_Para_Ends.O (k : Nat) : List (Orc (denR [.c false (.i .i64)])) := []
theorem measure_Para_Ends.go : goesTo Try.prog 69 := ⟨_, Try.func69, by kernel_rfl, rfl⟩
theorem measure_Para_Ends.ok (k : Nat) : SigOk Try.prog 69 (measure_Para_Ends.sig k) :=
  fn_p (G := measure_Para_Ends.G Try.prog) (c := cd Try.f69) (rs := [.tmp 2]) (args := [(false, y65)]) (l := [.c false (.i .i64)]) (fn := Try.f69) ⟨Try.func69, by kernel_rfl, by kernel_rfl, by kernel_rfl, le_of rfl, le_of rfl, TT_ok, AD_ok⟩ rfl measure_Para_Ends.E (fun k p hp => nomatch hp)
    (fun k i => (measure_Para_Ends.O k)[i]?) measure_Para_Ends.H (fun k x => measure_Para_Ends.f k x.1)
    (fun id o y h => by cases id <;> cases h)
    (fun k p hp => by rw [show pts (cd Try.f69) measure_Para_Ends.H = [] by kernel_rfl] at hp; nomatch hp)
    (fun k x => by kernel_rfl) k
/-! (*reglet/measure.Para).End -/
mutual
def measure_Para_End.j0 : Nat → (List api_Item × List Int × List Int × List Int × List Int × List Int × Int × List Int) → Int → Option Int
  | 0, _, _ => none
  | k + 1, p, n => (at? p.2.2.2.2.2.2.2 n).bind fun e => some e
end
def measure_Para_End.f (k : Nat) (a0 : List api_Item × List Int × List Int × List Int × List Int × List Int × Int × List Int) (a1 : Int) : Option Int := if (decide (a1 < 0)) = true then (some (-1)) else (if (decide ((a0.2.2.2.2.2.2.2.length : Int) ≤ a1)) = true then (some (-1)) else (measure_Para_End.j0 k a0 a1))
def measure_Para_End.sig (k : Nat) : Sig := .p [(false, y65), (false, (.i .i64))] [.c false (.i .i64)] fun x => measure_Para_End.f k x.1 x.2.1
def measure_Para_End.E (k : Nat) : List (Nat × Sig) := []
def measure_Para_End.G (P : Program) : GI := ⟨P, TT, 23, 23, [], [], [], [], [], AD⟩
def measure_Para_End.H : H := .s .n (.j 0 .n .n)
abbrev measure_Para_End.j0_s : Sh := [(0, .v y65), (1, .v (.i .i64))]
def measure_Para_End.O (k : Nat) : List (Orc (denR [.c false (.i .i64)])) := [⟨measure_Para_End.j0_s, fun y => measure_Para_End.j0 k y.1 y.2.1⟩]
theorem measure_Para_End.j0_e (k : Nat) (y : denS measure_Para_End.j0_s) : measure_Para_End.j0 (k + 1) y.1 y.2.1 = evP ((measure_Para_End.G Try.prog).at (measure_Para_End.E k)) (fun i => (measure_Para_End.O k)[i]?) [1, 1] (cd Try.f70) measure_Para_End.H (kFin ((measure_Para_End.G Try.prog).at (measure_Para_End.E k)) [.tmp 4] [.c false (.i .i64)]) (unS measure_Para_End.j0_s y) := by rw [measure_Para_End.j0]; kernel_rfl
theorem measure_Para_End.go : goesTo Try.prog 70 := ⟨_, Try.func70, by kernel_rfl, rfl⟩
theorem measure_Para_End.ok (k : Nat) : SigOk Try.prog 70 (measure_Para_End.sig k) :=
  fn_p (G := measure_Para_End.G Try.prog) (c := cd Try.f70) (rs := [.tmp 4]) (args := [(false, y65), (false, (.i .i64))]) (l := [.c false (.i .i64)]) (fn := Try.f70) ⟨Try.func70, by kernel_rfl, by kernel_rfl, by kernel_rfl, le_of rfl, le_of rfl, TT_ok, AD_ok⟩ rfl measure_Para_End.E (fun k p hp => nomatch hp)
    (fun k i => (measure_Para_End.O k)[i]?) measure_Para_End.H (fun k x => measure_Para_End.f k x.1 x.2.1)
    (fun id o y h => by
    have h' := List.mem_of_getElem? h
    simp only [measure_Para_End.O, List.mem_cons, List.not_mem_nil, or_false] at h'
    rcases h' with rfl <;> rfl)
    (fun k p hp => by
    rw [show pts (cd Try.f70) measure_Para_End.H = [(0, [1, 1])] by kernel_rfl] at hp
    simp only [List.mem_cons, List.not_mem_nil, or_false] at hp
    rcases hp with rfl
    · exact ptOk_of rfl (measure_Para_End.j0_e k))
    (fun k x => by kernel_rfl) k
/-! (*reglet/breaks.search).forced -/
mutual
def breaks_search_forced.l0 : Nat → Int → Int → ((List api_Item × List Int × List Int × List Int × List Int × List Int × Int × List Int) × Int × Int × Int × Int × Int × Int × Int × Int × Bool × List measure_Sum × List Int) → Option (((List api_Item × List Int × List Int × List Int × List Int × List Int × Int × List Int) × Int × Int × Int × Int × Int × Int × Int × Int × Bool × List measure_Sum × List Int))
  | 0, _, _, _ => none
  | k + 1, last, k_, s => if (decide (0 ≤ k_)) = true then (if 0 ≤ (wrap64 (k_ + 1)) ∧ (wrap64 (k_ + 1)) < (s.2.2.2.2.2.2.2.2.2.2.2.length : Int) then ((s.2.2.2.2.2.2.2.2.2.2.2[(wrap64 (k_ + 1)).toNat]?).bind fun e2 => (measure_Para_End.f k s.1 k_).bind fun r2 => (measure_Para_Item.f k s.1 r2).bind fun r3 => (items_Forced.f k r3).bind fun r4 => if r4 = true then (breaks_search_forced.j1 k k_ k_ (s.1, s.2.1, s.2.2.1, s.2.2.2.1, s.2.2.2.2.1, s.2.2.2.2.2.1, s.2.2.2.2.2.2.1, s.2.2.2.2.2.2.2.1, s.2.2.2.2.2.2.2.2.1, s.2.2.2.2.2.2.2.2.2.1, s.2.2.2.2.2.2.2.2.2.2.1, s.2.2.2.2.2.2.2.2.2.2.2.set ((wrap64 (k_ + 1)).toNat) last)) else (breaks_search_forced.j1 k last k_ (s.1, s.2.1, s.2.2.1, s.2.2.2.1, s.2.2.2.2.1, s.2.2.2.2.2.1, s.2.2.2.2.2.2.1, s.2.2.2.2.2.2.2.1, s.2.2.2.2.2.2.2.2.1, s.2.2.2.2.2.2.2.2.2.1, s.2.2.2.2.2.2.2.2.2.2.1, s.2.2.2.2.2.2.2.2.2.2.2.set ((wrap64 (k_ + 1)).toNat) last))) else none) else (if 0 ≤ (0 : Int) ∧ (0 : Int) < (s.2.2.2.2.2.2.2.2.2.2.2.length : Int) then ((s.2.2.2.2.2.2.2.2.2.2.2[(0 : Int).toNat]?).bind fun e3 => some (s.1, s.2.1, s.2.2.1, s.2.2.2.1, s.2.2.2.2.1, s.2.2.2.2.2.1, s.2.2.2.2.2.2.1, s.2.2.2.2.2.2.2.1, s.2.2.2.2.2.2.2.2.1, s.2.2.2.2.2.2.2.2.2.1, s.2.2.2.2.2.2.2.2.2.2.1, s.2.2.2.2.2.2.2.2.2.2.2.set ((0 : Int).toNat) last)) else none)
def breaks_search_forced.j1 : Nat → Int → Int → ((List api_Item × List Int × List Int × List Int × List Int × List Int × Int × List Int) × Int × Int × Int × Int × Int × Int × Int × Int × Bool × List measure_Sum × List Int) → Option (((List api_Item × List Int × List Int × List Int × List Int × List Int × Int × List Int) × Int × Int × Int × Int × Int × Int × Int × Int × Bool × List measure_Sum × List Int))
  | 0, _, _, _ => none
  | k + 1, last2, k_2, s2 => breaks_search_forced.l0 k last2 (wrap64 (k_2 - 1)) s2
end
def breaks_search_forced.f (k : Nat) (a0 : (List api_Item × List Int × List Int × List Int × List Int × List Int × Int × List Int) × Int × Int × Int × Int × Int × Int × Int × Int × Bool × List measure_Sum × List Int) : Option (((List api_Item × List Int × List Int × List Int × List Int × List Int × Int × List Int) × Int × Int × Int × Int × Int × Int × Int × Int × Bool × List measure_Sum × List Int)) := (measure_Para_Ends.f k a0.1).bind fun r => if (wrap64 (r + 1)) = (wrap64 (r + 1)) ∧ 0 ≤ (wrap64 (r + 1)) ∧ (8 : Int) * (wrap64 (r + 1)) ≤ 281474976710656 then (if 0 ≤ r ∧ r < ((List.replicate ((wrap64 (r + 1)).toNat) 0 : List Int).length : Int) then (((List.replicate ((wrap64 (r + 1)).toNat) 0 : List Int)[r.toNat]?).bind fun e => breaks_search_forced.l0 k (wrap64 (r - 1)) (wrap64 (r - 1)) (a0.1, a0.2.1, a0.2.2.1, a0.2.2.2.1, a0.2.2.2.2.1, a0.2.2.2.2.2.1, a0.2.2.2.2.2.2.1, a0.2.2.2.2.2.2.2.1, a0.2.2.2.2.2.2.2.2.1, a0.2.2.2.2.2.2.2.2.2.1, a0.2.2.2.2.2.2.2.2.2.2.1, (List.replicate ((wrap64 (r + 1)).toNat) 0 : List Int).set r.toNat (wrap64 (r - 1)))) else none) else none
def breaks_search_forced.sig (k : Nat) : Sig := .l y87 [] [] fun b x => breaks_search_forced.f k b
def breaks_search_forced.E (k : Nat) : List (Nat × Sig) := [(43, items_Forced.sig k), (49, measure_Para_Item.sig k), (69, measure_Para_Ends.sig k), (70, measure_Para_End.sig k)]
def breaks_search_forced.G (P : Program) : GI := ⟨P, TT, 59, 71, [(0, 59, 12)], [0], [], [], [], AD⟩
def breaks_search_forced.H : H := .s .n (.s .n (.s .n (.s .n (.s (.s .n (.s (.l 0 (.s .n (.j 1 .n .n))) .n)) .n))))
abbrev breaks_search_forced.l0_s : Sh := [(0, .at_ 59), (3, .v (.i .i64)), (4, .v (.i .i64)), (59, .box y87)]
abbrev breaks_search_forced.j1_s : Sh := [(0, .at_ 59), (3, .v (.i .i64)), (4, .v (.i .i64)), (59, .box y87)]
def breaks_search_forced.O (k : Nat) : List (Orc (denR ([] ++ [.c true y87]))) := [⟨breaks_search_forced.l0_s, fun y => breaks_search_forced.l0 k y.2.1 y.2.2.1 y.2.2.2.1⟩, ⟨breaks_search_forced.j1_s, fun y => breaks_search_forced.j1 k y.2.1 y.2.2.1 y.2.2.2.1⟩]
theorem breaks_search_forced.j1_e (k : Nat) (y : denS breaks_search_forced.j1_s) : breaks_search_forced.j1 (k + 1) y.2.1 y.2.2.1 y.2.2.2.1 = evP ((breaks_search_forced.G Try.prog).at (breaks_search_forced.E k)) (fun i => (breaks_search_forced.O k)[i]?) [1, 1, 1, 1, 0, 1, 0, 0, 1, 1] (cd Try.f44) breaks_search_forced.H (kFinL ((breaks_search_forced.G Try.prog).at (breaks_search_forced.E k)) y87 [] []) (unS breaks_search_forced.j1_s y) := by rw [breaks_search_forced.j1]; kernel_rfl
theorem breaks_search_forced.l0_e (k : Nat) (y : denS breaks_search_forced.l0_s) : breaks_search_forced.l0 (k + 1) y.2.1 y.2.2.1 y.2.2.2.1 = evP ((breaks_search_forced.G Try.prog).at (breaks_search_forced.E k)) (fun i => (breaks_search_forced.O k)[i]?) [1, 1, 1, 1, 0, 1, 0, 0] (cd Try.f44) breaks_search_forced.H (kFinL ((breaks_search_forced.G Try.prog).at (breaks_search_forced.E k)) y87 [] []) (unS breaks_search_forced.l0_s y) := by rw [breaks_search_forced.l0]; kernel_rfl
theorem breaks_search_forced.go : goesTo Try.prog 44 := ⟨_, Try.func44, by kernel_rfl, rfl⟩
theorem breaks_search_forced.ok (k : Nat) : SigOk Try.prog 44 (breaks_search_forced.sig k) :=
  fn_l (G := breaks_search_forced.G Try.prog) (c := cd Try.f44) (rs := []) (args := []) (l := []) (fn := Try.f44) ⟨Try.func44, by kernel_rfl, by kernel_rfl, by kernel_rfl, le_of rfl, le_of rfl, TT_ok, AD_ok⟩ rfl breaks_search_forced.E (fun k p hp => by
    simp only [breaks_search_forced.E, List.mem_cons, List.not_mem_nil, or_false] at hp
    rcases hp with rfl | rfl | rfl | rfl
    · exact ⟨items_Forced.ok k, items_Forced.go⟩
    · exact ⟨measure_Para_Item.ok k, measure_Para_Item.go⟩
    · exact ⟨measure_Para_Ends.ok k, measure_Para_Ends.go⟩
    · exact ⟨measure_Para_End.ok k, measure_Para_End.go⟩)
    (fun k i => (breaks_search_forced.O k)[i]?) breaks_search_forced.H (fun k b x => breaks_search_forced.f k b)
    (fun id o y h => by
    have h' := List.mem_of_getElem? h
    simp only [breaks_search_forced.O, List.mem_cons, List.not_mem_nil, or_false] at h'
    rcases h' with rfl | rfl <;> rfl)
    (fun k p hp => by
    rw [show pts (cd Try.f44) breaks_search_forced.H = [(1, [1, 1, 1, 1, 0, 1, 0, 0, 1, 1]), (0, [1, 1, 1, 1, 0, 1, 0, 0])] by kernel_rfl] at hp
    simp only [List.mem_cons, List.not_mem_nil, or_false] at hp
    rcases hp with rfl | rfl
    · exact ptOk_of rfl (breaks_search_forced.j1_e k)
    · exact ptOk_of rfl (breaks_search_forced.l0_e k))
    (fun k b x => by kernel_rfl) k
/-! math/bits.Mul64 -/
def bits_Mul64.f (k : Nat) (a0 : Int) (a1 : Int) : Option (Int × Int) := some (IntKind.u64.wrap ((IntKind.u64.wrap ((IntKind.u64.wrap ((shrI .u64 a0 (32 : Int)) * (shrI .u64 a1 (32 : Int)))) + (shrI .u64 (IntKind.u64.wrap ((IntKind.u64.wrap ((shrI .u64 a0 (32 : Int)) * (andI .u64 a1 (4294967295 : Int)))) + (shrI .u64 (IntKind.u64.wrap ((andI .u64 a0 (4294967295 : Int)) * (andI .u64 a1 (4294967295 : Int)))) (32 : Int)))) (32 : Int)))) + (shrI .u64 (IntKind.u64.wrap ((andI .u64 (IntKind.u64.wrap ((IntKind.u64.wrap ((shrI .u64 a0 (32 : Int)) * (andI .u64 a1 (4294967295 : Int)))) + (shrI .u64 (IntKind.u64.wrap ((andI .u64 a0 (4294967295 : Int)) * (andI .u64 a1 (4294967295 : Int)))) (32 : Int)))) (4294967295 : Int)) + (IntKind.u64.wrap ((andI .u64 a0 (4294967295 : Int)) * (shrI .u64 a1 (32 : Int)))))) (32 : Int))), IntKind.u64.wrap (a0 * a1))
def bits_Mul64.sig (k : Nat) : Sig := .p [(false, (.i .u64)), (false, (.i .u64))] [.c false (.i .u64), .c false (.i .u64)] fun x => bits_Mul64.f k x.1 x.2.1
def bits_Mul64.E (k : Nat) : List (Nat × Sig) := []
def bits_Mul64.G (P : Program) : GI := ⟨P, TT, 51, 51, [], [], [], [], [], AD⟩
def bits_Mul64.H : H := .n
def bits_Mul64.O (k : Nat) : List (Orc (denR [.c false (.i .u64), .c false (.i .u64)])) := []
theorem bits_Mul64.go : goesTo Try.prog 103 := ⟨_, Try.func103, by kernel_rfl, rfl⟩
theorem bits_Mul64.ok (k : Nat) : SigOk Try.prog 103 (bits_Mul64.sig k) :=
  fn_p (G := bits_Mul64.G Try.prog) (c := cd Try.f103) (rs := [.tmp 4, .tmp 5]) (args := [(false, (.i .u64)), (false, (.i .u64))]) (l := [.c false (.i .u64), .c false (.i .u64)]) (fn := Try.f103) ⟨Try.func103, by kernel_rfl, by kernel_rfl, by kernel_rfl, le_of rfl, le_of rfl, TT_ok, AD_ok⟩ rfl bits_Mul64.E (fun k p hp => nomatch hp)
    (fun k i => (bits_Mul64.O k)[i]?) bits_Mul64.H (fun k x => bits_Mul64.f k x.1 x.2.1)
    (fun id o y h => by cases id <;> cases h)
    (fun k p hp => by rw [show pts (cd Try.f103) bits_Mul64.H = [] by kernel_rfl] at hp; nomatch hp)
    (fun k x => by kernel_rfl) k
/-! reglet/scaled.product -/
def scaled_product.f (k : Nat) (a0 : Int) (a1 : Int) : Option measure_Sum := (bits_Mul64.f k a0 a1).bind fun r => some (r.2, r.1, 0, 0)
def scaled_product.sig (k : Nat) : Sig := .p [(false, (.i .u64)), (false, (.i .u64))] [.c true y90] fun x => scaled_product.f k x.1 x.2.1
def scaled_product.E (k : Nat) : List (Nat × Sig) := [(103, bits_Mul64.sig k)]
def scaled_product.G (P : Program) : GI := ⟨P, TT, 16, 20, [(4, 16, 4)], [], [], [], [], AD⟩
def scaled_product.H : H := .n
def scaled_product.O (k : Nat) : List (Orc (denR [.c true y90])) := []
theorem scaled_product.go : goesTo Try.prog 97 := ⟨_, Try.func97, by kernel_rfl, rfl⟩
theorem scaled_product.ok (k : Nat) : SigOk Try.prog 97 (scaled_product.sig k) :=
  fn_p (G := scaled_product.G Try.prog) (c := cd Try.f97) (rs := [.cell 4 160]) (args := [(false, (.i .u64)), (false, (.i .u64))]) (l := [.c true y90]) (fn := Try.f97) ⟨Try.func97, by kernel_rfl, by kernel_rfl, by kernel_rfl, le_of rfl, le_of rfl, TT_ok, AD_ok⟩ rfl scaled_product.E (fun k p hp => by
    simp only [scaled_product.E, List.mem_cons, List.not_mem_nil, or_false] at hp
    rcases hp with rfl
    · exact ⟨bits_Mul64.ok k, bits_Mul64.go⟩)
    (fun k i => (scaled_product.O k)[i]?) scaled_product.H (fun k x => scaled_product.f k x.1 x.2.1)
    (fun id o y h => by cases id <;> cases h)
    (fun k p hp => by rw [show pts (cd Try.f97) scaled_product.H = [] by kernel_rfl] at hp; nomatch hp)
    (fun k x => by kernel_rfl) k
/-! (reglet/scaled.wide).times -/
mutual
def scaled_wide_times.l0 : Nat → Int → Int → measure_Sum → Int → measure_Sum → measure_Sum → Option measure_Sum
  | 0, _, _, _, _, _, _ => none
  | k + 1, by_, carry, t, t2, t3, out => if (decide (t2 < 4)) = true then ((at? ([t.1, t.2.1, t.2.2.1, t.2.2.2] : List Int) t2).bind fun e => (bits_Mul64.f k e by_).bind fun r => if 0 ≤ r.2 ∧ 0 ≤ carry ∧ 0 ≤ (0 : Int) ∧ (0 : Int) ≤ 1 then (if 0 ≤ t2 ∧ t2 < (4 : Int) then (if t2.toNat < 4 then (scaled_wide_times.l0 k by_ (IntKind.u64.wrap (r.1 + ((r.2 + carry + (0 : Int)) / 18446744073709551616))) t (wrap64 (t2 + 1)) t3 ((if t2.toNat = 0 then ((r.2 + carry + (0 : Int)) % 18446744073709551616) else out.1), (if t2.toNat = 1 then ((r.2 + carry + (0 : Int)) % 18446744073709551616) else out.2.1), (if t2.toNat = 2 then ((r.2 + carry + (0 : Int)) % 18446744073709551616) else out.2.2.1), (if t2.toNat = 3 then ((r.2 + carry + (0 : Int)) % 18446744073709551616) else out.2.2.2))) else none) else none) else none) else (some out)
end
def scaled_wide_times.f (k : Nat) (a0 : measure_Sum) (a1 : Int) : Option measure_Sum := scaled_wide_times.l0 k a1 0 a0 0 (0, 0, 0, 0) (0, 0, 0, 0)
def scaled_wide_times.sig (k : Nat) : Sig := .p [(true, y90), (false, (.i .u64))] [.c true y90] fun x => scaled_wide_times.f k x.1 x.2.1
def scaled_wide_times.E (k : Nat) : List (Nat × Sig) := [(103, bits_Mul64.sig k)]
def scaled_wide_times.G (P : Program) : GI := ⟨P, TT, 38, 50, [(2, 38, 4), (4, 42, 4), (5, 46, 4)], [], [], [], [], AD⟩
def scaled_wide_times.H : H := .s .n (.s .n (.s .n (.s (.s .n (.s (.l 0 .n) .n)) .n)))
abbrev scaled_wide_times.l0_s : Sh := [(1, .v (.i .u64)), (4, .at_ 42), (5, .at_ 46), (6, .v (.i .u64)), (13, .agg y90), (14, .v (.i .i64)), (42, .box y90), (46, .box y90)]
def scaled_wide_times.O (k : Nat) : List (Orc (denR [.c true y90])) := [⟨scaled_wide_times.l0_s, fun y => scaled_wide_times.l0 k y.1 y.2.2.2.1 y.2.2.2.2.1 y.2.2.2.2.2.1 y.2.2.2.2.2.2.1 y.2.2.2.2.2.2.2.1⟩]
theorem scaled_wide_times.l0_e (k : Nat) (y : denS scaled_wide_times.l0_s) : scaled_wide_times.l0 (k + 1) y.1 y.2.2.2.1 y.2.2.2.2.1 y.2.2.2.2.2.1 y.2.2.2.2.2.2.1 y.2.2.2.2.2.2.2.1 = evP ((scaled_wide_times.G Try.prog).at (scaled_wide_times.E k)) (fun i => (scaled_wide_times.O k)[i]?) [1, 1, 1, 0, 1, 0, 0] (cd Try.f98) scaled_wide_times.H (kFin ((scaled_wide_times.G Try.prog).at (scaled_wide_times.E k)) [.cell 4 160] [.c true y90]) (unS scaled_wide_times.l0_s y) := by rw [scaled_wide_times.l0]; kernel_rfl
theorem scaled_wide_times.go : goesTo Try.prog 98 := ⟨_, Try.func98, by kernel_rfl, rfl⟩
theorem scaled_wide_times.ok (k : Nat) : SigOk Try.prog 98 (scaled_wide_times.sig k) :=
  fn_p (G := scaled_wide_times.G Try.prog) (c := cd Try.f98) (rs := [.cell 4 160]) (args := [(true, y90), (false, (.i .u64))]) (l := [.c true y90]) (fn := Try.f98) ⟨Try.func98, by kernel_rfl, by kernel_rfl, by kernel_rfl, le_of rfl, le_of rfl, TT_ok, AD_ok⟩ rfl scaled_wide_times.E (fun k p hp => by
    simp only [scaled_wide_times.E, List.mem_cons, List.not_mem_nil, or_false] at hp
    rcases hp with rfl
    · exact ⟨bits_Mul64.ok k, bits_Mul64.go⟩)
    (fun k i => (scaled_wide_times.O k)[i]?) scaled_wide_times.H (fun k x => scaled_wide_times.f k x.1 x.2.1)
    (fun id o y h => by
    have h' := List.mem_of_getElem? h
    simp only [scaled_wide_times.O, List.mem_cons, List.not_mem_nil, or_false] at h'
    rcases h' with rfl <;> rfl)
    (fun k p hp => by
    rw [show pts (cd Try.f98) scaled_wide_times.H = [(0, [1, 1, 1, 0, 1, 0, 0])] by kernel_rfl] at hp
    simp only [List.mem_cons, List.not_mem_nil, or_false] at hp
    rcases hp with rfl
    · exact ptOk_of rfl (scaled_wide_times.l0_e k))
    (fun k x => by kernel_rfl) k
/-! reglet/scaled.smaller -/
mutual
def scaled_smaller.l0 : Nat → Int → measure_Sum → measure_Sum → Option Bool
  | 0, _, _, _ => none
  | k + 1, i, a, b => if (decide (0 ≤ i)) = true then (if 0 ≤ i ∧ i < (4 : Int) then ((([a.1, a.2.1, a.2.2.1, a.2.2.2] : List Int)[i.toNat]?).bind fun e => if 0 ≤ i ∧ i < (4 : Int) then ((([b.1, b.2.1, b.2.2.1, b.2.2.2] : List Int)[i.toNat]?).bind fun e2 => if (!decide (e = e2)) = true then (if 0 ≤ i ∧ i < (4 : Int) then ((([a.1, a.2.1, a.2.2.1, a.2.2.2] : List Int)[i.toNat]?).bind fun e3 => if 0 ≤ i ∧ i < (4 : Int) then ((([b.1, b.2.1, b.2.2.1, b.2.2.2] : List Int)[i.toNat]?).bind fun e4 => some (decide (e3 < e4))) else none) else none) else (scaled_smaller.l0 k (wrap64 (i - 1)) a b)) else none) else none) else (some false)
end
def scaled_smaller.f (k : Nat) (a0 : measure_Sum) (a1 : measure_Sum) : Option Bool := scaled_smaller.l0 k 3 a0 a1
def scaled_smaller.sig (k : Nat) : Sig := .p [(true, y90), (true, y90)] [.c false .b] fun x => scaled_smaller.f k x.1 x.2.1
def scaled_smaller.E (k : Nat) : List (Nat × Sig) := []
def scaled_smaller.G (P : Program) : GI := ⟨P, TT, 24, 32, [(2, 24, 4), (3, 28, 4)], [], [], [], [], AD⟩
def scaled_smaller.H : H := .s .n (.s (.s .n (.s (.l 0 .n) .n)) .n)
abbrev scaled_smaller.l0_s : Sh := [(2, .at_ 24), (3, .at_ 28), (5, .v (.i .i64)), (24, .box y90), (28, .box y90)]
def scaled_smaller.O (k : Nat) : List (Orc (denR [.c false .b])) := [⟨scaled_smaller.l0_s, fun y => scaled_smaller.l0 k y.2.2.1 y.2.2.2.1 y.2.2.2.2.1⟩]
theorem scaled_smaller.l0_e (k : Nat) (y : denS scaled_smaller.l0_s) : scaled_smaller.l0 (k + 1) y.2.2.1 y.2.2.2.1 y.2.2.2.2.1 = evP ((scaled_smaller.G Try.prog).at (scaled_smaller.E k)) (fun i => (scaled_smaller.O k)[i]?) [1, 0, 1, 0, 0] (cd Try.f99) scaled_smaller.H (kFin ((scaled_smaller.G Try.prog).at (scaled_smaller.E k)) [.tmp 4] [.c false .b]) (unS scaled_smaller.l0_s y) := by rw [scaled_smaller.l0]; kernel_rfl
theorem scaled_smaller.go : goesTo Try.prog 99 := ⟨_, Try.func99, by kernel_rfl, rfl⟩
theorem scaled_smaller.ok (k : Nat) : SigOk Try.prog 99 (scaled_smaller.sig k) :=
  fn_p (G := scaled_smaller.G Try.prog) (c := cd Try.f99) (rs := [.tmp 4]) (args := [(true, y90), (true, y90)]) (l := [.c false .b]) (fn := Try.f99) ⟨Try.func99, by kernel_rfl, by kernel_rfl, by kernel_rfl, le_of rfl, le_of rfl, TT_ok, AD_ok⟩ rfl scaled_smaller.E (fun k p hp => nomatch hp)
    (fun k i => (scaled_smaller.O k)[i]?) scaled_smaller.H (fun k x => scaled_smaller.f k x.1 x.2.1)
    (fun id o y h => by
    have h' := List.mem_of_getElem? h
    simp only [scaled_smaller.O, List.mem_cons, List.not_mem_nil, or_false] at h'
    rcases h' with rfl <;> rfl)
    (fun k p hp => by
    rw [show pts (cd Try.f99) scaled_smaller.H = [(0, [1, 0, 1, 0, 0])] by kernel_rfl] at hp
    simp only [List.mem_cons, List.not_mem_nil, or_false] at hp
    rcases hp with rfl
    · exact ptOk_of rfl (scaled_smaller.l0_e k))
    (fun k x => by kernel_rfl) k
/-! reglet/scaled.Bad -/
mutual
def scaled_Bad.j0 : Nat → Int → Int → Option Int
  | 0, _, _ => none
  | k + 1, t, s => (scaled_product.f k (IntKind.u64.wrap (t)) (IntKind.u64.wrap (t))).bind fun r3 => (scaled_wide_times.f k r3 (IntKind.u64.wrap (t))).bind fun r4 => (scaled_wide_times.f k r4 100).bind fun r5 => (scaled_product.f k (IntKind.u64.wrap (s)) (IntKind.u64.wrap (s))).bind fun r6 => (scaled_wide_times.f k r6 (IntKind.u64.wrap (s))).bind fun r7 => scaled_Bad.l1 k 0 10000 r5 r7
def scaled_Bad.l1 : Nat → Int → Int → measure_Sum → measure_Sum → Option Int
  | 0, _, _, _, _ => none
  | k + 1, low, high, left, cube => if (decide (low < high)) = true then ((scaled_wide_times.f k cube (IntKind.u64.wrap (wrap64 ((wrap64 ((wrap64 (low + high)) + 1)).tdiv 2)))).bind fun r8 => (scaled_smaller.f k left r8).bind fun r9 => if r9 = true then (scaled_Bad.l1 k low (wrap64 ((wrap64 ((wrap64 ((wrap64 (low + high)) + 1)).tdiv 2)) - 1)) left cube) else (scaled_Bad.l1 k (wrap64 ((wrap64 ((wrap64 (low + high)) + 1)).tdiv 2)) high left cube)) else (some low)
end
def scaled_Bad.f (k : Nat) (a0 : Int) (a1 : Int) : Option Int := (scaled_Clamp.f k a0).bind fun r => (scaled_Clamp.f k a1).bind fun r2 => if (decide (r ≤ 0)) = true then (some 0) else (if (decide (r2 ≤ 0)) = true then (some 10000) else (if r2 ≠ 0 then (if (decide (5 ≤ (wrap64 (r.tdiv r2)))) = true then (some 10000) else (scaled_Bad.j0 k r r2)) else none))
def scaled_Bad.sig (k : Nat) : Sig := .p [(false, (.i .i64)), (false, (.i .i64))] [.c false (.i .i64)] fun x => scaled_Bad.f k x.1 x.2.1
def scaled_Bad.E (k : Nat) : List (Nat × Sig) := [(94, scaled_Clamp.sig k), (97, scaled_product.sig k), (98, scaled_wide_times.sig k), (99, scaled_smaller.sig k)]
def scaled_Bad.G (P : Program) : GI := ⟨P, TT, 59, 67, [(5, 59, 4), (6, 63, 4)], [], [], [], [], AD⟩
def scaled_Bad.H : H := .s .n (.s .n (.s .n (.j 0 .n (.s .n (.s .n (.s .n (.s (.s (.l 1 .n) .n) .n)))))))
abbrev scaled_Bad.j0_s : Sh := [(0, .v (.i .i64)), (1, .v (.i .i64))]
abbrev scaled_Bad.l1_s : Sh := [(5, .at_ 59), (6, .at_ 63), (7, .v (.i .i64)), (8, .v (.i .i64)), (59, .box y90), (63, .box y90)]
def scaled_Bad.O (k : Nat) : List (Orc (denR [.c false (.i .i64)])) := [⟨scaled_Bad.j0_s, fun y => scaled_Bad.j0 k y.1 y.2.1⟩, ⟨scaled_Bad.l1_s, fun y => scaled_Bad.l1 k y.2.2.1 y.2.2.2.1 y.2.2.2.2.1 y.2.2.2.2.2.1⟩]
theorem scaled_Bad.l1_e (k : Nat) (y : denS scaled_Bad.l1_s) : scaled_Bad.l1 (k + 1) y.2.2.1 y.2.2.2.1 y.2.2.2.2.1 y.2.2.2.2.2.1 = evP ((scaled_Bad.G Try.prog).at (scaled_Bad.E k)) (fun i => (scaled_Bad.O k)[i]?) [1, 1, 1, 1, 1, 1, 1, 0, 0, 0] (cd Try.f92) scaled_Bad.H (kFin ((scaled_Bad.G Try.prog).at (scaled_Bad.E k)) [.tmp 4] [.c false (.i .i64)]) (unS scaled_Bad.l1_s y) := by rw [scaled_Bad.l1]; kernel_rfl
theorem scaled_Bad.j0_e (k : Nat) (y : denS scaled_Bad.j0_s) : scaled_Bad.j0 (k + 1) y.1 y.2.1 = evP ((scaled_Bad.G Try.prog).at (scaled_Bad.E k)) (fun i => (scaled_Bad.O k)[i]?) [1, 1, 1, 1] (cd Try.f92) scaled_Bad.H (kFin ((scaled_Bad.G Try.prog).at (scaled_Bad.E k)) [.tmp 4] [.c false (.i .i64)]) (unS scaled_Bad.j0_s y) := by rw [scaled_Bad.j0]; kernel_rfl
theorem scaled_Bad.go : goesTo Try.prog 92 := ⟨_, Try.func92, by kernel_rfl, rfl⟩
theorem scaled_Bad.ok (k : Nat) : SigOk Try.prog 92 (scaled_Bad.sig k) :=
  fn_p (G := scaled_Bad.G Try.prog) (c := cd Try.f92) (rs := [.tmp 4]) (args := [(false, (.i .i64)), (false, (.i .i64))]) (l := [.c false (.i .i64)]) (fn := Try.f92) ⟨Try.func92, by kernel_rfl, by kernel_rfl, by kernel_rfl, le_of rfl, le_of rfl, TT_ok, AD_ok⟩ rfl scaled_Bad.E (fun k p hp => by
    simp only [scaled_Bad.E, List.mem_cons, List.not_mem_nil, or_false] at hp
    rcases hp with rfl | rfl | rfl | rfl
    · exact ⟨scaled_Clamp.ok k, scaled_Clamp.go⟩
    · exact ⟨scaled_product.ok k, scaled_product.go⟩
    · exact ⟨scaled_wide_times.ok k, scaled_wide_times.go⟩
    · exact ⟨scaled_smaller.ok k, scaled_smaller.go⟩)
    (fun k i => (scaled_Bad.O k)[i]?) scaled_Bad.H (fun k x => scaled_Bad.f k x.1 x.2.1)
    (fun id o y h => by
    have h' := List.mem_of_getElem? h
    simp only [scaled_Bad.O, List.mem_cons, List.not_mem_nil, or_false] at h'
    rcases h' with rfl | rfl <;> rfl)
    (fun k p hp => by
    rw [show pts (cd Try.f92) scaled_Bad.H = [(1, [1, 1, 1, 1, 1, 1, 1, 0, 0, 0]), (0, [1, 1, 1, 1])] by kernel_rfl] at hp
    simp only [List.mem_cons, List.not_mem_nil, or_false] at hp
    rcases hp with rfl | rfl
    · exact ptOk_of rfl (scaled_Bad.l1_e k)
    · exact ptOk_of rfl (scaled_Bad.j0_e k))
    (fun k x => by kernel_rfl) k
/-! reglet/scaled.size -/
def scaled_size.f (k : Nat) (a0 : Int) : Option Int := (scaled_Clamp.f k a0).bind fun r => if (decide (r < 0)) = true then (some (IntKind.u64.wrap (wrap64 (-r)))) else (some (IntKind.u64.wrap (r)))
def scaled_size.sig (k : Nat) : Sig := .p [(false, (.i .i64))] [.c false (.i .u64)] fun x => scaled_size.f k x.1
def scaled_size.E (k : Nat) : List (Nat × Sig) := [(94, scaled_Clamp.sig k)]
def scaled_size.G (P : Program) : GI := ⟨P, TT, 12, 12, [], [], [], [], [], AD⟩
def scaled_size.H : H := .n
def scaled_size.O (k : Nat) : List (Orc (denR [.c false (.i .u64)])) := []
theorem scaled_size.go : goesTo Try.prog 105 := ⟨_, Try.func105, by kernel_rfl, rfl⟩
theorem scaled_size.ok (k : Nat) : SigOk Try.prog 105 (scaled_size.sig k) :=
  fn_p (G := scaled_size.G Try.prog) (c := cd Try.f105) (rs := [.tmp 2]) (args := [(false, (.i .i64))]) (l := [.c false (.i .u64)]) (fn := Try.f105) ⟨Try.func105, by kernel_rfl, by kernel_rfl, by kernel_rfl, le_of rfl, le_of rfl, TT_ok, AD_ok⟩ rfl scaled_size.E (fun k p hp => by
    simp only [scaled_size.E, List.mem_cons, List.not_mem_nil, or_false] at hp
    rcases hp with rfl
    · exact ⟨scaled_Clamp.ok k, scaled_Clamp.go⟩)
    (fun k i => (scaled_size.O k)[i]?) scaled_size.H (fun k x => scaled_size.f k x.1)
    (fun id o y h => by cases id <;> cases h)
    (fun k p hp => by rw [show pts (cd Try.f105) scaled_size.H = [] by kernel_rfl] at hp; nomatch hp)
    (fun k x => by kernel_rfl) k
/-! reglet/scaled.Gcd -/
mutual
def scaled_Gcd.l0 : Nat → Int → Int → Option Int
  | 0, _, _ => none
  | k + 1, x, y => if (decide (0 < y)) = true then (if y ≠ 0 then (scaled_Gcd.l0 k y (x.tmod y)) else none) else (some (wrap64 (x)))
end
def scaled_Gcd.f (k : Nat) (a0 : Int) (a1 : Int) : Option Int := (scaled_size.f k a0).bind fun r => (scaled_size.f k a1).bind fun r2 => scaled_Gcd.l0 k r r2
def scaled_Gcd.sig (k : Nat) : Sig := .p [(false, (.i .i64)), (false, (.i .i64))] [.c false (.i .i64)] fun x => scaled_Gcd.f k x.1 x.2.1
def scaled_Gcd.E (k : Nat) : List (Nat × Sig) := [(105, scaled_size.sig k)]
def scaled_Gcd.G (P : Program) : GI := ⟨P, TT, 19, 19, [], [], [], [], [], AD⟩
def scaled_Gcd.H : H := .s .n (.s .n (.s (.s (.l 0 .n) .n) .n))
abbrev scaled_Gcd.l0_s : Sh := [(5, .v (.i .u64)), (6, .v (.i .u64))]
def scaled_Gcd.O (k : Nat) : List (Orc (denR [.c false (.i .i64)])) := [⟨scaled_Gcd.l0_s, fun y => scaled_Gcd.l0 k y.1 y.2.1⟩]
theorem scaled_Gcd.l0_e (k : Nat) (y : denS scaled_Gcd.l0_s) : scaled_Gcd.l0 (k + 1) y.1 y.2.1 = evP ((scaled_Gcd.G Try.prog).at (scaled_Gcd.E k)) (fun i => (scaled_Gcd.O k)[i]?) [1, 1, 0, 0, 0] (cd Try.f100) scaled_Gcd.H (kFin ((scaled_Gcd.G Try.prog).at (scaled_Gcd.E k)) [.tmp 4] [.c false (.i .i64)]) (unS scaled_Gcd.l0_s y) := by rw [scaled_Gcd.l0]; kernel_rfl
theorem scaled_Gcd.go : goesTo Try.prog 100 := ⟨_, Try.func100, by kernel_rfl, rfl⟩
theorem scaled_Gcd.ok (k : Nat) : SigOk Try.prog 100 (scaled_Gcd.sig k) :=
  fn_p (G := scaled_Gcd.G Try.prog) (c := cd Try.f100) (rs := [.tmp 4]) (args := [(false, (.i .i64)), (false, (.i .i64))]) (l := [.c false (.i .i64)]) (fn := Try.f100) ⟨Try.func100, by kernel_rfl, by kernel_rfl, by kernel_rfl, le_of rfl, le_of rfl, TT_ok, AD_ok⟩ rfl scaled_Gcd.E (fun k p hp => by
    simp only [scaled_Gcd.E, List.mem_cons, List.not_mem_nil, or_false] at hp
    rcases hp with rfl
    · exact ⟨scaled_size.ok k, scaled_size.go⟩)
    (fun k i => (scaled_Gcd.O k)[i]?) scaled_Gcd.H (fun k x => scaled_Gcd.f k x.1 x.2.1)
    (fun id o y h => by
    have h' := List.mem_of_getElem? h
    simp only [scaled_Gcd.O, List.mem_cons, List.not_mem_nil, or_false] at h'
    rcases h' with rfl <;> rfl)
    (fun k p hp => by
    rw [show pts (cd Try.f100) scaled_Gcd.H = [(0, [1, 1, 0, 0, 0])] by kernel_rfl] at hp
    simp only [List.mem_cons, List.not_mem_nil, or_false] at hp
    rcases hp with rfl
    · exact ptOk_of rfl (scaled_Gcd.l0_e k))
    (fun k x => by kernel_rfl) k
/-! reglet/scaled.Lowest -/
mutual
def scaled_Lowest.j0 : Nat → Int → Int → Option (Int × Int)
  | 0, _, _ => none
  | k + 1, a, b => (scaled_Gcd.f k a b).bind fun r3 => if r3 ≠ 0 then (if r3 ≠ 0 then (some (wrap64 (a.tdiv r3), wrap64 (b.tdiv r3))) else none) else none
end
def scaled_Lowest.f (k : Nat) (a0 : Int) (a1 : Int) : Option (Int × Int) := (scaled_Clamp.f k a0).bind fun r => (scaled_Clamp.f k a1).bind fun r2 => if (decide (r2 = 0)) = true then (some (0, 1)) else (if (decide (r2 < 0)) = true then (scaled_Lowest.j0 k (wrap64 (-r)) (wrap64 (-r2))) else (scaled_Lowest.j0 k r r2))
def scaled_Lowest.sig (k : Nat) : Sig := .p [(false, (.i .i64)), (false, (.i .i64))] [.c false (.i .i64), .c false (.i .i64)] fun x => scaled_Lowest.f k x.1 x.2.1
def scaled_Lowest.E (k : Nat) : List (Nat × Sig) := [(94, scaled_Clamp.sig k), (100, scaled_Gcd.sig k)]
def scaled_Lowest.G (P : Program) : GI := ⟨P, TT, 28, 28, [], [], [], [], [], AD⟩
def scaled_Lowest.H : H := .s .n (.s .n (.s .n (.j 0 .n .n)))
abbrev scaled_Lowest.j0_s : Sh := [(0, .v (.i .i64)), (1, .v (.i .i64))]
def scaled_Lowest.O (k : Nat) : List (Orc (denR [.c false (.i .i64), .c false (.i .i64)])) := [⟨scaled_Lowest.j0_s, fun y => scaled_Lowest.j0 k y.1 y.2.1⟩]
theorem scaled_Lowest.j0_e (k : Nat) (y : denS scaled_Lowest.j0_s) : scaled_Lowest.j0 (k + 1) y.1 y.2.1 = evP ((scaled_Lowest.G Try.prog).at (scaled_Lowest.E k)) (fun i => (scaled_Lowest.O k)[i]?) [1, 1, 1, 1] (cd Try.f93) scaled_Lowest.H (kFin ((scaled_Lowest.G Try.prog).at (scaled_Lowest.E k)) [.tmp 4, .tmp 5] [.c false (.i .i64), .c false (.i .i64)]) (unS scaled_Lowest.j0_s y) := by rw [scaled_Lowest.j0]; kernel_rfl
theorem scaled_Lowest.go : goesTo Try.prog 93 := ⟨_, Try.func93, by kernel_rfl, rfl⟩
theorem scaled_Lowest.ok (k : Nat) : SigOk Try.prog 93 (scaled_Lowest.sig k) :=
  fn_p (G := scaled_Lowest.G Try.prog) (c := cd Try.f93) (rs := [.tmp 4, .tmp 5]) (args := [(false, (.i .i64)), (false, (.i .i64))]) (l := [.c false (.i .i64), .c false (.i .i64)]) (fn := Try.f93) ⟨Try.func93, by kernel_rfl, by kernel_rfl, by kernel_rfl, le_of rfl, le_of rfl, TT_ok, AD_ok⟩ rfl scaled_Lowest.E (fun k p hp => by
    simp only [scaled_Lowest.E, List.mem_cons, List.not_mem_nil, or_false] at hp
    rcases hp with rfl | rfl
    · exact ⟨scaled_Clamp.ok k, scaled_Clamp.go⟩
    · exact ⟨scaled_Gcd.ok k, scaled_Gcd.go⟩)
    (fun k i => (scaled_Lowest.O k)[i]?) scaled_Lowest.H (fun k x => scaled_Lowest.f k x.1 x.2.1)
    (fun id o y h => by
    have h' := List.mem_of_getElem? h
    simp only [scaled_Lowest.O, List.mem_cons, List.not_mem_nil, or_false] at h'
    rcases h' with rfl <;> rfl)
    (fun k p hp => by
    rw [show pts (cd Try.f93) scaled_Lowest.H = [(0, [1, 1, 1, 1])] by kernel_rfl] at hp
    simp only [List.mem_cons, List.not_mem_nil, or_false] at hp
    rcases hp with rfl
    · exact ptOk_of rfl (scaled_Lowest.j0_e k))
    (fun k x => by kernel_rfl) k
/-! reglet/measure.Set -/
mutual
def measure_Set.j0 : Nat → Int → measure_Sum → api_Fit → api_Fit → Option api_Fit
  | 0, _, _, _, _ => none
  | k + 1, t, t2, t3, t4 => (scaled_Lowest.f k t t2.2.1).bind fun r5 => if (decide (12 < t4.2.2.1)) = true then (measure_Set.j3 k t3 (r5.1, r5.2, t4.2.2.1, 2, t4.2.2.2.2)) else (measure_Set.j3 k t3 (r5.1, r5.2, t4.2.2.1, t4.2.2.2.1, t4.2.2.2.2))
def measure_Set.j1 : Nat → measure_Sum → api_Fit → api_Fit → Option api_Fit
  | 0, _, _, _ => none
  | k + 1, t5, t6, t7 => if (decide (0 < t5.2.2.1)) = true then (some ((-1), t7.2.1, t7.2.2.1, t7.2.2.2.1, t7.2.2.2.2)) else (some t7)
def measure_Set.j2 : Nat → Int → measure_Sum → api_Fit → Option api_Fit
  | 0, _, _, _ => none
  | k + 1, t8, t9, t10 => (scaled_Bad.f k (wrap64 (-t8)) t9.2.2.1).bind fun r6 => (scaled_Lowest.f k t8 t9.2.2.1).bind fun r7 => if (decide (12 < r6)) = true then (some (r7.1, r7.2, r6, 0, (false))) else (some (r7.1, r7.2, r6, 1, (false)))
def measure_Set.j3 : Nat → api_Fit → api_Fit → Option api_Fit
  | 0, _, _ => none
  | k + 1, t11, t12 => if (decide (99 < t12.2.2.1)) = true then (some (t12.1, t12.2.1, t12.2.2.1, 3, t12.2.2.2.2)) else (some t12)
end
def measure_Set.f (k : Nat) (a0 : measure_Sum) (a1 : Int) : Option api_Fit := if (decide ((wrap64 (a1 - a0.1)) = 0)) = true then (some (0, 1, 0, 1, (false))) else (if (decide (0 < (wrap64 (a1 - a0.1)))) = true then (if (decide (0 < a0.2.2.2)) = true then (some (0, 1, 0, 1, (false))) else (if (decide (0 < (wrap64 (a1 - a0.1)))) = true then (if (decide (a0.2.1 = 0)) = true then (some (0, 1, 10000, 3, (false))) else (if (decide (0 < (wrap64 (a1 - a0.1)))) = true then ((scaled_Bad.f k (wrap64 (a1 - a0.1)) a0.2.1).bind fun r => measure_Set.j0 k (wrap64 (a1 - a0.1)) a0 (0, 0, 0, 0, (false)) (0, 0, r, 1, (false))) else (if (decide (a0.2.2.1 < (wrap64 (-(wrap64 (a1 - a0.1)))))) = true then (measure_Set.j1 k a0 (0, 0, 0, 0, (false)) (0, 1, 10000, 0, (true))) else (measure_Set.j2 k (wrap64 (a1 - a0.1)) a0 (0, 0, 0, 0, (false)))))) else (if (decide (0 < (wrap64 (a1 - a0.1)))) = true then ((scaled_Bad.f k (wrap64 (a1 - a0.1)) a0.2.1).bind fun r2 => measure_Set.j0 k (wrap64 (a1 - a0.1)) a0 (0, 0, 0, 0, (false)) (0, 0, r2, 1, (false))) else (if (decide (a0.2.2.1 < (wrap64 (-(wrap64 (a1 - a0.1)))))) = true then (measure_Set.j1 k a0 (0, 0, 0, 0, (false)) (0, 1, 10000, 0, (true))) else (measure_Set.j2 k (wrap64 (a1 - a0.1)) a0 (0, 0, 0, 0, (false))))))) else (if (decide (0 < (wrap64 (a1 - a0.1)))) = true then (if (decide (a0.2.1 = 0)) = true then (some (0, 1, 10000, 3, (false))) else (if (decide (0 < (wrap64 (a1 - a0.1)))) = true then ((scaled_Bad.f k (wrap64 (a1 - a0.1)) a0.2.1).bind fun r3 => measure_Set.j0 k (wrap64 (a1 - a0.1)) a0 (0, 0, 0, 0, (false)) (0, 0, r3, 1, (false))) else (if (decide (a0.2.2.1 < (wrap64 (-(wrap64 (a1 - a0.1)))))) = true then (measure_Set.j1 k a0 (0, 0, 0, 0, (false)) (0, 1, 10000, 0, (true))) else (measure_Set.j2 k (wrap64 (a1 - a0.1)) a0 (0, 0, 0, 0, (false)))))) else (if (decide (0 < (wrap64 (a1 - a0.1)))) = true then ((scaled_Bad.f k (wrap64 (a1 - a0.1)) a0.2.1).bind fun r4 => measure_Set.j0 k (wrap64 (a1 - a0.1)) a0 (0, 0, 0, 0, (false)) (0, 0, r4, 1, (false))) else (if (decide (a0.2.2.1 < (wrap64 (-(wrap64 (a1 - a0.1)))))) = true then (measure_Set.j1 k a0 (0, 0, 0, 0, (false)) (0, 1, 10000, 0, (true))) else (measure_Set.j2 k (wrap64 (a1 - a0.1)) a0 (0, 0, 0, 0, (false)))))))
def measure_Set.sig (k : Nat) : Sig := .p [(true, y45), (false, (.i .i64))] [.c true y93] fun x => measure_Set.f k x.1 x.2.1
def measure_Set.E (k : Nat) : List (Nat × Sig) := [(92, scaled_Bad.sig k), (93, scaled_Lowest.sig k)]
def measure_Set.G (P : Program) : GI := ⟨P, TT, 93, 117, [(2, 93, 4), (4, 97, 5), (6, 102, 5), (7, 107, 5), (8, 112, 5)], [], [], [], [], AD⟩
def measure_Set.H : H := .s .n (.s .n (.j 2 (.s (.s .n (.s .n (.s .n (.s .n (.s .n (.s (.j 0 .n (.s .n (.j 3 .n .n))) (.s .n (.s (.j 1 .n .n) .n)))))))) .n) .n))
abbrev measure_Set.j0_s : Sh := [(2, .at_ 93), (4, .at_ 97), (5, .v (.i .i64)), (6, .at_ 102), (93, .box y45), (97, .box y93), (102, .box y93)]
abbrev measure_Set.j1_s : Sh := [(2, .at_ 93), (4, .at_ 97), (7, .at_ 107), (93, .box y45), (97, .box y93), (107, .box y93)]
abbrev measure_Set.j2_s : Sh := [(2, .at_ 93), (4, .at_ 97), (5, .v (.i .i64)), (93, .box y45), (97, .box y93)]
abbrev measure_Set.j3_s : Sh := [(4, .at_ 97), (6, .at_ 102), (97, .box y93), (102, .box y93)]
def measure_Set.O (k : Nat) : List (Orc (denR [.c true y93])) := [⟨measure_Set.j0_s, fun y => measure_Set.j0 k y.2.2.1 y.2.2.2.2.1 y.2.2.2.2.2.1 y.2.2.2.2.2.2.1⟩, ⟨measure_Set.j1_s, fun y => measure_Set.j1 k y.2.2.2.1 y.2.2.2.2.1 y.2.2.2.2.2.1⟩, ⟨measure_Set.j2_s, fun y => measure_Set.j2 k y.2.2.1 y.2.2.2.1 y.2.2.2.2.1⟩, ⟨measure_Set.j3_s, fun y => measure_Set.j3 k y.2.2.1 y.2.2.2.1⟩]
theorem measure_Set.j3_e (k : Nat) (y : denS measure_Set.j3_s) : measure_Set.j3 (k + 1) y.2.2.1 y.2.2.2.1 = evP ((measure_Set.G Try.prog).at (measure_Set.E k)) (fun i => (measure_Set.O k)[i]?) [1, 1, 0, 0, 1, 1, 1, 1, 1, 0, 1, 1, 1] (cd Try.f76) measure_Set.H (kFin ((measure_Set.G Try.prog).at (measure_Set.E k)) [.cell 4 108] [.c true y93]) (unS measure_Set.j3_s y) := by rw [measure_Set.j3]; kernel_rfl
theorem measure_Set.j0_e (k : Nat) (y : denS measure_Set.j0_s) : measure_Set.j0 (k + 1) y.2.2.1 y.2.2.2.2.1 y.2.2.2.2.2.1 y.2.2.2.2.2.2.1 = evP ((measure_Set.G Try.prog).at (measure_Set.E k)) (fun i => (measure_Set.O k)[i]?) [1, 1, 0, 0, 1, 1, 1, 1, 1, 0, 1] (cd Try.f76) measure_Set.H (kFin ((measure_Set.G Try.prog).at (measure_Set.E k)) [.cell 4 108] [.c true y93]) (unS measure_Set.j0_s y) := by rw [measure_Set.j0]; kernel_rfl
theorem measure_Set.j1_e (k : Nat) (y : denS measure_Set.j1_s) : measure_Set.j1 (k + 1) y.2.2.2.1 y.2.2.2.2.1 y.2.2.2.2.2.1 = evP ((measure_Set.G Try.prog).at (measure_Set.E k)) (fun i => (measure_Set.O k)[i]?) [1, 1, 0, 0, 1, 1, 1, 1, 1, 1, 1, 0, 1] (cd Try.f76) measure_Set.H (kFin ((measure_Set.G Try.prog).at (measure_Set.E k)) [.cell 4 108] [.c true y93]) (unS measure_Set.j1_s y) := by rw [measure_Set.j1]; kernel_rfl
theorem measure_Set.j2_e (k : Nat) (y : denS measure_Set.j2_s) : measure_Set.j2 (k + 1) y.2.2.1 y.2.2.2.1 y.2.2.2.2.1 = evP ((measure_Set.G Try.prog).at (measure_Set.E k)) (fun i => (measure_Set.O k)[i]?) [1, 1, 1] (cd Try.f76) measure_Set.H (kFin ((measure_Set.G Try.prog).at (measure_Set.E k)) [.cell 4 108] [.c true y93]) (unS measure_Set.j2_s y) := by rw [measure_Set.j2]; kernel_rfl
theorem measure_Set.go : goesTo Try.prog 76 := ⟨_, Try.func76, by kernel_rfl, rfl⟩
theorem measure_Set.ok (k : Nat) : SigOk Try.prog 76 (measure_Set.sig k) :=
  fn_p (G := measure_Set.G Try.prog) (c := cd Try.f76) (rs := [.cell 4 108]) (args := [(true, y45), (false, (.i .i64))]) (l := [.c true y93]) (fn := Try.f76) ⟨Try.func76, by kernel_rfl, by kernel_rfl, by kernel_rfl, le_of rfl, le_of rfl, TT_ok, AD_ok⟩ rfl measure_Set.E (fun k p hp => by
    simp only [measure_Set.E, List.mem_cons, List.not_mem_nil, or_false] at hp
    rcases hp with rfl | rfl
    · exact ⟨scaled_Bad.ok k, scaled_Bad.go⟩
    · exact ⟨scaled_Lowest.ok k, scaled_Lowest.go⟩)
    (fun k i => (measure_Set.O k)[i]?) measure_Set.H (fun k x => measure_Set.f k x.1 x.2.1)
    (fun id o y h => by
    have h' := List.mem_of_getElem? h
    simp only [measure_Set.O, List.mem_cons, List.not_mem_nil, or_false] at h'
    rcases h' with rfl | rfl | rfl | rfl <;> rfl)
    (fun k p hp => by
    rw [show pts (cd Try.f76) measure_Set.H = [(3, [1, 1, 0, 0, 1, 1, 1, 1, 1, 0, 1, 1, 1]), (0, [1, 1, 0, 0, 1, 1, 1, 1, 1, 0, 1]), (1, [1, 1, 0, 0, 1, 1, 1, 1, 1, 1, 1, 0, 1]), (2, [1, 1, 1])] by kernel_rfl] at hp
    simp only [List.mem_cons, List.not_mem_nil, or_false] at hp
    rcases hp with rfl | rfl | rfl | rfl
    · exact ptOk_of rfl (measure_Set.j3_e k)
    · exact ptOk_of rfl (measure_Set.j0_e k)
    · exact ptOk_of rfl (measure_Set.j1_e k)
    · exact ptOk_of rfl (measure_Set.j2_e k))
    (fun k x => by kernel_rfl) k
/-! (*reglet/measure.Para).Start -/
def measure_Para_Start.f (k : Nat) (a0 : List api_Item × List Int × List Int × List Int × List Int × List Int × Int × List Int) (a1 : Int) : Option Int := if (decide (a1 < 0)) = true then (some 0) else (if (decide ((wrap64 ((a0.1.length : Int) - 1)) ≤ a1)) = true then (some (a0.1.length : Int)) else ((at? a0.2.2.2.2.2.1 (wrap64 (a1 + 1))).bind fun e => some e))
def measure_Para_Start.sig (k : Nat) : Sig := .p [(false, y65), (false, (.i .i64))] [.c false (.i .i64)] fun x => measure_Para_Start.f k x.1 x.2.1
def measure_Para_Start.E (k : Nat) : List (Nat × Sig) := []
def measure_Para_Start.G (P : Program) : GI := ⟨P, TT, 30, 30, [], [], [], [], [], AD⟩
def measure_Para_Start.H : H := .n
def measure_Para_Start.O (k : Nat) : List (Orc (denR [.c false (.i .i64)])) := []
theorem measure_Para_Start.go : goesTo Try.prog 75 := ⟨_, Try.func75, by kernel_rfl, rfl⟩
theorem measure_Para_Start.ok (k : Nat) : SigOk Try.prog 75 (measure_Para_Start.sig k) :=
  fn_p (G := measure_Para_Start.G Try.prog) (c := cd Try.f75) (rs := [.tmp 4]) (args := [(false, y65), (false, (.i .i64))]) (l := [.c false (.i .i64)]) (fn := Try.f75) ⟨Try.func75, by kernel_rfl, by kernel_rfl, by kernel_rfl, le_of rfl, le_of rfl, TT_ok, AD_ok⟩ rfl measure_Para_Start.E (fun k p hp => nomatch hp)
    (fun k i => (measure_Para_Start.O k)[i]?) measure_Para_Start.H (fun k x => measure_Para_Start.f k x.1 x.2.1)
    (fun id o y h => by cases id <;> cases h)
    (fun k p hp => by rw [show pts (cd Try.f75) measure_Para_Start.H = [] by kernel_rfl] at hp; nomatch hp)
    (fun k x => by kernel_rfl) k
/-! (*reglet/measure.Para).Line -/
mutual
def measure_Para_Line.j0 : Nat → (List api_Item × List Int × List Int × List Int × List Int × List Int × Int × List Int) → Int → Int → measure_Sum → Option measure_Sum
  | 0, _, _, _, _ => none
  | k + 1, t, t2, t3, t4 => (measure_Para_Start.f k t t2).bind fun r => (at? t.2.1 t3).bind fun e => (at? t.2.1 (if t3 < r then t3 else r)).bind fun e2 => (at? t.2.2.1 t3).bind fun e3 => (at? t.2.2.1 (if t3 < r then t3 else r)).bind fun e4 => (at? t.2.2.2.1 t3).bind fun e5 => (at? t.2.2.2.1 (if t3 < r then t3 else r)).bind fun e6 => (at? t.2.2.2.2.1 t3).bind fun e7 => (at? t.2.2.2.2.1 (if t3 < r then t3 else r)).bind fun e8 => (at? t.1 t3).bind fun e9 => if (decide (e9.1 = 3)) = true then ((at? t.1 t3).bind fun e10 => some (wrap64 ((wrap64 (e - e2)) + e10.2.1), wrap64 (e3 - e4), wrap64 (e5 - e6), wrap64 (e7 - e8))) else (some (wrap64 (e - e2), wrap64 (e3 - e4), wrap64 (e5 - e6), wrap64 (e7 - e8)))
end
def measure_Para_Line.f (k : Nat) (a0 : List api_Item × List Int × List Int × List Int × List Int × List Int × Int × List Int) (a1 : Int) (a2 : Int) : Option measure_Sum := if (decide (a2 < 0)) = true then (some (0, 0, 0, 0)) else (if (decide ((a0.1.length : Int) ≤ a2)) = true then (some (0, 0, 0, 0)) else (measure_Para_Line.j0 k a0 a1 a2 (0, 0, 0, 0)))
def measure_Para_Line.sig (k : Nat) : Sig := .p [(false, y65), (false, (.i .i64)), (false, (.i .i64))] [.c true y45] fun x => measure_Para_Line.f k x.1 x.2.1 x.2.2.1
def measure_Para_Line.E (k : Nat) : List (Nat × Sig) := [(75, measure_Para_Start.sig k)]
def measure_Para_Line.G (P : Program) : GI := ⟨P, TT, 109, 117, [(6, 109, 4), (8, 113, 4)], [], [], [], [], AD⟩
def measure_Para_Line.H : H := .s .n (.j 0 .n .n)
abbrev measure_Para_Line.j0_s : Sh := [(0, .v y65), (1, .v (.i .i64)), (2, .v (.i .i64)), (6, .at_ 109), (109, .box y45)]
def measure_Para_Line.O (k : Nat) : List (Orc (denR [.c true y45])) := [⟨measure_Para_Line.j0_s, fun y => measure_Para_Line.j0 k y.1 y.2.1 y.2.2.1 y.2.2.2.2.1⟩]
theorem measure_Para_Line.j0_e (k : Nat) (y : denS measure_Para_Line.j0_s) : measure_Para_Line.j0 (k + 1) y.1 y.2.1 y.2.2.1 y.2.2.2.2.1 = evP ((measure_Para_Line.G Try.prog).at (measure_Para_Line.E k)) (fun i => (measure_Para_Line.O k)[i]?) [1, 1] (cd Try.f77) measure_Para_Line.H (kFin ((measure_Para_Line.G Try.prog).at (measure_Para_Line.E k)) [.cell 6 142] [.c true y45]) (unS measure_Para_Line.j0_s y) := by rw [measure_Para_Line.j0]; kernel_rfl
theorem measure_Para_Line.go : goesTo Try.prog 77 := ⟨_, Try.func77, by kernel_rfl, rfl⟩
theorem measure_Para_Line.ok (k : Nat) : SigOk Try.prog 77 (measure_Para_Line.sig k) :=
  fn_p (G := measure_Para_Line.G Try.prog) (c := cd Try.f77) (rs := [.cell 6 142]) (args := [(false, y65), (false, (.i .i64)), (false, (.i .i64))]) (l := [.c true y45]) (fn := Try.f77) ⟨Try.func77, by kernel_rfl, by kernel_rfl, by kernel_rfl, le_of rfl, le_of rfl, TT_ok, AD_ok⟩ rfl measure_Para_Line.E (fun k p hp => by
    simp only [measure_Para_Line.E, List.mem_cons, List.not_mem_nil, or_false] at hp
    rcases hp with rfl
    · exact ⟨measure_Para_Start.ok k, measure_Para_Start.go⟩)
    (fun k i => (measure_Para_Line.O k)[i]?) measure_Para_Line.H (fun k x => measure_Para_Line.f k x.1 x.2.1 x.2.2.1)
    (fun id o y h => by
    have h' := List.mem_of_getElem? h
    simp only [measure_Para_Line.O, List.mem_cons, List.not_mem_nil, or_false] at h'
    rcases h' with rfl <;> rfl)
    (fun k p hp => by
    rw [show pts (cd Try.f77) measure_Para_Line.H = [(0, [1, 1])] by kernel_rfl] at hp
    simp only [List.mem_cons, List.not_mem_nil, or_false] at hp
    rcases hp with rfl
    · exact ptOk_of rfl (measure_Para_Line.j0_e k))
    (fun k x => by kernel_rfl) k
/-! (*reglet/measure.Para).Fit -/
def measure_Para_Fit.f (k : Nat) (a0 : List api_Item × List Int × List Int × List Int × List Int × List Int × Int × List Int) (a1 : Int) (a2 : Int) (a3 : Int) : Option api_Fit := (measure_Para_Line.f k a0 a1 a2).bind fun r => (measure_Set.f k r a3).bind fun r2 => some r2
def measure_Para_Fit.sig (k : Nat) : Sig := .p [(false, y65), (false, (.i .i64)), (false, (.i .i64)), (false, (.i .i64))] [.c true y93] fun x => measure_Para_Fit.f k x.1 x.2.1 x.2.2.1 x.2.2.2.1
def measure_Para_Fit.E (k : Nat) : List (Nat × Sig) := [(76, measure_Set.sig k), (77, measure_Para_Line.sig k)]
def measure_Para_Fit.G (P : Program) : GI := ⟨P, TT, 15, 20, [(8, 15, 5)], [], [], [], [], AD⟩
def measure_Para_Fit.H : H := .n
def measure_Para_Fit.O (k : Nat) : List (Orc (denR [.c true y93])) := []
theorem measure_Para_Fit.go : goesTo Try.prog 48 := ⟨_, Try.func48, by kernel_rfl, rfl⟩
theorem measure_Para_Fit.ok (k : Nat) : SigOk Try.prog 48 (measure_Para_Fit.sig k) :=
  fn_p (G := measure_Para_Fit.G Try.prog) (c := cd Try.f48) (rs := [.cell 8 108]) (args := [(false, y65), (false, (.i .i64)), (false, (.i .i64)), (false, (.i .i64))]) (l := [.c true y93]) (fn := Try.f48) ⟨Try.func48, by kernel_rfl, by kernel_rfl, by kernel_rfl, le_of rfl, le_of rfl, TT_ok, AD_ok⟩ rfl measure_Para_Fit.E (fun k p hp => by
    simp only [measure_Para_Fit.E, List.mem_cons, List.not_mem_nil, or_false] at hp
    rcases hp with rfl | rfl
    · exact ⟨measure_Set.ok k, measure_Set.go⟩
    · exact ⟨measure_Para_Line.ok k, measure_Para_Line.go⟩)
    (fun k i => (measure_Para_Fit.O k)[i]?) measure_Para_Fit.H (fun k x => measure_Para_Fit.f k x.1 x.2.1 x.2.2.1 x.2.2.2.1)
    (fun id o y h => by cases id <;> cases h)
    (fun k p hp => by rw [show pts (cd Try.f48) measure_Para_Fit.H = [] by kernel_rfl] at hp; nomatch hp)
    (fun k x => by kernel_rfl) k
/-! (*reglet/breaks.search).may -/
def breaks_search_may.f (k : Nat) (a0 : (List api_Item × List Int × List Int × List Int × List Int × List Int × Int × List Int) × Int × Int × Int × Int × Int × Int × Int × Int × Bool × List measure_Sum × List Int) (a1 : api_Fit) (a2 : Bool) : Option Bool := if (!a0.2.2.2.2.2.2.2.2.2.1) = true then (if (!a1.2.2.2.2) = true then (some (decide (a1.2.2.1 ≤ a0.2.2.1))) else (some false)) else (if a1.2.2.2.2 = true then (some a2) else (some true))
def breaks_search_may.sig (k : Nat) : Sig := .p [(false, y106), (true, y93), (false, .b)] [.c false .b] fun x => breaks_search_may.f k x.1 x.2.1 x.2.2.1
def breaks_search_may.E (k : Nat) : List (Nat × Sig) := []
def breaks_search_may.G (P : Program) : GI := ⟨P, TT, 30, 35, [(4, 30, 5)], [], [], [], [], AD⟩
def breaks_search_may.H : H := .n
def breaks_search_may.O (k : Nat) : List (Orc (denR [.c false .b])) := []
theorem breaks_search_may.go : goesTo Try.prog 90 := ⟨_, Try.func90, by kernel_rfl, rfl⟩
theorem breaks_search_may.ok (k : Nat) : SigOk Try.prog 90 (breaks_search_may.sig k) :=
  fn_p (G := breaks_search_may.G Try.prog) (c := cd Try.f90) (rs := [.tmp 6]) (args := [(false, y106), (true, y93), (false, .b)]) (l := [.c false .b]) (fn := Try.f90) ⟨Try.func90, by kernel_rfl, by kernel_rfl, by kernel_rfl, le_of rfl, le_of rfl, TT_ok, AD_ok⟩ rfl breaks_search_may.E (fun k p hp => nomatch hp)
    (fun k i => (breaks_search_may.O k)[i]?) breaks_search_may.H (fun k x => breaks_search_may.f k x.1 x.2.1 x.2.2.1)
    (fun id o y h => by cases id <;> cases h)
    (fun k p hp => by rw [show pts (cd Try.f90) breaks_search_may.H = [] by kernel_rfl] at hp; nomatch hp)
    (fun k x => by kernel_rfl) k
/-! (*reglet/breaks.search).line -/
def breaks_search_line.f (k : Nat) (a0 : (List api_Item × List Int × List Int × List Int × List Int × List Int × Int × List Int) × Int × Int × Int × Int × Int × Int × Int × Int × Bool × List measure_Sum × List Int) (a1 : Int) (a2 : Int) : Option (api_Fit × Bool) := (measure_Para_End.f k a0.1 a1).bind fun r => (measure_Para_End.f k a0.1 a2).bind fun r2 => (measure_Para_Fit.f k a0.1 r r2 a0.2.1).bind fun r3 => (breaks_search_may.f k a0 r3 (decide (a2 = (wrap64 (a1 + 1))))).bind fun r4 => some (r3, r4)
def breaks_search_line.sig (k : Nat) : Sig := .p [(false, y106), (false, (.i .i64)), (false, (.i .i64))] [.c true y93, .c false .b] fun x => breaks_search_line.f k x.1 x.2.1 x.2.2.1
def breaks_search_line.E (k : Nat) : List (Nat × Sig) := [(48, measure_Para_Fit.sig k), (70, measure_Para_End.sig k), (90, breaks_search_may.sig k)]
def breaks_search_line.G (P : Program) : GI := ⟨P, TT, 38, 48, [(6, 38, 5), (8, 43, 5)], [], [], [], [], AD⟩
def breaks_search_line.H : H := .n
def breaks_search_line.O (k : Nat) : List (Orc (denR [.c true y93, .c false .b])) := []
theorem breaks_search_line.go : goesTo Try.prog 72 := ⟨_, Try.func72, by kernel_rfl, rfl⟩
theorem breaks_search_line.ok (k : Nat) : SigOk Try.prog 72 (breaks_search_line.sig k) :=
  fn_p (G := breaks_search_line.G Try.prog) (c := cd Try.f72) (rs := [.cell 6 108, .tmp 7]) (args := [(false, y106), (false, (.i .i64)), (false, (.i .i64))]) (l := [.c true y93, .c false .b]) (fn := Try.f72) ⟨Try.func72, by kernel_rfl, by kernel_rfl, by kernel_rfl, le_of rfl, le_of rfl, TT_ok, AD_ok⟩ rfl breaks_search_line.E (fun k p hp => by
    simp only [breaks_search_line.E, List.mem_cons, List.not_mem_nil, or_false] at hp
    rcases hp with rfl | rfl | rfl
    · exact ⟨measure_Para_Fit.ok k, measure_Para_Fit.go⟩
    · exact ⟨measure_Para_End.ok k, measure_Para_End.go⟩
    · exact ⟨breaks_search_may.ok k, breaks_search_may.go⟩)
    (fun k i => (breaks_search_line.O k)[i]?) breaks_search_line.H (fun k x => breaks_search_line.f k x.1 x.2.1 x.2.2.1)
    (fun id o y h => by cases id <;> cases h)
    (fun k p hp => by rw [show pts (cd Try.f72) breaks_search_line.H = [] by kernel_rfl] at hp; nomatch hp)
    (fun k x => by kernel_rfl) k
/-! reglet/measure.Total -/
def measure_Total.f (k : Nat) (a0 : Int) (a1 : Int) : Option Int := (scaled_Add.f k a0 a1).bind fun r => some (if 1125899906842624 < r then 1125899906842624 else r)
def measure_Total.sig (k : Nat) : Sig := .p [(false, (.i .i64)), (false, (.i .i64))] [.c false (.i .i64)] fun x => measure_Total.f k x.1 x.2.1
def measure_Total.E (k : Nat) : List (Nat × Sig) := [(85, scaled_Add.sig k)]
def measure_Total.G (P : Program) : GI := ⟨P, TT, 9, 9, [], [], [], [], [], AD⟩
def measure_Total.H : H := .n
def measure_Total.O (k : Nat) : List (Orc (denR [.c false (.i .i64)])) := []
theorem measure_Total.go : goesTo Try.prog 73 := ⟨_, Try.func73, by kernel_rfl, rfl⟩
theorem measure_Total.ok (k : Nat) : SigOk Try.prog 73 (measure_Total.sig k) :=
  fn_p (G := measure_Total.G Try.prog) (c := cd Try.f73) (rs := [.tmp 4]) (args := [(false, (.i .i64)), (false, (.i .i64))]) (l := [.c false (.i .i64)]) (fn := Try.f73) ⟨Try.func73, by kernel_rfl, by kernel_rfl, by kernel_rfl, le_of rfl, le_of rfl, TT_ok, AD_ok⟩ rfl measure_Total.E (fun k p hp => by
    simp only [measure_Total.E, List.mem_cons, List.not_mem_nil, or_false] at hp
    rcases hp with rfl
    · exact ⟨scaled_Add.ok k, scaled_Add.go⟩)
    (fun k i => (measure_Total.O k)[i]?) measure_Total.H (fun k x => measure_Total.f k x.1 x.2.1)
    (fun id o y h => by cases id <;> cases h)
    (fun k p hp => by rw [show pts (cd Try.f73) measure_Total.H = [] by kernel_rfl] at hp; nomatch hp)
    (fun k x => by kernel_rfl) k
/-! reglet/scaled.signed -/
mutual
def scaled_signed.j0 : Nat → Bool → Int → Option Int
  | 0, _, _ => none
  | k + 1, neg, n => if neg = true then (some (wrap64 (-n))) else (some n)
end
def scaled_signed.f (k : Nat) (a0 : Bool) (a1 : Int) (a2 : Int) : Option Int := if (decide (a1 = 0)) = true then (if (decide (a2 < 1152921504606846976)) = true then (scaled_signed.j0 k a0 (wrap64 (a2))) else (scaled_signed.j0 k a0 1152921504606846976)) else (scaled_signed.j0 k a0 1152921504606846976)
def scaled_signed.sig (k : Nat) : Sig := .p [(false, .b), (false, (.i .u64)), (false, (.i .u64))] [.c false (.i .i64)] fun x => scaled_signed.f k x.1 x.2.1 x.2.2.1
def scaled_signed.E (k : Nat) : List (Nat × Sig) := []
def scaled_signed.G (P : Program) : GI := ⟨P, TT, 20, 20, [], [], [], [], [], AD⟩
def scaled_signed.H : H := .s .n (.s .n (.j 0 .n .n))
abbrev scaled_signed.j0_s : Sh := [(0, .v .b), (7, .v (.i .i64))]
def scaled_signed.O (k : Nat) : List (Orc (denR [.c false (.i .i64)])) := [⟨scaled_signed.j0_s, fun y => scaled_signed.j0 k y.1 y.2.1⟩]
theorem scaled_signed.j0_e (k : Nat) (y : denS scaled_signed.j0_s) : scaled_signed.j0 (k + 1) y.1 y.2.1 = evP ((scaled_signed.G Try.prog).at (scaled_signed.E k)) (fun i => (scaled_signed.O k)[i]?) [1, 1, 1] (cd Try.f106) scaled_signed.H (kFin ((scaled_signed.G Try.prog).at (scaled_signed.E k)) [.tmp 6] [.c false (.i .i64)]) (unS scaled_signed.j0_s y) := by rw [scaled_signed.j0]; kernel_rfl
theorem scaled_signed.go : goesTo Try.prog 106 := ⟨_, Try.func106, by kernel_rfl, rfl⟩
theorem scaled_signed.ok (k : Nat) : SigOk Try.prog 106 (scaled_signed.sig k) :=
  fn_p (G := scaled_signed.G Try.prog) (c := cd Try.f106) (rs := [.tmp 6]) (args := [(false, .b), (false, (.i .u64)), (false, (.i .u64))]) (l := [.c false (.i .i64)]) (fn := Try.f106) ⟨Try.func106, by kernel_rfl, by kernel_rfl, by kernel_rfl, le_of rfl, le_of rfl, TT_ok, AD_ok⟩ rfl scaled_signed.E (fun k p hp => nomatch hp)
    (fun k i => (scaled_signed.O k)[i]?) scaled_signed.H (fun k x => scaled_signed.f k x.1 x.2.1 x.2.2.1)
    (fun id o y h => by
    have h' := List.mem_of_getElem? h
    simp only [scaled_signed.O, List.mem_cons, List.not_mem_nil, or_false] at h'
    rcases h' with rfl <;> rfl)
    (fun k p hp => by
    rw [show pts (cd Try.f106) scaled_signed.H = [(0, [1, 1, 1])] by kernel_rfl] at hp
    simp only [List.mem_cons, List.not_mem_nil, or_false] at hp
    rcases hp with rfl
    · exact ptOk_of rfl (scaled_signed.j0_e k))
    (fun k x => by kernel_rfl) k
/-! reglet/scaled.Mul -/
def scaled_Mul.f (k : Nat) (a0 : Int) (a1 : Int) : Option Int := (scaled_size.f k a0).bind fun r => (scaled_size.f k a1).bind fun r2 => (bits_Mul64.f k r r2).bind fun r3 => (scaled_signed.f k (!decide ((decide (a0 < 0)) = (decide (a1 < 0)))) r3.1 r3.2).bind fun r4 => some r4
def scaled_Mul.sig (k : Nat) : Sig := .p [(false, (.i .i64)), (false, (.i .i64))] [.c false (.i .i64)] fun x => scaled_Mul.f k x.1 x.2.1
def scaled_Mul.E (k : Nat) : List (Nat × Sig) := [(103, bits_Mul64.sig k), (105, scaled_size.sig k), (106, scaled_signed.sig k)]
def scaled_Mul.G (P : Program) : GI := ⟨P, TT, 23, 23, [], [], [], [], [], AD⟩
def scaled_Mul.H : H := .n
def scaled_Mul.O (k : Nat) : List (Orc (denR [.c false (.i .i64)])) := []
theorem scaled_Mul.go : goesTo Try.prog 101 := ⟨_, Try.func101, by kernel_rfl, rfl⟩
theorem scaled_Mul.ok (k : Nat) : SigOk Try.prog 101 (scaled_Mul.sig k) :=
  fn_p (G := scaled_Mul.G Try.prog) (c := cd Try.f101) (rs := [.tmp 4]) (args := [(false, (.i .i64)), (false, (.i .i64))]) (l := [.c false (.i .i64)]) (fn := Try.f101) ⟨Try.func101, by kernel_rfl, by kernel_rfl, by kernel_rfl, le_of rfl, le_of rfl, TT_ok, AD_ok⟩ rfl scaled_Mul.E (fun k p hp => by
    simp only [scaled_Mul.E, List.mem_cons, List.not_mem_nil, or_false] at hp
    rcases hp with rfl | rfl | rfl
    · exact ⟨bits_Mul64.ok k, bits_Mul64.go⟩
    · exact ⟨scaled_size.ok k, scaled_size.go⟩
    · exact ⟨scaled_signed.ok k, scaled_signed.go⟩)
    (fun k i => (scaled_Mul.O k)[i]?) scaled_Mul.H (fun k x => scaled_Mul.f k x.1 x.2.1)
    (fun id o y h => by cases id <;> cases h)
    (fun k p hp => by rw [show pts (cd Try.f101) scaled_Mul.H = [] by kernel_rfl] at hp; nomatch hp)
    (fun k x => by kernel_rfl) k
/-! reglet/scaled.Neg -/
def scaled_Neg.f (k : Nat) (a0 : Int) : Option Int := (scaled_Clamp.f k a0).bind fun r => some (wrap64 (-r))
def scaled_Neg.sig (k : Nat) : Sig := .p [(false, (.i .i64))] [.c false (.i .i64)] fun x => scaled_Neg.f k x.1
def scaled_Neg.E (k : Nat) : List (Nat × Sig) := [(94, scaled_Clamp.sig k)]
def scaled_Neg.G (P : Program) : GI := ⟨P, TT, 6, 6, [], [], [], [], [], AD⟩
def scaled_Neg.H : H := .n
def scaled_Neg.O (k : Nat) : List (Orc (denR [.c false (.i .i64)])) := []
theorem scaled_Neg.go : goesTo Try.prog 107 := ⟨_, Try.func107, by kernel_rfl, rfl⟩
theorem scaled_Neg.ok (k : Nat) : SigOk Try.prog 107 (scaled_Neg.sig k) :=
  fn_p (G := scaled_Neg.G Try.prog) (c := cd Try.f107) (rs := [.tmp 2]) (args := [(false, (.i .i64))]) (l := [.c false (.i .i64)]) (fn := Try.f107) ⟨Try.func107, by kernel_rfl, by kernel_rfl, by kernel_rfl, le_of rfl, le_of rfl, TT_ok, AD_ok⟩ rfl scaled_Neg.E (fun k p hp => by
    simp only [scaled_Neg.E, List.mem_cons, List.not_mem_nil, or_false] at hp
    rcases hp with rfl
    · exact ⟨scaled_Clamp.ok k, scaled_Clamp.go⟩)
    (fun k i => (scaled_Neg.O k)[i]?) scaled_Neg.H (fun k x => scaled_Neg.f k x.1)
    (fun id o y h => by cases id <;> cases h)
    (fun k p hp => by rw [show pts (cd Try.f107) scaled_Neg.H = [] by kernel_rfl] at hp; nomatch hp)
    (fun k x => by kernel_rfl) k
/-! reglet/scaled.Sub -/
def scaled_Sub.f (k : Nat) (a0 : Int) (a1 : Int) : Option Int := (scaled_Neg.f k a1).bind fun r => (scaled_Add.f k a0 r).bind fun r2 => some r2
def scaled_Sub.sig (k : Nat) : Sig := .p [(false, (.i .i64)), (false, (.i .i64))] [.c false (.i .i64)] fun x => scaled_Sub.f k x.1 x.2.1
def scaled_Sub.E (k : Nat) : List (Nat × Sig) := [(85, scaled_Add.sig k), (107, scaled_Neg.sig k)]
def scaled_Sub.G (P : Program) : GI := ⟨P, TT, 9, 9, [], [], [], [], [], AD⟩
def scaled_Sub.H : H := .n
def scaled_Sub.O (k : Nat) : List (Orc (denR [.c false (.i .i64)])) := []
theorem scaled_Sub.go : goesTo Try.prog 102 := ⟨_, Try.func102, by kernel_rfl, rfl⟩
theorem scaled_Sub.ok (k : Nat) : SigOk Try.prog 102 (scaled_Sub.sig k) :=
  fn_p (G := scaled_Sub.G Try.prog) (c := cd Try.f102) (rs := [.tmp 4]) (args := [(false, (.i .i64)), (false, (.i .i64))]) (l := [.c false (.i .i64)]) (fn := Try.f102) ⟨Try.func102, by kernel_rfl, by kernel_rfl, by kernel_rfl, le_of rfl, le_of rfl, TT_ok, AD_ok⟩ rfl scaled_Sub.E (fun k p hp => by
    simp only [scaled_Sub.E, List.mem_cons, List.not_mem_nil, or_false] at hp
    rcases hp with rfl | rfl
    · exact ⟨scaled_Add.ok k, scaled_Add.go⟩
    · exact ⟨scaled_Neg.ok k, scaled_Neg.go⟩)
    (fun k i => (scaled_Sub.O k)[i]?) scaled_Sub.H (fun k x => scaled_Sub.f k x.1 x.2.1)
    (fun id o y h => by cases id <;> cases h)
    (fun k p hp => by rw [show pts (cd Try.f102) scaled_Sub.H = [] by kernel_rfl] at hp; nomatch hp)
    (fun k x => by kernel_rfl) k
/-! reglet/scaled.Demerits -/
mutual
def scaled_Demerits.j0 : Nat → Int → Option Int
  | 0, _ => none
  | k + 1, d => some (if 0 < d then d else 0)
end
def scaled_Demerits.f (k : Nat) (a0 : Int) (a1 : Int) (a2 : Int) : Option Int := (scaled_Add.f k a0 a1).bind fun r => (scaled_Mul.f k r r).bind fun r2 => if (decide (0 ≤ a2)) = true then ((scaled_Mul.f k a2 a2).bind fun r3 => (scaled_Add.f k r2 r3).bind fun r4 => scaled_Demerits.j0 k r4) else (if (decide ((-10000) < a2)) = true then ((scaled_Mul.f k a2 a2).bind fun r5 => (scaled_Sub.f k r2 r5).bind fun r6 => scaled_Demerits.j0 k r6) else (scaled_Demerits.j0 k r2))
def scaled_Demerits.sig (k : Nat) : Sig := .p [(false, (.i .i64)), (false, (.i .i64)), (false, (.i .i64))] [.c false (.i .i64)] fun x => scaled_Demerits.f k x.1 x.2.1 x.2.2.1
def scaled_Demerits.E (k : Nat) : List (Nat × Sig) := [(85, scaled_Add.sig k), (101, scaled_Mul.sig k), (102, scaled_Sub.sig k)]
def scaled_Demerits.G (P : Program) : GI := ⟨P, TT, 33, 33, [], [], [], [], [], AD⟩
def scaled_Demerits.H : H := .s .n (.s .n (.s .n (.j 0 .n .n)))
abbrev scaled_Demerits.j0_s : Sh := [(8, .v (.i .i64))]
def scaled_Demerits.O (k : Nat) : List (Orc (denR [.c false (.i .i64)])) := [⟨scaled_Demerits.j0_s, fun y => scaled_Demerits.j0 k y.1⟩]
theorem scaled_Demerits.j0_e (k : Nat) (y : denS scaled_Demerits.j0_s) : scaled_Demerits.j0 (k + 1) y.1 = evP ((scaled_Demerits.G Try.prog).at (scaled_Demerits.E k)) (fun i => (scaled_Demerits.O k)[i]?) [1, 1, 1, 1] (cd Try.f95) scaled_Demerits.H (kFin ((scaled_Demerits.G Try.prog).at (scaled_Demerits.E k)) [.tmp 6] [.c false (.i .i64)]) (unS scaled_Demerits.j0_s y) := by rw [scaled_Demerits.j0]; kernel_rfl
theorem scaled_Demerits.go : goesTo Try.prog 95 := ⟨_, Try.func95, by kernel_rfl, rfl⟩
theorem scaled_Demerits.ok (k : Nat) : SigOk Try.prog 95 (scaled_Demerits.sig k) :=
  fn_p (G := scaled_Demerits.G Try.prog) (c := cd Try.f95) (rs := [.tmp 6]) (args := [(false, (.i .i64)), (false, (.i .i64)), (false, (.i .i64))]) (l := [.c false (.i .i64)]) (fn := Try.f95) ⟨Try.func95, by kernel_rfl, by kernel_rfl, by kernel_rfl, le_of rfl, le_of rfl, TT_ok, AD_ok⟩ rfl scaled_Demerits.E (fun k p hp => by
    simp only [scaled_Demerits.E, List.mem_cons, List.not_mem_nil, or_false] at hp
    rcases hp with rfl | rfl | rfl
    · exact ⟨scaled_Add.ok k, scaled_Add.go⟩
    · exact ⟨scaled_Mul.ok k, scaled_Mul.go⟩
    · exact ⟨scaled_Sub.ok k, scaled_Sub.go⟩)
    (fun k i => (scaled_Demerits.O k)[i]?) scaled_Demerits.H (fun k x => scaled_Demerits.f k x.1 x.2.1 x.2.2.1)
    (fun id o y h => by
    have h' := List.mem_of_getElem? h
    simp only [scaled_Demerits.O, List.mem_cons, List.not_mem_nil, or_false] at h'
    rcases h' with rfl <;> rfl)
    (fun k p hp => by
    rw [show pts (cd Try.f95) scaled_Demerits.H = [(0, [1, 1, 1, 1])] by kernel_rfl] at hp
    simp only [List.mem_cons, List.not_mem_nil, or_false] at hp
    rcases hp with rfl
    · exact ptOk_of rfl (scaled_Demerits.j0_e k))
    (fun k x => by kernel_rfl) k
/-! reglet/measure.apart -/
def measure_apart.f (k : Nat) (a0 : Int) (a1 : Int) : Option Bool := if (decide (1 < (wrap64 (a0 - a1)))) = true then (some true) else (some (decide (1 < (wrap64 (a1 - a0)))))
def measure_apart.sig (k : Nat) : Sig := .p [(false, (.i .i64)), (false, (.i .i64))] [.c false .b] fun x => measure_apart.f k x.1 x.2.1
def measure_apart.E (k : Nat) : List (Nat × Sig) := []
def measure_apart.G (P : Program) : GI := ⟨P, TT, 15, 15, [], [], [], [], [], AD⟩
def measure_apart.H : H := .n
def measure_apart.O (k : Nat) : List (Orc (denR [.c false .b])) := []
theorem measure_apart.go : goesTo Try.prog 96 := ⟨_, Try.func96, by kernel_rfl, rfl⟩
theorem measure_apart.ok (k : Nat) : SigOk Try.prog 96 (measure_apart.sig k) :=
  fn_p (G := measure_apart.G Try.prog) (c := cd Try.f96) (rs := [.tmp 4]) (args := [(false, (.i .i64)), (false, (.i .i64))]) (l := [.c false .b]) (fn := Try.f96) ⟨Try.func96, by kernel_rfl, by kernel_rfl, by kernel_rfl, le_of rfl, le_of rfl, TT_ok, AD_ok⟩ rfl measure_apart.E (fun k p hp => nomatch hp)
    (fun k i => (measure_apart.O k)[i]?) measure_apart.H (fun k x => measure_apart.f k x.1 x.2.1)
    (fun id o y h => by cases id <;> cases h)
    (fun k p hp => by rw [show pts (cd Try.f96) measure_apart.H = [] by kernel_rfl] at hp; nomatch hp)
    (fun k x => by kernel_rfl) k
/-! reglet/measure.Cost -/
mutual
def measure_Cost.j0 : Nat → Bool → Int → api_Settings → api_Item → measure_Ahead → Option Int
  | 0, _, _, _, _, _ => none
  | k + 1, last, d, s, end_, ahead => if ahead.2 = true then (if end_.2.2.2.2.2.2.1 = true then ((scaled_Add.f k d s.2.2.2.1).bind fun r4 => measure_Cost.j1 k last r4 s ahead) else (measure_Cost.j1 k last d s ahead)) else (measure_Cost.j1 k last d s ahead)
def measure_Cost.j1 : Nat → Bool → Int → api_Settings → measure_Ahead → Option Int
  | 0, _, _, _, _ => none
  | k + 1, last2, d2, s2, ahead2 => if ahead2.2 = true then (if last2 = true then ((scaled_Add.f k d2 s2.2.2.2.2.1).bind fun r5 => measure_Cost.j2 k r5) else (measure_Cost.j2 k d2)) else (measure_Cost.j2 k d2)
def measure_Cost.j2 : Nat → Int → Option Int
  | 0, _ => none
  | k + 1, d3 => some (if 1125899906842624 < d3 then 1125899906842624 else d3)
end
def measure_Cost.f (k : Nat) (a0 : api_Settings) (a1 : api_Fit) (a2 : api_Item) (a3 : measure_Ahead) (a4 : Bool) : Option Int := if a1.2.2.2.2 = true then (some 1125899906842624) else ((scaled_Demerits.f k a0.2.1 a1.2.2.1 a2.2.2.2.2.2.1).bind fun r => if (decide (0 ≤ a3.1)) = true then ((measure_apart.f k a1.2.2.2.1 a3.1).bind fun r2 => if r2 = true then ((scaled_Add.f k r a0.2.2.1).bind fun r3 => measure_Cost.j0 k a4 r3 a0 a2 a3) else (measure_Cost.j0 k a4 r a0 a2 a3)) else (measure_Cost.j0 k a4 r a0 a2 a3))
def measure_Cost.sig (k : Nat) : Sig := .p [(true, y48), (true, y93), (true, y29), (true, y41), (false, .b)] [.c false (.i .i64)] fun x => measure_Cost.f k x.1 x.2.1 x.2.2.1 x.2.2.2.1 x.2.2.2.2.1
def measure_Cost.E (k : Nat) : List (Nat × Sig) := [(85, scaled_Add.sig k), (95, scaled_Demerits.sig k), (96, measure_apart.sig k)]
def measure_Cost.G (P : Program) : GI := ⟨P, TT, 56, 79, [(5, 56, 7), (6, 63, 5), (7, 68, 9), (8, 77, 2)], [], [], [], [], AD⟩
def measure_Cost.H : H := .s .n (.s .n (.s .n (.j 0 .n (.j 1 .n (.j 2 .n .n)))))
abbrev measure_Cost.j0_s : Sh := [(4, .v .b), (5, .at_ 56), (7, .at_ 68), (8, .at_ 77), (11, .v (.i .i64)), (56, .box y48), (68, .box y29), (77, .box y41)]
abbrev measure_Cost.j1_s : Sh := [(4, .v .b), (5, .at_ 56), (8, .at_ 77), (11, .v (.i .i64)), (56, .box y48), (77, .box y41)]
abbrev measure_Cost.j2_s : Sh := [(11, .v (.i .i64))]
def measure_Cost.O (k : Nat) : List (Orc (denR [.c false (.i .i64)])) := [⟨measure_Cost.j0_s, fun y => measure_Cost.j0 k y.1 y.2.2.2.2.1 y.2.2.2.2.2.1 y.2.2.2.2.2.2.1 y.2.2.2.2.2.2.2.1⟩, ⟨measure_Cost.j1_s, fun y => measure_Cost.j1 k y.1 y.2.2.2.1 y.2.2.2.2.1 y.2.2.2.2.2.1⟩, ⟨measure_Cost.j2_s, fun y => measure_Cost.j2 k y.1⟩]
theorem measure_Cost.j2_e (k : Nat) (y : denS measure_Cost.j2_s) : measure_Cost.j2 (k + 1) y.1 = evP ((measure_Cost.G Try.prog).at (measure_Cost.E k)) (fun i => (measure_Cost.O k)[i]?) [1, 1, 1, 1, 1, 1] (cd Try.f91) measure_Cost.H (kFin ((measure_Cost.G Try.prog).at (measure_Cost.E k)) [.tmp 10] [.c false (.i .i64)]) (unS measure_Cost.j2_s y) := by rw [measure_Cost.j2]; kernel_rfl
theorem measure_Cost.j1_e (k : Nat) (y : denS measure_Cost.j1_s) : measure_Cost.j1 (k + 1) y.1 y.2.2.2.1 y.2.2.2.2.1 y.2.2.2.2.2.1 = evP ((measure_Cost.G Try.prog).at (measure_Cost.E k)) (fun i => (measure_Cost.O k)[i]?) [1, 1, 1, 1, 1] (cd Try.f91) measure_Cost.H (kFin ((measure_Cost.G Try.prog).at (measure_Cost.E k)) [.tmp 10] [.c false (.i .i64)]) (unS measure_Cost.j1_s y) := by rw [measure_Cost.j1]; kernel_rfl
theorem measure_Cost.j0_e (k : Nat) (y : denS measure_Cost.j0_s) : measure_Cost.j0 (k + 1) y.1 y.2.2.2.2.1 y.2.2.2.2.2.1 y.2.2.2.2.2.2.1 y.2.2.2.2.2.2.2.1 = evP ((measure_Cost.G Try.prog).at (measure_Cost.E k)) (fun i => (measure_Cost.O k)[i]?) [1, 1, 1, 1] (cd Try.f91) measure_Cost.H (kFin ((measure_Cost.G Try.prog).at (measure_Cost.E k)) [.tmp 10] [.c false (.i .i64)]) (unS measure_Cost.j0_s y) := by rw [measure_Cost.j0]; kernel_rfl
theorem measure_Cost.go : goesTo Try.prog 91 := ⟨_, Try.func91, by kernel_rfl, rfl⟩
theorem measure_Cost.ok (k : Nat) : SigOk Try.prog 91 (measure_Cost.sig k) :=
  fn_p (G := measure_Cost.G Try.prog) (c := cd Try.f91) (rs := [.tmp 10]) (args := [(true, y48), (true, y93), (true, y29), (true, y41), (false, .b)]) (l := [.c false (.i .i64)]) (fn := Try.f91) ⟨Try.func91, by kernel_rfl, by kernel_rfl, by kernel_rfl, le_of rfl, le_of rfl, TT_ok, AD_ok⟩ rfl measure_Cost.E (fun k p hp => by
    simp only [measure_Cost.E, List.mem_cons, List.not_mem_nil, or_false] at hp
    rcases hp with rfl | rfl | rfl
    · exact ⟨scaled_Add.ok k, scaled_Add.go⟩
    · exact ⟨scaled_Demerits.ok k, scaled_Demerits.go⟩
    · exact ⟨measure_apart.ok k, measure_apart.go⟩)
    (fun k i => (measure_Cost.O k)[i]?) measure_Cost.H (fun k x => measure_Cost.f k x.1 x.2.1 x.2.2.1 x.2.2.2.1 x.2.2.2.2.1)
    (fun id o y h => by
    have h' := List.mem_of_getElem? h
    simp only [measure_Cost.O, List.mem_cons, List.not_mem_nil, or_false] at h'
    rcases h' with rfl | rfl | rfl <;> rfl)
    (fun k p hp => by
    rw [show pts (cd Try.f91) measure_Cost.H = [(2, [1, 1, 1, 1, 1, 1]), (1, [1, 1, 1, 1, 1]), (0, [1, 1, 1, 1])] by kernel_rfl] at hp
    simp only [List.mem_cons, List.not_mem_nil, or_false] at hp
    rcases hp with rfl | rfl | rfl
    · exact ptOk_of rfl (measure_Cost.j2_e k)
    · exact ptOk_of rfl (measure_Cost.j1_e k)
    · exact ptOk_of rfl (measure_Cost.j0_e k))
    (fun k x => by kernel_rfl) k
/-! (*reglet/breaks.search).cost -/
mutual
def breaks_search_cost.j0 : Nat → ((List api_Item × List Int × List Int × List Int × List Int × List Int × Int × List Int) × Int × Int × Int × Int × Int × Int × Int × Int × Bool × List measure_Sum × List Int) → Int → api_Fit → measure_Ahead → Option Int
  | 0, _, _, _, _ => none
  | k + 1, s, j, f, ahead => (measure_Para_End.f k s.1 j).bind fun r3 => (measure_Para_Item.f k s.1 r3).bind fun r4 => (measure_Para_Ends.f k s.1).bind fun r5 => (measure_Cost.f k (s.2.2.1, s.2.2.2.1, s.2.2.2.2.1, s.2.2.2.2.2.1, s.2.2.2.2.2.2.1, s.2.2.2.2.2.2.2.1, s.2.2.2.2.2.2.2.2.1) f r4 ahead (decide (j = (wrap64 (r5 - 1))))).bind fun r6 => some r6
end
def breaks_search_cost.f (k : Nat) (a0 : (List api_Item × List Int × List Int × List Int × List Int × List Int × Int × List Int) × Int × Int × Int × Int × Int × Int × Int × Int × Bool × List measure_Sum × List Int) (a1 : Int) (a2 : Int) (a3 : api_Fit) (a4 : Int) : Option Int := if (decide (0 ≤ a1)) = true then ((measure_Para_End.f k a0.1 a1).bind fun r => (measure_Para_Item.f k a0.1 r).bind fun r2 => breaks_search_cost.j0 k a0 a2 a3 (a4, r2.2.2.2.2.2.2.1)) else (breaks_search_cost.j0 k a0 a2 a3 ((-1), (false)))
def breaks_search_cost.sig (k : Nat) : Sig := .p [(false, y106), (false, (.i .i64)), (false, (.i .i64)), (true, y93), (false, (.i .i64))] [.c false (.i .i64)] fun x => breaks_search_cost.f k x.1 x.2.1 x.2.2.1 x.2.2.2.1 x.2.2.2.2.1
def breaks_search_cost.E (k : Nat) : List (Nat × Sig) := [(49, measure_Para_Item.sig k), (69, measure_Para_Ends.sig k), (70, measure_Para_End.sig k), (91, measure_Cost.sig k)]
def breaks_search_cost.G (P : Program) : GI := ⟨P, TT, 56, 63, [(8, 56, 5), (11, 61, 2)], [], [], [], [], AD⟩
def breaks_search_cost.H : H := .s .n (.s .n (.j 0 .n .n))
abbrev breaks_search_cost.j0_s : Sh := [(0, .v y106), (2, .v (.i .i64)), (8, .at_ 56), (11, .at_ 61), (56, .box y93), (61, .box y41)]
def breaks_search_cost.O (k : Nat) : List (Orc (denR [.c false (.i .i64)])) := [⟨breaks_search_cost.j0_s, fun y => breaks_search_cost.j0 k y.1 y.2.1 y.2.2.2.2.1 y.2.2.2.2.2.1⟩]
theorem breaks_search_cost.j0_e (k : Nat) (y : denS breaks_search_cost.j0_s) : breaks_search_cost.j0 (k + 1) y.1 y.2.1 y.2.2.2.2.1 y.2.2.2.2.2.1 = evP ((breaks_search_cost.G Try.prog).at (breaks_search_cost.E k)) (fun i => (breaks_search_cost.O k)[i]?) [1, 1, 1] (cd Try.f74) breaks_search_cost.H (kFin ((breaks_search_cost.G Try.prog).at (breaks_search_cost.E k)) [.tmp 10] [.c false (.i .i64)]) (unS breaks_search_cost.j0_s y) := by rw [breaks_search_cost.j0]; kernel_rfl
theorem breaks_search_cost.go : goesTo Try.prog 74 := ⟨_, Try.func74, by kernel_rfl, rfl⟩
theorem breaks_search_cost.ok (k : Nat) : SigOk Try.prog 74 (breaks_search_cost.sig k) :=
  fn_p (G := breaks_search_cost.G Try.prog) (c := cd Try.f74) (rs := [.tmp 10]) (args := [(false, y106), (false, (.i .i64)), (false, (.i .i64)), (true, y93), (false, (.i .i64))]) (l := [.c false (.i .i64)]) (fn := Try.f74) ⟨Try.func74, by kernel_rfl, by kernel_rfl, by kernel_rfl, le_of rfl, le_of rfl, TT_ok, AD_ok⟩ rfl breaks_search_cost.E (fun k p hp => by
    simp only [breaks_search_cost.E, List.mem_cons, List.not_mem_nil, or_false] at hp
    rcases hp with rfl | rfl | rfl | rfl
    · exact ⟨measure_Para_Item.ok k, measure_Para_Item.go⟩
    · exact ⟨measure_Para_Ends.ok k, measure_Para_Ends.go⟩
    · exact ⟨measure_Para_End.ok k, measure_Para_End.go⟩
    · exact ⟨measure_Cost.ok k, measure_Cost.go⟩)
    (fun k i => (breaks_search_cost.O k)[i]?) breaks_search_cost.H (fun k x => breaks_search_cost.f k x.1 x.2.1 x.2.2.1 x.2.2.2.1 x.2.2.2.2.1)
    (fun id o y h => by
    have h' := List.mem_of_getElem? h
    simp only [breaks_search_cost.O, List.mem_cons, List.not_mem_nil, or_false] at h'
    rcases h' with rfl <;> rfl)
    (fun k p hp => by
    rw [show pts (cd Try.f74) breaks_search_cost.H = [(0, [1, 1, 1])] by kernel_rfl] at hp
    simp only [List.mem_cons, List.not_mem_nil, or_false] at hp
    rcases hp with rfl
    · exact ptOk_of rfl (breaks_search_cost.j0_e k))
    (fun k x => by kernel_rfl) k
/-! (*reglet/measure.Para).Bounds -/
mutual
def measure_Para_Bounds.j0 : Nat → (List api_Item × List Int × List Int × List Int × List Int × List Int × Int × List Int) → measure_Sum → Option (Int × Int × Bool)
  | 0, _, _ => none
  | k + 1, p, s => some (wrap64 (s.1 - s.2.2.1), wrap64 ((wrap64 (s.1 + (wrap64 (5 * s.2.1)))) + p.2.2.2.2.2.2.1), decide (0 < s.2.2.2))
end
def measure_Para_Bounds.f (k : Nat) (a0 : List api_Item × List Int × List Int × List Int × List Int × List Int × Int × List Int) (a1 : Int) (a2 : Int) : Option (Int × Int × Bool) := (measure_Para_Line.f k a0 a1 a2).bind fun r => (measure_Para_Item.f k a0 a2).bind fun r2 => if (decide (r2.1 = 3)) = true then (measure_Para_Bounds.j0 k a0 (wrap64 (r.1 - r2.2.1), r.2.1, r.2.2.1, r.2.2.2)) else (measure_Para_Bounds.j0 k a0 r)
def measure_Para_Bounds.sig (k : Nat) : Sig := .p [(false, y65), (false, (.i .i64)), (false, (.i .i64))] [.c false (.i .i64), .c false (.i .i64), .c false .b] fun x => measure_Para_Bounds.f k x.1 x.2.1 x.2.2.1
def measure_Para_Bounds.E (k : Nat) : List (Nat × Sig) := [(49, measure_Para_Item.sig k), (77, measure_Para_Line.sig k)]
def measure_Para_Bounds.G (P : Program) : GI := ⟨P, TT, 46, 59, [(9, 46, 4), (10, 50, 9)], [], [], [], [], AD⟩
def measure_Para_Bounds.H : H := .s .n (.s .n (.j 0 .n .n))
abbrev measure_Para_Bounds.j0_s : Sh := [(0, .v y65), (9, .at_ 46), (46, .box y45)]
def measure_Para_Bounds.O (k : Nat) : List (Orc (denR [.c false (.i .i64), .c false (.i .i64), .c false .b])) := [⟨measure_Para_Bounds.j0_s, fun y => measure_Para_Bounds.j0 k y.1 y.2.2.1⟩]
theorem measure_Para_Bounds.j0_e (k : Nat) (y : denS measure_Para_Bounds.j0_s) : measure_Para_Bounds.j0 (k + 1) y.1 y.2.2.1 = evP ((measure_Para_Bounds.G Try.prog).at (measure_Para_Bounds.E k)) (fun i => (measure_Para_Bounds.O k)[i]?) [1, 1, 1] (cd Try.f89) measure_Para_Bounds.H (kFin ((measure_Para_Bounds.G Try.prog).at (measure_Para_Bounds.E k)) [.tmp 6, .tmp 7, .tmp 8] [.c false (.i .i64), .c false (.i .i64), .c false .b]) (unS measure_Para_Bounds.j0_s y) := by rw [measure_Para_Bounds.j0]; kernel_rfl
theorem measure_Para_Bounds.go : goesTo Try.prog 89 := ⟨_, Try.func89, by kernel_rfl, rfl⟩
theorem measure_Para_Bounds.ok (k : Nat) : SigOk Try.prog 89 (measure_Para_Bounds.sig k) :=
  fn_p (G := measure_Para_Bounds.G Try.prog) (c := cd Try.f89) (rs := [.tmp 6, .tmp 7, .tmp 8]) (args := [(false, y65), (false, (.i .i64)), (false, (.i .i64))]) (l := [.c false (.i .i64), .c false (.i .i64), .c false .b]) (fn := Try.f89) ⟨Try.func89, by kernel_rfl, by kernel_rfl, by kernel_rfl, le_of rfl, le_of rfl, TT_ok, AD_ok⟩ rfl measure_Para_Bounds.E (fun k p hp => by
    simp only [measure_Para_Bounds.E, List.mem_cons, List.not_mem_nil, or_false] at hp
    rcases hp with rfl | rfl
    · exact ⟨measure_Para_Item.ok k, measure_Para_Item.go⟩
    · exact ⟨measure_Para_Line.ok k, measure_Para_Line.go⟩)
    (fun k i => (measure_Para_Bounds.O k)[i]?) measure_Para_Bounds.H (fun k x => measure_Para_Bounds.f k x.1 x.2.1 x.2.2.1)
    (fun id o y h => by
    have h' := List.mem_of_getElem? h
    simp only [measure_Para_Bounds.O, List.mem_cons, List.not_mem_nil, or_false] at h'
    rcases h' with rfl <;> rfl)
    (fun k p hp => by
    rw [show pts (cd Try.f89) measure_Para_Bounds.H = [(0, [1, 1, 1])] by kernel_rfl] at hp
    simp only [List.mem_cons, List.not_mem_nil, or_false] at hp
    rcases hp with rfl
    · exact ptOk_of rfl (measure_Para_Bounds.j0_e k))
    (fun k x => by kernel_rfl) k
/-! (*reglet/breaks.search).first -/
mutual
def breaks_search_first.j0 : Nat → ((List api_Item × List Int × List Int × List Int × List Int × List Int × Int × List Int) × Int × Int × Int × Int × Int × Int × Int × Int × Bool × List measure_Sum × List Int) → Int → Int → Option Int
  | 0, _, _, _ => none
  | k + 1, t, t2, t3 => (measure_Para_End.f k t.1 t2).bind fun r => breaks_search_first.l1 k t (wrap64 (t2 + 1)) t3 r
def breaks_search_first.l1 : Nat → ((List api_Item × List Int × List Int × List Int × List Int × List Int × Int × List Int) × Int × Int × Int × Int × Int × Int × Int × Int × Bool × List measure_Sum × List Int) → Int → Int → Int → Option Int
  | 0, _, _, _, _ => none
  | k + 1, t4, t5, t6, t7 => if (decide (t5 < t6)) = true then ((measure_Para_End.f k t4.1 (wrap64 ((wrap64 (t5 + t6)).tdiv 2))).bind fun r2 => (measure_Para_Bounds.f k t4.1 t7 r2).bind fun r3 => if (decide (r3.2.1 < t4.2.1)) = true then (if (!r3.2.2) = true then (breaks_search_first.l1 k t4 (wrap64 ((wrap64 ((wrap64 (t5 + t6)).tdiv 2)) + 1)) t6 t7) else (breaks_search_first.l1 k t4 t5 (wrap64 ((wrap64 (t5 + t6)).tdiv 2)) t7)) else (breaks_search_first.l1 k t4 t5 (wrap64 ((wrap64 (t5 + t6)).tdiv 2)) t7)) else (some t5)
end
def breaks_search_first.f (k : Nat) (a0 : (List api_Item × List Int × List Int × List Int × List Int × List Int × Int × List Int) × Int × Int × Int × Int × Int × Int × Int × Int × Bool × List measure_Sum × List Int) (a1 : Int) (a2 : Int) : Option Int := if a0.2.2.2.2.2.2.2.2.2.1 = true then (some (wrap64 (a1 + 1))) else (if (decide (10000 ≤ a0.2.2.1)) = true then (some (wrap64 (a1 + 1))) else (breaks_search_first.j0 k a0 a1 a2))
def breaks_search_first.sig (k : Nat) : Sig := .p [(false, y106), (false, (.i .i64)), (false, (.i .i64))] [.c false (.i .i64)] fun x => breaks_search_first.f k x.1 x.2.1 x.2.2.1
def breaks_search_first.E (k : Nat) : List (Nat × Sig) := [(70, measure_Para_End.sig k), (89, measure_Para_Bounds.sig k)]
def breaks_search_first.G (P : Program) : GI := ⟨P, TT, 74, 74, [], [], [], [], [], AD⟩
def breaks_search_first.H : H := .s .n (.j 0 .n (.s .n (.s .n (.s (.s (.l 1 .n) .n) .n))))
abbrev breaks_search_first.j0_s : Sh := [(0, .v y106), (1, .v (.i .i64)), (2, .v (.i .i64))]
abbrev breaks_search_first.l1_s : Sh := [(0, .v y106), (7, .v (.i .i64)), (8, .v (.i .i64)), (9, .v (.i .i64))]
def breaks_search_first.O (k : Nat) : List (Orc (denR [.c false (.i .i64)])) := [⟨breaks_search_first.j0_s, fun y => breaks_search_first.j0 k y.1 y.2.1 y.2.2.1⟩, ⟨breaks_search_first.l1_s, fun y => breaks_search_first.l1 k y.1 y.2.1 y.2.2.1 y.2.2.2.1⟩]
theorem breaks_search_first.l1_e (k : Nat) (y : denS breaks_search_first.l1_s) : breaks_search_first.l1 (k + 1) y.1 y.2.1 y.2.2.1 y.2.2.2.1 = evP ((breaks_search_first.G Try.prog).at (breaks_search_first.E k)) (fun i => (breaks_search_first.O k)[i]?) [1, 1, 1, 1, 0, 0, 0] (cd Try.f88) breaks_search_first.H (kFin ((breaks_search_first.G Try.prog).at (breaks_search_first.E k)) [.tmp 6] [.c false (.i .i64)]) (unS breaks_search_first.l1_s y) := by rw [breaks_search_first.l1]; kernel_rfl
theorem breaks_search_first.j0_e (k : Nat) (y : denS breaks_search_first.j0_s) : breaks_search_first.j0 (k + 1) y.1 y.2.1 y.2.2.1 = evP ((breaks_search_first.G Try.prog).at (breaks_search_first.E k)) (fun i => (breaks_search_first.O k)[i]?) [1, 1] (cd Try.f88) breaks_search_first.H (kFin ((breaks_search_first.G Try.prog).at (breaks_search_first.E k)) [.tmp 6] [.c false (.i .i64)]) (unS breaks_search_first.j0_s y) := by rw [breaks_search_first.j0]; kernel_rfl
theorem breaks_search_first.go : goesTo Try.prog 88 := ⟨_, Try.func88, by kernel_rfl, rfl⟩
theorem breaks_search_first.ok (k : Nat) : SigOk Try.prog 88 (breaks_search_first.sig k) :=
  fn_p (G := breaks_search_first.G Try.prog) (c := cd Try.f88) (rs := [.tmp 6]) (args := [(false, y106), (false, (.i .i64)), (false, (.i .i64))]) (l := [.c false (.i .i64)]) (fn := Try.f88) ⟨Try.func88, by kernel_rfl, by kernel_rfl, by kernel_rfl, le_of rfl, le_of rfl, TT_ok, AD_ok⟩ rfl breaks_search_first.E (fun k p hp => by
    simp only [breaks_search_first.E, List.mem_cons, List.not_mem_nil, or_false] at hp
    rcases hp with rfl | rfl
    · exact ⟨measure_Para_End.ok k, measure_Para_End.go⟩
    · exact ⟨measure_Para_Bounds.ok k, measure_Para_Bounds.go⟩)
    (fun k i => (breaks_search_first.O k)[i]?) breaks_search_first.H (fun k x => breaks_search_first.f k x.1 x.2.1 x.2.2.1)
    (fun id o y h => by
    have h' := List.mem_of_getElem? h
    simp only [breaks_search_first.O, List.mem_cons, List.not_mem_nil, or_false] at h'
    rcases h' with rfl | rfl <;> rfl)
    (fun k p hp => by
    rw [show pts (cd Try.f88) breaks_search_first.H = [(1, [1, 1, 1, 1, 0, 0, 0]), (0, [1, 1])] by kernel_rfl] at hp
    simp only [List.mem_cons, List.not_mem_nil, or_false] at hp
    rcases hp with rfl | rfl
    · exact ptOk_of rfl (breaks_search_first.l1_e k)
    · exact ptOk_of rfl (breaks_search_first.j0_e k))
    (fun k x => by kernel_rfl) k
/-! (*reglet/breaks.search).best -/
mutual
def breaks_search_best.l0 : Nat → ((List api_Item × List Int × List Int × List Int × List Int × List Int × Int × List Int) × Int × Int × Int × Int × Int × Int × Int × Int × Bool × List measure_Sum × List Int) → Int → Int → Int → measure_Sum → measure_Sum → Option measure_Sum
  | 0, _, _, _, _, _, _ => none
  | k + 1, t, t2, t3, t4, t5, t6 => if (decide (t4 ≤ t3)) = true then ((breaks_search_line.f k t t2 t4).bind fun r2 => (measure_Para_End.f k t.1 t2).bind fun r3 => (measure_Para_End.f k t.1 t4).bind fun r4 => (measure_Para_Bounds.f k t.1 r3 r4).bind fun r5 => if (decide (t.2.1 < r5.1)) = true then (if (decide ((wrap64 (t2 + 1)) < t4)) = true then (some t6) else (breaks_search_best.j1 k t t2 t3 t4 r2.2 t5 t6 r2.1)) else (breaks_search_best.j1 k t t2 t3 t4 r2.2 t5 t6 r2.1)) else (some t6)
def breaks_search_best.j1 : Nat → ((List api_Item × List Int × List Int × List Int × List Int × List Int × Int × List Int) × Int × Int × Int × Int × Int × Int × Int × Int × Bool × List measure_Sum × List Int) → Int → Int → Int → Bool → measure_Sum → measure_Sum → api_Fit → Option measure_Sum
  | 0, _, _, _, _, _, _, _, _ => none
  | k + 1, t7, t8, t9, t10, t11, t12, t13, t14 => if (!t11) = true then (breaks_search_best.j2 k t7 t8 t9 t10 t12 t13) else ((measure_Para_Ends.f k t7.1).bind fun r6 => if (decide (t10 < (wrap64 (r6 - 1)))) = true then ((at? t7.2.2.2.2.2.2.2.2.2.2.1 t10).bind fun e2 => (at? ([e2.1, e2.2.1, e2.2.2.1, e2.2.2.2] : List Int) t14.2.2.2.1).bind fun e3 => breaks_search_best.j3 k t7 t8 t9 t10 e3 t12 t13 t14) else (breaks_search_best.j3 k t7 t8 t9 t10 0 t12 t13 t14))
def breaks_search_best.j2 : Nat → ((List api_Item × List Int × List Int × List Int × List Int × List Int × Int × List Int) × Int × Int × Int × Int × Int × Int × Int × Int × Bool × List measure_Sum × List Int) → Int → Int → Int → measure_Sum → measure_Sum → Option measure_Sum
  | 0, _, _, _, _, _, _ => none
  | k + 1, t15, t16, t17, t18, t19, t20 => breaks_search_best.l0 k t15 t16 t17 (wrap64 (t18 + 1)) t19 t20
def breaks_search_best.j3 : Nat → ((List api_Item × List Int × List Int × List Int × List Int × List Int × Int × List Int) × Int × Int × Int × Int × Int × Int × Int × Int × Bool × List measure_Sum × List Int) → Int → Int → Int → Int → measure_Sum → measure_Sum → api_Fit → Option measure_Sum
  | 0, _, _, _, _, _, _, _, _ => none
  | k + 1, t21, t22, t23, t24, t25, t26, t27, t28 => if (decide (t25 = 1125899906842625)) = true then (breaks_search_best.j2 k t21 t22 t23 t24 t26 t27) else (breaks_search_best.l4 k t21 t22 t23 t24 t25 0 t26 t27 t28)
def breaks_search_best.l4 : Nat → ((List api_Item × List Int × List Int × List Int × List Int × List Int × Int × List Int) × Int × Int × Int × Int × Int × Int × Int × Int × Bool × List measure_Sum × List Int) → Int → Int → Int → Int → Int → measure_Sum → measure_Sum → api_Fit → Option measure_Sum
  | 0, _, _, _, _, _, _, _, _, _ => none
  | k + 1, t29, t30, t31, t32, t33, t34, t35, t36, t37 => if (decide (t34 < 4)) = true then (if 0 ≤ t34 ∧ t34 < (4 : Int) then ((([t36.1, t36.2.1, t36.2.2.1, t36.2.2.2] : List Int)[t34.toNat]?).bind fun e4 => (breaks_search_cost.f k t29 t30 t32 t37 t34).bind fun r7 => (measure_Total.f k r7 t33).bind fun r8 => if 0 ≤ t34 ∧ t34 < (4 : Int) then (if t34.toNat < 4 then (breaks_search_best.l4 k t29 t30 t31 t32 t33 (wrap64 (t34 + 1)) t35 ((if t34.toNat = 0 then (if r8 < e4 then r8 else e4) else t36.1), (if t34.toNat = 1 then (if r8 < e4 then r8 else e4) else t36.2.1), (if t34.toNat = 2 then (if r8 < e4 then r8 else e4) else t36.2.2.1), (if t34.toNat = 3 then (if r8 < e4 then r8 else e4) else t36.2.2.2)) t37) else none) else none) else none) else (breaks_search_best.j2 k t29 t30 t31 t32 t35 t36)
end
def breaks_search_best.f (k : Nat) (a0 : (List api_Item × List Int × List Int × List Int × List Int × List Int × Int × List Int) × Int × Int × Int × Int × Int × Int × Int × Int × Bool × List measure_Sum × List Int) (a1 : Int) : Option measure_Sum := (at? a0.2.2.2.2.2.2.2.2.2.2.2 (wrap64 (a1 + 1))).bind fun e => (breaks_search_first.f k a0 a1 e).bind fun r => breaks_search_best.l0 k a0 a1 e r (0, 0, 0, 0) (1125899906842625, 1125899906842625, 1125899906842625, 1125899906842625)
def breaks_search_best.sig (k : Nat) : Sig := .p [(false, y106), (false, (.i .i64))] [.c true y45] fun x => breaks_search_best.f k x.1 x.2.1
def breaks_search_best.E (k : Nat) : List (Nat × Sig) := [(69, measure_Para_Ends.sig k), (70, measure_Para_End.sig k), (72, breaks_search_line.sig k), (73, measure_Total.sig k), (74, breaks_search_cost.sig k), (88, breaks_search_first.sig k), (89, measure_Para_Bounds.sig k)]
def breaks_search_best.G (P : Program) : GI := ⟨P, TT, 114, 127, [(4, 114, 4), (5, 118, 4), (8, 122, 5)], [], [], [], [], AD⟩
def breaks_search_best.H : H := .s .n (.s (.s .n (.s .n (.s .n (.s (.s .n (.s (.l 0 (.s .n (.j 2 (.s (.s .n (.j 1 .n (.s .n (.s .n (.j 3 .n (.s .n (.s .n (.s (.l 4 .n) .n)))))))) .n) .n))) .n)) .n)))) .n)
abbrev breaks_search_best.l0_s : Sh := [(0, .v y106), (1, .v (.i .i64)), (4, .at_ 114), (5, .at_ 118), (6, .v (.i .i64)), (7, .v (.i .i64)), (114, .box y45), (118, .box y45)]
abbrev breaks_search_best.j1_s : Sh := [(0, .v y106), (1, .v (.i .i64)), (4, .at_ 114), (5, .at_ 118), (6, .v (.i .i64)), (7, .v (.i .i64)), (8, .at_ 122), (9, .v .b), (114, .box y45), (118, .box y45), (122, .box y93)]
abbrev breaks_search_best.j2_s : Sh := [(0, .v y106), (1, .v (.i .i64)), (4, .at_ 114), (5, .at_ 118), (6, .v (.i .i64)), (7, .v (.i .i64)), (114, .box y45), (118, .box y45)]
abbrev breaks_search_best.j3_s : Sh := [(0, .v y106), (1, .v (.i .i64)), (4, .at_ 114), (5, .at_ 118), (6, .v (.i .i64)), (7, .v (.i .i64)), (8, .at_ 122), (13, .v (.i .i64)), (114, .box y45), (118, .box y45), (122, .box y93)]
abbrev breaks_search_best.l4_s : Sh := [(0, .v y106), (1, .v (.i .i64)), (4, .at_ 114), (5, .at_ 118), (6, .v (.i .i64)), (7, .v (.i .i64)), (8, .at_ 122), (13, .v (.i .i64)), (95, .v (.i .i64)), (114, .box y45), (118, .box y45), (122, .box y93)]
def breaks_search_best.O (k : Nat) : List (Orc (denR [.c true y45])) := [⟨breaks_search_best.l0_s, fun y => breaks_search_best.l0 k y.1 y.2.1 y.2.2.2.2.1 y.2.2.2.2.2.1 y.2.2.2.2.2.2.1 y.2.2.2.2.2.2.2.1⟩, ⟨breaks_search_best.j1_s, fun y => breaks_search_best.j1 k y.1 y.2.1 y.2.2.2.2.1 y.2.2.2.2.2.1 y.2.2.2.2.2.2.2.1 y.2.2.2.2.2.2.2.2.1 y.2.2.2.2.2.2.2.2.2.1 y.2.2.2.2.2.2.2.2.2.2.1⟩, ⟨breaks_search_best.j2_s, fun y => breaks_search_best.j2 k y.1 y.2.1 y.2.2.2.2.1 y.2.2.2.2.2.1 y.2.2.2.2.2.2.1 y.2.2.2.2.2.2.2.1⟩, ⟨breaks_search_best.j3_s, fun y => breaks_search_best.j3 k y.1 y.2.1 y.2.2.2.2.1 y.2.2.2.2.2.1 y.2.2.2.2.2.2.2.1 y.2.2.2.2.2.2.2.2.1 y.2.2.2.2.2.2.2.2.2.1 y.2.2.2.2.2.2.2.2.2.2.1⟩, ⟨breaks_search_best.l4_s, fun y => breaks_search_best.l4 k y.1 y.2.1 y.2.2.2.2.1 y.2.2.2.2.2.1 y.2.2.2.2.2.2.2.1 y.2.2.2.2.2.2.2.2.1 y.2.2.2.2.2.2.2.2.2.1 y.2.2.2.2.2.2.2.2.2.2.1 y.2.2.2.2.2.2.2.2.2.2.2.1⟩]
theorem breaks_search_best.l4_e (k : Nat) (y : denS breaks_search_best.l4_s) : breaks_search_best.l4 (k + 1) y.1 y.2.1 y.2.2.2.2.1 y.2.2.2.2.2.1 y.2.2.2.2.2.2.2.1 y.2.2.2.2.2.2.2.2.1 y.2.2.2.2.2.2.2.2.2.1 y.2.2.2.2.2.2.2.2.2.2.1 y.2.2.2.2.2.2.2.2.2.2.2.1 = evP ((breaks_search_best.G Try.prog).at (breaks_search_best.E k)) (fun i => (breaks_search_best.O k)[i]?) [1, 0, 1, 1, 1, 0, 1, 0, 0, 1, 0, 0, 1, 1, 1, 1, 1, 1, 1, 0, 0] (cd Try.f71) breaks_search_best.H (kFin ((breaks_search_best.G Try.prog).at (breaks_search_best.E k)) [.cell 4 134] [.c true y45]) (unS breaks_search_best.l4_s y) := by rw [breaks_search_best.l4]; kernel_rfl
theorem breaks_search_best.j3_e (k : Nat) (y : denS breaks_search_best.j3_s) : breaks_search_best.j3 (k + 1) y.1 y.2.1 y.2.2.2.2.1 y.2.2.2.2.2.1 y.2.2.2.2.2.2.2.1 y.2.2.2.2.2.2.2.2.1 y.2.2.2.2.2.2.2.2.2.1 y.2.2.2.2.2.2.2.2.2.2.1 = evP ((breaks_search_best.G Try.prog).at (breaks_search_best.E k)) (fun i => (breaks_search_best.O k)[i]?) [1, 0, 1, 1, 1, 0, 1, 0, 0, 1, 0, 0, 1, 1, 1, 1, 1] (cd Try.f71) breaks_search_best.H (kFin ((breaks_search_best.G Try.prog).at (breaks_search_best.E k)) [.cell 4 134] [.c true y45]) (unS breaks_search_best.j3_s y) := by rw [breaks_search_best.j3]; kernel_rfl
theorem breaks_search_best.j1_e (k : Nat) (y : denS breaks_search_best.j1_s) : breaks_search_best.j1 (k + 1) y.1 y.2.1 y.2.2.2.2.1 y.2.2.2.2.2.1 y.2.2.2.2.2.2.2.1 y.2.2.2.2.2.2.2.2.1 y.2.2.2.2.2.2.2.2.2.1 y.2.2.2.2.2.2.2.2.2.2.1 = evP ((breaks_search_best.G Try.prog).at (breaks_search_best.E k)) (fun i => (breaks_search_best.O k)[i]?) [1, 0, 1, 1, 1, 0, 1, 0, 0, 1, 0, 0, 1, 1] (cd Try.f71) breaks_search_best.H (kFin ((breaks_search_best.G Try.prog).at (breaks_search_best.E k)) [.cell 4 134] [.c true y45]) (unS breaks_search_best.j1_s y) := by rw [breaks_search_best.j1]; kernel_rfl
theorem breaks_search_best.j2_e (k : Nat) (y : denS breaks_search_best.j2_s) : breaks_search_best.j2 (k + 1) y.1 y.2.1 y.2.2.2.2.1 y.2.2.2.2.2.1 y.2.2.2.2.2.2.1 y.2.2.2.2.2.2.2.1 = evP ((breaks_search_best.G Try.prog).at (breaks_search_best.E k)) (fun i => (breaks_search_best.O k)[i]?) [1, 0, 1, 1, 1, 0, 1, 0, 0, 1, 1] (cd Try.f71) breaks_search_best.H (kFin ((breaks_search_best.G Try.prog).at (breaks_search_best.E k)) [.cell 4 134] [.c true y45]) (unS breaks_search_best.j2_s y) := by rw [breaks_search_best.j2]; kernel_rfl
theorem breaks_search_best.l0_e (k : Nat) (y : denS breaks_search_best.l0_s) : breaks_search_best.l0 (k + 1) y.1 y.2.1 y.2.2.2.2.1 y.2.2.2.2.2.1 y.2.2.2.2.2.2.1 y.2.2.2.2.2.2.2.1 = evP ((breaks_search_best.G Try.prog).at (breaks_search_best.E k)) (fun i => (breaks_search_best.O k)[i]?) [1, 0, 1, 1, 1, 0, 1, 0, 0] (cd Try.f71) breaks_search_best.H (kFin ((breaks_search_best.G Try.prog).at (breaks_search_best.E k)) [.cell 4 134] [.c true y45]) (unS breaks_search_best.l0_s y) := by rw [breaks_search_best.l0]; kernel_rfl
theorem breaks_search_best.go : goesTo Try.prog 71 := ⟨_, Try.func71, by kernel_rfl, rfl⟩
theorem breaks_search_best.ok (k : Nat) : SigOk Try.prog 71 (breaks_search_best.sig k) :=
  fn_p (G := breaks_search_best.G Try.prog) (c := cd Try.f71) (rs := [.cell 4 134]) (args := [(false, y106), (false, (.i .i64))]) (l := [.c true y45]) (fn := Try.f71) ⟨Try.func71, by kernel_rfl, by kernel_rfl, by kernel_rfl, le_of rfl, le_of rfl, TT_ok, AD_ok⟩ rfl breaks_search_best.E (fun k p hp => by
    simp only [breaks_search_best.E, List.mem_cons, List.not_mem_nil, or_false] at hp
    rcases hp with rfl | rfl | rfl | rfl | rfl | rfl | rfl
    · exact ⟨measure_Para_Ends.ok k, measure_Para_Ends.go⟩
    · exact ⟨measure_Para_End.ok k, measure_Para_End.go⟩
    · exact ⟨breaks_search_line.ok k, breaks_search_line.go⟩
    · exact ⟨measure_Total.ok k, measure_Total.go⟩
    · exact ⟨breaks_search_cost.ok k, breaks_search_cost.go⟩
    · exact ⟨breaks_search_first.ok k, breaks_search_first.go⟩
    · exact ⟨measure_Para_Bounds.ok k, measure_Para_Bounds.go⟩)
    (fun k i => (breaks_search_best.O k)[i]?) breaks_search_best.H (fun k x => breaks_search_best.f k x.1 x.2.1)
    (fun id o y h => by
    have h' := List.mem_of_getElem? h
    simp only [breaks_search_best.O, List.mem_cons, List.not_mem_nil, or_false] at h'
    rcases h' with rfl | rfl | rfl | rfl | rfl <;> rfl)
    (fun k p hp => by
    rw [show pts (cd Try.f71) breaks_search_best.H = [(4, [1, 0, 1, 1, 1, 0, 1, 0, 0, 1, 0, 0, 1, 1, 1, 1, 1, 1, 1, 0, 0]), (3, [1, 0, 1, 1, 1, 0, 1, 0, 0, 1, 0, 0, 1, 1, 1, 1, 1]), (1, [1, 0, 1, 1, 1, 0, 1, 0, 0, 1, 0, 0, 1, 1]), (2, [1, 0, 1, 1, 1, 0, 1, 0, 0, 1, 1]), (0, [1, 0, 1, 1, 1, 0, 1, 0, 0])] by kernel_rfl] at hp
    simp only [List.mem_cons, List.not_mem_nil, or_false] at hp
    rcases hp with rfl | rfl | rfl | rfl | rfl
    · exact ptOk_of rfl (breaks_search_best.l4_e k)
    · exact ptOk_of rfl (breaks_search_best.j3_e k)
    · exact ptOk_of rfl (breaks_search_best.j1_e k)
    · exact ptOk_of rfl (breaks_search_best.j2_e k)
    · exact ptOk_of rfl (breaks_search_best.l0_e k))
    (fun k x => by kernel_rfl) k
/-! (*reglet/breaks.search).weigh -/
mutual
def breaks_search_weigh.l0 : Nat → Int → ((List api_Item × List Int × List Int × List Int × List Int × List Int × Int × List Int) × Int × Int × Int × Int × Int × Int × Int × Int × Bool × List measure_Sum × List Int) → Option (Int × ((List api_Item × List Int × List Int × List Int × List Int × List Int × Int × List Int) × Int × Int × Int × Int × Int × Int × Int × Int × Bool × List measure_Sum × List Int))
  | 0, _, _ => none
  | k + 1, k_, s => if (decide (0 ≤ k_)) = true then ((breaks_search_best.f k s k_).bind fun r2 => if 0 ≤ k_ ∧ k_ < (s.2.2.2.2.2.2.2.2.2.2.1.length : Int) then ((s.2.2.2.2.2.2.2.2.2.2.1[k_.toNat]?).bind fun e => breaks_search_weigh.l0 k (wrap64 (k_ - 1)) (s.1, s.2.1, s.2.2.1, s.2.2.2.1, s.2.2.2.2.1, s.2.2.2.2.2.1, s.2.2.2.2.2.2.1, s.2.2.2.2.2.2.2.1, s.2.2.2.2.2.2.2.2.1, s.2.2.2.2.2.2.2.2.2.1, s.2.2.2.2.2.2.2.2.2.2.1.set k_.toNat r2, s.2.2.2.2.2.2.2.2.2.2.2)) else none) else ((breaks_search_best.f k s (-1)).bind fun r3 => some (r3.1, s))
end
def breaks_search_weigh.f (k : Nat) (a0 : (List api_Item × List Int × List Int × List Int × List Int × List Int × Int × List Int) × Int × Int × Int × Int × Int × Int × Int × Int × Bool × List measure_Sum × List Int) : Option (Int × ((List api_Item × List Int × List Int × List Int × List Int × List Int × Int × List Int) × Int × Int × Int × Int × Int × Int × Int × Int × Bool × List measure_Sum × List Int)) := (measure_Para_Ends.f k a0.1).bind fun r => if r = r ∧ 0 ≤ r ∧ (32 : Int) * r ≤ 281474976710656 then (breaks_search_weigh.l0 k (wrap64 (r - 2)) (a0.1, a0.2.1, a0.2.2.1, a0.2.2.2.1, a0.2.2.2.2.1, a0.2.2.2.2.2.1, a0.2.2.2.2.2.2.1, a0.2.2.2.2.2.2.2.1, a0.2.2.2.2.2.2.2.2.1, a0.2.2.2.2.2.2.2.2.2.1, (List.replicate r.toNat (0, 0, 0, 0) : List measure_Sum), a0.2.2.2.2.2.2.2.2.2.2.2)) else none
def breaks_search_weigh.sig (k : Nat) : Sig := .l y87 [] [.c false (.i .i64)] fun b x => breaks_search_weigh.f k b
def breaks_search_weigh.E (k : Nat) : List (Nat × Sig) := [(69, measure_Para_Ends.sig k), (71, breaks_search_best.sig k)]
def breaks_search_weigh.G (P : Program) : GI := ⟨P, TT, 33, 45, [(0, 33, 12)], [0], [], [], [], AD⟩
def breaks_search_weigh.H : H := .s .n (.s .n (.s .n (.s (.s .n (.s (.l 0 .n) .n)) .n)))
abbrev breaks_search_weigh.l0_s : Sh := [(0, .at_ 33), (4, .v (.i .i64)), (33, .box y87)]
def breaks_search_weigh.O (k : Nat) : List (Orc (denR ([.c false (.i .i64)] ++ [.c true y87]))) := [⟨breaks_search_weigh.l0_s, fun y => breaks_search_weigh.l0 k y.2.1 y.2.2.1⟩]
theorem breaks_search_weigh.l0_e (k : Nat) (y : denS breaks_search_weigh.l0_s) : breaks_search_weigh.l0 (k + 1) y.2.1 y.2.2.1 = evP ((breaks_search_weigh.G Try.prog).at (breaks_search_weigh.E k)) (fun i => (breaks_search_weigh.O k)[i]?) [1, 1, 1, 0, 1, 0, 0] (cd Try.f45) breaks_search_weigh.H (kFinL ((breaks_search_weigh.G Try.prog).at (breaks_search_weigh.E k)) y87 [.tmp 2] [.c false (.i .i64)]) (unS breaks_search_weigh.l0_s y) := by rw [breaks_search_weigh.l0]; kernel_rfl
theorem breaks_search_weigh.go : goesTo Try.prog 45 := ⟨_, Try.func45, by kernel_rfl, rfl⟩
theorem breaks_search_weigh.ok (k : Nat) : SigOk Try.prog 45 (breaks_search_weigh.sig k) :=
  fn_l (G := breaks_search_weigh.G Try.prog) (c := cd Try.f45) (rs := [.tmp 2]) (args := []) (l := [.c false (.i .i64)]) (fn := Try.f45) ⟨Try.func45, by kernel_rfl, by kernel_rfl, by kernel_rfl, le_of rfl, le_of rfl, TT_ok, AD_ok⟩ rfl breaks_search_weigh.E (fun k p hp => by
    simp only [breaks_search_weigh.E, List.mem_cons, List.not_mem_nil, or_false] at hp
    rcases hp with rfl | rfl
    · exact ⟨measure_Para_Ends.ok k, measure_Para_Ends.go⟩
    · exact ⟨breaks_search_best.ok k, breaks_search_best.go⟩)
    (fun k i => (breaks_search_weigh.O k)[i]?) breaks_search_weigh.H (fun k b x => breaks_search_weigh.f k b)
    (fun id o y h => by
    have h' := List.mem_of_getElem? h
    simp only [breaks_search_weigh.O, List.mem_cons, List.not_mem_nil, or_false] at h'
    rcases h' with rfl <;> rfl)
    (fun k p hp => by
    rw [show pts (cd Try.f45) breaks_search_weigh.H = [(0, [1, 1, 1, 0, 1, 0, 0])] by kernel_rfl] at hp
    simp only [List.mem_cons, List.not_mem_nil, or_false] at hp
    rcases hp with rfl
    · exact ptOk_of rfl (breaks_search_weigh.l0_e k))
    (fun k b x => by kernel_rfl) k
/-! (*reglet/breaks.search).choose -/
mutual
def breaks_search_choose.j0 : Nat → ((List api_Item × List Int × List Int × List Int × List Int × List Int × Int × List Int) × Int × Int × Int × Int × Int × Int × Int × Int × Bool × List measure_Sum × List Int) → Int → (List Int) → Int → Int → Int → Int → Option (List Int)
  | 0, _, _, _, _, _, _, _ => none
  | k + 1, t, t2, t3, t4, t5, t6, t7 => if (decide (t4 = (wrap64 (t7 - 1)))) = true then (some t3) else ((at? t.2.2.2.2.2.2.2.2.2.2.2 (wrap64 (t4 + 1))).bind fun e => breaks_search_choose.l1 k t t2 t3 t4 t5 t6 t7 e (wrap64 (t4 + 1)))
def breaks_search_choose.l1 : Nat → ((List api_Item × List Int × List Int × List Int × List Int × List Int × Int × List Int) × Int × Int × Int × Int × Int × Int × Int × Int × Bool × List measure_Sum × List Int) → Int → (List Int) → Int → Int → Int → Int → Int → Int → Option (List Int)
  | 0, _, _, _, _, _, _, _, _, _ => none
  | k + 1, t8, t9, t10, t11, t12, t13, t14, t15, t16 => if (decide (t16 ≤ t15)) = true then ((breaks_search_line.f k t8 t11 t16).bind fun r2 => if (!r2.2) = true then (breaks_search_choose.j2 k t8 t9 t10 t11 t12 t13 t14 t15 t16) else (if (decide (t16 < (wrap64 (t14 - 1)))) = true then ((at? t8.2.2.2.2.2.2.2.2.2.2.1 t16).bind fun e2 => (at? ([e2.1, e2.2.1, e2.2.2.1, e2.2.2.2] : List Int) r2.1.2.2.2.1).bind fun e3 => breaks_search_choose.j3 k t8 t9 t10 t11 t12 t13 t14 t15 t16 e3 r2.1) else (breaks_search_choose.j3 k t8 t9 t10 t11 t12 t13 t14 t15 t16 0 r2.1))) else (some t10)
def breaks_search_choose.j2 : Nat → ((List api_Item × List Int × List Int × List Int × List Int × List Int × Int × List Int) × Int × Int × Int × Int × Int × Int × Int × Int × Bool × List measure_Sum × List Int) → Int → (List Int) → Int → Int → Int → Int → Int → Int → Option (List Int)
  | 0, _, _, _, _, _, _, _, _, _ => none
  | k + 1, t17, t18, t19, t20, t21, t22, t23, t24, t25 => breaks_search_choose.l1 k t17 t18 t19 t20 t21 t22 t23 t24 (wrap64 (t25 + 1))
def breaks_search_choose.j3 : Nat → ((List api_Item × List Int × List Int × List Int × List Int × List Int × Int × List Int) × Int × Int × Int × Int × Int × Int × Int × Int × Bool × List measure_Sum × List Int) → Int → (List Int) → Int → Int → Int → Int → Int → Int → Int → api_Fit → Option (List Int)
  | 0, _, _, _, _, _, _, _, _, _, _, _ => none
  | k + 1, t26, t27, t28, t29, t30, t31, t32, t33, t34, t35, t36 => (breaks_search_cost.f k t26 t29 t34 t36 t30).bind fun r3 => (measure_Total.f k t31 r3).bind fun r4 => if (decide (t35 = 1125899906842625)) = true then (breaks_search_choose.j2 k t26 t27 t28 t29 t30 t31 t32 t33 t34) else ((measure_Total.f k r4 t35).bind fun r5 => if (!decide (r5 = t27)) = true then (breaks_search_choose.j2 k t26 t27 t28 t29 t30 t31 t32 t33 t34) else (breaks_search_choose.j4 k t26 t27 t28 t32 t34 r4 t36))
def breaks_search_choose.j4 : Nat → ((List api_Item × List Int × List Int × List Int × List Int × List Int × Int × List Int) × Int × Int × Int × Int × Int × Int × Int × Int × Bool × List measure_Sum × List Int) → Int → (List Int) → Int → Int → Int → api_Fit → Option (List Int)
  | 0, _, _, _, _, _, _, _ => none
  | k + 1, t37, t38, t39, t40, t41, t42, t43 => (measure_Para_End.f k t37.1 t41).bind fun r6 => if (t39.length + ([r6] : List Int).length) * 8 ≤ 140737488355328 then (breaks_search_choose.j0 k t37 t38 (t39 ++ ([r6] : List Int)) t41 t43.2.2.2.1 t42 t40) else none
end
def breaks_search_choose.f (k : Nat) (a0 : (List api_Item × List Int × List Int × List Int × List Int × List Int × Int × List Int) × Int × Int × Int × Int × Int × Int × Int × Int × Bool × List measure_Sum × List Int) (a1 : Int) : Option (List Int) := (measure_Para_Ends.f k a0.1).bind fun r => breaks_search_choose.j0 k a0 a1 ([] : List Int) (-1) 0 0 r
def breaks_search_choose.sig (k : Nat) : Sig := .p [(false, y106), (false, (.i .i64))] [.c false y10] fun x => breaks_search_choose.f k x.1 x.2.1
def breaks_search_choose.E (k : Nat) : List (Nat × Sig) := [(69, measure_Para_Ends.sig k), (70, measure_Para_End.sig k), (72, breaks_search_line.sig k), (73, measure_Total.sig k), (74, breaks_search_cost.sig k)]
def breaks_search_choose.G (P : Program) : GI := ⟨P, TT, 95, 100, [(12, 95, 5)], [], [], [], [], AD⟩
def breaks_search_choose.H : H := .s .n (.g 0 0 (.s .n (.s .n (.s .n (.j 0 .n (.s .n (.s .n (.s (.s .n (.s (.l 1 (.s .n (.j 2 (.s (.s .n (.s .n (.s .n (.j 3 .n (.s .n (.j 4 .n .n)))))) .n) .n))) .n)) .n))))))))
abbrev breaks_search_choose.j0_s : Sh := [(0, .v y106), (1, .v (.i .i64)), (5, .v y10), (6, .v (.i .i64)), (7, .v (.i .i64)), (8, .v (.i .i64)), (9, .v (.i .i64))]
abbrev breaks_search_choose.l1_s : Sh := [(0, .v y106), (1, .v (.i .i64)), (5, .v y10), (6, .v (.i .i64)), (7, .v (.i .i64)), (8, .v (.i .i64)), (9, .v (.i .i64)), (10, .v (.i .i64)), (11, .v (.i .i64))]
abbrev breaks_search_choose.j2_s : Sh := [(0, .v y106), (1, .v (.i .i64)), (5, .v y10), (6, .v (.i .i64)), (7, .v (.i .i64)), (8, .v (.i .i64)), (9, .v (.i .i64)), (10, .v (.i .i64)), (11, .v (.i .i64))]
abbrev breaks_search_choose.j3_s : Sh := [(0, .v y106), (1, .v (.i .i64)), (5, .v y10), (6, .v (.i .i64)), (7, .v (.i .i64)), (8, .v (.i .i64)), (9, .v (.i .i64)), (10, .v (.i .i64)), (11, .v (.i .i64)), (12, .at_ 95), (14, .v (.i .i64)), (95, .box y93)]
abbrev breaks_search_choose.j4_s : Sh := [(0, .v y106), (1, .v (.i .i64)), (5, .v y10), (9, .v (.i .i64)), (11, .v (.i .i64)), (12, .at_ 95), (15, .v (.i .i64)), (95, .box y93)]
def breaks_search_choose.O (k : Nat) : List (Orc (denR [.c false y10])) := [⟨breaks_search_choose.j0_s, fun y => breaks_search_choose.j0 k y.1 y.2.1 y.2.2.1 y.2.2.2.1 y.2.2.2.2.1 y.2.2.2.2.2.1 y.2.2.2.2.2.2.1⟩, ⟨breaks_search_choose.l1_s, fun y => breaks_search_choose.l1 k y.1 y.2.1 y.2.2.1 y.2.2.2.1 y.2.2.2.2.1 y.2.2.2.2.2.1 y.2.2.2.2.2.2.1 y.2.2.2.2.2.2.2.1 y.2.2.2.2.2.2.2.2.1⟩, ⟨breaks_search_choose.j2_s, fun y => breaks_search_choose.j2 k y.1 y.2.1 y.2.2.1 y.2.2.2.1 y.2.2.2.2.1 y.2.2.2.2.2.1 y.2.2.2.2.2.2.1 y.2.2.2.2.2.2.2.1 y.2.2.2.2.2.2.2.2.1⟩, ⟨breaks_search_choose.j3_s, fun y => breaks_search_choose.j3 k y.1 y.2.1 y.2.2.1 y.2.2.2.1 y.2.2.2.2.1 y.2.2.2.2.2.1 y.2.2.2.2.2.2.1 y.2.2.2.2.2.2.2.1 y.2.2.2.2.2.2.2.2.1 y.2.2.2.2.2.2.2.2.2.2.1 y.2.2.2.2.2.2.2.2.2.2.2.1⟩, ⟨breaks_search_choose.j4_s, fun y => breaks_search_choose.j4 k y.1 y.2.1 y.2.2.1 y.2.2.2.1 y.2.2.2.2.1 y.2.2.2.2.2.2.1 y.2.2.2.2.2.2.2.1⟩]
theorem breaks_search_choose.j4_e (k : Nat) (y : denS breaks_search_choose.j4_s) : breaks_search_choose.j4 (k + 1) y.1 y.2.1 y.2.2.1 y.2.2.2.1 y.2.2.2.2.1 y.2.2.2.2.2.2.1 y.2.2.2.2.2.2.2.1 = evP ((breaks_search_choose.G Try.prog).at (breaks_search_choose.E k)) (fun i => (breaks_search_choose.O k)[i]?) [1, 0, 1, 1, 1, 1, 1, 1, 0, 1, 0, 0, 1, 0, 0, 1, 1, 1, 1, 1, 1] (cd Try.f46) breaks_search_choose.H (kFin ((breaks_search_choose.G Try.prog).at (breaks_search_choose.E k)) [.tmp 4] [.c false y10]) (unS breaks_search_choose.j4_s y) := by rw [breaks_search_choose.j4]; kernel_rfl
theorem breaks_search_choose.j3_e (k : Nat) (y : denS breaks_search_choose.j3_s) : breaks_search_choose.j3 (k + 1) y.1 y.2.1 y.2.2.1 y.2.2.2.1 y.2.2.2.2.1 y.2.2.2.2.2.1 y.2.2.2.2.2.2.1 y.2.2.2.2.2.2.2.1 y.2.2.2.2.2.2.2.2.1 y.2.2.2.2.2.2.2.2.2.2.1 y.2.2.2.2.2.2.2.2.2.2.2.1 = evP ((breaks_search_choose.G Try.prog).at (breaks_search_choose.E k)) (fun i => (breaks_search_choose.O k)[i]?) [1, 0, 1, 1, 1, 1, 1, 1, 0, 1, 0, 0, 1, 0, 0, 1, 1, 1, 1] (cd Try.f46) breaks_search_choose.H (kFin ((breaks_search_choose.G Try.prog).at (breaks_search_choose.E k)) [.tmp 4] [.c false y10]) (unS breaks_search_choose.j3_s y) := by rw [breaks_search_choose.j3]; kernel_rfl
theorem breaks_search_choose.j2_e (k : Nat) (y : denS breaks_search_choose.j2_s) : breaks_search_choose.j2 (k + 1) y.1 y.2.1 y.2.2.1 y.2.2.2.1 y.2.2.2.2.1 y.2.2.2.2.2.1 y.2.2.2.2.2.2.1 y.2.2.2.2.2.2.2.1 y.2.2.2.2.2.2.2.2.1 = evP ((breaks_search_choose.G Try.prog).at (breaks_search_choose.E k)) (fun i => (breaks_search_choose.O k)[i]?) [1, 0, 1, 1, 1, 1, 1, 1, 0, 1, 0, 0, 1, 1] (cd Try.f46) breaks_search_choose.H (kFin ((breaks_search_choose.G Try.prog).at (breaks_search_choose.E k)) [.tmp 4] [.c false y10]) (unS breaks_search_choose.j2_s y) := by rw [breaks_search_choose.j2]; kernel_rfl
theorem breaks_search_choose.l1_e (k : Nat) (y : denS breaks_search_choose.l1_s) : breaks_search_choose.l1 (k + 1) y.1 y.2.1 y.2.2.1 y.2.2.2.1 y.2.2.2.2.1 y.2.2.2.2.2.1 y.2.2.2.2.2.2.1 y.2.2.2.2.2.2.2.1 y.2.2.2.2.2.2.2.2.1 = evP ((breaks_search_choose.G Try.prog).at (breaks_search_choose.E k)) (fun i => (breaks_search_choose.O k)[i]?) [1, 0, 1, 1, 1, 1, 1, 1, 0, 1, 0, 0] (cd Try.f46) breaks_search_choose.H (kFin ((breaks_search_choose.G Try.prog).at (breaks_search_choose.E k)) [.tmp 4] [.c false y10]) (unS breaks_search_choose.l1_s y) := by rw [breaks_search_choose.l1]; kernel_rfl
theorem breaks_search_choose.j0_e (k : Nat) (y : denS breaks_search_choose.j0_s) : breaks_search_choose.j0 (k + 1) y.1 y.2.1 y.2.2.1 y.2.2.2.1 y.2.2.2.2.1 y.2.2.2.2.2.1 y.2.2.2.2.2.2.1 = evP ((breaks_search_choose.G Try.prog).at (breaks_search_choose.E k)) (fun i => (breaks_search_choose.O k)[i]?) [1, 0, 1, 1, 1, 1] (cd Try.f46) breaks_search_choose.H (kFin ((breaks_search_choose.G Try.prog).at (breaks_search_choose.E k)) [.tmp 4] [.c false y10]) (unS breaks_search_choose.j0_s y) := by rw [breaks_search_choose.j0]; kernel_rfl
theorem breaks_search_choose.go : goesTo Try.prog 46 := ⟨_, Try.func46, by kernel_rfl, rfl⟩
theorem breaks_search_choose.ok (k : Nat) : SigOk Try.prog 46 (breaks_search_choose.sig k) :=
  fn_p (G := breaks_search_choose.G Try.prog) (c := cd Try.f46) (rs := [.tmp 4]) (args := [(false, y106), (false, (.i .i64))]) (l := [.c false y10]) (fn := Try.f46) ⟨Try.func46, by kernel_rfl, by kernel_rfl, by kernel_rfl, le_of rfl, le_of rfl, TT_ok, AD_ok⟩ rfl breaks_search_choose.E (fun k p hp => by
    simp only [breaks_search_choose.E, List.mem_cons, List.not_mem_nil, or_false] at hp
    rcases hp with rfl | rfl | rfl | rfl | rfl
    · exact ⟨measure_Para_Ends.ok k, measure_Para_Ends.go⟩
    · exact ⟨measure_Para_End.ok k, measure_Para_End.go⟩
    · exact ⟨breaks_search_line.ok k, breaks_search_line.go⟩
    · exact ⟨measure_Total.ok k, measure_Total.go⟩
    · exact ⟨breaks_search_cost.ok k, breaks_search_cost.go⟩)
    (fun k i => (breaks_search_choose.O k)[i]?) breaks_search_choose.H (fun k x => breaks_search_choose.f k x.1 x.2.1)
    (fun id o y h => by
    have h' := List.mem_of_getElem? h
    simp only [breaks_search_choose.O, List.mem_cons, List.not_mem_nil, or_false] at h'
    rcases h' with rfl | rfl | rfl | rfl | rfl <;> rfl)
    (fun k p hp => by
    rw [show pts (cd Try.f46) breaks_search_choose.H = [(4, [1, 0, 1, 1, 1, 1, 1, 1, 0, 1, 0, 0, 1, 0, 0, 1, 1, 1, 1, 1, 1]), (3, [1, 0, 1, 1, 1, 1, 1, 1, 0, 1, 0, 0, 1, 0, 0, 1, 1, 1, 1]), (2, [1, 0, 1, 1, 1, 1, 1, 1, 0, 1, 0, 0, 1, 1]), (1, [1, 0, 1, 1, 1, 1, 1, 1, 0, 1, 0, 0]), (0, [1, 0, 1, 1, 1, 1])] by kernel_rfl] at hp
    simp only [List.mem_cons, List.not_mem_nil, or_false] at hp
    rcases hp with rfl | rfl | rfl | rfl | rfl
    · exact ptOk_of rfl (breaks_search_choose.j4_e k)
    · exact ptOk_of rfl (breaks_search_choose.j3_e k)
    · exact ptOk_of rfl (breaks_search_choose.j2_e k)
    · exact ptOk_of rfl (breaks_search_choose.l1_e k)
    · exact ptOk_of rfl (breaks_search_choose.j0_e k))
    (fun k x => by kernel_rfl) k
/-! reglet/breaks.Break -/
mutual
def breaks_Break.j0 : Nat → Int → api_Breaking → ((List api_Item × List Int × List Int × List Int × List Int × List Int × Int × List Int) × Int × Int × Int × Int × Int × Int × Int × Int × Bool × List measure_Sum × List Int) → Option (api_Breaking × Int)
  | 0, _, _, _ => none
  | k + 1, total, t, s => (breaks_search_choose.f k s total).bind fun r5 => some ((r5, total, s.2.2.2.2.2.2.2.2.2.1), 0)
end
def breaks_Break.f (k : Nat) (a0 : List api_Item × List Int × List Int × List Int × List Int × List Int × Int × List Int) (a1 : Int) (a2 : api_Settings) : Option (api_Breaking × Int) := (breaks_Check.f k a1 a2).bind fun r => if (!decide (r = 0)) = true then (some ((([] : List Int), 0, (false)), r)) else ((breaks_search_forced.f k (a0, a1, a2.1, a2.2.1, a2.2.2.1, a2.2.2.2.1, a2.2.2.2.2.1, a2.2.2.2.2.2.1, a2.2.2.2.2.2.2, (false), ([] : List measure_Sum), ([] : List Int))).bind fun r2 => (breaks_search_weigh.f k r2).bind fun r3 => if (decide (r3.1 = 1125899906842625)) = true then ((breaks_search_weigh.f k (r3.2.1, r3.2.2.1, r3.2.2.2.1, r3.2.2.2.2.1, r3.2.2.2.2.2.1, r3.2.2.2.2.2.2.1, r3.2.2.2.2.2.2.2.1, r3.2.2.2.2.2.2.2.2.1, r3.2.2.2.2.2.2.2.2.2.1, (true), r3.2.2.2.2.2.2.2.2.2.2.2.1, r3.2.2.2.2.2.2.2.2.2.2.2.2)).bind fun r4 => breaks_Break.j0 k r4.1 (([] : List Int), 0, (false)) r4.2) else (breaks_Break.j0 k r3.1 (([] : List Int), 0, (false)) r3.2))
def breaks_Break.sig (k : Nat) : Sig := .p [(false, y75), (false, (.i .i64)), (true, y48)] [.c true y107, .c false (.i .i64)] fun x => breaks_Break.f k x.1 x.2.1 x.2.2.1
def breaks_Break.E (k : Nat) : List (Nat × Sig) := [(24, breaks_Check.sig k), (44, breaks_search_forced.sig k), (45, breaks_search_weigh.sig k), (46, breaks_search_choose.sig k)]
def breaks_Break.G (P : Program) : GI := ⟨P, TT, 46, 71, [(5, 46, 7), (6, 53, 3), (23, 56, 12), (11, 68, 3)], [], [], [], [], AD⟩
def breaks_Break.H : H := .s .n (.s .n (.s .n (.s .n (.s .n (.j 0 .n .n)))))
abbrev breaks_Break.j0_s : Sh := [(6, .at_ 53), (9, .at_ 56), (10, .v (.i .i64)), (53, .box y107), (56, .box y87)]
def breaks_Break.O (k : Nat) : List (Orc (denR [.c true y107, .c false (.i .i64)])) := [⟨breaks_Break.j0_s, fun y => breaks_Break.j0 k y.2.2.1 y.2.2.2.1 y.2.2.2.2.1⟩]
theorem breaks_Break.j0_e (k : Nat) (y : denS breaks_Break.j0_s) : breaks_Break.j0 (k + 1) y.2.2.1 y.2.2.2.1 y.2.2.2.2.1 = evP ((breaks_Break.G Try.prog).at (breaks_Break.E k)) (fun i => (breaks_Break.O k)[i]?) [1, 1, 1, 1, 1, 1] (cd Try.f26) breaks_Break.H (kFin ((breaks_Break.G Try.prog).at (breaks_Break.E k)) [.cell 6 35, .tmp 7] [.c true y107, .c false (.i .i64)]) (unS breaks_Break.j0_s y) := by rw [breaks_Break.j0]; kernel_rfl
theorem breaks_Break.go : goesTo Try.prog 26 := ⟨_, Try.func26, by kernel_rfl, rfl⟩
theorem breaks_Break.ok (k : Nat) : SigOk Try.prog 26 (breaks_Break.sig k) :=
  fn_p (G := breaks_Break.G Try.prog) (c := cd Try.f26) (rs := [.cell 6 35, .tmp 7]) (args := [(false, y75), (false, (.i .i64)), (true, y48)]) (l := [.c true y107, .c false (.i .i64)]) (fn := Try.f26) ⟨Try.func26, by kernel_rfl, by kernel_rfl, by kernel_rfl, le_of rfl, le_of rfl, TT_ok, AD_ok⟩ rfl breaks_Break.E (fun k p hp => by
    simp only [breaks_Break.E, List.mem_cons, List.not_mem_nil, or_false] at hp
    rcases hp with rfl | rfl | rfl | rfl
    · exact ⟨breaks_Check.ok k, breaks_Check.go⟩
    · exact ⟨breaks_search_forced.ok k, breaks_search_forced.go⟩
    · exact ⟨breaks_search_weigh.ok k, breaks_search_weigh.go⟩
    · exact ⟨breaks_search_choose.ok k, breaks_search_choose.go⟩)
    (fun k i => (breaks_Break.O k)[i]?) breaks_Break.H (fun k x => breaks_Break.f k x.1 x.2.1 x.2.2.1)
    (fun id o y h => by
    have h' := List.mem_of_getElem? h
    simp only [breaks_Break.O, List.mem_cons, List.not_mem_nil, or_false] at h'
    rcases h' with rfl <;> rfl)
    (fun k p hp => by
    rw [show pts (cd Try.f26) breaks_Break.H = [(0, [1, 1, 1, 1, 1, 1])] by kernel_rfl] at hp
    simp only [List.mem_cons, List.not_mem_nil, or_false] at hp
    rcases hp with rfl
    · exact ptOk_of rfl (breaks_Break.j0_e k))
    (fun k x => by kernel_rfl) k
/-! reglet/lines.Cuts -/
mutual
def lines_Cuts.l0 : Nat → (List api_Item × List Int × List Int × List Int × List Int × List Int × Int × List Int) → (List Int) → Int → (List Int) → (List Int) → Int → Int → Option (List Int)
  | 0, _, _, _, _, _, _, _ => none
  | k + 1, p, list, size, out, t, t2, t3 => if (decide (t3 < t2)) = true then ((at? t t3).bind fun e => if (decide (t3 = (wrap64 ((list.length : Int) - 1)))) = true then (if (out.length + ([size] : List Int).length) * 8 ≤ 140737488355328 then (some (out ++ ([size] : List Int))) else none) else ((measure_Para_Start.f k p e).bind fun r => (at? list (wrap64 (t3 + 1))).bind fun e2 => (measure_Para_Item.f k p (if e2 < r then e2 else r)).bind fun r2 => if (out.length + ([(if r2.2.2.2.2.2.2.2.1 < size then r2.2.2.2.2.2.2.2.1 else size)] : List Int).length) * 8 ≤ 140737488355328 then (lines_Cuts.l0 k p list size (out ++ ([(if r2.2.2.2.2.2.2.2.1 < size then r2.2.2.2.2.2.2.2.1 else size)] : List Int)) t t2 (wrap64 (t3 + 1))) else none)) else (some out)
end
def lines_Cuts.f (k : Nat) (a0 : List api_Item × List Int × List Int × List Int × List Int × List Int × Int × List Int) (a1 : List Int) (a2 : Int) : Option (List Int) := lines_Cuts.l0 k a0 a1 a2 ([] : List Int) a1 (a1.length : Int) 0
def lines_Cuts.sig (k : Nat) : Sig := .p [(false, y65), (false, y57), (false, (.i .i64))] [.c false y10] fun x => lines_Cuts.f k x.1 x.2.1 x.2.2.1
def lines_Cuts.E (k : Nat) : List (Nat × Sig) := [(49, measure_Para_Item.sig k), (75, measure_Para_Start.sig k)]
def lines_Cuts.G (P : Program) : GI := ⟨P, TT, 45, 45, [], [], [], [], [], AD⟩
def lines_Cuts.H : H := .s .n (.s .n (.s (.s .n (.s (.l 0 .n) .n)) .n))
abbrev lines_Cuts.l0_s : Sh := [(0, .v y65), (1, .v y57), (2, .v (.i .i64)), (7, .v y10), (10, .v y57), (11, .v (.i .i64)), (12, .v (.i .i64))]
def lines_Cuts.O (k : Nat) : List (Orc (denR [.c false y10])) := [⟨lines_Cuts.l0_s, fun y => lines_Cuts.l0 k y.1 y.2.1 y.2.2.1 y.2.2.2.1 y.2.2.2.2.1 y.2.2.2.2.2.1 y.2.2.2.2.2.2.1⟩]
theorem lines_Cuts.l0_e (k : Nat) (y : denS lines_Cuts.l0_s) : lines_Cuts.l0 (k + 1) y.1 y.2.1 y.2.2.1 y.2.2.2.1 y.2.2.2.2.1 y.2.2.2.2.2.1 y.2.2.2.2.2.2.1 = evP ((lines_Cuts.G Try.prog).at (lines_Cuts.E k)) (fun i => (lines_Cuts.O k)[i]?) [1, 1, 0, 1, 0, 0] (cd Try.f47) lines_Cuts.H (kFin ((lines_Cuts.G Try.prog).at (lines_Cuts.E k)) [.tmp 6] [.c false y10]) (unS lines_Cuts.l0_s y) := by rw [lines_Cuts.l0]; kernel_rfl
theorem lines_Cuts.go : goesTo Try.prog 47 := ⟨_, Try.func47, by kernel_rfl, rfl⟩
theorem lines_Cuts.ok (k : Nat) : SigOk Try.prog 47 (lines_Cuts.sig k) :=
  fn_p (G := lines_Cuts.G Try.prog) (c := cd Try.f47) (rs := [.tmp 6]) (args := [(false, y65), (false, y57), (false, (.i .i64))]) (l := [.c false y10]) (fn := Try.f47) ⟨Try.func47, by kernel_rfl, by kernel_rfl, by kernel_rfl, le_of rfl, le_of rfl, TT_ok, AD_ok⟩ rfl lines_Cuts.E (fun k p hp => by
    simp only [lines_Cuts.E, List.mem_cons, List.not_mem_nil, or_false] at hp
    rcases hp with rfl | rfl
    · exact ⟨measure_Para_Item.ok k, measure_Para_Item.go⟩
    · exact ⟨measure_Para_Start.ok k, measure_Para_Start.go⟩)
    (fun k i => (lines_Cuts.O k)[i]?) lines_Cuts.H (fun k x => lines_Cuts.f k x.1 x.2.1 x.2.2.1)
    (fun id o y h => by
    have h' := List.mem_of_getElem? h
    simp only [lines_Cuts.O, List.mem_cons, List.not_mem_nil, or_false] at h'
    rcases h' with rfl <;> rfl)
    (fun k p hp => by
    rw [show pts (cd Try.f47) lines_Cuts.H = [(0, [1, 1, 0, 1, 0, 0])] by kernel_rfl] at hp
    simp only [List.mem_cons, List.not_mem_nil, or_false] at hp
    rcases hp with rfl
    · exact ptOk_of rfl (lines_Cuts.l0_e k))
    (fun k x => by kernel_rfl) k
/-! reglet/lines.part -/
mutual
def lines_part.l0 : Nat → Int → Int → (List api_Run) → Int → (List api_Run) → Int → Int → Option (List api_Run)
  | 0, _, _, _, _, _, _, _ => none
  | k + 1, t, t2, t3, t4, t5, t6, t7 => if (decide (t7 < t6)) = true then ((at? t5 t7).bind fun e => if (decide ((wrap64 ((if (wrap64 (t4 + e.1)) < t2 then (wrap64 (t4 + e.1)) else t2) - (if t < t4 then t4 else t))) ≤ 0)) = true then (lines_part.l0 k t t2 t3 (wrap64 (t4 + e.1)) t5 t6 (wrap64 (t7 + 1))) else (if (decide (0 ≤ (wrap64 ((t3.length : Int) - 1)))) = true then (if 0 ≤ (wrap64 ((t3.length : Int) - 1)) ∧ (wrap64 ((t3.length : Int) - 1)) < (t3.length : Int) then ((t3[(wrap64 ((t3.length : Int) - 1)).toNat]?).bind fun e2 => if (decide (e2.2 = e.2)) = true then (if 0 ≤ (wrap64 ((t3.length : Int) - 1)) ∧ (wrap64 ((t3.length : Int) - 1)) < (t3.length : Int) then ((t3[(wrap64 ((t3.length : Int) - 1)).toNat]?).bind fun e3 => if 0 ≤ (wrap64 ((t3.length : Int) - 1)) ∧ (wrap64 ((t3.length : Int) - 1)) < (t3.length : Int) then ((t3[(wrap64 ((t3.length : Int) - 1)).toNat]?).bind fun e4 => lines_part.l0 k t t2 (t3.set ((wrap64 ((t3.length : Int) - 1)).toNat) (wrap64 (e3.1 + (wrap64 ((if (wrap64 (t4 + e.1)) < t2 then (wrap64 (t4 + e.1)) else t2) - (if t < t4 then t4 else t)))), e4.2)) (wrap64 (t4 + e.1)) t5 t6 (wrap64 (t7 + 1))) else none) else none) else (lines_part.j1 k t t2 t3 (wrap64 (t4 + e.1)) (wrap64 ((if (wrap64 (t4 + e.1)) < t2 then (wrap64 (t4 + e.1)) else t2) - (if t < t4 then t4 else t))) t5 t6 t7 e)) else none) else (lines_part.j1 k t t2 t3 (wrap64 (t4 + e.1)) (wrap64 ((if (wrap64 (t4 + e.1)) < t2 then (wrap64 (t4 + e.1)) else t2) - (if t < t4 then t4 else t))) t5 t6 t7 e))) else (some t3)
def lines_part.j1 : Nat → Int → Int → (List api_Run) → Int → Int → (List api_Run) → Int → Int → api_Run → Option (List api_Run)
  | 0, _, _, _, _, _, _, _, _, _ => none
  | k + 1, t8, t9, t10, t11, t12, t13, t14, t15, t16 => if (t10.length + ([(t12, t16.2)] : List api_Run).length) * 16 ≤ 140737488355328 then (lines_part.l0 k t8 t9 (t10 ++ ([(t12, t16.2)] : List api_Run)) t11 t13 t14 (wrap64 (t15 + 1))) else none
end
def lines_part.f (k : Nat) (a0 : List api_Run) (a1 : Int) (a2 : Int) : Option (List api_Run) := lines_part.l0 k a1 a2 ([] : List api_Run) 0 a0 (a0.length : Int) 0
def lines_part.sig (k : Nat) : Sig := .p [(false, y22), (false, (.i .i64)), (false, (.i .i64))] [.c false y108] fun x => lines_part.f k x.1 x.2.1 x.2.2.1
def lines_part.E (k : Nat) : List (Nat × Sig) := []
def lines_part.G (P : Program) : GI := ⟨P, TT, 68, 70, [(10, 68, 2)], [], [], [], [], AD⟩
def lines_part.H : H := .s .n (.s .n (.s .n (.s (.s .n (.s (.l 0 (.s .n (.s .n (.s (.s (.s .n (.s .n (.s .n (.s .n (.j 1 .n .n))))) .n) .n)))) .n)) .n)))
abbrev lines_part.l0_s : Sh := [(1, .v (.i .i64)), (2, .v (.i .i64)), (7, .v y108), (8, .v (.i .i64)), (13, .v y22), (14, .v (.i .i64)), (15, .v (.i .i64))]
abbrev lines_part.j1_s : Sh := [(1, .v (.i .i64)), (2, .v (.i .i64)), (7, .v y108), (8, .v (.i .i64)), (10, .at_ 68), (11, .v (.i .i64)), (13, .v y22), (14, .v (.i .i64)), (15, .v (.i .i64)), (68, .box y0)]
def lines_part.O (k : Nat) : List (Orc (denR [.c false y108])) := [⟨lines_part.l0_s, fun y => lines_part.l0 k y.1 y.2.1 y.2.2.1 y.2.2.2.1 y.2.2.2.2.1 y.2.2.2.2.2.1 y.2.2.2.2.2.2.1⟩, ⟨lines_part.j1_s, fun y => lines_part.j1 k y.1 y.2.1 y.2.2.1 y.2.2.2.1 y.2.2.2.2.2.1 y.2.2.2.2.2.2.1 y.2.2.2.2.2.2.2.1 y.2.2.2.2.2.2.2.2.1 y.2.2.2.2.2.2.2.2.2.1⟩]
theorem lines_part.j1_e (k : Nat) (y : denS lines_part.j1_s) : lines_part.j1 (k + 1) y.1 y.2.1 y.2.2.1 y.2.2.2.1 y.2.2.2.2.2.1 y.2.2.2.2.2.2.1 y.2.2.2.2.2.2.2.1 y.2.2.2.2.2.2.2.2.1 y.2.2.2.2.2.2.2.2.2.1 = evP ((lines_part.G Try.prog).at (lines_part.E k)) (fun i => (lines_part.O k)[i]?) [1, 1, 1, 0, 1, 0, 0, 1, 1, 0, 0, 1, 1, 1, 1, 1] (cd Try.f50) lines_part.H (kFin ((lines_part.G Try.prog).at (lines_part.E k)) [.tmp 6] [.c false y108]) (unS lines_part.j1_s y) := by rw [lines_part.j1]; kernel_rfl
theorem lines_part.l0_e (k : Nat) (y : denS lines_part.l0_s) : lines_part.l0 (k + 1) y.1 y.2.1 y.2.2.1 y.2.2.2.1 y.2.2.2.2.1 y.2.2.2.2.2.1 y.2.2.2.2.2.2.1 = evP ((lines_part.G Try.prog).at (lines_part.E k)) (fun i => (lines_part.O k)[i]?) [1, 1, 1, 0, 1, 0, 0] (cd Try.f50) lines_part.H (kFin ((lines_part.G Try.prog).at (lines_part.E k)) [.tmp 6] [.c false y108]) (unS lines_part.l0_s y) := by rw [lines_part.l0]; kernel_rfl
theorem lines_part.go : goesTo Try.prog 50 := ⟨_, Try.func50, by kernel_rfl, rfl⟩
theorem lines_part.ok (k : Nat) : SigOk Try.prog 50 (lines_part.sig k) :=
  fn_p (G := lines_part.G Try.prog) (c := cd Try.f50) (rs := [.tmp 6]) (args := [(false, y22), (false, (.i .i64)), (false, (.i .i64))]) (l := [.c false y108]) (fn := Try.f50) ⟨Try.func50, by kernel_rfl, by kernel_rfl, by kernel_rfl, le_of rfl, le_of rfl, TT_ok, AD_ok⟩ rfl lines_part.E (fun k p hp => nomatch hp)
    (fun k i => (lines_part.O k)[i]?) lines_part.H (fun k x => lines_part.f k x.1 x.2.1 x.2.2.1)
    (fun id o y h => by
    have h' := List.mem_of_getElem? h
    simp only [lines_part.O, List.mem_cons, List.not_mem_nil, or_false] at h'
    rcases h' with rfl | rfl <;> rfl)
    (fun k p hp => by
    rw [show pts (cd Try.f50) lines_part.H = [(1, [1, 1, 1, 0, 1, 0, 0, 1, 1, 0, 0, 1, 1, 1, 1, 1]), (0, [1, 1, 1, 0, 1, 0, 0])] by kernel_rfl] at hp
    simp only [List.mem_cons, List.not_mem_nil, or_false] at hp
    rcases hp with rfl | rfl
    · exact ptOk_of rfl (lines_part.j1_e k)
    · exact ptOk_of rfl (lines_part.l0_e k))
    (fun k x => by kernel_rfl) k
/-! (*reglet/metrics.Table).Height -/
def metrics_Table_Height.f (k : Nat) (a0 : List (Int × Int × Int × Int × Int × Int × List api_Range × Bool)) (a1 : Int) : Option Int := (metrics_Table_of.f k a0 a1).bind fun r => some r.1
def metrics_Table_Height.sig (k : Nat) : Sig := .p [(false, y39), (false, (.i .i64))] [.c false (.i .i64)] fun x => metrics_Table_Height.f k x.1 x.2.1
def metrics_Table_Height.E (k : Nat) : List (Nat × Sig) := [(84, metrics_Table_of.sig k)]
def metrics_Table_Height.G (P : Program) : GI := ⟨P, TT, 9, 9, [], [], [], [], [], AD⟩
def metrics_Table_Height.H : H := .n
def metrics_Table_Height.O (k : Nat) : List (Orc (denR [.c false (.i .i64)])) := []
theorem metrics_Table_Height.go : goesTo Try.prog 79 := ⟨_, Try.func79, by kernel_rfl, rfl⟩
theorem metrics_Table_Height.ok (k : Nat) : SigOk Try.prog 79 (metrics_Table_Height.sig k) :=
  fn_p (G := metrics_Table_Height.G Try.prog) (c := cd Try.f79) (rs := [.tmp 4]) (args := [(false, y39), (false, (.i .i64))]) (l := [.c false (.i .i64)]) (fn := Try.f79) ⟨Try.func79, by kernel_rfl, by kernel_rfl, by kernel_rfl, le_of rfl, le_of rfl, TT_ok, AD_ok⟩ rfl metrics_Table_Height.E (fun k p hp => by
    simp only [metrics_Table_Height.E, List.mem_cons, List.not_mem_nil, or_false] at hp
    rcases hp with rfl
    · exact ⟨metrics_Table_of.ok k, metrics_Table_of.go⟩)
    (fun k i => (metrics_Table_Height.O k)[i]?) metrics_Table_Height.H (fun k x => metrics_Table_Height.f k x.1 x.2.1)
    (fun id o y h => by cases id <;> cases h)
    (fun k p hp => by rw [show pts (cd Try.f79) metrics_Table_Height.H = [] by kernel_rfl] at hp; nomatch hp)
    (fun k x => by kernel_rfl) k
/-! (*reglet/metrics.Table).Tallest -/
mutual
def metrics_Table_Tallest.l0 : Nat → (List (Int × Int × Int × Int × Int × Int × List api_Range × Bool)) → Int → (List api_Run) → Int → Int → Option Int
  | 0, _, _, _, _, _ => none
  | k + 1, t, most, t2, t3, t4 => if (decide (t4 < t3)) = true then ((at? t2 t4).bind fun e => if (decide (0 < e.1)) = true then ((metrics_Table_Height.f k t e.2).bind fun r => metrics_Table_Tallest.l0 k t (if most < r then r else most) t2 t3 (wrap64 (t4 + 1))) else (metrics_Table_Tallest.l0 k t most t2 t3 (wrap64 (t4 + 1)))) else (if (decide (most = 0)) = true then ((metrics_Table_Height.f k t 0).bind fun r2 => some r2) else (some most))
end
def metrics_Table_Tallest.f (k : Nat) (a0 : List (Int × Int × Int × Int × Int × Int × List api_Range × Bool)) (a1 : List api_Run) : Option Int := metrics_Table_Tallest.l0 k a0 0 a1 (a1.length : Int) 0
def metrics_Table_Tallest.sig (k : Nat) : Sig := .p [(false, y39), (false, y22)] [.c false (.i .i64)] fun x => metrics_Table_Tallest.f k x.1 x.2.1
def metrics_Table_Tallest.E (k : Nat) : List (Nat × Sig) := [(79, metrics_Table_Height.sig k)]
def metrics_Table_Tallest.G (P : Program) : GI := ⟨P, TT, 29, 31, [(7, 29, 2)], [], [], [], [], AD⟩
def metrics_Table_Tallest.H : H := .s .n (.s .n (.s (.s .n (.s (.l 0 .n) .n)) .n))
abbrev metrics_Table_Tallest.l0_s : Sh := [(0, .v y39), (5, .v (.i .i64)), (8, .v y22), (9, .v (.i .i64)), (10, .v (.i .i64))]
def metrics_Table_Tallest.O (k : Nat) : List (Orc (denR [.c false (.i .i64)])) := [⟨metrics_Table_Tallest.l0_s, fun y => metrics_Table_Tallest.l0 k y.1 y.2.1 y.2.2.1 y.2.2.2.1 y.2.2.2.2.1⟩]
theorem metrics_Table_Tallest.l0_e (k : Nat) (y : denS metrics_Table_Tallest.l0_s) : metrics_Table_Tallest.l0 (k + 1) y.1 y.2.1 y.2.2.1 y.2.2.2.1 y.2.2.2.2.1 = evP ((metrics_Table_Tallest.G Try.prog).at (metrics_Table_Tallest.E k)) (fun i => (metrics_Table_Tallest.O k)[i]?) [1, 1, 0, 1, 0, 0] (cd Try.f78) metrics_Table_Tallest.H (kFin ((metrics_Table_Tallest.G Try.prog).at (metrics_Table_Tallest.E k)) [.tmp 4] [.c false (.i .i64)]) (unS metrics_Table_Tallest.l0_s y) := by rw [metrics_Table_Tallest.l0]; kernel_rfl
theorem metrics_Table_Tallest.go : goesTo Try.prog 78 := ⟨_, Try.func78, by kernel_rfl, rfl⟩
theorem metrics_Table_Tallest.ok (k : Nat) : SigOk Try.prog 78 (metrics_Table_Tallest.sig k) :=
  fn_p (G := metrics_Table_Tallest.G Try.prog) (c := cd Try.f78) (rs := [.tmp 4]) (args := [(false, y39), (false, y22)]) (l := [.c false (.i .i64)]) (fn := Try.f78) ⟨Try.func78, by kernel_rfl, by kernel_rfl, by kernel_rfl, le_of rfl, le_of rfl, TT_ok, AD_ok⟩ rfl metrics_Table_Tallest.E (fun k p hp => by
    simp only [metrics_Table_Tallest.E, List.mem_cons, List.not_mem_nil, or_false] at hp
    rcases hp with rfl
    · exact ⟨metrics_Table_Height.ok k, metrics_Table_Height.go⟩)
    (fun k i => (metrics_Table_Tallest.O k)[i]?) metrics_Table_Tallest.H (fun k x => metrics_Table_Tallest.f k x.1 x.2.1)
    (fun id o y h => by
    have h' := List.mem_of_getElem? h
    simp only [metrics_Table_Tallest.O, List.mem_cons, List.not_mem_nil, or_false] at h'
    rcases h' with rfl <;> rfl)
    (fun k p hp => by
    rw [show pts (cd Try.f78) metrics_Table_Tallest.H = [(0, [1, 1, 0, 1, 0, 0])] by kernel_rfl] at hp
    simp only [List.mem_cons, List.not_mem_nil, or_false] at hp
    rcases hp with rfl
    · exact ptOk_of rfl (metrics_Table_Tallest.l0_e k))
    (fun k x => by kernel_rfl) k
/-! reglet/lines.height -/
mutual
def lines_height.l0 : Nat → (List (Int × Int × Int × Int × Int × Int × List api_Range × Bool)) → (List api_Run) → Int → Option Int
  | 0, _, _, _ => none
  | k + 1, t, all, k_ => if (decide (0 ≤ k_)) = true then ((at? all k_).bind fun e => if (decide (0 < e.1)) = true then ((at? all k_).bind fun e2 => (metrics_Table_Height.f k t e2.2).bind fun r2 => some r2) else (lines_height.l0 k t all (wrap64 (k_ - 1)))) else ((metrics_Table_Height.f k t 0).bind fun r3 => some r3)
end
def lines_height.f (k : Nat) (a0 : List (Int × Int × Int × Int × Int × Int × List api_Range × Bool)) (a1 : List api_Run) (a2 : List api_Run) : Option Int := if (decide (0 < (a1.length : Int))) = true then ((metrics_Table_Tallest.f k a0 a1).bind fun r => some r) else (lines_height.l0 k a0 a2 (wrap64 ((a2.length : Int) - 1)))
def lines_height.sig (k : Nat) : Sig := .p [(false, y39), (false, y22), (false, y22)] [.c false (.i .i64)] fun x => lines_height.f k x.1 x.2.1 x.2.2.1
def lines_height.E (k : Nat) : List (Nat × Sig) := [(78, metrics_Table_Tallest.sig k), (79, metrics_Table_Height.sig k)]
def lines_height.G (P : Program) : GI := ⟨P, TT, 36, 36, [], [], [], [], [], AD⟩
def lines_height.H : H := .s .n (.s .n (.s (.s .n (.s (.l 0 .n) .n)) .n))
abbrev lines_height.l0_s : Sh := [(0, .v y39), (2, .v y22), (7, .v (.i .i64))]
def lines_height.O (k : Nat) : List (Orc (denR [.c false (.i .i64)])) := [⟨lines_height.l0_s, fun y => lines_height.l0 k y.1 y.2.1 y.2.2.1⟩]
theorem lines_height.l0_e (k : Nat) (y : denS lines_height.l0_s) : lines_height.l0 (k + 1) y.1 y.2.1 y.2.2.1 = evP ((lines_height.G Try.prog).at (lines_height.E k)) (fun i => (lines_height.O k)[i]?) [1, 1, 0, 1, 0, 0] (cd Try.f51) lines_height.H (kFin ((lines_height.G Try.prog).at (lines_height.E k)) [.tmp 6] [.c false (.i .i64)]) (unS lines_height.l0_s y) := by rw [lines_height.l0]; kernel_rfl
theorem lines_height.go : goesTo Try.prog 51 := ⟨_, Try.func51, by kernel_rfl, rfl⟩
theorem lines_height.ok (k : Nat) : SigOk Try.prog 51 (lines_height.sig k) :=
  fn_p (G := lines_height.G Try.prog) (c := cd Try.f51) (rs := [.tmp 6]) (args := [(false, y39), (false, y22), (false, y22)]) (l := [.c false (.i .i64)]) (fn := Try.f51) ⟨Try.func51, by kernel_rfl, by kernel_rfl, by kernel_rfl, le_of rfl, le_of rfl, TT_ok, AD_ok⟩ rfl lines_height.E (fun k p hp => by
    simp only [lines_height.E, List.mem_cons, List.not_mem_nil, or_false] at hp
    rcases hp with rfl | rfl
    · exact ⟨metrics_Table_Tallest.ok k, metrics_Table_Tallest.go⟩
    · exact ⟨metrics_Table_Height.ok k, metrics_Table_Height.go⟩)
    (fun k i => (lines_height.O k)[i]?) lines_height.H (fun k x => lines_height.f k x.1 x.2.1 x.2.2.1)
    (fun id o y h => by
    have h' := List.mem_of_getElem? h
    simp only [lines_height.O, List.mem_cons, List.not_mem_nil, or_false] at h'
    rcases h' with rfl <;> rfl)
    (fun k p hp => by
    rw [show pts (cd Try.f51) lines_height.H = [(0, [1, 1, 0, 1, 0, 0])] by kernel_rfl] at hp
    simp only [List.mem_cons, List.not_mem_nil, or_false] at hp
    rcases hp with rfl
    · exact ptOk_of rfl (lines_height.l0_e k))
    (fun k x => by kernel_rfl) k
/-! reglet/lines.Lay -/
mutual
def lines_Lay.l0 : Nat → (List (Int × Int × Int × Int × Int × Int × List api_Range × Bool)) → ByteArray → (List api_Run) → (List api_Item × List Int × List Int × List Int × List Int × List Int × Int × List Int) → Int → (List (ByteArray × List api_Run × Int × Int × Int × Bool × Int × Bool × Bool)) → Int → Int → (List Int) → Int → Int → api_Breaking → Option ((List (ByteArray × List api_Run × Int × Int × Int × Bool × Int × Bool × Bool)))
  | 0, _, _, _, _, _, _, _, _, _, _, _, _ => none
  | k + 1, t, t2, t3, t4, t5, t6, t7, t8, t9, t10, t11, t12 => if (decide (t11 < t10)) = true then (if 0 ≤ t11 ∧ t11 < (t9.length : Int) then ((t9[t11.toNat]?).bind fun e => (at? t12.1 t11).bind fun e2 => (measure_Para_Fit.f k t4 t8 e2 t5).bind fun r2 => (at? t12.1 t11).bind fun e3 => (measure_Para_Item.f k t4 e3).bind fun r3 => (lines_part.f k t3 t7 e).bind fun r4 => (sSub t2 t7 e).bind fun v => (lines_height.f k t r4 t3).bind fun r5 => if r3.2.2.2.2.2.2.1 = true then (if (t6.length + ([(v, r4, r2.1, r2.2.1, r5, decide (r3.2.2.2.2.2.2.2.1 < r3.2.2.2.2.2.2.2.2), 0, decide (t11 = 0), decide (t11 = (wrap64 ((t12.1.length : Int) - 1))))] : List (ByteArray × List api_Run × Int × Int × Int × Bool × Int × Bool × Bool)).length) * 88 ≤ 140737488355328 then (lines_Lay.j1 k t t2 t3 t4 t5 (t6 ++ ([(v, r4, r2.1, r2.2.1, r5, decide (r3.2.2.2.2.2.2.2.1 < r3.2.2.2.2.2.2.2.2), 0, decide (t11 = 0), decide (t11 = (wrap64 ((t12.1.length : Int) - 1))))] : List (ByteArray × List api_Run × Int × Int × Int × Bool × Int × Bool × Bool))) t11 e t9 t10 t11 t12) else none) else (if (t6.length + ([(v, r4, r2.1, r2.2.1, r5, (false), 0, decide (t11 = 0), decide (t11 = (wrap64 ((t12.1.length : Int) - 1))))] : List (ByteArray × List api_Run × Int × Int × Int × Bool × Int × Bool × Bool)).length) * 88 ≤ 140737488355328 then (lines_Lay.j1 k t t2 t3 t4 t5 (t6 ++ ([(v, r4, r2.1, r2.2.1, r5, (false), 0, decide (t11 = 0), decide (t11 = (wrap64 ((t12.1.length : Int) - 1))))] : List (ByteArray × List api_Run × Int × Int × Int × Bool × Int × Bool × Bool))) t11 e t9 t10 t11 t12) else none)) else none) else (some t6)
def lines_Lay.j1 : Nat → (List (Int × Int × Int × Int × Int × Int × List api_Range × Bool)) → ByteArray → (List api_Run) → (List api_Item × List Int × List Int × List Int × List Int × List Int × Int × List Int) → Int → (List (ByteArray × List api_Run × Int × Int × Int × Bool × Int × Bool × Bool)) → Int → Int → (List Int) → Int → Int → api_Breaking → Option ((List (ByteArray × List api_Run × Int × Int × Int × Bool × Int × Bool × Bool)))
  | 0, _, _, _, _, _, _, _, _, _, _, _, _ => none
  | k + 1, t13, t14, t15, t16, t17, t18, t19, t20, t21, t22, t23, t24 => (at? t24.1 t19).bind fun e4 => lines_Lay.l0 k t13 t14 t15 t16 t17 t18 t20 e4 t21 t22 (wrap64 (t23 + 1)) t24
end
def lines_Lay.f (k : Nat) (a0 : List (Int × Int × Int × Int × Int × Int × List api_Range × Bool)) (a1 : ByteArray) (a2 : List api_Run) (a3 : List api_Item × List Int × List Int × List Int × List Int × List Int × Int × List Int) (a4 : api_Breaking) (a5 : Int) : Option ((List (ByteArray × List api_Run × Int × Int × Int × Bool × Int × Bool × Bool))) := (lines_Cuts.f k a3 a4.1 (a1.size : Int)).bind fun r => lines_Lay.l0 k a0 a1 a2 a3 a5 ([] : List (ByteArray × List api_Run × Int × Int × Int × Bool × Int × Bool × Bool)) 0 (-1) r (r.length : Int) 0 a4
def lines_Lay.sig (k : Nat) : Sig := .p [(false, y39), (false, .s), (false, y22), (false, y75), (true, y118), (false, (.i .i64))] [.c false y117] fun x => lines_Lay.f k x.1 x.2.1 x.2.2.1 x.2.2.2.1 x.2.2.2.2.1 x.2.2.2.2.2.1
def lines_Lay.E (k : Nat) : List (Nat × Sig) := [(47, lines_Cuts.sig k), (48, measure_Para_Fit.sig k), (49, measure_Para_Item.sig k), (50, lines_part.sig k), (51, lines_height.sig k)]
def lines_Lay.G (P : Program) : GI := ⟨P, TT, 95, 112, [(10, 95, 3), (18, 98, 5), (19, 103, 9)], [], [], [], [], AD⟩
def lines_Lay.H : H := .s .n (.s .n (.s .n (.s (.s .n (.s (.l 0 (.s .n (.s .n (.s (.s (.s .n (.s .n (.s .n (.s .n (.j 1 .n .n))))) .n) .n)))) .n)) .n)))
abbrev lines_Lay.l0_s : Sh := [(0, .v y39), (1, .v .s), (2, .v y22), (3, .v y75), (5, .v (.i .i64)), (10, .at_ 95), (13, .v y117), (14, .v (.i .i64)), (15, .v (.i .i64)), (26, .v y10), (27, .v (.i .i64)), (28, .v (.i .i64)), (95, .box y118)]
abbrev lines_Lay.j1_s : Sh := [(0, .v y39), (1, .v .s), (2, .v y22), (3, .v y75), (5, .v (.i .i64)), (10, .at_ 95), (13, .v y117), (16, .v (.i .i64)), (17, .v (.i .i64)), (26, .v y10), (27, .v (.i .i64)), (28, .v (.i .i64)), (95, .box y118)]
def lines_Lay.O (k : Nat) : List (Orc (denR [.c false y117])) := [⟨lines_Lay.l0_s, fun y => lines_Lay.l0 k y.1 y.2.1 y.2.2.1 y.2.2.2.1 y.2.2.2.2.1 y.2.2.2.2.2.2.1 y.2.2.2.2.2.2.2.1 y.2.2.2.2.2.2.2.2.1 y.2.2.2.2.2.2.2.2.2.1 y.2.2.2.2.2.2.2.2.2.2.1 y.2.2.2.2.2.2.2.2.2.2.2.1 y.2.2.2.2.2.2.2.2.2.2.2.2.1⟩, ⟨lines_Lay.j1_s, fun y => lines_Lay.j1 k y.1 y.2.1 y.2.2.1 y.2.2.2.1 y.2.2.2.2.1 y.2.2.2.2.2.2.1 y.2.2.2.2.2.2.2.1 y.2.2.2.2.2.2.2.2.1 y.2.2.2.2.2.2.2.2.2.1 y.2.2.2.2.2.2.2.2.2.2.1 y.2.2.2.2.2.2.2.2.2.2.2.1 y.2.2.2.2.2.2.2.2.2.2.2.2.1⟩]
theorem lines_Lay.j1_e (k : Nat) (y : denS lines_Lay.j1_s) : lines_Lay.j1 (k + 1) y.1 y.2.1 y.2.2.1 y.2.2.2.1 y.2.2.2.2.1 y.2.2.2.2.2.2.1 y.2.2.2.2.2.2.2.1 y.2.2.2.2.2.2.2.2.1 y.2.2.2.2.2.2.2.2.2.1 y.2.2.2.2.2.2.2.2.2.2.1 y.2.2.2.2.2.2.2.2.2.2.2.1 y.2.2.2.2.2.2.2.2.2.2.2.2.1 = evP ((lines_Lay.G Try.prog).at (lines_Lay.E k)) (fun i => (lines_Lay.O k)[i]?) [1, 1, 1, 0, 1, 0, 0, 1, 1, 0, 0, 1, 1, 1, 1, 1] (cd Try.f27) lines_Lay.H (kFin ((lines_Lay.G Try.prog).at (lines_Lay.E k)) [.tmp 12] [.c false y117]) (unS lines_Lay.j1_s y) := by rw [lines_Lay.j1]; kernel_rfl
theorem lines_Lay.l0_e (k : Nat) (y : denS lines_Lay.l0_s) : lines_Lay.l0 (k + 1) y.1 y.2.1 y.2.2.1 y.2.2.2.1 y.2.2.2.2.1 y.2.2.2.2.2.2.1 y.2.2.2.2.2.2.2.1 y.2.2.2.2.2.2.2.2.1 y.2.2.2.2.2.2.2.2.2.1 y.2.2.2.2.2.2.2.2.2.2.1 y.2.2.2.2.2.2.2.2.2.2.2.1 y.2.2.2.2.2.2.2.2.2.2.2.2.1 = evP ((lines_Lay.G Try.prog).at (lines_Lay.E k)) (fun i => (lines_Lay.O k)[i]?) [1, 1, 1, 0, 1, 0, 0] (cd Try.f27) lines_Lay.H (kFin ((lines_Lay.G Try.prog).at (lines_Lay.E k)) [.tmp 12] [.c false y117]) (unS lines_Lay.l0_s y) := by rw [lines_Lay.l0]; kernel_rfl
theorem lines_Lay.go : goesTo Try.prog 27 := ⟨_, Try.func27, by kernel_rfl, rfl⟩
theorem lines_Lay.ok (k : Nat) : SigOk Try.prog 27 (lines_Lay.sig k) :=
  fn_p (G := lines_Lay.G Try.prog) (c := cd Try.f27) (rs := [.tmp 12]) (args := [(false, y39), (false, .s), (false, y22), (false, y75), (true, y118), (false, (.i .i64))]) (l := [.c false y117]) (fn := Try.f27) ⟨Try.func27, by kernel_rfl, by kernel_rfl, by kernel_rfl, le_of rfl, le_of rfl, TT_ok, AD_ok⟩ rfl lines_Lay.E (fun k p hp => by
    simp only [lines_Lay.E, List.mem_cons, List.not_mem_nil, or_false] at hp
    rcases hp with rfl | rfl | rfl | rfl | rfl
    · exact ⟨lines_Cuts.ok k, lines_Cuts.go⟩
    · exact ⟨measure_Para_Fit.ok k, measure_Para_Fit.go⟩
    · exact ⟨measure_Para_Item.ok k, measure_Para_Item.go⟩
    · exact ⟨lines_part.ok k, lines_part.go⟩
    · exact ⟨lines_height.ok k, lines_height.go⟩)
    (fun k i => (lines_Lay.O k)[i]?) lines_Lay.H (fun k x => lines_Lay.f k x.1 x.2.1 x.2.2.1 x.2.2.2.1 x.2.2.2.2.1 x.2.2.2.2.2.1)
    (fun id o y h => by
    have h' := List.mem_of_getElem? h
    simp only [lines_Lay.O, List.mem_cons, List.not_mem_nil, or_false] at h'
    rcases h' with rfl | rfl <;> rfl)
    (fun k p hp => by
    rw [show pts (cd Try.f27) lines_Lay.H = [(1, [1, 1, 1, 0, 1, 0, 0, 1, 1, 0, 0, 1, 1, 1, 1, 1]), (0, [1, 1, 1, 0, 1, 0, 0])] by kernel_rfl] at hp
    simp only [List.mem_cons, List.not_mem_nil, or_false] at hp
    rcases hp with rfl | rfl
    · exact ptOk_of rfl (lines_Lay.j1_e k)
    · exact ptOk_of rfl (lines_Lay.l0_e k))
    (fun k x => by kernel_rfl) k
/-! reglet/lines.Paragraph -/
def lines_Paragraph.f (k : Nat) (a0 : List (Int × Int × Int × Int × Int × Int × List api_Range × Bool)) (a1 : ByteArray) (a2 : List api_Run) (a3 : Int) (a4 : api_Settings) : Option ((List (ByteArray × List api_Run × Int × Int × Int × Bool × Int × Bool × Bool)) × api_Breaking × Int) := (items_Build.f k a0 a1 a2).bind fun r => if (!decide (r.2 = 0)) = true then (some (([] : List (ByteArray × List api_Run × Int × Int × Int × Bool × Int × Bool × Bool)), (([] : List Int), 0, (false)), r.2)) else ((breaks_Check.f k a3 a4).bind fun r2 => if (!decide (r2 = 0)) = true then (some (([] : List (ByteArray × List api_Run × Int × Int × Int × Bool × Int × Bool × Bool)), (([] : List Int), 0, (false)), r2)) else ((measure_New.f k r.1).bind fun r3 => optK r3.1 (if (!decide (r3.2 = 0)) = true then (some (([] : List (ByteArray × List api_Run × Int × Int × Int × Bool × Int × Bool × Bool)), (([] : List Int), 0, (false)), r3.2)) else (none)) fun p => if (!decide (r3.2 = 0)) = true then (some (([] : List (ByteArray × List api_Run × Int × Int × Int × Bool × Int × Bool × Bool)), (([] : List Int), 0, (false)), r3.2)) else ((breaks_Break.f k p a3 a4).bind fun r4 => if (!decide (r4.2 = 0)) = true then (some (([] : List (ByteArray × List api_Run × Int × Int × Int × Bool × Int × Bool × Bool)), (([] : List Int), 0, (false)), r4.2)) else ((lines_Lay.f k a0 a1 a2 p r4.1 a3).bind fun r5 => some (r5, r4.1, 0)))))
def lines_Paragraph.sig (k : Nat) : Sig := .p [(false, y39), (false, .s), (false, y22), (false, (.i .i64)), (true, y48)] [.c false y117, .c true y118, .c false (.i .i64)] fun x => lines_Paragraph.f k x.1 x.2.1 x.2.2.1 x.2.2.2.1 x.2.2.2.2.1
def lines_Paragraph.E (k : Nat) : List (Nat × Sig) := [(23, items_Build.sig k), (24, breaks_Check.sig k), (25, measure_New.sig k), (26, breaks_Break.sig k), (27, lines_Lay.sig k)]
def lines_Paragraph.G (P : Program) : GI := ⟨P, TT, 64, 77, [(9, 64, 7), (11, 71, 3), (17, 74, 3)], [], [], [], [], AD⟩
def lines_Paragraph.H : H := .s .n (.s .n (.s .n (.s .n (.s .n (.s .n (.s (.f 16 .n) (.s .n (.s (.f 74 .n) .n))))))))
def lines_Paragraph.O (k : Nat) : List (Orc (denR [.c false y117, .c true y118, .c false (.i .i64)])) := []
theorem lines_Paragraph.go : goesTo Try.prog 10 := ⟨_, Try.func10, by kernel_rfl, rfl⟩
theorem lines_Paragraph.ok (k : Nat) : SigOk Try.prog 10 (lines_Paragraph.sig k) :=
  fn_p (G := lines_Paragraph.G Try.prog) (c := cd Try.f10) (rs := [.tmp 10, .cell 11 35, .tmp 12]) (args := [(false, y39), (false, .s), (false, y22), (false, (.i .i64)), (true, y48)]) (l := [.c false y117, .c true y118, .c false (.i .i64)]) (fn := Try.f10) ⟨Try.func10, by kernel_rfl, by kernel_rfl, by kernel_rfl, le_of rfl, le_of rfl, TT_ok, AD_ok⟩ rfl lines_Paragraph.E (fun k p hp => by
    simp only [lines_Paragraph.E, List.mem_cons, List.not_mem_nil, or_false] at hp
    rcases hp with rfl | rfl | rfl | rfl | rfl
    · exact ⟨items_Build.ok k, items_Build.go⟩
    · exact ⟨breaks_Check.ok k, breaks_Check.go⟩
    · exact ⟨measure_New.ok k, measure_New.go⟩
    · exact ⟨breaks_Break.ok k, breaks_Break.go⟩
    · exact ⟨lines_Lay.ok k, lines_Lay.go⟩)
    (fun k i => (lines_Paragraph.O k)[i]?) lines_Paragraph.H (fun k x => lines_Paragraph.f k x.1 x.2.1 x.2.2.1 x.2.2.2.1 x.2.2.2.2.1)
    (fun id o y h => by cases id <;> cases h)
    (fun k p hp => by rw [show pts (cd Try.f10) lines_Paragraph.H = [] by kernel_rfl] at hp; nomatch hp)
    (fun k x => by kernel_rfl) k
/-! reglet/regletlaw10.awake -/
def regletlaw10_awake.f (k : Nat)  : Option Bool := (regletlaw10_table.f k ([(10, 6, 3, 2, 6, 6, ([] : List api_Range), (false))] : List (Int × Int × Int × Int × Int × Int × List api_Range × Bool))).bind fun r => optK r (some false) fun p => (lines_Paragraph.f k p (ByteArray.mk #[97, 97, 32, 98, 98, 10]) ([(6, 0)] : List api_Run) 20 (200, 10, 0, 0, 0, 1, 1)).bind fun r2 => if (decide (r2.2.2 = 0)) = true then (if (decide ((r2.2.1.1.length : Int) = 2)) = true then (if (decide ((r2.1.length : Int) = 2)) = true then ((at? r2.1 0).bind fun e => if (decide (e.1 = (ByteArray.mk #[97, 97, 32]))) = true then ((at? r2.1 1).bind fun e2 => if (decide (e2.1 = (ByteArray.mk #[98, 98, 10]))) = true then ((at? r2.1 1).bind fun e3 => if e3.2.2.2.2.2.2.2.2 = true then ((at? r2.1 0).bind fun e4 => some (decide (e4.2.2.2.2.1 = 10))) else (some false)) else (some false)) else (some false)) else (some false)) else (some false)) else (some false)
def regletlaw10_awake.sig (k : Nat) : Sig := .p [] [.c false .b] fun x => regletlaw10_awake.f k
def regletlaw10_awake.E (k : Nat) : List (Nat × Sig) := [(8, regletlaw10_table.sig k), (10, lines_Paragraph.sig k)]
def regletlaw10_awake.G (P : Program) : GI := ⟨P, TT, 61, 64, [(4, 61, 3)], [], [], [], [], AD⟩
def regletlaw10_awake.H : H := .s .n (.s .n (.s .n (.s (.s (.f 2 .n) .n) (.s .n (.s (.f 3 .n) .n)))))
def regletlaw10_awake.O (k : Nat) : List (Orc (denR [.c false .b])) := []
theorem regletlaw10_awake.go : goesTo Try.prog 7 := ⟨_, Try.func7, by kernel_rfl, rfl⟩
theorem regletlaw10_awake.ok (k : Nat) : SigOk Try.prog 7 (regletlaw10_awake.sig k) :=
  fn_p (G := regletlaw10_awake.G Try.prog) (c := cd Try.f7) (rs := [.tmp 0]) (args := []) (l := [.c false .b]) (fn := Try.f7) ⟨Try.func7, by kernel_rfl, by kernel_rfl, by kernel_rfl, le_of rfl, le_of rfl, TT_ok, AD_ok⟩ rfl regletlaw10_awake.E (fun k p hp => by
    simp only [regletlaw10_awake.E, List.mem_cons, List.not_mem_nil, or_false] at hp
    rcases hp with rfl | rfl
    · exact ⟨regletlaw10_table.ok k, regletlaw10_table.go⟩
    · exact ⟨lines_Paragraph.ok k, lines_Paragraph.go⟩)
    (fun k i => (regletlaw10_awake.O k)[i]?) regletlaw10_awake.H (fun k x => regletlaw10_awake.f k)
    (fun id o y h => by cases id <;> cases h)
    (fun k p hp => by rw [show pts (cd Try.f7) regletlaw10_awake.H = [] by kernel_rfl] at hp; nomatch hp)
    (fun k x => by kernel_rfl) k
end Go.Proofs.Ytjbobaeggdafpaa.Vm
