-- PRINTED by vq.py. Not trusted: Lean checks it.
import Derived.Test.YtkkhgbcmjeaghaaQ0
namespace Go.Proofs.Ytkkhgbcmjeaghaa.Vm
open Go
open _root_.Go.RowKit (wrap64)
set_option maxRecDepth 100000
set_option linter.unusedVariables false
/-! reglet/regletref04.fits -/
def regletref04_fits.f (k : Nat) (a0 : Int) (a1 : Int) : Option Bool := if (decide (a1 ≤ a0)) = true then (some (decide (a0 ≤ 1048576))) else (some false)
def regletref04_fits.sig (k : Nat) : Sig := .p [(false, (.i .i64)), (false, (.i .i64))] [.c false .b] fun x => regletref04_fits.f k x.1 x.2.1
def regletref04_fits.E (k : Nat) : List (Nat × Sig) := []
def regletref04_fits.G (P : Program) : GI := ⟨P, TT, 12, 12, [], [], [], [], [], AD⟩
def regletref04_fits.H : H := .n
def regletref04_fits.O (k : Nat) : List (Orc (denR [.c false .b])) := []
theorem regletref04_fits.go : goesTo Try.prog 59 := ⟨_, Try.func59, by kernel_rfl, rfl⟩
theorem regletref04_fits.ok (k : Nat) : SigOk Try.prog 59 (regletref04_fits.sig k) :=
  fn_p (G := regletref04_fits.G Try.prog) (c := cd Try.f59) (rs := [.tmp 4]) (args := [(false, (.i .i64)), (false, (.i .i64))]) (l := [.c false .b]) (fn := Try.f59) ⟨Try.func59, by kernel_rfl, by kernel_rfl, by kernel_rfl, le_of rfl, le_of rfl, TT_ok, AD_ok⟩ rfl regletref04_fits.E (fun k p hp => nomatch hp)
    (fun k i => (regletref04_fits.O k)[i]?) regletref04_fits.H (fun k x => regletref04_fits.f k x.1 x.2.1)
    (fun id o y h => by cases id <;> cases h)
    (fun k p hp => by rw [show pts (cd Try.f59) regletref04_fits.H = [] by kernel_rfl] at hp; nomatch hp)
    (fun k x => by kernel_rfl) k
/-! reglet/regletref04.Style -/
mutual
def regletref04_Style.l0 : Nat → (List Int) → Int → (Int × Int × Int × Int × Int × Int × List api_Range × Bool) → Option Int
  | 0, _, _, _ => none
  | k + 1, t, t2, t3 => if (decide (t2 < (t.length : Int))) = true then (if 0 ≤ t2 ∧ t2 < (t.length : Int) then ((t[t2.toNat]?).bind fun e => (regletref04_fits.f k e 0).bind fun r => if (!r) = true then (some 41) else (regletref04_Style.l0 k t (wrap64 (t2 + 1)) t3)) else none) else ((regletref04_fits.f k t3.1 1).bind fun r2 => if (!r2) = true then (some 41) else (if (decide (t3.2.1 < t3.2.2.2.1)) = true then (some 41) else (regletref04_Style.j1 k t3)))
def regletref04_Style.j1 : Nat → (Int × Int × Int × Int × Int × Int × List api_Range × Bool) → Option Int
  | 0, _ => none
  | k + 1, t4 => if (decide (64 < (t4.2.2.2.2.2.2.1.length : Int))) = true then (some 42) else (regletref04_Style.l2 k 0 t4)
def regletref04_Style.l2 : Nat → Int → (Int × Int × Int × Int × Int × Int × List api_Range × Bool) → Option Int
  | 0, _, _ => none
  | k + 1, t5, t6 => if (decide (t5 < (t6.2.2.2.2.2.2.1.length : Int))) = true then ((at? t6.2.2.2.2.2.2.1 t5).bind fun e2 => if (decide (t5 = 0)) = true then (if (decide (e2.1 < 0)) = true then (some 42) else (if (decide (0 < t5)) = true then ((at? t6.2.2.2.2.2.2.1 (wrap64 (t5 - 1))).bind fun e3 => if (decide (e2.1 ≤ e3.2.1)) = true then (some 42) else (if (decide (e2.2.1 < e2.1)) = true then (some 42) else (if (decide (1114111 < e2.2.1)) = true then (some 42) else (regletref04_Style.j3 k t5 t6 e2)))) else (if (decide (e2.2.1 < e2.1)) = true then (some 42) else (if (decide (1114111 < e2.2.1)) = true then (some 42) else (regletref04_Style.j3 k t5 t6 e2))))) else (if (decide (0 < t5)) = true then ((at? t6.2.2.2.2.2.2.1 (wrap64 (t5 - 1))).bind fun e4 => if (decide (e2.1 ≤ e4.2.1)) = true then (some 42) else (if (decide (e2.2.1 < e2.1)) = true then (some 42) else (if (decide (1114111 < e2.2.1)) = true then (some 42) else (regletref04_Style.j3 k t5 t6 e2)))) else (if (decide (e2.2.1 < e2.1)) = true then (some 42) else (if (decide (1114111 < e2.2.1)) = true then (some 42) else (regletref04_Style.j3 k t5 t6 e2))))) else (some 0)
def regletref04_Style.j3 : Nat → Int → (Int × Int × Int × Int × Int × Int × List api_Range × Bool) → api_Range → Option Int
  | 0, _, _, _ => none
  | k + 1, t7, t8, t9 => (regletref04_fits.f k t9.2.2 0).bind fun r3 => if (!r3) = true then (some 41) else (regletref04_Style.l2 k (wrap64 (t7 + 1)) t8)
end
def regletref04_Style.f (k : Nat) (a0 : Int × Int × Int × Int × Int × Int × List api_Range × Bool) : Option Int := regletref04_Style.l0 k ([a0.2.1, a0.2.2.1, a0.2.2.2.1, a0.2.2.2.2.1, a0.2.2.2.2.2.1] : List Int) 0 a0
def regletref04_Style.sig (k : Nat) : Sig := .p [(true, y9)] [.c false (.i .i64)] fun x => regletref04_Style.f k x.1
def regletref04_Style.E (k : Nat) : List (Nat × Sig) := [(59, regletref04_fits.sig k)]
def regletref04_Style.G (P : Program) : GI := ⟨P, TT, 96, 107, [(1, 96, 8), (6, 104, 3)], [], [], [], [], AD⟩
def regletref04_Style.H : H := .s .n (.s .n (.s (.s .n (.s (.l 0 .n) .n)) (.j 1 .n (.s .n (.s (.s .n (.s (.l 2 (.s .n (.s (.s (.s .n (.j 3 .n .n)) .n) .n))) .n)) .n)))))
abbrev regletref04_Style.l0_s : Sh := [(1, .at_ 96), (3, .v y10), (4, .v (.i .i64)), (96, .box y9)]
abbrev regletref04_Style.j1_s : Sh := [(1, .at_ 96), (96, .box y9)]
abbrev regletref04_Style.l2_s : Sh := [(1, .at_ 96), (5, .v (.i .i64)), (96, .box y9)]
abbrev regletref04_Style.j3_s : Sh := [(1, .at_ 96), (5, .v (.i .i64)), (6, .at_ 104), (96, .box y9), (104, .box y1)]
def regletref04_Style.O (k : Nat) : List (Orc (denR [.c false (.i .i64)])) := [⟨regletref04_Style.l0_s, fun y => regletref04_Style.l0 k y.2.1 y.2.2.1 y.2.2.2.1⟩, ⟨regletref04_Style.j1_s, fun y => regletref04_Style.j1 k y.2.1⟩, ⟨regletref04_Style.l2_s, fun y => regletref04_Style.l2 k y.2.1 y.2.2.1⟩, ⟨regletref04_Style.j3_s, fun y => regletref04_Style.j3 k y.2.1 y.2.2.2.1 y.2.2.2.2.1⟩]
theorem regletref04_Style.l0_e (k : Nat) (y : denS regletref04_Style.l0_s) : regletref04_Style.l0 (k + 1) y.2.1 y.2.2.1 y.2.2.2.1 = evP ((regletref04_Style.G Try.prog).at (regletref04_Style.E k)) (fun i => (regletref04_Style.O k)[i]?) [1, 1, 0, 1, 0, 0] (cd Try.f42) regletref04_Style.H (kFin ((regletref04_Style.G Try.prog).at (regletref04_Style.E k)) [.tmp 2] [.c false (.i .i64)]) (unS regletref04_Style.l0_s y) := by rw [regletref04_Style.l0]; kernel_rfl
theorem regletref04_Style.j3_e (k : Nat) (y : denS regletref04_Style.j3_s) : regletref04_Style.j3 (k + 1) y.2.1 y.2.2.2.1 y.2.2.2.2.1 = evP ((regletref04_Style.G Try.prog).at (regletref04_Style.E k)) (fun i => (regletref04_Style.O k)[i]?) [1, 1, 1, 1, 1, 0, 1, 0, 0, 1, 0, 0, 1, 1] (cd Try.f42) regletref04_Style.H (kFin ((regletref04_Style.G Try.prog).at (regletref04_Style.E k)) [.tmp 2] [.c false (.i .i64)]) (unS regletref04_Style.j3_s y) := by rw [regletref04_Style.j3]; kernel_rfl
theorem regletref04_Style.l2_e (k : Nat) (y : denS regletref04_Style.l2_s) : regletref04_Style.l2 (k + 1) y.2.1 y.2.2.1 = evP ((regletref04_Style.G Try.prog).at (regletref04_Style.E k)) (fun i => (regletref04_Style.O k)[i]?) [1, 1, 1, 1, 1, 0, 1, 0, 0] (cd Try.f42) regletref04_Style.H (kFin ((regletref04_Style.G Try.prog).at (regletref04_Style.E k)) [.tmp 2] [.c false (.i .i64)]) (unS regletref04_Style.l2_s y) := by rw [regletref04_Style.l2]; kernel_rfl
theorem regletref04_Style.j1_e (k : Nat) (y : denS regletref04_Style.j1_s) : regletref04_Style.j1 (k + 1) y.2.1 = evP ((regletref04_Style.G Try.prog).at (regletref04_Style.E k)) (fun i => (regletref04_Style.O k)[i]?) [1, 1, 1, 1] (cd Try.f42) regletref04_Style.H (kFin ((regletref04_Style.G Try.prog).at (regletref04_Style.E k)) [.tmp 2] [.c false (.i .i64)]) (unS regletref04_Style.j1_s y) := by rw [regletref04_Style.j1]; kernel_rfl
theorem regletref04_Style.go : goesTo Try.prog 42 := ⟨_, Try.func42, by kernel_rfl, rfl⟩
theorem regletref04_Style.ok (k : Nat) : SigOk Try.prog 42 (regletref04_Style.sig k) :=
  fn_p (G := regletref04_Style.G Try.prog) (c := cd Try.f42) (rs := [.tmp 2]) (args := [(true, y9)]) (l := [.c false (.i .i64)]) (fn := Try.f42) ⟨Try.func42, by kernel_rfl, by kernel_rfl, by kernel_rfl, le_of rfl, le_of rfl, TT_ok, AD_ok⟩ rfl regletref04_Style.E (fun k p hp => by
    simp only [regletref04_Style.E, List.mem_cons, List.not_mem_nil, or_false] at hp
    rcases hp with rfl
    · exact ⟨regletref04_fits.ok k, regletref04_fits.go⟩)
    (fun k i => (regletref04_Style.O k)[i]?) regletref04_Style.H (fun k x => regletref04_Style.f k x.1)
    (fun id o y h => by
    have h' := List.mem_of_getElem? h
    simp only [regletref04_Style.O, List.mem_cons, List.not_mem_nil, or_false] at h'
    rcases h' with rfl | rfl | rfl | rfl <;> rfl)
    (fun k p hp => by
    rw [show pts (cd Try.f42) regletref04_Style.H = [(0, [1, 1, 0, 1, 0, 0]), (3, [1, 1, 1, 1, 1, 0, 1, 0, 0, 1, 0, 0, 1, 1]), (2, [1, 1, 1, 1, 1, 0, 1, 0, 0]), (1, [1, 1, 1, 1])] by kernel_rfl] at hp
    simp only [List.mem_cons, List.not_mem_nil, or_false] at hp
    rcases hp with rfl | rfl | rfl | rfl
    · exact ptOk_of rfl (regletref04_Style.l0_e k)
    · exact ptOk_of rfl (regletref04_Style.j3_e k)
    · exact ptOk_of rfl (regletref04_Style.l2_e k)
    · exact ptOk_of rfl (regletref04_Style.j1_e k))
    (fun k x => by kernel_rfl) k
/-! reglet/regletref04.Check -/
mutual
def regletref04_Check.j0 : Nat → (List (Int × Int × Int × Int × Int × Int × List api_Range × Bool)) → Option (Int × Int)
  | 0, _ => none
  | k + 1, l => regletref04_Check.l1 k l 0
def regletref04_Check.l1 : Nat → (List (Int × Int × Int × Int × Int × Int × List api_Range × Bool)) → Int → Option (Int × Int)
  | 0, _, _ => none
  | k + 1, l2, i => if (decide (i < (l2.length : Int))) = true then ((at? l2 i).bind fun e => (regletref04_Style.f k e).bind fun r => if (!decide (r = 0)) = true then (some (r, i)) else (regletref04_Check.l1 k l2 (wrap64 (i + 1)))) else (some (0, 0))
end
def regletref04_Check.f (k : Nat) (a0 : List (Int × Int × Int × Int × Int × Int × List api_Range × Bool)) : Option (Int × Int) := if (decide ((a0.length : Int) = 0)) = true then (some (40, 0)) else (if (decide (32 < (a0.length : Int))) = true then (some (40, 0)) else (regletref04_Check.j0 k a0))
def regletref04_Check.sig (k : Nat) : Sig := .p [(false, y11)] [.c false (.i .i64), .c false (.i .i64)] fun x => regletref04_Check.f k x.1
def regletref04_Check.E (k : Nat) : List (Nat × Sig) := [(42, regletref04_Style.sig k)]
def regletref04_Check.G (P : Program) : GI := ⟨P, TT, 29, 29, [], [], [], [], [], AD⟩
def regletref04_Check.H : H := .s .n (.j 0 .n (.s (.s .n (.s (.l 1 .n) .n)) .n))
abbrev regletref04_Check.j0_s : Sh := [(0, .v y11)]
abbrev regletref04_Check.l1_s : Sh := [(0, .v y11), (4, .v (.i .i64))]
def regletref04_Check.O (k : Nat) : List (Orc (denR [.c false (.i .i64), .c false (.i .i64)])) := [⟨regletref04_Check.j0_s, fun y => regletref04_Check.j0 k y.1⟩, ⟨regletref04_Check.l1_s, fun y => regletref04_Check.l1 k y.1 y.2.1⟩]
theorem regletref04_Check.l1_e (k : Nat) (y : denS regletref04_Check.l1_s) : regletref04_Check.l1 (k + 1) y.1 y.2.1 = evP ((regletref04_Check.G Try.prog).at (regletref04_Check.E k)) (fun i => (regletref04_Check.O k)[i]?) [1, 1, 0, 1, 0, 0] (cd Try.f24) regletref04_Check.H (kFin ((regletref04_Check.G Try.prog).at (regletref04_Check.E k)) [.tmp 2, .tmp 3] [.c false (.i .i64), .c false (.i .i64)]) (unS regletref04_Check.l1_s y) := by rw [regletref04_Check.l1]; kernel_rfl
theorem regletref04_Check.j0_e (k : Nat) (y : denS regletref04_Check.j0_s) : regletref04_Check.j0 (k + 1) y.1 = evP ((regletref04_Check.G Try.prog).at (regletref04_Check.E k)) (fun i => (regletref04_Check.O k)[i]?) [1, 1] (cd Try.f24) regletref04_Check.H (kFin ((regletref04_Check.G Try.prog).at (regletref04_Check.E k)) [.tmp 2, .tmp 3] [.c false (.i .i64), .c false (.i .i64)]) (unS regletref04_Check.j0_s y) := by rw [regletref04_Check.j0]; kernel_rfl
theorem regletref04_Check.go : goesTo Try.prog 24 := ⟨_, Try.func24, by kernel_rfl, rfl⟩
theorem regletref04_Check.ok (k : Nat) : SigOk Try.prog 24 (regletref04_Check.sig k) :=
  fn_p (G := regletref04_Check.G Try.prog) (c := cd Try.f24) (rs := [.tmp 2, .tmp 3]) (args := [(false, y11)]) (l := [.c false (.i .i64), .c false (.i .i64)]) (fn := Try.f24) ⟨Try.func24, by kernel_rfl, by kernel_rfl, by kernel_rfl, le_of rfl, le_of rfl, TT_ok, AD_ok⟩ rfl regletref04_Check.E (fun k p hp => by
    simp only [regletref04_Check.E, List.mem_cons, List.not_mem_nil, or_false] at hp
    rcases hp with rfl
    · exact ⟨regletref04_Style.ok k, regletref04_Style.go⟩)
    (fun k i => (regletref04_Check.O k)[i]?) regletref04_Check.H (fun k x => regletref04_Check.f k x.1)
    (fun id o y h => by
    have h' := List.mem_of_getElem? h
    simp only [regletref04_Check.O, List.mem_cons, List.not_mem_nil, or_false] at h'
    rcases h' with rfl | rfl <;> rfl)
    (fun k p hp => by
    rw [show pts (cd Try.f24) regletref04_Check.H = [(1, [1, 1, 0, 1, 0, 0]), (0, [1, 1])] by kernel_rfl] at hp
    simp only [List.mem_cons, List.not_mem_nil, or_false] at hp
    rcases hp with rfl | rfl
    · exact ptOk_of rfl (regletref04_Check.l1_e k)
    · exact ptOk_of rfl (regletref04_Check.j0_e k))
    (fun k x => by kernel_rfl) k
/-! reglet/metrics.unit -/
def metrics_unit.f (k : Nat) (a0 : Int) (a1 : Int) : Option Bool := if (decide (a1 ≤ a0)) = true then (some (decide (a0 ≤ 1048576))) else (some false)
def metrics_unit.sig (k : Nat) : Sig := .p [(false, (.i .i64)), (false, (.i .i64))] [.c false .b] fun x => metrics_unit.f k x.1 x.2.1
def metrics_unit.E (k : Nat) : List (Nat × Sig) := []
def metrics_unit.G (P : Program) : GI := ⟨P, TT, 12, 12, [], [], [], [], [], AD⟩
def metrics_unit.H : H := .n
def metrics_unit.O (k : Nat) : List (Orc (denR [.c false .b])) := []
theorem metrics_unit.go : goesTo Try.prog 60 := ⟨_, Try.func60, by kernel_rfl, rfl⟩
theorem metrics_unit.ok (k : Nat) : SigOk Try.prog 60 (metrics_unit.sig k) :=
  fn_p (G := metrics_unit.G Try.prog) (c := cd Try.f60) (rs := [.tmp 4]) (args := [(false, (.i .i64)), (false, (.i .i64))]) (l := [.c false .b]) (fn := Try.f60) ⟨Try.func60, by kernel_rfl, by kernel_rfl, by kernel_rfl, le_of rfl, le_of rfl, TT_ok, AD_ok⟩ rfl metrics_unit.E (fun k p hp => nomatch hp)
    (fun k i => (metrics_unit.O k)[i]?) metrics_unit.H (fun k x => metrics_unit.f k x.1 x.2.1)
    (fun id o y h => by cases id <;> cases h)
    (fun k p hp => by rw [show pts (cd Try.f60) metrics_unit.H = [] by kernel_rfl] at hp; nomatch hp)
    (fun k x => by kernel_rfl) k
/-! reglet/metrics.check -/
mutual
def metrics_check.j0 : Nat → (Int × Int × Int × Int × Int × Int × List api_Range × Bool) → Option Int
  | 0, _ => none
  | k + 1, t => if (decide (64 < (t.2.2.2.2.2.2.1.length : Int))) = true then (some 42) else (metrics_check.l1 k (-1) t.2.2.2.2.2.2.1 (t.2.2.2.2.2.2.1.length : Int) 0)
def metrics_check.l1 : Nat → Int → (List api_Range) → Int → Int → Option Int
  | 0, _, _, _, _ => none
  | k + 1, t2, t3, t4, t5 => if (decide (t5 < t4)) = true then ((at? t3 t5).bind fun e => if (decide (e.1 ≤ t2)) = true then (some 42) else (if (decide (e.2.1 < e.1)) = true then (some 42) else (if (decide (1114111 < e.2.1)) = true then (some 42) else (metrics_check.j2 k t3 t4 t5 e)))) else (some 0)
def metrics_check.j2 : Nat → (List api_Range) → Int → Int → api_Range → Option Int
  | 0, _, _, _, _ => none
  | k + 1, t6, t7, t8, t9 => (metrics_unit.f k t9.2.2 0).bind fun r7 => if (!r7) = true then (some 41) else (metrics_check.l1 k t9.2.1 t6 t7 (wrap64 (t8 + 1)))
end
def metrics_check.f (k : Nat) (a0 : Int × Int × Int × Int × Int × Int × List api_Range × Bool) : Option Int := (metrics_unit.f k a0.1 1).bind fun r => if (!r) = true then (some 41) else ((metrics_unit.f k a0.2.1 0).bind fun r2 => if (!r2) = true then (some 41) else ((metrics_unit.f k a0.2.2.1 0).bind fun r3 => if (!r3) = true then (some 41) else ((metrics_unit.f k a0.2.2.2.1 0).bind fun r4 => if (!r4) = true then (some 41) else ((metrics_unit.f k a0.2.2.2.2.1 0).bind fun r5 => if (!r5) = true then (some 41) else ((metrics_unit.f k a0.2.2.2.2.2.1 0).bind fun r6 => if (!r6) = true then (some 41) else (if (decide (a0.2.1 < a0.2.2.2.1)) = true then (some 41) else (metrics_check.j0 k a0)))))))
def metrics_check.sig (k : Nat) : Sig := .p [(true, y9)] [.c false (.i .i64)] fun x => metrics_check.f k x.1
def metrics_check.E (k : Nat) : List (Nat × Sig) := [(60, metrics_unit.sig k)]
def metrics_check.G (P : Program) : GI := ⟨P, TT, 81, 92, [(1, 81, 8), (5, 89, 3)], [], [], [], [], AD⟩
def metrics_check.H : H := .s .n (.j 0 .n (.s .n (.s .n (.s (.s .n (.s (.l 1 (.s .n (.s .n (.s (.s (.s .n (.j 2 .n .n)) .n) .n)))) .n)) .n))))
abbrev metrics_check.j0_s : Sh := [(1, .at_ 81), (81, .box y9)]
abbrev metrics_check.l1_s : Sh := [(3, .v (.i .i64)), (52, .v y2), (53, .v (.i .i64)), (54, .v (.i .i64))]
abbrev metrics_check.j2_s : Sh := [(5, .at_ 89), (52, .v y2), (53, .v (.i .i64)), (54, .v (.i .i64)), (89, .box y1)]
def metrics_check.O (k : Nat) : List (Orc (denR [.c false (.i .i64)])) := [⟨metrics_check.j0_s, fun y => metrics_check.j0 k y.2.1⟩, ⟨metrics_check.l1_s, fun y => metrics_check.l1 k y.1 y.2.1 y.2.2.1 y.2.2.2.1⟩, ⟨metrics_check.j2_s, fun y => metrics_check.j2 k y.2.1 y.2.2.1 y.2.2.2.1 y.2.2.2.2.1⟩]
theorem metrics_check.j2_e (k : Nat) (y : denS metrics_check.j2_s) : metrics_check.j2 (k + 1) y.2.1 y.2.2.1 y.2.2.2.1 y.2.2.2.2.1 = evP ((metrics_check.G Try.prog).at (metrics_check.E k)) (fun i => (metrics_check.O k)[i]?) [1, 1, 1, 1, 0, 1, 0, 0, 1, 1, 0, 0, 1, 1] (cd Try.f43) metrics_check.H (kFin ((metrics_check.G Try.prog).at (metrics_check.E k)) [.tmp 2] [.c false (.i .i64)]) (unS metrics_check.j2_s y) := by rw [metrics_check.j2]; kernel_rfl
theorem metrics_check.l1_e (k : Nat) (y : denS metrics_check.l1_s) : metrics_check.l1 (k + 1) y.1 y.2.1 y.2.2.1 y.2.2.2.1 = evP ((metrics_check.G Try.prog).at (metrics_check.E k)) (fun i => (metrics_check.O k)[i]?) [1, 1, 1, 1, 0, 1, 0, 0] (cd Try.f43) metrics_check.H (kFin ((metrics_check.G Try.prog).at (metrics_check.E k)) [.tmp 2] [.c false (.i .i64)]) (unS metrics_check.l1_s y) := by rw [metrics_check.l1]; kernel_rfl
theorem metrics_check.j0_e (k : Nat) (y : denS metrics_check.j0_s) : metrics_check.j0 (k + 1) y.2.1 = evP ((metrics_check.G Try.prog).at (metrics_check.E k)) (fun i => (metrics_check.O k)[i]?) [1, 1] (cd Try.f43) metrics_check.H (kFin ((metrics_check.G Try.prog).at (metrics_check.E k)) [.tmp 2] [.c false (.i .i64)]) (unS metrics_check.j0_s y) := by rw [metrics_check.j0]; kernel_rfl
theorem metrics_check.go : goesTo Try.prog 43 := ⟨_, Try.func43, by kernel_rfl, rfl⟩
theorem metrics_check.ok (k : Nat) : SigOk Try.prog 43 (metrics_check.sig k) :=
  fn_p (G := metrics_check.G Try.prog) (c := cd Try.f43) (rs := [.tmp 2]) (args := [(true, y9)]) (l := [.c false (.i .i64)]) (fn := Try.f43) ⟨Try.func43, by kernel_rfl, by kernel_rfl, by kernel_rfl, le_of rfl, le_of rfl, TT_ok, AD_ok⟩ rfl metrics_check.E (fun k p hp => by
    simp only [metrics_check.E, List.mem_cons, List.not_mem_nil, or_false] at hp
    rcases hp with rfl
    · exact ⟨metrics_unit.ok k, metrics_unit.go⟩)
    (fun k i => (metrics_check.O k)[i]?) metrics_check.H (fun k x => metrics_check.f k x.1)
    (fun id o y h => by
    have h' := List.mem_of_getElem? h
    simp only [metrics_check.O, List.mem_cons, List.not_mem_nil, or_false] at h'
    rcases h' with rfl | rfl | rfl <;> rfl)
    (fun k p hp => by
    rw [show pts (cd Try.f43) metrics_check.H = [(2, [1, 1, 1, 1, 0, 1, 0, 0, 1, 1, 0, 0, 1, 1]), (1, [1, 1, 1, 1, 0, 1, 0, 0]), (0, [1, 1])] by kernel_rfl] at hp
    simp only [List.mem_cons, List.not_mem_nil, or_false] at hp
    rcases hp with rfl | rfl | rfl
    · exact ptOk_of rfl (metrics_check.j2_e k)
    · exact ptOk_of rfl (metrics_check.l1_e k)
    · exact ptOk_of rfl (metrics_check.j0_e k))
    (fun k x => by kernel_rfl) k
/-! reglet/metrics.New -/
mutual
def metrics_New.j0 : Nat → (List (Int × Int × Int × Int × Int × Int × List api_Range × Bool)) → Option ((Option (List (Int × Int × Int × Int × Int × Int × List api_Range × Bool))) × Int × Int)
  | 0, _ => none
  | k + 1, styles => metrics_New.l1 k styles (styles.length : Int) 0 ([] : List (Int × Int × Int × Int × Int × Int × List api_Range × Bool))
def metrics_New.l1 : Nat → (List (Int × Int × Int × Int × Int × Int × List api_Range × Bool)) → Int → Int → (List (Int × Int × Int × Int × Int × Int × List api_Range × Bool)) → Option ((Option (List (Int × Int × Int × Int × Int × Int × List api_Range × Bool))) × Int × Int)
  | 0, _, _, _, _ => none
  | k + 1, t, t2, t3, t4 => if (decide (t3 < t2)) = true then ((at? t t3).bind fun e => (metrics_check.f k e).bind fun r => if (!decide (r = 0)) = true then (some (none, r, t3)) else (if (([] : List api_Range).length + e.2.2.2.2.2.2.1.length) * 24 ≤ 140737488355328 then (if (t4.length + ([(e.1, e.2.1, e.2.2.1, e.2.2.2.1, e.2.2.2.2.1, e.2.2.2.2.2.1, ([] : List api_Range) ++ e.2.2.2.2.2.2.1, e.2.2.2.2.2.2.2)] : List (Int × Int × Int × Int × Int × Int × List api_Range × Bool)).length) * 80 ≤ 140737488355328 then (metrics_New.l1 k t t2 (wrap64 (t3 + 1)) (t4 ++ ([(e.1, e.2.1, e.2.2.1, e.2.2.2.1, e.2.2.2.2.1, e.2.2.2.2.2.1, ([] : List api_Range) ++ e.2.2.2.2.2.2.1, e.2.2.2.2.2.2.2)] : List (Int × Int × Int × Int × Int × Int × List api_Range × Bool)))) else none) else none)) else (some (some t4, 0, 0))
end
def metrics_New.f (k : Nat) (a0 : List (Int × Int × Int × Int × Int × Int × List api_Range × Bool)) : Option ((Option (List (Int × Int × Int × Int × Int × Int × List api_Range × Bool))) × Int × Int) := if (decide ((a0.length : Int) = 0)) = true then (some (none, 40, 0)) else (if (decide (32 < (a0.length : Int))) = true then (some (none, 40, 0)) else (metrics_New.j0 k a0))
def metrics_New.sig (k : Nat) : Sig := .p [(false, y11)] [.o y20, .c false (.i .i64), .c false (.i .i64)] fun x => metrics_New.f k x.1
def metrics_New.E (k : Nat) : List (Nat × Sig) := [(43, metrics_check.sig k)]
def metrics_New.G (P : Program) : GI := ⟨P, TT, 49, 58, [(18, 49, 1), (7, 50, 8)], [], [], [], [], AD⟩
def metrics_New.H : H := .s .n (.j 0 .n (.s .n (.s (.s .n (.s (.l 1 .n) .n)) .n)))
abbrev metrics_New.j0_s : Sh := [(0, .v y11)]
abbrev metrics_New.l1_s : Sh := [(5, .at_ 49), (19, .v y11), (20, .v (.i .i64)), (21, .v (.i .i64)), (49, .box y20)]
def metrics_New.O (k : Nat) : List (Orc (denR [.o y20, .c false (.i .i64), .c false (.i .i64)])) := [⟨metrics_New.j0_s, fun y => metrics_New.j0 k y.1⟩, ⟨metrics_New.l1_s, fun y => metrics_New.l1 k y.2.1 y.2.2.1 y.2.2.2.1 y.2.2.2.2.1⟩]
theorem metrics_New.l1_e (k : Nat) (y : denS metrics_New.l1_s) : metrics_New.l1 (k + 1) y.2.1 y.2.2.1 y.2.2.2.1 y.2.2.2.2.1 = evP ((metrics_New.G Try.prog).at (metrics_New.E k)) (fun i => (metrics_New.O k)[i]?) [1, 1, 1, 0, 1, 0, 0] (cd Try.f25) metrics_New.H (kFin ((metrics_New.G Try.prog).at (metrics_New.E k)) [.tmp 2, .tmp 3, .tmp 4] [.o y20, .c false (.i .i64), .c false (.i .i64)]) (unS metrics_New.l1_s y) := by rw [metrics_New.l1]; kernel_rfl
theorem metrics_New.j0_e (k : Nat) (y : denS metrics_New.j0_s) : metrics_New.j0 (k + 1) y.1 = evP ((metrics_New.G Try.prog).at (metrics_New.E k)) (fun i => (metrics_New.O k)[i]?) [1, 1] (cd Try.f25) metrics_New.H (kFin ((metrics_New.G Try.prog).at (metrics_New.E k)) [.tmp 2, .tmp 3, .tmp 4] [.o y20, .c false (.i .i64), .c false (.i .i64)]) (unS metrics_New.j0_s y) := by rw [metrics_New.j0]; kernel_rfl
theorem metrics_New.go : goesTo Try.prog 25 := ⟨_, Try.func25, by kernel_rfl, rfl⟩
theorem metrics_New.ok (k : Nat) : SigOk Try.prog 25 (metrics_New.sig k) :=
  fn_p (G := metrics_New.G Try.prog) (c := cd Try.f25) (rs := [.tmp 2, .tmp 3, .tmp 4]) (args := [(false, y11)]) (l := [.o y20, .c false (.i .i64), .c false (.i .i64)]) (fn := Try.f25) ⟨Try.func25, by kernel_rfl, by kernel_rfl, by kernel_rfl, le_of rfl, le_of rfl, TT_ok, AD_ok⟩ rfl metrics_New.E (fun k p hp => by
    simp only [metrics_New.E, List.mem_cons, List.not_mem_nil, or_false] at hp
    rcases hp with rfl
    · exact ⟨metrics_check.ok k, metrics_check.go⟩)
    (fun k i => (metrics_New.O k)[i]?) metrics_New.H (fun k x => metrics_New.f k x.1)
    (fun id o y h => by
    have h' := List.mem_of_getElem? h
    simp only [metrics_New.O, List.mem_cons, List.not_mem_nil, or_false] at h'
    rcases h' with rfl | rfl <;> rfl)
    (fun k p hp => by
    rw [show pts (cd Try.f25) metrics_New.H = [(1, [1, 1, 1, 0, 1, 0, 0]), (0, [1, 1])] by kernel_rfl] at hp
    simp only [List.mem_cons, List.not_mem_nil, or_false] at hp
    rcases hp with rfl | rfl
    · exact ptOk_of rfl (metrics_New.l1_e k)
    · exact ptOk_of rfl (metrics_New.j0_e k))
    (fun k x => by kernel_rfl) k
/-! reglet/regletlaw07.table -/
def regletlaw07_table.f (k : Nat) (a0 : List (Int × Int × Int × Int × Int × Int × List api_Range × Bool)) : Option ((Option (List (Int × Int × Int × Int × Int × Int × List api_Range × Bool)))) := (regletref04_Check.f k a0).bind fun r => if (!decide (r.1 = 0)) = true then (some none) else ((metrics_New.f k a0).bind fun r2 => optK r2.1 (some none) fun p => some (some p))
def regletlaw07_table.sig (k : Nat) : Sig := .p [(false, y11)] [.o y20] fun x => regletlaw07_table.f k x.1
def regletlaw07_table.E (k : Nat) : List (Nat × Sig) := [(24, regletref04_Check.sig k), (25, metrics_New.sig k)]
def regletlaw07_table.G (P : Program) : GI := ⟨P, TT, 22, 22, [], [], [], [], [], AD⟩
def regletlaw07_table.H : H := .n
def regletlaw07_table.O (k : Nat) : List (Orc (denR [.o y20])) := []
theorem regletlaw07_table.go : goesTo Try.prog 9 := ⟨_, Try.func9, by kernel_rfl, rfl⟩
theorem regletlaw07_table.ok (k : Nat) : SigOk Try.prog 9 (regletlaw07_table.sig k) :=
  fn_p (G := regletlaw07_table.G Try.prog) (c := cd Try.f9) (rs := [.tmp 2]) (args := [(false, y11)]) (l := [.o y20]) (fn := Try.f9) ⟨Try.func9, by kernel_rfl, by kernel_rfl, by kernel_rfl, le_of rfl, le_of rfl, TT_ok, AD_ok⟩ rfl regletlaw07_table.E (fun k p hp => by
    simp only [regletlaw07_table.E, List.mem_cons, List.not_mem_nil, or_false] at hp
    rcases hp with rfl | rfl
    · exact ⟨regletref04_Check.ok k, regletref04_Check.go⟩
    · exact ⟨metrics_New.ok k, metrics_New.go⟩)
    (fun k i => (regletlaw07_table.O k)[i]?) regletlaw07_table.H (fun k x => regletlaw07_table.f k x.1)
    (fun id o y h => by cases id <;> cases h)
    (fun k p hp => by rw [show pts (cd Try.f9) regletlaw07_table.H = [] by kernel_rfl] at hp; nomatch hp)
    (fun k x => by kernel_rfl) k
/-! reglet/runes.size -/
mutual
def runes_size.j0 : Nat → ByteArray → Int → Option Int
  | 0, _, _ => none
  | k + 1, t, t2 => (bAt t t2).bind fun e => if (decide (e < 128)) = true then (some 1) else (if (decide (e < 194)) = true then (some 0) else (if (decide (244 < e)) = true then (some 0) else (if (decide (e < 224)) = true then (runes_size.j1 k t t2 1 128 191 (wrap64 (t2 + 1))) else (if (decide (e < 240)) = true then (runes_size.j2 k t t2 2 128 191 e (wrap64 (t2 + 1))) else (runes_size.j3 k t t2 3 128 191 e (wrap64 (t2 + 1)))))))
def runes_size.j1 : Nat → ByteArray → Int → Int → Int → Int → Int → Option Int
  | 0, _, _, _, _, _, _ => none
  | k + 1, t3, t4, t5, t6, t7, t8 => runes_size.j4 k t3 t4 t5 t6 t7 t8
def runes_size.j2 : Nat → ByteArray → Int → Int → Int → Int → Int → Int → Option Int
  | 0, _, _, _, _, _, _, _ => none
  | k + 1, t9, t10, t11, t12, t13, t14, t15 => if (decide (t14 = 224)) = true then (runes_size.j5 k t9 t10 t11 160 t13 t14 t15) else (runes_size.j5 k t9 t10 t11 t12 t13 t14 t15)
def runes_size.j3 : Nat → ByteArray → Int → Int → Int → Int → Int → Int → Option Int
  | 0, _, _, _, _, _, _, _ => none
  | k + 1, t16, t17, t18, t19, t20, t21, t22 => if (decide (t21 = 240)) = true then (runes_size.j6 k t16 t17 t18 144 t20 t21 t22) else (runes_size.j6 k t16 t17 t18 t19 t20 t21 t22)
def runes_size.j4 : Nat → ByteArray → Int → Int → Int → Int → Int → Option Int
  | 0, _, _, _, _, _, _ => none
  | k + 1, t23, t24, t25, t26, t27, t28 => if (decide (t25 = 0)) = true then (some (wrap64 (t28 - t24))) else (if (decide ((t23.size : Int) ≤ t28)) = true then (some 0) else ((bAt t23 t28).bind fun e2 => if (decide (e2 < t26)) = true then (some 0) else ((bAt t23 t28).bind fun e3 => if (decide (t27 < e3)) = true then (some 0) else (runes_size.j7 k t23 t24 t25 t28))))
def runes_size.j5 : Nat → ByteArray → Int → Int → Int → Int → Int → Int → Option Int
  | 0, _, _, _, _, _, _, _ => none
  | k + 1, t29, t30, t31, t32, t33, t34, t35 => if (decide (t34 = 237)) = true then (runes_size.j1 k t29 t30 t31 t32 159 t35) else (runes_size.j1 k t29 t30 t31 t32 t33 t35)
def runes_size.j6 : Nat → ByteArray → Int → Int → Int → Int → Int → Int → Option Int
  | 0, _, _, _, _, _, _, _ => none
  | k + 1, t36, t37, t38, t39, t40, t41, t42 => if (decide (t41 = 244)) = true then (runes_size.j1 k t36 t37 t38 t39 143 t42) else (runes_size.j1 k t36 t37 t38 t39 t40 t42)
def runes_size.j7 : Nat → ByteArray → Int → Int → Int → Option Int
  | 0, _, _, _, _ => none
  | k + 1, t43, t44, t45, t46 => runes_size.j4 k t43 t44 (wrap64 (t45 - 1)) 128 191 (wrap64 (t46 + 1))
end
def runes_size.f (k : Nat) (a0 : ByteArray) (a1 : Int) : Option Int := if (decide (a1 < 0)) = true then (some 0) else (if (decide ((a0.size : Int) ≤ a1)) = true then (some 0) else (runes_size.j0 k a0 a1))
def runes_size.sig (k : Nat) : Sig := .p [(false, .s), (false, (.i .i64))] [.c false (.i .i64)] fun x => runes_size.f k x.1 x.2.1
def runes_size.E (k : Nat) : List (Nat × Sig) := []
def runes_size.G (P : Program) : GI := ⟨P, TT, 74, 74, [], [], [], [], [], AD⟩
def runes_size.H : H := .s .n (.g 0 4 (.j 0 .n (.s .n (.s .n (.s .n (.s .n (.j 1 (.s (.s .n (.s .n (.s .n (.s .n (.s .n (.s .n (.s .n (.s (.j 2 .n (.j 5 .n .n)) (.j 3 .n (.j 6 .n .n)))))))))) .n) (.j 4 .n (.s .n (.j 7 .n .n))))))))))
abbrev runes_size.j0_s : Sh := [(0, .v .s), (1, .v (.i .i64))]
abbrev runes_size.j1_s : Sh := [(0, .v .s), (1, .v (.i .i64)), (5, .v (.i .i64)), (6, .v (.i .u8)), (7, .v (.i .u8)), (9, .v (.i .i64))]
abbrev runes_size.j2_s : Sh := [(0, .v .s), (1, .v (.i .i64)), (5, .v (.i .i64)), (6, .v (.i .u8)), (7, .v (.i .u8)), (8, .v (.i .u8)), (9, .v (.i .i64))]
abbrev runes_size.j3_s : Sh := [(0, .v .s), (1, .v (.i .i64)), (5, .v (.i .i64)), (6, .v (.i .u8)), (7, .v (.i .u8)), (8, .v (.i .u8)), (9, .v (.i .i64))]
abbrev runes_size.j4_s : Sh := [(0, .v .s), (1, .v (.i .i64)), (5, .v (.i .i64)), (6, .v (.i .u8)), (7, .v (.i .u8)), (9, .v (.i .i64))]
abbrev runes_size.j5_s : Sh := [(0, .v .s), (1, .v (.i .i64)), (5, .v (.i .i64)), (6, .v (.i .u8)), (7, .v (.i .u8)), (8, .v (.i .u8)), (9, .v (.i .i64))]
abbrev runes_size.j6_s : Sh := [(0, .v .s), (1, .v (.i .i64)), (5, .v (.i .i64)), (6, .v (.i .u8)), (7, .v (.i .u8)), (8, .v (.i .u8)), (9, .v (.i .i64))]
abbrev runes_size.j7_s : Sh := [(0, .v .s), (1, .v (.i .i64)), (5, .v (.i .i64)), (9, .v (.i .i64))]
def runes_size.O (k : Nat) : List (Orc (denR [.c false (.i .i64)])) := [⟨runes_size.j0_s, fun y => runes_size.j0 k y.1 y.2.1⟩, ⟨runes_size.j1_s, fun y => runes_size.j1 k y.1 y.2.1 y.2.2.1 y.2.2.2.1 y.2.2.2.2.1 y.2.2.2.2.2.1⟩, ⟨runes_size.j2_s, fun y => runes_size.j2 k y.1 y.2.1 y.2.2.1 y.2.2.2.1 y.2.2.2.2.1 y.2.2.2.2.2.1 y.2.2.2.2.2.2.1⟩, ⟨runes_size.j3_s, fun y => runes_size.j3 k y.1 y.2.1 y.2.2.1 y.2.2.2.1 y.2.2.2.2.1 y.2.2.2.2.2.1 y.2.2.2.2.2.2.1⟩, ⟨runes_size.j4_s, fun y => runes_size.j4 k y.1 y.2.1 y.2.2.1 y.2.2.2.1 y.2.2.2.2.1 y.2.2.2.2.2.1⟩, ⟨runes_size.j5_s, fun y => runes_size.j5 k y.1 y.2.1 y.2.2.1 y.2.2.2.1 y.2.2.2.2.1 y.2.2.2.2.2.1 y.2.2.2.2.2.2.1⟩, ⟨runes_size.j6_s, fun y => runes_size.j6 k y.1 y.2.1 y.2.2.1 y.2.2.2.1 y.2.2.2.2.1 y.2.2.2.2.2.1 y.2.2.2.2.2.2.1⟩, ⟨runes_size.j7_s, fun y => runes_size.j7 k y.1 y.2.1 y.2.2.1 y.2.2.2.1⟩]
theorem runes_size.j5_e (k : Nat) (y : denS runes_size.j5_s) : runes_size.j5 (k + 1) y.1 y.2.1 y.2.2.1 y.2.2.2.1 y.2.2.2.2.1 y.2.2.2.2.2.1 y.2.2.2.2.2.2.1 = evP ((runes_size.G Try.prog).at (runes_size.E k)) (fun i => (runes_size.O k)[i]?) [1, 0, 1, 1, 1, 1, 1, 0, 0, 1, 1, 1, 1, 1, 1, 1, 0, 1, 1] (cd Try.f44) runes_size.H (kFin ((runes_size.G Try.prog).at (runes_size.E k)) [.tmp 4] [.c false (.i .i64)]) (unS runes_size.j5_s y) := by rw [runes_size.j5]; kernel_rfl
theorem runes_size.j2_e (k : Nat) (y : denS runes_size.j2_s) : runes_size.j2 (k + 1) y.1 y.2.1 y.2.2.1 y.2.2.2.1 y.2.2.2.2.1 y.2.2.2.2.2.1 y.2.2.2.2.2.2.1 = evP ((runes_size.G Try.prog).at (runes_size.E k)) (fun i => (runes_size.O k)[i]?) [1, 0, 1, 1, 1, 1, 1, 0, 0, 1, 1, 1, 1, 1, 1, 1, 0, 1] (cd Try.f44) runes_size.H (kFin ((runes_size.G Try.prog).at (runes_size.E k)) [.tmp 4] [.c false (.i .i64)]) (unS runes_size.j2_s y) := by rw [runes_size.j2]; kernel_rfl
theorem runes_size.j6_e (k : Nat) (y : denS runes_size.j6_s) : runes_size.j6 (k + 1) y.1 y.2.1 y.2.2.1 y.2.2.2.1 y.2.2.2.2.1 y.2.2.2.2.2.1 y.2.2.2.2.2.2.1 = evP ((runes_size.G Try.prog).at (runes_size.E k)) (fun i => (runes_size.O k)[i]?) [1, 0, 1, 1, 1, 1, 1, 0, 0, 1, 1, 1, 1, 1, 1, 1, 1, 1, 1] (cd Try.f44) runes_size.H (kFin ((runes_size.G Try.prog).at (runes_size.E k)) [.tmp 4] [.c false (.i .i64)]) (unS runes_size.j6_s y) := by rw [runes_size.j6]; kernel_rfl
theorem runes_size.j3_e (k : Nat) (y : denS runes_size.j3_s) : runes_size.j3 (k + 1) y.1 y.2.1 y.2.2.1 y.2.2.2.1 y.2.2.2.2.1 y.2.2.2.2.2.1 y.2.2.2.2.2.2.1 = evP ((runes_size.G Try.prog).at (runes_size.E k)) (fun i => (runes_size.O k)[i]?) [1, 0, 1, 1, 1, 1, 1, 0, 0, 1, 1, 1, 1, 1, 1, 1, 1, 1] (cd Try.f44) runes_size.H (kFin ((runes_size.G Try.prog).at (runes_size.E k)) [.tmp 4] [.c false (.i .i64)]) (unS runes_size.j3_s y) := by rw [runes_size.j3]; kernel_rfl
theorem runes_size.j7_e (k : Nat) (y : denS runes_size.j7_s) : runes_size.j7 (k + 1) y.1 y.2.1 y.2.2.1 y.2.2.2.1 = evP ((runes_size.G Try.prog).at (runes_size.E k)) (fun i => (runes_size.O k)[i]?) [1, 0, 1, 1, 1, 1, 1, 1, 1, 1, 1] (cd Try.f44) runes_size.H (kFin ((runes_size.G Try.prog).at (runes_size.E k)) [.tmp 4] [.c false (.i .i64)]) (unS runes_size.j7_s y) := by rw [runes_size.j7]; kernel_rfl
theorem runes_size.j4_e (k : Nat) (y : denS runes_size.j4_s) : runes_size.j4 (k + 1) y.1 y.2.1 y.2.2.1 y.2.2.2.1 y.2.2.2.2.1 y.2.2.2.2.2.1 = evP ((runes_size.G Try.prog).at (runes_size.E k)) (fun i => (runes_size.O k)[i]?) [1, 0, 1, 1, 1, 1, 1, 1, 1] (cd Try.f44) runes_size.H (kFin ((runes_size.G Try.prog).at (runes_size.E k)) [.tmp 4] [.c false (.i .i64)]) (unS runes_size.j4_s y) := by rw [runes_size.j4]; kernel_rfl
theorem runes_size.j1_e (k : Nat) (y : denS runes_size.j1_s) : runes_size.j1 (k + 1) y.1 y.2.1 y.2.2.1 y.2.2.2.1 y.2.2.2.2.1 y.2.2.2.2.2.1 = evP ((runes_size.G Try.prog).at (runes_size.E k)) (fun i => (runes_size.O k)[i]?) [1, 0, 1, 1, 1, 1, 1, 1] (cd Try.f44) runes_size.H (kFin ((runes_size.G Try.prog).at (runes_size.E k)) [.tmp 4] [.c false (.i .i64)]) (unS runes_size.j1_s y) := by rw [runes_size.j1]; kernel_rfl
theorem runes_size.j0_e (k : Nat) (y : denS runes_size.j0_s) : runes_size.j0 (k + 1) y.1 y.2.1 = evP ((runes_size.G Try.prog).at (runes_size.E k)) (fun i => (runes_size.O k)[i]?) [1, 0, 1] (cd Try.f44) runes_size.H (kFin ((runes_size.G Try.prog).at (runes_size.E k)) [.tmp 4] [.c false (.i .i64)]) (unS runes_size.j0_s y) := by rw [runes_size.j0]; kernel_rfl
theorem runes_size.go : goesTo Try.prog 44 := ⟨_, Try.func44, by kernel_rfl, rfl⟩
theorem runes_size.ok (k : Nat) : SigOk Try.prog 44 (runes_size.sig k) :=
  fn_p (G := runes_size.G Try.prog) (c := cd Try.f44) (rs := [.tmp 4]) (args := [(false, .s), (false, (.i .i64))]) (l := [.c false (.i .i64)]) (fn := Try.f44) ⟨Try.func44, by kernel_rfl, by kernel_rfl, by kernel_rfl, le_of rfl, le_of rfl, TT_ok, AD_ok⟩ rfl runes_size.E (fun k p hp => nomatch hp)
    (fun k i => (runes_size.O k)[i]?) runes_size.H (fun k x => runes_size.f k x.1 x.2.1)
    (fun id o y h => by
    have h' := List.mem_of_getElem? h
    simp only [runes_size.O, List.mem_cons, List.not_mem_nil, or_false] at h'
    rcases h' with rfl | rfl | rfl | rfl | rfl | rfl | rfl | rfl <;> rfl)
    (fun k p hp => by
    rw [show pts (cd Try.f44) runes_size.H = [(5, [1, 0, 1, 1, 1, 1, 1, 0, 0, 1, 1, 1, 1, 1, 1, 1, 0, 1, 1]), (2, [1, 0, 1, 1, 1, 1, 1, 0, 0, 1, 1, 1, 1, 1, 1, 1, 0, 1]), (6, [1, 0, 1, 1, 1, 1, 1, 0, 0, 1, 1, 1, 1, 1, 1, 1, 1, 1, 1]), (3, [1, 0, 1, 1, 1, 1, 1, 0, 0, 1, 1, 1, 1, 1, 1, 1, 1, 1]), (7, [1, 0, 1, 1, 1, 1, 1, 1, 1, 1, 1]), (4, [1, 0, 1, 1, 1, 1, 1, 1, 1]), (1, [1, 0, 1, 1, 1, 1, 1, 1]), (0, [1, 0, 1])] by kernel_rfl] at hp
    simp only [List.mem_cons, List.not_mem_nil, or_false] at hp
    rcases hp with rfl | rfl | rfl | rfl | rfl | rfl | rfl | rfl
    · exact ptOk_of rfl (runes_size.j5_e k)
    · exact ptOk_of rfl (runes_size.j2_e k)
    · exact ptOk_of rfl (runes_size.j6_e k)
    · exact ptOk_of rfl (runes_size.j3_e k)
    · exact ptOk_of rfl (runes_size.j7_e k)
    · exact ptOk_of rfl (runes_size.j4_e k)
    · exact ptOk_of rfl (runes_size.j1_e k)
    · exact ptOk_of rfl (runes_size.j0_e k))
    (fun k x => by kernel_rfl) k
/-! reglet/runes.Bad -/
mutual
def runes_Bad.j0 : Nat → ByteArray → Int → Option Int
  | 0, _, _ => none
  | k + 1, s, at_ => if (decide (at_ = (s.size : Int))) = true then (some (-1)) else ((runes_size.f k s at_).bind fun r => if (decide (r = 0)) = true then (some at_) else (runes_Bad.j0 k s (wrap64 (at_ + r))))
end
def runes_Bad.f (k : Nat) (a0 : ByteArray) : Option Int := runes_Bad.j0 k a0 0
def runes_Bad.sig (k : Nat) : Sig := .p [(false, .s)] [.c false (.i .i64)] fun x => runes_Bad.f k x.1
def runes_Bad.E (k : Nat) : List (Nat × Sig) := [(44, runes_size.sig k)]
def runes_Bad.G (P : Program) : GI := ⟨P, TT, 18, 18, [], [], [], [], [], AD⟩
def runes_Bad.H : H := .s .n (.g 0 0 (.s .n (.j 0 .n .n)))
abbrev runes_Bad.j0_s : Sh := [(0, .v .s), (3, .v (.i .i64))]
def runes_Bad.O (k : Nat) : List (Orc (denR [.c false (.i .i64)])) := [⟨runes_Bad.j0_s, fun y => runes_Bad.j0 k y.1 y.2.1⟩]
theorem runes_Bad.j0_e (k : Nat) (y : denS runes_Bad.j0_s) : runes_Bad.j0 (k + 1) y.1 y.2.1 = evP ((runes_Bad.G Try.prog).at (runes_Bad.E k)) (fun i => (runes_Bad.O k)[i]?) [1, 0, 1, 1] (cd Try.f53) runes_Bad.H (kFin ((runes_Bad.G Try.prog).at (runes_Bad.E k)) [.tmp 2] [.c false (.i .i64)]) (unS runes_Bad.j0_s y) := by rw [runes_Bad.j0]; kernel_rfl
theorem runes_Bad.go : goesTo Try.prog 53 := ⟨_, Try.func53, by kernel_rfl, rfl⟩
theorem runes_Bad.ok (k : Nat) : SigOk Try.prog 53 (runes_Bad.sig k) :=
  fn_p (G := runes_Bad.G Try.prog) (c := cd Try.f53) (rs := [.tmp 2]) (args := [(false, .s)]) (l := [.c false (.i .i64)]) (fn := Try.f53) ⟨Try.func53, by kernel_rfl, by kernel_rfl, by kernel_rfl, le_of rfl, le_of rfl, TT_ok, AD_ok⟩ rfl runes_Bad.E (fun k p hp => by
    simp only [runes_Bad.E, List.mem_cons, List.not_mem_nil, or_false] at hp
    rcases hp with rfl
    · exact ⟨runes_size.ok k, runes_size.go⟩)
    (fun k i => (runes_Bad.O k)[i]?) runes_Bad.H (fun k x => runes_Bad.f k x.1)
    (fun id o y h => by
    have h' := List.mem_of_getElem? h
    simp only [runes_Bad.O, List.mem_cons, List.not_mem_nil, or_false] at h'
    rcases h' with rfl <;> rfl)
    (fun k p hp => by
    rw [show pts (cd Try.f53) runes_Bad.H = [(0, [1, 0, 1, 1])] by kernel_rfl] at hp
    simp only [List.mem_cons, List.not_mem_nil, or_false] at hp
    rcases hp with rfl
    · exact ptOk_of rfl (runes_Bad.j0_e k))
    (fun k x => by kernel_rfl) k
/-! reglet/runes.Check -/
def runes_Check.f (k : Nat) (a0 : ByteArray) : Option Int := (runes_Bad.f k a0).bind fun r => if (decide (0 ≤ r)) = true then (some 20) else (some 0)
def runes_Check.sig (k : Nat) : Sig := .p [(false, .s)] [.c false (.i .i64)] fun x => runes_Check.f k x.1
def runes_Check.E (k : Nat) : List (Nat × Sig) := [(53, runes_Bad.sig k)]
def runes_Check.G (P : Program) : GI := ⟨P, TT, 6, 6, [], [], [], [], [], AD⟩
def runes_Check.H : H := .n
def runes_Check.O (k : Nat) : List (Orc (denR [.c false (.i .i64)])) := []
theorem runes_Check.go : goesTo Try.prog 35 := ⟨_, Try.func35, by kernel_rfl, rfl⟩
theorem runes_Check.ok (k : Nat) : SigOk Try.prog 35 (runes_Check.sig k) :=
  fn_p (G := runes_Check.G Try.prog) (c := cd Try.f35) (rs := [.tmp 2]) (args := [(false, .s)]) (l := [.c false (.i .i64)]) (fn := Try.f35) ⟨Try.func35, by kernel_rfl, by kernel_rfl, by kernel_rfl, le_of rfl, le_of rfl, TT_ok, AD_ok⟩ rfl runes_Check.E (fun k p hp => by
    simp only [runes_Check.E, List.mem_cons, List.not_mem_nil, or_false] at hp
    rcases hp with rfl
    · exact ⟨runes_Bad.ok k, runes_Bad.go⟩)
    (fun k i => (runes_Check.O k)[i]?) runes_Check.H (fun k x => runes_Check.f k x.1)
    (fun id o y h => by cases id <;> cases h)
    (fun k p hp => by rw [show pts (cd Try.f35) runes_Check.H = [] by kernel_rfl] at hp; nomatch hp)
    (fun k x => by kernel_rfl) k
/-! reglet/runes.Kind -/
mutual
def runes_Kind.j0 : Nat → Int → Bool → Option Int
  | 0, _, _ => none
  | k + 1, t, t2 => if t2 = true then (some 1) else (if (decide (t = 160)) = true then (runes_Kind.j1 k t true) else (runes_Kind.j1 k t (decide (t = 8239))))
def runes_Kind.j1 : Nat → Int → Bool → Option Int
  | 0, _, _ => none
  | k + 1, t3, t4 => if t4 = true then (some 2) else (if (decide (t3 = 173)) = true then (some 3) else (if (decide (t3 = 8203)) = true then (some 4) else (if (decide (t3 = 8288)) = true then (runes_Kind.j2 k t3 true) else (runes_Kind.j2 k t3 (decide (t3 = 65279))))))
def runes_Kind.j2 : Nat → Int → Bool → Option Int
  | 0, _, _ => none
  | k + 1, t5, t6 => if t6 = true then (some 5) else (if (decide (t5 = 45)) = true then (runes_Kind.j3 k t5 true) else (runes_Kind.j3 k t5 (decide (t5 = 8208))))
def runes_Kind.j3 : Nat → Int → Bool → Option Int
  | 0, _, _ => none
  | k + 1, t7, t8 => if t8 = true then (some 6) else (if (decide (t7 = 8232)) = true then (some 7) else (if (decide (t7 = 10)) = true then (some 8) else (some 0)))
end
def runes_Kind.f (k : Nat) (a0 : Int) : Option Int := if (decide (a0 = 32)) = true then (runes_Kind.j0 k a0 true) else (runes_Kind.j0 k a0 (decide (a0 = 9)))
def runes_Kind.sig (k : Nat) : Sig := .p [(false, (.i .i32))] [.c false (.i .i64)] fun x => runes_Kind.f k x.1
def runes_Kind.E (k : Nat) : List (Nat × Sig) := []
def runes_Kind.G (P : Program) : GI := ⟨P, TT, 24, 24, [], [], [], [], [], AD⟩
def runes_Kind.H : H := .s .n (.s (.s .n (.s (.j 0 .n (.s .n (.j 1 .n (.s .n (.s .n (.s .n (.s .n (.s .n (.j 2 .n (.s .n (.j 3 .n .n))))))))))) .n)) .n)
abbrev runes_Kind.j0_s : Sh := [(3, .v (.i .i32)), (4, .v .b)]
abbrev runes_Kind.j1_s : Sh := [(3, .v (.i .i32)), (7, .v .b)]
abbrev runes_Kind.j2_s : Sh := [(3, .v (.i .i32)), (14, .v .b)]
abbrev runes_Kind.j3_s : Sh := [(3, .v (.i .i32)), (17, .v .b)]
def runes_Kind.O (k : Nat) : List (Orc (denR [.c false (.i .i64)])) := [⟨runes_Kind.j0_s, fun y => runes_Kind.j0 k y.1 y.2.1⟩, ⟨runes_Kind.j1_s, fun y => runes_Kind.j1 k y.1 y.2.1⟩, ⟨runes_Kind.j2_s, fun y => runes_Kind.j2 k y.1 y.2.1⟩, ⟨runes_Kind.j3_s, fun y => runes_Kind.j3 k y.1 y.2.1⟩]
theorem runes_Kind.j3_e (k : Nat) (y : denS runes_Kind.j3_s) : runes_Kind.j3 (k + 1) y.1 y.2.1 = evP ((runes_Kind.G Try.prog).at (runes_Kind.E k)) (fun i => (runes_Kind.O k)[i]?) [1, 0, 1, 0, 1, 1, 1, 1, 1, 1, 1, 1, 1, 1, 1] (cd Try.f27) runes_Kind.H (kFin ((runes_Kind.G Try.prog).at (runes_Kind.E k)) [.tmp 2] [.c false (.i .i64)]) (unS runes_Kind.j3_s y) := by rw [runes_Kind.j3]; kernel_rfl
theorem runes_Kind.j2_e (k : Nat) (y : denS runes_Kind.j2_s) : runes_Kind.j2 (k + 1) y.1 y.2.1 = evP ((runes_Kind.G Try.prog).at (runes_Kind.E k)) (fun i => (runes_Kind.O k)[i]?) [1, 0, 1, 0, 1, 1, 1, 1, 1, 1, 1, 1, 1] (cd Try.f27) runes_Kind.H (kFin ((runes_Kind.G Try.prog).at (runes_Kind.E k)) [.tmp 2] [.c false (.i .i64)]) (unS runes_Kind.j2_s y) := by rw [runes_Kind.j2]; kernel_rfl
theorem runes_Kind.j1_e (k : Nat) (y : denS runes_Kind.j1_s) : runes_Kind.j1 (k + 1) y.1 y.2.1 = evP ((runes_Kind.G Try.prog).at (runes_Kind.E k)) (fun i => (runes_Kind.O k)[i]?) [1, 0, 1, 0, 1, 1, 1] (cd Try.f27) runes_Kind.H (kFin ((runes_Kind.G Try.prog).at (runes_Kind.E k)) [.tmp 2] [.c false (.i .i64)]) (unS runes_Kind.j1_s y) := by rw [runes_Kind.j1]; kernel_rfl
theorem runes_Kind.j0_e (k : Nat) (y : denS runes_Kind.j0_s) : runes_Kind.j0 (k + 1) y.1 y.2.1 = evP ((runes_Kind.G Try.prog).at (runes_Kind.E k)) (fun i => (runes_Kind.O k)[i]?) [1, 0, 1, 0, 1] (cd Try.f27) runes_Kind.H (kFin ((runes_Kind.G Try.prog).at (runes_Kind.E k)) [.tmp 2] [.c false (.i .i64)]) (unS runes_Kind.j0_s y) := by rw [runes_Kind.j0]; kernel_rfl
theorem runes_Kind.go : goesTo Try.prog 27 := ⟨_, Try.func27, by kernel_rfl, rfl⟩
theorem runes_Kind.ok (k : Nat) : SigOk Try.prog 27 (runes_Kind.sig k) :=
  fn_p (G := runes_Kind.G Try.prog) (c := cd Try.f27) (rs := [.tmp 2]) (args := [(false, (.i .i32))]) (l := [.c false (.i .i64)]) (fn := Try.f27) ⟨Try.func27, by kernel_rfl, by kernel_rfl, by kernel_rfl, le_of rfl, le_of rfl, TT_ok, AD_ok⟩ rfl runes_Kind.E (fun k p hp => nomatch hp)
    (fun k i => (runes_Kind.O k)[i]?) runes_Kind.H (fun k x => runes_Kind.f k x.1)
    (fun id o y h => by
    have h' := List.mem_of_getElem? h
    simp only [runes_Kind.O, List.mem_cons, List.not_mem_nil, or_false] at h'
    rcases h' with rfl | rfl | rfl | rfl <;> rfl)
    (fun k p hp => by
    rw [show pts (cd Try.f27) runes_Kind.H = [(3, [1, 0, 1, 0, 1, 1, 1, 1, 1, 1, 1, 1, 1, 1, 1]), (2, [1, 0, 1, 0, 1, 1, 1, 1, 1, 1, 1, 1, 1]), (1, [1, 0, 1, 0, 1, 1, 1]), (0, [1, 0, 1, 0, 1])] by kernel_rfl] at hp
    simp only [List.mem_cons, List.not_mem_nil, or_false] at hp
    rcases hp with rfl | rfl | rfl | rfl
    · exact ptOk_of rfl (runes_Kind.j3_e k)
    · exact ptOk_of rfl (runes_Kind.j2_e k)
    · exact ptOk_of rfl (runes_Kind.j1_e k)
    · exact ptOk_of rfl (runes_Kind.j0_e k))
    (fun k x => by kernel_rfl) k
/-! reglet/runes.Lines -/
mutual
def runes_Lines.l0 : Nat → Int → (ByteArray × Nat) → Option Int
  | 0, _, _ => none
  | k + 1, n, t => if t.2 < t.1.size then ((runes_Kind.f k ((Utf8.decode t.1 t.2).1 : Int)).bind fun r => if (decide (r = 8)) = true then (runes_Lines.l0 k (wrap64 (n + 1)) (t.1, (t.2 + (Utf8.decode t.1 t.2).2))) else (runes_Lines.l0 k n (t.1, (t.2 + (Utf8.decode t.1 t.2).2)))) else (some n)
end
def runes_Lines.f (k : Nat) (a0 : ByteArray) : Option Int := runes_Lines.l0 k 0 (a0, 0)
def runes_Lines.sig (k : Nat) : Sig := .p [(false, .s)] [.c false (.i .i64)] fun x => runes_Lines.f k x.1
def runes_Lines.E (k : Nat) : List (Nat × Sig) := [(27, runes_Kind.sig k)]
def runes_Lines.G (P : Program) : GI := ⟨P, TT, 17, 17, [], [], [], [], [], AD⟩
def runes_Lines.H : H := .s .n (.s .n (.s (.s .n (.s (.l 0 .n) .n)) .n))
abbrev runes_Lines.l0_s : Sh := [(3, .v (.i .i64)), (7, .it)]
def runes_Lines.O (k : Nat) : List (Orc (denR [.c false (.i .i64)])) := [⟨runes_Lines.l0_s, fun y => runes_Lines.l0 k y.1 y.2.1⟩]
theorem runes_Lines.l0_e (k : Nat) (y : denS runes_Lines.l0_s) : runes_Lines.l0 (k + 1) y.1 y.2.1 = evP ((runes_Lines.G Try.prog).at (runes_Lines.E k)) (fun i => (runes_Lines.O k)[i]?) [1, 1, 0, 1, 0, 0] (cd Try.f36) runes_Lines.H (kFin ((runes_Lines.G Try.prog).at (runes_Lines.E k)) [.tmp 2] [.c false (.i .i64)]) (unS runes_Lines.l0_s y) := by rw [runes_Lines.l0]; kernel_rfl
theorem runes_Lines.go : goesTo Try.prog 36 := ⟨_, Try.func36, by kernel_rfl, rfl⟩
theorem runes_Lines.ok (k : Nat) : SigOk Try.prog 36 (runes_Lines.sig k) :=
  fn_p (G := runes_Lines.G Try.prog) (c := cd Try.f36) (rs := [.tmp 2]) (args := [(false, .s)]) (l := [.c false (.i .i64)]) (fn := Try.f36) ⟨Try.func36, by kernel_rfl, by kernel_rfl, by kernel_rfl, le_of rfl, le_of rfl, TT_ok, AD_ok⟩ rfl runes_Lines.E (fun k p hp => by
    simp only [runes_Lines.E, List.mem_cons, List.not_mem_nil, or_false] at hp
    rcases hp with rfl
    · exact ⟨runes_Kind.ok k, runes_Kind.go⟩)
    (fun k i => (runes_Lines.O k)[i]?) runes_Lines.H (fun k x => runes_Lines.f k x.1)
    (fun id o y h => by
    have h' := List.mem_of_getElem? h
    simp only [runes_Lines.O, List.mem_cons, List.not_mem_nil, or_false] at h'
    rcases h' with rfl <;> rfl)
    (fun k p hp => by
    rw [show pts (cd Try.f36) runes_Lines.H = [(0, [1, 1, 0, 1, 0, 0])] by kernel_rfl] at hp
    simp only [List.mem_cons, List.not_mem_nil, or_false] at hp
    rcases hp with rfl
    · exact ptOk_of rfl (runes_Lines.l0_e k))
    (fun k x => by kernel_rfl) k
/-! (*reglet/metrics.Table).Check -/
def metrics_Table_Check.f (k : Nat) (a0 : List (Int × Int × Int × Int × Int × Int × List api_Range × Bool)) (a1 : Int) : Option Int := if (decide (a1 < 0)) = true then (some 43) else (if (decide ((a0.length : Int) ≤ a1)) = true then (some 43) else (some 0))
def metrics_Table_Check.sig (k : Nat) : Sig := .p [(false, y21), (false, (.i .i64))] [.c false (.i .i64)] fun x => metrics_Table_Check.f k x.1 x.2.1
def metrics_Table_Check.E (k : Nat) : List (Nat × Sig) := []
def metrics_Table_Check.G (P : Program) : GI := ⟨P, TT, 16, 16, [], [], [], [], [], AD⟩
def metrics_Table_Check.H : H := .n
def metrics_Table_Check.O (k : Nat) : List (Orc (denR [.c false (.i .i64)])) := []
theorem metrics_Table_Check.go : goesTo Try.prog 37 := ⟨_, Try.func37, by kernel_rfl, rfl⟩
theorem metrics_Table_Check.ok (k : Nat) : SigOk Try.prog 37 (metrics_Table_Check.sig k) :=
  fn_p (G := metrics_Table_Check.G Try.prog) (c := cd Try.f37) (rs := [.tmp 4]) (args := [(false, y21), (false, (.i .i64))]) (l := [.c false (.i .i64)]) (fn := Try.f37) ⟨Try.func37, by kernel_rfl, by kernel_rfl, by kernel_rfl, le_of rfl, le_of rfl, TT_ok, AD_ok⟩ rfl metrics_Table_Check.E (fun k p hp => nomatch hp)
    (fun k i => (metrics_Table_Check.O k)[i]?) metrics_Table_Check.H (fun k x => metrics_Table_Check.f k x.1 x.2.1)
    (fun id o y h => by cases id <;> cases h)
    (fun k p hp => by rw [show pts (cd Try.f37) metrics_Table_Check.H = [] by kernel_rfl] at hp; nomatch hp)
    (fun k x => by kernel_rfl) k
/-! reglet/runes.Inside -/
def runes_Inside.f (k : Nat) (a0 : Int) : Option Bool := some (decide ((andI .u8 a0 (192 : Int)) = 128))
def runes_Inside.sig (k : Nat) : Sig := .p [(false, (.i .u8))] [.c false .b] fun x => runes_Inside.f k x.1
def runes_Inside.E (k : Nat) : List (Nat × Sig) := []
def runes_Inside.G (P : Program) : GI := ⟨P, TT, 6, 6, [], [], [], [], [], AD⟩
def runes_Inside.H : H := .n
def runes_Inside.O (k : Nat) : List (Orc (denR [.c false .b])) := []
theorem runes_Inside.go : goesTo Try.prog 54 := ⟨_, Try.func54, by kernel_rfl, rfl⟩
theorem runes_Inside.ok (k : Nat) : SigOk Try.prog 54 (runes_Inside.sig k) :=
  fn_p (G := runes_Inside.G Try.prog) (c := cd Try.f54) (rs := [.tmp 2]) (args := [(false, (.i .u8))]) (l := [.c false .b]) (fn := Try.f54) ⟨Try.func54, by kernel_rfl, by kernel_rfl, by kernel_rfl, le_of rfl, le_of rfl, TT_ok, AD_ok⟩ rfl runes_Inside.E (fun k p hp => nomatch hp)
    (fun k i => (runes_Inside.O k)[i]?) runes_Inside.H (fun k x => runes_Inside.f k x.1)
    (fun id o y h => by cases id <;> cases h)
    (fun k p hp => by rw [show pts (cd Try.f54) runes_Inside.H = [] by kernel_rfl] at hp; nomatch hp)
    (fun k x => by kernel_rfl) k
/-! reglet/runes.Boundary -/
mutual
def runes_Boundary.j0 : Nat → ByteArray → Int → Option Int
  | 0, _, _ => none
  | k + 1, s, at_ => if (decide (at_ < (s.size : Int))) = true then ((bAt s at_).bind fun e => (runes_Inside.f k e).bind fun r => if r = true then (some 21) else (some 0)) else (some 0)
end
def runes_Boundary.f (k : Nat) (a0 : ByteArray) (a1 : Int) : Option Int := if (decide (a1 < 0)) = true then (some 30) else (if (decide ((a0.size : Int) < a1)) = true then (some 30) else (runes_Boundary.j0 k a0 a1))
def runes_Boundary.sig (k : Nat) : Sig := .p [(false, .s), (false, (.i .i64))] [.c false (.i .i64)] fun x => runes_Boundary.f k x.1 x.2.1
def runes_Boundary.E (k : Nat) : List (Nat × Sig) := [(54, runes_Inside.sig k)]
def runes_Boundary.G (P : Program) : GI := ⟨P, TT, 23, 23, [], [], [], [], [], AD⟩
def runes_Boundary.H : H := .s .n (.j 0 .n .n)
abbrev runes_Boundary.j0_s : Sh := [(0, .v .s), (1, .v (.i .i64))]
def runes_Boundary.O (k : Nat) : List (Orc (denR [.c false (.i .i64)])) := [⟨runes_Boundary.j0_s, fun y => runes_Boundary.j0 k y.1 y.2.1⟩]
theorem runes_Boundary.j0_e (k : Nat) (y : denS runes_Boundary.j0_s) : runes_Boundary.j0 (k + 1) y.1 y.2.1 = evP ((runes_Boundary.G Try.prog).at (runes_Boundary.E k)) (fun i => (runes_Boundary.O k)[i]?) [1, 1] (cd Try.f38) runes_Boundary.H (kFin ((runes_Boundary.G Try.prog).at (runes_Boundary.E k)) [.tmp 4] [.c false (.i .i64)]) (unS runes_Boundary.j0_s y) := by rw [runes_Boundary.j0]; kernel_rfl
theorem runes_Boundary.go : goesTo Try.prog 38 := ⟨_, Try.func38, by kernel_rfl, rfl⟩
theorem runes_Boundary.ok (k : Nat) : SigOk Try.prog 38 (runes_Boundary.sig k) :=
  fn_p (G := runes_Boundary.G Try.prog) (c := cd Try.f38) (rs := [.tmp 4]) (args := [(false, .s), (false, (.i .i64))]) (l := [.c false (.i .i64)]) (fn := Try.f38) ⟨Try.func38, by kernel_rfl, by kernel_rfl, by kernel_rfl, le_of rfl, le_of rfl, TT_ok, AD_ok⟩ rfl runes_Boundary.E (fun k p hp => by
    simp only [runes_Boundary.E, List.mem_cons, List.not_mem_nil, or_false] at hp
    rcases hp with rfl
    · exact ⟨runes_Inside.ok k, runes_Inside.go⟩)
    (fun k i => (runes_Boundary.O k)[i]?) runes_Boundary.H (fun k x => runes_Boundary.f k x.1 x.2.1)
    (fun id o y h => by
    have h' := List.mem_of_getElem? h
    simp only [runes_Boundary.O, List.mem_cons, List.not_mem_nil, or_false] at h'
    rcases h' with rfl <;> rfl)
    (fun k p hp => by
    rw [show pts (cd Try.f38) runes_Boundary.H = [(0, [1, 1])] by kernel_rfl] at hp
    simp only [List.mem_cons, List.not_mem_nil, or_false] at hp
    rcases hp with rfl
    · exact ptOk_of rfl (runes_Boundary.j0_e k))
    (fun k x => by kernel_rfl) k
/-! reglet/items.Check -/
mutual
def items_Check.j0 : Nat → (List (Int × Int × Int × Int × Int × Int × List api_Range × Bool)) → ByteArray → (List api_Run) → Option Int
  | 0, _, _, _ => none
  | k + 1, t, t2, t3 => items_Check.l1 k t t2 0 t3 (t3.length : Int) 0
def items_Check.l1 : Nat → (List (Int × Int × Int × Int × Int × Int × List api_Range × Bool)) → ByteArray → Int → (List api_Run) → Int → Int → Option Int
  | 0, _, _, _, _, _, _ => none
  | k + 1, t4, t5, t6, t7, t8, t9 => if (decide (t9 < t8)) = true then ((at? t7 t9).bind fun e2 => if (decide (e2.1 < 0)) = true then (some 70) else (if (decide ((wrap64 ((t5.size : Int) - t6)) < e2.1)) = true then (some 70) else (items_Check.j2 k t4 t5 t6 t7 t8 t9 e2))) else (if (!decide (t6 = (t5.size : Int))) = true then (some 70) else (some 0))
def items_Check.j2 : Nat → (List (Int × Int × Int × Int × Int × Int × List api_Range × Bool)) → ByteArray → Int → (List api_Run) → Int → Int → api_Run → Option Int
  | 0, _, _, _, _, _, _, _ => none
  | k + 1, t10, t11, t12, t13, t14, t15, t16 => (metrics_Table_Check.f k t10 t16.2).bind fun r3 => if (!decide (r3 = 0)) = true then (some r3) else ((runes_Boundary.f k t11 (wrap64 (t12 + t16.1))).bind fun r4 => if (!decide (r4 = 0)) = true then (some r4) else (items_Check.l1 k t10 t11 (wrap64 (t12 + t16.1)) t13 t14 (wrap64 (t15 + 1))))
end
def items_Check.f (k : Nat) (a0 : List (Int × Int × Int × Int × Int × Int × List api_Range × Bool)) (a1 : ByteArray) (a2 : List api_Run) : Option Int := (runes_Check.f k a1).bind fun r => if (!decide (r = 0)) = true then (some r) else ((runes_Lines.f k a1).bind fun r2 => if (decide (a1 = ByteArray.empty)) = true then (some 70) else (if (decide (1 < r2)) = true then (some 70) else (if (decide (r2 = 1)) = true then ((bAt a1 (wrap64 ((a1.size : Int) - 1))).bind fun e => if (!decide (e = 10)) = true then (some 70) else (items_Check.j0 k a0 a1 a2)) else (items_Check.j0 k a0 a1 a2))))
def items_Check.sig (k : Nat) : Sig := .p [(false, y21), (false, .s), (false, y22)] [.c false (.i .i64)] fun x => items_Check.f k x.1 x.2.1 x.2.2.1
def items_Check.E (k : Nat) : List (Nat × Sig) := [(35, runes_Check.sig k), (36, runes_Lines.sig k), (37, metrics_Table_Check.sig k), (38, runes_Boundary.sig k)]
def items_Check.G (P : Program) : GI := ⟨P, TT, 79, 81, [(11, 79, 2)], [], [], [], [], AD⟩
def items_Check.H : H := .s .n (.s .n (.j 0 .n (.s .n (.s (.s .n (.s (.l 1 (.s .n (.s .n (.s (.s (.s .n (.j 2 .n .n)) .n) .n)))) .n)) .n))))
abbrev items_Check.j0_s : Sh := [(0, .v y21), (1, .v .s), (2, .v y22)]
abbrev items_Check.l1_s : Sh := [(0, .v y21), (1, .v .s), (9, .v (.i .i64)), (39, .v y22), (40, .v (.i .i64)), (41, .v (.i .i64))]
abbrev items_Check.j2_s : Sh := [(0, .v y21), (1, .v .s), (9, .v (.i .i64)), (11, .at_ 79), (39, .v y22), (40, .v (.i .i64)), (41, .v (.i .i64)), (79, .box y0)]
def items_Check.O (k : Nat) : List (Orc (denR [.c false (.i .i64)])) := [⟨items_Check.j0_s, fun y => items_Check.j0 k y.1 y.2.1 y.2.2.1⟩, ⟨items_Check.l1_s, fun y => items_Check.l1 k y.1 y.2.1 y.2.2.1 y.2.2.2.1 y.2.2.2.2.1 y.2.2.2.2.2.1⟩, ⟨items_Check.j2_s, fun y => items_Check.j2 k y.1 y.2.1 y.2.2.1 y.2.2.2.2.1 y.2.2.2.2.2.1 y.2.2.2.2.2.2.1 y.2.2.2.2.2.2.2.1⟩]
theorem items_Check.j2_e (k : Nat) (y : denS items_Check.j2_s) : items_Check.j2 (k + 1) y.1 y.2.1 y.2.2.1 y.2.2.2.2.1 y.2.2.2.2.2.1 y.2.2.2.2.2.2.1 y.2.2.2.2.2.2.2.1 = evP ((items_Check.G Try.prog).at (items_Check.E k)) (fun i => (items_Check.O k)[i]?) [1, 1, 1, 1, 0, 1, 0, 0, 1, 1, 0, 0, 1, 1] (cd Try.f13) items_Check.H (kFin ((items_Check.G Try.prog).at (items_Check.E k)) [.tmp 6] [.c false (.i .i64)]) (unS items_Check.j2_s y) := by rw [items_Check.j2]; kernel_rfl
theorem items_Check.l1_e (k : Nat) (y : denS items_Check.l1_s) : items_Check.l1 (k + 1) y.1 y.2.1 y.2.2.1 y.2.2.2.1 y.2.2.2.2.1 y.2.2.2.2.2.1 = evP ((items_Check.G Try.prog).at (items_Check.E k)) (fun i => (items_Check.O k)[i]?) [1, 1, 1, 1, 0, 1, 0, 0] (cd Try.f13) items_Check.H (kFin ((items_Check.G Try.prog).at (items_Check.E k)) [.tmp 6] [.c false (.i .i64)]) (unS items_Check.l1_s y) := by rw [items_Check.l1]; kernel_rfl
theorem items_Check.j0_e (k : Nat) (y : denS items_Check.j0_s) : items_Check.j0 (k + 1) y.1 y.2.1 y.2.2.1 = evP ((items_Check.G Try.prog).at (items_Check.E k)) (fun i => (items_Check.O k)[i]?) [1, 1, 1] (cd Try.f13) items_Check.H (kFin ((items_Check.G Try.prog).at (items_Check.E k)) [.tmp 6] [.c false (.i .i64)]) (unS items_Check.j0_s y) := by rw [items_Check.j0]; kernel_rfl
theorem items_Check.go : goesTo Try.prog 13 := ⟨_, Try.func13, by kernel_rfl, rfl⟩
theorem items_Check.ok (k : Nat) : SigOk Try.prog 13 (items_Check.sig k) :=
  fn_p (G := items_Check.G Try.prog) (c := cd Try.f13) (rs := [.tmp 6]) (args := [(false, y21), (false, .s), (false, y22)]) (l := [.c false (.i .i64)]) (fn := Try.f13) ⟨Try.func13, by kernel_rfl, by kernel_rfl, by kernel_rfl, le_of rfl, le_of rfl, TT_ok, AD_ok⟩ rfl items_Check.E (fun k p hp => by
    simp only [items_Check.E, List.mem_cons, List.not_mem_nil, or_false] at hp
    rcases hp with rfl | rfl | rfl | rfl
    · exact ⟨runes_Check.ok k, runes_Check.go⟩
    · exact ⟨runes_Lines.ok k, runes_Lines.go⟩
    · exact ⟨metrics_Table_Check.ok k, metrics_Table_Check.go⟩
    · exact ⟨runes_Boundary.ok k, runes_Boundary.go⟩)
    (fun k i => (items_Check.O k)[i]?) items_Check.H (fun k x => items_Check.f k x.1 x.2.1 x.2.2.1)
    (fun id o y h => by
    have h' := List.mem_of_getElem? h
    simp only [items_Check.O, List.mem_cons, List.not_mem_nil, or_false] at h'
    rcases h' with rfl | rfl | rfl <;> rfl)
    (fun k p hp => by
    rw [show pts (cd Try.f13) items_Check.H = [(2, [1, 1, 1, 1, 0, 1, 0, 0, 1, 1, 0, 0, 1, 1]), (1, [1, 1, 1, 1, 0, 1, 0, 0]), (0, [1, 1, 1])] by kernel_rfl] at hp
    simp only [List.mem_cons, List.not_mem_nil, or_false] at hp
    rcases hp with rfl | rfl | rfl
    · exact ptOk_of rfl (items_Check.j2_e k)
    · exact ptOk_of rfl (items_Check.l1_e k)
    · exact ptOk_of rfl (items_Check.j0_e k))
    (fun k x => by kernel_rfl) k
/-! reglet/runes.First -/
mutual
def runes_First.l0 : Nat → Int → (ByteArray × Nat) → Option (Int × Int)
  | 0, _, _ => none
  | k + 1, n, t => if t.2 < t.1.size then (some (((Utf8.decode t.1 t.2).1 : Int), n)) else (some (0, 0))
end
def runes_First.f (k : Nat) (a0 : ByteArray) : Option (Int × Int) := (runes_size.f k a0 0).bind fun r => (sSub a0 0 r).bind fun v => runes_First.l0 k r (v, 0)
def runes_First.sig (k : Nat) : Sig := .p [(false, .s)] [.c false (.i .i32), .c false (.i .i64)] fun x => runes_First.f k x.1
def runes_First.E (k : Nat) : List (Nat × Sig) := [(44, runes_size.sig k)]
def runes_First.G (P : Program) : GI := ⟨P, TT, 18, 18, [], [], [], [], [], AD⟩
def runes_First.H : H := .s .n (.s .n (.s (.s .n (.s (.l 0 .n) .n)) .n))
abbrev runes_First.l0_s : Sh := [(4, .v (.i .i64)), (12, .it)]
def runes_First.O (k : Nat) : List (Orc (denR [.c false (.i .i32), .c false (.i .i64)])) := [⟨runes_First.l0_s, fun y => runes_First.l0 k y.1 y.2.1⟩]
theorem runes_First.l0_e (k : Nat) (y : denS runes_First.l0_s) : runes_First.l0 (k + 1) y.1 y.2.1 = evP ((runes_First.G Try.prog).at (runes_First.E k)) (fun i => (runes_First.O k)[i]?) [1, 1, 0, 1, 0, 0] (cd Try.f26) runes_First.H (kFin ((runes_First.G Try.prog).at (runes_First.E k)) [.tmp 2, .tmp 3] [.c false (.i .i32), .c false (.i .i64)]) (unS runes_First.l0_s y) := by rw [runes_First.l0]; kernel_rfl
theorem runes_First.go : goesTo Try.prog 26 := ⟨_, Try.func26, by kernel_rfl, rfl⟩
theorem runes_First.ok (k : Nat) : SigOk Try.prog 26 (runes_First.sig k) :=
  fn_p (G := runes_First.G Try.prog) (c := cd Try.f26) (rs := [.tmp 2, .tmp 3]) (args := [(false, .s)]) (l := [.c false (.i .i32), .c false (.i .i64)]) (fn := Try.f26) ⟨Try.func26, by kernel_rfl, by kernel_rfl, by kernel_rfl, le_of rfl, le_of rfl, TT_ok, AD_ok⟩ rfl runes_First.E (fun k p hp => by
    simp only [runes_First.E, List.mem_cons, List.not_mem_nil, or_false] at hp
    rcases hp with rfl
    · exact ⟨runes_size.ok k, runes_size.go⟩)
    (fun k i => (runes_First.O k)[i]?) runes_First.H (fun k x => runes_First.f k x.1)
    (fun id o y h => by
    have h' := List.mem_of_getElem? h
    simp only [runes_First.O, List.mem_cons, List.not_mem_nil, or_false] at h'
    rcases h' with rfl <;> rfl)
    (fun k p hp => by
    rw [show pts (cd Try.f26) runes_First.H = [(0, [1, 1, 0, 1, 0, 0])] by kernel_rfl] at hp
    simp only [List.mem_cons, List.not_mem_nil, or_false] at hp
    rcases hp with rfl
    · exact ptOk_of rfl (runes_First.l0_e k))
    (fun k x => by kernel_rfl) k
/-! (*reglet/items.builder).put -/
def items_builder_put.f (k : Nat) (a0 : (List (Int × Int × Int × Int × Int × Int × List api_Range × Bool)) × List api_Item × Int × Bool) (a1 : api_Item) : Option (((List (Int × Int × Int × Int × Int × Int × List api_Range × Bool)) × List api_Item × Int × Bool)) := if (a0.2.1.length + ([a1] : List api_Item).length) * 72 ≤ 140737488355328 then (some (a0.1, a0.2.1 ++ ([a1] : List api_Item), a0.2.2.1, (false))) else none
def items_builder_put.sig (k : Nat) : Sig := .l y43 [(true, y29)] [] fun b x => items_builder_put.f k b x.1
def items_builder_put.E (k : Nat) : List (Nat × Sig) := []
def items_builder_put.G (P : Program) : GI := ⟨P, TT, 17, 30, [(0, 17, 4), (3, 21, 9)], [0], [], [], [], AD⟩
def items_builder_put.H : H := .n
def items_builder_put.O (k : Nat) : List (Orc (denR ([] ++ [.c true y43]))) := []
theorem items_builder_put.go : goesTo Try.prog 45 := ⟨_, Try.func45, by kernel_rfl, rfl⟩
theorem items_builder_put.ok (k : Nat) : SigOk Try.prog 45 (items_builder_put.sig k) :=
  fn_l (G := items_builder_put.G Try.prog) (c := cd Try.f45) (rs := []) (args := [(true, y29)]) (l := []) (fn := Try.f45) ⟨Try.func45, by kernel_rfl, by kernel_rfl, by kernel_rfl, le_of rfl, le_of rfl, TT_ok, AD_ok⟩ rfl items_builder_put.E (fun k p hp => nomatch hp)
    (fun k i => (items_builder_put.O k)[i]?) items_builder_put.H (fun k b x => items_builder_put.f k b x.1)
    (fun id o y h => by cases id <;> cases h)
    (fun k p hp => by rw [show pts (cd Try.f45) items_builder_put.H = [] by kernel_rfl] at hp; nomatch hp)
    (fun k b x => by kernel_rfl) k
/-! (*reglet/items.builder).end -/
def items_builder_end.f (k : Nat) (a0 : (List (Int × Int × Int × Int × Int × Int × List api_Range × Bool)) × List api_Item × Int × Bool) (a1 : Int) (a2 : Int) : Option (((List (Int × Int × Int × Int × Int × Int × List api_Range × Bool)) × List api_Item × Int × Bool)) := (items_builder_put.f k a0 (2, 0, 0, 0, (true), 0, (false), a1, a1)).bind fun r => (items_builder_put.f k r (3, 0, 0, 0, (false), (-10000), (false), a1, a2)).bind fun r2 => some r2
def items_builder_end.sig (k : Nat) : Sig := .l y43 [(false, (.i .i64)), (false, (.i .i64))] [] fun b x => items_builder_end.f k b x.1 x.2.1
def items_builder_end.E (k : Nat) : List (Nat × Sig) := [(45, items_builder_put.sig k)]
def items_builder_end.G (P : Program) : GI := ⟨P, TT, 16, 20, [(0, 16, 4)], [0], [], [], [], AD⟩
def items_builder_end.H : H := .n
def items_builder_end.O (k : Nat) : List (Orc (denR ([] ++ [.c true y43]))) := []
theorem items_builder_end.go : goesTo Try.prog 28 := ⟨_, Try.func28, by kernel_rfl, rfl⟩
theorem items_builder_end.ok (k : Nat) : SigOk Try.prog 28 (items_builder_end.sig k) :=
  fn_l (G := items_builder_end.G Try.prog) (c := cd Try.f28) (rs := []) (args := [(false, (.i .i64)), (false, (.i .i64))]) (l := []) (fn := Try.f28) ⟨Try.func28, by kernel_rfl, by kernel_rfl, by kernel_rfl, le_of rfl, le_of rfl, TT_ok, AD_ok⟩ rfl items_builder_end.E (fun k p hp => by
    simp only [items_builder_end.E, List.mem_cons, List.not_mem_nil, or_false] at hp
    rcases hp with rfl
    · exact ⟨items_builder_put.ok k, items_builder_put.go⟩)
    (fun k i => (items_builder_end.O k)[i]?) items_builder_end.H (fun k b x => items_builder_end.f k b x.1 x.2.1)
    (fun id o y h => by cases id <;> cases h)
    (fun k p hp => by rw [show pts (cd Try.f28) items_builder_end.H = [] by kernel_rfl] at hp; nomatch hp)
    (fun k b x => by kernel_rfl) k
/-! (*reglet/metrics.Table).of -/
def metrics_Table_of.f (k : Nat) (a0 : List (Int × Int × Int × Int × Int × Int × List api_Range × Bool)) (a1 : Int) : Option ((Int × Int × Int × Int × Int × Int × List api_Range × Bool)) := (metrics_Table_Check.f k a0 a1).bind fun r => if (!decide (r = 0)) = true then (some (0, 0, 0, 0, 0, 0, ([] : List api_Range), (false))) else ((at? a0 a1).bind fun e => some e)
def metrics_Table_of.sig (k : Nat) : Sig := .p [(false, y39), (false, (.i .i64))] [.c true y37] fun x => metrics_Table_of.f k x.1 x.2.1
def metrics_Table_of.E (k : Nat) : List (Nat × Sig) := [(37, metrics_Table_Check.sig k)]
def metrics_Table_of.G (P : Program) : GI := ⟨P, TT, 17, 25, [(4, 17, 8)], [], [], [], [], AD⟩
def metrics_Table_of.H : H := .n
def metrics_Table_of.O (k : Nat) : List (Orc (denR [.c true y37])) := []
theorem metrics_Table_of.go : goesTo Try.prog 61 := ⟨_, Try.func61, by kernel_rfl, rfl⟩
theorem metrics_Table_of.ok (k : Nat) : SigOk Try.prog 61 (metrics_Table_of.sig k) :=
  fn_p (G := metrics_Table_of.G Try.prog) (c := cd Try.f61) (rs := [.cell 4 53]) (args := [(false, y39), (false, (.i .i64))]) (l := [.c true y37]) (fn := Try.f61) ⟨Try.func61, by kernel_rfl, by kernel_rfl, by kernel_rfl, le_of rfl, le_of rfl, TT_ok, AD_ok⟩ rfl metrics_Table_of.E (fun k p hp => by
    simp only [metrics_Table_of.E, List.mem_cons, List.not_mem_nil, or_false] at hp
    rcases hp with rfl
    · exact ⟨metrics_Table_Check.ok k, metrics_Table_Check.go⟩)
    (fun k i => (metrics_Table_of.O k)[i]?) metrics_Table_of.H (fun k x => metrics_Table_of.f k x.1 x.2.1)
    (fun id o y h => by cases id <;> cases h)
    (fun k p hp => by rw [show pts (cd Try.f61) metrics_Table_of.H = [] by kernel_rfl] at hp; nomatch hp)
    (fun k x => by kernel_rfl) k
/-! (*reglet/metrics.Table).Space -/
def metrics_Table_Space.f (k : Nat) (a0 : List (Int × Int × Int × Int × Int × Int × List api_Range × Bool)) (a1 : Int) : Option (Int × Int × Int) := (metrics_Table_of.f k a0 a1).bind fun r => some (r.2.1, r.2.2.1, r.2.2.2.1)
def metrics_Table_Space.sig (k : Nat) : Sig := .p [(false, y39), (false, (.i .i64))] [.c false (.i .i64), .c false (.i .i64), .c false (.i .i64)] fun x => metrics_Table_Space.f k x.1 x.2.1
def metrics_Table_Space.E (k : Nat) : List (Nat × Sig) := [(61, metrics_Table_of.sig k)]
def metrics_Table_Space.G (P : Program) : GI := ⟨P, TT, 17, 25, [(7, 17, 8)], [], [], [], [], AD⟩
def metrics_Table_Space.H : H := .n
def metrics_Table_Space.O (k : Nat) : List (Orc (denR [.c false (.i .i64), .c false (.i .i64), .c false (.i .i64)])) := []
theorem metrics_Table_Space.go : goesTo Try.prog 46 := ⟨_, Try.func46, by kernel_rfl, rfl⟩
theorem metrics_Table_Space.ok (k : Nat) : SigOk Try.prog 46 (metrics_Table_Space.sig k) :=
  fn_p (G := metrics_Table_Space.G Try.prog) (c := cd Try.f46) (rs := [.tmp 4, .tmp 5, .tmp 6]) (args := [(false, y39), (false, (.i .i64))]) (l := [.c false (.i .i64), .c false (.i .i64), .c false (.i .i64)]) (fn := Try.f46) ⟨Try.func46, by kernel_rfl, by kernel_rfl, by kernel_rfl, le_of rfl, le_of rfl, TT_ok, AD_ok⟩ rfl metrics_Table_Space.E (fun k p hp => by
    simp only [metrics_Table_Space.E, List.mem_cons, List.not_mem_nil, or_false] at hp
    rcases hp with rfl
    · exact ⟨metrics_Table_of.ok k, metrics_Table_of.go⟩)
    (fun k i => (metrics_Table_Space.O k)[i]?) metrics_Table_Space.H (fun k x => metrics_Table_Space.f k x.1 x.2.1)
    (fun id o y h => by cases id <;> cases h)
    (fun k p hp => by rw [show pts (cd Try.f46) metrics_Table_Space.H = [] by kernel_rfl] at hp; nomatch hp)
    (fun k x => by kernel_rfl) k
/-! (*reglet/metrics.Table).Hyphen -/
def metrics_Table_Hyphen.f (k : Nat) (a0 : List (Int × Int × Int × Int × Int × Int × List api_Range × Bool)) (a1 : Int) : Option Int := (metrics_Table_of.f k a0 a1).bind fun r => some r.2.2.2.2.1
def metrics_Table_Hyphen.sig (k : Nat) : Sig := .p [(false, y39), (false, (.i .i64))] [.c false (.i .i64)] fun x => metrics_Table_Hyphen.f k x.1 x.2.1
def metrics_Table_Hyphen.E (k : Nat) : List (Nat × Sig) := [(61, metrics_Table_of.sig k)]
def metrics_Table_Hyphen.G (P : Program) : GI := ⟨P, TT, 9, 9, [], [], [], [], [], AD⟩
def metrics_Table_Hyphen.H : H := .n
def metrics_Table_Hyphen.O (k : Nat) : List (Orc (denR [.c false (.i .i64)])) := []
theorem metrics_Table_Hyphen.go : goesTo Try.prog 47 := ⟨_, Try.func47, by kernel_rfl, rfl⟩
theorem metrics_Table_Hyphen.ok (k : Nat) : SigOk Try.prog 47 (metrics_Table_Hyphen.sig k) :=
  fn_p (G := metrics_Table_Hyphen.G Try.prog) (c := cd Try.f47) (rs := [.tmp 4]) (args := [(false, y39), (false, (.i .i64))]) (l := [.c false (.i .i64)]) (fn := Try.f47) ⟨Try.func47, by kernel_rfl, by kernel_rfl, by kernel_rfl, le_of rfl, le_of rfl, TT_ok, AD_ok⟩ rfl metrics_Table_Hyphen.E (fun k p hp => by
    simp only [metrics_Table_Hyphen.E, List.mem_cons, List.not_mem_nil, or_false] at hp
    rcases hp with rfl
    · exact ⟨metrics_Table_of.ok k, metrics_Table_of.go⟩)
    (fun k i => (metrics_Table_Hyphen.O k)[i]?) metrics_Table_Hyphen.H (fun k x => metrics_Table_Hyphen.f k x.1 x.2.1)
    (fun id o y h => by cases id <;> cases h)
    (fun k p hp => by rw [show pts (cd Try.f47) metrics_Table_Hyphen.H = [] by kernel_rfl] at hp; nomatch hp)
    (fun k x => by kernel_rfl) k
/-! reglet/scaled.Clamp -/
def scaled_Clamp.f (k : Nat) (a0 : Int) : Option Int := some (if (-1152921504606846976) < (if a0 < 1152921504606846976 then a0 else 1152921504606846976) then (if a0 < 1152921504606846976 then a0 else 1152921504606846976) else (-1152921504606846976))
def scaled_Clamp.sig (k : Nat) : Sig := .p [(false, (.i .i64))] [.c false (.i .i64)] fun x => scaled_Clamp.f k x.1
def scaled_Clamp.E (k : Nat) : List (Nat × Sig) := []
def scaled_Clamp.G (P : Program) : GI := ⟨P, TT, 6, 6, [], [], [], [], [], AD⟩
def scaled_Clamp.H : H := .n
def scaled_Clamp.O (k : Nat) : List (Orc (denR [.c false (.i .i64)])) := []
theorem scaled_Clamp.go : goesTo Try.prog 65 := ⟨_, Try.func65, by kernel_rfl, rfl⟩
theorem scaled_Clamp.ok (k : Nat) : SigOk Try.prog 65 (scaled_Clamp.sig k) :=
  fn_p (G := scaled_Clamp.G Try.prog) (c := cd Try.f65) (rs := [.tmp 2]) (args := [(false, (.i .i64))]) (l := [.c false (.i .i64)]) (fn := Try.f65) ⟨Try.func65, by kernel_rfl, by kernel_rfl, by kernel_rfl, le_of rfl, le_of rfl, TT_ok, AD_ok⟩ rfl scaled_Clamp.E (fun k p hp => nomatch hp)
    (fun k i => (scaled_Clamp.O k)[i]?) scaled_Clamp.H (fun k x => scaled_Clamp.f k x.1)
    (fun id o y h => by cases id <;> cases h)
    (fun k p hp => by rw [show pts (cd Try.f65) scaled_Clamp.H = [] by kernel_rfl] at hp; nomatch hp)
    (fun k x => by kernel_rfl) k
/-! reglet/scaled.Add -/
def scaled_Add.f (k : Nat) (a0 : Int) (a1 : Int) : Option Int := (scaled_Clamp.f k a0).bind fun r => (scaled_Clamp.f k a1).bind fun r2 => (scaled_Clamp.f k (wrap64 (r + r2))).bind fun r3 => some r3
def scaled_Add.sig (k : Nat) : Sig := .p [(false, (.i .i64)), (false, (.i .i64))] [.c false (.i .i64)] fun x => scaled_Add.f k x.1 x.2.1
def scaled_Add.E (k : Nat) : List (Nat × Sig) := [(65, scaled_Clamp.sig k)]
def scaled_Add.G (P : Program) : GI := ⟨P, TT, 11, 11, [], [], [], [], [], AD⟩
def scaled_Add.H : H := .n
def scaled_Add.O (k : Nat) : List (Orc (denR [.c false (.i .i64)])) := []
theorem scaled_Add.go : goesTo Try.prog 62 := ⟨_, Try.func62, by kernel_rfl, rfl⟩
theorem scaled_Add.ok (k : Nat) : SigOk Try.prog 62 (scaled_Add.sig k) :=
  fn_p (G := scaled_Add.G Try.prog) (c := cd Try.f62) (rs := [.tmp 4]) (args := [(false, (.i .i64)), (false, (.i .i64))]) (l := [.c false (.i .i64)]) (fn := Try.f62) ⟨Try.func62, by kernel_rfl, by kernel_rfl, by kernel_rfl, le_of rfl, le_of rfl, TT_ok, AD_ok⟩ rfl scaled_Add.E (fun k p hp => by
    simp only [scaled_Add.E, List.mem_cons, List.not_mem_nil, or_false] at hp
    rcases hp with rfl
    · exact ⟨scaled_Clamp.ok k, scaled_Clamp.go⟩)
    (fun k i => (scaled_Add.O k)[i]?) scaled_Add.H (fun k x => scaled_Add.f k x.1 x.2.1)
    (fun id o y h => by cases id <;> cases h)
    (fun k p hp => by rw [show pts (cd Try.f62) scaled_Add.H = [] by kernel_rfl] at hp; nomatch hp)
    (fun k x => by kernel_rfl) k
/-! (*reglet/items.builder).box -/
mutual
def items_builder_box.j0 : Nat → Int → Int → ((List (Int × Int × Int × Int × Int × Int × List api_Range × Bool)) × List api_Item × Int × Bool) → Option (((List (Int × Int × Int × Int × Int × Int × List api_Range × Bool)) × List api_Item × Int × Bool))
  | 0, _, _, _ => none
  | k + 1, t, t2, t3 => if 0 ≤ t2 ∧ t2 < (t3.2.1.length : Int) then ((t3.2.1[t2.toNat]?).bind fun e3 => some (t3.1, t3.2.1.set t2.toNat (e3.1, e3.2.1, e3.2.2.1, e3.2.2.2.1, e3.2.2.2.2.1, e3.2.2.2.2.2.1, e3.2.2.2.2.2.2.1, e3.2.2.2.2.2.2.2.1, t), t3.2.2.1, t3.2.2.2)) else none
def items_builder_box.j1 : Nat → Int → Int → Int → Int → ((List (Int × Int × Int × Int × Int × Int × List api_Range × Bool)) × List api_Item × Int × Bool) → Option (((List (Int × Int × Int × Int × Int × Int × List api_Range × Bool)) × List api_Item × Int × Bool))
  | 0, _, _, _, _, _ => none
  | k + 1, t4, t5, t6, t7, t8 => (items_builder_put.f k t8 (1, t4, 0, 0, (false), 0, (false), t6, t7)).bind fun r2 => some (r2.1, r2.2.1, t5, (true))
end
def items_builder_box.f (k : Nat) (a0 : (List (Int × Int × Int × Int × Int × Int × List api_Range × Bool)) × List api_Item × Int × Bool) (a1 : Int) (a2 : Int) (a3 : Int) (a4 : Int) : Option (((List (Int × Int × Int × Int × Int × Int × List api_Range × Bool)) × List api_Item × Int × Bool)) := if a0.2.2.2 = true then (if (decide (a0.2.2.1 = a2)) = true then (if 0 ≤ (wrap64 ((a0.2.1.length : Int) - 1)) ∧ (wrap64 ((a0.2.1.length : Int) - 1)) < (a0.2.1.length : Int) then ((a0.2.1[(wrap64 ((a0.2.1.length : Int) - 1)).toNat]?).bind fun e => (scaled_Add.f k e.2.1 a1).bind fun r => if 0 ≤ (wrap64 ((a0.2.1.length : Int) - 1)) ∧ (wrap64 ((a0.2.1.length : Int) - 1)) < (a0.2.1.length : Int) then ((a0.2.1[(wrap64 ((a0.2.1.length : Int) - 1)).toNat]?).bind fun e2 => items_builder_box.j0 k a4 (wrap64 ((a0.2.1.length : Int) - 1)) (a0.1, a0.2.1.set ((wrap64 ((a0.2.1.length : Int) - 1)).toNat) (e2.1, r, e2.2.2.1, e2.2.2.2.1, e2.2.2.2.2.1, e2.2.2.2.2.2.1, e2.2.2.2.2.2.2.1, e2.2.2.2.2.2.2.2.1, e2.2.2.2.2.2.2.2.2), a0.2.2.1, a0.2.2.2)) else none) else none) else (items_builder_box.j1 k a1 a2 a3 a4 a0)) else (items_builder_box.j1 k a1 a2 a3 a4 a0)
def items_builder_box.sig (k : Nat) : Sig := .l y43 [(false, (.i .i64)), (false, (.i .i64)), (false, (.i .i64)), (false, (.i .i64))] [] fun b x => items_builder_box.f k b x.1 x.2.1 x.2.2.1 x.2.2.2.1
def items_builder_box.E (k : Nat) : List (Nat × Sig) := [(45, items_builder_put.sig k), (62, scaled_Add.sig k)]
def items_builder_box.G (P : Program) : GI := ⟨P, TT, 67, 71, [(0, 67, 4)], [0], [], [], [], AD⟩
def items_builder_box.H : H := .j 1 (.s .n (.s .n (.s (.j 0 .n .n) .n))) .n
abbrev items_builder_box.j0_s : Sh := [(0, .at_ 67), (4, .v (.i .i64)), (10, .v (.i .i64)), (67, .box y43)]
abbrev items_builder_box.j1_s : Sh := [(0, .at_ 67), (1, .v (.i .i64)), (2, .v (.i .i64)), (3, .v (.i .i64)), (4, .v (.i .i64)), (67, .box y43)]
def items_builder_box.O (k : Nat) : List (Orc (denR ([] ++ [.c true y43]))) := [⟨items_builder_box.j0_s, fun y => items_builder_box.j0 k y.2.1 y.2.2.1 y.2.2.2.1⟩, ⟨items_builder_box.j1_s, fun y => items_builder_box.j1 k y.2.1 y.2.2.1 y.2.2.2.1 y.2.2.2.2.1 y.2.2.2.2.2.1⟩]
theorem items_builder_box.j0_e (k : Nat) (y : denS items_builder_box.j0_s) : items_builder_box.j0 (k + 1) y.2.1 y.2.2.1 y.2.2.2.1 = evP ((items_builder_box.G Try.prog).at (items_builder_box.E k)) (fun i => (items_builder_box.O k)[i]?) [0, 1, 1, 0, 1] (cd Try.f48) items_builder_box.H (kFinL ((items_builder_box.G Try.prog).at (items_builder_box.E k)) y43 [] []) (unS items_builder_box.j0_s y) := by rw [items_builder_box.j0]; kernel_rfl
theorem items_builder_box.j1_e (k : Nat) (y : denS items_builder_box.j1_s) : items_builder_box.j1 (k + 1) y.2.1 y.2.2.1 y.2.2.2.1 y.2.2.2.2.1 y.2.2.2.2.2.1 = evP ((items_builder_box.G Try.prog).at (items_builder_box.E k)) (fun i => (items_builder_box.O k)[i]?) [1] (cd Try.f48) items_builder_box.H (kFinL ((items_builder_box.G Try.prog).at (items_builder_box.E k)) y43 [] []) (unS items_builder_box.j1_s y) := by rw [items_builder_box.j1]; kernel_rfl
theorem items_builder_box.go : goesTo Try.prog 48 := ⟨_, Try.func48, by kernel_rfl, rfl⟩
theorem items_builder_box.ok (k : Nat) : SigOk Try.prog 48 (items_builder_box.sig k) :=
  fn_l (G := items_builder_box.G Try.prog) (c := cd Try.f48) (rs := []) (args := [(false, (.i .i64)), (false, (.i .i64)), (false, (.i .i64)), (false, (.i .i64))]) (l := []) (fn := Try.f48) ⟨Try.func48, by kernel_rfl, by kernel_rfl, by kernel_rfl, le_of rfl, le_of rfl, TT_ok, AD_ok⟩ rfl items_builder_box.E (fun k p hp => by
    simp only [items_builder_box.E, List.mem_cons, List.not_mem_nil, or_false] at hp
    rcases hp with rfl | rfl
    · exact ⟨items_builder_put.ok k, items_builder_put.go⟩
    · exact ⟨scaled_Add.ok k, scaled_Add.go⟩)
    (fun k i => (items_builder_box.O k)[i]?) items_builder_box.H (fun k b x => items_builder_box.f k b x.1 x.2.1 x.2.2.1 x.2.2.2.1)
    (fun id o y h => by
    have h' := List.mem_of_getElem? h
    simp only [items_builder_box.O, List.mem_cons, List.not_mem_nil, or_false] at h'
    rcases h' with rfl | rfl <;> rfl)
    (fun k p hp => by
    rw [show pts (cd Try.f48) items_builder_box.H = [(0, [0, 1, 1, 0, 1]), (1, [1])] by kernel_rfl] at hp
    simp only [List.mem_cons, List.not_mem_nil, or_false] at hp
    rcases hp with rfl | rfl
    · exact ptOk_of rfl (items_builder_box.j0_e k)
    · exact ptOk_of rfl (items_builder_box.j1_e k))
    (fun k b x => by kernel_rfl) k
/-! reglet/metrics.lookup -/
mutual
def metrics_lookup.l0 : Nat → Int → Int → Int → (Int × Int × Int × Int × Int × Int × List api_Range × Bool) → Option Int
  | 0, _, _, _, _ => none
  | k + 1, r, low, high, s => if (decide (low < high)) = true then ((at? s.2.2.2.2.2.2.1 (wrap64 ((wrap64 (low + high)).tdiv 2))).bind fun e => if (decide (e.2.1 < r)) = true then (metrics_lookup.l0 k r (wrap64 ((wrap64 ((wrap64 (low + high)).tdiv 2)) + 1)) high s) else (metrics_lookup.l0 k r low (wrap64 ((wrap64 (low + high)).tdiv 2)) s)) else (if (decide (low < (s.2.2.2.2.2.2.1.length : Int))) = true then ((at? s.2.2.2.2.2.2.1 low).bind fun e2 => if (decide (e2.1 ≤ r)) = true then ((at? s.2.2.2.2.2.2.1 low).bind fun e3 => some e3.2.2) else (metrics_lookup.j1 k s)) else (metrics_lookup.j1 k s))
def metrics_lookup.j1 : Nat → (Int × Int × Int × Int × Int × Int × List api_Range × Bool) → Option Int
  | 0, _ => none
  | k + 1, s2 => some s2.2.2.2.2.2.1
end
def metrics_lookup.f (k : Nat) (a0 : Int × Int × Int × Int × Int × Int × List api_Range × Bool) (a1 : Int) : Option Int := metrics_lookup.l0 k a1 0 (a0.2.2.2.2.2.2.1.length : Int) a0
def metrics_lookup.sig (k : Nat) : Sig := .p [(true, y9), (false, (.i .i64))] [.c false (.i .i64)] fun x => metrics_lookup.f k x.1 x.2.1
def metrics_lookup.E (k : Nat) : List (Nat × Sig) := []
def metrics_lookup.G (P : Program) : GI := ⟨P, TT, 52, 60, [(2, 52, 8)], [], [], [], [], AD⟩
def metrics_lookup.H : H := .s .n (.s .n (.s (.s (.l 0 .n) .n) (.j 1 .n .n)))
abbrev metrics_lookup.l0_s : Sh := [(1, .v (.i .i64)), (2, .at_ 52), (5, .v (.i .i64)), (6, .v (.i .i64)), (52, .box y9)]
abbrev metrics_lookup.j1_s : Sh := [(2, .at_ 52), (52, .box y9)]
def metrics_lookup.O (k : Nat) : List (Orc (denR [.c false (.i .i64)])) := [⟨metrics_lookup.l0_s, fun y => metrics_lookup.l0 k y.1 y.2.2.1 y.2.2.2.1 y.2.2.2.2.1⟩, ⟨metrics_lookup.j1_s, fun y => metrics_lookup.j1 k y.2.1⟩]
theorem metrics_lookup.l0_e (k : Nat) (y : denS metrics_lookup.l0_s) : metrics_lookup.l0 (k + 1) y.1 y.2.2.1 y.2.2.2.1 y.2.2.2.2.1 = evP ((metrics_lookup.G Try.prog).at (metrics_lookup.E k)) (fun i => (metrics_lookup.O k)[i]?) [1, 1, 0, 0, 0] (cd Try.f63) metrics_lookup.H (kFin ((metrics_lookup.G Try.prog).at (metrics_lookup.E k)) [.tmp 4] [.c false (.i .i64)]) (unS metrics_lookup.l0_s y) := by rw [metrics_lookup.l0]; kernel_rfl
theorem metrics_lookup.j1_e (k : Nat) (y : denS metrics_lookup.j1_s) : metrics_lookup.j1 (k + 1) y.2.1 = evP ((metrics_lookup.G Try.prog).at (metrics_lookup.E k)) (fun i => (metrics_lookup.O k)[i]?) [1, 1, 1, 1] (cd Try.f63) metrics_lookup.H (kFin ((metrics_lookup.G Try.prog).at (metrics_lookup.E k)) [.tmp 4] [.c false (.i .i64)]) (unS metrics_lookup.j1_s y) := by rw [metrics_lookup.j1]; kernel_rfl
theorem metrics_lookup.go : goesTo Try.prog 63 := ⟨_, Try.func63, by kernel_rfl, rfl⟩
theorem metrics_lookup.ok (k : Nat) : SigOk Try.prog 63 (metrics_lookup.sig k) :=
  fn_p (G := metrics_lookup.G Try.prog) (c := cd Try.f63) (rs := [.tmp 4]) (args := [(true, y9), (false, (.i .i64))]) (l := [.c false (.i .i64)]) (fn := Try.f63) ⟨Try.func63, by kernel_rfl, by kernel_rfl, by kernel_rfl, le_of rfl, le_of rfl, TT_ok, AD_ok⟩ rfl metrics_lookup.E (fun k p hp => nomatch hp)
    (fun k i => (metrics_lookup.O k)[i]?) metrics_lookup.H (fun k x => metrics_lookup.f k x.1 x.2.1)
    (fun id o y h => by
    have h' := List.mem_of_getElem? h
    simp only [metrics_lookup.O, List.mem_cons, List.not_mem_nil, or_false] at h'
    rcases h' with rfl | rfl <;> rfl)
    (fun k p hp => by
    rw [show pts (cd Try.f63) metrics_lookup.H = [(0, [1, 1, 0, 0, 0]), (1, [1, 1, 1, 1])] by kernel_rfl] at hp
    simp only [List.mem_cons, List.not_mem_nil, or_false] at hp
    rcases hp with rfl | rfl
    · exact ptOk_of rfl (metrics_lookup.l0_e k)
    · exact ptOk_of rfl (metrics_lookup.j1_e k))
    (fun k x => by kernel_rfl) k
/-! (*reglet/metrics.Table).Width -/
mutual
def metrics_Table_Width.j0 : Nat → Int → Int → Bool → (Int × Int × Int × Int × Int × Int × List api_Range × Bool) → Option Int
  | 0, _, _, _, _ => none
  | k + 1, r3, t, t2, s => if t2 = true then (some s.2.1) else (if (decide (t = 3)) = true then (metrics_Table_Width.j1 k r3 true s) else (if (decide (t = 4)) = true then (metrics_Table_Width.j1 k r3 true s) else (if (decide (t = 5)) = true then (metrics_Table_Width.j1 k r3 true s) else (if (decide (t = 7)) = true then (metrics_Table_Width.j1 k r3 true s) else (metrics_Table_Width.j1 k r3 (decide (t = 8)) s)))))
def metrics_Table_Width.j1 : Nat → Int → Bool → (Int × Int × Int × Int × Int × Int × List api_Range × Bool) → Option Int
  | 0, _, _, _ => none
  | k + 1, r4, t3, s2 => if t3 = true then (some 0) else ((metrics_lookup.f k s2 (wrap64 (r4))).bind fun r5 => some r5)
end
def metrics_Table_Width.f (k : Nat) (a0 : List (Int × Int × Int × Int × Int × Int × List api_Range × Bool)) (a1 : Int) (a2 : Int) : Option Int := (metrics_Table_of.f k a0 a1).bind fun r => (runes_Kind.f k a2).bind fun r2 => if (decide (r2 = 1)) = true then (metrics_Table_Width.j0 k a2 r2 true r) else (metrics_Table_Width.j0 k a2 r2 (decide (r2 = 2)) r)
def metrics_Table_Width.sig (k : Nat) : Sig := .p [(false, y39), (false, (.i .i64)), (false, (.i .i32))] [.c false (.i .i64)] fun x => metrics_Table_Width.f k x.1 x.2.1 x.2.2.1
def metrics_Table_Width.E (k : Nat) : List (Nat × Sig) := [(27, runes_Kind.sig k), (61, metrics_Table_of.sig k), (63, metrics_lookup.sig k)]
def metrics_Table_Width.G (P : Program) : GI := ⟨P, TT, 28, 36, [(7, 28, 8)], [], [], [], [], AD⟩
def metrics_Table_Width.H : H := .s .n (.s .n (.s (.s .n (.s (.j 0 .n (.s .n (.j 1 .n .n))) .n)) .n))
abbrev metrics_Table_Width.j0_s : Sh := [(2, .v (.i .i32)), (7, .at_ 28), (12, .v (.i .i64)), (13, .v .b), (28, .box y37)]
abbrev metrics_Table_Width.j1_s : Sh := [(2, .v (.i .i32)), (7, .at_ 28), (18, .v .b), (28, .box y37)]
def metrics_Table_Width.O (k : Nat) : List (Orc (denR [.c false (.i .i64)])) := [⟨metrics_Table_Width.j0_s, fun y => metrics_Table_Width.j0 k y.1 y.2.2.1 y.2.2.2.1 y.2.2.2.2.1⟩, ⟨metrics_Table_Width.j1_s, fun y => metrics_Table_Width.j1 k y.1 y.2.2.1 y.2.2.2.1⟩]
theorem metrics_Table_Width.j1_e (k : Nat) (y : denS metrics_Table_Width.j1_s) : metrics_Table_Width.j1 (k + 1) y.1 y.2.2.1 y.2.2.2.1 = evP ((metrics_Table_Width.G Try.prog).at (metrics_Table_Width.E k)) (fun i => (metrics_Table_Width.O k)[i]?) [1, 1, 0, 1, 0, 1, 1, 1] (cd Try.f49) metrics_Table_Width.H (kFin ((metrics_Table_Width.G Try.prog).at (metrics_Table_Width.E k)) [.tmp 6] [.c false (.i .i64)]) (unS metrics_Table_Width.j1_s y) := by rw [metrics_Table_Width.j1]; kernel_rfl
theorem metrics_Table_Width.j0_e (k : Nat) (y : denS metrics_Table_Width.j0_s) : metrics_Table_Width.j0 (k + 1) y.1 y.2.2.1 y.2.2.2.1 y.2.2.2.2.1 = evP ((metrics_Table_Width.G Try.prog).at (metrics_Table_Width.E k)) (fun i => (metrics_Table_Width.O k)[i]?) [1, 1, 0, 1, 0, 1] (cd Try.f49) metrics_Table_Width.H (kFin ((metrics_Table_Width.G Try.prog).at (metrics_Table_Width.E k)) [.tmp 6] [.c false (.i .i64)]) (unS metrics_Table_Width.j0_s y) := by rw [metrics_Table_Width.j0]; kernel_rfl
theorem metrics_Table_Width.go : goesTo Try.prog 49 := ⟨_, Try.func49, by kernel_rfl, rfl⟩
theorem metrics_Table_Width.ok (k : Nat) : SigOk Try.prog 49 (metrics_Table_Width.sig k) :=
  fn_p (G := metrics_Table_Width.G Try.prog) (c := cd Try.f49) (rs := [.tmp 6]) (args := [(false, y39), (false, (.i .i64)), (false, (.i .i32))]) (l := [.c false (.i .i64)]) (fn := Try.f49) ⟨Try.func49, by kernel_rfl, by kernel_rfl, by kernel_rfl, le_of rfl, le_of rfl, TT_ok, AD_ok⟩ rfl metrics_Table_Width.E (fun k p hp => by
    simp only [metrics_Table_Width.E, List.mem_cons, List.not_mem_nil, or_false] at hp
    rcases hp with rfl | rfl | rfl
    · exact ⟨runes_Kind.ok k, runes_Kind.go⟩
    · exact ⟨metrics_Table_of.ok k, metrics_Table_of.go⟩
    · exact ⟨metrics_lookup.ok k, metrics_lookup.go⟩)
    (fun k i => (metrics_Table_Width.O k)[i]?) metrics_Table_Width.H (fun k x => metrics_Table_Width.f k x.1 x.2.1 x.2.2.1)
    (fun id o y h => by
    have h' := List.mem_of_getElem? h
    simp only [metrics_Table_Width.O, List.mem_cons, List.not_mem_nil, or_false] at h'
    rcases h' with rfl | rfl <;> rfl)
    (fun k p hp => by
    rw [show pts (cd Try.f49) metrics_Table_Width.H = [(1, [1, 1, 0, 1, 0, 1, 1, 1]), (0, [1, 1, 0, 1, 0, 1])] by kernel_rfl] at hp
    simp only [List.mem_cons, List.not_mem_nil, or_false] at hp
    rcases hp with rfl | rfl
    · exact ptOk_of rfl (metrics_Table_Width.j1_e k)
    · exact ptOk_of rfl (metrics_Table_Width.j0_e k))
    (fun k x => by kernel_rfl) k
/-! (*reglet/items.builder).rune -/
def items_builder_rune.f (k : Nat) (a0 : (List (Int × Int × Int × Int × Int × Int × List api_Range × Bool)) × List api_Item × Int × Bool) (a1 : Int) (a2 : Int) (a3 : Int) (a4 : Int) : Option (((List (Int × Int × Int × Int × Int × Int × List api_Range × Bool)) × List api_Item × Int × Bool)) := (runes_Kind.f k a1).bind fun r => if (decide (r = 1)) = true then ((metrics_Table_Space.f k a0.1 a2).bind fun r2 => (items_builder_put.f k a0 (2, r2.1, r2.2.1, r2.2.2, (false), 0, (false), a3, a4)).bind fun r3 => some r3) else (if (decide (r = 3)) = true then ((metrics_Table_Hyphen.f k a0.1 a2).bind fun r4 => (items_builder_put.f k a0 (3, r4, 0, 0, (false), 50, (true), a3, a4)).bind fun r5 => some r5) else (if (decide (r = 4)) = true then ((items_builder_put.f k a0 (3, 0, 0, 0, (false), 0, (false), a3, a4)).bind fun r6 => some r6) else (if (decide (r = 5)) = true then ((items_builder_put.f k a0 (3, 0, 0, 0, (false), 10000, (false), a3, a4)).bind fun r7 => some r7) else (if (decide (r = 7)) = true then ((items_builder_end.f k a0 a3 a4).bind fun r8 => some r8) else (if (decide (r = 6)) = true then ((metrics_Table_Width.f k a0.1 a2 a1).bind fun r9 => (items_builder_box.f k a0 r9 a2 a3 a4).bind fun r10 => (items_builder_put.f k r10 (3, 0, 0, 0, (false), 50, (true), a4, a4)).bind fun r11 => some r11) else ((metrics_Table_Width.f k a0.1 a2 a1).bind fun r12 => (items_builder_box.f k a0 r12 a2 a3 a4).bind fun r13 => some r13))))))
def items_builder_rune.sig (k : Nat) : Sig := .l y43 [(false, (.i .i32)), (false, (.i .i64)), (false, (.i .i64)), (false, (.i .i64))] [] fun b x => items_builder_rune.f k b x.1 x.2.1 x.2.2.1 x.2.2.2.1
def items_builder_rune.E (k : Nat) : List (Nat × Sig) := [(27, runes_Kind.sig k), (28, items_builder_end.sig k), (45, items_builder_put.sig k), (46, metrics_Table_Space.sig k), (47, metrics_Table_Hyphen.sig k), (48, items_builder_box.sig k), (49, metrics_Table_Width.sig k)]
def items_builder_rune.G (P : Program) : GI := ⟨P, TT, 99, 103, [(0, 99, 4)], [0], [], [], [], AD⟩
def items_builder_rune.H : H := .n
def items_builder_rune.O (k : Nat) : List (Orc (denR ([] ++ [.c true y43]))) := []
theorem items_builder_rune.go : goesTo Try.prog 29 := ⟨_, Try.func29, by kernel_rfl, rfl⟩
theorem items_builder_rune.ok (k : Nat) : SigOk Try.prog 29 (items_builder_rune.sig k) :=
  fn_l (G := items_builder_rune.G Try.prog) (c := cd Try.f29) (rs := []) (args := [(false, (.i .i32)), (false, (.i .i64)), (false, (.i .i64)), (false, (.i .i64))]) (l := []) (fn := Try.f29) ⟨Try.func29, by kernel_rfl, by kernel_rfl, by kernel_rfl, le_of rfl, le_of rfl, TT_ok, AD_ok⟩ rfl items_builder_rune.E (fun k p hp => by
    simp only [items_builder_rune.E, List.mem_cons, List.not_mem_nil, or_false] at hp
    rcases hp with rfl | rfl | rfl | rfl | rfl | rfl | rfl
    · exact ⟨runes_Kind.ok k, runes_Kind.go⟩
    · exact ⟨items_builder_end.ok k, items_builder_end.go⟩
    · exact ⟨items_builder_put.ok k, items_builder_put.go⟩
    · exact ⟨metrics_Table_Space.ok k, metrics_Table_Space.go⟩
    · exact ⟨metrics_Table_Hyphen.ok k, metrics_Table_Hyphen.go⟩
    · exact ⟨items_builder_box.ok k, items_builder_box.go⟩
    · exact ⟨metrics_Table_Width.ok k, metrics_Table_Width.go⟩)
    (fun k i => (items_builder_rune.O k)[i]?) items_builder_rune.H (fun k b x => items_builder_rune.f k b x.1 x.2.1 x.2.2.1 x.2.2.2.1)
    (fun id o y h => by cases id <;> cases h)
    (fun k p hp => by rw [show pts (cd Try.f29) items_builder_rune.H = [] by kernel_rfl] at hp; nomatch hp)
    (fun k b x => by kernel_rfl) k
/-! reglet/items.Build -/
mutual
def items_Build.l0 : Nat → ByteArray → (List api_Run) → Int → Int → Int → (ByteArray × Nat) → ((List (Int × Int × Int × Int × Int × Int × List api_Range × Bool)) × List api_Item × Int × Bool) → Option (List api_Item × Int)
  | 0, _, _, _, _, _, _, _ => none
  | k + 1, t, t2, t3, t4, t5, t6, t7 => if t6.2 < t6.1.size then (items_Build.l1 k t t2 t4 t5 (t6.2 : Int) ((Utf8.decode t6.1 t6.2).1 : Int) (t6.1, (t6.2 + (Utf8.decode t6.1 t6.2).2)) t7) else ((items_builder_end.f k t7 t3 t3).bind fun r2 => some (r2.2.1, 0))
def items_Build.l1 : Nat → ByteArray → (List api_Run) → Int → Int → Int → Int → (ByteArray × Nat) → ((List (Int × Int × Int × Int × Int × Int × List api_Range × Bool)) × List api_Item × Int × Bool) → Option (List api_Item × Int)
  | 0, _, _, _, _, _, _, _, _ => none
  | k + 1, t8, t9, t10, t11, t12, t13, t14, t15 => if (decide (t11 = 0)) = true then ((at? t9 (wrap64 (t10 + 1))).bind fun e => items_Build.l1 k t8 t9 (wrap64 (t10 + 1)) e.1 t12 t13 (t14.1, t14.2) t15) else ((sSub t8 t12 (t8.size : Int)).bind fun v => (runes_First.f k v).bind fun r3 => if (decide (0 < r3.2)) = true then (items_Build.j2 k t8 t9 t10 t11 t12 t13 (wrap64 (t12 + r3.2)) (t14.1, t14.2) t15) else (items_Build.j2 k t8 t9 t10 t11 t12 t13 (t8.size : Int) (t14.1, t14.2) t15))
def items_Build.j2 : Nat → ByteArray → (List api_Run) → Int → Int → Int → Int → Int → (ByteArray × Nat) → ((List (Int × Int × Int × Int × Int × Int × List api_Range × Bool)) × List api_Item × Int × Bool) → Option (List api_Item × Int)
  | 0, _, _, _, _, _, _, _, _, _ => none
  | k + 1, t16, t17, t18, t19, t20, t21, t22, t23, t24 => (runes_Kind.f k t21).bind fun r4 => if (decide (r4 = 8)) = true then ((items_builder_end.f k t24 t20 t22).bind fun r5 => some (r5.2.1, 0)) else ((at? t17 t18).bind fun e2 => (items_builder_rune.f k t24 t21 e2.2 t20 t22).bind fun r6 => items_Build.l0 k t16 t17 t22 t18 (wrap64 (t19 - (wrap64 (t22 - t20)))) (t23.1, t23.2) r6)
end
def items_Build.f (k : Nat) (a0 : List (Int × Int × Int × Int × Int × Int × List api_Range × Bool)) (a1 : ByteArray) (a2 : List api_Run) : Option (List api_Item × Int) := (items_Check.f k a0 a1 a2).bind fun r => if (!decide (r = 0)) = true then (some (([] : List api_Item), r)) else (items_Build.l0 k a1 a2 0 (-1) 0 (a1, 0) (a0, ([] : List api_Item), 0, (false)))
def items_Build.sig (k : Nat) : Sig := .p [(false, y39), (false, .s), (false, y44)] [.c false y40, .c false (.i .i64)] fun x => items_Build.f k x.1 x.2.1 x.2.2.1
def items_Build.E (k : Nat) : List (Nat × Sig) := [(13, items_Check.sig k), (26, runes_First.sig k), (27, runes_Kind.sig k), (28, items_builder_end.sig k), (29, items_builder_rune.sig k)]
def items_Build.G (P : Program) : GI := ⟨P, TT, 92, 96, [(27, 92, 4)], [], [6], [], [], AD⟩
def items_Build.H : H := .s .n (.s .n (.s .n (.s .n (.s (.s .n (.s (.l 0 (.s .n (.s .n (.s (.s .n (.s (.s (.l 1 .n) .n) (.s .n (.j 2 .n .n)))) .n)))) .n)) .n))))
abbrev items_Build.l0_s : Sh := [(1, .v .s), (2, .v y44), (9, .at_ 92), (10, .v (.i .i64)), (11, .v (.i .i64)), (12, .v (.i .i64)), (29, .it), (92, .box y43)]
abbrev items_Build.l1_s : Sh := [(1, .v .s), (2, .v y44), (9, .at_ 92), (11, .v (.i .i64)), (12, .v (.i .i64)), (13, .v (.i .i64)), (14, .v (.i .i32)), (29, .it), (92, .box y43)]
abbrev items_Build.j2_s : Sh := [(1, .v .s), (2, .v y44), (9, .at_ 92), (11, .v (.i .i64)), (12, .v (.i .i64)), (13, .v (.i .i64)), (14, .v (.i .i32)), (15, .v (.i .i64)), (29, .it), (92, .box y43)]
def items_Build.O (k : Nat) : List (Orc (denR [.c false y40, .c false (.i .i64)])) := [⟨items_Build.l0_s, fun y => items_Build.l0 k y.1 y.2.1 y.2.2.2.1 y.2.2.2.2.1 y.2.2.2.2.2.1 y.2.2.2.2.2.2.1 y.2.2.2.2.2.2.2.1⟩, ⟨items_Build.l1_s, fun y => items_Build.l1 k y.1 y.2.1 y.2.2.2.1 y.2.2.2.2.1 y.2.2.2.2.2.1 y.2.2.2.2.2.2.1 y.2.2.2.2.2.2.2.1 y.2.2.2.2.2.2.2.2.1⟩, ⟨items_Build.j2_s, fun y => items_Build.j2 k y.1 y.2.1 y.2.2.2.1 y.2.2.2.2.1 y.2.2.2.2.2.1 y.2.2.2.2.2.2.1 y.2.2.2.2.2.2.2.1 y.2.2.2.2.2.2.2.2.1 y.2.2.2.2.2.2.2.2.2.1⟩]
theorem items_Build.l1_e (k : Nat) (y : denS items_Build.l1_s) : items_Build.l1 (k + 1) y.1 y.2.1 y.2.2.2.1 y.2.2.2.2.1 y.2.2.2.2.2.1 y.2.2.2.2.2.2.1 y.2.2.2.2.2.2.2.1 y.2.2.2.2.2.2.2.2.1 = evP ((items_Build.G Try.prog).at (items_Build.E k)) (fun i => (items_Build.O k)[i]?) [1, 1, 1, 1, 0, 1, 0, 0, 1, 1, 0, 1, 0, 0, 0] (cd Try.f11) items_Build.H (kFin ((items_Build.G Try.prog).at (items_Build.E k)) [.tmp 6, .tmp 7] [.c false y40, .c false (.i .i64)]) (unS items_Build.l1_s y) := by rw [items_Build.l1]; kernel_rfl
theorem items_Build.j2_e (k : Nat) (y : denS items_Build.j2_s) : items_Build.j2 (k + 1) y.1 y.2.1 y.2.2.2.1 y.2.2.2.2.1 y.2.2.2.2.2.1 y.2.2.2.2.2.2.1 y.2.2.2.2.2.2.2.1 y.2.2.2.2.2.2.2.2.1 y.2.2.2.2.2.2.2.2.2.1 = evP ((items_Build.G Try.prog).at (items_Build.E k)) (fun i => (items_Build.O k)[i]?) [1, 1, 1, 1, 0, 1, 0, 0, 1, 1, 0, 1, 1, 1, 1] (cd Try.f11) items_Build.H (kFin ((items_Build.G Try.prog).at (items_Build.E k)) [.tmp 6, .tmp 7] [.c false y40, .c false (.i .i64)]) (unS items_Build.j2_s y) := by rw [items_Build.j2]; kernel_rfl
theorem items_Build.l0_e (k : Nat) (y : denS items_Build.l0_s) : items_Build.l0 (k + 1) y.1 y.2.1 y.2.2.2.1 y.2.2.2.2.1 y.2.2.2.2.2.1 y.2.2.2.2.2.2.1 y.2.2.2.2.2.2.2.1 = evP ((items_Build.G Try.prog).at (items_Build.E k)) (fun i => (items_Build.O k)[i]?) [1, 1, 1, 1, 0, 1, 0, 0] (cd Try.f11) items_Build.H (kFin ((items_Build.G Try.prog).at (items_Build.E k)) [.tmp 6, .tmp 7] [.c false y40, .c false (.i .i64)]) (unS items_Build.l0_s y) := by rw [items_Build.l0]; kernel_rfl
theorem items_Build.go : goesTo Try.prog 11 := ⟨_, Try.func11, by kernel_rfl, rfl⟩
theorem items_Build.ok (k : Nat) : SigOk Try.prog 11 (items_Build.sig k) :=
  fn_p (G := items_Build.G Try.prog) (c := cd Try.f11) (rs := [.tmp 6, .tmp 7]) (args := [(false, y39), (false, .s), (false, y44)]) (l := [.c false y40, .c false (.i .i64)]) (fn := Try.f11) ⟨Try.func11, by kernel_rfl, by kernel_rfl, by kernel_rfl, le_of rfl, le_of rfl, TT_ok, AD_ok⟩ rfl items_Build.E (fun k p hp => by
    simp only [items_Build.E, List.mem_cons, List.not_mem_nil, or_false] at hp
    rcases hp with rfl | rfl | rfl | rfl | rfl
    · exact ⟨items_Check.ok k, items_Check.go⟩
    · exact ⟨runes_First.ok k, runes_First.go⟩
    · exact ⟨runes_Kind.ok k, runes_Kind.go⟩
    · exact ⟨items_builder_end.ok k, items_builder_end.go⟩
    · exact ⟨items_builder_rune.ok k, items_builder_rune.go⟩)
    (fun k i => (items_Build.O k)[i]?) items_Build.H (fun k x => items_Build.f k x.1 x.2.1 x.2.2.1)
    (fun id o y h => by
    have h' := List.mem_of_getElem? h
    simp only [items_Build.O, List.mem_cons, List.not_mem_nil, or_false] at h'
    rcases h' with rfl | rfl | rfl <;> rfl)
    (fun k p hp => by
    rw [show pts (cd Try.f11) items_Build.H = [(1, [1, 1, 1, 1, 0, 1, 0, 0, 1, 1, 0, 1, 0, 0, 0]), (2, [1, 1, 1, 1, 0, 1, 0, 0, 1, 1, 0, 1, 1, 1, 1]), (0, [1, 1, 1, 1, 0, 1, 0, 0])] by kernel_rfl] at hp
    simp only [List.mem_cons, List.not_mem_nil, or_false] at hp
    rcases hp with rfl | rfl | rfl
    · exact ptOk_of rfl (items_Build.l1_e k)
    · exact ptOk_of rfl (items_Build.j2_e k)
    · exact ptOk_of rfl (items_Build.l0_e k))
    (fun k x => by kernel_rfl) k
/-! reglet/items.Forced -/
def items_Forced.f (k : Nat) (a0 : api_Item) : Option Bool := if (decide (a0.1 = 3)) = true then (some (decide (a0.2.2.2.2.2.1 ≤ (-10000)))) else (some false)
def items_Forced.sig (k : Nat) : Sig := .p [(true, y29)] [.c false .b] fun x => items_Forced.f k x.1
def items_Forced.E (k : Nat) : List (Nat × Sig) := []
def items_Forced.G (P : Program) : GI := ⟨P, TT, 11, 20, [(1, 11, 9)], [], [], [], [], AD⟩
def items_Forced.H : H := .n
def items_Forced.O (k : Nat) : List (Orc (denR [.c false .b])) := []
theorem items_Forced.go : goesTo Try.prog 22 := ⟨_, Try.func22, by kernel_rfl, rfl⟩
theorem items_Forced.ok (k : Nat) : SigOk Try.prog 22 (items_Forced.sig k) :=
  fn_p (G := items_Forced.G Try.prog) (c := cd Try.f22) (rs := [.tmp 2]) (args := [(true, y29)]) (l := [.c false .b]) (fn := Try.f22) ⟨Try.func22, by kernel_rfl, by kernel_rfl, by kernel_rfl, le_of rfl, le_of rfl, TT_ok, AD_ok⟩ rfl items_Forced.E (fun k p hp => nomatch hp)
    (fun k i => (items_Forced.O k)[i]?) items_Forced.H (fun k x => items_Forced.f k x.1)
    (fun id o y h => by cases id <;> cases h)
    (fun k p hp => by rw [show pts (cd Try.f22) items_Forced.H = [] by kernel_rfl] at hp; nomatch hp)
    (fun k x => by kernel_rfl) k
/-! reglet/items.measure -/
def items_measure.f (k : Nat) (a0 : Int) : Option Bool := if (decide (0 ≤ a0)) = true then (some (decide (a0 ≤ 68719476736))) else (some false)
def items_measure.sig (k : Nat) : Sig := .p [(false, (.i .i64))] [.c false .b] fun x => items_measure.f k x.1
def items_measure.E (k : Nat) : List (Nat × Sig) := []
def items_measure.G (P : Program) : GI := ⟨P, TT, 9, 9, [], [], [], [], [], AD⟩
def items_measure.H : H := .n
def items_measure.O (k : Nat) : List (Orc (denR [.c false .b])) := []
theorem items_measure.go : goesTo Try.prog 55 := ⟨_, Try.func55, by kernel_rfl, rfl⟩
theorem items_measure.ok (k : Nat) : SigOk Try.prog 55 (items_measure.sig k) :=
  fn_p (G := items_measure.G Try.prog) (c := cd Try.f55) (rs := [.tmp 2]) (args := [(false, (.i .i64))]) (l := [.c false .b]) (fn := Try.f55) ⟨Try.func55, by kernel_rfl, by kernel_rfl, by kernel_rfl, le_of rfl, le_of rfl, TT_ok, AD_ok⟩ rfl items_measure.E (fun k p hp => nomatch hp)
    (fun k i => (items_measure.O k)[i]?) items_measure.H (fun k x => items_measure.f k x.1)
    (fun id o y h => by cases id <;> cases h)
    (fun k p hp => by rw [show pts (cd Try.f55) items_measure.H = [] by kernel_rfl] at hp; nomatch hp)
    (fun k x => by kernel_rfl) k
/-! reglet/items.fits -/
mutual
def items_fits.j0 : Nat → api_Item → Option Bool
  | 0, _ => none
  | k + 1, t => if (decide (t.1 = 1)) = true then (if (decide (t.2.2.1 = 0)) = true then (if (decide (t.2.2.2.1 = 0)) = true then (if (decide (t.2.2.2.2.2.1 = 0)) = true then (if (!t.2.2.2.2.1) = true then (some (!t.2.2.2.2.2.2.1)) else (some false)) else (some false)) else (some false)) else (some false)) else (if (decide (t.1 = 2)) = true then (if (decide (t.2.2.2.2.2.1 = 0)) = true then (if (!t.2.2.2.2.2.2.1) = true then (if (!t.2.2.2.2.1) = true then (some true) else (if (decide (t.2.1 = 0)) = true then (some (decide (t.2.2.1 = 0))) else (some false))) else (some false)) else (some false)) else (if (decide (t.1 = 3)) = true then (if (decide (t.2.2.1 = 0)) = true then (if (decide (t.2.2.2.1 = 0)) = true then (if (!t.2.2.2.2.1) = true then (if (decide ((-10000) ≤ t.2.2.2.2.2.1)) = true then (some (decide (t.2.2.2.2.2.1 ≤ 10000))) else (some false)) else (some false)) else (some false)) else (some false)) else (some false)))
end
def items_fits.f (k : Nat) (a0 : api_Item) : Option Bool := (items_measure.f k a0.2.1).bind fun r => if (!r) = true then (some false) else ((items_measure.f k a0.2.2.1).bind fun r2 => if (!r2) = true then (some false) else ((items_measure.f k a0.2.2.2.1).bind fun r3 => if (!r3) = true then (some false) else (if (decide (a0.2.1 < a0.2.2.2.1)) = true then (some false) else (items_fits.j0 k a0))))
def items_fits.sig (k : Nat) : Sig := .p [(true, y29)] [.c false .b] fun x => items_fits.f k x.1
def items_fits.E (k : Nat) : List (Nat × Sig) := [(55, items_measure.sig k)]
def items_fits.G (P : Program) : GI := ⟨P, TT, 103, 112, [(1, 103, 9)], [], [], [], [], AD⟩
def items_fits.H : H := .s .n (.j 0 .n .n)
abbrev items_fits.j0_s : Sh := [(1, .at_ 103), (103, .box y29)]
def items_fits.O (k : Nat) : List (Orc (denR [.c false .b])) := [⟨items_fits.j0_s, fun y => items_fits.j0 k y.2.1⟩]
theorem items_fits.j0_e (k : Nat) (y : denS items_fits.j0_s) : items_fits.j0 (k + 1) y.2.1 = evP ((items_fits.G Try.prog).at (items_fits.E k)) (fun i => (items_fits.O k)[i]?) [1, 1] (cd Try.f39) items_fits.H (kFin ((items_fits.G Try.prog).at (items_fits.E k)) [.tmp 2] [.c false .b]) (unS items_fits.j0_s y) := by rw [items_fits.j0]; kernel_rfl
theorem items_fits.go : goesTo Try.prog 39 := ⟨_, Try.func39, by kernel_rfl, rfl⟩
theorem items_fits.ok (k : Nat) : SigOk Try.prog 39 (items_fits.sig k) :=
  fn_p (G := items_fits.G Try.prog) (c := cd Try.f39) (rs := [.tmp 2]) (args := [(true, y29)]) (l := [.c false .b]) (fn := Try.f39) ⟨Try.func39, by kernel_rfl, by kernel_rfl, by kernel_rfl, le_of rfl, le_of rfl, TT_ok, AD_ok⟩ rfl items_fits.E (fun k p hp => by
    simp only [items_fits.E, List.mem_cons, List.not_mem_nil, or_false] at hp
    rcases hp with rfl
    · exact ⟨items_measure.ok k, items_measure.go⟩)
    (fun k i => (items_fits.O k)[i]?) items_fits.H (fun k x => items_fits.f k x.1)
    (fun id o y h => by
    have h' := List.mem_of_getElem? h
    simp only [items_fits.O, List.mem_cons, List.not_mem_nil, or_false] at h'
    rcases h' with rfl <;> rfl)
    (fun k p hp => by
    rw [show pts (cd Try.f39) items_fits.H = [(0, [1, 1])] by kernel_rfl] at hp
    simp only [List.mem_cons, List.not_mem_nil, or_false] at hp
    rcases hp with rfl
    · exact ptOk_of rfl (items_fits.j0_e k))
    (fun k x => by kernel_rfl) k
/-! reglet/items.Right -/
mutual
def items_Right.j0 : Nat → (List api_Item) → Option Int
  | 0, _ => none
  | k + 1, list => items_Right.l1 k 0 list (list.length : Int) 0
def items_Right.l1 : Nat → Int → (List api_Item) → Int → Int → Option Int
  | 0, _, _, _, _ => none
  | k + 1, at_, t, t2, t3 => if (decide (t3 < t2)) = true then ((at? t t3).bind fun e2 => if (!decide (e2.2.2.2.2.2.2.2.1 = at_)) = true then (some 70) else (if (decide (e2.2.2.2.2.2.2.2.2 < e2.2.2.2.2.2.2.2.1)) = true then (some 70) else (if (decide (65536 < e2.2.2.2.2.2.2.2.2)) = true then (some 70) else ((items_fits.f k e2).bind fun r2 => if (!r2) = true then (some 70) else (items_Right.j2 k t t2 t3 e2))))) else (some 0)
def items_Right.j2 : Nat → (List api_Item) → Int → Int → api_Item → Option Int
  | 0, _, _, _, _ => none
  | k + 1, t4, t5, t6, x => items_Right.l1 k x.2.2.2.2.2.2.2.2 t4 t5 (wrap64 (t6 + 1))
end
def items_Right.f (k : Nat) (a0 : List api_Item) : Option Int := if (decide ((a0.length : Int) = 0)) = true then (some 70) else (if (decide (262144 < (a0.length : Int))) = true then (some 70) else ((at? a0 (wrap64 ((a0.length : Int) - 1))).bind fun e => (items_Forced.f k e).bind fun r => if (!r) = true then (some 70) else (items_Right.j0 k a0)))
def items_Right.sig (k : Nat) : Sig := .p [(false, y45)] [.c false (.i .i64)] fun x => items_Right.f k x.1
def items_Right.E (k : Nat) : List (Nat × Sig) := [(22, items_Forced.sig k), (39, items_fits.sig k)]
def items_Right.G (P : Program) : GI := ⟨P, TT, 54, 63, [(5, 54, 9)], [], [], [], [], AD⟩
def items_Right.H : H := .s .n (.j 0 .n (.s .n (.s (.s .n (.s (.l 1 (.s .n (.s .n (.s (.s (.s .n (.j 2 .n .n)) .n) .n)))) .n)) .n)))
abbrev items_Right.j0_s : Sh := [(0, .v y45)]
abbrev items_Right.l1_s : Sh := [(3, .v (.i .i64)), (24, .v y45), (25, .v (.i .i64)), (26, .v (.i .i64))]
abbrev items_Right.j2_s : Sh := [(5, .at_ 54), (24, .v y45), (25, .v (.i .i64)), (26, .v (.i .i64)), (54, .box y29)]
def items_Right.O (k : Nat) : List (Orc (denR [.c false (.i .i64)])) := [⟨items_Right.j0_s, fun y => items_Right.j0 k y.1⟩, ⟨items_Right.l1_s, fun y => items_Right.l1 k y.1 y.2.1 y.2.2.1 y.2.2.2.1⟩, ⟨items_Right.j2_s, fun y => items_Right.j2 k y.2.1 y.2.2.1 y.2.2.2.1 y.2.2.2.2.1⟩]
theorem items_Right.j2_e (k : Nat) (y : denS items_Right.j2_s) : items_Right.j2 (k + 1) y.2.1 y.2.2.1 y.2.2.2.1 y.2.2.2.2.1 = evP ((items_Right.G Try.prog).at (items_Right.E k)) (fun i => (items_Right.O k)[i]?) [1, 1, 1, 0, 1, 0, 0, 1, 1, 0, 0, 1, 1] (cd Try.f15) items_Right.H (kFin ((items_Right.G Try.prog).at (items_Right.E k)) [.tmp 2] [.c false (.i .i64)]) (unS items_Right.j2_s y) := by rw [items_Right.j2]; kernel_rfl
theorem items_Right.l1_e (k : Nat) (y : denS items_Right.l1_s) : items_Right.l1 (k + 1) y.1 y.2.1 y.2.2.1 y.2.2.2.1 = evP ((items_Right.G Try.prog).at (items_Right.E k)) (fun i => (items_Right.O k)[i]?) [1, 1, 1, 0, 1, 0, 0] (cd Try.f15) items_Right.H (kFin ((items_Right.G Try.prog).at (items_Right.E k)) [.tmp 2] [.c false (.i .i64)]) (unS items_Right.l1_s y) := by rw [items_Right.l1]; kernel_rfl
theorem items_Right.j0_e (k : Nat) (y : denS items_Right.j0_s) : items_Right.j0 (k + 1) y.1 = evP ((items_Right.G Try.prog).at (items_Right.E k)) (fun i => (items_Right.O k)[i]?) [1, 1] (cd Try.f15) items_Right.H (kFin ((items_Right.G Try.prog).at (items_Right.E k)) [.tmp 2] [.c false (.i .i64)]) (unS items_Right.j0_s y) := by rw [items_Right.j0]; kernel_rfl
theorem items_Right.go : goesTo Try.prog 15 := ⟨_, Try.func15, by kernel_rfl, rfl⟩
theorem items_Right.ok (k : Nat) : SigOk Try.prog 15 (items_Right.sig k) :=
  fn_p (G := items_Right.G Try.prog) (c := cd Try.f15) (rs := [.tmp 2]) (args := [(false, y45)]) (l := [.c false (.i .i64)]) (fn := Try.f15) ⟨Try.func15, by kernel_rfl, by kernel_rfl, by kernel_rfl, le_of rfl, le_of rfl, TT_ok, AD_ok⟩ rfl items_Right.E (fun k p hp => by
    simp only [items_Right.E, List.mem_cons, List.not_mem_nil, or_false] at hp
    rcases hp with rfl | rfl
    · exact ⟨items_Forced.ok k, items_Forced.go⟩
    · exact ⟨items_fits.ok k, items_fits.go⟩)
    (fun k i => (items_Right.O k)[i]?) items_Right.H (fun k x => items_Right.f k x.1)
    (fun id o y h => by
    have h' := List.mem_of_getElem? h
    simp only [items_Right.O, List.mem_cons, List.not_mem_nil, or_false] at h'
    rcases h' with rfl | rfl | rfl <;> rfl)
    (fun k p hp => by
    rw [show pts (cd Try.f15) items_Right.H = [(2, [1, 1, 1, 0, 1, 0, 0, 1, 1, 0, 0, 1, 1]), (1, [1, 1, 1, 0, 1, 0, 0]), (0, [1, 1])] by kernel_rfl] at hp
    simp only [List.mem_cons, List.not_mem_nil, or_false] at hp
    rcases hp with rfl | rfl | rfl
    · exact ptOk_of rfl (items_Right.j2_e k)
    · exact ptOk_of rfl (items_Right.l1_e k)
    · exact ptOk_of rfl (items_Right.j0_e k))
    (fun k x => by kernel_rfl) k
/-! reglet/regletlaw07.awake -/
def regletlaw07_awake.f (k : Nat)  : Option Bool := (regletlaw07_table.f k ([(10, 6, 0, 0, 6, 6, ([] : List api_Range), (false))] : List (Int × Int × Int × Int × Int × Int × List api_Range × Bool))).bind fun r => optK r (some false) fun p => (items_Build.f k p (ByteArray.mk #[97, 45, 98]) ([(3, 0)] : List api_Run)).bind fun r2 => if (decide (r2.2 = 0)) = true then (if (decide ((r2.1.length : Int) = 5)) = true then (if 0 ≤ (0 : Int) ∧ (0 : Int) < (r2.1.length : Int) then ((r2.1[(0 : Int).toNat]?).bind fun e => if (decide (e.2.1 = 12)) = true then (if 0 ≤ (1 : Int) ∧ (1 : Int) < (r2.1.length : Int) then ((r2.1[(1 : Int).toNat]?).bind fun e2 => if e2.2.2.2.2.2.2.1 = true then (if 0 ≤ (1 : Int) ∧ (1 : Int) < (r2.1.length : Int) then ((r2.1[(1 : Int).toNat]?).bind fun e3 => if (decide (e3.2.2.2.2.2.1 = 50)) = true then (if 0 ≤ (4 : Int) ∧ (4 : Int) < (r2.1.length : Int) then ((r2.1[(4 : Int).toNat]?).bind fun e4 => (items_Forced.f k e4).bind fun r3 => if r3 = true then ((items_Right.f k r2.1).bind fun r4 => if (decide (r4 = 0)) = true then (some true) else (some false)) else (some false)) else none) else (some false)) else none) else (some false)) else none) else (some false)) else none) else (some false)) else (some false)
def regletlaw07_awake.sig (k : Nat) : Sig := .p [] [.c false .b] fun x => regletlaw07_awake.f k
def regletlaw07_awake.E (k : Nat) : List (Nat × Sig) := [(9, regletlaw07_table.sig k), (11, items_Build.sig k), (15, items_Right.sig k), (22, items_Forced.sig k)]
def regletlaw07_awake.G (P : Program) : GI := ⟨P, TT, 58, 58, [], [], [], [], [], AD⟩
def regletlaw07_awake.H : H := .s .n (.s .n (.s (.s (.f 1 .n) .n) (.s (.q 3 12 .n) .n)))
def regletlaw07_awake.O (k : Nat) : List (Orc (denR [.c false .b])) := []
theorem regletlaw07_awake.go : goesTo Try.prog 8 := ⟨_, Try.func8, by kernel_rfl, rfl⟩
theorem regletlaw07_awake.ok (k : Nat) : SigOk Try.prog 8 (regletlaw07_awake.sig k) :=
  fn_p (G := regletlaw07_awake.G Try.prog) (c := cd Try.f8) (rs := [.tmp 0]) (args := []) (l := [.c false .b]) (fn := Try.f8) ⟨Try.func8, by kernel_rfl, by kernel_rfl, by kernel_rfl, le_of rfl, le_of rfl, TT_ok, AD_ok⟩ rfl regletlaw07_awake.E (fun k p hp => by
    simp only [regletlaw07_awake.E, List.mem_cons, List.not_mem_nil, or_false] at hp
    rcases hp with rfl | rfl | rfl | rfl
    · exact ⟨regletlaw07_table.ok k, regletlaw07_table.go⟩
    · exact ⟨items_Build.ok k, items_Build.go⟩
    · exact ⟨items_Right.ok k, items_Right.go⟩
    · exact ⟨items_Forced.ok k, items_Forced.go⟩)
    (fun k i => (regletlaw07_awake.O k)[i]?) regletlaw07_awake.H (fun k x => regletlaw07_awake.f k)
    (fun id o y h => by cases id <;> cases h)
    (fun k p hp => by rw [show pts (cd Try.f8) regletlaw07_awake.H = [] by kernel_rfl] at hp; nomatch hp)
    (fun k x => by kernel_rfl) k
/-! reglet/regletlaw07.few -/
def regletlaw07_few.f (k : Nat) (a0 : ByteArray) (a1 : List api_Run) : Option Bool := if (decide ((a0.size : Int) ≤ 2000)) = true then (some (decide ((a1.length : Int) ≤ 200))) else (some false)
def regletlaw07_few.sig (k : Nat) : Sig := .p [(false, .s), (false, y22)] [.c false .b] fun x => regletlaw07_few.f k x.1 x.2.1
def regletlaw07_few.E (k : Nat) : List (Nat × Sig) := []
def regletlaw07_few.G (P : Program) : GI := ⟨P, TT, 13, 13, [], [], [], [], [], AD⟩
def regletlaw07_few.H : H := .n
def regletlaw07_few.O (k : Nat) : List (Orc (denR [.c false .b])) := []
theorem regletlaw07_few.go : goesTo Try.prog 10 := ⟨_, Try.func10, by kernel_rfl, rfl⟩
theorem regletlaw07_few.ok (k : Nat) : SigOk Try.prog 10 (regletlaw07_few.sig k) :=
  fn_p (G := regletlaw07_few.G Try.prog) (c := cd Try.f10) (rs := [.tmp 4]) (args := [(false, .s), (false, y22)]) (l := [.c false .b]) (fn := Try.f10) ⟨Try.func10, by kernel_rfl, by kernel_rfl, by kernel_rfl, le_of rfl, le_of rfl, TT_ok, AD_ok⟩ rfl regletlaw07_few.E (fun k p hp => nomatch hp)
    (fun k i => (regletlaw07_few.O k)[i]?) regletlaw07_few.H (fun k x => regletlaw07_few.f k x.1 x.2.1)
    (fun id o y h => by cases id <;> cases h)
    (fun k p hp => by rw [show pts (cd Try.f10) regletlaw07_few.H = [] by kernel_rfl] at hp; nomatch hp)
    (fun k x => by kernel_rfl) k
/-! reglet/regletref02.value -/
mutual
def regletref02_value.l0 : Nat → ByteArray → Int → Int → Int → Int → Option Int
  | 0, _, _, _, _, _ => none
  | k + 1, s, at_, n, r, i => if (decide (i < n)) = true then ((bAt s (wrap64 (at_ + i))).bind fun e2 => regletref02_value.l0 k s at_ n (wrap64 ((wrap64 (r * 64)) + ((wrap64 (e2)).tmod 64))) (wrap64 (i + 1))) else (some r)
end
def regletref02_value.f (k : Nat) (a0 : ByteArray) (a1 : Int) (a2 : Int) : Option Int := (bAt a0 a1).bind fun e => if (decide (a2 = 1)) = true then (some (wrap64 (e))) else (if 0 ≤ (wrap64 (7 - a2)) then (if (shlI .i64 (1 : Int) (wrap64 (7 - a2))) ≠ 0 then (regletref02_value.l0 k a0 a1 a2 ((wrap64 (e)).tmod (shlI .i64 (1 : Int) (wrap64 (7 - a2)))) 1) else none) else none)
def regletref02_value.sig (k : Nat) : Sig := .p [(false, .s), (false, (.i .i64)), (false, (.i .i64))] [.c false (.i .i64)] fun x => regletref02_value.f k x.1 x.2.1 x.2.2.1
def regletref02_value.E (k : Nat) : List (Nat × Sig) := []
def regletref02_value.G (P : Program) : GI := ⟨P, TT, 38, 38, [], [], [], [], [], AD⟩
def regletref02_value.H : H := .s .n (.s .n (.s .n (.s .n (.s (.s .n (.s (.l 0 .n) .n)) .n))))
abbrev regletref02_value.l0_s : Sh := [(0, .v .s), (1, .v (.i .i64)), (2, .v (.i .i64)), (8, .v (.i .i64)), (9, .v (.i .i64))]
def regletref02_value.O (k : Nat) : List (Orc (denR [.c false (.i .i64)])) := [⟨regletref02_value.l0_s, fun y => regletref02_value.l0 k y.1 y.2.1 y.2.2.1 y.2.2.2.1 y.2.2.2.2.1⟩]
theorem regletref02_value.l0_e (k : Nat) (y : denS regletref02_value.l0_s) : regletref02_value.l0 (k + 1) y.1 y.2.1 y.2.2.1 y.2.2.2.1 y.2.2.2.2.1 = evP ((regletref02_value.G Try.prog).at (regletref02_value.E k)) (fun i => (regletref02_value.O k)[i]?) [1, 1, 1, 1, 0, 1, 0, 0] (cd Try.f56) regletref02_value.H (kFin ((regletref02_value.G Try.prog).at (regletref02_value.E k)) [.tmp 6] [.c false (.i .i64)]) (unS regletref02_value.l0_s y) := by rw [regletref02_value.l0]; kernel_rfl
theorem regletref02_value.go : goesTo Try.prog 56 := ⟨_, Try.func56, by kernel_rfl, rfl⟩
theorem regletref02_value.ok (k : Nat) : SigOk Try.prog 56 (regletref02_value.sig k) :=
  fn_p (G := regletref02_value.G Try.prog) (c := cd Try.f56) (rs := [.tmp 6]) (args := [(false, .s), (false, (.i .i64)), (false, (.i .i64))]) (l := [.c false (.i .i64)]) (fn := Try.f56) ⟨Try.func56, by kernel_rfl, by kernel_rfl, by kernel_rfl, le_of rfl, le_of rfl, TT_ok, AD_ok⟩ rfl regletref02_value.E (fun k p hp => nomatch hp)
    (fun k i => (regletref02_value.O k)[i]?) regletref02_value.H (fun k x => regletref02_value.f k x.1 x.2.1 x.2.2.1)
    (fun id o y h => by
    have h' := List.mem_of_getElem? h
    simp only [regletref02_value.O, List.mem_cons, List.not_mem_nil, or_false] at h'
    rcases h' with rfl <;> rfl)
    (fun k p hp => by
    rw [show pts (cd Try.f56) regletref02_value.H = [(0, [1, 1, 1, 1, 0, 1, 0, 0])] by kernel_rfl] at hp
    simp only [List.mem_cons, List.not_mem_nil, or_false] at hp
    rcases hp with rfl
    · exact ptOk_of rfl (regletref02_value.l0_e k))
    (fun k x => by kernel_rfl) k
/-! reglet/regletref02.IsRune -/
def regletref02_IsRune.f (k : Nat) (a0 : Int) : Option Bool := if (decide (0 ≤ a0)) = true then (if (decide (a0 ≤ 1114111)) = true then (if (decide (a0 < 55296)) = true then (some true) else (some (decide (57343 < a0)))) else (some false)) else (some false)
def regletref02_IsRune.sig (k : Nat) : Sig := .p [(false, (.i .i64))] [.c false .b] fun x => regletref02_IsRune.f k x.1
def regletref02_IsRune.E (k : Nat) : List (Nat × Sig) := []
def regletref02_IsRune.G (P : Program) : GI := ⟨P, TT, 17, 17, [], [], [], [], [], AD⟩
def regletref02_IsRune.H : H := .n
def regletref02_IsRune.O (k : Nat) : List (Orc (denR [.c false .b])) := []
theorem regletref02_IsRune.go : goesTo Try.prog 64 := ⟨_, Try.func64, by kernel_rfl, rfl⟩
theorem regletref02_IsRune.ok (k : Nat) : SigOk Try.prog 64 (regletref02_IsRune.sig k) :=
  fn_p (G := regletref02_IsRune.G Try.prog) (c := cd Try.f64) (rs := [.tmp 2]) (args := [(false, (.i .i64))]) (l := [.c false .b]) (fn := Try.f64) ⟨Try.func64, by kernel_rfl, by kernel_rfl, by kernel_rfl, le_of rfl, le_of rfl, TT_ok, AD_ok⟩ rfl regletref02_IsRune.E (fun k p hp => nomatch hp)
    (fun k i => (regletref02_IsRune.O k)[i]?) regletref02_IsRune.H (fun k x => regletref02_IsRune.f k x.1)
    (fun id o y h => by cases id <;> cases h)
    (fun k p hp => by rw [show pts (cd Try.f64) regletref02_IsRune.H = [] by kernel_rfl] at hp; nomatch hp)
    (fun k x => by kernel_rfl) k
/-! reglet/regletref02.Bytes -/
def regletref02_Bytes.f (k : Nat) (a0 : Int) : Option (List Int) := (regletref02_IsRune.f k a0).bind fun r => if (!r) = true then (some ([] : List Int)) else (if (decide (a0 < 128)) = true then (some ([a0] : List Int)) else (if (decide (a0 < 2048)) = true then (some ([wrap64 (192 + (wrap64 (a0.tdiv 64))), wrap64 (128 + (a0.tmod 64))] : List Int)) else (if (decide (a0 < 65536)) = true then (some ([wrap64 (224 + (wrap64 (a0.tdiv 4096))), wrap64 (128 + ((wrap64 (a0.tdiv 64)).tmod 64)), wrap64 (128 + (a0.tmod 64))] : List Int)) else (some ([wrap64 (240 + (wrap64 (a0.tdiv 262144))), wrap64 (128 + ((wrap64 (a0.tdiv 4096)).tmod 64)), wrap64 (128 + ((wrap64 (a0.tdiv 64)).tmod 64)), wrap64 (128 + (a0.tmod 64))] : List Int)))))
def regletref02_Bytes.sig (k : Nat) : Sig := .p [(false, (.i .i64))] [.c false y10] fun x => regletref02_Bytes.f k x.1
def regletref02_Bytes.E (k : Nat) : List (Nat × Sig) := [(64, regletref02_IsRune.sig k)]
def regletref02_Bytes.G (P : Program) : GI := ⟨P, TT, 47, 47, [], [], [], [], [], AD⟩
def regletref02_Bytes.H : H := .n
def regletref02_Bytes.O (k : Nat) : List (Orc (denR [.c false y10])) := []
theorem regletref02_Bytes.go : goesTo Try.prog 57 := ⟨_, Try.func57, by kernel_rfl, rfl⟩
theorem regletref02_Bytes.ok (k : Nat) : SigOk Try.prog 57 (regletref02_Bytes.sig k) :=
  fn_p (G := regletref02_Bytes.G Try.prog) (c := cd Try.f57) (rs := [.tmp 2]) (args := [(false, (.i .i64))]) (l := [.c false y10]) (fn := Try.f57) ⟨Try.func57, by kernel_rfl, by kernel_rfl, by kernel_rfl, le_of rfl, le_of rfl, TT_ok, AD_ok⟩ rfl regletref02_Bytes.E (fun k p hp => by
    simp only [regletref02_Bytes.E, List.mem_cons, List.not_mem_nil, or_false] at hp
    rcases hp with rfl
    · exact ⟨regletref02_IsRune.ok k, regletref02_IsRune.go⟩)
    (fun k i => (regletref02_Bytes.O k)[i]?) regletref02_Bytes.H (fun k x => regletref02_Bytes.f k x.1)
    (fun id o y h => by cases id <;> cases h)
    (fun k p hp => by rw [show pts (cd Try.f57) regletref02_Bytes.H = [] by kernel_rfl] at hp; nomatch hp)
    (fun k x => by kernel_rfl) k
/-! reglet/regletref02.begins -/
mutual
def regletref02_begins.j0 : Nat → ByteArray → Int → (List Int) → Option Bool
  | 0, _, _, _ => none
  | k + 1, s, at_, l => regletref02_begins.l1 k s at_ l 0
def regletref02_begins.l1 : Nat → ByteArray → Int → (List Int) → Int → Option Bool
  | 0, _, _, _, _ => none
  | k + 1, s2, at_2, l2, i => if (decide (i < (l2.length : Int))) = true then ((bAt s2 (wrap64 (at_2 + i))).bind fun e => (at? l2 i).bind fun e2 => if (!decide ((wrap64 (e)) = e2)) = true then (some false) else (regletref02_begins.l1 k s2 at_2 l2 (wrap64 (i + 1)))) else (some true)
end
def regletref02_begins.f (k : Nat) (a0 : ByteArray) (a1 : Int) (a2 : List Int) : Option Bool := if (decide ((a2.length : Int) = 0)) = true then (some false) else (if (decide ((a0.size : Int) < (wrap64 (a1 + (a2.length : Int))))) = true then (some false) else (regletref02_begins.j0 k a0 a1 a2))
def regletref02_begins.sig (k : Nat) : Sig := .p [(false, .s), (false, (.i .i64)), (false, y46)] [.c false .b] fun x => regletref02_begins.f k x.1 x.2.1 x.2.2.1
def regletref02_begins.E (k : Nat) : List (Nat × Sig) := []
def regletref02_begins.G (P : Program) : GI := ⟨P, TT, 37, 37, [], [], [], [], [], AD⟩
def regletref02_begins.H : H := .s .n (.j 0 .n (.s (.s .n (.s (.l 1 .n) .n)) .n))
abbrev regletref02_begins.j0_s : Sh := [(0, .v .s), (1, .v (.i .i64)), (2, .v y46)]
abbrev regletref02_begins.l1_s : Sh := [(0, .v .s), (1, .v (.i .i64)), (2, .v y46), (7, .v (.i .i64))]
def regletref02_begins.O (k : Nat) : List (Orc (denR [.c false .b])) := [⟨regletref02_begins.j0_s, fun y => regletref02_begins.j0 k y.1 y.2.1 y.2.2.1⟩, ⟨regletref02_begins.l1_s, fun y => regletref02_begins.l1 k y.1 y.2.1 y.2.2.1 y.2.2.2.1⟩]
theorem regletref02_begins.l1_e (k : Nat) (y : denS regletref02_begins.l1_s) : regletref02_begins.l1 (k + 1) y.1 y.2.1 y.2.2.1 y.2.2.2.1 = evP ((regletref02_begins.G Try.prog).at (regletref02_begins.E k)) (fun i => (regletref02_begins.O k)[i]?) [1, 1, 0, 1, 0, 0] (cd Try.f58) regletref02_begins.H (kFin ((regletref02_begins.G Try.prog).at (regletref02_begins.E k)) [.tmp 6] [.c false .b]) (unS regletref02_begins.l1_s y) := by rw [regletref02_begins.l1]; kernel_rfl
theorem regletref02_begins.j0_e (k : Nat) (y : denS regletref02_begins.j0_s) : regletref02_begins.j0 (k + 1) y.1 y.2.1 y.2.2.1 = evP ((regletref02_begins.G Try.prog).at (regletref02_begins.E k)) (fun i => (regletref02_begins.O k)[i]?) [1, 1] (cd Try.f58) regletref02_begins.H (kFin ((regletref02_begins.G Try.prog).at (regletref02_begins.E k)) [.tmp 6] [.c false .b]) (unS regletref02_begins.j0_s y) := by rw [regletref02_begins.j0]; kernel_rfl
theorem regletref02_begins.go : goesTo Try.prog 58 := ⟨_, Try.func58, by kernel_rfl, rfl⟩
theorem regletref02_begins.ok (k : Nat) : SigOk Try.prog 58 (regletref02_begins.sig k) :=
  fn_p (G := regletref02_begins.G Try.prog) (c := cd Try.f58) (rs := [.tmp 6]) (args := [(false, .s), (false, (.i .i64)), (false, y46)]) (l := [.c false .b]) (fn := Try.f58) ⟨Try.func58, by kernel_rfl, by kernel_rfl, by kernel_rfl, le_of rfl, le_of rfl, TT_ok, AD_ok⟩ rfl regletref02_begins.E (fun k p hp => nomatch hp)
    (fun k i => (regletref02_begins.O k)[i]?) regletref02_begins.H (fun k x => regletref02_begins.f k x.1 x.2.1 x.2.2.1)
    (fun id o y h => by
    have h' := List.mem_of_getElem? h
    simp only [regletref02_begins.O, List.mem_cons, List.not_mem_nil, or_false] at h'
    rcases h' with rfl | rfl <;> rfl)
    (fun k p hp => by
    rw [show pts (cd Try.f58) regletref02_begins.H = [(1, [1, 1, 0, 1, 0, 0]), (0, [1, 1])] by kernel_rfl] at hp
    simp only [List.mem_cons, List.not_mem_nil, or_false] at hp
    rcases hp with rfl | rfl
    · exact ptOk_of rfl (regletref02_begins.l1_e k)
    · exact ptOk_of rfl (regletref02_begins.j0_e k))
    (fun k x => by kernel_rfl) k
/-! reglet/regletref02.Read -/
mutual
def regletref02_Read.l0 : Nat → ByteArray → Int → Int → Option (Int × Int)
  | 0, _, _, _ => none
  | k + 1, s, at_, n => if (decide (n ≤ 4)) = true then (if (decide ((wrap64 (at_ + n)) ≤ (s.size : Int))) = true then (regletref02_Read.j1 k s at_ n) else (some ((-1), 0))) else (some ((-1), 0))
def regletref02_Read.j1 : Nat → ByteArray → Int → Int → Option (Int × Int)
  | 0, _, _, _ => none
  | k + 1, s2, at_2, n2 => (regletref02_value.f k s2 at_2 n2).bind fun r => (regletref02_Bytes.f k r).bind fun r2 => if (decide ((r2.length : Int) = n2)) = true then ((regletref02_begins.f k s2 at_2 r2).bind fun r3 => if r3 = true then (some (r, n2)) else (regletref02_Read.j2 k s2 at_2 n2)) else (regletref02_Read.j2 k s2 at_2 n2)
def regletref02_Read.j2 : Nat → ByteArray → Int → Int → Option (Int × Int)
  | 0, _, _, _ => none
  | k + 1, s3, at_3, n3 => regletref02_Read.l0 k s3 at_3 (wrap64 (n3 + 1))
end
def regletref02_Read.f (k : Nat) (a0 : ByteArray) (a1 : Int) : Option (Int × Int) := regletref02_Read.l0 k a0 a1 1
def regletref02_Read.sig (k : Nat) : Sig := .p [(false, .s), (false, (.i .i64))] [.c false (.i .i64), .c false (.i .i64)] fun x => regletref02_Read.f k x.1 x.2.1
def regletref02_Read.E (k : Nat) : List (Nat × Sig) := [(56, regletref02_value.sig k), (57, regletref02_Bytes.sig k), (58, regletref02_begins.sig k)]
def regletref02_Read.G (P : Program) : GI := ⟨P, TT, 39, 39, [], [], [], [], [], AD⟩
def regletref02_Read.H : H := .s .n (.s (.s .n (.s (.l 0 (.j 1 .n (.j 2 .n .n))) .n)) .n)
abbrev regletref02_Read.l0_s : Sh := [(0, .v .s), (1, .v (.i .i64)), (6, .v (.i .i64))]
abbrev regletref02_Read.j1_s : Sh := [(0, .v .s), (1, .v (.i .i64)), (6, .v (.i .i64))]
abbrev regletref02_Read.j2_s : Sh := [(0, .v .s), (1, .v (.i .i64)), (6, .v (.i .i64))]
def regletref02_Read.O (k : Nat) : List (Orc (denR [.c false (.i .i64), .c false (.i .i64)])) := [⟨regletref02_Read.l0_s, fun y => regletref02_Read.l0 k y.1 y.2.1 y.2.2.1⟩, ⟨regletref02_Read.j1_s, fun y => regletref02_Read.j1 k y.1 y.2.1 y.2.2.1⟩, ⟨regletref02_Read.j2_s, fun y => regletref02_Read.j2 k y.1 y.2.1 y.2.2.1⟩]
theorem regletref02_Read.j2_e (k : Nat) (y : denS regletref02_Read.j2_s) : regletref02_Read.j2 (k + 1) y.1 y.2.1 y.2.2.1 = evP ((regletref02_Read.G Try.prog).at (regletref02_Read.E k)) (fun i => (regletref02_Read.O k)[i]?) [1, 0, 1, 0, 0, 1, 1] (cd Try.f41) regletref02_Read.H (kFin ((regletref02_Read.G Try.prog).at (regletref02_Read.E k)) [.tmp 4, .tmp 5] [.c false (.i .i64), .c false (.i .i64)]) (unS regletref02_Read.j2_s y) := by rw [regletref02_Read.j2]; kernel_rfl
theorem regletref02_Read.j1_e (k : Nat) (y : denS regletref02_Read.j1_s) : regletref02_Read.j1 (k + 1) y.1 y.2.1 y.2.2.1 = evP ((regletref02_Read.G Try.prog).at (regletref02_Read.E k)) (fun i => (regletref02_Read.O k)[i]?) [1, 0, 1, 0, 0, 1] (cd Try.f41) regletref02_Read.H (kFin ((regletref02_Read.G Try.prog).at (regletref02_Read.E k)) [.tmp 4, .tmp 5] [.c false (.i .i64), .c false (.i .i64)]) (unS regletref02_Read.j1_s y) := by rw [regletref02_Read.j1]; kernel_rfl
theorem regletref02_Read.l0_e (k : Nat) (y : denS regletref02_Read.l0_s) : regletref02_Read.l0 (k + 1) y.1 y.2.1 y.2.2.1 = evP ((regletref02_Read.G Try.prog).at (regletref02_Read.E k)) (fun i => (regletref02_Read.O k)[i]?) [1, 0, 1, 0, 0] (cd Try.f41) regletref02_Read.H (kFin ((regletref02_Read.G Try.prog).at (regletref02_Read.E k)) [.tmp 4, .tmp 5] [.c false (.i .i64), .c false (.i .i64)]) (unS regletref02_Read.l0_s y) := by rw [regletref02_Read.l0]; kernel_rfl
theorem regletref02_Read.go : goesTo Try.prog 41 := ⟨_, Try.func41, by kernel_rfl, rfl⟩
theorem regletref02_Read.ok (k : Nat) : SigOk Try.prog 41 (regletref02_Read.sig k) :=
  fn_p (G := regletref02_Read.G Try.prog) (c := cd Try.f41) (rs := [.tmp 4, .tmp 5]) (args := [(false, .s), (false, (.i .i64))]) (l := [.c false (.i .i64), .c false (.i .i64)]) (fn := Try.f41) ⟨Try.func41, by kernel_rfl, by kernel_rfl, by kernel_rfl, le_of rfl, le_of rfl, TT_ok, AD_ok⟩ rfl regletref02_Read.E (fun k p hp => by
    simp only [regletref02_Read.E, List.mem_cons, List.not_mem_nil, or_false] at hp
    rcases hp with rfl | rfl | rfl
    · exact ⟨regletref02_value.ok k, regletref02_value.go⟩
    · exact ⟨regletref02_Bytes.ok k, regletref02_Bytes.go⟩
    · exact ⟨regletref02_begins.ok k, regletref02_begins.go⟩)
    (fun k i => (regletref02_Read.O k)[i]?) regletref02_Read.H (fun k x => regletref02_Read.f k x.1 x.2.1)
    (fun id o y h => by
    have h' := List.mem_of_getElem? h
    simp only [regletref02_Read.O, List.mem_cons, List.not_mem_nil, or_false] at h'
    rcases h' with rfl | rfl | rfl <;> rfl)
    (fun k p hp => by
    rw [show pts (cd Try.f41) regletref02_Read.H = [(2, [1, 0, 1, 0, 0, 1, 1]), (1, [1, 0, 1, 0, 0, 1]), (0, [1, 0, 1, 0, 0])] by kernel_rfl] at hp
    simp only [List.mem_cons, List.not_mem_nil, or_false] at hp
    rcases hp with rfl | rfl | rfl
    · exact ptOk_of rfl (regletref02_Read.j2_e k)
    · exact ptOk_of rfl (regletref02_Read.j1_e k)
    · exact ptOk_of rfl (regletref02_Read.l0_e k))
    (fun k x => by kernel_rfl) k
/-! reglet/regletref02.Runes -/
mutual
def regletref02_Runes.l0 : Nat → ByteArray → (List Int) → (List Int) → Int → Option (List Int × List Int × Int)
  | 0, _, _, _, _ => none
  | k + 1, s, l, at_, i => if (decide (i < (s.size : Int))) = true then ((regletref02_Read.f k s i).bind fun r => if (decide (r.2 = 0)) = true then (some (l, at_, i)) else (if (l.length + ([r.1] : List Int).length) * 8 ≤ 140737488355328 then (if (at_.length + ([i] : List Int).length) * 8 ≤ 140737488355328 then (regletref02_Runes.l0 k s (l ++ ([r.1] : List Int)) (at_ ++ ([i] : List Int)) (wrap64 (i + r.2))) else none) else none)) else (some (l, at_, (-1)))
end
def regletref02_Runes.f (k : Nat) (a0 : ByteArray) : Option (List Int × List Int × Int) := regletref02_Runes.l0 k a0 ([] : List Int) ([] : List Int) 0
def regletref02_Runes.sig (k : Nat) : Sig := .p [(false, .s)] [.c false y10, .c false y10, .c false (.i .i64)] fun x => regletref02_Runes.f k x.1
def regletref02_Runes.E (k : Nat) : List (Nat × Sig) := [(41, regletref02_Read.sig k)]
def regletref02_Runes.G (P : Program) : GI := ⟨P, TT, 38, 38, [], [], [], [], [], AD⟩
def regletref02_Runes.H : H := .s .n (.s .n (.s (.s .n (.s (.l 0 .n) .n)) .n))
abbrev regletref02_Runes.l0_s : Sh := [(0, .v .s), (5, .v y10), (6, .v y10), (7, .v (.i .i64))]
def regletref02_Runes.O (k : Nat) : List (Orc (denR [.c false y10, .c false y10, .c false (.i .i64)])) := [⟨regletref02_Runes.l0_s, fun y => regletref02_Runes.l0 k y.1 y.2.1 y.2.2.1 y.2.2.2.1⟩]
theorem regletref02_Runes.l0_e (k : Nat) (y : denS regletref02_Runes.l0_s) : regletref02_Runes.l0 (k + 1) y.1 y.2.1 y.2.2.1 y.2.2.2.1 = evP ((regletref02_Runes.G Try.prog).at (regletref02_Runes.E k)) (fun i => (regletref02_Runes.O k)[i]?) [1, 1, 0, 1, 0, 0] (cd Try.f17) regletref02_Runes.H (kFin ((regletref02_Runes.G Try.prog).at (regletref02_Runes.E k)) [.tmp 2, .tmp 3, .tmp 4] [.c false y10, .c false y10, .c false (.i .i64)]) (unS regletref02_Runes.l0_s y) := by rw [regletref02_Runes.l0]; kernel_rfl
theorem regletref02_Runes.go : goesTo Try.prog 17 := ⟨_, Try.func17, by kernel_rfl, rfl⟩
theorem regletref02_Runes.ok (k : Nat) : SigOk Try.prog 17 (regletref02_Runes.sig k) :=
  fn_p (G := regletref02_Runes.G Try.prog) (c := cd Try.f17) (rs := [.tmp 2, .tmp 3, .tmp 4]) (args := [(false, .s)]) (l := [.c false y10, .c false y10, .c false (.i .i64)]) (fn := Try.f17) ⟨Try.func17, by kernel_rfl, by kernel_rfl, by kernel_rfl, le_of rfl, le_of rfl, TT_ok, AD_ok⟩ rfl regletref02_Runes.E (fun k p hp => by
    simp only [regletref02_Runes.E, List.mem_cons, List.not_mem_nil, or_false] at hp
    rcases hp with rfl
    · exact ⟨regletref02_Read.ok k, regletref02_Read.go⟩)
    (fun k i => (regletref02_Runes.O k)[i]?) regletref02_Runes.H (fun k x => regletref02_Runes.f k x.1)
    (fun id o y h => by
    have h' := List.mem_of_getElem? h
    simp only [regletref02_Runes.O, List.mem_cons, List.not_mem_nil, or_false] at h'
    rcases h' with rfl <;> rfl)
    (fun k p hp => by
    rw [show pts (cd Try.f17) regletref02_Runes.H = [(0, [1, 1, 0, 1, 0, 0])] by kernel_rfl] at hp
    simp only [List.mem_cons, List.not_mem_nil, or_false] at hp
    rcases hp with rfl
    · exact ptOk_of rfl (regletref02_Runes.l0_e k))
    (fun k x => by kernel_rfl) k
/-! reglet/regletref02.Kind -/
mutual
def regletref02_Kind.l0 : Nat → Int → (List (List Int)) → Int → Option Int
  | 0, _, _, _ => none
  | k + 1, r, kinds, k_ => if (decide (k_ < (kinds.length : Int))) = true then (regletref02_Kind.l1 k r kinds k_ 0) else (some 0)
def regletref02_Kind.l1 : Nat → Int → (List (List Int)) → Int → Int → Option Int
  | 0, _, _, _, _ => none
  | k + 1, r2, kinds2, k_2, i => (at? kinds2 k_2).bind fun e => if (decide (i < (e.length : Int))) = true then ((at? kinds2 k_2).bind fun e2 => (at? e2 i).bind fun e3 => if (decide (e3 = r2)) = true then (some k_2) else (regletref02_Kind.l1 k r2 kinds2 k_2 (wrap64 (i + 1)))) else (regletref02_Kind.l0 k r2 kinds2 (wrap64 (k_2 + 1)))
end
def regletref02_Kind.f (k : Nat) (a0 : Int) : Option Int := regletref02_Kind.l0 k a0 ([([] : List Int), ([32, 9] : List Int), ([160, 8239] : List Int), ([173] : List Int), ([8203] : List Int), ([8288, 65279] : List Int), ([45, 8208] : List Int), ([8232] : List Int), ([10] : List Int)] : List (List Int)) 1
def regletref02_Kind.sig (k : Nat) : Sig := .p [(false, (.i .i64))] [.c false (.i .i64)] fun x => regletref02_Kind.f k x.1
def regletref02_Kind.E (k : Nat) : List (Nat × Sig) := []
def regletref02_Kind.G (P : Program) : GI := ⟨P, TT, 41, 41, [], [], [], [], [], AD⟩
def regletref02_Kind.H : H := .s .n (.s .n (.s (.s .n (.s (.l 0 (.s .n (.s (.s (.s .n (.s (.l 1 (.s (.s (.f 3 .n) .n) .n)) .n)) .n) .n))) .n)) .n))
abbrev regletref02_Kind.l0_s : Sh := [(0, .v (.i .i64)), (3, .v y48), (4, .v (.i .i64))]
abbrev regletref02_Kind.l1_s : Sh := [(0, .v (.i .i64)), (3, .v y48), (4, .v (.i .i64)), (5, .v (.i .i64))]
def regletref02_Kind.O (k : Nat) : List (Orc (denR [.c false (.i .i64)])) := [⟨regletref02_Kind.l0_s, fun y => regletref02_Kind.l0 k y.1 y.2.1 y.2.2.1⟩, ⟨regletref02_Kind.l1_s, fun y => regletref02_Kind.l1 k y.1 y.2.1 y.2.2.1 y.2.2.2.1⟩]
theorem regletref02_Kind.l1_e (k : Nat) (y : denS regletref02_Kind.l1_s) : regletref02_Kind.l1 (k + 1) y.1 y.2.1 y.2.2.1 y.2.2.2.1 = evP ((regletref02_Kind.G Try.prog).at (regletref02_Kind.E k)) (fun i => (regletref02_Kind.O k)[i]?) [1, 1, 0, 1, 0, 0, 1, 0, 0, 1, 0, 0] (cd Try.f31) regletref02_Kind.H (kFin ((regletref02_Kind.G Try.prog).at (regletref02_Kind.E k)) [.tmp 2] [.c false (.i .i64)]) (unS regletref02_Kind.l1_s y) := by rw [regletref02_Kind.l1]; kernel_rfl
theorem regletref02_Kind.l0_e (k : Nat) (y : denS regletref02_Kind.l0_s) : regletref02_Kind.l0 (k + 1) y.1 y.2.1 y.2.2.1 = evP ((regletref02_Kind.G Try.prog).at (regletref02_Kind.E k)) (fun i => (regletref02_Kind.O k)[i]?) [1, 1, 0, 1, 0, 0] (cd Try.f31) regletref02_Kind.H (kFin ((regletref02_Kind.G Try.prog).at (regletref02_Kind.E k)) [.tmp 2] [.c false (.i .i64)]) (unS regletref02_Kind.l0_s y) := by rw [regletref02_Kind.l0]; kernel_rfl
theorem regletref02_Kind.go : goesTo Try.prog 31 := ⟨_, Try.func31, by kernel_rfl, rfl⟩
theorem regletref02_Kind.ok (k : Nat) : SigOk Try.prog 31 (regletref02_Kind.sig k) :=
  fn_p (G := regletref02_Kind.G Try.prog) (c := cd Try.f31) (rs := [.tmp 2]) (args := [(false, (.i .i64))]) (l := [.c false (.i .i64)]) (fn := Try.f31) ⟨Try.func31, by kernel_rfl, by kernel_rfl, by kernel_rfl, le_of rfl, le_of rfl, TT_ok, AD_ok⟩ rfl regletref02_Kind.E (fun k p hp => nomatch hp)
    (fun k i => (regletref02_Kind.O k)[i]?) regletref02_Kind.H (fun k x => regletref02_Kind.f k x.1)
    (fun id o y h => by
    have h' := List.mem_of_getElem? h
    simp only [regletref02_Kind.O, List.mem_cons, List.not_mem_nil, or_false] at h'
    rcases h' with rfl | rfl <;> rfl)
    (fun k p hp => by
    rw [show pts (cd Try.f31) regletref02_Kind.H = [(1, [1, 1, 0, 1, 0, 0, 1, 0, 0, 1, 0, 0]), (0, [1, 1, 0, 1, 0, 0])] by kernel_rfl] at hp
    simp only [List.mem_cons, List.not_mem_nil, or_false] at hp
    rcases hp with rfl | rfl
    · exact ptOk_of rfl (regletref02_Kind.l1_e k)
    · exact ptOk_of rfl (regletref02_Kind.l0_e k))
    (fun k x => by kernel_rfl) k
/-! reglet/regletref04.Of -/
mutual
def regletref04_Of.j0 : Nat → (List (Int × Int × Int × Int × Int × Int × List api_Range × Bool)) → Int → (Int × Int × Int × Int × Int × Int × List api_Range × Bool) → Option ((Int × Int × Int × Int × Int × Int × List api_Range × Bool))
  | 0, _, _, _ => none
  | k + 1, l, style, t => (at? l style).bind fun e => some e
end
def regletref04_Of.f (k : Nat) (a0 : List (Int × Int × Int × Int × Int × Int × List api_Range × Bool)) (a1 : Int) : Option ((Int × Int × Int × Int × Int × Int × List api_Range × Bool)) := if (decide (a1 < 0)) = true then (some (0, 0, 0, 0, 0, 0, ([] : List api_Range), (false))) else (if (decide ((a0.length : Int) ≤ a1)) = true then (some (0, 0, 0, 0, 0, 0, ([] : List api_Range), (false))) else (regletref04_Of.j0 k a0 a1 (0, 0, 0, 0, 0, 0, ([] : List api_Range), (false))))
def regletref04_Of.sig (k : Nat) : Sig := .p [(false, y38), (false, (.i .i64))] [.c true y37] fun x => regletref04_Of.f k x.1 x.2.1
def regletref04_Of.E (k : Nat) : List (Nat × Sig) := []
def regletref04_Of.G (P : Program) : GI := ⟨P, TT, 18, 26, [(4, 18, 8)], [], [], [], [], AD⟩
def regletref04_Of.H : H := .s .n (.j 0 .n .n)
abbrev regletref04_Of.j0_s : Sh := [(0, .v y38), (1, .v (.i .i64)), (4, .at_ 18), (18, .box y19)]
def regletref04_Of.O (k : Nat) : List (Orc (denR [.c true y37])) := [⟨regletref04_Of.j0_s, fun y => regletref04_Of.j0 k y.1 y.2.1 y.2.2.2.1⟩]
theorem regletref04_Of.j0_e (k : Nat) (y : denS regletref04_Of.j0_s) : regletref04_Of.j0 (k + 1) y.1 y.2.1 y.2.2.2.1 = evP ((regletref04_Of.G Try.prog).at (regletref04_Of.E k)) (fun i => (regletref04_Of.O k)[i]?) [1, 1] (cd Try.f33) regletref04_Of.H (kFin ((regletref04_Of.G Try.prog).at (regletref04_Of.E k)) [.cell 4 53] [.c true y37]) (unS regletref04_Of.j0_s y) := by rw [regletref04_Of.j0]; kernel_rfl
theorem regletref04_Of.go : goesTo Try.prog 33 := ⟨_, Try.func33, by kernel_rfl, rfl⟩
theorem regletref04_Of.ok (k : Nat) : SigOk Try.prog 33 (regletref04_Of.sig k) :=
  fn_p (G := regletref04_Of.G Try.prog) (c := cd Try.f33) (rs := [.cell 4 53]) (args := [(false, y38), (false, (.i .i64))]) (l := [.c true y37]) (fn := Try.f33) ⟨Try.func33, by kernel_rfl, by kernel_rfl, by kernel_rfl, le_of rfl, le_of rfl, TT_ok, AD_ok⟩ rfl regletref04_Of.E (fun k p hp => nomatch hp)
    (fun k i => (regletref04_Of.O k)[i]?) regletref04_Of.H (fun k x => regletref04_Of.f k x.1 x.2.1)
    (fun id o y h => by
    have h' := List.mem_of_getElem? h
    simp only [regletref04_Of.O, List.mem_cons, List.not_mem_nil, or_false] at h'
    rcases h' with rfl <;> rfl)
    (fun k p hp => by
    rw [show pts (cd Try.f33) regletref04_Of.H = [(0, [1, 1])] by kernel_rfl] at hp
    simp only [List.mem_cons, List.not_mem_nil, or_false] at hp
    rcases hp with rfl
    · exact ptOk_of rfl (regletref04_Of.j0_e k))
    (fun k x => by kernel_rfl) k
/-! reglet/regletref04.Width -/
mutual
def regletref04_Width.j0 : Nat → Int → Int → Bool → (Int × Int × Int × Int × Int × Int × List api_Range × Bool) → Option Int
  | 0, _, _, _, _ => none
  | k + 1, r3, t, t2, s => if t2 = true then (some s.2.1) else (if (decide (t = 3)) = true then (regletref04_Width.j1 k r3 true s) else (if (decide (t = 4)) = true then (regletref04_Width.j1 k r3 true s) else (if (decide (t = 5)) = true then (regletref04_Width.j1 k r3 true s) else (if (decide (t = 7)) = true then (regletref04_Width.j1 k r3 true s) else (regletref04_Width.j1 k r3 (decide (t = 8)) s)))))
def regletref04_Width.j1 : Nat → Int → Bool → (Int × Int × Int × Int × Int × Int × List api_Range × Bool) → Option Int
  | 0, _, _, _ => none
  | k + 1, r4, t3, s2 => if t3 = true then (some 0) else (regletref04_Width.l2 k r4 0 s2)
def regletref04_Width.l2 : Nat → Int → Int → (Int × Int × Int × Int × Int × Int × List api_Range × Bool) → Option Int
  | 0, _, _, _ => none
  | k + 1, r5, i, s3 => if (decide (i < (s3.2.2.2.2.2.2.1.length : Int))) = true then ((at? s3.2.2.2.2.2.2.1 i).bind fun e => if (decide (e.1 ≤ r5)) = true then ((at? s3.2.2.2.2.2.2.1 i).bind fun e2 => if (decide (r5 ≤ e2.2.1)) = true then ((at? s3.2.2.2.2.2.2.1 i).bind fun e3 => some e3.2.2) else (regletref04_Width.j3 k r5 i s3)) else (regletref04_Width.j3 k r5 i s3)) else (some s3.2.2.2.2.2.1)
def regletref04_Width.j3 : Nat → Int → Int → (Int × Int × Int × Int × Int × Int × List api_Range × Bool) → Option Int
  | 0, _, _, _ => none
  | k + 1, r6, i2, s4 => regletref04_Width.l2 k r6 (wrap64 (i2 + 1)) s4
end
def regletref04_Width.f (k : Nat) (a0 : List (Int × Int × Int × Int × Int × Int × List api_Range × Bool)) (a1 : Int) (a2 : Int) : Option Int := (regletref04_Of.f k a0 a1).bind fun r => (regletref02_Kind.f k a2).bind fun r2 => if (decide (r2 = 1)) = true then (regletref04_Width.j0 k a2 r2 true r) else (regletref04_Width.j0 k a2 r2 (decide (r2 = 2)) r)
def regletref04_Width.sig (k : Nat) : Sig := .p [(false, y38), (false, (.i .i64)), (false, (.i .i64))] [.c false (.i .i64)] fun x => regletref04_Width.f k x.1 x.2.1 x.2.2.1
def regletref04_Width.E (k : Nat) : List (Nat × Sig) := [(31, regletref02_Kind.sig k), (33, regletref04_Of.sig k)]
def regletref04_Width.G (P : Program) : GI := ⟨P, TT, 58, 66, [(7, 58, 8)], [], [], [], [], AD⟩
def regletref04_Width.H : H := .s .n (.s .n (.s (.s .n (.s (.j 0 .n (.s .n (.j 1 .n .n))) .n)) (.s (.s .n (.s (.l 2 (.s .n (.j 3 .n .n))) .n)) .n)))
abbrev regletref04_Width.j0_s : Sh := [(2, .v (.i .i64)), (7, .at_ 58), (13, .v (.i .i64)), (14, .v .b), (58, .box y37)]
abbrev regletref04_Width.j1_s : Sh := [(2, .v (.i .i64)), (7, .at_ 58), (19, .v .b), (58, .box y37)]
abbrev regletref04_Width.l2_s : Sh := [(2, .v (.i .i64)), (7, .at_ 58), (8, .v (.i .i64)), (58, .box y37)]
abbrev regletref04_Width.j3_s : Sh := [(2, .v (.i .i64)), (7, .at_ 58), (8, .v (.i .i64)), (58, .box y37)]
def regletref04_Width.O (k : Nat) : List (Orc (denR [.c false (.i .i64)])) := [⟨regletref04_Width.j0_s, fun y => regletref04_Width.j0 k y.1 y.2.2.1 y.2.2.2.1 y.2.2.2.2.1⟩, ⟨regletref04_Width.j1_s, fun y => regletref04_Width.j1 k y.1 y.2.2.1 y.2.2.2.1⟩, ⟨regletref04_Width.l2_s, fun y => regletref04_Width.l2 k y.1 y.2.2.1 y.2.2.2.1⟩, ⟨regletref04_Width.j3_s, fun y => regletref04_Width.j3 k y.1 y.2.2.1 y.2.2.2.1⟩]
theorem regletref04_Width.j1_e (k : Nat) (y : denS regletref04_Width.j1_s) : regletref04_Width.j1 (k + 1) y.1 y.2.2.1 y.2.2.2.1 = evP ((regletref04_Width.G Try.prog).at (regletref04_Width.E k)) (fun i => (regletref04_Width.O k)[i]?) [1, 1, 0, 1, 0, 1, 1, 1] (cd Try.f18) regletref04_Width.H (kFin ((regletref04_Width.G Try.prog).at (regletref04_Width.E k)) [.tmp 6] [.c false (.i .i64)]) (unS regletref04_Width.j1_s y) := by rw [regletref04_Width.j1]; kernel_rfl
theorem regletref04_Width.j0_e (k : Nat) (y : denS regletref04_Width.j0_s) : regletref04_Width.j0 (k + 1) y.1 y.2.2.1 y.2.2.2.1 y.2.2.2.2.1 = evP ((regletref04_Width.G Try.prog).at (regletref04_Width.E k)) (fun i => (regletref04_Width.O k)[i]?) [1, 1, 0, 1, 0, 1] (cd Try.f18) regletref04_Width.H (kFin ((regletref04_Width.G Try.prog).at (regletref04_Width.E k)) [.tmp 6] [.c false (.i .i64)]) (unS regletref04_Width.j0_s y) := by rw [regletref04_Width.j0]; kernel_rfl
theorem regletref04_Width.j3_e (k : Nat) (y : denS regletref04_Width.j3_s) : regletref04_Width.j3 (k + 1) y.1 y.2.2.1 y.2.2.2.1 = evP ((regletref04_Width.G Try.prog).at (regletref04_Width.E k)) (fun i => (regletref04_Width.O k)[i]?) [1, 1, 1, 0, 1, 0, 0, 1, 1] (cd Try.f18) regletref04_Width.H (kFin ((regletref04_Width.G Try.prog).at (regletref04_Width.E k)) [.tmp 6] [.c false (.i .i64)]) (unS regletref04_Width.j3_s y) := by rw [regletref04_Width.j3]; kernel_rfl
theorem regletref04_Width.l2_e (k : Nat) (y : denS regletref04_Width.l2_s) : regletref04_Width.l2 (k + 1) y.1 y.2.2.1 y.2.2.2.1 = evP ((regletref04_Width.G Try.prog).at (regletref04_Width.E k)) (fun i => (regletref04_Width.O k)[i]?) [1, 1, 1, 0, 1, 0, 0] (cd Try.f18) regletref04_Width.H (kFin ((regletref04_Width.G Try.prog).at (regletref04_Width.E k)) [.tmp 6] [.c false (.i .i64)]) (unS regletref04_Width.l2_s y) := by rw [regletref04_Width.l2]; kernel_rfl
theorem regletref04_Width.go : goesTo Try.prog 18 := ⟨_, Try.func18, by kernel_rfl, rfl⟩
theorem regletref04_Width.ok (k : Nat) : SigOk Try.prog 18 (regletref04_Width.sig k) :=
  fn_p (G := regletref04_Width.G Try.prog) (c := cd Try.f18) (rs := [.tmp 6]) (args := [(false, y38), (false, (.i .i64)), (false, (.i .i64))]) (l := [.c false (.i .i64)]) (fn := Try.f18) ⟨Try.func18, by kernel_rfl, by kernel_rfl, by kernel_rfl, le_of rfl, le_of rfl, TT_ok, AD_ok⟩ rfl regletref04_Width.E (fun k p hp => by
    simp only [regletref04_Width.E, List.mem_cons, List.not_mem_nil, or_false] at hp
    rcases hp with rfl | rfl
    · exact ⟨regletref02_Kind.ok k, regletref02_Kind.go⟩
    · exact ⟨regletref04_Of.ok k, regletref04_Of.go⟩)
    (fun k i => (regletref04_Width.O k)[i]?) regletref04_Width.H (fun k x => regletref04_Width.f k x.1 x.2.1 x.2.2.1)
    (fun id o y h => by
    have h' := List.mem_of_getElem? h
    simp only [regletref04_Width.O, List.mem_cons, List.not_mem_nil, or_false] at h'
    rcases h' with rfl | rfl | rfl | rfl <;> rfl)
    (fun k p hp => by
    rw [show pts (cd Try.f18) regletref04_Width.H = [(1, [1, 1, 0, 1, 0, 1, 1, 1]), (0, [1, 1, 0, 1, 0, 1]), (3, [1, 1, 1, 0, 1, 0, 0, 1, 1]), (2, [1, 1, 1, 0, 1, 0, 0])] by kernel_rfl] at hp
    simp only [List.mem_cons, List.not_mem_nil, or_false] at hp
    rcases hp with rfl | rfl | rfl | rfl
    · exact ptOk_of rfl (regletref04_Width.j1_e k)
    · exact ptOk_of rfl (regletref04_Width.j0_e k)
    · exact ptOk_of rfl (regletref04_Width.j3_e k)
    · exact ptOk_of rfl (regletref04_Width.l2_e k))
    (fun k x => by kernel_rfl) k
/-! reglet/regletref07.StyleAt -/
mutual
def regletref07_StyleAt.l0 : Nat → (List api_Run) → Int → Int → Option Int
  | 0, _, _, _ => none
  | k + 1, list, at_, i => if (decide (i < (list.length : Int))) = true then ((at? list i).bind fun e => if (decide (at_ < e.1)) = true then ((at? list i).bind fun e2 => some e2.2) else ((at? list i).bind fun e3 => regletref07_StyleAt.l0 k list (wrap64 (at_ - e3.1)) (wrap64 (i + 1)))) else (some 0)
end
def regletref07_StyleAt.f (k : Nat) (a0 : List api_Run) (a1 : Int) : Option Int := regletref07_StyleAt.l0 k a0 a1 0
def regletref07_StyleAt.sig (k : Nat) : Sig := .p [(false, y22), (false, (.i .i64))] [.c false (.i .i64)] fun x => regletref07_StyleAt.f k x.1 x.2.1
def regletref07_StyleAt.E (k : Nat) : List (Nat × Sig) := []
def regletref07_StyleAt.G (P : Program) : GI := ⟨P, TT, 31, 31, [], [], [], [], [], AD⟩
def regletref07_StyleAt.H : H := .s .n (.s (.s .n (.s (.l 0 .n) .n)) .n)
abbrev regletref07_StyleAt.l0_s : Sh := [(0, .v y22), (1, .v (.i .i64)), (5, .v (.i .i64))]
def regletref07_StyleAt.O (k : Nat) : List (Orc (denR [.c false (.i .i64)])) := [⟨regletref07_StyleAt.l0_s, fun y => regletref07_StyleAt.l0 k y.1 y.2.1 y.2.2.1⟩]
theorem regletref07_StyleAt.l0_e (k : Nat) (y : denS regletref07_StyleAt.l0_s) : regletref07_StyleAt.l0 (k + 1) y.1 y.2.1 y.2.2.1 = evP ((regletref07_StyleAt.G Try.prog).at (regletref07_StyleAt.E k)) (fun i => (regletref07_StyleAt.O k)[i]?) [1, 0, 1, 0, 0] (cd Try.f19) regletref07_StyleAt.H (kFin ((regletref07_StyleAt.G Try.prog).at (regletref07_StyleAt.E k)) [.tmp 4] [.c false (.i .i64)]) (unS regletref07_StyleAt.l0_s y) := by rw [regletref07_StyleAt.l0]; kernel_rfl
theorem regletref07_StyleAt.go : goesTo Try.prog 19 := ⟨_, Try.func19, by kernel_rfl, rfl⟩
theorem regletref07_StyleAt.ok (k : Nat) : SigOk Try.prog 19 (regletref07_StyleAt.sig k) :=
  fn_p (G := regletref07_StyleAt.G Try.prog) (c := cd Try.f19) (rs := [.tmp 4]) (args := [(false, y22), (false, (.i .i64))]) (l := [.c false (.i .i64)]) (fn := Try.f19) ⟨Try.func19, by kernel_rfl, by kernel_rfl, by kernel_rfl, le_of rfl, le_of rfl, TT_ok, AD_ok⟩ rfl regletref07_StyleAt.E (fun k p hp => nomatch hp)
    (fun k i => (regletref07_StyleAt.O k)[i]?) regletref07_StyleAt.H (fun k x => regletref07_StyleAt.f k x.1 x.2.1)
    (fun id o y h => by
    have h' := List.mem_of_getElem? h
    simp only [regletref07_StyleAt.O, List.mem_cons, List.not_mem_nil, or_false] at h'
    rcases h' with rfl <;> rfl)
    (fun k p hp => by
    rw [show pts (cd Try.f19) regletref07_StyleAt.H = [(0, [1, 0, 1, 0, 0])] by kernel_rfl] at hp
    simp only [List.mem_cons, List.not_mem_nil, or_false] at hp
    rcases hp with rfl
    · exact ptOk_of rfl (regletref07_StyleAt.l0_e k))
    (fun k x => by kernel_rfl) k
/-! reglet/regletref02.Right -/
def regletref02_Right.f (k : Nat) (a0 : ByteArray) : Option Bool := (regletref02_Runes.f k a0).bind fun r => some (decide (r.2.2 < 0))
def regletref02_Right.sig (k : Nat) : Sig := .p [(false, .s)] [.c false .b] fun x => regletref02_Right.f k x.1
def regletref02_Right.E (k : Nat) : List (Nat × Sig) := [(17, regletref02_Runes.sig k)]
def regletref02_Right.G (P : Program) : GI := ⟨P, TT, 14, 14, [], [], [], [], [], AD⟩
def regletref02_Right.H : H := .n
def regletref02_Right.O (k : Nat) : List (Orc (denR [.c false .b])) := []
theorem regletref02_Right.go : goesTo Try.prog 50 := ⟨_, Try.func50, by kernel_rfl, rfl⟩
theorem regletref02_Right.ok (k : Nat) : SigOk Try.prog 50 (regletref02_Right.sig k) :=
  fn_p (G := regletref02_Right.G Try.prog) (c := cd Try.f50) (rs := [.tmp 2]) (args := [(false, .s)]) (l := [.c false .b]) (fn := Try.f50) ⟨Try.func50, by kernel_rfl, by kernel_rfl, by kernel_rfl, le_of rfl, le_of rfl, TT_ok, AD_ok⟩ rfl regletref02_Right.E (fun k p hp => by
    simp only [regletref02_Right.E, List.mem_cons, List.not_mem_nil, or_false] at hp
    rcases hp with rfl
    · exact ⟨regletref02_Runes.ok k, regletref02_Runes.go⟩)
    (fun k i => (regletref02_Right.O k)[i]?) regletref02_Right.H (fun k x => regletref02_Right.f k x.1)
    (fun id o y h => by cases id <;> cases h)
    (fun k p hp => by rw [show pts (cd Try.f50) regletref02_Right.H = [] by kernel_rfl] at hp; nomatch hp)
    (fun k x => by kernel_rfl) k
/-! reglet/regletref02.Between -/
mutual
def regletref02_Between.l0 : Nat → ByteArray → Int → (List Int) → Int → Option Bool
  | 0, _, _, _, _ => none
  | k + 1, s, at_, l, i => if (decide (i < (l.length : Int))) = true then (if 0 ≤ i ∧ i < (l.length : Int) then ((l[i.toNat]?).bind fun e => if (decide (e = at_)) = true then (some true) else (regletref02_Between.l0 k s at_ l (wrap64 (i + 1)))) else none) else (some (decide (at_ = (s.size : Int))))
end
def regletref02_Between.f (k : Nat) (a0 : ByteArray) (a1 : Int) : Option Bool := (regletref02_Runes.f k a0).bind fun r => regletref02_Between.l0 k a0 a1 r.2.1 0
def regletref02_Between.sig (k : Nat) : Sig := .p [(false, .s), (false, (.i .i64))] [.c false .b] fun x => regletref02_Between.f k x.1 x.2.1
def regletref02_Between.E (k : Nat) : List (Nat × Sig) := [(17, regletref02_Runes.sig k)]
def regletref02_Between.G (P : Program) : GI := ⟨P, TT, 31, 31, [], [], [], [], [], AD⟩
def regletref02_Between.H : H := .s .n (.s .n (.s (.s .n (.s (.l 0 .n) .n)) .n))
abbrev regletref02_Between.l0_s : Sh := [(0, .v .s), (1, .v (.i .i64)), (6, .v y10), (8, .v (.i .i64))]
def regletref02_Between.O (k : Nat) : List (Orc (denR [.c false .b])) := [⟨regletref02_Between.l0_s, fun y => regletref02_Between.l0 k y.1 y.2.1 y.2.2.1 y.2.2.2.1⟩]
theorem regletref02_Between.l0_e (k : Nat) (y : denS regletref02_Between.l0_s) : regletref02_Between.l0 (k + 1) y.1 y.2.1 y.2.2.1 y.2.2.2.1 = evP ((regletref02_Between.G Try.prog).at (regletref02_Between.E k)) (fun i => (regletref02_Between.O k)[i]?) [1, 1, 0, 1, 0, 0] (cd Try.f51) regletref02_Between.H (kFin ((regletref02_Between.G Try.prog).at (regletref02_Between.E k)) [.tmp 4] [.c false .b]) (unS regletref02_Between.l0_s y) := by rw [regletref02_Between.l0]; kernel_rfl
theorem regletref02_Between.go : goesTo Try.prog 51 := ⟨_, Try.func51, by kernel_rfl, rfl⟩
theorem regletref02_Between.ok (k : Nat) : SigOk Try.prog 51 (regletref02_Between.sig k) :=
  fn_p (G := regletref02_Between.G Try.prog) (c := cd Try.f51) (rs := [.tmp 4]) (args := [(false, .s), (false, (.i .i64))]) (l := [.c false .b]) (fn := Try.f51) ⟨Try.func51, by kernel_rfl, by kernel_rfl, by kernel_rfl, le_of rfl, le_of rfl, TT_ok, AD_ok⟩ rfl regletref02_Between.E (fun k p hp => by
    simp only [regletref02_Between.E, List.mem_cons, List.not_mem_nil, or_false] at hp
    rcases hp with rfl
    · exact ⟨regletref02_Runes.ok k, regletref02_Runes.go⟩)
    (fun k i => (regletref02_Between.O k)[i]?) regletref02_Between.H (fun k x => regletref02_Between.f k x.1 x.2.1)
    (fun id o y h => by
    have h' := List.mem_of_getElem? h
    simp only [regletref02_Between.O, List.mem_cons, List.not_mem_nil, or_false] at h'
    rcases h' with rfl <;> rfl)
    (fun k p hp => by
    rw [show pts (cd Try.f51) regletref02_Between.H = [(0, [1, 1, 0, 1, 0, 0])] by kernel_rfl] at hp
    simp only [List.mem_cons, List.not_mem_nil, or_false] at hp
    rcases hp with rfl
    · exact ptOk_of rfl (regletref02_Between.l0_e k))
    (fun k x => by kernel_rfl) k
/-! reglet/regletref07.Check -/
mutual
def regletref07_Check.l0 : Nat → (List (Int × Int × Int × Int × Int × Int × List api_Range × Bool)) → ByteArray → (List api_Run) → Int → Option Int
  | 0, _, _, _, _ => none
  | k + 1, t, t2, t3, t4 => if (decide ((wrap64 (t4 + 1)) < (t2.size : Int))) = true then ((bAt t2 t4).bind fun e => if (decide (e = 10)) = true then (some 70) else (regletref07_Check.l0 k t t2 t3 (wrap64 (t4 + 1)))) else (regletref07_Check.l1 k t t2 t3 0 0)
def regletref07_Check.l1 : Nat → (List (Int × Int × Int × Int × Int × Int × List api_Range × Bool)) → ByteArray → (List api_Run) → Int → Int → Option Int
  | 0, _, _, _, _, _ => none
  | k + 1, t5, t6, t7, t8, t9 => if (decide (t9 < (t7.length : Int))) = true then ((at? t7 t9).bind fun e2 => if (decide (e2.1 < 0)) = true then (some 70) else ((at? t7 t9).bind fun e3 => if (decide ((wrap64 ((t6.size : Int) - t8)) < e3.1)) = true then (some 70) else (regletref07_Check.j2 k t5 t6 t7 t8 t9))) else (if (!decide (t8 = (t6.size : Int))) = true then (some 70) else (some 0))
def regletref07_Check.j2 : Nat → (List (Int × Int × Int × Int × Int × Int × List api_Range × Bool)) → ByteArray → (List api_Run) → Int → Int → Option Int
  | 0, _, _, _, _, _ => none
  | k + 1, t10, t11, t12, t13, t14 => (at? t12 t14).bind fun e4 => if (decide (e4.2 < 0)) = true then (some 43) else ((at? t12 t14).bind fun e5 => if (decide ((t10.length : Int) ≤ e5.2)) = true then (some 43) else (regletref07_Check.j3 k t10 t11 t12 t13 t14))
def regletref07_Check.j3 : Nat → (List (Int × Int × Int × Int × Int × Int × List api_Range × Bool)) → ByteArray → (List api_Run) → Int → Int → Option Int
  | 0, _, _, _, _, _ => none
  | k + 1, t15, t16, t17, t18, t19 => (at? t17 t19).bind fun e6 => (regletref02_Between.f k t16 (wrap64 (t18 + e6.1))).bind fun r2 => if (!r2) = true then (some 21) else (regletref07_Check.l1 k t15 t16 t17 (wrap64 (t18 + e6.1)) (wrap64 (t19 + 1)))
end
def regletref07_Check.f (k : Nat) (a0 : List (Int × Int × Int × Int × Int × Int × List api_Range × Bool)) (a1 : ByteArray) (a2 : List api_Run) : Option Int := (regletref02_Right.f k a1).bind fun r => if (!r) = true then (some 20) else (if (decide (a1 = ByteArray.empty)) = true then (some 70) else (regletref07_Check.l0 k a0 a1 a2 0))
def regletref07_Check.sig (k : Nat) : Sig := .p [(false, y11), (false, .s), (false, y22)] [.c false (.i .i64)] fun x => regletref07_Check.f k x.1 x.2.1 x.2.2.1
def regletref07_Check.E (k : Nat) : List (Nat × Sig) := [(50, regletref02_Right.sig k), (51, regletref02_Between.sig k)]
def regletref07_Check.G (P : Program) : GI := ⟨P, TT, 81, 81, [], [], [], [], [], AD⟩
def regletref07_Check.H : H := .s .n (.s .n (.s .n (.s (.s .n (.s (.l 0 .n) .n)) (.s .n (.s (.s .n (.s (.l 1 (.s .n (.s (.s (.j 2 .n (.j 3 .n .n)) .n) .n))) .n)) .n)))))
abbrev regletref07_Check.l0_s : Sh := [(0, .v y11), (1, .v .s), (2, .v y22), (7, .v (.i .i64))]
abbrev regletref07_Check.l1_s : Sh := [(0, .v y11), (1, .v .s), (2, .v y22), (8, .v (.i .i64)), (9, .v (.i .i64))]
abbrev regletref07_Check.j2_s : Sh := [(0, .v y11), (1, .v .s), (2, .v y22), (8, .v (.i .i64)), (9, .v (.i .i64))]
abbrev regletref07_Check.j3_s : Sh := [(0, .v y11), (1, .v .s), (2, .v y22), (8, .v (.i .i64)), (9, .v (.i .i64))]
def regletref07_Check.O (k : Nat) : List (Orc (denR [.c false (.i .i64)])) := [⟨regletref07_Check.l0_s, fun y => regletref07_Check.l0 k y.1 y.2.1 y.2.2.1 y.2.2.2.1⟩, ⟨regletref07_Check.l1_s, fun y => regletref07_Check.l1 k y.1 y.2.1 y.2.2.1 y.2.2.2.1 y.2.2.2.2.1⟩, ⟨regletref07_Check.j2_s, fun y => regletref07_Check.j2 k y.1 y.2.1 y.2.2.1 y.2.2.2.1 y.2.2.2.2.1⟩, ⟨regletref07_Check.j3_s, fun y => regletref07_Check.j3 k y.1 y.2.1 y.2.2.1 y.2.2.2.1 y.2.2.2.2.1⟩]
theorem regletref07_Check.l0_e (k : Nat) (y : denS regletref07_Check.l0_s) : regletref07_Check.l0 (k + 1) y.1 y.2.1 y.2.2.1 y.2.2.2.1 = evP ((regletref07_Check.G Try.prog).at (regletref07_Check.E k)) (fun i => (regletref07_Check.O k)[i]?) [1, 1, 1, 0, 1, 0, 0] (cd Try.f30) regletref07_Check.H (kFin ((regletref07_Check.G Try.prog).at (regletref07_Check.E k)) [.tmp 6] [.c false (.i .i64)]) (unS regletref07_Check.l0_s y) := by rw [regletref07_Check.l0]; kernel_rfl
theorem regletref07_Check.j3_e (k : Nat) (y : denS regletref07_Check.j3_s) : regletref07_Check.j3 (k + 1) y.1 y.2.1 y.2.2.1 y.2.2.2.1 y.2.2.2.2.1 = evP ((regletref07_Check.G Try.prog).at (regletref07_Check.E k)) (fun i => (regletref07_Check.O k)[i]?) [1, 1, 1, 1, 1, 0, 1, 0, 0, 1, 0, 0, 1, 1] (cd Try.f30) regletref07_Check.H (kFin ((regletref07_Check.G Try.prog).at (regletref07_Check.E k)) [.tmp 6] [.c false (.i .i64)]) (unS regletref07_Check.j3_s y) := by rw [regletref07_Check.j3]; kernel_rfl
theorem regletref07_Check.j2_e (k : Nat) (y : denS regletref07_Check.j2_s) : regletref07_Check.j2 (k + 1) y.1 y.2.1 y.2.2.1 y.2.2.2.1 y.2.2.2.2.1 = evP ((regletref07_Check.G Try.prog).at (regletref07_Check.E k)) (fun i => (regletref07_Check.O k)[i]?) [1, 1, 1, 1, 1, 0, 1, 0, 0, 1, 0, 0, 1] (cd Try.f30) regletref07_Check.H (kFin ((regletref07_Check.G Try.prog).at (regletref07_Check.E k)) [.tmp 6] [.c false (.i .i64)]) (unS regletref07_Check.j2_s y) := by rw [regletref07_Check.j2]; kernel_rfl
theorem regletref07_Check.l1_e (k : Nat) (y : denS regletref07_Check.l1_s) : regletref07_Check.l1 (k + 1) y.1 y.2.1 y.2.2.1 y.2.2.2.1 y.2.2.2.2.1 = evP ((regletref07_Check.G Try.prog).at (regletref07_Check.E k)) (fun i => (regletref07_Check.O k)[i]?) [1, 1, 1, 1, 1, 0, 1, 0, 0] (cd Try.f30) regletref07_Check.H (kFin ((regletref07_Check.G Try.prog).at (regletref07_Check.E k)) [.tmp 6] [.c false (.i .i64)]) (unS regletref07_Check.l1_s y) := by rw [regletref07_Check.l1]; kernel_rfl
theorem regletref07_Check.go : goesTo Try.prog 30 := ⟨_, Try.func30, by kernel_rfl, rfl⟩
theorem regletref07_Check.ok (k : Nat) : SigOk Try.prog 30 (regletref07_Check.sig k) :=
  fn_p (G := regletref07_Check.G Try.prog) (c := cd Try.f30) (rs := [.tmp 6]) (args := [(false, y11), (false, .s), (false, y22)]) (l := [.c false (.i .i64)]) (fn := Try.f30) ⟨Try.func30, by kernel_rfl, by kernel_rfl, by kernel_rfl, le_of rfl, le_of rfl, TT_ok, AD_ok⟩ rfl regletref07_Check.E (fun k p hp => by
    simp only [regletref07_Check.E, List.mem_cons, List.not_mem_nil, or_false] at hp
    rcases hp with rfl | rfl
    · exact ⟨regletref02_Right.ok k, regletref02_Right.go⟩
    · exact ⟨regletref02_Between.ok k, regletref02_Between.go⟩)
    (fun k i => (regletref07_Check.O k)[i]?) regletref07_Check.H (fun k x => regletref07_Check.f k x.1 x.2.1 x.2.2.1)
    (fun id o y h => by
    have h' := List.mem_of_getElem? h
    simp only [regletref07_Check.O, List.mem_cons, List.not_mem_nil, or_false] at h'
    rcases h' with rfl | rfl | rfl | rfl <;> rfl)
    (fun k p hp => by
    rw [show pts (cd Try.f30) regletref07_Check.H = [(0, [1, 1, 1, 0, 1, 0, 0]), (3, [1, 1, 1, 1, 1, 0, 1, 0, 0, 1, 0, 0, 1, 1]), (2, [1, 1, 1, 1, 1, 0, 1, 0, 0, 1, 0, 0, 1]), (1, [1, 1, 1, 1, 1, 0, 1, 0, 0])] by kernel_rfl] at hp
    simp only [List.mem_cons, List.not_mem_nil, or_false] at hp
    rcases hp with rfl | rfl | rfl | rfl
    · exact ptOk_of rfl (regletref07_Check.l0_e k)
    · exact ptOk_of rfl (regletref07_Check.j3_e k)
    · exact ptOk_of rfl (regletref07_Check.j2_e k)
    · exact ptOk_of rfl (regletref07_Check.l1_e k))
    (fun k x => by kernel_rfl) k
/-! reglet/regletref01.Clamp -/
def regletref01_Clamp.f (k : Nat) (a0 : Int) : Option Int := if (decide (1152921504606846976 < a0)) = true then (some 1152921504606846976) else (if (decide (a0 < (-1152921504606846976))) = true then (some (-1152921504606846976)) else (some a0))
def regletref01_Clamp.sig (k : Nat) : Sig := .p [(false, (.i .i64))] [.c false (.i .i64)] fun x => regletref01_Clamp.f k x.1
def regletref01_Clamp.E (k : Nat) : List (Nat × Sig) := []
def regletref01_Clamp.G (P : Program) : GI := ⟨P, TT, 8, 8, [], [], [], [], [], AD⟩
def regletref01_Clamp.H : H := .n
def regletref01_Clamp.O (k : Nat) : List (Orc (denR [.c false (.i .i64)])) := []
theorem regletref01_Clamp.go : goesTo Try.prog 52 := ⟨_, Try.func52, by kernel_rfl, rfl⟩
theorem regletref01_Clamp.ok (k : Nat) : SigOk Try.prog 52 (regletref01_Clamp.sig k) :=
  fn_p (G := regletref01_Clamp.G Try.prog) (c := cd Try.f52) (rs := [.tmp 2]) (args := [(false, (.i .i64))]) (l := [.c false (.i .i64)]) (fn := Try.f52) ⟨Try.func52, by kernel_rfl, by kernel_rfl, by kernel_rfl, le_of rfl, le_of rfl, TT_ok, AD_ok⟩ rfl regletref01_Clamp.E (fun k p hp => nomatch hp)
    (fun k i => (regletref01_Clamp.O k)[i]?) regletref01_Clamp.H (fun k x => regletref01_Clamp.f k x.1)
    (fun id o y h => by cases id <;> cases h)
    (fun k p hp => by rw [show pts (cd Try.f52) regletref01_Clamp.H = [] by kernel_rfl] at hp; nomatch hp)
    (fun k x => by kernel_rfl) k
/-! reglet/regletref01.Add -/
def regletref01_Add.f (k : Nat) (a0 : Int) (a1 : Int) : Option Int := (regletref01_Clamp.f k a0).bind fun r => (regletref01_Clamp.f k a1).bind fun r2 => (regletref01_Clamp.f k (wrap64 (r + r2))).bind fun r3 => some r3
def regletref01_Add.sig (k : Nat) : Sig := .p [(false, (.i .i64)), (false, (.i .i64))] [.c false (.i .i64)] fun x => regletref01_Add.f k x.1 x.2.1
def regletref01_Add.E (k : Nat) : List (Nat × Sig) := [(52, regletref01_Clamp.sig k)]
def regletref01_Add.G (P : Program) : GI := ⟨P, TT, 11, 11, [], [], [], [], [], AD⟩
def regletref01_Add.H : H := .n
def regletref01_Add.O (k : Nat) : List (Orc (denR [.c false (.i .i64)])) := []
theorem regletref01_Add.go : goesTo Try.prog 32 := ⟨_, Try.func32, by kernel_rfl, rfl⟩
theorem regletref01_Add.ok (k : Nat) : SigOk Try.prog 32 (regletref01_Add.sig k) :=
  fn_p (G := regletref01_Add.G Try.prog) (c := cd Try.f32) (rs := [.tmp 4]) (args := [(false, (.i .i64)), (false, (.i .i64))]) (l := [.c false (.i .i64)]) (fn := Try.f32) ⟨Try.func32, by kernel_rfl, by kernel_rfl, by kernel_rfl, le_of rfl, le_of rfl, TT_ok, AD_ok⟩ rfl regletref01_Add.E (fun k p hp => by
    simp only [regletref01_Add.E, List.mem_cons, List.not_mem_nil, or_false] at hp
    rcases hp with rfl
    · exact ⟨regletref01_Clamp.ok k, regletref01_Clamp.go⟩)
    (fun k i => (regletref01_Add.O k)[i]?) regletref01_Add.H (fun k x => regletref01_Add.f k x.1 x.2.1)
    (fun id o y h => by cases id <;> cases h)
    (fun k p hp => by rw [show pts (cd Try.f32) regletref01_Add.H = [] by kernel_rfl] at hp; nomatch hp)
    (fun k x => by kernel_rfl) k
/-! reglet/regletref07.fill -/
def regletref07_fill.f (k : Nat) (a0 : Int) (a1 : Int) : Option (List api_Item) := some ([(2, 0, 0, 0, (true), 0, (false), a0, a0), (3, 0, 0, 0, (false), (-10000), (false), a0, a1)] : List api_Item)
def regletref07_fill.sig (k : Nat) : Sig := .p [(false, (.i .i64)), (false, (.i .i64))] [.c false y40] fun x => regletref07_fill.f k x.1 x.2.1
def regletref07_fill.E (k : Nat) : List (Nat × Sig) := []
def regletref07_fill.G (P : Program) : GI := ⟨P, TT, 12, 12, [], [], [], [], [], AD⟩
def regletref07_fill.H : H := .n
def regletref07_fill.O (k : Nat) : List (Orc (denR [.c false y40])) := []
theorem regletref07_fill.go : goesTo Try.prog 34 := ⟨_, Try.func34, by kernel_rfl, rfl⟩
theorem regletref07_fill.ok (k : Nat) : SigOk Try.prog 34 (regletref07_fill.sig k) :=
  fn_p (G := regletref07_fill.G Try.prog) (c := cd Try.f34) (rs := [.tmp 4]) (args := [(false, (.i .i64)), (false, (.i .i64))]) (l := [.c false y40]) (fn := Try.f34) ⟨Try.func34, by kernel_rfl, by kernel_rfl, by kernel_rfl, le_of rfl, le_of rfl, TT_ok, AD_ok⟩ rfl regletref07_fill.E (fun k p hp => nomatch hp)
    (fun k i => (regletref07_fill.O k)[i]?) regletref07_fill.H (fun k x => regletref07_fill.f k x.1 x.2.1)
    (fun id o y h => by cases id <;> cases h)
    (fun k p hp => by rw [show pts (cd Try.f34) regletref07_fill.H = [] by kernel_rfl] at hp; nomatch hp)
    (fun k x => by kernel_rfl) k
/-! reglet/regletref07.Build -/
mutual
def regletref07_Build.l0 : Nat → (List (Int × Int × Int × Int × Int × Int × List api_Range × Bool)) → ByteArray → (List api_Run) → (List Int) → (List Int) → (List api_Item) → Int → Int → Option (List api_Item × Int)
  | 0, _, _, _, _, _, _, _, _ => none
  | k + 1, t, t2, t3, t4, t5, t6, t7, t8 => if (decide (t8 < (t4.length : Int))) = true then (if 0 ≤ t8 ∧ t8 < (t5.length : Int) then ((t5[t8.toNat]?).bind fun e => if (decide ((wrap64 (t8 + 1)) < (t5.length : Int))) = true then (if 0 ≤ (wrap64 (t8 + 1)) ∧ (wrap64 (t8 + 1)) < (t5.length : Int) then ((t5[(wrap64 (t8 + 1)).toNat]?).bind fun e2 => regletref07_Build.j1 k t t2 t3 t4 t5 t6 t7 t8 e e2) else none) else (regletref07_Build.j1 k t t2 t3 t4 t5 t6 t7 t8 e (t2.size : Int))) else none) else ((regletref07_fill.f k (t2.size : Int) (t2.size : Int)).bind fun r3 => if (t6.length + r3.length) * 72 ≤ 140737488355328 then (some (t6 ++ r3, 0)) else none)
def regletref07_Build.j1 : Nat → (List (Int × Int × Int × Int × Int × Int × List api_Range × Bool)) → ByteArray → (List api_Run) → (List Int) → (List Int) → (List api_Item) → Int → Int → Int → Int → Option (List api_Item × Int)
  | 0, _, _, _, _, _, _, _, _, _, _ => none
  | k + 1, t9, t10, t11, t12, t13, t14, t15, t16, t17, t18 => (regletref07_StyleAt.f k t11 t17).bind fun r4 => if 0 ≤ t16 ∧ t16 < (t12.length : Int) then ((t12[t16.toNat]?).bind fun e3 => (regletref04_Width.f k t9 r4 e3).bind fun r5 => if 0 ≤ t16 ∧ t16 < (t12.length : Int) then ((t12[t16.toNat]?).bind fun e4 => (regletref02_Kind.f k e4).bind fun r6 => if (decide (r6 = 0)) = true then (regletref07_Build.j2 k t9 t10 t11 t12 t13 t14 t15 t16 t17 t18 r4 r5 r6 (wrap64 ((t14.length : Int) - 1))) else (if (decide (r6 = 2)) = true then (regletref07_Build.j2 k t9 t10 t11 t12 t13 t14 t15 t16 t17 t18 r4 r5 r6 (wrap64 ((t14.length : Int) - 1))) else (if (decide (r6 = 6)) = true then (regletref07_Build.j2 k t9 t10 t11 t12 t13 t14 t15 t16 t17 t18 r4 r5 r6 (wrap64 ((t14.length : Int) - 1))) else (regletref07_Build.j3 k t9 t10 t11 t12 t13 t14 t16 t17 t18 r4 r6)))) else none) else none
def regletref07_Build.j2 : Nat → (List (Int × Int × Int × Int × Int × Int × List api_Range × Bool)) → ByteArray → (List api_Run) → (List Int) → (List Int) → (List api_Item) → Int → Int → Int → Int → Int → Int → Int → Int → Option (List api_Item × Int)
  | 0, _, _, _, _, _, _, _, _, _, _, _, _, _, _ => none
  | k + 1, t19, t20, t21, t22, t23, t24, t25, t26, t27, t28, t29, t30, t31, t32 => if (decide (t25 = t29)) = true then (if 0 ≤ t32 ∧ t32 < (t24.length : Int) then ((t24[t32.toNat]?).bind fun e5 => (regletref01_Add.f k e5.2.1 t30).bind fun r7 => if 0 ≤ t32 ∧ t32 < (t24.length : Int) then ((t24[t32.toNat]?).bind fun e6 => if 0 ≤ t32 ∧ t32 < ((t24.set t32.toNat (e6.1, r7, e6.2.2.1, e6.2.2.2.1, e6.2.2.2.2.1, e6.2.2.2.2.2.1, e6.2.2.2.2.2.2.1, e6.2.2.2.2.2.2.2.1, e6.2.2.2.2.2.2.2.2)).length : Int) then (((t24.set t32.toNat (e6.1, r7, e6.2.2.1, e6.2.2.2.1, e6.2.2.2.2.1, e6.2.2.2.2.2.1, e6.2.2.2.2.2.2.1, e6.2.2.2.2.2.2.2.1, e6.2.2.2.2.2.2.2.2))[t32.toNat]?).bind fun e7 => regletref07_Build.j4 k t19 t20 t21 t22 t23 ((t24.set t32.toNat (e6.1, r7, e6.2.2.1, e6.2.2.2.1, e6.2.2.2.2.1, e6.2.2.2.2.2.1, e6.2.2.2.2.2.2.1, e6.2.2.2.2.2.2.2.1, e6.2.2.2.2.2.2.2.2)).set t32.toNat (e7.1, e7.2.1, e7.2.2.1, e7.2.2.2.1, e7.2.2.2.2.1, e7.2.2.2.2.2.1, e7.2.2.2.2.2.2.1, e7.2.2.2.2.2.2.2.1, t28)) t26 t28 t29 t31) else none) else none) else none) else (if (t24.length + ([(1, t30, 0, 0, (false), 0, (false), t27, t28)] : List api_Item).length) * 72 ≤ 140737488355328 then (regletref07_Build.j4 k t19 t20 t21 t22 t23 (t24 ++ ([(1, t30, 0, 0, (false), 0, (false), t27, t28)] : List api_Item)) t26 t28 t29 t31) else none)
def regletref07_Build.j3 : Nat → (List (Int × Int × Int × Int × Int × Int × List api_Range × Bool)) → ByteArray → (List api_Run) → (List Int) → (List Int) → (List api_Item) → Int → Int → Int → Int → Int → Option (List api_Item × Int)
  | 0, _, _, _, _, _, _, _, _, _, _, _ => none
  | k + 1, t33, t34, t35, t36, t37, t38, t39, t40, t41, t42, t43 => (regletref04_Of.f k t33 t42).bind fun r8 => if (decide (t43 = 1)) = true then (if (t38.length + ([(2, r8.2.1, r8.2.2.1, r8.2.2.2.1, (false), 0, (false), t40, t41)] : List api_Item).length) * 72 ≤ 140737488355328 then (regletref07_Build.j5 k t33 t34 t35 t36 t37 (t38 ++ ([(2, r8.2.1, r8.2.2.1, r8.2.2.2.1, (false), 0, (false), t40, t41)] : List api_Item)) (-1) t39 t43) else none) else (if (decide (t43 = 3)) = true then (if (t38.length + ([(3, r8.2.2.2.2.1, 0, 0, (false), 50, (true), t40, t41)] : List api_Item).length) * 72 ≤ 140737488355328 then (regletref07_Build.j5 k t33 t34 t35 t36 t37 (t38 ++ ([(3, r8.2.2.2.2.1, 0, 0, (false), 50, (true), t40, t41)] : List api_Item)) (-1) t39 t43) else none) else (if (decide (t43 = 4)) = true then (if (t38.length + ([(3, 0, 0, 0, (false), 0, (false), t40, t41)] : List api_Item).length) * 72 ≤ 140737488355328 then (regletref07_Build.j5 k t33 t34 t35 t36 t37 (t38 ++ ([(3, 0, 0, 0, (false), 0, (false), t40, t41)] : List api_Item)) (-1) t39 t43) else none) else (if (decide (t43 = 5)) = true then (if (t38.length + ([(3, 0, 0, 0, (false), 10000, (false), t40, t41)] : List api_Item).length) * 72 ≤ 140737488355328 then (regletref07_Build.j5 k t33 t34 t35 t36 t37 (t38 ++ ([(3, 0, 0, 0, (false), 10000, (false), t40, t41)] : List api_Item)) (-1) t39 t43) else none) else ((regletref07_fill.f k t40 t41).bind fun r9 => if (t38.length + r9.length) * 72 ≤ 140737488355328 then (regletref07_Build.j5 k t33 t34 t35 t36 t37 (t38 ++ r9) (-1) t39 t43) else none))))
def regletref07_Build.j4 : Nat → (List (Int × Int × Int × Int × Int × Int × List api_Range × Bool)) → ByteArray → (List api_Run) → (List Int) → (List Int) → (List api_Item) → Int → Int → Int → Int → Option (List api_Item × Int)
  | 0, _, _, _, _, _, _, _, _, _, _ => none
  | k + 1, t44, t45, t46, t47, t48, t49, t50, t51, t52, t53 => if (decide (t53 = 6)) = true then (if (t49.length + ([(3, 0, 0, 0, (false), 50, (true), t51, t51)] : List api_Item).length) * 72 ≤ 140737488355328 then (regletref07_Build.j6 k t44 t45 t46 t47 t48 (t49 ++ ([(3, 0, 0, 0, (false), 50, (true), t51, t51)] : List api_Item)) (-1) t50) else none) else (regletref07_Build.j6 k t44 t45 t46 t47 t48 t49 t52 t50)
def regletref07_Build.j5 : Nat → (List (Int × Int × Int × Int × Int × Int × List api_Range × Bool)) → ByteArray → (List api_Run) → (List Int) → (List Int) → (List api_Item) → Int → Int → Int → Option (List api_Item × Int)
  | 0, _, _, _, _, _, _, _, _, _ => none
  | k + 1, t54, t55, t56, t57, t58, t59, t60, t61, t62 => if (decide (t62 = 8)) = true then (some (t59, 0)) else (regletref07_Build.j6 k t54 t55 t56 t57 t58 t59 t60 t61)
def regletref07_Build.j6 : Nat → (List (Int × Int × Int × Int × Int × Int × List api_Range × Bool)) → ByteArray → (List api_Run) → (List Int) → (List Int) → (List api_Item) → Int → Int → Option (List api_Item × Int)
  | 0, _, _, _, _, _, _, _, _ => none
  | k + 1, t63, t64, t65, t66, t67, t68, t69, t70 => regletref07_Build.l0 k t63 t64 t65 t66 t67 t68 t69 (wrap64 (t70 + 1))
end
def regletref07_Build.f (k : Nat) (a0 : List (Int × Int × Int × Int × Int × Int × List api_Range × Bool)) (a1 : ByteArray) (a2 : List api_Run) : Option (List api_Item × Int) := (regletref07_Check.f k a0 a1 a2).bind fun r => if (!decide (r = 0)) = true then (some (([] : List api_Item), r)) else ((regletref02_Runes.f k a1).bind fun r2 => regletref07_Build.l0 k a0 a1 a2 r2.1 r2.2.1 ([] : List api_Item) (-1) 0)
def regletref07_Build.sig (k : Nat) : Sig := .p [(false, y38), (false, .s), (false, y44)] [.c false y40, .c false (.i .i64)] fun x => regletref07_Build.f k x.1 x.2.1 x.2.2.1
def regletref07_Build.E (k : Nat) : List (Nat × Sig) := [(17, regletref02_Runes.sig k), (18, regletref04_Width.sig k), (19, regletref07_StyleAt.sig k), (30, regletref07_Check.sig k), (31, regletref02_Kind.sig k), (32, regletref01_Add.sig k), (33, regletref04_Of.sig k), (34, regletref07_fill.sig k)]
def regletref07_Build.G (P : Program) : GI := ⟨P, TT, 179, 187, [(21, 179, 8)], [], [], [], [], AD⟩
def regletref07_Build.H : H := .s .n (.s .n (.s .n (.s .n (.s .n (.s (.s .n (.s (.l 0 (.s .n (.j 6 (.s (.s .n (.j 1 .n (.s .n (.s .n (.s .n (.j 3 (.s .n (.s (.j 4 (.j 2 .n .n) .n) .n)) (.s .n (.s .n (.j 5 .n .n))))))))) .n) .n))) .n)) .n)))))
abbrev regletref07_Build.l0_s : Sh := [(0, .v y38), (1, .v .s), (2, .v y44), (9, .v y10), (10, .v y10), (12, .v y40), (13, .v (.i .i64)), (14, .v (.i .i64))]
abbrev regletref07_Build.j1_s : Sh := [(0, .v y38), (1, .v .s), (2, .v y44), (9, .v y10), (10, .v y10), (12, .v y40), (13, .v (.i .i64)), (14, .v (.i .i64)), (15, .v (.i .i64)), (16, .v (.i .i64))]
abbrev regletref07_Build.j2_s : Sh := [(0, .v y38), (1, .v .s), (2, .v y44), (9, .v y10), (10, .v y10), (12, .v y40), (13, .v (.i .i64)), (14, .v (.i .i64)), (15, .v (.i .i64)), (16, .v (.i .i64)), (17, .v (.i .i64)), (18, .v (.i .i64)), (19, .v (.i .i64)), (20, .v (.i .i64))]
abbrev regletref07_Build.j3_s : Sh := [(0, .v y38), (1, .v .s), (2, .v y44), (9, .v y10), (10, .v y10), (12, .v y40), (14, .v (.i .i64)), (15, .v (.i .i64)), (16, .v (.i .i64)), (17, .v (.i .i64)), (19, .v (.i .i64))]
abbrev regletref07_Build.j4_s : Sh := [(0, .v y38), (1, .v .s), (2, .v y44), (9, .v y10), (10, .v y10), (12, .v y40), (14, .v (.i .i64)), (16, .v (.i .i64)), (17, .v (.i .i64)), (19, .v (.i .i64))]
abbrev regletref07_Build.j5_s : Sh := [(0, .v y38), (1, .v .s), (2, .v y44), (9, .v y10), (10, .v y10), (12, .v y40), (13, .v (.i .i64)), (14, .v (.i .i64)), (19, .v (.i .i64))]
abbrev regletref07_Build.j6_s : Sh := [(0, .v y38), (1, .v .s), (2, .v y44), (9, .v y10), (10, .v y10), (12, .v y40), (13, .v (.i .i64)), (14, .v (.i .i64))]
def regletref07_Build.O (k : Nat) : List (Orc (denR [.c false y40, .c false (.i .i64)])) := [⟨regletref07_Build.l0_s, fun y => regletref07_Build.l0 k y.1 y.2.1 y.2.2.1 y.2.2.2.1 y.2.2.2.2.1 y.2.2.2.2.2.1 y.2.2.2.2.2.2.1 y.2.2.2.2.2.2.2.1⟩, ⟨regletref07_Build.j1_s, fun y => regletref07_Build.j1 k y.1 y.2.1 y.2.2.1 y.2.2.2.1 y.2.2.2.2.1 y.2.2.2.2.2.1 y.2.2.2.2.2.2.1 y.2.2.2.2.2.2.2.1 y.2.2.2.2.2.2.2.2.1 y.2.2.2.2.2.2.2.2.2.1⟩, ⟨regletref07_Build.j2_s, fun y => regletref07_Build.j2 k y.1 y.2.1 y.2.2.1 y.2.2.2.1 y.2.2.2.2.1 y.2.2.2.2.2.1 y.2.2.2.2.2.2.1 y.2.2.2.2.2.2.2.1 y.2.2.2.2.2.2.2.2.1 y.2.2.2.2.2.2.2.2.2.1 y.2.2.2.2.2.2.2.2.2.2.1 y.2.2.2.2.2.2.2.2.2.2.2.1 y.2.2.2.2.2.2.2.2.2.2.2.2.1 y.2.2.2.2.2.2.2.2.2.2.2.2.2.1⟩, ⟨regletref07_Build.j3_s, fun y => regletref07_Build.j3 k y.1 y.2.1 y.2.2.1 y.2.2.2.1 y.2.2.2.2.1 y.2.2.2.2.2.1 y.2.2.2.2.2.2.1 y.2.2.2.2.2.2.2.1 y.2.2.2.2.2.2.2.2.1 y.2.2.2.2.2.2.2.2.2.1 y.2.2.2.2.2.2.2.2.2.2.1⟩, ⟨regletref07_Build.j4_s, fun y => regletref07_Build.j4 k y.1 y.2.1 y.2.2.1 y.2.2.2.1 y.2.2.2.2.1 y.2.2.2.2.2.1 y.2.2.2.2.2.2.1 y.2.2.2.2.2.2.2.1 y.2.2.2.2.2.2.2.2.1 y.2.2.2.2.2.2.2.2.2.1⟩, ⟨regletref07_Build.j5_s, fun y => regletref07_Build.j5 k y.1 y.2.1 y.2.2.1 y.2.2.2.1 y.2.2.2.2.1 y.2.2.2.2.2.1 y.2.2.2.2.2.2.1 y.2.2.2.2.2.2.2.1 y.2.2.2.2.2.2.2.2.1⟩, ⟨regletref07_Build.j6_s, fun y => regletref07_Build.j6 k y.1 y.2.1 y.2.2.1 y.2.2.2.1 y.2.2.2.2.1 y.2.2.2.2.2.1 y.2.2.2.2.2.2.1 y.2.2.2.2.2.2.2.1⟩]
theorem regletref07_Build.j2_e (k : Nat) (y : denS regletref07_Build.j2_s) : regletref07_Build.j2 (k + 1) y.1 y.2.1 y.2.2.1 y.2.2.2.1 y.2.2.2.2.1 y.2.2.2.2.2.1 y.2.2.2.2.2.2.1 y.2.2.2.2.2.2.2.1 y.2.2.2.2.2.2.2.2.1 y.2.2.2.2.2.2.2.2.2.1 y.2.2.2.2.2.2.2.2.2.2.1 y.2.2.2.2.2.2.2.2.2.2.2.1 y.2.2.2.2.2.2.2.2.2.2.2.2.1 y.2.2.2.2.2.2.2.2.2.2.2.2.2.1 = evP ((regletref07_Build.G Try.prog).at (regletref07_Build.E k)) (fun i => (regletref07_Build.O k)[i]?) [1, 1, 1, 1, 1, 0, 1, 0, 0, 1, 0, 0, 1, 1, 1, 1, 1, 0, 1, 0, 0, 1] (cd Try.f12) regletref07_Build.H (kFin ((regletref07_Build.G Try.prog).at (regletref07_Build.E k)) [.tmp 6, .tmp 7] [.c false y40, .c false (.i .i64)]) (unS regletref07_Build.j2_s y) := by rw [regletref07_Build.j2]; kernel_rfl
theorem regletref07_Build.j4_e (k : Nat) (y : denS regletref07_Build.j4_s) : regletref07_Build.j4 (k + 1) y.1 y.2.1 y.2.2.1 y.2.2.2.1 y.2.2.2.2.1 y.2.2.2.2.2.1 y.2.2.2.2.2.2.1 y.2.2.2.2.2.2.2.1 y.2.2.2.2.2.2.2.2.1 y.2.2.2.2.2.2.2.2.2.1 = evP ((regletref07_Build.G Try.prog).at (regletref07_Build.E k)) (fun i => (regletref07_Build.O k)[i]?) [1, 1, 1, 1, 1, 0, 1, 0, 0, 1, 0, 0, 1, 1, 1, 1, 1, 0, 1, 0, 1] (cd Try.f12) regletref07_Build.H (kFin ((regletref07_Build.G Try.prog).at (regletref07_Build.E k)) [.tmp 6, .tmp 7] [.c false y40, .c false (.i .i64)]) (unS regletref07_Build.j4_s y) := by rw [regletref07_Build.j4]; kernel_rfl
theorem regletref07_Build.j5_e (k : Nat) (y : denS regletref07_Build.j5_s) : regletref07_Build.j5 (k + 1) y.1 y.2.1 y.2.2.1 y.2.2.2.1 y.2.2.2.2.1 y.2.2.2.2.2.1 y.2.2.2.2.2.2.1 y.2.2.2.2.2.2.2.1 y.2.2.2.2.2.2.2.2.1 = evP ((regletref07_Build.G Try.prog).at (regletref07_Build.E k)) (fun i => (regletref07_Build.O k)[i]?) [1, 1, 1, 1, 1, 0, 1, 0, 0, 1, 0, 0, 1, 1, 1, 1, 1, 1, 1, 1, 1] (cd Try.f12) regletref07_Build.H (kFin ((regletref07_Build.G Try.prog).at (regletref07_Build.E k)) [.tmp 6, .tmp 7] [.c false y40, .c false (.i .i64)]) (unS regletref07_Build.j5_s y) := by rw [regletref07_Build.j5]; kernel_rfl
theorem regletref07_Build.j3_e (k : Nat) (y : denS regletref07_Build.j3_s) : regletref07_Build.j3 (k + 1) y.1 y.2.1 y.2.2.1 y.2.2.2.1 y.2.2.2.2.1 y.2.2.2.2.2.1 y.2.2.2.2.2.2.1 y.2.2.2.2.2.2.2.1 y.2.2.2.2.2.2.2.2.1 y.2.2.2.2.2.2.2.2.2.1 y.2.2.2.2.2.2.2.2.2.2.1 = evP ((regletref07_Build.G Try.prog).at (regletref07_Build.E k)) (fun i => (regletref07_Build.O k)[i]?) [1, 1, 1, 1, 1, 0, 1, 0, 0, 1, 0, 0, 1, 1, 1, 1, 1, 1] (cd Try.f12) regletref07_Build.H (kFin ((regletref07_Build.G Try.prog).at (regletref07_Build.E k)) [.tmp 6, .tmp 7] [.c false y40, .c false (.i .i64)]) (unS regletref07_Build.j3_s y) := by rw [regletref07_Build.j3]; kernel_rfl
theorem regletref07_Build.j1_e (k : Nat) (y : denS regletref07_Build.j1_s) : regletref07_Build.j1 (k + 1) y.1 y.2.1 y.2.2.1 y.2.2.2.1 y.2.2.2.2.1 y.2.2.2.2.2.1 y.2.2.2.2.2.2.1 y.2.2.2.2.2.2.2.1 y.2.2.2.2.2.2.2.2.1 y.2.2.2.2.2.2.2.2.2.1 = evP ((regletref07_Build.G Try.prog).at (regletref07_Build.E k)) (fun i => (regletref07_Build.O k)[i]?) [1, 1, 1, 1, 1, 0, 1, 0, 0, 1, 0, 0, 1, 1] (cd Try.f12) regletref07_Build.H (kFin ((regletref07_Build.G Try.prog).at (regletref07_Build.E k)) [.tmp 6, .tmp 7] [.c false y40, .c false (.i .i64)]) (unS regletref07_Build.j1_s y) := by rw [regletref07_Build.j1]; kernel_rfl
theorem regletref07_Build.j6_e (k : Nat) (y : denS regletref07_Build.j6_s) : regletref07_Build.j6 (k + 1) y.1 y.2.1 y.2.2.1 y.2.2.2.1 y.2.2.2.2.1 y.2.2.2.2.2.1 y.2.2.2.2.2.2.1 y.2.2.2.2.2.2.2.1 = evP ((regletref07_Build.G Try.prog).at (regletref07_Build.E k)) (fun i => (regletref07_Build.O k)[i]?) [1, 1, 1, 1, 1, 0, 1, 0, 0, 1, 1] (cd Try.f12) regletref07_Build.H (kFin ((regletref07_Build.G Try.prog).at (regletref07_Build.E k)) [.tmp 6, .tmp 7] [.c false y40, .c false (.i .i64)]) (unS regletref07_Build.j6_s y) := by rw [regletref07_Build.j6]; kernel_rfl
theorem regletref07_Build.l0_e (k : Nat) (y : denS regletref07_Build.l0_s) : regletref07_Build.l0 (k + 1) y.1 y.2.1 y.2.2.1 y.2.2.2.1 y.2.2.2.2.1 y.2.2.2.2.2.1 y.2.2.2.2.2.2.1 y.2.2.2.2.2.2.2.1 = evP ((regletref07_Build.G Try.prog).at (regletref07_Build.E k)) (fun i => (regletref07_Build.O k)[i]?) [1, 1, 1, 1, 1, 0, 1, 0, 0] (cd Try.f12) regletref07_Build.H (kFin ((regletref07_Build.G Try.prog).at (regletref07_Build.E k)) [.tmp 6, .tmp 7] [.c false y40, .c false (.i .i64)]) (unS regletref07_Build.l0_s y) := by rw [regletref07_Build.l0]; kernel_rfl
theorem regletref07_Build.go : goesTo Try.prog 12 := ⟨_, Try.func12, by kernel_rfl, rfl⟩
theorem regletref07_Build.ok (k : Nat) : SigOk Try.prog 12 (regletref07_Build.sig k) :=
  fn_p (G := regletref07_Build.G Try.prog) (c := cd Try.f12) (rs := [.tmp 6, .tmp 7]) (args := [(false, y38), (false, .s), (false, y44)]) (l := [.c false y40, .c false (.i .i64)]) (fn := Try.f12) ⟨Try.func12, by kernel_rfl, by kernel_rfl, by kernel_rfl, le_of rfl, le_of rfl, TT_ok, AD_ok⟩ rfl regletref07_Build.E (fun k p hp => by
    simp only [regletref07_Build.E, List.mem_cons, List.not_mem_nil, or_false] at hp
    rcases hp with rfl | rfl | rfl | rfl | rfl | rfl | rfl | rfl
    · exact ⟨regletref02_Runes.ok k, regletref02_Runes.go⟩
    · exact ⟨regletref04_Width.ok k, regletref04_Width.go⟩
    · exact ⟨regletref07_StyleAt.ok k, regletref07_StyleAt.go⟩
    · exact ⟨regletref07_Check.ok k, regletref07_Check.go⟩
    · exact ⟨regletref02_Kind.ok k, regletref02_Kind.go⟩
    · exact ⟨regletref01_Add.ok k, regletref01_Add.go⟩
    · exact ⟨regletref04_Of.ok k, regletref04_Of.go⟩
    · exact ⟨regletref07_fill.ok k, regletref07_fill.go⟩)
    (fun k i => (regletref07_Build.O k)[i]?) regletref07_Build.H (fun k x => regletref07_Build.f k x.1 x.2.1 x.2.2.1)
    (fun id o y h => by
    have h' := List.mem_of_getElem? h
    simp only [regletref07_Build.O, List.mem_cons, List.not_mem_nil, or_false] at h'
    rcases h' with rfl | rfl | rfl | rfl | rfl | rfl | rfl <;> rfl)
    (fun k p hp => by
    rw [show pts (cd Try.f12) regletref07_Build.H = [(2, [1, 1, 1, 1, 1, 0, 1, 0, 0, 1, 0, 0, 1, 1, 1, 1, 1, 0, 1, 0, 0, 1]), (4, [1, 1, 1, 1, 1, 0, 1, 0, 0, 1, 0, 0, 1, 1, 1, 1, 1, 0, 1, 0, 1]), (5, [1, 1, 1, 1, 1, 0, 1, 0, 0, 1, 0, 0, 1, 1, 1, 1, 1, 1, 1, 1, 1]), (3, [1, 1, 1, 1, 1, 0, 1, 0, 0, 1, 0, 0, 1, 1, 1, 1, 1, 1]), (1, [1, 1, 1, 1, 1, 0, 1, 0, 0, 1, 0, 0, 1, 1]), (6, [1, 1, 1, 1, 1, 0, 1, 0, 0, 1, 1]), (0, [1, 1, 1, 1, 1, 0, 1, 0, 0])] by kernel_rfl] at hp
    simp only [List.mem_cons, List.not_mem_nil, or_false] at hp
    rcases hp with rfl | rfl | rfl | rfl | rfl | rfl | rfl
    · exact ptOk_of rfl (regletref07_Build.j2_e k)
    · exact ptOk_of rfl (regletref07_Build.j4_e k)
    · exact ptOk_of rfl (regletref07_Build.j5_e k)
    · exact ptOk_of rfl (regletref07_Build.j3_e k)
    · exact ptOk_of rfl (regletref07_Build.j1_e k)
    · exact ptOk_of rfl (regletref07_Build.j6_e k)
    · exact ptOk_of rfl (regletref07_Build.l0_e k))
    (fun k x => by kernel_rfl) k
/-! reglet/regletref07.Same -/
mutual
def regletref07_Same.l0 : Nat → (List api_Item) → (List api_Item) → Int → Option Bool
  | 0, _, _, _ => none
  | k + 1, a, b, i => if (decide (i < (a.length : Int))) = true then ((at? a i).bind fun e => (at? b i).bind fun e2 => if (!(decide (e.1 = e2.1) && (decide (e.2.1 = e2.2.1) && (decide (e.2.2.1 = e2.2.2.1) && (decide (e.2.2.2.1 = e2.2.2.2.1) && (decide (e.2.2.2.2.1 = e2.2.2.2.2.1) && (decide (e.2.2.2.2.2.1 = e2.2.2.2.2.2.1) && (decide (e.2.2.2.2.2.2.1 = e2.2.2.2.2.2.2.1) && (decide (e.2.2.2.2.2.2.2.1 = e2.2.2.2.2.2.2.2.1) && (decide (e.2.2.2.2.2.2.2.2 = e2.2.2.2.2.2.2.2.2) && true)))))))))) = true then (some false) else (regletref07_Same.l0 k a b (wrap64 (i + 1)))) else (some true)
end
def regletref07_Same.f (k : Nat) (a0 : List api_Item) (a1 : List api_Item) : Option Bool := if (!decide ((a0.length : Int) = (a1.length : Int))) = true then (some false) else (regletref07_Same.l0 k a0 a1 0)
def regletref07_Same.sig (k : Nat) : Sig := .p [(false, y45), (false, y45)] [.c false .b] fun x => regletref07_Same.f k x.1 x.2.1
def regletref07_Same.E (k : Nat) : List (Nat × Sig) := []
def regletref07_Same.G (P : Program) : GI := ⟨P, TT, 26, 26, [], [], [], [], [], AD⟩
def regletref07_Same.H : H := .s .n (.s .n (.s (.s .n (.s (.l 0 .n) .n)) .n))
abbrev regletref07_Same.l0_s : Sh := [(0, .v y45), (1, .v y45), (5, .v (.i .i64))]
def regletref07_Same.O (k : Nat) : List (Orc (denR [.c false .b])) := [⟨regletref07_Same.l0_s, fun y => regletref07_Same.l0 k y.1 y.2.1 y.2.2.1⟩]
theorem regletref07_Same.l0_e (k : Nat) (y : denS regletref07_Same.l0_s) : regletref07_Same.l0 (k + 1) y.1 y.2.1 y.2.2.1 = evP ((regletref07_Same.G Try.prog).at (regletref07_Same.E k)) (fun i => (regletref07_Same.O k)[i]?) [1, 1, 0, 1, 0, 0] (cd Try.f14) regletref07_Same.H (kFin ((regletref07_Same.G Try.prog).at (regletref07_Same.E k)) [.tmp 4] [.c false .b]) (unS regletref07_Same.l0_s y) := by rw [regletref07_Same.l0]; kernel_rfl
theorem regletref07_Same.go : goesTo Try.prog 14 := ⟨_, Try.func14, by kernel_rfl, rfl⟩
theorem regletref07_Same.ok (k : Nat) : SigOk Try.prog 14 (regletref07_Same.sig k) :=
  fn_p (G := regletref07_Same.G Try.prog) (c := cd Try.f14) (rs := [.tmp 4]) (args := [(false, y45), (false, y45)]) (l := [.c false .b]) (fn := Try.f14) ⟨Try.func14, by kernel_rfl, by kernel_rfl, by kernel_rfl, le_of rfl, le_of rfl, TT_ok, AD_ok⟩ rfl regletref07_Same.E (fun k p hp => nomatch hp)
    (fun k i => (regletref07_Same.O k)[i]?) regletref07_Same.H (fun k x => regletref07_Same.f k x.1 x.2.1)
    (fun id o y h => by
    have h' := List.mem_of_getElem? h
    simp only [regletref07_Same.O, List.mem_cons, List.not_mem_nil, or_false] at h'
    rcases h' with rfl <;> rfl)
    (fun k p hp => by
    rw [show pts (cd Try.f14) regletref07_Same.H = [(0, [1, 1, 0, 1, 0, 0])] by kernel_rfl] at hp
    simp only [List.mem_cons, List.not_mem_nil, or_false] at hp
    rcases hp with rfl
    · exact ptOk_of rfl (regletref07_Same.l0_e k))
    (fun k x => by kernel_rfl) k
/-! reglet/regletlaw07.ItemsBuilds -/
mutual
def regletlaw07_ItemsBuilds.j0 : Nat → (List (Int × Int × Int × Int × Int × Int × List api_Range × Bool)) → ByteArray → (List api_Run) → (List (Int × Int × Int × Int × Int × Int × List api_Range × Bool)) → Option Bool
  | 0, _, _, _, _ => none
  | k + 1, l, text, list, t => (items_Build.f k t text list).bind fun r4 => (regletref07_Build.f k l text list).bind fun r5 => if (decide (r4.2 = r5.2)) = true then ((items_Check.f k t text list).bind fun r6 => if (decide (r6 = r5.2)) = true then ((regletref07_Same.f k r4.1 r5.1).bind fun r7 => some r7) else (some false)) else (some false)
end
def regletlaw07_ItemsBuilds.f (k : Nat) (a0 : List (Int × Int × Int × Int × Int × Int × List api_Range × Bool)) (a1 : ByteArray) (a2 : List api_Run) : Option Bool := (regletlaw07_awake.f k).bind fun r => if (!r) = true then (some false) else ((regletlaw07_table.f k a0).bind fun r2 => optK r2 (some true) fun p => (regletlaw07_few.f k a1 a2).bind fun r3 => if (!r3) = true then (some true) else (regletlaw07_ItemsBuilds.j0 k a0 a1 a2 p))
def regletlaw07_ItemsBuilds.sig (k : Nat) : Sig := .p [(false, y38), (false, .s), (false, y44)] [.c false .b] fun x => regletlaw07_ItemsBuilds.f k x.1 x.2.1 x.2.2.1
def regletlaw07_ItemsBuilds.E (k : Nat) : List (Nat × Sig) := [(8, regletlaw07_awake.sig k), (9, regletlaw07_table.sig k), (10, regletlaw07_few.sig k), (11, items_Build.sig k), (12, regletref07_Build.sig k), (13, items_Check.sig k), (14, regletref07_Same.sig k)]
def regletlaw07_ItemsBuilds.G (P : Program) : GI := ⟨P, TT, 54, 54, [], [], [], [], [], AD⟩
def regletlaw07_ItemsBuilds.H : H := .s .n (.s .n (.s .n (.j 0 (.s (.f 7 .n) .n) .n)))
abbrev regletlaw07_ItemsBuilds.j0_s : Sh := [(0, .v y38), (1, .v .s), (2, .v y44), (7, .v y39)]
def regletlaw07_ItemsBuilds.O (k : Nat) : List (Orc (denR [.c false .b])) := [⟨regletlaw07_ItemsBuilds.j0_s, fun y => regletlaw07_ItemsBuilds.j0 k y.1 y.2.1 y.2.2.1 y.2.2.2.1⟩]
theorem regletlaw07_ItemsBuilds.j0_e (k : Nat) (y : denS regletlaw07_ItemsBuilds.j0_s) : regletlaw07_ItemsBuilds.j0 (k + 1) y.1 y.2.1 y.2.2.1 y.2.2.2.1 = evP ((regletlaw07_ItemsBuilds.G Try.prog).at (regletlaw07_ItemsBuilds.E k)) (fun i => (regletlaw07_ItemsBuilds.O k)[i]?) [1, 1, 1, 1] (cd Try.f3) regletlaw07_ItemsBuilds.H (kFin ((regletlaw07_ItemsBuilds.G Try.prog).at (regletlaw07_ItemsBuilds.E k)) [.tmp 6] [.c false .b]) (unS regletlaw07_ItemsBuilds.j0_s y) := by rw [regletlaw07_ItemsBuilds.j0]; kernel_rfl
theorem regletlaw07_ItemsBuilds.go : goesTo Try.prog 3 := ⟨_, Try.func3, by kernel_rfl, rfl⟩
theorem regletlaw07_ItemsBuilds.ok (k : Nat) : SigOk Try.prog 3 (regletlaw07_ItemsBuilds.sig k) :=
  fn_p (G := regletlaw07_ItemsBuilds.G Try.prog) (c := cd Try.f3) (rs := [.tmp 6]) (args := [(false, y38), (false, .s), (false, y44)]) (l := [.c false .b]) (fn := Try.f3) ⟨Try.func3, by kernel_rfl, by kernel_rfl, by kernel_rfl, le_of rfl, le_of rfl, TT_ok, AD_ok⟩ rfl regletlaw07_ItemsBuilds.E (fun k p hp => by
    simp only [regletlaw07_ItemsBuilds.E, List.mem_cons, List.not_mem_nil, or_false] at hp
    rcases hp with rfl | rfl | rfl | rfl | rfl | rfl | rfl
    · exact ⟨regletlaw07_awake.ok k, regletlaw07_awake.go⟩
    · exact ⟨regletlaw07_table.ok k, regletlaw07_table.go⟩
    · exact ⟨regletlaw07_few.ok k, regletlaw07_few.go⟩
    · exact ⟨items_Build.ok k, items_Build.go⟩
    · exact ⟨regletref07_Build.ok k, regletref07_Build.go⟩
    · exact ⟨items_Check.ok k, items_Check.go⟩
    · exact ⟨regletref07_Same.ok k, regletref07_Same.go⟩)
    (fun k i => (regletlaw07_ItemsBuilds.O k)[i]?) regletlaw07_ItemsBuilds.H (fun k x => regletlaw07_ItemsBuilds.f k x.1 x.2.1 x.2.2.1)
    (fun id o y h => by
    have h' := List.mem_of_getElem? h
    simp only [regletlaw07_ItemsBuilds.O, List.mem_cons, List.not_mem_nil, or_false] at h'
    rcases h' with rfl <;> rfl)
    (fun k p hp => by
    rw [show pts (cd Try.f3) regletlaw07_ItemsBuilds.H = [(0, [1, 1, 1, 1])] by kernel_rfl] at hp
    simp only [List.mem_cons, List.not_mem_nil, or_false] at hp
    rcases hp with rfl
    · exact ptOk_of rfl (regletlaw07_ItemsBuilds.j0_e k))
    (fun k x => by kernel_rfl) k
/-! reglet/regletref07.Forced -/
def regletref07_Forced.f (k : Nat) (a0 : api_Item) : Option Bool := if (decide (a0.1 = 3)) = true then (some (decide (a0.2.2.2.2.2.1 ≤ (-10000)))) else (some false)
def regletref07_Forced.sig (k : Nat) : Sig := .p [(true, y29)] [.c false .b] fun x => regletref07_Forced.f k x.1
def regletref07_Forced.E (k : Nat) : List (Nat × Sig) := []
def regletref07_Forced.G (P : Program) : GI := ⟨P, TT, 11, 20, [(1, 11, 9)], [], [], [], [], AD⟩
def regletref07_Forced.H : H := .n
def regletref07_Forced.O (k : Nat) : List (Orc (denR [.c false .b])) := []
theorem regletref07_Forced.go : goesTo Try.prog 23 := ⟨_, Try.func23, by kernel_rfl, rfl⟩
theorem regletref07_Forced.ok (k : Nat) : SigOk Try.prog 23 (regletref07_Forced.sig k) :=
  fn_p (G := regletref07_Forced.G Try.prog) (c := cd Try.f23) (rs := [.tmp 2]) (args := [(true, y29)]) (l := [.c false .b]) (fn := Try.f23) ⟨Try.func23, by kernel_rfl, by kernel_rfl, by kernel_rfl, le_of rfl, le_of rfl, TT_ok, AD_ok⟩ rfl regletref07_Forced.E (fun k p hp => nomatch hp)
    (fun k i => (regletref07_Forced.O k)[i]?) regletref07_Forced.H (fun k x => regletref07_Forced.f k x.1)
    (fun id o y h => by cases id <;> cases h)
    (fun k p hp => by rw [show pts (cd Try.f23) regletref07_Forced.H = [] by kernel_rfl] at hp; nomatch hp)
    (fun k x => by kernel_rfl) k
/-! reglet/regletref07.one -/
mutual
def regletref07_one.l0 : Nat → (List Int) → Int → api_Item → Option Bool
  | 0, _, _, _ => none
  | k + 1, t, t2, t3 => if (decide (t2 < (t.length : Int))) = true then (if 0 ≤ t2 ∧ t2 < (t.length : Int) then ((t[t2.toNat]?).bind fun e => if (decide (e < 0)) = true then (some false) else (if 0 ≤ t2 ∧ t2 < (t.length : Int) then ((t[t2.toNat]?).bind fun e2 => if (decide (68719476736 < e2)) = true then (some false) else (regletref07_one.j1 k t t2 t3)) else none)) else none) else (if (decide (t3.2.1 < t3.2.2.2.1)) = true then (some false) else (if (decide (t3.1 = 1)) = true then (some (decide (t3.1 = 1) && (decide (t3.2.1 = t3.2.1) && (decide (t3.2.2.1 = 0) && (decide (t3.2.2.2.1 = 0) && (decide (t3.2.2.2.2.1 = (false)) && (decide (t3.2.2.2.2.2.1 = 0) && (decide (t3.2.2.2.2.2.2.1 = (false)) && (decide (t3.2.2.2.2.2.2.2.1 = t3.2.2.2.2.2.2.2.1) && (decide (t3.2.2.2.2.2.2.2.2 = t3.2.2.2.2.2.2.2.2) && true)))))))))) else (if (decide (t3.1 = 2)) = true then (if t3.2.2.2.2.1 = true then (some (decide (t3.1 = 2) && (decide (t3.2.1 = 0) && (decide (t3.2.2.1 = 0) && (decide (t3.2.2.2.1 = 0) && (decide (t3.2.2.2.2.1 = (true)) && (decide (t3.2.2.2.2.2.1 = 0) && (decide (t3.2.2.2.2.2.2.1 = (false)) && (decide (t3.2.2.2.2.2.2.2.1 = t3.2.2.2.2.2.2.2.1) && (decide (t3.2.2.2.2.2.2.2.2 = t3.2.2.2.2.2.2.2.2) && true)))))))))) else (if (decide (t3.2.2.2.2.2.1 = 0)) = true then (some (!t3.2.2.2.2.2.2.1)) else (some false))) else (if (decide (t3.1 = 3)) = true then (if (decide (t3.2.2.1 = 0)) = true then (if (decide (t3.2.2.2.1 = 0)) = true then (if (!t3.2.2.2.2.1) = true then (if (decide ((-10000) ≤ t3.2.2.2.2.2.1)) = true then (some (decide (t3.2.2.2.2.2.1 ≤ 10000))) else (some false)) else (some false)) else (some false)) else (some false)) else (some false)))))
def regletref07_one.j1 : Nat → (List Int) → Int → api_Item → Option Bool
  | 0, _, _, _ => none
  | k + 1, t4, t5, t6 => regletref07_one.l0 k t4 (wrap64 (t5 + 1)) t6
end
def regletref07_one.f (k : Nat) (a0 : api_Item) : Option Bool := regletref07_one.l0 k ([a0.2.1, a0.2.2.1, a0.2.2.2.1] : List Int) 0 a0
def regletref07_one.sig (k : Nat) : Sig := .p [(true, y29)] [.c false .b] fun x => regletref07_one.f k x.1
def regletref07_one.E (k : Nat) : List (Nat × Sig) := []
def regletref07_one.G (P : Program) : GI := ⟨P, TT, 92, 101, [(1, 92, 9)], [], [], [], [], AD⟩
def regletref07_one.H : H := .s .n (.s .n (.s (.s .n (.s (.l 0 (.s .n (.j 1 .n .n))) .n)) .n))
abbrev regletref07_one.l0_s : Sh := [(1, .at_ 92), (3, .v y10), (4, .v (.i .i64)), (92, .box y29)]
abbrev regletref07_one.j1_s : Sh := [(1, .at_ 92), (3, .v y10), (4, .v (.i .i64)), (92, .box y29)]
def regletref07_one.O (k : Nat) : List (Orc (denR [.c false .b])) := [⟨regletref07_one.l0_s, fun y => regletref07_one.l0 k y.2.1 y.2.2.1 y.2.2.2.1⟩, ⟨regletref07_one.j1_s, fun y => regletref07_one.j1 k y.2.1 y.2.2.1 y.2.2.2.1⟩]
theorem regletref07_one.j1_e (k : Nat) (y : denS regletref07_one.j1_s) : regletref07_one.j1 (k + 1) y.2.1 y.2.2.1 y.2.2.2.1 = evP ((regletref07_one.G Try.prog).at (regletref07_one.E k)) (fun i => (regletref07_one.O k)[i]?) [1, 1, 0, 1, 0, 0, 1, 1] (cd Try.f40) regletref07_one.H (kFin ((regletref07_one.G Try.prog).at (regletref07_one.E k)) [.tmp 2] [.c false .b]) (unS regletref07_one.j1_s y) := by rw [regletref07_one.j1]; kernel_rfl
theorem regletref07_one.l0_e (k : Nat) (y : denS regletref07_one.l0_s) : regletref07_one.l0 (k + 1) y.2.1 y.2.2.1 y.2.2.2.1 = evP ((regletref07_one.G Try.prog).at (regletref07_one.E k)) (fun i => (regletref07_one.O k)[i]?) [1, 1, 0, 1, 0, 0] (cd Try.f40) regletref07_one.H (kFin ((regletref07_one.G Try.prog).at (regletref07_one.E k)) [.tmp 2] [.c false .b]) (unS regletref07_one.l0_s y) := by rw [regletref07_one.l0]; kernel_rfl
theorem regletref07_one.go : goesTo Try.prog 40 := ⟨_, Try.func40, by kernel_rfl, rfl⟩
theorem regletref07_one.ok (k : Nat) : SigOk Try.prog 40 (regletref07_one.sig k) :=
  fn_p (G := regletref07_one.G Try.prog) (c := cd Try.f40) (rs := [.tmp 2]) (args := [(true, y29)]) (l := [.c false .b]) (fn := Try.f40) ⟨Try.func40, by kernel_rfl, by kernel_rfl, by kernel_rfl, le_of rfl, le_of rfl, TT_ok, AD_ok⟩ rfl regletref07_one.E (fun k p hp => nomatch hp)
    (fun k i => (regletref07_one.O k)[i]?) regletref07_one.H (fun k x => regletref07_one.f k x.1)
    (fun id o y h => by
    have h' := List.mem_of_getElem? h
    simp only [regletref07_one.O, List.mem_cons, List.not_mem_nil, or_false] at h'
    rcases h' with rfl | rfl <;> rfl)
    (fun k p hp => by
    rw [show pts (cd Try.f40) regletref07_one.H = [(1, [1, 1, 0, 1, 0, 0, 1, 1]), (0, [1, 1, 0, 1, 0, 0])] by kernel_rfl] at hp
    simp only [List.mem_cons, List.not_mem_nil, or_false] at hp
    rcases hp with rfl | rfl
    · exact ptOk_of rfl (regletref07_one.j1_e k)
    · exact ptOk_of rfl (regletref07_one.l0_e k))
    (fun k x => by kernel_rfl) k
/-! reglet/regletref07.Right -/
mutual
def regletref07_Right.j0 : Nat → (List api_Item) → Option Bool
  | 0, _ => none
  | k + 1, t => regletref07_Right.l1 k t 0
def regletref07_Right.l1 : Nat → (List api_Item) → Int → Option Bool
  | 0, _, _ => none
  | k + 1, t2, t3 => if (decide (t3 < (t2.length : Int))) = true then (if (decide (0 < t3)) = true then ((at? t2 t3).bind fun e3 => (at? t2 (wrap64 (t3 - 1))).bind fun e4 => if (!decide (e3.2.2.2.2.2.2.2.1 = e4.2.2.2.2.2.2.2.2)) = true then (some false) else ((at? t2 t3).bind fun e5 => (at? t2 t3).bind fun e6 => if (decide (e5.2.2.2.2.2.2.2.2 < e6.2.2.2.2.2.2.2.1)) = true then (some false) else ((at? t2 t3).bind fun e7 => if (decide (65536 < e7.2.2.2.2.2.2.2.2)) = true then (some false) else ((at? t2 t3).bind fun e8 => (regletref07_one.f k e8).bind fun r2 => if (!r2) = true then (some false) else (regletref07_Right.j2 k t2 t3))))) else ((at? t2 t3).bind fun e9 => (at? t2 t3).bind fun e10 => if (decide (e9.2.2.2.2.2.2.2.2 < e10.2.2.2.2.2.2.2.1)) = true then (some false) else ((at? t2 t3).bind fun e11 => if (decide (65536 < e11.2.2.2.2.2.2.2.2)) = true then (some false) else ((at? t2 t3).bind fun e12 => (regletref07_one.f k e12).bind fun r3 => if (!r3) = true then (some false) else (regletref07_Right.j2 k t2 t3))))) else (some true)
def regletref07_Right.j2 : Nat → (List api_Item) → Int → Option Bool
  | 0, _, _ => none
  | k + 1, t4, t5 => regletref07_Right.l1 k t4 (wrap64 (t5 + 1))
end
def regletref07_Right.f (k : Nat) (a0 : List api_Item) : Option Bool := if (decide ((a0.length : Int) = 0)) = true then (some false) else (if (decide (262144 < (a0.length : Int))) = true then (some false) else ((at? a0 (wrap64 ((a0.length : Int) - 1))).bind fun e => (regletref07_Forced.f k e).bind fun r => if (!r) = true then (some false) else ((at? a0 0).bind fun e2 => if (!decide (e2.2.2.2.2.2.2.2.1 = 0)) = true then (some false) else (regletref07_Right.j0 k a0))))
def regletref07_Right.sig (k : Nat) : Sig := .p [(false, y45)] [.c false .b] fun x => regletref07_Right.f k x.1
def regletref07_Right.E (k : Nat) : List (Nat × Sig) := [(23, regletref07_Forced.sig k), (40, regletref07_one.sig k)]
def regletref07_Right.G (P : Program) : GI := ⟨P, TT, 80, 80, [], [], [], [], [], AD⟩
def regletref07_Right.H : H := .s .n (.j 0 .n (.s (.s .n (.s (.l 1 (.s .n (.j 2 .n .n))) .n)) .n))
abbrev regletref07_Right.j0_s : Sh := [(0, .v y45)]
abbrev regletref07_Right.l1_s : Sh := [(0, .v y45), (3, .v (.i .i64))]
abbrev regletref07_Right.j2_s : Sh := [(0, .v y45), (3, .v (.i .i64))]
def regletref07_Right.O (k : Nat) : List (Orc (denR [.c false .b])) := [⟨regletref07_Right.j0_s, fun y => regletref07_Right.j0 k y.1⟩, ⟨regletref07_Right.l1_s, fun y => regletref07_Right.l1 k y.1 y.2.1⟩, ⟨regletref07_Right.j2_s, fun y => regletref07_Right.j2 k y.1 y.2.1⟩]
theorem regletref07_Right.j2_e (k : Nat) (y : denS regletref07_Right.j2_s) : regletref07_Right.j2 (k + 1) y.1 y.2.1 = evP ((regletref07_Right.G Try.prog).at (regletref07_Right.E k)) (fun i => (regletref07_Right.O k)[i]?) [1, 1, 0, 1, 0, 0, 1, 1] (cd Try.f16) regletref07_Right.H (kFin ((regletref07_Right.G Try.prog).at (regletref07_Right.E k)) [.tmp 2] [.c false .b]) (unS regletref07_Right.j2_s y) := by rw [regletref07_Right.j2]; kernel_rfl
theorem regletref07_Right.l1_e (k : Nat) (y : denS regletref07_Right.l1_s) : regletref07_Right.l1 (k + 1) y.1 y.2.1 = evP ((regletref07_Right.G Try.prog).at (regletref07_Right.E k)) (fun i => (regletref07_Right.O k)[i]?) [1, 1, 0, 1, 0, 0] (cd Try.f16) regletref07_Right.H (kFin ((regletref07_Right.G Try.prog).at (regletref07_Right.E k)) [.tmp 2] [.c false .b]) (unS regletref07_Right.l1_s y) := by rw [regletref07_Right.l1]; kernel_rfl
theorem regletref07_Right.j0_e (k : Nat) (y : denS regletref07_Right.j0_s) : regletref07_Right.j0 (k + 1) y.1 = evP ((regletref07_Right.G Try.prog).at (regletref07_Right.E k)) (fun i => (regletref07_Right.O k)[i]?) [1, 1] (cd Try.f16) regletref07_Right.H (kFin ((regletref07_Right.G Try.prog).at (regletref07_Right.E k)) [.tmp 2] [.c false .b]) (unS regletref07_Right.j0_s y) := by rw [regletref07_Right.j0]; kernel_rfl
theorem regletref07_Right.go : goesTo Try.prog 16 := ⟨_, Try.func16, by kernel_rfl, rfl⟩
theorem regletref07_Right.ok (k : Nat) : SigOk Try.prog 16 (regletref07_Right.sig k) :=
  fn_p (G := regletref07_Right.G Try.prog) (c := cd Try.f16) (rs := [.tmp 2]) (args := [(false, y45)]) (l := [.c false .b]) (fn := Try.f16) ⟨Try.func16, by kernel_rfl, by kernel_rfl, by kernel_rfl, le_of rfl, le_of rfl, TT_ok, AD_ok⟩ rfl regletref07_Right.E (fun k p hp => by
    simp only [regletref07_Right.E, List.mem_cons, List.not_mem_nil, or_false] at hp
    rcases hp with rfl | rfl
    · exact ⟨regletref07_Forced.ok k, regletref07_Forced.go⟩
    · exact ⟨regletref07_one.ok k, regletref07_one.go⟩)
    (fun k i => (regletref07_Right.O k)[i]?) regletref07_Right.H (fun k x => regletref07_Right.f k x.1)
    (fun id o y h => by
    have h' := List.mem_of_getElem? h
    simp only [regletref07_Right.O, List.mem_cons, List.not_mem_nil, or_false] at h'
    rcases h' with rfl | rfl | rfl <;> rfl)
    (fun k p hp => by
    rw [show pts (cd Try.f16) regletref07_Right.H = [(2, [1, 1, 0, 1, 0, 0, 1, 1]), (1, [1, 1, 0, 1, 0, 0]), (0, [1, 1])] by kernel_rfl] at hp
    simp only [List.mem_cons, List.not_mem_nil, or_false] at hp
    rcases hp with rfl | rfl | rfl
    · exact ptOk_of rfl (regletref07_Right.j2_e k)
    · exact ptOk_of rfl (regletref07_Right.l1_e k)
    · exact ptOk_of rfl (regletref07_Right.j0_e k))
    (fun k x => by kernel_rfl) k
/-! reglet/regletlaw07.ItemsWhole -/
mutual
def regletlaw07_ItemsWhole.j0 : Nat → (List (Int × Int × Int × Int × Int × Int × List api_Range × Bool)) → ByteArray → (List api_Run) → (List (Int × Int × Int × Int × Int × Int × List api_Range × Bool)) → Option Bool
  | 0, _, _, _, _ => none
  | k + 1, t, t2, t3, t4 => (items_Build.f k t4 t2 t3).bind fun r4 => if (!decide (r4.2 = 0)) = true then (some (decide ((r4.1.length : Int) = 0))) else ((items_Right.f k r4.1).bind fun r5 => if (!decide (r5 = 0)) = true then (some false) else ((regletref07_Right.f k r4.1).bind fun r6 => if (!r6) = true then (some false) else (if 0 ≤ (wrap64 ((r4.1.length : Int) - 1)) ∧ (wrap64 ((r4.1.length : Int) - 1)) < (r4.1.length : Int) then ((r4.1[(wrap64 ((r4.1.length : Int) - 1)).toNat]?).bind fun e => if (!decide (e.2.2.2.2.2.2.2.2 = (t2.size : Int))) = true then (some false) else (regletlaw07_ItemsWhole.j1 k t t2 t3 r4.1)) else none)))
def regletlaw07_ItemsWhole.j1 : Nat → (List (Int × Int × Int × Int × Int × Int × List api_Range × Bool)) → ByteArray → (List api_Run) → (List api_Item) → Option Bool
  | 0, _, _, _, _ => none
  | k + 1, t5, t6, t7, t8 => regletlaw07_ItemsWhole.l2 k t5 t6 t7 t8 0 0 0
def regletlaw07_ItemsWhole.l2 : Nat → (List (Int × Int × Int × Int × Int × Int × List api_Range × Bool)) → ByteArray → (List api_Run) → (List api_Item) → Int → Int → Int → Option Bool
  | 0, _, _, _, _, _, _, _ => none
  | k + 1, t9, t10, t11, t12, t13, t14, t15 => if (decide (t15 < (t12.length : Int))) = true then (if 0 ≤ t15 ∧ t15 < (t12.length : Int) then ((t12[t15.toNat]?).bind fun e2 => if (!decide (e2.1 = 3)) = true then (if 0 ≤ t15 ∧ t15 < (t12.length : Int) then ((t12[t15.toNat]?).bind fun e3 => regletlaw07_ItemsWhole.j3 k t9 t10 t11 t12 (wrap64 (t13 + e3.2.1)) t14 t15) else none) else (regletlaw07_ItemsWhole.j3 k t9 t10 t11 t12 t13 t14 t15)) else none) else ((regletref02_Runes.f k t10).bind fun r7 => regletlaw07_ItemsWhole.l4 k t9 t11 t13 t14 r7.1 r7.2.1 0)
def regletlaw07_ItemsWhole.j3 : Nat → (List (Int × Int × Int × Int × Int × Int × List api_Range × Bool)) → ByteArray → (List api_Run) → (List api_Item) → Int → Int → Int → Option Bool
  | 0, _, _, _, _, _, _, _ => none
  | k + 1, t16, t17, t18, t19, t20, t21, t22 => regletlaw07_ItemsWhole.l2 k t16 t17 t18 t19 t20 t21 (wrap64 (t22 + 1))
def regletlaw07_ItemsWhole.l4 : Nat → (List (Int × Int × Int × Int × Int × Int × List api_Range × Bool)) → (List api_Run) → Int → Int → (List Int) → (List Int) → Int → Option Bool
  | 0, _, _, _, _, _, _, _ => none
  | k + 1, t23, t24, t25, t26, t27, t28, t29 => if (decide (t29 < (t27.length : Int))) = true then (if 0 ≤ t29 ∧ t29 < (t28.length : Int) then ((t28[t29.toNat]?).bind fun e4 => (regletref07_StyleAt.f k t24 e4).bind fun r8 => if 0 ≤ t29 ∧ t29 < (t27.length : Int) then ((t27[t29.toNat]?).bind fun e5 => (regletref04_Width.f k t23 r8 e5).bind fun r9 => regletlaw07_ItemsWhole.l4 k t23 t24 t25 (wrap64 (t26 + r9)) t27 t28 (wrap64 (t29 + 1))) else none) else none) else (some (decide (t25 = t26)))
end
def regletlaw07_ItemsWhole.f (k : Nat) (a0 : List (Int × Int × Int × Int × Int × Int × List api_Range × Bool)) (a1 : ByteArray) (a2 : List api_Run) : Option Bool := (regletlaw07_awake.f k).bind fun r => if (!r) = true then (some false) else ((regletlaw07_table.f k a0).bind fun r2 => optK r2 (some true) fun p => (regletlaw07_few.f k a1 a2).bind fun r3 => if (!r3) = true then (some true) else (regletlaw07_ItemsWhole.j0 k a0 a1 a2 p))
def regletlaw07_ItemsWhole.sig (k : Nat) : Sig := .p [(false, y38), (false, .s), (false, y44)] [.c false .b] fun x => regletlaw07_ItemsWhole.f k x.1 x.2.1 x.2.2.1
def regletlaw07_ItemsWhole.E (k : Nat) : List (Nat × Sig) := [(8, regletlaw07_awake.sig k), (9, regletlaw07_table.sig k), (10, regletlaw07_few.sig k), (11, items_Build.sig k), (15, items_Right.sig k), (16, regletref07_Right.sig k), (17, regletref02_Runes.sig k), (18, regletref04_Width.sig k), (19, regletref07_StyleAt.sig k)]
def regletlaw07_ItemsWhole.G (P : Program) : GI := ⟨P, TT, 109, 109, [], [], [], [], [], AD⟩
def regletlaw07_ItemsWhole.H : H := .s .n (.s .n (.s .n (.j 0 (.s (.f 7 .n) .n) (.s .n (.s .n (.j 1 .n (.s .n (.s (.s .n (.s (.l 2 (.s .n (.j 3 .n .n))) .n)) (.s .n (.s (.s .n (.s (.l 4 .n) .n)) .n))))))))))
abbrev regletlaw07_ItemsWhole.j0_s : Sh := [(0, .v y38), (1, .v .s), (2, .v y44), (7, .v y39)]
abbrev regletlaw07_ItemsWhole.j1_s : Sh := [(0, .v y38), (1, .v .s), (2, .v y44), (8, .v y40)]
abbrev regletlaw07_ItemsWhole.l2_s : Sh := [(0, .v y38), (1, .v .s), (2, .v y44), (8, .v y40), (10, .v (.i .i64)), (11, .v (.i .i64)), (12, .v (.i .i64))]
abbrev regletlaw07_ItemsWhole.j3_s : Sh := [(0, .v y38), (1, .v .s), (2, .v y44), (8, .v y40), (10, .v (.i .i64)), (11, .v (.i .i64)), (12, .v (.i .i64))]
abbrev regletlaw07_ItemsWhole.l4_s : Sh := [(0, .v y38), (2, .v y44), (10, .v (.i .i64)), (11, .v (.i .i64)), (13, .v y10), (14, .v y10), (16, .v (.i .i64))]
def regletlaw07_ItemsWhole.O (k : Nat) : List (Orc (denR [.c false .b])) := [⟨regletlaw07_ItemsWhole.j0_s, fun y => regletlaw07_ItemsWhole.j0 k y.1 y.2.1 y.2.2.1 y.2.2.2.1⟩, ⟨regletlaw07_ItemsWhole.j1_s, fun y => regletlaw07_ItemsWhole.j1 k y.1 y.2.1 y.2.2.1 y.2.2.2.1⟩, ⟨regletlaw07_ItemsWhole.l2_s, fun y => regletlaw07_ItemsWhole.l2 k y.1 y.2.1 y.2.2.1 y.2.2.2.1 y.2.2.2.2.1 y.2.2.2.2.2.1 y.2.2.2.2.2.2.1⟩, ⟨regletlaw07_ItemsWhole.j3_s, fun y => regletlaw07_ItemsWhole.j3 k y.1 y.2.1 y.2.2.1 y.2.2.2.1 y.2.2.2.2.1 y.2.2.2.2.2.1 y.2.2.2.2.2.2.1⟩, ⟨regletlaw07_ItemsWhole.l4_s, fun y => regletlaw07_ItemsWhole.l4 k y.1 y.2.1 y.2.2.1 y.2.2.2.1 y.2.2.2.2.1 y.2.2.2.2.2.1 y.2.2.2.2.2.2.1⟩]
theorem regletlaw07_ItemsWhole.j3_e (k : Nat) (y : denS regletlaw07_ItemsWhole.j3_s) : regletlaw07_ItemsWhole.j3 (k + 1) y.1 y.2.1 y.2.2.1 y.2.2.2.1 y.2.2.2.2.1 y.2.2.2.2.2.1 y.2.2.2.2.2.2.1 = evP ((regletlaw07_ItemsWhole.G Try.prog).at (regletlaw07_ItemsWhole.E k)) (fun i => (regletlaw07_ItemsWhole.O k)[i]?) [1, 1, 1, 1, 1, 1, 1, 1, 0, 1, 0, 0, 1, 1] (cd Try.f4) regletlaw07_ItemsWhole.H (kFin ((regletlaw07_ItemsWhole.G Try.prog).at (regletlaw07_ItemsWhole.E k)) [.tmp 6] [.c false .b]) (unS regletlaw07_ItemsWhole.j3_s y) := by rw [regletlaw07_ItemsWhole.j3]; kernel_rfl
theorem regletlaw07_ItemsWhole.l2_e (k : Nat) (y : denS regletlaw07_ItemsWhole.l2_s) : regletlaw07_ItemsWhole.l2 (k + 1) y.1 y.2.1 y.2.2.1 y.2.2.2.1 y.2.2.2.2.1 y.2.2.2.2.2.1 y.2.2.2.2.2.2.1 = evP ((regletlaw07_ItemsWhole.G Try.prog).at (regletlaw07_ItemsWhole.E k)) (fun i => (regletlaw07_ItemsWhole.O k)[i]?) [1, 1, 1, 1, 1, 1, 1, 1, 0, 1, 0, 0] (cd Try.f4) regletlaw07_ItemsWhole.H (kFin ((regletlaw07_ItemsWhole.G Try.prog).at (regletlaw07_ItemsWhole.E k)) [.tmp 6] [.c false .b]) (unS regletlaw07_ItemsWhole.l2_s y) := by rw [regletlaw07_ItemsWhole.l2]; kernel_rfl
theorem regletlaw07_ItemsWhole.l4_e (k : Nat) (y : denS regletlaw07_ItemsWhole.l4_s) : regletlaw07_ItemsWhole.l4 (k + 1) y.1 y.2.1 y.2.2.1 y.2.2.2.1 y.2.2.2.2.1 y.2.2.2.2.2.1 y.2.2.2.2.2.2.1 = evP ((regletlaw07_ItemsWhole.G Try.prog).at (regletlaw07_ItemsWhole.E k)) (fun i => (regletlaw07_ItemsWhole.O k)[i]?) [1, 1, 1, 1, 1, 1, 1, 1, 1, 1, 0, 1, 0, 0] (cd Try.f4) regletlaw07_ItemsWhole.H (kFin ((regletlaw07_ItemsWhole.G Try.prog).at (regletlaw07_ItemsWhole.E k)) [.tmp 6] [.c false .b]) (unS regletlaw07_ItemsWhole.l4_s y) := by rw [regletlaw07_ItemsWhole.l4]; kernel_rfl
theorem regletlaw07_ItemsWhole.j1_e (k : Nat) (y : denS regletlaw07_ItemsWhole.j1_s) : regletlaw07_ItemsWhole.j1 (k + 1) y.1 y.2.1 y.2.2.1 y.2.2.2.1 = evP ((regletlaw07_ItemsWhole.G Try.prog).at (regletlaw07_ItemsWhole.E k)) (fun i => (regletlaw07_ItemsWhole.O k)[i]?) [1, 1, 1, 1, 1, 1, 1] (cd Try.f4) regletlaw07_ItemsWhole.H (kFin ((regletlaw07_ItemsWhole.G Try.prog).at (regletlaw07_ItemsWhole.E k)) [.tmp 6] [.c false .b]) (unS regletlaw07_ItemsWhole.j1_s y) := by rw [regletlaw07_ItemsWhole.j1]; kernel_rfl
theorem regletlaw07_ItemsWhole.j0_e (k : Nat) (y : denS regletlaw07_ItemsWhole.j0_s) : regletlaw07_ItemsWhole.j0 (k + 1) y.1 y.2.1 y.2.2.1 y.2.2.2.1 = evP ((regletlaw07_ItemsWhole.G Try.prog).at (regletlaw07_ItemsWhole.E k)) (fun i => (regletlaw07_ItemsWhole.O k)[i]?) [1, 1, 1, 1] (cd Try.f4) regletlaw07_ItemsWhole.H (kFin ((regletlaw07_ItemsWhole.G Try.prog).at (regletlaw07_ItemsWhole.E k)) [.tmp 6] [.c false .b]) (unS regletlaw07_ItemsWhole.j0_s y) := by rw [regletlaw07_ItemsWhole.j0]; kernel_rfl
theorem regletlaw07_ItemsWhole.go : goesTo Try.prog 4 := ⟨_, Try.func4, by kernel_rfl, rfl⟩
theorem regletlaw07_ItemsWhole.ok (k : Nat) : SigOk Try.prog 4 (regletlaw07_ItemsWhole.sig k) :=
  fn_p (G := regletlaw07_ItemsWhole.G Try.prog) (c := cd Try.f4) (rs := [.tmp 6]) (args := [(false, y38), (false, .s), (false, y44)]) (l := [.c false .b]) (fn := Try.f4) ⟨Try.func4, by kernel_rfl, by kernel_rfl, by kernel_rfl, le_of rfl, le_of rfl, TT_ok, AD_ok⟩ rfl regletlaw07_ItemsWhole.E (fun k p hp => by
    simp only [regletlaw07_ItemsWhole.E, List.mem_cons, List.not_mem_nil, or_false] at hp
    rcases hp with rfl | rfl | rfl | rfl | rfl | rfl | rfl | rfl | rfl
    · exact ⟨regletlaw07_awake.ok k, regletlaw07_awake.go⟩
    · exact ⟨regletlaw07_table.ok k, regletlaw07_table.go⟩
    · exact ⟨regletlaw07_few.ok k, regletlaw07_few.go⟩
    · exact ⟨items_Build.ok k, items_Build.go⟩
    · exact ⟨items_Right.ok k, items_Right.go⟩
    · exact ⟨regletref07_Right.ok k, regletref07_Right.go⟩
    · exact ⟨regletref02_Runes.ok k, regletref02_Runes.go⟩
    · exact ⟨regletref04_Width.ok k, regletref04_Width.go⟩
    · exact ⟨regletref07_StyleAt.ok k, regletref07_StyleAt.go⟩)
    (fun k i => (regletlaw07_ItemsWhole.O k)[i]?) regletlaw07_ItemsWhole.H (fun k x => regletlaw07_ItemsWhole.f k x.1 x.2.1 x.2.2.1)
    (fun id o y h => by
    have h' := List.mem_of_getElem? h
    simp only [regletlaw07_ItemsWhole.O, List.mem_cons, List.not_mem_nil, or_false] at h'
    rcases h' with rfl | rfl | rfl | rfl | rfl <;> rfl)
    (fun k p hp => by
    rw [show pts (cd Try.f4) regletlaw07_ItemsWhole.H = [(3, [1, 1, 1, 1, 1, 1, 1, 1, 0, 1, 0, 0, 1, 1]), (2, [1, 1, 1, 1, 1, 1, 1, 1, 0, 1, 0, 0]), (4, [1, 1, 1, 1, 1, 1, 1, 1, 1, 1, 0, 1, 0, 0]), (1, [1, 1, 1, 1, 1, 1, 1]), (0, [1, 1, 1, 1])] by kernel_rfl] at hp
    simp only [List.mem_cons, List.not_mem_nil, or_false] at hp
    rcases hp with rfl | rfl | rfl | rfl | rfl
    · exact ptOk_of rfl (regletlaw07_ItemsWhole.j3_e k)
    · exact ptOk_of rfl (regletlaw07_ItemsWhole.l2_e k)
    · exact ptOk_of rfl (regletlaw07_ItemsWhole.l4_e k)
    · exact ptOk_of rfl (regletlaw07_ItemsWhole.j1_e k)
    · exact ptOk_of rfl (regletlaw07_ItemsWhole.j0_e k))
    (fun k x => by kernel_rfl) k
/-! reglet/regletlaw07.ItemsRight -/
def regletlaw07_ItemsRight.f (k : Nat) (a0 : List api_Item) : Option Bool := (regletlaw07_awake.f k).bind fun r => if (!r) = true then (some false) else ((items_Right.f k a0).bind fun r2 => (regletref07_Right.f k a0).bind fun r3 => if (decide ((decide (r2 = 0)) = r3)) = true then ((items_Right.f k a0).bind fun r4 => (regletref07_Right.f k a0).bind fun r5 => some (decide ((decide (r4 = 70)) = (!r5)))) else (some false))
def regletlaw07_ItemsRight.sig (k : Nat) : Sig := .p [(false, y49)] [.c false .b] fun x => regletlaw07_ItemsRight.f k x.1
def regletlaw07_ItemsRight.E (k : Nat) : List (Nat × Sig) := [(8, regletlaw07_awake.sig k), (15, items_Right.sig k), (16, regletref07_Right.sig k)]
def regletlaw07_ItemsRight.G (P : Program) : GI := ⟨P, TT, 20, 20, [], [], [], [], [], AD⟩
def regletlaw07_ItemsRight.H : H := .n
def regletlaw07_ItemsRight.O (k : Nat) : List (Orc (denR [.c false .b])) := []
theorem regletlaw07_ItemsRight.go : goesTo Try.prog 5 := ⟨_, Try.func5, by kernel_rfl, rfl⟩
theorem regletlaw07_ItemsRight.ok (k : Nat) : SigOk Try.prog 5 (regletlaw07_ItemsRight.sig k) :=
  fn_p (G := regletlaw07_ItemsRight.G Try.prog) (c := cd Try.f5) (rs := [.tmp 2]) (args := [(false, y49)]) (l := [.c false .b]) (fn := Try.f5) ⟨Try.func5, by kernel_rfl, by kernel_rfl, by kernel_rfl, le_of rfl, le_of rfl, TT_ok, AD_ok⟩ rfl regletlaw07_ItemsRight.E (fun k p hp => by
    simp only [regletlaw07_ItemsRight.E, List.mem_cons, List.not_mem_nil, or_false] at hp
    rcases hp with rfl | rfl | rfl
    · exact ⟨regletlaw07_awake.ok k, regletlaw07_awake.go⟩
    · exact ⟨items_Right.ok k, items_Right.go⟩
    · exact ⟨regletref07_Right.ok k, regletref07_Right.go⟩)
    (fun k i => (regletlaw07_ItemsRight.O k)[i]?) regletlaw07_ItemsRight.H (fun k x => regletlaw07_ItemsRight.f k x.1)
    (fun id o y h => by cases id <;> cases h)
    (fun k p hp => by rw [show pts (cd Try.f5) regletlaw07_ItemsRight.H = [] by kernel_rfl] at hp; nomatch hp)
    (fun k x => by kernel_rfl) k
/-! reglet/regletlaw07.ItemsJoins -/
mutual
def regletlaw07_ItemsJoins.j0 : Nat → ByteArray → Int → (List (Int × Int × Int × Int × Int × Int × List api_Range × Bool)) → Option Bool
  | 0, _, _, _ => none
  | k + 1, t, t2, t3 => (regletref02_Runes.f k t).bind fun r4 => if (decide (0 ≤ r4.2.2)) = true then (some true) else (regletlaw07_ItemsJoins.l1 k t t2 t3 r4.2.1 ([] : List api_Run) 0)
def regletlaw07_ItemsJoins.l1 : Nat → ByteArray → Int → (List (Int × Int × Int × Int × Int × Int × List api_Range × Bool)) → (List Int) → (List api_Run) → Int → Option Bool
  | 0, _, _, _, _, _, _ => none
  | k + 1, t4, t5, t6, t7, t8, t9 => if (decide (t9 < (t7.length : Int))) = true then (if (decide ((wrap64 (t9 + 1)) < (t7.length : Int))) = true then (if 0 ≤ (wrap64 (t9 + 1)) ∧ (wrap64 (t9 + 1)) < (t7.length : Int) then ((t7[(wrap64 (t9 + 1)).toNat]?).bind fun e => regletlaw07_ItemsJoins.j2 k t4 t5 t6 t7 t8 t9 e) else none) else (regletlaw07_ItemsJoins.j2 k t4 t5 t6 t7 t8 t9 (t4.size : Int))) else ((items_Build.f k t6 t4 t8).bind fun r5 => (items_Build.f k t6 t4 ([((t4.size : Int), t5)] : List api_Run)).bind fun r6 => if (decide (r5.2 = r6.2)) = true then ((regletref07_Same.f k r5.1 r6.1).bind fun r7 => some r7) else (some false))
def regletlaw07_ItemsJoins.j2 : Nat → ByteArray → Int → (List (Int × Int × Int × Int × Int × Int × List api_Range × Bool)) → (List Int) → (List api_Run) → Int → Int → Option Bool
  | 0, _, _, _, _, _, _, _ => none
  | k + 1, t10, t11, t12, t13, t14, t15, t16 => if 0 ≤ t15 ∧ t15 < (t13.length : Int) then ((t13[t15.toNat]?).bind fun e2 => if (t14.length + ([(0, t11), (wrap64 (t16 - e2), t11)] : List api_Run).length) * 16 ≤ 140737488355328 then (regletlaw07_ItemsJoins.l1 k t10 t11 t12 t13 (t14 ++ ([(0, t11), (wrap64 (t16 - e2), t11)] : List api_Run)) (wrap64 (t15 + 1))) else none) else none
end
def regletlaw07_ItemsJoins.f (k : Nat) (a0 : List (Int × Int × Int × Int × Int × Int × List api_Range × Bool)) (a1 : ByteArray) (a2 : Int) : Option Bool := (regletlaw07_awake.f k).bind fun r => if (!r) = true then (some false) else ((regletlaw07_table.f k a0).bind fun r2 => optK r2 (some true) fun p => (regletlaw07_few.f k a1 ([] : List api_Run)).bind fun r3 => if (!r3) = true then (some true) else (regletlaw07_ItemsJoins.j0 k a1 a2 p))
def regletlaw07_ItemsJoins.sig (k : Nat) : Sig := .p [(false, y38), (false, .s), (false, (.i .i64))] [.c false .b] fun x => regletlaw07_ItemsJoins.f k x.1 x.2.1 x.2.2.1
def regletlaw07_ItemsJoins.E (k : Nat) : List (Nat × Sig) := [(8, regletlaw07_awake.sig k), (9, regletlaw07_table.sig k), (10, regletlaw07_few.sig k), (11, items_Build.sig k), (14, regletref07_Same.sig k), (17, regletref02_Runes.sig k)]
def regletlaw07_ItemsJoins.G (P : Program) : GI := ⟨P, TT, 94, 94, [], [], [], [], [], AD⟩
def regletlaw07_ItemsJoins.H : H := .s .n (.s .n (.s .n (.j 0 (.s (.f 7 .n) .n) (.s .n (.s .n (.s .n (.s (.s .n (.s (.l 1 (.s .n (.s (.s (.s .n (.j 2 .n .n)) .n) .n))) .n)) (.s (.f 11 .n) (.s (.q 7 82 .n) .n)))))))))
abbrev regletlaw07_ItemsJoins.j0_s : Sh := [(1, .v .s), (2, .v (.i .i64)), (7, .v y39)]
abbrev regletlaw07_ItemsJoins.l1_s : Sh := [(1, .v .s), (2, .v (.i .i64)), (7, .v y39), (9, .v y10), (11, .v y50), (12, .v (.i .i64))]
abbrev regletlaw07_ItemsJoins.j2_s : Sh := [(1, .v .s), (2, .v (.i .i64)), (7, .v y39), (9, .v y10), (11, .v y50), (12, .v (.i .i64)), (13, .v (.i .i64))]
def regletlaw07_ItemsJoins.O (k : Nat) : List (Orc (denR [.c false .b])) := [⟨regletlaw07_ItemsJoins.j0_s, fun y => regletlaw07_ItemsJoins.j0 k y.1 y.2.1 y.2.2.1⟩, ⟨regletlaw07_ItemsJoins.l1_s, fun y => regletlaw07_ItemsJoins.l1 k y.1 y.2.1 y.2.2.1 y.2.2.2.1 y.2.2.2.2.1 y.2.2.2.2.2.1⟩, ⟨regletlaw07_ItemsJoins.j2_s, fun y => regletlaw07_ItemsJoins.j2 k y.1 y.2.1 y.2.2.1 y.2.2.2.1 y.2.2.2.2.1 y.2.2.2.2.2.1 y.2.2.2.2.2.2.1⟩]
theorem regletlaw07_ItemsJoins.j2_e (k : Nat) (y : denS regletlaw07_ItemsJoins.j2_s) : regletlaw07_ItemsJoins.j2 (k + 1) y.1 y.2.1 y.2.2.1 y.2.2.2.1 y.2.2.2.2.1 y.2.2.2.2.2.1 y.2.2.2.2.2.2.1 = evP ((regletlaw07_ItemsJoins.G Try.prog).at (regletlaw07_ItemsJoins.E k)) (fun i => (regletlaw07_ItemsJoins.O k)[i]?) [1, 1, 1, 1, 1, 1, 1, 0, 1, 0, 0, 1, 0, 0, 1, 1] (cd Try.f6) regletlaw07_ItemsJoins.H (kFin ((regletlaw07_ItemsJoins.G Try.prog).at (regletlaw07_ItemsJoins.E k)) [.tmp 6] [.c false .b]) (unS regletlaw07_ItemsJoins.j2_s y) := by rw [regletlaw07_ItemsJoins.j2]; kernel_rfl
theorem regletlaw07_ItemsJoins.l1_e (k : Nat) (y : denS regletlaw07_ItemsJoins.l1_s) : regletlaw07_ItemsJoins.l1 (k + 1) y.1 y.2.1 y.2.2.1 y.2.2.2.1 y.2.2.2.2.1 y.2.2.2.2.2.1 = evP ((regletlaw07_ItemsJoins.G Try.prog).at (regletlaw07_ItemsJoins.E k)) (fun i => (regletlaw07_ItemsJoins.O k)[i]?) [1, 1, 1, 1, 1, 1, 1, 0, 1, 0, 0] (cd Try.f6) regletlaw07_ItemsJoins.H (kFin ((regletlaw07_ItemsJoins.G Try.prog).at (regletlaw07_ItemsJoins.E k)) [.tmp 6] [.c false .b]) (unS regletlaw07_ItemsJoins.l1_s y) := by rw [regletlaw07_ItemsJoins.l1]; kernel_rfl
theorem regletlaw07_ItemsJoins.j0_e (k : Nat) (y : denS regletlaw07_ItemsJoins.j0_s) : regletlaw07_ItemsJoins.j0 (k + 1) y.1 y.2.1 y.2.2.1 = evP ((regletlaw07_ItemsJoins.G Try.prog).at (regletlaw07_ItemsJoins.E k)) (fun i => (regletlaw07_ItemsJoins.O k)[i]?) [1, 1, 1, 1] (cd Try.f6) regletlaw07_ItemsJoins.H (kFin ((regletlaw07_ItemsJoins.G Try.prog).at (regletlaw07_ItemsJoins.E k)) [.tmp 6] [.c false .b]) (unS regletlaw07_ItemsJoins.j0_s y) := by rw [regletlaw07_ItemsJoins.j0]; kernel_rfl
theorem regletlaw07_ItemsJoins.go : goesTo Try.prog 6 := ⟨_, Try.func6, by kernel_rfl, rfl⟩
theorem regletlaw07_ItemsJoins.ok (k : Nat) : SigOk Try.prog 6 (regletlaw07_ItemsJoins.sig k) :=
  fn_p (G := regletlaw07_ItemsJoins.G Try.prog) (c := cd Try.f6) (rs := [.tmp 6]) (args := [(false, y38), (false, .s), (false, (.i .i64))]) (l := [.c false .b]) (fn := Try.f6) ⟨Try.func6, by kernel_rfl, by kernel_rfl, by kernel_rfl, le_of rfl, le_of rfl, TT_ok, AD_ok⟩ rfl regletlaw07_ItemsJoins.E (fun k p hp => by
    simp only [regletlaw07_ItemsJoins.E, List.mem_cons, List.not_mem_nil, or_false] at hp
    rcases hp with rfl | rfl | rfl | rfl | rfl | rfl
    · exact ⟨regletlaw07_awake.ok k, regletlaw07_awake.go⟩
    · exact ⟨regletlaw07_table.ok k, regletlaw07_table.go⟩
    · exact ⟨regletlaw07_few.ok k, regletlaw07_few.go⟩
    · exact ⟨items_Build.ok k, items_Build.go⟩
    · exact ⟨regletref07_Same.ok k, regletref07_Same.go⟩
    · exact ⟨regletref02_Runes.ok k, regletref02_Runes.go⟩)
    (fun k i => (regletlaw07_ItemsJoins.O k)[i]?) regletlaw07_ItemsJoins.H (fun k x => regletlaw07_ItemsJoins.f k x.1 x.2.1 x.2.2.1)
    (fun id o y h => by
    have h' := List.mem_of_getElem? h
    simp only [regletlaw07_ItemsJoins.O, List.mem_cons, List.not_mem_nil, or_false] at h'
    rcases h' with rfl | rfl | rfl <;> rfl)
    (fun k p hp => by
    rw [show pts (cd Try.f6) regletlaw07_ItemsJoins.H = [(2, [1, 1, 1, 1, 1, 1, 1, 0, 1, 0, 0, 1, 0, 0, 1, 1]), (1, [1, 1, 1, 1, 1, 1, 1, 0, 1, 0, 0]), (0, [1, 1, 1, 1])] by kernel_rfl] at hp
    simp only [List.mem_cons, List.not_mem_nil, or_false] at hp
    rcases hp with rfl | rfl | rfl
    · exact ptOk_of rfl (regletlaw07_ItemsJoins.j2_e k)
    · exact ptOk_of rfl (regletlaw07_ItemsJoins.l1_e k)
    · exact ptOk_of rfl (regletlaw07_ItemsJoins.j0_e k))
    (fun k x => by kernel_rfl) k
/-! reglet/items.Legal -/
mutual
def items_Legal.j0 : Nat → (List api_Item) → Int → Option Bool
  | 0, _, _ => none
  | k + 1, list, k_ => (at? list k_).bind fun e => if (decide (e.1 = 3)) = true then (some (decide (e.2.2.2.2.2.1 < 10000))) else (if (decide (e.1 = 2)) = true then (if (!e.2.2.2.2.1) = true then (if (decide (0 < k_)) = true then ((at? list (wrap64 (k_ - 1))).bind fun e2 => some (decide (e2.1 = 1))) else (some false)) else (some false)) else (some false))
end
def items_Legal.f (k : Nat) (a0 : List api_Item) (a1 : Int) : Option Bool := if (decide (a1 < 0)) = true then (some false) else (if (decide ((a0.length : Int) ≤ a1)) = true then (some false) else (items_Legal.j0 k a0 a1))
def items_Legal.sig (k : Nat) : Sig := .p [(false, y45), (false, (.i .i64))] [.c false .b] fun x => items_Legal.f k x.1 x.2.1
def items_Legal.E (k : Nat) : List (Nat × Sig) := []
def items_Legal.G (P : Program) : GI := ⟨P, TT, 43, 52, [(5, 43, 9)], [], [], [], [], AD⟩
def items_Legal.H : H := .s .n (.j 0 .n .n)
abbrev items_Legal.j0_s : Sh := [(0, .v y45), (1, .v (.i .i64))]
def items_Legal.O (k : Nat) : List (Orc (denR [.c false .b])) := [⟨items_Legal.j0_s, fun y => items_Legal.j0 k y.1 y.2.1⟩]
theorem items_Legal.j0_e (k : Nat) (y : denS items_Legal.j0_s) : items_Legal.j0 (k + 1) y.1 y.2.1 = evP ((items_Legal.G Try.prog).at (items_Legal.E k)) (fun i => (items_Legal.O k)[i]?) [1, 1] (cd Try.f20) items_Legal.H (kFin ((items_Legal.G Try.prog).at (items_Legal.E k)) [.tmp 4] [.c false .b]) (unS items_Legal.j0_s y) := by rw [items_Legal.j0]; kernel_rfl
theorem items_Legal.go : goesTo Try.prog 20 := ⟨_, Try.func20, by kernel_rfl, rfl⟩
theorem items_Legal.ok (k : Nat) : SigOk Try.prog 20 (items_Legal.sig k) :=
  fn_p (G := items_Legal.G Try.prog) (c := cd Try.f20) (rs := [.tmp 4]) (args := [(false, y45), (false, (.i .i64))]) (l := [.c false .b]) (fn := Try.f20) ⟨Try.func20, by kernel_rfl, by kernel_rfl, by kernel_rfl, le_of rfl, le_of rfl, TT_ok, AD_ok⟩ rfl items_Legal.E (fun k p hp => nomatch hp)
    (fun k i => (items_Legal.O k)[i]?) items_Legal.H (fun k x => items_Legal.f k x.1 x.2.1)
    (fun id o y h => by
    have h' := List.mem_of_getElem? h
    simp only [items_Legal.O, List.mem_cons, List.not_mem_nil, or_false] at h'
    rcases h' with rfl <;> rfl)
    (fun k p hp => by
    rw [show pts (cd Try.f20) items_Legal.H = [(0, [1, 1])] by kernel_rfl] at hp
    simp only [List.mem_cons, List.not_mem_nil, or_false] at hp
    rcases hp with rfl
    · exact ptOk_of rfl (items_Legal.j0_e k))
    (fun k x => by kernel_rfl) k
/-! reglet/regletref07.Legal -/
mutual
def regletref07_Legal.j0 : Nat → (List api_Item) → Int → Option Bool
  | 0, _, _ => none
  | k + 1, list, k_ => (at? list k_).bind fun e => if (decide (e.1 = 3)) = true then ((at? list k_).bind fun e2 => some (decide (e2.2.2.2.2.2.1 < 10000))) else ((at? list k_).bind fun e3 => if (decide (e3.1 = 2)) = true then ((at? list k_).bind fun e4 => if (!e4.2.2.2.2.1) = true then (if (decide (0 < k_)) = true then ((at? list (wrap64 (k_ - 1))).bind fun e5 => some (decide (e5.1 = 1))) else (some false)) else (some false)) else (some false))
end
def regletref07_Legal.f (k : Nat) (a0 : List api_Item) (a1 : Int) : Option Bool := if (decide (a1 < 0)) = true then (some false) else (if (decide ((a0.length : Int) ≤ a1)) = true then (some false) else (regletref07_Legal.j0 k a0 a1))
def regletref07_Legal.sig (k : Nat) : Sig := .p [(false, y45), (false, (.i .i64))] [.c false .b] fun x => regletref07_Legal.f k x.1 x.2.1
def regletref07_Legal.E (k : Nat) : List (Nat × Sig) := []
def regletref07_Legal.G (P : Program) : GI := ⟨P, TT, 52, 52, [], [], [], [], [], AD⟩
def regletref07_Legal.H : H := .s .n (.j 0 .n .n)
abbrev regletref07_Legal.j0_s : Sh := [(0, .v y45), (1, .v (.i .i64))]
def regletref07_Legal.O (k : Nat) : List (Orc (denR [.c false .b])) := [⟨regletref07_Legal.j0_s, fun y => regletref07_Legal.j0 k y.1 y.2.1⟩]
theorem regletref07_Legal.j0_e (k : Nat) (y : denS regletref07_Legal.j0_s) : regletref07_Legal.j0 (k + 1) y.1 y.2.1 = evP ((regletref07_Legal.G Try.prog).at (regletref07_Legal.E k)) (fun i => (regletref07_Legal.O k)[i]?) [1, 1] (cd Try.f21) regletref07_Legal.H (kFin ((regletref07_Legal.G Try.prog).at (regletref07_Legal.E k)) [.tmp 4] [.c false .b]) (unS regletref07_Legal.j0_s y) := by rw [regletref07_Legal.j0]; kernel_rfl
theorem regletref07_Legal.go : goesTo Try.prog 21 := ⟨_, Try.func21, by kernel_rfl, rfl⟩
theorem regletref07_Legal.ok (k : Nat) : SigOk Try.prog 21 (regletref07_Legal.sig k) :=
  fn_p (G := regletref07_Legal.G Try.prog) (c := cd Try.f21) (rs := [.tmp 4]) (args := [(false, y45), (false, (.i .i64))]) (l := [.c false .b]) (fn := Try.f21) ⟨Try.func21, by kernel_rfl, by kernel_rfl, by kernel_rfl, le_of rfl, le_of rfl, TT_ok, AD_ok⟩ rfl regletref07_Legal.E (fun k p hp => nomatch hp)
    (fun k i => (regletref07_Legal.O k)[i]?) regletref07_Legal.H (fun k x => regletref07_Legal.f k x.1 x.2.1)
    (fun id o y h => by
    have h' := List.mem_of_getElem? h
    simp only [regletref07_Legal.O, List.mem_cons, List.not_mem_nil, or_false] at h'
    rcases h' with rfl <;> rfl)
    (fun k p hp => by
    rw [show pts (cd Try.f21) regletref07_Legal.H = [(0, [1, 1])] by kernel_rfl] at hp
    simp only [List.mem_cons, List.not_mem_nil, or_false] at hp
    rcases hp with rfl
    · exact ptOk_of rfl (regletref07_Legal.j0_e k))
    (fun k x => by kernel_rfl) k
/-! reglet/regletlaw07.ItemsEnds -/
mutual
def regletlaw07_ItemsEnds.l0 : Nat → (List api_Item) → Int → Option Bool
  | 0, _, _ => none
  | k + 1, list, i => if (decide (i < (list.length : Int))) = true then (if (decide (i < 300)) = true then (regletlaw07_ItemsEnds.j1 k list i) else (some true)) else (some true)
def regletlaw07_ItemsEnds.j1 : Nat → (List api_Item) → Int → Option Bool
  | 0, _, _ => none
  | k + 1, list2, i2 => (items_Legal.f k list2 i2).bind fun r4 => (regletref07_Legal.f k list2 i2).bind fun r5 => if (!decide (r4 = r5)) = true then (some false) else ((at? list2 i2).bind fun e => (items_Forced.f k e).bind fun r6 => (at? list2 i2).bind fun e2 => (regletref07_Forced.f k e2).bind fun r7 => if (!decide (r6 = r7)) = true then (some false) else (regletlaw07_ItemsEnds.j2 k list2 i2))
def regletlaw07_ItemsEnds.j2 : Nat → (List api_Item) → Int → Option Bool
  | 0, _, _ => none
  | k + 1, list3, i3 => regletlaw07_ItemsEnds.l0 k list3 (wrap64 (i3 + 1))
end
def regletlaw07_ItemsEnds.f (k : Nat) (a0 : List api_Item) (a1 : Int) : Option Bool := (regletlaw07_awake.f k).bind fun r => if (!r) = true then (some false) else ((items_Legal.f k a0 a1).bind fun r2 => (regletref07_Legal.f k a0 a1).bind fun r3 => if (!decide (r2 = r3)) = true then (some false) else (regletlaw07_ItemsEnds.l0 k a0 0))
def regletlaw07_ItemsEnds.sig (k : Nat) : Sig := .p [(false, y49), (false, (.i .i64))] [.c false .b] fun x => regletlaw07_ItemsEnds.f k x.1 x.2.1
def regletlaw07_ItemsEnds.E (k : Nat) : List (Nat × Sig) := [(8, regletlaw07_awake.sig k), (20, items_Legal.sig k), (21, regletref07_Legal.sig k), (22, items_Forced.sig k), (23, regletref07_Forced.sig k)]
def regletlaw07_ItemsEnds.G (P : Program) : GI := ⟨P, TT, 45, 45, [], [], [], [], [], AD⟩
def regletlaw07_ItemsEnds.H : H := .s .n (.s .n (.s .n (.s (.s .n (.s (.l 0 (.j 1 .n (.j 2 .n .n))) .n)) .n)))
abbrev regletlaw07_ItemsEnds.l0_s : Sh := [(0, .v y49), (5, .v (.i .i64))]
abbrev regletlaw07_ItemsEnds.j1_s : Sh := [(0, .v y49), (5, .v (.i .i64))]
abbrev regletlaw07_ItemsEnds.j2_s : Sh := [(0, .v y49), (5, .v (.i .i64))]
def regletlaw07_ItemsEnds.O (k : Nat) : List (Orc (denR [.c false .b])) := [⟨regletlaw07_ItemsEnds.l0_s, fun y => regletlaw07_ItemsEnds.l0 k y.1 y.2.1⟩, ⟨regletlaw07_ItemsEnds.j1_s, fun y => regletlaw07_ItemsEnds.j1 k y.1 y.2.1⟩, ⟨regletlaw07_ItemsEnds.j2_s, fun y => regletlaw07_ItemsEnds.j2 k y.1 y.2.1⟩]
theorem regletlaw07_ItemsEnds.j2_e (k : Nat) (y : denS regletlaw07_ItemsEnds.j2_s) : regletlaw07_ItemsEnds.j2 (k + 1) y.1 y.2.1 = evP ((regletlaw07_ItemsEnds.G Try.prog).at (regletlaw07_ItemsEnds.E k)) (fun i => (regletlaw07_ItemsEnds.O k)[i]?) [1, 1, 1, 0, 1, 0, 0, 1, 1] (cd Try.f7) regletlaw07_ItemsEnds.H (kFin ((regletlaw07_ItemsEnds.G Try.prog).at (regletlaw07_ItemsEnds.E k)) [.tmp 4] [.c false .b]) (unS regletlaw07_ItemsEnds.j2_s y) := by rw [regletlaw07_ItemsEnds.j2]; kernel_rfl
theorem regletlaw07_ItemsEnds.j1_e (k : Nat) (y : denS regletlaw07_ItemsEnds.j1_s) : regletlaw07_ItemsEnds.j1 (k + 1) y.1 y.2.1 = evP ((regletlaw07_ItemsEnds.G Try.prog).at (regletlaw07_ItemsEnds.E k)) (fun i => (regletlaw07_ItemsEnds.O k)[i]?) [1, 1, 1, 0, 1, 0, 0, 1] (cd Try.f7) regletlaw07_ItemsEnds.H (kFin ((regletlaw07_ItemsEnds.G Try.prog).at (regletlaw07_ItemsEnds.E k)) [.tmp 4] [.c false .b]) (unS regletlaw07_ItemsEnds.j1_s y) := by rw [regletlaw07_ItemsEnds.j1]; kernel_rfl
theorem regletlaw07_ItemsEnds.l0_e (k : Nat) (y : denS regletlaw07_ItemsEnds.l0_s) : regletlaw07_ItemsEnds.l0 (k + 1) y.1 y.2.1 = evP ((regletlaw07_ItemsEnds.G Try.prog).at (regletlaw07_ItemsEnds.E k)) (fun i => (regletlaw07_ItemsEnds.O k)[i]?) [1, 1, 1, 0, 1, 0, 0] (cd Try.f7) regletlaw07_ItemsEnds.H (kFin ((regletlaw07_ItemsEnds.G Try.prog).at (regletlaw07_ItemsEnds.E k)) [.tmp 4] [.c false .b]) (unS regletlaw07_ItemsEnds.l0_s y) := by rw [regletlaw07_ItemsEnds.l0]; kernel_rfl
theorem regletlaw07_ItemsEnds.go : goesTo Try.prog 7 := ⟨_, Try.func7, by kernel_rfl, rfl⟩
theorem regletlaw07_ItemsEnds.ok (k : Nat) : SigOk Try.prog 7 (regletlaw07_ItemsEnds.sig k) :=
  fn_p (G := regletlaw07_ItemsEnds.G Try.prog) (c := cd Try.f7) (rs := [.tmp 4]) (args := [(false, y49), (false, (.i .i64))]) (l := [.c false .b]) (fn := Try.f7) ⟨Try.func7, by kernel_rfl, by kernel_rfl, by kernel_rfl, le_of rfl, le_of rfl, TT_ok, AD_ok⟩ rfl regletlaw07_ItemsEnds.E (fun k p hp => by
    simp only [regletlaw07_ItemsEnds.E, List.mem_cons, List.not_mem_nil, or_false] at hp
    rcases hp with rfl | rfl | rfl | rfl | rfl
    · exact ⟨regletlaw07_awake.ok k, regletlaw07_awake.go⟩
    · exact ⟨items_Legal.ok k, items_Legal.go⟩
    · exact ⟨regletref07_Legal.ok k, regletref07_Legal.go⟩
    · exact ⟨items_Forced.ok k, items_Forced.go⟩
    · exact ⟨regletref07_Forced.ok k, regletref07_Forced.go⟩)
    (fun k i => (regletlaw07_ItemsEnds.O k)[i]?) regletlaw07_ItemsEnds.H (fun k x => regletlaw07_ItemsEnds.f k x.1 x.2.1)
    (fun id o y h => by
    have h' := List.mem_of_getElem? h
    simp only [regletlaw07_ItemsEnds.O, List.mem_cons, List.not_mem_nil, or_false] at h'
    rcases h' with rfl | rfl | rfl <;> rfl)
    (fun k p hp => by
    rw [show pts (cd Try.f7) regletlaw07_ItemsEnds.H = [(2, [1, 1, 1, 0, 1, 0, 0, 1, 1]), (1, [1, 1, 1, 0, 1, 0, 0, 1]), (0, [1, 1, 1, 0, 1, 0, 0])] by kernel_rfl] at hp
    simp only [List.mem_cons, List.not_mem_nil, or_false] at hp
    rcases hp with rfl | rfl | rfl
    · exact ptOk_of rfl (regletlaw07_ItemsEnds.j2_e k)
    · exact ptOk_of rfl (regletlaw07_ItemsEnds.j1_e k)
    · exact ptOk_of rfl (regletlaw07_ItemsEnds.l0_e k))
    (fun k x => by kernel_rfl) k
end Go.Proofs.Ytkkhgbcmjeaghaa.Vm
