-- PRINTED by vq.py. Not trusted: Lean checks it.
import Derived.Test.YtepeoiimdefnpaaQ0
namespace Go.Proofs.Ytepeoiimdefnpaa.Vm
open Go
open _root_.Go.RowKit (wrap64)
set_option maxRecDepth 100000
set_option linter.unusedVariables false
/-! reglet/metrics.unit -/
def metrics_unit.f (k : Nat) (a0 : Int) (a1 : Int) : Option Bool := if (decide (a1 ≤ a0)) = true then (some (decide (a0 ≤ 1048576))) else (some false)
def metrics_unit.sig (k : Nat) : Sig := .p [(false, (.i .i64)), (false, (.i .i64))] [.c false .b] fun x => metrics_unit.f k x.1 x.2.1
def metrics_unit.E (k : Nat) : List (Nat × Sig) := []
def metrics_unit.G (P : Program) : GI := ⟨P, TT, 12, 12, [], [], [], [], [], AD⟩
def metrics_unit.H : H := .n
def metrics_unit.O (k : Nat) : List (Orc (denR [.c false .b])) := []
theorem metrics_unit.go : goesTo Try.prog 30 := ⟨_, Try.func30, by kernel_rfl, rfl⟩
theorem metrics_unit.ok (k : Nat) : SigOk Try.prog 30 (metrics_unit.sig k) :=
  fn_p (G := metrics_unit.G Try.prog) (c := cd Try.f30) (rs := [.tmp 4]) (args := [(false, (.i .i64)), (false, (.i .i64))]) (l := [.c false .b]) (fn := Try.f30) ⟨Try.func30, by kernel_rfl, by kernel_rfl, by kernel_rfl, le_of rfl, le_of rfl, TT_ok, AD_ok⟩ rfl metrics_unit.E (fun k p hp => nomatch hp)
    (fun k i => (metrics_unit.O k)[i]?) metrics_unit.H (fun k x => metrics_unit.f k x.1 x.2.1)
    (fun id o y h => by cases id <;> cases h)
    (fun k p hp => by rw [show pts (cd Try.f30) metrics_unit.H = [] by kernel_rfl] at hp; nomatch hp)
    (fun k x => by kernel_rfl) k
/-! reglet/metrics.check -/
mutual
def metrics_check.j0 : Nat → (Int × Int × Int × Int × Int × Int × List api_Range × Bool) → Option Int
  | 0, _ => none
  | k + 1, t => if (decide (64 < (t.2.2.2.2.2.2.1.length : Int))) = true then (some 42) else (metrics_check.l1 k (-1) t.2.2.2.2.2.2.1 (t.2.2.2.2.2.2.1.length : Int) 0)
def metrics_check.l1 : Nat → Int → (List api_Range) → Int → Int → Option Int
  | 0, _, _, _, _ => none
  | k + 1, t2, t3, t4, t5 => if (decide (t5 < t4)) = true then ((at? t3 t5).bind fun e => if (decide (e.1 ≤ t2)) = true then (some 42) else (if (decide (e.2.1 < e.1)) = true then (some 42) else (if (decide (1114111 < e.2.1)) = true then (some 42) else (metrics_check.j2 k t3 t4 t5 e)))) else (some 0)
def metrics_check.j2 : Nat → (List api_Range) → Int → Int → api_Range → Option Int
  | 0, _, _, _, _ => none
  | k + 1, t6, t7, t8, t9 => (metrics_unit.f k t9.2.2 0).bind fun r7 => if (!r7) = true then (some 41) else (metrics_check.l1 k t9.2.1 t6 t7 (wrap64 (t8 + 1)))
end
def metrics_check.f (k : Nat) (a0 : Int × Int × Int × Int × Int × Int × List api_Range × Bool) : Option Int := (metrics_unit.f k a0.1 1).bind fun r => if (!r) = true then (some 41) else ((metrics_unit.f k a0.2.1 0).bind fun r2 => if (!r2) = true then (some 41) else ((metrics_unit.f k a0.2.2.1 0).bind fun r3 => if (!r3) = true then (some 41) else ((metrics_unit.f k a0.2.2.2.1 0).bind fun r4 => if (!r4) = true then (some 41) else ((metrics_unit.f k a0.2.2.2.2.1 0).bind fun r5 => if (!r5) = true then (some 41) else ((metrics_unit.f k a0.2.2.2.2.2.1 0).bind fun r6 => if (!r6) = true then (some 41) else (if (decide (a0.2.1 < a0.2.2.2.1)) = true then (some 41) else (metrics_check.j0 k a0)))))))
def metrics_check.sig (k : Nat) : Sig := .p [(true, y9)] [.c false (.i .i64)] fun x => metrics_check.f k x.1
def metrics_check.E (k : Nat) : List (Nat × Sig) := [(30, metrics_unit.sig k)]
def metrics_check.G (P : Program) : GI := ⟨P, TT, 81, 92, [(1, 81, 8), (5, 89, 3)], [], [], [], [], AD⟩
def metrics_check.H : H := .s .n (.j 0 .n (.s .n (.s .n (.s (.s .n (.s (.l 1 (.s .n (.s .n (.s (.s (.s .n (.j 2 .n .n)) .n) .n)))) .n)) .n))))
abbrev metrics_check.j0_s : Sh := [(1, .at_ 81), (81, .box y9)]
abbrev metrics_check.l1_s : Sh := [(3, .v (.i .i64)), (52, .v y2), (53, .v (.i .i64)), (54, .v (.i .i64))]
abbrev metrics_check.j2_s : Sh := [(5, .at_ 89), (52, .v y2), (53, .v (.i .i64)), (54, .v (.i .i64)), (89, .box y1)]
def metrics_check.O (k : Nat) : List (Orc (denR [.c false (.i .i64)])) := [⟨metrics_check.j0_s, fun y => metrics_check.j0 k y.2.1⟩, ⟨metrics_check.l1_s, fun y => metrics_check.l1 k y.1 y.2.1 y.2.2.1 y.2.2.2.1⟩, ⟨metrics_check.j2_s, fun y => metrics_check.j2 k y.2.1 y.2.2.1 y.2.2.2.1 y.2.2.2.2.1⟩]
theorem metrics_check.j2_e (k : Nat) (y : denS metrics_check.j2_s) : metrics_check.j2 (k + 1) y.2.1 y.2.2.1 y.2.2.2.1 y.2.2.2.2.1 = evP ((metrics_check.G Try.prog).at (metrics_check.E k)) (fun i => (metrics_check.O k)[i]?) [1, 1, 1, 1, 0, 1, 0, 0, 1, 1, 0, 0, 1, 1] (cd Try.f23) metrics_check.H (kFin ((metrics_check.G Try.prog).at (metrics_check.E k)) [.tmp 2] [.c false (.i .i64)]) (unS metrics_check.j2_s y) := by rw [metrics_check.j2]; kernel_rfl
theorem metrics_check.l1_e (k : Nat) (y : denS metrics_check.l1_s) : metrics_check.l1 (k + 1) y.1 y.2.1 y.2.2.1 y.2.2.2.1 = evP ((metrics_check.G Try.prog).at (metrics_check.E k)) (fun i => (metrics_check.O k)[i]?) [1, 1, 1, 1, 0, 1, 0, 0] (cd Try.f23) metrics_check.H (kFin ((metrics_check.G Try.prog).at (metrics_check.E k)) [.tmp 2] [.c false (.i .i64)]) (unS metrics_check.l1_s y) := by rw [metrics_check.l1]; kernel_rfl
theorem metrics_check.j0_e (k : Nat) (y : denS metrics_check.j0_s) : metrics_check.j0 (k + 1) y.2.1 = evP ((metrics_check.G Try.prog).at (metrics_check.E k)) (fun i => (metrics_check.O k)[i]?) [1, 1] (cd Try.f23) metrics_check.H (kFin ((metrics_check.G Try.prog).at (metrics_check.E k)) [.tmp 2] [.c false (.i .i64)]) (unS metrics_check.j0_s y) := by rw [metrics_check.j0]; kernel_rfl
theorem metrics_check.go : goesTo Try.prog 23 := ⟨_, Try.func23, by kernel_rfl, rfl⟩
theorem metrics_check.ok (k : Nat) : SigOk Try.prog 23 (metrics_check.sig k) :=
  fn_p (G := metrics_check.G Try.prog) (c := cd Try.f23) (rs := [.tmp 2]) (args := [(true, y9)]) (l := [.c false (.i .i64)]) (fn := Try.f23) ⟨Try.func23, by kernel_rfl, by kernel_rfl, by kernel_rfl, le_of rfl, le_of rfl, TT_ok, AD_ok⟩ rfl metrics_check.E (fun k p hp => by
    simp only [metrics_check.E, List.mem_cons, List.not_mem_nil, or_false] at hp
    rcases hp with rfl
    · exact ⟨metrics_unit.ok k, metrics_unit.go⟩)
    (fun k i => (metrics_check.O k)[i]?) metrics_check.H (fun k x => metrics_check.f k x.1)
    (fun id o y h => by
    have h' := List.mem_of_getElem? h
    simp only [metrics_check.O, List.mem_cons, List.not_mem_nil, or_false] at h'
    rcases h' with rfl | rfl | rfl <;> rfl)
    (fun k p hp => by
    rw [show pts (cd Try.f23) metrics_check.H = [(2, [1, 1, 1, 1, 0, 1, 0, 0, 1, 1, 0, 0, 1, 1]), (1, [1, 1, 1, 1, 0, 1, 0, 0]), (0, [1, 1])] by kernel_rfl] at hp
    simp only [List.mem_cons, List.not_mem_nil, or_false] at hp
    rcases hp with rfl | rfl | rfl
    · exact ptOk_of rfl (metrics_check.j2_e k)
    · exact ptOk_of rfl (metrics_check.l1_e k)
    · exact ptOk_of rfl (metrics_check.j0_e k))
    (fun k x => by kernel_rfl) k
/-! reglet/metrics.New -/
mutual
def metrics_New.j0 : Nat → (List (Int × Int × Int × Int × Int × Int × List api_Range × Bool)) → Option ((Option (List (Int × Int × Int × Int × Int × Int × List api_Range × Bool))) × Int × Int)
  | 0, _ => none
  | k + 1, styles => metrics_New.l1 k styles (styles.length : Int) 0 ([] : List (Int × Int × Int × Int × Int × Int × List api_Range × Bool))
def metrics_New.l1 : Nat → (List (Int × Int × Int × Int × Int × Int × List api_Range × Bool)) → Int → Int → (List (Int × Int × Int × Int × Int × Int × List api_Range × Bool)) → Option ((Option (List (Int × Int × Int × Int × Int × Int × List api_Range × Bool))) × Int × Int)
  | 0, _, _, _, _ => none
  | k + 1, t, t2, t3, t4 => if (decide (t3 < t2)) = true then ((at? t t3).bind fun e => (metrics_check.f k e).bind fun r => if (!decide (r = 0)) = true then (some (none, r, t3)) else (if (([] : List api_Range).length + e.2.2.2.2.2.2.1.length) * 24 ≤ 140737488355328 then (if (t4.length + ([(e.1, e.2.1, e.2.2.1, e.2.2.2.1, e.2.2.2.2.1, e.2.2.2.2.2.1, ([] : List api_Range) ++ e.2.2.2.2.2.2.1, e.2.2.2.2.2.2.2)] : List (Int × Int × Int × Int × Int × Int × List api_Range × Bool)).length) * 80 ≤ 140737488355328 then (metrics_New.l1 k t t2 (wrap64 (t3 + 1)) (t4 ++ ([(e.1, e.2.1, e.2.2.1, e.2.2.2.1, e.2.2.2.2.1, e.2.2.2.2.2.1, ([] : List api_Range) ++ e.2.2.2.2.2.2.1, e.2.2.2.2.2.2.2)] : List (Int × Int × Int × Int × Int × Int × List api_Range × Bool)))) else none) else none)) else (some (some t4, 0, 0))
end
def metrics_New.f (k : Nat) (a0 : List (Int × Int × Int × Int × Int × Int × List api_Range × Bool)) : Option ((Option (List (Int × Int × Int × Int × Int × Int × List api_Range × Bool))) × Int × Int) := if (decide ((a0.length : Int) = 0)) = true then (some (none, 40, 0)) else (if (decide (32 < (a0.length : Int))) = true then (some (none, 40, 0)) else (metrics_New.j0 k a0))
def metrics_New.sig (k : Nat) : Sig := .p [(false, y19)] [.o y18, .c false (.i .i64), .c false (.i .i64)] fun x => metrics_New.f k x.1
def metrics_New.E (k : Nat) : List (Nat × Sig) := [(23, metrics_check.sig k)]
def metrics_New.G (P : Program) : GI := ⟨P, TT, 49, 58, [(18, 49, 1), (7, 50, 8)], [], [], [], [], AD⟩
def metrics_New.H : H := .s .n (.j 0 .n (.s .n (.s (.s .n (.s (.l 1 .n) .n)) .n)))
abbrev metrics_New.j0_s : Sh := [(0, .v y19)]
abbrev metrics_New.l1_s : Sh := [(5, .at_ 49), (19, .v y19), (20, .v (.i .i64)), (21, .v (.i .i64)), (49, .box y18)]
def metrics_New.O (k : Nat) : List (Orc (denR [.o y18, .c false (.i .i64), .c false (.i .i64)])) := [⟨metrics_New.j0_s, fun y => metrics_New.j0 k y.1⟩, ⟨metrics_New.l1_s, fun y => metrics_New.l1 k y.2.1 y.2.2.1 y.2.2.2.1 y.2.2.2.2.1⟩]
theorem metrics_New.l1_e (k : Nat) (y : denS metrics_New.l1_s) : metrics_New.l1 (k + 1) y.2.1 y.2.2.1 y.2.2.2.1 y.2.2.2.2.1 = evP ((metrics_New.G Try.prog).at (metrics_New.E k)) (fun i => (metrics_New.O k)[i]?) [1, 1, 1, 0, 1, 0, 0] (cd Try.f8) metrics_New.H (kFin ((metrics_New.G Try.prog).at (metrics_New.E k)) [.tmp 2, .tmp 3, .tmp 4] [.o y18, .c false (.i .i64), .c false (.i .i64)]) (unS metrics_New.l1_s y) := by rw [metrics_New.l1]; kernel_rfl
theorem metrics_New.j0_e (k : Nat) (y : denS metrics_New.j0_s) : metrics_New.j0 (k + 1) y.1 = evP ((metrics_New.G Try.prog).at (metrics_New.E k)) (fun i => (metrics_New.O k)[i]?) [1, 1] (cd Try.f8) metrics_New.H (kFin ((metrics_New.G Try.prog).at (metrics_New.E k)) [.tmp 2, .tmp 3, .tmp 4] [.o y18, .c false (.i .i64), .c false (.i .i64)]) (unS metrics_New.j0_s y) := by rw [metrics_New.j0]; kernel_rfl
theorem metrics_New.go : goesTo Try.prog 8 := ⟨_, Try.func8, by kernel_rfl, rfl⟩
theorem metrics_New.ok (k : Nat) : SigOk Try.prog 8 (metrics_New.sig k) :=
  fn_p (G := metrics_New.G Try.prog) (c := cd Try.f8) (rs := [.tmp 2, .tmp 3, .tmp 4]) (args := [(false, y19)]) (l := [.o y18, .c false (.i .i64), .c false (.i .i64)]) (fn := Try.f8) ⟨Try.func8, by kernel_rfl, by kernel_rfl, by kernel_rfl, le_of rfl, le_of rfl, TT_ok, AD_ok⟩ rfl metrics_New.E (fun k p hp => by
    simp only [metrics_New.E, List.mem_cons, List.not_mem_nil, or_false] at hp
    rcases hp with rfl
    · exact ⟨metrics_check.ok k, metrics_check.go⟩)
    (fun k i => (metrics_New.O k)[i]?) metrics_New.H (fun k x => metrics_New.f k x.1)
    (fun id o y h => by
    have h' := List.mem_of_getElem? h
    simp only [metrics_New.O, List.mem_cons, List.not_mem_nil, or_false] at h'
    rcases h' with rfl | rfl <;> rfl)
    (fun k p hp => by
    rw [show pts (cd Try.f8) metrics_New.H = [(1, [1, 1, 1, 0, 1, 0, 0]), (0, [1, 1])] by kernel_rfl] at hp
    simp only [List.mem_cons, List.not_mem_nil, or_false] at hp
    rcases hp with rfl | rfl
    · exact ptOk_of rfl (metrics_New.l1_e k)
    · exact ptOk_of rfl (metrics_New.j0_e k))
    (fun k x => by kernel_rfl) k
/-! reglet/regletref04.fits -/
def regletref04_fits.f (k : Nat) (a0 : Int) (a1 : Int) : Option Bool := if (decide (a1 ≤ a0)) = true then (some (decide (a0 ≤ 1048576))) else (some false)
def regletref04_fits.sig (k : Nat) : Sig := .p [(false, (.i .i64)), (false, (.i .i64))] [.c false .b] fun x => regletref04_fits.f k x.1 x.2.1
def regletref04_fits.E (k : Nat) : List (Nat × Sig) := []
def regletref04_fits.G (P : Program) : GI := ⟨P, TT, 12, 12, [], [], [], [], [], AD⟩
def regletref04_fits.H : H := .n
def regletref04_fits.O (k : Nat) : List (Orc (denR [.c false .b])) := []
theorem regletref04_fits.go : goesTo Try.prog 33 := ⟨_, Try.func33, by kernel_rfl, rfl⟩
theorem regletref04_fits.ok (k : Nat) : SigOk Try.prog 33 (regletref04_fits.sig k) :=
  fn_p (G := regletref04_fits.G Try.prog) (c := cd Try.f33) (rs := [.tmp 4]) (args := [(false, (.i .i64)), (false, (.i .i64))]) (l := [.c false .b]) (fn := Try.f33) ⟨Try.func33, by kernel_rfl, by kernel_rfl, by kernel_rfl, le_of rfl, le_of rfl, TT_ok, AD_ok⟩ rfl regletref04_fits.E (fun k p hp => nomatch hp)
    (fun k i => (regletref04_fits.O k)[i]?) regletref04_fits.H (fun k x => regletref04_fits.f k x.1 x.2.1)
    (fun id o y h => by cases id <;> cases h)
    (fun k p hp => by rw [show pts (cd Try.f33) regletref04_fits.H = [] by kernel_rfl] at hp; nomatch hp)
    (fun k x => by kernel_rfl) k
/-! reglet/regletref04.Style -/
mutual
def regletref04_Style.l0 : Nat → (List Int) → Int → (Int × Int × Int × Int × Int × Int × List api_Range × Bool) → Option Int
  | 0, _, _, _ => none
  | k + 1, t, t2, t3 => if (decide (t2 < (t.length : Int))) = true then (if 0 ≤ t2 ∧ t2 < (t.length : Int) then ((t[t2.toNat]?).bind fun e => (regletref04_fits.f k e 0).bind fun r => if (!r) = true then (some 41) else (regletref04_Style.l0 k t (wrap64 (t2 + 1)) t3)) else none) else ((regletref04_fits.f k t3.1 1).bind fun r2 => if (!r2) = true then (some 41) else (if (decide (t3.2.1 < t3.2.2.2.1)) = true then (some 41) else (regletref04_Style.j1 k t3)))
def regletref04_Style.j1 : Nat → (Int × Int × Int × Int × Int × Int × List api_Range × Bool) → Option Int
  | 0, _ => none
  | k + 1, t4 => if (decide (64 < (t4.2.2.2.2.2.2.1.length : Int))) = true then (some 42) else (regletref04_Style.l2 k 0 t4)
def regletref04_Style.l2 : Nat → Int → (Int × Int × Int × Int × Int × Int × List api_Range × Bool) → Option Int
  | 0, _, _ => none
  | k + 1, t5, t6 => if (decide (t5 < (t6.2.2.2.2.2.2.1.length : Int))) = true then ((at? t6.2.2.2.2.2.2.1 t5).bind fun e2 => if (decide (t5 = 0)) = true then (if (decide (e2.1 < 0)) = true then (some 42) else (if (decide (0 < t5)) = true then ((at? t6.2.2.2.2.2.2.1 (wrap64 (t5 - 1))).bind fun e3 => if (decide (e2.1 ≤ e3.2.1)) = true then (some 42) else (if (decide (e2.2.1 < e2.1)) = true then (some 42) else (if (decide (1114111 < e2.2.1)) = true then (some 42) else (regletref04_Style.j3 k t5 t6 e2)))) else (if (decide (e2.2.1 < e2.1)) = true then (some 42) else (if (decide (1114111 < e2.2.1)) = true then (some 42) else (regletref04_Style.j3 k t5 t6 e2))))) else (if (decide (0 < t5)) = true then ((at? t6.2.2.2.2.2.2.1 (wrap64 (t5 - 1))).bind fun e4 => if (decide (e2.1 ≤ e4.2.1)) = true then (some 42) else (if (decide (e2.2.1 < e2.1)) = true then (some 42) else (if (decide (1114111 < e2.2.1)) = true then (some 42) else (regletref04_Style.j3 k t5 t6 e2)))) else (if (decide (e2.2.1 < e2.1)) = true then (some 42) else (if (decide (1114111 < e2.2.1)) = true then (some 42) else (regletref04_Style.j3 k t5 t6 e2))))) else (some 0)
def regletref04_Style.j3 : Nat → Int → (Int × Int × Int × Int × Int × Int × List api_Range × Bool) → api_Range → Option Int
  | 0, _, _, _ => none
  | k + 1, t7, t8, t9 => (regletref04_fits.f k t9.2.2 0).bind fun r3 => if (!r3) = true then (some 41) else (regletref04_Style.l2 k (wrap64 (t7 + 1)) t8)
end
def regletref04_Style.f (k : Nat) (a0 : Int × Int × Int × Int × Int × Int × List api_Range × Bool) : Option Int := regletref04_Style.l0 k ([a0.2.1, a0.2.2.1, a0.2.2.2.1, a0.2.2.2.2.1, a0.2.2.2.2.2.1] : List Int) 0 a0
def regletref04_Style.sig (k : Nat) : Sig := .p [(true, y9)] [.c false (.i .i64)] fun x => regletref04_Style.f k x.1
def regletref04_Style.E (k : Nat) : List (Nat × Sig) := [(33, regletref04_fits.sig k)]
def regletref04_Style.G (P : Program) : GI := ⟨P, TT, 96, 107, [(1, 96, 8), (6, 104, 3)], [], [], [], [], AD⟩
def regletref04_Style.H : H := .s .n (.s .n (.s (.s .n (.s (.l 0 .n) .n)) (.j 1 .n (.s .n (.s (.s .n (.s (.l 2 (.s .n (.s (.s (.s .n (.j 3 .n .n)) .n) .n))) .n)) .n)))))
abbrev regletref04_Style.l0_s : Sh := [(1, .at_ 96), (3, .v y20), (4, .v (.i .i64)), (96, .box y9)]
abbrev regletref04_Style.j1_s : Sh := [(1, .at_ 96), (96, .box y9)]
abbrev regletref04_Style.l2_s : Sh := [(1, .at_ 96), (5, .v (.i .i64)), (96, .box y9)]
abbrev regletref04_Style.j3_s : Sh := [(1, .at_ 96), (5, .v (.i .i64)), (6, .at_ 104), (96, .box y9), (104, .box y1)]
def regletref04_Style.O (k : Nat) : List (Orc (denR [.c false (.i .i64)])) := [⟨regletref04_Style.l0_s, fun y => regletref04_Style.l0 k y.2.1 y.2.2.1 y.2.2.2.1⟩, ⟨regletref04_Style.j1_s, fun y => regletref04_Style.j1 k y.2.1⟩, ⟨regletref04_Style.l2_s, fun y => regletref04_Style.l2 k y.2.1 y.2.2.1⟩, ⟨regletref04_Style.j3_s, fun y => regletref04_Style.j3 k y.2.1 y.2.2.2.1 y.2.2.2.2.1⟩]
theorem regletref04_Style.l0_e (k : Nat) (y : denS regletref04_Style.l0_s) : regletref04_Style.l0 (k + 1) y.2.1 y.2.2.1 y.2.2.2.1 = evP ((regletref04_Style.G Try.prog).at (regletref04_Style.E k)) (fun i => (regletref04_Style.O k)[i]?) [1, 1, 0, 1, 0, 0] (cd Try.f31) regletref04_Style.H (kFin ((regletref04_Style.G Try.prog).at (regletref04_Style.E k)) [.tmp 2] [.c false (.i .i64)]) (unS regletref04_Style.l0_s y) := by rw [regletref04_Style.l0]; kernel_rfl
theorem regletref04_Style.j3_e (k : Nat) (y : denS regletref04_Style.j3_s) : regletref04_Style.j3 (k + 1) y.2.1 y.2.2.2.1 y.2.2.2.2.1 = evP ((regletref04_Style.G Try.prog).at (regletref04_Style.E k)) (fun i => (regletref04_Style.O k)[i]?) [1, 1, 1, 1, 1, 0, 1, 0, 0, 1, 0, 0, 1, 1] (cd Try.f31) regletref04_Style.H (kFin ((regletref04_Style.G Try.prog).at (regletref04_Style.E k)) [.tmp 2] [.c false (.i .i64)]) (unS regletref04_Style.j3_s y) := by rw [regletref04_Style.j3]; kernel_rfl
theorem regletref04_Style.l2_e (k : Nat) (y : denS regletref04_Style.l2_s) : regletref04_Style.l2 (k + 1) y.2.1 y.2.2.1 = evP ((regletref04_Style.G Try.prog).at (regletref04_Style.E k)) (fun i => (regletref04_Style.O k)[i]?) [1, 1, 1, 1, 1, 0, 1, 0, 0] (cd Try.f31) regletref04_Style.H (kFin ((regletref04_Style.G Try.prog).at (regletref04_Style.E k)) [.tmp 2] [.c false (.i .i64)]) (unS regletref04_Style.l2_s y) := by rw [regletref04_Style.l2]; kernel_rfl
theorem regletref04_Style.j1_e (k : Nat) (y : denS regletref04_Style.j1_s) : regletref04_Style.j1 (k + 1) y.2.1 = evP ((regletref04_Style.G Try.prog).at (regletref04_Style.E k)) (fun i => (regletref04_Style.O k)[i]?) [1, 1, 1, 1] (cd Try.f31) regletref04_Style.H (kFin ((regletref04_Style.G Try.prog).at (regletref04_Style.E k)) [.tmp 2] [.c false (.i .i64)]) (unS regletref04_Style.j1_s y) := by rw [regletref04_Style.j1]; kernel_rfl
theorem regletref04_Style.go : goesTo Try.prog 31 := ⟨_, Try.func31, by kernel_rfl, rfl⟩
theorem regletref04_Style.ok (k : Nat) : SigOk Try.prog 31 (regletref04_Style.sig k) :=
  fn_p (G := regletref04_Style.G Try.prog) (c := cd Try.f31) (rs := [.tmp 2]) (args := [(true, y9)]) (l := [.c false (.i .i64)]) (fn := Try.f31) ⟨Try.func31, by kernel_rfl, by kernel_rfl, by kernel_rfl, le_of rfl, le_of rfl, TT_ok, AD_ok⟩ rfl regletref04_Style.E (fun k p hp => by
    simp only [regletref04_Style.E, List.mem_cons, List.not_mem_nil, or_false] at hp
    rcases hp with rfl
    · exact ⟨regletref04_fits.ok k, regletref04_fits.go⟩)
    (fun k i => (regletref04_Style.O k)[i]?) regletref04_Style.H (fun k x => regletref04_Style.f k x.1)
    (fun id o y h => by
    have h' := List.mem_of_getElem? h
    simp only [regletref04_Style.O, List.mem_cons, List.not_mem_nil, or_false] at h'
    rcases h' with rfl | rfl | rfl | rfl <;> rfl)
    (fun k p hp => by
    rw [show pts (cd Try.f31) regletref04_Style.H = [(0, [1, 1, 0, 1, 0, 0]), (3, [1, 1, 1, 1, 1, 0, 1, 0, 0, 1, 0, 0, 1, 1]), (2, [1, 1, 1, 1, 1, 0, 1, 0, 0]), (1, [1, 1, 1, 1])] by kernel_rfl] at hp
    simp only [List.mem_cons, List.not_mem_nil, or_false] at hp
    rcases hp with rfl | rfl | rfl | rfl
    · exact ptOk_of rfl (regletref04_Style.l0_e k)
    · exact ptOk_of rfl (regletref04_Style.j3_e k)
    · exact ptOk_of rfl (regletref04_Style.l2_e k)
    · exact ptOk_of rfl (regletref04_Style.j1_e k))
    (fun k x => by kernel_rfl) k
/-! reglet/regletref04.Check -/
mutual
def regletref04_Check.j0 : Nat → (List (Int × Int × Int × Int × Int × Int × List api_Range × Bool)) → Option (Int × Int)
  | 0, _ => none
  | k + 1, l => regletref04_Check.l1 k l 0
def regletref04_Check.l1 : Nat → (List (Int × Int × Int × Int × Int × Int × List api_Range × Bool)) → Int → Option (Int × Int)
  | 0, _, _ => none
  | k + 1, l2, i => if (decide (i < (l2.length : Int))) = true then ((at? l2 i).bind fun e => (regletref04_Style.f k e).bind fun r => if (!decide (r = 0)) = true then (some (r, i)) else (regletref04_Check.l1 k l2 (wrap64 (i + 1)))) else (some (0, 0))
end
def regletref04_Check.f (k : Nat) (a0 : List (Int × Int × Int × Int × Int × Int × List api_Range × Bool)) : Option (Int × Int) := if (decide ((a0.length : Int) = 0)) = true then (some (40, 0)) else (if (decide (32 < (a0.length : Int))) = true then (some (40, 0)) else (regletref04_Check.j0 k a0))
def regletref04_Check.sig (k : Nat) : Sig := .p [(false, y19)] [.c false (.i .i64), .c false (.i .i64)] fun x => regletref04_Check.f k x.1
def regletref04_Check.E (k : Nat) : List (Nat × Sig) := [(31, regletref04_Style.sig k)]
def regletref04_Check.G (P : Program) : GI := ⟨P, TT, 29, 29, [], [], [], [], [], AD⟩
def regletref04_Check.H : H := .s .n (.j 0 .n (.s (.s .n (.s (.l 1 .n) .n)) .n))
abbrev regletref04_Check.j0_s : Sh := [(0, .v y19)]
abbrev regletref04_Check.l1_s : Sh := [(0, .v y19), (4, .v (.i .i64))]
def regletref04_Check.O (k : Nat) : List (Orc (denR [.c false (.i .i64), .c false (.i .i64)])) := [⟨regletref04_Check.j0_s, fun y => regletref04_Check.j0 k y.1⟩, ⟨regletref04_Check.l1_s, fun y => regletref04_Check.l1 k y.1 y.2.1⟩]
theorem regletref04_Check.l1_e (k : Nat) (y : denS regletref04_Check.l1_s) : regletref04_Check.l1 (k + 1) y.1 y.2.1 = evP ((regletref04_Check.G Try.prog).at (regletref04_Check.E k)) (fun i => (regletref04_Check.O k)[i]?) [1, 1, 0, 1, 0, 0] (cd Try.f24) regletref04_Check.H (kFin ((regletref04_Check.G Try.prog).at (regletref04_Check.E k)) [.tmp 2, .tmp 3] [.c false (.i .i64), .c false (.i .i64)]) (unS regletref04_Check.l1_s y) := by rw [regletref04_Check.l1]; kernel_rfl
theorem regletref04_Check.j0_e (k : Nat) (y : denS regletref04_Check.j0_s) : regletref04_Check.j0 (k + 1) y.1 = evP ((regletref04_Check.G Try.prog).at (regletref04_Check.E k)) (fun i => (regletref04_Check.O k)[i]?) [1, 1] (cd Try.f24) regletref04_Check.H (kFin ((regletref04_Check.G Try.prog).at (regletref04_Check.E k)) [.tmp 2, .tmp 3] [.c false (.i .i64), .c false (.i .i64)]) (unS regletref04_Check.j0_s y) := by rw [regletref04_Check.j0]; kernel_rfl
theorem regletref04_Check.go : goesTo Try.prog 24 := ⟨_, Try.func24, by kernel_rfl, rfl⟩
theorem regletref04_Check.ok (k : Nat) : SigOk Try.prog 24 (regletref04_Check.sig k) :=
  fn_p (G := regletref04_Check.G Try.prog) (c := cd Try.f24) (rs := [.tmp 2, .tmp 3]) (args := [(false, y19)]) (l := [.c false (.i .i64), .c false (.i .i64)]) (fn := Try.f24) ⟨Try.func24, by kernel_rfl, by kernel_rfl, by kernel_rfl, le_of rfl, le_of rfl, TT_ok, AD_ok⟩ rfl regletref04_Check.E (fun k p hp => by
    simp only [regletref04_Check.E, List.mem_cons, List.not_mem_nil, or_false] at hp
    rcases hp with rfl
    · exact ⟨regletref04_Style.ok k, regletref04_Style.go⟩)
    (fun k i => (regletref04_Check.O k)[i]?) regletref04_Check.H (fun k x => regletref04_Check.f k x.1)
    (fun id o y h => by
    have h' := List.mem_of_getElem? h
    simp only [regletref04_Check.O, List.mem_cons, List.not_mem_nil, or_false] at h'
    rcases h' with rfl | rfl <;> rfl)
    (fun k p hp => by
    rw [show pts (cd Try.f24) regletref04_Check.H = [(1, [1, 1, 0, 1, 0, 0]), (0, [1, 1])] by kernel_rfl] at hp
    simp only [List.mem_cons, List.not_mem_nil, or_false] at hp
    rcases hp with rfl | rfl
    · exact ptOk_of rfl (regletref04_Check.l1_e k)
    · exact ptOk_of rfl (regletref04_Check.j0_e k))
    (fun k x => by kernel_rfl) k
/-! reglet/regletlaw04.table -/
def regletlaw04_table.f (k : Nat) (a0 : List (Int × Int × Int × Int × Int × Int × List api_Range × Bool)) : Option ((Option (List (Int × Int × Int × Int × Int × Int × List api_Range × Bool)))) := (regletref04_Check.f k a0).bind fun r => if (!decide (r.1 = 0)) = true then (some none) else ((metrics_New.f k a0).bind fun r2 => optK r2.1 (if (!decide (r2.2.1 = 0)) = true then (some none) else (some none)) fun p => if (!decide (r2.2.1 = 0)) = true then (some none) else (some (some p)))
def regletlaw04_table.sig (k : Nat) : Sig := .p [(false, y19)] [.o y18] fun x => regletlaw04_table.f k x.1
def regletlaw04_table.E (k : Nat) : List (Nat × Sig) := [(8, metrics_New.sig k), (24, regletref04_Check.sig k)]
def regletlaw04_table.G (P : Program) : GI := ⟨P, TT, 24, 24, [], [], [], [], [], AD⟩
def regletlaw04_table.H : H := .n
def regletlaw04_table.O (k : Nat) : List (Orc (denR [.o y18])) := []
theorem regletlaw04_table.go : goesTo Try.prog 10 := ⟨_, Try.func10, by kernel_rfl, rfl⟩
theorem regletlaw04_table.ok (k : Nat) : SigOk Try.prog 10 (regletlaw04_table.sig k) :=
  fn_p (G := regletlaw04_table.G Try.prog) (c := cd Try.f10) (rs := [.tmp 2]) (args := [(false, y19)]) (l := [.o y18]) (fn := Try.f10) ⟨Try.func10, by kernel_rfl, by kernel_rfl, by kernel_rfl, le_of rfl, le_of rfl, TT_ok, AD_ok⟩ rfl regletlaw04_table.E (fun k p hp => by
    simp only [regletlaw04_table.E, List.mem_cons, List.not_mem_nil, or_false] at hp
    rcases hp with rfl | rfl
    · exact ⟨metrics_New.ok k, metrics_New.go⟩
    · exact ⟨regletref04_Check.ok k, regletref04_Check.go⟩)
    (fun k i => (regletlaw04_table.O k)[i]?) regletlaw04_table.H (fun k x => regletlaw04_table.f k x.1)
    (fun id o y h => by cases id <;> cases h)
    (fun k p hp => by rw [show pts (cd Try.f10) regletlaw04_table.H = [] by kernel_rfl] at hp; nomatch hp)
    (fun k x => by kernel_rfl) k
/-! (*reglet/metrics.Table).Styles -/
def metrics_Table_Styles.f (k : Nat) (a0 : List (Int × Int × Int × Int × Int × Int × List api_Range × Bool)) : Option Int := some (a0.length : Int)
def metrics_Table_Styles.sig (k : Nat) : Sig := .p [(false, y21)] [.c false (.i .i64)] fun x => metrics_Table_Styles.f k x.1
def metrics_Table_Styles.E (k : Nat) : List (Nat × Sig) := []
def metrics_Table_Styles.G (P : Program) : GI := ⟨P, TT, 8, 8, [], [], [], [], [], AD⟩
def metrics_Table_Styles.H : H := .n
def metrics_Table_Styles.O (k : Nat) : List (Orc (denR [.c false (.i .i64)])) := []
theorem metrics_Table_Styles.go : goesTo Try.prog 20 := ⟨_, Try.func20, by kernel_rfl, rfl⟩
theorem metrics_Table_Styles.ok (k : Nat) : SigOk Try.prog 20 (metrics_Table_Styles.sig k) :=
  fn_p (G := metrics_Table_Styles.G Try.prog) (c := cd Try.f20) (rs := [.tmp 2]) (args := [(false, y21)]) (l := [.c false (.i .i64)]) (fn := Try.f20) ⟨Try.func20, by kernel_rfl, by kernel_rfl, by kernel_rfl, le_of rfl, le_of rfl, TT_ok, AD_ok⟩ rfl metrics_Table_Styles.E (fun k p hp => nomatch hp)
    (fun k i => (metrics_Table_Styles.O k)[i]?) metrics_Table_Styles.H (fun k x => metrics_Table_Styles.f k x.1)
    (fun id o y h => by cases id <;> cases h)
    (fun k p hp => by rw [show pts (cd Try.f20) metrics_Table_Styles.H = [] by kernel_rfl] at hp; nomatch hp)
    (fun k x => by kernel_rfl) k
/-! (*reglet/metrics.Table).Check -/
def metrics_Table_Check.f (k : Nat) (a0 : List (Int × Int × Int × Int × Int × Int × List api_Range × Bool)) (a1 : Int) : Option Int := if (decide (a1 < 0)) = true then (some 43) else (if (decide ((a0.length : Int) ≤ a1)) = true then (some 43) else (some 0))
def metrics_Table_Check.sig (k : Nat) : Sig := .p [(false, y21), (false, (.i .i64))] [.c false (.i .i64)] fun x => metrics_Table_Check.f k x.1 x.2.1
def metrics_Table_Check.E (k : Nat) : List (Nat × Sig) := []
def metrics_Table_Check.G (P : Program) : GI := ⟨P, TT, 16, 16, [], [], [], [], [], AD⟩
def metrics_Table_Check.H : H := .n
def metrics_Table_Check.O (k : Nat) : List (Orc (denR [.c false (.i .i64)])) := []
theorem metrics_Table_Check.go : goesTo Try.prog 13 := ⟨_, Try.func13, by kernel_rfl, rfl⟩
theorem metrics_Table_Check.ok (k : Nat) : SigOk Try.prog 13 (metrics_Table_Check.sig k) :=
  fn_p (G := metrics_Table_Check.G Try.prog) (c := cd Try.f13) (rs := [.tmp 4]) (args := [(false, y21), (false, (.i .i64))]) (l := [.c false (.i .i64)]) (fn := Try.f13) ⟨Try.func13, by kernel_rfl, by kernel_rfl, by kernel_rfl, le_of rfl, le_of rfl, TT_ok, AD_ok⟩ rfl metrics_Table_Check.E (fun k p hp => nomatch hp)
    (fun k i => (metrics_Table_Check.O k)[i]?) metrics_Table_Check.H (fun k x => metrics_Table_Check.f k x.1 x.2.1)
    (fun id o y h => by cases id <;> cases h)
    (fun k p hp => by rw [show pts (cd Try.f13) metrics_Table_Check.H = [] by kernel_rfl] at hp; nomatch hp)
    (fun k x => by kernel_rfl) k
/-! (*reglet/metrics.Table).of -/
def metrics_Table_of.f (k : Nat) (a0 : List (Int × Int × Int × Int × Int × Int × List api_Range × Bool)) (a1 : Int) : Option ((Int × Int × Int × Int × Int × Int × List api_Range × Bool)) := (metrics_Table_Check.f k a0 a1).bind fun r => if (!decide (r = 0)) = true then (some (0, 0, 0, 0, 0, 0, ([] : List api_Range), (false))) else ((at? a0 a1).bind fun e => some e)
def metrics_Table_of.sig (k : Nat) : Sig := .p [(false, y31), (false, (.i .i64))] [.c true y29] fun x => metrics_Table_of.f k x.1 x.2.1
def metrics_Table_of.E (k : Nat) : List (Nat × Sig) := [(13, metrics_Table_Check.sig k)]
def metrics_Table_of.G (P : Program) : GI := ⟨P, TT, 17, 25, [(4, 17, 8)], [], [], [], [], AD⟩
def metrics_Table_of.H : H := .n
def metrics_Table_of.O (k : Nat) : List (Orc (denR [.c true y29])) := []
theorem metrics_Table_of.go : goesTo Try.prog 25 := ⟨_, Try.func25, by kernel_rfl, rfl⟩
theorem metrics_Table_of.ok (k : Nat) : SigOk Try.prog 25 (metrics_Table_of.sig k) :=
  fn_p (G := metrics_Table_of.G Try.prog) (c := cd Try.f25) (rs := [.cell 4 27]) (args := [(false, y31), (false, (.i .i64))]) (l := [.c true y29]) (fn := Try.f25) ⟨Try.func25, by kernel_rfl, by kernel_rfl, by kernel_rfl, le_of rfl, le_of rfl, TT_ok, AD_ok⟩ rfl metrics_Table_of.E (fun k p hp => by
    simp only [metrics_Table_of.E, List.mem_cons, List.not_mem_nil, or_false] at hp
    rcases hp with rfl
    · exact ⟨metrics_Table_Check.ok k, metrics_Table_Check.go⟩)
    (fun k i => (metrics_Table_of.O k)[i]?) metrics_Table_of.H (fun k x => metrics_Table_of.f k x.1 x.2.1)
    (fun id o y h => by cases id <;> cases h)
    (fun k p hp => by rw [show pts (cd Try.f25) metrics_Table_of.H = [] by kernel_rfl] at hp; nomatch hp)
    (fun k x => by kernel_rfl) k
/-! reglet/runes.Kind -/
mutual
def runes_Kind.j0 : Nat → Int → Bool → Option Int
  | 0, _, _ => none
  | k + 1, t, t2 => if t2 = true then (some 1) else (if (decide (t = 160)) = true then (runes_Kind.j1 k t true) else (runes_Kind.j1 k t (decide (t = 8239))))
def runes_Kind.j1 : Nat → Int → Bool → Option Int
  | 0, _, _ => none
  | k + 1, t3, t4 => if t4 = true then (some 2) else (if (decide (t3 = 173)) = true then (some 3) else (if (decide (t3 = 8203)) = true then (some 4) else (if (decide (t3 = 8288)) = true then (runes_Kind.j2 k t3 true) else (runes_Kind.j2 k t3 (decide (t3 = 65279))))))
def runes_Kind.j2 : Nat → Int → Bool → Option Int
  | 0, _, _ => none
  | k + 1, t5, t6 => if t6 = true then (some 5) else (if (decide (t5 = 45)) = true then (runes_Kind.j3 k t5 true) else (runes_Kind.j3 k t5 (decide (t5 = 8208))))
def runes_Kind.j3 : Nat → Int → Bool → Option Int
  | 0, _, _ => none
  | k + 1, t7, t8 => if t8 = true then (some 6) else (if (decide (t7 = 8232)) = true then (some 7) else (if (decide (t7 = 10)) = true then (some 8) else (some 0)))
end
def runes_Kind.f (k : Nat) (a0 : Int) : Option Int := if (decide (a0 = 32)) = true then (runes_Kind.j0 k a0 true) else (runes_Kind.j0 k a0 (decide (a0 = 9)))
def runes_Kind.sig (k : Nat) : Sig := .p [(false, (.i .i32))] [.c false (.i .i64)] fun x => runes_Kind.f k x.1
def runes_Kind.E (k : Nat) : List (Nat × Sig) := []
def runes_Kind.G (P : Program) : GI := ⟨P, TT, 24, 24, [], [], [], [], [], AD⟩
def runes_Kind.H : H := .s .n (.s (.s .n (.s (.j 0 .n (.s .n (.j 1 .n (.s .n (.s .n (.s .n (.s .n (.s .n (.j 2 .n (.s .n (.j 3 .n .n))))))))))) .n)) .n)
abbrev runes_Kind.j0_s : Sh := [(3, .v (.i .i32)), (4, .v .b)]
abbrev runes_Kind.j1_s : Sh := [(3, .v (.i .i32)), (7, .v .b)]
abbrev runes_Kind.j2_s : Sh := [(3, .v (.i .i32)), (14, .v .b)]
abbrev runes_Kind.j3_s : Sh := [(3, .v (.i .i32)), (17, .v .b)]
def runes_Kind.O (k : Nat) : List (Orc (denR [.c false (.i .i64)])) := [⟨runes_Kind.j0_s, fun y => runes_Kind.j0 k y.1 y.2.1⟩, ⟨runes_Kind.j1_s, fun y => runes_Kind.j1 k y.1 y.2.1⟩, ⟨runes_Kind.j2_s, fun y => runes_Kind.j2 k y.1 y.2.1⟩, ⟨runes_Kind.j3_s, fun y => runes_Kind.j3 k y.1 y.2.1⟩]
theorem runes_Kind.j3_e (k : Nat) (y : denS runes_Kind.j3_s) : runes_Kind.j3 (k + 1) y.1 y.2.1 = evP ((runes_Kind.G Try.prog).at (runes_Kind.E k)) (fun i => (runes_Kind.O k)[i]?) [1, 0, 1, 0, 1, 1, 1, 1, 1, 1, 1, 1, 1, 1, 1] (cd Try.f28) runes_Kind.H (kFin ((runes_Kind.G Try.prog).at (runes_Kind.E k)) [.tmp 2] [.c false (.i .i64)]) (unS runes_Kind.j3_s y) := by rw [runes_Kind.j3]; kernel_rfl
theorem runes_Kind.j2_e (k : Nat) (y : denS runes_Kind.j2_s) : runes_Kind.j2 (k + 1) y.1 y.2.1 = evP ((runes_Kind.G Try.prog).at (runes_Kind.E k)) (fun i => (runes_Kind.O k)[i]?) [1, 0, 1, 0, 1, 1, 1, 1, 1, 1, 1, 1, 1] (cd Try.f28) runes_Kind.H (kFin ((runes_Kind.G Try.prog).at (runes_Kind.E k)) [.tmp 2] [.c false (.i .i64)]) (unS runes_Kind.j2_s y) := by rw [runes_Kind.j2]; kernel_rfl
theorem runes_Kind.j1_e (k : Nat) (y : denS runes_Kind.j1_s) : runes_Kind.j1 (k + 1) y.1 y.2.1 = evP ((runes_Kind.G Try.prog).at (runes_Kind.E k)) (fun i => (runes_Kind.O k)[i]?) [1, 0, 1, 0, 1, 1, 1] (cd Try.f28) runes_Kind.H (kFin ((runes_Kind.G Try.prog).at (runes_Kind.E k)) [.tmp 2] [.c false (.i .i64)]) (unS runes_Kind.j1_s y) := by rw [runes_Kind.j1]; kernel_rfl
theorem runes_Kind.j0_e (k : Nat) (y : denS runes_Kind.j0_s) : runes_Kind.j0 (k + 1) y.1 y.2.1 = evP ((runes_Kind.G Try.prog).at (runes_Kind.E k)) (fun i => (runes_Kind.O k)[i]?) [1, 0, 1, 0, 1] (cd Try.f28) runes_Kind.H (kFin ((runes_Kind.G Try.prog).at (runes_Kind.E k)) [.tmp 2] [.c false (.i .i64)]) (unS runes_Kind.j0_s y) := by rw [runes_Kind.j0]; kernel_rfl
theorem runes_Kind.go : goesTo Try.prog 28 := ⟨_, Try.func28, by kernel_rfl, rfl⟩
theorem runes_Kind.ok (k : Nat) : SigOk Try.prog 28 (runes_Kind.sig k) :=
  fn_p (G := runes_Kind.G Try.prog) (c := cd Try.f28) (rs := [.tmp 2]) (args := [(false, (.i .i32))]) (l := [.c false (.i .i64)]) (fn := Try.f28) ⟨Try.func28, by kernel_rfl, by kernel_rfl, by kernel_rfl, le_of rfl, le_of rfl, TT_ok, AD_ok⟩ rfl runes_Kind.E (fun k p hp => nomatch hp)
    (fun k i => (runes_Kind.O k)[i]?) runes_Kind.H (fun k x => runes_Kind.f k x.1)
    (fun id o y h => by
    have h' := List.mem_of_getElem? h
    simp only [runes_Kind.O, List.mem_cons, List.not_mem_nil, or_false] at h'
    rcases h' with rfl | rfl | rfl | rfl <;> rfl)
    (fun k p hp => by
    rw [show pts (cd Try.f28) runes_Kind.H = [(3, [1, 0, 1, 0, 1, 1, 1, 1, 1, 1, 1, 1, 1, 1, 1]), (2, [1, 0, 1, 0, 1, 1, 1, 1, 1, 1, 1, 1, 1]), (1, [1, 0, 1, 0, 1, 1, 1]), (0, [1, 0, 1, 0, 1])] by kernel_rfl] at hp
    simp only [List.mem_cons, List.not_mem_nil, or_false] at hp
    rcases hp with rfl | rfl | rfl | rfl
    · exact ptOk_of rfl (runes_Kind.j3_e k)
    · exact ptOk_of rfl (runes_Kind.j2_e k)
    · exact ptOk_of rfl (runes_Kind.j1_e k)
    · exact ptOk_of rfl (runes_Kind.j0_e k))
    (fun k x => by kernel_rfl) k
/-! reglet/metrics.lookup -/
mutual
def metrics_lookup.l0 : Nat → Int → Int → Int → (Int × Int × Int × Int × Int × Int × List api_Range × Bool) → Option Int
  | 0, _, _, _, _ => none
  | k + 1, r, low, high, s => if (decide (low < high)) = true then ((at? s.2.2.2.2.2.2.1 (wrap64 ((wrap64 (low + high)).tdiv 2))).bind fun e => if (decide (e.2.1 < r)) = true then (metrics_lookup.l0 k r (wrap64 ((wrap64 ((wrap64 (low + high)).tdiv 2)) + 1)) high s) else (metrics_lookup.l0 k r low (wrap64 ((wrap64 (low + high)).tdiv 2)) s)) else (if (decide (low < (s.2.2.2.2.2.2.1.length : Int))) = true then ((at? s.2.2.2.2.2.2.1 low).bind fun e2 => if (decide (e2.1 ≤ r)) = true then ((at? s.2.2.2.2.2.2.1 low).bind fun e3 => some e3.2.2) else (metrics_lookup.j1 k s)) else (metrics_lookup.j1 k s))
def metrics_lookup.j1 : Nat → (Int × Int × Int × Int × Int × Int × List api_Range × Bool) → Option Int
  | 0, _ => none
  | k + 1, s2 => some s2.2.2.2.2.2.1
end
def metrics_lookup.f (k : Nat) (a0 : Int × Int × Int × Int × Int × Int × List api_Range × Bool) (a1 : Int) : Option Int := metrics_lookup.l0 k a1 0 (a0.2.2.2.2.2.2.1.length : Int) a0
def metrics_lookup.sig (k : Nat) : Sig := .p [(true, y9), (false, (.i .i64))] [.c false (.i .i64)] fun x => metrics_lookup.f k x.1 x.2.1
def metrics_lookup.E (k : Nat) : List (Nat × Sig) := []
def metrics_lookup.G (P : Program) : GI := ⟨P, TT, 52, 60, [(2, 52, 8)], [], [], [], [], AD⟩
def metrics_lookup.H : H := .s .n (.s .n (.s (.s (.l 0 .n) .n) (.j 1 .n .n)))
abbrev metrics_lookup.l0_s : Sh := [(1, .v (.i .i64)), (2, .at_ 52), (5, .v (.i .i64)), (6, .v (.i .i64)), (52, .box y9)]
abbrev metrics_lookup.j1_s : Sh := [(2, .at_ 52), (52, .box y9)]
def metrics_lookup.O (k : Nat) : List (Orc (denR [.c false (.i .i64)])) := [⟨metrics_lookup.l0_s, fun y => metrics_lookup.l0 k y.1 y.2.2.1 y.2.2.2.1 y.2.2.2.2.1⟩, ⟨metrics_lookup.j1_s, fun y => metrics_lookup.j1 k y.2.1⟩]
theorem metrics_lookup.l0_e (k : Nat) (y : denS metrics_lookup.l0_s) : metrics_lookup.l0 (k + 1) y.1 y.2.2.1 y.2.2.2.1 y.2.2.2.2.1 = evP ((metrics_lookup.G Try.prog).at (metrics_lookup.E k)) (fun i => (metrics_lookup.O k)[i]?) [1, 1, 0, 0, 0] (cd Try.f29) metrics_lookup.H (kFin ((metrics_lookup.G Try.prog).at (metrics_lookup.E k)) [.tmp 4] [.c false (.i .i64)]) (unS metrics_lookup.l0_s y) := by rw [metrics_lookup.l0]; kernel_rfl
theorem metrics_lookup.j1_e (k : Nat) (y : denS metrics_lookup.j1_s) : metrics_lookup.j1 (k + 1) y.2.1 = evP ((metrics_lookup.G Try.prog).at (metrics_lookup.E k)) (fun i => (metrics_lookup.O k)[i]?) [1, 1, 1, 1] (cd Try.f29) metrics_lookup.H (kFin ((metrics_lookup.G Try.prog).at (metrics_lookup.E k)) [.tmp 4] [.c false (.i .i64)]) (unS metrics_lookup.j1_s y) := by rw [metrics_lookup.j1]; kernel_rfl
theorem metrics_lookup.go : goesTo Try.prog 29 := ⟨_, Try.func29, by kernel_rfl, rfl⟩
theorem metrics_lookup.ok (k : Nat) : SigOk Try.prog 29 (metrics_lookup.sig k) :=
  fn_p (G := metrics_lookup.G Try.prog) (c := cd Try.f29) (rs := [.tmp 4]) (args := [(true, y9), (false, (.i .i64))]) (l := [.c false (.i .i64)]) (fn := Try.f29) ⟨Try.func29, by kernel_rfl, by kernel_rfl, by kernel_rfl, le_of rfl, le_of rfl, TT_ok, AD_ok⟩ rfl metrics_lookup.E (fun k p hp => nomatch hp)
    (fun k i => (metrics_lookup.O k)[i]?) metrics_lookup.H (fun k x => metrics_lookup.f k x.1 x.2.1)
    (fun id o y h => by
    have h' := List.mem_of_getElem? h
    simp only [metrics_lookup.O, List.mem_cons, List.not_mem_nil, or_false] at h'
    rcases h' with rfl | rfl <;> rfl)
    (fun k p hp => by
    rw [show pts (cd Try.f29) metrics_lookup.H = [(0, [1, 1, 0, 0, 0]), (1, [1, 1, 1, 1])] by kernel_rfl] at hp
    simp only [List.mem_cons, List.not_mem_nil, or_false] at hp
    rcases hp with rfl | rfl
    · exact ptOk_of rfl (metrics_lookup.l0_e k)
    · exact ptOk_of rfl (metrics_lookup.j1_e k))
    (fun k x => by kernel_rfl) k
/-! (*reglet/metrics.Table).Width -/
mutual
def metrics_Table_Width.j0 : Nat → Int → Int → Bool → (Int × Int × Int × Int × Int × Int × List api_Range × Bool) → Option Int
  | 0, _, _, _, _ => none
  | k + 1, r3, t, t2, s => if t2 = true then (some s.2.1) else (if (decide (t = 3)) = true then (metrics_Table_Width.j1 k r3 true s) else (if (decide (t = 4)) = true then (metrics_Table_Width.j1 k r3 true s) else (if (decide (t = 5)) = true then (metrics_Table_Width.j1 k r3 true s) else (if (decide (t = 7)) = true then (metrics_Table_Width.j1 k r3 true s) else (metrics_Table_Width.j1 k r3 (decide (t = 8)) s)))))
def metrics_Table_Width.j1 : Nat → Int → Bool → (Int × Int × Int × Int × Int × Int × List api_Range × Bool) → Option Int
  | 0, _, _, _ => none
  | k + 1, r4, t3, s2 => if t3 = true then (some 0) else ((metrics_lookup.f k s2 (wrap64 (r4))).bind fun r5 => some r5)
end
def metrics_Table_Width.f (k : Nat) (a0 : List (Int × Int × Int × Int × Int × Int × List api_Range × Bool)) (a1 : Int) (a2 : Int) : Option Int := (metrics_Table_of.f k a0 a1).bind fun r => (runes_Kind.f k a2).bind fun r2 => if (decide (r2 = 1)) = true then (metrics_Table_Width.j0 k a2 r2 true r) else (metrics_Table_Width.j0 k a2 r2 (decide (r2 = 2)) r)
def metrics_Table_Width.sig (k : Nat) : Sig := .p [(false, y31), (false, (.i .i64)), (false, (.i .i32))] [.c false (.i .i64)] fun x => metrics_Table_Width.f k x.1 x.2.1 x.2.2.1
def metrics_Table_Width.E (k : Nat) : List (Nat × Sig) := [(25, metrics_Table_of.sig k), (28, runes_Kind.sig k), (29, metrics_lookup.sig k)]
def metrics_Table_Width.G (P : Program) : GI := ⟨P, TT, 28, 36, [(7, 28, 8)], [], [], [], [], AD⟩
def metrics_Table_Width.H : H := .s .n (.s .n (.s (.s .n (.s (.j 0 .n (.s .n (.j 1 .n .n))) .n)) .n))
abbrev metrics_Table_Width.j0_s : Sh := [(2, .v (.i .i32)), (7, .at_ 28), (12, .v (.i .i64)), (13, .v .b), (28, .box y29)]
abbrev metrics_Table_Width.j1_s : Sh := [(2, .v (.i .i32)), (7, .at_ 28), (18, .v .b), (28, .box y29)]
def metrics_Table_Width.O (k : Nat) : List (Orc (denR [.c false (.i .i64)])) := [⟨metrics_Table_Width.j0_s, fun y => metrics_Table_Width.j0 k y.1 y.2.2.1 y.2.2.2.1 y.2.2.2.2.1⟩, ⟨metrics_Table_Width.j1_s, fun y => metrics_Table_Width.j1 k y.1 y.2.2.1 y.2.2.2.1⟩]
theorem metrics_Table_Width.j1_e (k : Nat) (y : denS metrics_Table_Width.j1_s) : metrics_Table_Width.j1 (k + 1) y.1 y.2.2.1 y.2.2.2.1 = evP ((metrics_Table_Width.G Try.prog).at (metrics_Table_Width.E k)) (fun i => (metrics_Table_Width.O k)[i]?) [1, 1, 0, 1, 0, 1, 1, 1] (cd Try.f22) metrics_Table_Width.H (kFin ((metrics_Table_Width.G Try.prog).at (metrics_Table_Width.E k)) [.tmp 6] [.c false (.i .i64)]) (unS metrics_Table_Width.j1_s y) := by rw [metrics_Table_Width.j1]; kernel_rfl
theorem metrics_Table_Width.j0_e (k : Nat) (y : denS metrics_Table_Width.j0_s) : metrics_Table_Width.j0 (k + 1) y.1 y.2.2.1 y.2.2.2.1 y.2.2.2.2.1 = evP ((metrics_Table_Width.G Try.prog).at (metrics_Table_Width.E k)) (fun i => (metrics_Table_Width.O k)[i]?) [1, 1, 0, 1, 0, 1] (cd Try.f22) metrics_Table_Width.H (kFin ((metrics_Table_Width.G Try.prog).at (metrics_Table_Width.E k)) [.tmp 6] [.c false (.i .i64)]) (unS metrics_Table_Width.j0_s y) := by rw [metrics_Table_Width.j0]; kernel_rfl
theorem metrics_Table_Width.go : goesTo Try.prog 22 := ⟨_, Try.func22, by kernel_rfl, rfl⟩
theorem metrics_Table_Width.ok (k : Nat) : SigOk Try.prog 22 (metrics_Table_Width.sig k) :=
  fn_p (G := metrics_Table_Width.G Try.prog) (c := cd Try.f22) (rs := [.tmp 6]) (args := [(false, y31), (false, (.i .i64)), (false, (.i .i32))]) (l := [.c false (.i .i64)]) (fn := Try.f22) ⟨Try.func22, by kernel_rfl, by kernel_rfl, by kernel_rfl, le_of rfl, le_of rfl, TT_ok, AD_ok⟩ rfl metrics_Table_Width.E (fun k p hp => by
    simp only [metrics_Table_Width.E, List.mem_cons, List.not_mem_nil, or_false] at hp
    rcases hp with rfl | rfl | rfl
    · exact ⟨metrics_Table_of.ok k, metrics_Table_of.go⟩
    · exact ⟨runes_Kind.ok k, runes_Kind.go⟩
    · exact ⟨metrics_lookup.ok k, metrics_lookup.go⟩)
    (fun k i => (metrics_Table_Width.O k)[i]?) metrics_Table_Width.H (fun k x => metrics_Table_Width.f k x.1 x.2.1 x.2.2.1)
    (fun id o y h => by
    have h' := List.mem_of_getElem? h
    simp only [metrics_Table_Width.O, List.mem_cons, List.not_mem_nil, or_false] at h'
    rcases h' with rfl | rfl <;> rfl)
    (fun k p hp => by
    rw [show pts (cd Try.f22) metrics_Table_Width.H = [(1, [1, 1, 0, 1, 0, 1, 1, 1]), (0, [1, 1, 0, 1, 0, 1])] by kernel_rfl] at hp
    simp only [List.mem_cons, List.not_mem_nil, or_false] at hp
    rcases hp with rfl | rfl
    · exact ptOk_of rfl (metrics_Table_Width.j1_e k)
    · exact ptOk_of rfl (metrics_Table_Width.j0_e k))
    (fun k x => by kernel_rfl) k
/-! reglet/scaled.Clamp -/
def scaled_Clamp.f (k : Nat) (a0 : Int) : Option Int := some (if (-1152921504606846976) < (if a0 < 1152921504606846976 then a0 else 1152921504606846976) then (if a0 < 1152921504606846976 then a0 else 1152921504606846976) else (-1152921504606846976))
def scaled_Clamp.sig (k : Nat) : Sig := .p [(false, (.i .i64))] [.c false (.i .i64)] fun x => scaled_Clamp.f k x.1
def scaled_Clamp.E (k : Nat) : List (Nat × Sig) := []
def scaled_Clamp.G (P : Program) : GI := ⟨P, TT, 6, 6, [], [], [], [], [], AD⟩
def scaled_Clamp.H : H := .n
def scaled_Clamp.O (k : Nat) : List (Orc (denR [.c false (.i .i64)])) := []
theorem scaled_Clamp.go : goesTo Try.prog 32 := ⟨_, Try.func32, by kernel_rfl, rfl⟩
theorem scaled_Clamp.ok (k : Nat) : SigOk Try.prog 32 (scaled_Clamp.sig k) :=
  fn_p (G := scaled_Clamp.G Try.prog) (c := cd Try.f32) (rs := [.tmp 2]) (args := [(false, (.i .i64))]) (l := [.c false (.i .i64)]) (fn := Try.f32) ⟨Try.func32, by kernel_rfl, by kernel_rfl, by kernel_rfl, le_of rfl, le_of rfl, TT_ok, AD_ok⟩ rfl scaled_Clamp.E (fun k p hp => nomatch hp)
    (fun k i => (scaled_Clamp.O k)[i]?) scaled_Clamp.H (fun k x => scaled_Clamp.f k x.1)
    (fun id o y h => by cases id <;> cases h)
    (fun k p hp => by rw [show pts (cd Try.f32) scaled_Clamp.H = [] by kernel_rfl] at hp; nomatch hp)
    (fun k x => by kernel_rfl) k
/-! reglet/scaled.Add -/
def scaled_Add.f (k : Nat) (a0 : Int) (a1 : Int) : Option Int := (scaled_Clamp.f k a0).bind fun r => (scaled_Clamp.f k a1).bind fun r2 => (scaled_Clamp.f k (wrap64 (r + r2))).bind fun r3 => some r3
def scaled_Add.sig (k : Nat) : Sig := .p [(false, (.i .i64)), (false, (.i .i64))] [.c false (.i .i64)] fun x => scaled_Add.f k x.1 x.2.1
def scaled_Add.E (k : Nat) : List (Nat × Sig) := [(32, scaled_Clamp.sig k)]
def scaled_Add.G (P : Program) : GI := ⟨P, TT, 11, 11, [], [], [], [], [], AD⟩
def scaled_Add.H : H := .n
def scaled_Add.O (k : Nat) : List (Orc (denR [.c false (.i .i64)])) := []
theorem scaled_Add.go : goesTo Try.prog 27 := ⟨_, Try.func27, by kernel_rfl, rfl⟩
theorem scaled_Add.ok (k : Nat) : SigOk Try.prog 27 (scaled_Add.sig k) :=
  fn_p (G := scaled_Add.G Try.prog) (c := cd Try.f27) (rs := [.tmp 4]) (args := [(false, (.i .i64)), (false, (.i .i64))]) (l := [.c false (.i .i64)]) (fn := Try.f27) ⟨Try.func27, by kernel_rfl, by kernel_rfl, by kernel_rfl, le_of rfl, le_of rfl, TT_ok, AD_ok⟩ rfl scaled_Add.E (fun k p hp => by
    simp only [scaled_Add.E, List.mem_cons, List.not_mem_nil, or_false] at hp
    rcases hp with rfl
    · exact ⟨scaled_Clamp.ok k, scaled_Clamp.go⟩)
    (fun k i => (scaled_Add.O k)[i]?) scaled_Add.H (fun k x => scaled_Add.f k x.1 x.2.1)
    (fun id o y h => by cases id <;> cases h)
    (fun k p hp => by rw [show pts (cd Try.f27) scaled_Add.H = [] by kernel_rfl] at hp; nomatch hp)
    (fun k x => by kernel_rfl) k
/-! (*reglet/metrics.Table).Text -/
mutual
def metrics_Table_Text.l0 : Nat → (List (Int × Int × Int × Int × Int × Int × List api_Range × Bool)) → Int → Int → (ByteArray × Nat) → Option Int
  | 0, _, _, _, _ => none
  | k + 1, t, style, sum, t2 => if t2.2 < t2.1.size then ((metrics_Table_Width.f k t style ((Utf8.decode t2.1 t2.2).1 : Int)).bind fun r => (scaled_Add.f k sum r).bind fun r2 => metrics_Table_Text.l0 k t style r2 (t2.1, (t2.2 + (Utf8.decode t2.1 t2.2).2))) else (some sum)
end
def metrics_Table_Text.f (k : Nat) (a0 : List (Int × Int × Int × Int × Int × Int × List api_Range × Bool)) (a1 : Int) (a2 : ByteArray) : Option Int := metrics_Table_Text.l0 k a0 a1 0 (a2, 0)
def metrics_Table_Text.sig (k : Nat) : Sig := .p [(false, y31), (false, (.i .i64)), (false, .s)] [.c false (.i .i64)] fun x => metrics_Table_Text.f k x.1 x.2.1 x.2.2.1
def metrics_Table_Text.E (k : Nat) : List (Nat × Sig) := [(22, metrics_Table_Width.sig k), (27, scaled_Add.sig k)]
def metrics_Table_Text.G (P : Program) : GI := ⟨P, TT, 22, 22, [], [], [], [], [], AD⟩
def metrics_Table_Text.H : H := .s .n (.s .n (.s (.s .n (.s (.l 0 .n) .n)) .n))
abbrev metrics_Table_Text.l0_s : Sh := [(0, .v y31), (1, .v (.i .i64)), (7, .v (.i .i64)), (11, .it)]
def metrics_Table_Text.O (k : Nat) : List (Orc (denR [.c false (.i .i64)])) := [⟨metrics_Table_Text.l0_s, fun y => metrics_Table_Text.l0 k y.1 y.2.1 y.2.2.1 y.2.2.2.1⟩]
theorem metrics_Table_Text.l0_e (k : Nat) (y : denS metrics_Table_Text.l0_s) : metrics_Table_Text.l0 (k + 1) y.1 y.2.1 y.2.2.1 y.2.2.2.1 = evP ((metrics_Table_Text.G Try.prog).at (metrics_Table_Text.E k)) (fun i => (metrics_Table_Text.O k)[i]?) [1, 1, 0, 1, 0, 0] (cd Try.f21) metrics_Table_Text.H (kFin ((metrics_Table_Text.G Try.prog).at (metrics_Table_Text.E k)) [.tmp 6] [.c false (.i .i64)]) (unS metrics_Table_Text.l0_s y) := by rw [metrics_Table_Text.l0]; kernel_rfl
theorem metrics_Table_Text.go : goesTo Try.prog 21 := ⟨_, Try.func21, by kernel_rfl, rfl⟩
theorem metrics_Table_Text.ok (k : Nat) : SigOk Try.prog 21 (metrics_Table_Text.sig k) :=
  fn_p (G := metrics_Table_Text.G Try.prog) (c := cd Try.f21) (rs := [.tmp 6]) (args := [(false, y31), (false, (.i .i64)), (false, .s)]) (l := [.c false (.i .i64)]) (fn := Try.f21) ⟨Try.func21, by kernel_rfl, by kernel_rfl, by kernel_rfl, le_of rfl, le_of rfl, TT_ok, AD_ok⟩ rfl metrics_Table_Text.E (fun k p hp => by
    simp only [metrics_Table_Text.E, List.mem_cons, List.not_mem_nil, or_false] at hp
    rcases hp with rfl | rfl
    · exact ⟨metrics_Table_Width.ok k, metrics_Table_Width.go⟩
    · exact ⟨scaled_Add.ok k, scaled_Add.go⟩)
    (fun k i => (metrics_Table_Text.O k)[i]?) metrics_Table_Text.H (fun k x => metrics_Table_Text.f k x.1 x.2.1 x.2.2.1)
    (fun id o y h => by
    have h' := List.mem_of_getElem? h
    simp only [metrics_Table_Text.O, List.mem_cons, List.not_mem_nil, or_false] at h'
    rcases h' with rfl <;> rfl)
    (fun k p hp => by
    rw [show pts (cd Try.f21) metrics_Table_Text.H = [(0, [1, 1, 0, 1, 0, 0])] by kernel_rfl] at hp
    simp only [List.mem_cons, List.not_mem_nil, or_false] at hp
    rcases hp with rfl
    · exact ptOk_of rfl (metrics_Table_Text.l0_e k))
    (fun k x => by kernel_rfl) k
/-! reglet/regletlaw04.awake -/
def regletlaw04_awake.f (k : Nat)  : Option Bool := (regletlaw04_table.f k ([(10, 6, 3, 2, 6, 6, ([] : List api_Range), (false))] : List (Int × Int × Int × Int × Int × Int × List api_Range × Bool))).bind fun r => optK r (some false) fun p => (metrics_Table_Styles.f k p).bind fun r2 => if (decide (r2 = 1)) = true then ((metrics_Table_Text.f k p 0 (ByteArray.mk #[97, 98, 99])).bind fun r3 => if (decide (r3 = 18)) = true then ((metrics_Table_Width.f k p 0 173).bind fun r4 => some (decide (r4 = 0))) else (some false)) else (some false)
def regletlaw04_awake.sig (k : Nat) : Sig := .p [] [.c false .b] fun x => regletlaw04_awake.f k
def regletlaw04_awake.E (k : Nat) : List (Nat × Sig) := [(10, regletlaw04_table.sig k), (20, metrics_Table_Styles.sig k), (21, metrics_Table_Text.sig k), (22, metrics_Table_Width.sig k)]
def regletlaw04_awake.G (P : Program) : GI := ⟨P, TT, 22, 22, [], [], [], [], [], AD⟩
def regletlaw04_awake.H : H := .s .n (.s .n (.s (.f 1 .n) .n))
def regletlaw04_awake.O (k : Nat) : List (Orc (denR [.c false .b])) := []
theorem regletlaw04_awake.go : goesTo Try.prog 6 := ⟨_, Try.func6, by kernel_rfl, rfl⟩
theorem regletlaw04_awake.ok (k : Nat) : SigOk Try.prog 6 (regletlaw04_awake.sig k) :=
  fn_p (G := regletlaw04_awake.G Try.prog) (c := cd Try.f6) (rs := [.tmp 0]) (args := []) (l := [.c false .b]) (fn := Try.f6) ⟨Try.func6, by kernel_rfl, by kernel_rfl, by kernel_rfl, le_of rfl, le_of rfl, TT_ok, AD_ok⟩ rfl regletlaw04_awake.E (fun k p hp => by
    simp only [regletlaw04_awake.E, List.mem_cons, List.not_mem_nil, or_false] at hp
    rcases hp with rfl | rfl | rfl | rfl
    · exact ⟨regletlaw04_table.ok k, regletlaw04_table.go⟩
    · exact ⟨metrics_Table_Styles.ok k, metrics_Table_Styles.go⟩
    · exact ⟨metrics_Table_Text.ok k, metrics_Table_Text.go⟩
    · exact ⟨metrics_Table_Width.ok k, metrics_Table_Width.go⟩)
    (fun k i => (regletlaw04_awake.O k)[i]?) regletlaw04_awake.H (fun k x => regletlaw04_awake.f k)
    (fun id o y h => by cases id <;> cases h)
    (fun k p hp => by rw [show pts (cd Try.f6) regletlaw04_awake.H = [] by kernel_rfl] at hp; nomatch hp)
    (fun k x => by kernel_rfl) k
/-! reglet/metrics.Plain -/
def metrics_Plain.f (k : Nat) (a0 : Int) (a1 : Int) : Option ((List (Int × Int × Int × Int × Int × Int × List api_Range × Bool))) := some ([(a0, a1, wrap64 (a1.tdiv 2), wrap64 (a1.tdiv 3), a1, a1, ([] : List api_Range), (false))] : List (Int × Int × Int × Int × Int × Int × List api_Range × Bool))
def metrics_Plain.sig (k : Nat) : Sig := .p [(false, (.i .i64)), (false, (.i .i64))] [.c false y18] fun x => metrics_Plain.f k x.1 x.2.1
def metrics_Plain.E (k : Nat) : List (Nat × Sig) := []
def metrics_Plain.G (P : Program) : GI := ⟨P, TT, 15, 15, [], [], [], [], [], AD⟩
def metrics_Plain.H : H := .n
def metrics_Plain.O (k : Nat) : List (Orc (denR [.c false y18])) := []
theorem metrics_Plain.go : goesTo Try.prog 7 := ⟨_, Try.func7, by kernel_rfl, rfl⟩
theorem metrics_Plain.ok (k : Nat) : SigOk Try.prog 7 (metrics_Plain.sig k) :=
  fn_p (G := metrics_Plain.G Try.prog) (c := cd Try.f7) (rs := [.tmp 4]) (args := [(false, (.i .i64)), (false, (.i .i64))]) (l := [.c false y18]) (fn := Try.f7) ⟨Try.func7, by kernel_rfl, by kernel_rfl, by kernel_rfl, le_of rfl, le_of rfl, TT_ok, AD_ok⟩ rfl metrics_Plain.E (fun k p hp => nomatch hp)
    (fun k i => (metrics_Plain.O k)[i]?) metrics_Plain.H (fun k x => metrics_Plain.f k x.1 x.2.1)
    (fun id o y h => by cases id <;> cases h)
    (fun k p hp => by rw [show pts (cd Try.f7) metrics_Plain.H = [] by kernel_rfl] at hp; nomatch hp)
    (fun k x => by kernel_rfl) k
/-! reglet/regletref04.Same -/
mutual
def regletref04_Same.l0 : Nat → (List (Int × Int × Int × Int × Int × Int × List api_Range × Bool)) → (List (Int × Int × Int × Int × Int × Int × List api_Range × Bool)) → Int → Option Bool
  | 0, _, _, _ => none
  | k + 1, t, t2, t3 => if (decide (t3 < (t.length : Int))) = true then ((at? t t3).bind fun e => (at? t2 t3).bind fun e2 => if (!decide (e.1 = e2.1)) = true then (some false) else (if (!decide (e.2.1 = e2.2.1)) = true then (some false) else (if (!decide (e.2.2.1 = e2.2.2.1)) = true then (some false) else (if (!decide (e.2.2.2.1 = e2.2.2.2.1)) = true then (some false) else (if (!decide (e.2.2.2.2.1 = e2.2.2.2.2.1)) = true then (some false) else (if (!decide (e.2.2.2.2.2.1 = e2.2.2.2.2.2.1)) = true then (some false) else (if (!decide (e.2.2.2.2.2.2.2 = e2.2.2.2.2.2.2.2)) = true then (some false) else (if (!decide ((e.2.2.2.2.2.2.1.length : Int) = (e2.2.2.2.2.2.2.1.length : Int))) = true then (some false) else (regletref04_Same.j1 k t t2 t3 e e2))))))))) else (some true)
def regletref04_Same.j1 : Nat → (List (Int × Int × Int × Int × Int × Int × List api_Range × Bool)) → (List (Int × Int × Int × Int × Int × Int × List api_Range × Bool)) → Int → (Int × Int × Int × Int × Int × Int × List api_Range × Bool) → (Int × Int × Int × Int × Int × Int × List api_Range × Bool) → Option Bool
  | 0, _, _, _, _, _ => none
  | k + 1, t4, t5, t6, t7, t8 => regletref04_Same.l2 k t4 t5 t6 0 t7 t8
def regletref04_Same.l2 : Nat → (List (Int × Int × Int × Int × Int × Int × List api_Range × Bool)) → (List (Int × Int × Int × Int × Int × Int × List api_Range × Bool)) → Int → Int → (Int × Int × Int × Int × Int × Int × List api_Range × Bool) → (Int × Int × Int × Int × Int × Int × List api_Range × Bool) → Option Bool
  | 0, _, _, _, _, _, _ => none
  | k + 1, t9, t10, t11, t12, t13, t14 => if (decide (t12 < (t13.2.2.2.2.2.2.1.length : Int))) = true then ((at? t13.2.2.2.2.2.2.1 t12).bind fun e3 => (at? t14.2.2.2.2.2.2.1 t12).bind fun e4 => if (!(decide (e3.1 = e4.1) && (decide (e3.2.1 = e4.2.1) && (decide (e3.2.2 = e4.2.2) && true)))) = true then (some false) else (regletref04_Same.l2 k t9 t10 t11 (wrap64 (t12 + 1)) t13 t14)) else (regletref04_Same.l0 k t9 t10 (wrap64 (t11 + 1)))
end
def regletref04_Same.f (k : Nat) (a0 : List (Int × Int × Int × Int × Int × Int × List api_Range × Bool)) (a1 : List (Int × Int × Int × Int × Int × Int × List api_Range × Bool)) : Option Bool := if (!decide ((a0.length : Int) = (a1.length : Int))) = true then (some false) else (regletref04_Same.l0 k a0 a1 0)
def regletref04_Same.sig (k : Nat) : Sig := .p [(false, y19), (false, y19)] [.c false .b] fun x => regletref04_Same.f k x.1 x.2.1
def regletref04_Same.E (k : Nat) : List (Nat × Sig) := []
def regletref04_Same.G (P : Program) : GI := ⟨P, TT, 102, 118, [(6, 102, 8), (7, 110, 8)], [], [], [], [], AD⟩
def regletref04_Same.H : H := .s .n (.s .n (.s (.s .n (.s (.l 0 (.s .n (.s (.s (.s .n (.j 1 .n (.s .n (.s (.l 2 .n) .n)))) .n) .n))) .n)) .n))
abbrev regletref04_Same.l0_s : Sh := [(0, .v y19), (1, .v y19), (5, .v (.i .i64))]
abbrev regletref04_Same.j1_s : Sh := [(0, .v y19), (1, .v y19), (5, .v (.i .i64)), (6, .at_ 102), (7, .at_ 110), (102, .box y9), (110, .box y9)]
abbrev regletref04_Same.l2_s : Sh := [(0, .v y19), (1, .v y19), (5, .v (.i .i64)), (6, .at_ 102), (7, .at_ 110), (8, .v (.i .i64)), (102, .box y9), (110, .box y9)]
def regletref04_Same.O (k : Nat) : List (Orc (denR [.c false .b])) := [⟨regletref04_Same.l0_s, fun y => regletref04_Same.l0 k y.1 y.2.1 y.2.2.1⟩, ⟨regletref04_Same.j1_s, fun y => regletref04_Same.j1 k y.1 y.2.1 y.2.2.1 y.2.2.2.2.2.1 y.2.2.2.2.2.2.1⟩, ⟨regletref04_Same.l2_s, fun y => regletref04_Same.l2 k y.1 y.2.1 y.2.2.1 y.2.2.2.2.2.1 y.2.2.2.2.2.2.1 y.2.2.2.2.2.2.2.1⟩]
theorem regletref04_Same.l2_e (k : Nat) (y : denS regletref04_Same.l2_s) : regletref04_Same.l2 (k + 1) y.1 y.2.1 y.2.2.1 y.2.2.2.2.2.1 y.2.2.2.2.2.2.1 y.2.2.2.2.2.2.2.1 = evP ((regletref04_Same.G Try.prog).at (regletref04_Same.E k)) (fun i => (regletref04_Same.O k)[i]?) [1, 1, 0, 1, 0, 0, 1, 0, 0, 1, 1, 1, 0, 0] (cd Try.f9) regletref04_Same.H (kFin ((regletref04_Same.G Try.prog).at (regletref04_Same.E k)) [.tmp 4] [.c false .b]) (unS regletref04_Same.l2_s y) := by rw [regletref04_Same.l2]; kernel_rfl
theorem regletref04_Same.j1_e (k : Nat) (y : denS regletref04_Same.j1_s) : regletref04_Same.j1 (k + 1) y.1 y.2.1 y.2.2.1 y.2.2.2.2.2.1 y.2.2.2.2.2.2.1 = evP ((regletref04_Same.G Try.prog).at (regletref04_Same.E k)) (fun i => (regletref04_Same.O k)[i]?) [1, 1, 0, 1, 0, 0, 1, 0, 0, 1, 1] (cd Try.f9) regletref04_Same.H (kFin ((regletref04_Same.G Try.prog).at (regletref04_Same.E k)) [.tmp 4] [.c false .b]) (unS regletref04_Same.j1_s y) := by rw [regletref04_Same.j1]; kernel_rfl
theorem regletref04_Same.l0_e (k : Nat) (y : denS regletref04_Same.l0_s) : regletref04_Same.l0 (k + 1) y.1 y.2.1 y.2.2.1 = evP ((regletref04_Same.G Try.prog).at (regletref04_Same.E k)) (fun i => (regletref04_Same.O k)[i]?) [1, 1, 0, 1, 0, 0] (cd Try.f9) regletref04_Same.H (kFin ((regletref04_Same.G Try.prog).at (regletref04_Same.E k)) [.tmp 4] [.c false .b]) (unS regletref04_Same.l0_s y) := by rw [regletref04_Same.l0]; kernel_rfl
theorem regletref04_Same.go : goesTo Try.prog 9 := ⟨_, Try.func9, by kernel_rfl, rfl⟩
theorem regletref04_Same.ok (k : Nat) : SigOk Try.prog 9 (regletref04_Same.sig k) :=
  fn_p (G := regletref04_Same.G Try.prog) (c := cd Try.f9) (rs := [.tmp 4]) (args := [(false, y19), (false, y19)]) (l := [.c false .b]) (fn := Try.f9) ⟨Try.func9, by kernel_rfl, by kernel_rfl, by kernel_rfl, le_of rfl, le_of rfl, TT_ok, AD_ok⟩ rfl regletref04_Same.E (fun k p hp => nomatch hp)
    (fun k i => (regletref04_Same.O k)[i]?) regletref04_Same.H (fun k x => regletref04_Same.f k x.1 x.2.1)
    (fun id o y h => by
    have h' := List.mem_of_getElem? h
    simp only [regletref04_Same.O, List.mem_cons, List.not_mem_nil, or_false] at h'
    rcases h' with rfl | rfl | rfl <;> rfl)
    (fun k p hp => by
    rw [show pts (cd Try.f9) regletref04_Same.H = [(2, [1, 1, 0, 1, 0, 0, 1, 0, 0, 1, 1, 1, 0, 0]), (1, [1, 1, 0, 1, 0, 0, 1, 0, 0, 1, 1]), (0, [1, 1, 0, 1, 0, 0])] by kernel_rfl] at hp
    simp only [List.mem_cons, List.not_mem_nil, or_false] at hp
    rcases hp with rfl | rfl | rfl
    · exact ptOk_of rfl (regletref04_Same.l2_e k)
    · exact ptOk_of rfl (regletref04_Same.j1_e k)
    · exact ptOk_of rfl (regletref04_Same.l0_e k))
    (fun k x => by kernel_rfl) k
/-! reglet/regletlaw04.MetricsPlain -/
def regletlaw04_MetricsPlain.f (k : Nat) (a0 : Int) (a1 : Int) : Option Bool := (regletlaw04_awake.f k).bind fun r => if (!r) = true then (some false) else ((metrics_Plain.f k a0 a1).bind fun r2 => (metrics_New.f k r2).bind fun r3 => optK r3.1 ((regletref04_Same.f k r2 ([(a0, a1, wrap64 (a1.tdiv 2), wrap64 (a1.tdiv 3), a1, a1, ([] : List api_Range), (false))] : List (Int × Int × Int × Int × Int × Int × List api_Range × Bool))).bind fun r4 => if r4 = true then (if (decide (1 ≤ a0)) = true then (if (decide (a0 ≤ 1048576)) = true then (if (decide (0 ≤ a1)) = true then (some (decide ((decide (r3.2.1 = 0)) = (decide (a1 ≤ 1048576))))) else (some (decide ((decide (r3.2.1 = 0)) = false)))) else (some (decide ((decide (r3.2.1 = 0)) = false)))) else (some (decide ((decide (r3.2.1 = 0)) = false)))) else (some false)) fun p => (regletref04_Same.f k r2 ([(a0, a1, wrap64 (a1.tdiv 2), wrap64 (a1.tdiv 3), a1, a1, ([] : List api_Range), (false))] : List (Int × Int × Int × Int × Int × Int × List api_Range × Bool))).bind fun r5 => if r5 = true then (if (decide (1 ≤ a0)) = true then (if (decide (a0 ≤ 1048576)) = true then (if (decide (0 ≤ a1)) = true then (some (decide ((decide (r3.2.1 = 0)) = (decide (a1 ≤ 1048576))))) else (some (decide ((decide (r3.2.1 = 0)) = false)))) else (some (decide ((decide (r3.2.1 = 0)) = false)))) else (some (decide ((decide (r3.2.1 = 0)) = false)))) else (some false))
def regletlaw04_MetricsPlain.sig (k : Nat) : Sig := .p [(false, (.i .i64)), (false, (.i .i64))] [.c false .b] fun x => regletlaw04_MetricsPlain.f k x.1 x.2.1
def regletlaw04_MetricsPlain.E (k : Nat) : List (Nat × Sig) := [(6, regletlaw04_awake.sig k), (7, metrics_Plain.sig k), (8, metrics_New.sig k), (9, regletref04_Same.sig k)]
def regletlaw04_MetricsPlain.G (P : Program) : GI := ⟨P, TT, 53, 53, [], [], [], [], [], AD⟩
def regletlaw04_MetricsPlain.H : H := .n
def regletlaw04_MetricsPlain.O (k : Nat) : List (Orc (denR [.c false .b])) := []
theorem regletlaw04_MetricsPlain.go : goesTo Try.prog 3 := ⟨_, Try.func3, by kernel_rfl, rfl⟩
theorem regletlaw04_MetricsPlain.ok (k : Nat) : SigOk Try.prog 3 (regletlaw04_MetricsPlain.sig k) :=
  fn_p (G := regletlaw04_MetricsPlain.G Try.prog) (c := cd Try.f3) (rs := [.tmp 4]) (args := [(false, (.i .i64)), (false, (.i .i64))]) (l := [.c false .b]) (fn := Try.f3) ⟨Try.func3, by kernel_rfl, by kernel_rfl, by kernel_rfl, le_of rfl, le_of rfl, TT_ok, AD_ok⟩ rfl regletlaw04_MetricsPlain.E (fun k p hp => by
    simp only [regletlaw04_MetricsPlain.E, List.mem_cons, List.not_mem_nil, or_false] at hp
    rcases hp with rfl | rfl | rfl | rfl
    · exact ⟨regletlaw04_awake.ok k, regletlaw04_awake.go⟩
    · exact ⟨metrics_Plain.ok k, metrics_Plain.go⟩
    · exact ⟨metrics_New.ok k, metrics_New.go⟩
    · exact ⟨regletref04_Same.ok k, regletref04_Same.go⟩)
    (fun k i => (regletlaw04_MetricsPlain.O k)[i]?) regletlaw04_MetricsPlain.H (fun k x => regletlaw04_MetricsPlain.f k x.1 x.2.1)
    (fun id o y h => by cases id <;> cases h)
    (fun k p hp => by rw [show pts (cd Try.f3) regletlaw04_MetricsPlain.H = [] by kernel_rfl] at hp; nomatch hp)
    (fun k x => by kernel_rfl) k
end Go.Proofs.Ytepeoiimdefnpaa.Vm
