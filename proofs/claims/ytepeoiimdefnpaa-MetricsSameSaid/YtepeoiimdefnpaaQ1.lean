-- PRINTED by vq.py. Not trusted: Lean checks it.
import Derived.Test.YtepeoiimdefnpaaQ0
namespace Go.Proofs.Ytepeoiimdefnpaa.Vm
open Go
open _root_.Go.RowKit (wrap64)
set_option maxRecDepth 100000
set_option linter.unusedVariables false
/-! reglet/metrics.unit -/
namespace metrics_unit
def f (k : Nat) (a0 : Int) (a1 : Int) : Option Bool := if (decide (a1 ≤ a0)) = true then (some (decide (a0 ≤ 1048576))) else (some false)
def sig (k : Nat) : Sig := .p [.c false (.i .i64), .c false (.i .i64)] [.c false .b] fun x => f k x.1 x.2.1
def E (k : Nat) : List (Nat × Sig) := []
noncomputable def d : FD := ⟨30, Try.f30, 12, 12, [], [], [], [], [.tmp 4], .n⟩
def O (k : Nat) : List (Orc (denR ([.c false .b]))) := []
theorem ok (k : Nat) : EnvOk Try.prog (30, sig k) := fnP SS d E O sig (fun _ => rfl) Try.func30 (by kernel_rfl) rfl (fun k => trivial) trivial (by kernel_rfl) (fun _ => pn) (fun k x => by kernel_rfl) k
end metrics_unit
/-! reglet/metrics.check -/
namespace metrics_check
mutual
def j0 : Nat → A0 → Option Int
 | 0, _ => none
 | k + 1, t => if (decide (64 < (t.2.2.2.2.2.2.1.length : Int))) = true then (some 42) else (l1 k (-1) t.2.2.2.2.2.2.1 (t.2.2.2.2.2.2.1.length : Int) 0)
def l1 : Nat → Int → (List api_Range) → Int → Int → Option Int
 | 0, _, _, _, _ => none
 | k + 1, t2, t3, t4, t5 => if (decide (t5 < t4)) = true then ((at? t3 t5).bind fun e => if (decide (e.1 ≤ t2)) = true then (some 42) else (if (decide (e.2.1 < e.1)) = true then (some 42) else (if (decide (1114111 < e.2.1)) = true then (some 42) else (j2 k t3 t4 t5 e)))) else (some 0)
def j2 : Nat → (List api_Range) → Int → Int → api_Range → Option Int
 | 0, _, _, _, _ => none
 | k + 1, t6, t7, t8, t9 => (metrics_unit.f k t9.2.2 0).bind fun r7 => if (!r7) = true then (some 41) else (l1 k t9.2.1 t6 t7 (wrap64 (t8 + 1)))
end
def f (k : Nat) (a0 : A0) : Option Int := (metrics_unit.f k a0.1 1).bind fun r => if (!r) = true then (some 41) else ((metrics_unit.f k a0.2.1 0).bind fun r2 => if (!r2) = true then (some 41) else ((metrics_unit.f k a0.2.2.1 0).bind fun r3 => if (!r3) = true then (some 41) else ((metrics_unit.f k a0.2.2.2.1 0).bind fun r4 => if (!r4) = true then (some 41) else ((metrics_unit.f k a0.2.2.2.2.1 0).bind fun r5 => if (!r5) = true then (some 41) else ((metrics_unit.f k a0.2.2.2.2.2.1 0).bind fun r6 => if (!r6) = true then (some 41) else (if (decide (a0.2.1 < a0.2.2.2.1)) = true then (some 41) else (j0 k a0)))))))
def sig (k : Nat) : Sig := .p [.c true y9] [.c false (.i .i64)] fun x => f k x.1
def E (k : Nat) : List (Nat × Sig) := [(30, metrics_unit.sig k)]
noncomputable def d : FD := ⟨23, Try.f23, 81, 92, [(1, 81, 8), (5, 89, 3)], [], [], [], [.tmp 2], .s .n (.j 0 .n (.s .n (.s .n (.s (.s .n (.s (.l 1 (.s .n (.s .n (.s (.s (.s .n (.j 2 .n .n)) .n) .n)))) .n)) .n))))⟩
abbrev s0 : Sh := [(1, .at_ 81), (81, .box y9)]
abbrev s1 : Sh := [(3, .v (.i .i64)), (52, .v y2), (53, .v (.i .i64)), (54, .v (.i .i64))]
abbrev s2 : Sh := [(5, .at_ 89), (52, .v y2), (53, .v (.i .i64)), (54, .v (.i .i64)), (89, .box y1)]
def O (k : Nat) : List (Orc (denR ([.c false (.i .i64)]))) := [⟨s0, fun y => j0 k y.2.1⟩, ⟨s1, fun y => l1 k y.1 y.2.1 y.2.2.1 y.2.2.2.1⟩, ⟨s2, fun y => j2 k y.2.1 y.2.2.1 y.2.2.2.1 y.2.2.2.2.1⟩]
theorem e2 (k : Nat) (y : denS s2) : j2 (k + 1) y.2.1 y.2.2.1 y.2.2.2.1 y.2.2.2.2.1 = SS.ev d E O k [1, 1, 1, 1, 0, 1, 0, 0, 1, 1, 0, 0, 1, 1] s2 y := by rw [j2]; kernel_rfl
theorem e1 (k : Nat) (y : denS s1) : l1 (k + 1) y.1 y.2.1 y.2.2.1 y.2.2.2.1 = SS.ev d E O k [1, 1, 1, 1, 0, 1, 0, 0] s1 y := by rw [l1]; kernel_rfl
theorem e0 (k : Nat) (y : denS s0) : j0 (k + 1) y.2.1 = SS.ev d E O k [1, 1] s0 y := by rw [j0]; kernel_rfl
theorem ok (k : Nat) : EnvOk Try.prog (23, sig k) := fnP SS d E O sig (fun _ => rfl) Try.func23 (by kernel_rfl) rfl (fun k => ⟨metrics_unit.ok k, trivial⟩) ⟨fun _ => rfl, fun _ => rfl, fun _ => rfl, trivial⟩ (by kernel_rfl) (fun k => pc 2 rfl (e2 k) <| pc 1 rfl (e1 k) <| pc 0 rfl (e0 k) <| pn) (fun k x => by kernel_rfl) k
end metrics_check
/-! reglet/metrics.New -/
namespace metrics_New
mutual
def j0 : Nat → A2 → Option A1
 | 0, _ => none
 | k + 1, styles => l1 k styles (styles.length : Int) 0 ([] : List (Int × Int × Int × Int × Int × Int × List api_Range × Bool))
def l1 : Nat → A2 → Int → Int → A2 → Option A1
 | 0, _, _, _, _ => none
 | k + 1, t, t2, t3, t4 => if (decide (t3 < t2)) = true then ((at? t t3).bind fun e => (metrics_check.f k e).bind fun r => if (!decide (r = 0)) = true then (some (none, r, t3)) else (if (([] : List api_Range).length + e.2.2.2.2.2.2.1.length) * 24 ≤ 140737488355328 then (if (t4.length + ([(e.1, e.2.1, e.2.2.1, e.2.2.2.1, e.2.2.2.2.1, e.2.2.2.2.2.1, ([] : List api_Range) ++ e.2.2.2.2.2.2.1, e.2.2.2.2.2.2.2)] : List (Int × Int × Int × Int × Int × Int × List api_Range × Bool)).length) * 80 ≤ 140737488355328 then (l1 k t t2 (wrap64 (t3 + 1)) (t4 ++ ([(e.1, e.2.1, e.2.2.1, e.2.2.2.1, e.2.2.2.2.1, e.2.2.2.2.2.1, ([] : List api_Range) ++ e.2.2.2.2.2.2.1, e.2.2.2.2.2.2.2)] : List (Int × Int × Int × Int × Int × Int × List api_Range × Bool)))) else none) else none)) else (some (some t4, 0, 0))
end
def f (k : Nat) (a0 : A2) : Option A1 := if (decide ((a0.length : Int) = 0)) = true then (some (none, 40, 0)) else (if (decide (32 < (a0.length : Int))) = true then (some (none, 40, 0)) else (j0 k a0))
def sig (k : Nat) : Sig := .p [.c false y19] [.o y18, .c false (.i .i64), .c false (.i .i64)] fun x => f k x.1
def E (k : Nat) : List (Nat × Sig) := [(23, metrics_check.sig k)]
noncomputable def d : FD := ⟨8, Try.f8, 49, 58, [(18, 49, 1), (7, 50, 8)], [], [], [], [.tmp 2, .tmp 3, .tmp 4], .s .n (.j 0 .n (.s .n (.s (.s .n (.s (.l 1 .n) .n)) .n)))⟩
abbrev s0 : Sh := [(0, .v y19)]
abbrev s1 : Sh := [(5, .at_ 49), (19, .v y19), (20, .v (.i .i64)), (21, .v (.i .i64)), (49, .box y18)]
def O (k : Nat) : List (Orc (denR ([.o y18, .c false (.i .i64), .c false (.i .i64)]))) := [⟨s0, fun y => j0 k y.1⟩, ⟨s1, fun y => l1 k y.2.1 y.2.2.1 y.2.2.2.1 y.2.2.2.2.1⟩]
theorem e1 (k : Nat) (y : denS s1) : l1 (k + 1) y.2.1 y.2.2.1 y.2.2.2.1 y.2.2.2.2.1 = SS.ev d E O k [1, 1, 1, 0, 1, 0, 0] s1 y := by rw [l1]; kernel_rfl
theorem e0 (k : Nat) (y : denS s0) : j0 (k + 1) y.1 = SS.ev d E O k [1, 1] s0 y := by rw [j0]; kernel_rfl
theorem ok (k : Nat) : EnvOk Try.prog (8, sig k) := fnP SS d E O sig (fun _ => rfl) Try.func8 (by kernel_rfl) rfl (fun k => ⟨metrics_check.ok k, trivial⟩) ⟨fun _ => rfl, fun _ => rfl, trivial⟩ (by kernel_rfl) (fun k => pc 1 rfl (e1 k) <| pc 0 rfl (e0 k) <| pn) (fun k x => by kernel_rfl) k
end metrics_New
/-! reglet/regletref04.fits -/
namespace regletref04_fits
def f (k : Nat) (a0 : Int) (a1 : Int) : Option Bool := if (decide (a1 ≤ a0)) = true then (some (decide (a0 ≤ 1048576))) else (some false)
def sig (k : Nat) : Sig := .p [.c false (.i .i64), .c false (.i .i64)] [.c false .b] fun x => f k x.1 x.2.1
def E (k : Nat) : List (Nat × Sig) := []
noncomputable def d : FD := ⟨33, Try.f33, 12, 12, [], [], [], [], [.tmp 4], .n⟩
def O (k : Nat) : List (Orc (denR ([.c false .b]))) := []
theorem ok (k : Nat) : EnvOk Try.prog (33, sig k) := fnP SS d E O sig (fun _ => rfl) Try.func33 (by kernel_rfl) rfl (fun k => trivial) trivial (by kernel_rfl) (fun _ => pn) (fun k x => by kernel_rfl) k
end regletref04_fits
/-! reglet/regletref04.Style -/
namespace regletref04_Style
mutual
def l0 : Nat → (List Int) → Int → A0 → Option Int
 | 0, _, _, _ => none
 | k + 1, t, t2, t3 => if (decide (t2 < (t.length : Int))) = true then (if 0 ≤ t2 ∧ t2 < (t.length : Int) then ((t[t2.toNat]?).bind fun e => (regletref04_fits.f k e 0).bind fun r => if (!r) = true then (some 41) else (l0 k t (wrap64 (t2 + 1)) t3)) else none) else ((regletref04_fits.f k t3.1 1).bind fun r2 => if (!r2) = true then (some 41) else (if (decide (t3.2.1 < t3.2.2.2.1)) = true then (some 41) else (j1 k t3)))
def j1 : Nat → A0 → Option Int
 | 0, _ => none
 | k + 1, t4 => if (decide (64 < (t4.2.2.2.2.2.2.1.length : Int))) = true then (some 42) else (l2 k 0 t4)
def l2 : Nat → Int → A0 → Option Int
 | 0, _, _ => none
 | k + 1, t5, t6 => if (decide (t5 < (t6.2.2.2.2.2.2.1.length : Int))) = true then ((at? t6.2.2.2.2.2.2.1 t5).bind fun e2 => if (decide (t5 = 0)) = true then (if (decide (e2.1 < 0)) = true then (some 42) else (if (decide (0 < t5)) = true then ((at? t6.2.2.2.2.2.2.1 (wrap64 (t5 - 1))).bind fun e3 => if (decide (e2.1 ≤ e3.2.1)) = true then (some 42) else (if (decide (e2.2.1 < e2.1)) = true then (some 42) else (if (decide (1114111 < e2.2.1)) = true then (some 42) else (j3 k t5 t6 e2)))) else (if (decide (e2.2.1 < e2.1)) = true then (some 42) else (if (decide (1114111 < e2.2.1)) = true then (some 42) else (j3 k t5 t6 e2))))) else (if (decide (0 < t5)) = true then ((at? t6.2.2.2.2.2.2.1 (wrap64 (t5 - 1))).bind fun e4 => if (decide (e2.1 ≤ e4.2.1)) = true then (some 42) else (if (decide (e2.2.1 < e2.1)) = true then (some 42) else (if (decide (1114111 < e2.2.1)) = true then (some 42) else (j3 k t5 t6 e2)))) else (if (decide (e2.2.1 < e2.1)) = true then (some 42) else (if (decide (1114111 < e2.2.1)) = true then (some 42) else (j3 k t5 t6 e2))))) else (some 0)
def j3 : Nat → Int → A0 → api_Range → Option Int
 | 0, _, _, _ => none
 | k + 1, t7, t8, t9 => (regletref04_fits.f k t9.2.2 0).bind fun r3 => if (!r3) = true then (some 41) else (l2 k (wrap64 (t7 + 1)) t8)
end
def f (k : Nat) (a0 : A0) : Option Int := l0 k ([a0.2.1, a0.2.2.1, a0.2.2.2.1, a0.2.2.2.2.1, a0.2.2.2.2.2.1] : List Int) 0 a0
def sig (k : Nat) : Sig := .p [.c true y9] [.c false (.i .i64)] fun x => f k x.1
def E (k : Nat) : List (Nat × Sig) := [(33, regletref04_fits.sig k)]
noncomputable def d : FD := ⟨31, Try.f31, 96, 107, [(1, 96, 8), (6, 104, 3)], [], [], [], [.tmp 2], .s .n (.s .n (.s (.s .n (.s (.l 0 .n) .n)) (.j 1 .n (.s .n (.s (.s .n (.s (.l 2 (.s .n (.s (.s (.s .n (.j 3 .n .n)) .n) .n))) .n)) .n)))))⟩
abbrev s0 : Sh := [(1, .at_ 96), (3, .v y20), (4, .v (.i .i64)), (96, .box y9)]
abbrev s1 : Sh := [(1, .at_ 96), (96, .box y9)]
abbrev s2 : Sh := [(1, .at_ 96), (5, .v (.i .i64)), (96, .box y9)]
abbrev s3 : Sh := [(1, .at_ 96), (5, .v (.i .i64)), (6, .at_ 104), (96, .box y9), (104, .box y1)]
def O (k : Nat) : List (Orc (denR ([.c false (.i .i64)]))) := [⟨s0, fun y => l0 k y.2.1 y.2.2.1 y.2.2.2.1⟩, ⟨s1, fun y => j1 k y.2.1⟩, ⟨s2, fun y => l2 k y.2.1 y.2.2.1⟩, ⟨s3, fun y => j3 k y.2.1 y.2.2.2.1 y.2.2.2.2.1⟩]
theorem e0 (k : Nat) (y : denS s0) : l0 (k + 1) y.2.1 y.2.2.1 y.2.2.2.1 = SS.ev d E O k [1, 1, 0, 1, 0, 0] s0 y := by rw [l0]; kernel_rfl
theorem e3 (k : Nat) (y : denS s3) : j3 (k + 1) y.2.1 y.2.2.2.1 y.2.2.2.2.1 = SS.ev d E O k [1, 1, 1, 1, 1, 0, 1, 0, 0, 1, 0, 0, 1, 1] s3 y := by rw [j3]; kernel_rfl
theorem e2 (k : Nat) (y : denS s2) : l2 (k + 1) y.2.1 y.2.2.1 = SS.ev d E O k [1, 1, 1, 1, 1, 0, 1, 0, 0] s2 y := by rw [l2]; kernel_rfl
theorem e1 (k : Nat) (y : denS s1) : j1 (k + 1) y.2.1 = SS.ev d E O k [1, 1, 1, 1] s1 y := by rw [j1]; kernel_rfl
theorem ok (k : Nat) : EnvOk Try.prog (31, sig k) := fnP SS d E O sig (fun _ => rfl) Try.func31 (by kernel_rfl) rfl (fun k => ⟨regletref04_fits.ok k, trivial⟩) ⟨fun _ => rfl, fun _ => rfl, fun _ => rfl, fun _ => rfl, trivial⟩ (by kernel_rfl) (fun k => pc 0 rfl (e0 k) <| pc 3 rfl (e3 k) <| pc 2 rfl (e2 k) <| pc 1 rfl (e1 k) <| pn) (fun k x => by kernel_rfl) k
end regletref04_Style
/-! reglet/regletref04.Check -/
namespace regletref04_Check
mutual
def j0 : Nat → A2 → Option (Int × Int)
 | 0, _ => none
 | k + 1, l => l1 k l 0
def l1 : Nat → A2 → Int → Option (Int × Int)
 | 0, _, _ => none
 | k + 1, l2, i => if (decide (i < (l2.length : Int))) = true then ((at? l2 i).bind fun e => (regletref04_Style.f k e).bind fun r => if (!decide (r = 0)) = true then (some (r, i)) else (l1 k l2 (wrap64 (i + 1)))) else (some (0, 0))
end
def f (k : Nat) (a0 : A2) : Option (Int × Int) := if (decide ((a0.length : Int) = 0)) = true then (some (40, 0)) else (if (decide (32 < (a0.length : Int))) = true then (some (40, 0)) else (j0 k a0))
def sig (k : Nat) : Sig := .p [.c false y19] [.c false (.i .i64), .c false (.i .i64)] fun x => f k x.1
def E (k : Nat) : List (Nat × Sig) := [(31, regletref04_Style.sig k)]
noncomputable def d : FD := ⟨24, Try.f24, 29, 29, [], [], [], [], [.tmp 2, .tmp 3], .s .n (.j 0 .n (.s (.s .n (.s (.l 1 .n) .n)) .n))⟩
abbrev s0 : Sh := [(0, .v y19)]
abbrev s1 : Sh := [(0, .v y19), (4, .v (.i .i64))]
def O (k : Nat) : List (Orc (denR ([.c false (.i .i64), .c false (.i .i64)]))) := [⟨s0, fun y => j0 k y.1⟩, ⟨s1, fun y => l1 k y.1 y.2.1⟩]
theorem e1 (k : Nat) (y : denS s1) : l1 (k + 1) y.1 y.2.1 = SS.ev d E O k [1, 1, 0, 1, 0, 0] s1 y := by rw [l1]; kernel_rfl
theorem e0 (k : Nat) (y : denS s0) : j0 (k + 1) y.1 = SS.ev d E O k [1, 1] s0 y := by rw [j0]; kernel_rfl
theorem ok (k : Nat) : EnvOk Try.prog (24, sig k) := fnP SS d E O sig (fun _ => rfl) Try.func24 (by kernel_rfl) rfl (fun k => ⟨regletref04_Style.ok k, trivial⟩) ⟨fun _ => rfl, fun _ => rfl, trivial⟩ (by kernel_rfl) (fun k => pc 1 rfl (e1 k) <| pc 0 rfl (e0 k) <| pn) (fun k x => by kernel_rfl) k
end regletref04_Check
/-! reglet/regletlaw04.table -/
namespace regletlaw04_table
def f (k : Nat) (a0 : A2) : Option A3 := (regletref04_Check.f k a0).bind fun r => if (!decide (r.1 = 0)) = true then (some none) else ((metrics_New.f k a0).bind fun r2 => optK r2.1 (if (!decide (r2.2.1 = 0)) = true then (some none) else (some none)) fun p => if (!decide (r2.2.1 = 0)) = true then (some none) else (some (some p)))
def sig (k : Nat) : Sig := .p [.c false y19] [.o y18] fun x => f k x.1
def E (k : Nat) : List (Nat × Sig) := [(8, metrics_New.sig k), (24, regletref04_Check.sig k)]
noncomputable def d : FD := ⟨10, Try.f10, 24, 24, [], [], [], [], [.tmp 2], .n⟩
def O (k : Nat) : List (Orc (denR ([.o y18]))) := []
theorem ok (k : Nat) : EnvOk Try.prog (10, sig k) := fnP SS d E O sig (fun _ => rfl) Try.func10 (by kernel_rfl) rfl (fun k => ⟨metrics_New.ok k, regletref04_Check.ok k, trivial⟩) trivial (by kernel_rfl) (fun _ => pn) (fun k x => by kernel_rfl) k
end regletlaw04_table
/-! (*reglet/metrics.Table).Styles -/
namespace metrics_Table_Styles
def f (k : Nat) (a0 : A2) : Option Int := some (a0.length : Int)
def sig (k : Nat) : Sig := .p [.c false y21] [.c false (.i .i64)] fun x => f k x.1
def E (k : Nat) : List (Nat × Sig) := []
noncomputable def d : FD := ⟨20, Try.f20, 8, 8, [], [], [], [], [.tmp 2], .n⟩
def O (k : Nat) : List (Orc (denR ([.c false (.i .i64)]))) := []
theorem ok (k : Nat) : EnvOk Try.prog (20, sig k) := fnP SS d E O sig (fun _ => rfl) Try.func20 (by kernel_rfl) rfl (fun k => trivial) trivial (by kernel_rfl) (fun _ => pn) (fun k x => by kernel_rfl) k
end metrics_Table_Styles
/-! (*reglet/metrics.Table).Check -/
namespace metrics_Table_Check
def f (k : Nat) (a0 : A2) (a1 : Int) : Option Int := if (decide (a1 < 0)) = true then (some 43) else (if (decide ((a0.length : Int) ≤ a1)) = true then (some 43) else (some 0))
def sig (k : Nat) : Sig := .p [.c false y21, .c false (.i .i64)] [.c false (.i .i64)] fun x => f k x.1 x.2.1
def E (k : Nat) : List (Nat × Sig) := []
noncomputable def d : FD := ⟨13, Try.f13, 16, 16, [], [], [], [], [.tmp 4], .n⟩
def O (k : Nat) : List (Orc (denR ([.c false (.i .i64)]))) := []
theorem ok (k : Nat) : EnvOk Try.prog (13, sig k) := fnP SS d E O sig (fun _ => rfl) Try.func13 (by kernel_rfl) rfl (fun k => trivial) trivial (by kernel_rfl) (fun _ => pn) (fun k x => by kernel_rfl) k
end metrics_Table_Check
/-! (*reglet/metrics.Table).of -/
namespace metrics_Table_of
def f (k : Nat) (a0 : A2) (a1 : Int) : Option A4 := (metrics_Table_Check.f k a0 a1).bind fun r => if (!decide (r = 0)) = true then (some (0, 0, 0, 0, 0, 0, ([] : List api_Range), (false))) else ((at? a0 a1).bind fun e => some e)
def sig (k : Nat) : Sig := .p [.c false y31, .c false (.i .i64)] [.c true y29] fun x => f k x.1 x.2.1
def E (k : Nat) : List (Nat × Sig) := [(13, metrics_Table_Check.sig k)]
noncomputable def d : FD := ⟨25, Try.f25, 17, 25, [(4, 17, 8)], [], [], [], [.cell 4 27], .n⟩
def O (k : Nat) : List (Orc (denR ([.c true y29]))) := []
theorem ok (k : Nat) : EnvOk Try.prog (25, sig k) := fnP SS d E O sig (fun _ => rfl) Try.func25 (by kernel_rfl) rfl (fun k => ⟨metrics_Table_Check.ok k, trivial⟩) trivial (by kernel_rfl) (fun _ => pn) (fun k x => by kernel_rfl) k
end metrics_Table_of
/-! reglet/runes.Kind -/
namespace runes_Kind
mutual
def j0 : Nat → Int → Bool → Option Int
 | 0, _, _ => none
 | k + 1, t, t2 => if t2 = true then (some 1) else (if (decide (t = 160)) = true then (j1 k t true) else (j1 k t (decide (t = 8239))))
def j1 : Nat → Int → Bool → Option Int
 | 0, _, _ => none
 | k + 1, t3, t4 => if t4 = true then (some 2) else (if (decide (t3 = 173)) = true then (some 3) else (if (decide (t3 = 8203)) = true then (some 4) else (if (decide (t3 = 8288)) = true then (j2 k t3 true) else (j2 k t3 (decide (t3 = 65279))))))
def j2 : Nat → Int → Bool → Option Int
 | 0, _, _ => none
 | k + 1, t5, t6 => if t6 = true then (some 5) else (if (decide (t5 = 45)) = true then (j3 k t5 true) else (j3 k t5 (decide (t5 = 8208))))
def j3 : Nat → Int → Bool → Option Int
 | 0, _, _ => none
 | k + 1, t7, t8 => if t8 = true then (some 6) else (if (decide (t7 = 8232)) = true then (some 7) else (if (decide (t7 = 10)) = true then (some 8) else (some 0)))
end
def f (k : Nat) (a0 : Int) : Option Int := if (decide (a0 = 32)) = true then (j0 k a0 true) else (j0 k a0 (decide (a0 = 9)))
def sig (k : Nat) : Sig := .p [.c false (.i .i32)] [.c false (.i .i64)] fun x => f k x.1
def E (k : Nat) : List (Nat × Sig) := []
noncomputable def d : FD := ⟨28, Try.f28, 24, 24, [], [], [], [], [.tmp 2], .s .n (.s (.s .n (.s (.j 0 .n (.s .n (.j 1 .n (.s .n (.s .n (.s .n (.s .n (.s .n (.j 2 .n (.s .n (.j 3 .n .n))))))))))) .n)) .n)⟩
abbrev s0 : Sh := [(3, .v (.i .i32)), (4, .v .b)]
abbrev s1 : Sh := [(3, .v (.i .i32)), (7, .v .b)]
abbrev s2 : Sh := [(3, .v (.i .i32)), (14, .v .b)]
abbrev s3 : Sh := [(3, .v (.i .i32)), (17, .v .b)]
def O (k : Nat) : List (Orc (denR ([.c false (.i .i64)]))) := [⟨s0, fun y => j0 k y.1 y.2.1⟩, ⟨s1, fun y => j1 k y.1 y.2.1⟩, ⟨s2, fun y => j2 k y.1 y.2.1⟩, ⟨s3, fun y => j3 k y.1 y.2.1⟩]
theorem e3 (k : Nat) (y : denS s3) : j3 (k + 1) y.1 y.2.1 = SS.ev d E O k [1, 0, 1, 0, 1, 1, 1, 1, 1, 1, 1, 1, 1, 1, 1] s3 y := by rw [j3]; kernel_rfl
theorem e2 (k : Nat) (y : denS s2) : j2 (k + 1) y.1 y.2.1 = SS.ev d E O k [1, 0, 1, 0, 1, 1, 1, 1, 1, 1, 1, 1, 1] s2 y := by rw [j2]; kernel_rfl
theorem e1 (k : Nat) (y : denS s1) : j1 (k + 1) y.1 y.2.1 = SS.ev d E O k [1, 0, 1, 0, 1, 1, 1] s1 y := by rw [j1]; kernel_rfl
theorem e0 (k : Nat) (y : denS s0) : j0 (k + 1) y.1 y.2.1 = SS.ev d E O k [1, 0, 1, 0, 1] s0 y := by rw [j0]; kernel_rfl
theorem ok (k : Nat) : EnvOk Try.prog (28, sig k) := fnP SS d E O sig (fun _ => rfl) Try.func28 (by kernel_rfl) rfl (fun k => trivial) ⟨fun _ => rfl, fun _ => rfl, fun _ => rfl, fun _ => rfl, trivial⟩ (by kernel_rfl) (fun k => pc 3 rfl (e3 k) <| pc 2 rfl (e2 k) <| pc 1 rfl (e1 k) <| pc 0 rfl (e0 k) <| pn) (fun k x => by kernel_rfl) k
end runes_Kind
/-! reglet/metrics.lookup -/
namespace metrics_lookup
mutual
def l0 : Nat → Int → Int → Int → A0 → Option Int
 | 0, _, _, _, _ => none
 | k + 1, r, low, high, s => if (decide (low < high)) = true then ((at? s.2.2.2.2.2.2.1 (wrap64 ((wrap64 (low + high)).tdiv 2))).bind fun e => if (decide (e.2.1 < r)) = true then (l0 k r (wrap64 ((wrap64 ((wrap64 (low + high)).tdiv 2)) + 1)) high s) else (l0 k r low (wrap64 ((wrap64 (low + high)).tdiv 2)) s)) else (if (decide (low < (s.2.2.2.2.2.2.1.length : Int))) = true then ((at? s.2.2.2.2.2.2.1 low).bind fun e2 => if (decide (e2.1 ≤ r)) = true then ((at? s.2.2.2.2.2.2.1 low).bind fun e3 => some e3.2.2) else (j1 k s)) else (j1 k s))
def j1 : Nat → A0 → Option Int
 | 0, _ => none
 | k + 1, s2 => some s2.2.2.2.2.2.1
end
def f (k : Nat) (a0 : A0) (a1 : Int) : Option Int := l0 k a1 0 (a0.2.2.2.2.2.2.1.length : Int) a0
def sig (k : Nat) : Sig := .p [.c true y9, .c false (.i .i64)] [.c false (.i .i64)] fun x => f k x.1 x.2.1
def E (k : Nat) : List (Nat × Sig) := []
noncomputable def d : FD := ⟨29, Try.f29, 52, 60, [(2, 52, 8)], [], [], [], [.tmp 4], .s .n (.s .n (.s (.s (.l 0 .n) .n) (.j 1 .n .n)))⟩
abbrev s0 : Sh := [(1, .v (.i .i64)), (2, .at_ 52), (5, .v (.i .i64)), (6, .v (.i .i64)), (52, .box y9)]
abbrev s1 : Sh := [(2, .at_ 52), (52, .box y9)]
def O (k : Nat) : List (Orc (denR ([.c false (.i .i64)]))) := [⟨s0, fun y => l0 k y.1 y.2.2.1 y.2.2.2.1 y.2.2.2.2.1⟩, ⟨s1, fun y => j1 k y.2.1⟩]
theorem e0 (k : Nat) (y : denS s0) : l0 (k + 1) y.1 y.2.2.1 y.2.2.2.1 y.2.2.2.2.1 = SS.ev d E O k [1, 1, 0, 0, 0] s0 y := by rw [l0]; kernel_rfl
theorem e1 (k : Nat) (y : denS s1) : j1 (k + 1) y.2.1 = SS.ev d E O k [1, 1, 1, 1] s1 y := by rw [j1]; kernel_rfl
theorem ok (k : Nat) : EnvOk Try.prog (29, sig k) := fnP SS d E O sig (fun _ => rfl) Try.func29 (by kernel_rfl) rfl (fun k => trivial) ⟨fun _ => rfl, fun _ => rfl, trivial⟩ (by kernel_rfl) (fun k => pc 0 rfl (e0 k) <| pc 1 rfl (e1 k) <| pn) (fun k x => by kernel_rfl) k
end metrics_lookup
/-! (*reglet/metrics.Table).Width -/
namespace metrics_Table_Width
mutual
def j0 : Nat → Int → Int → Bool → A0 → Option Int
 | 0, _, _, _, _ => none
 | k + 1, r3, t, t2, s => if t2 = true then (some s.2.1) else (if (decide (t = 3)) = true then (j1 k r3 true s) else (if (decide (t = 4)) = true then (j1 k r3 true s) else (if (decide (t = 5)) = true then (j1 k r3 true s) else (if (decide (t = 7)) = true then (j1 k r3 true s) else (j1 k r3 (decide (t = 8)) s)))))
def j1 : Nat → Int → Bool → A0 → Option Int
 | 0, _, _, _ => none
 | k + 1, r4, t3, s2 => if t3 = true then (some 0) else ((metrics_lookup.f k s2 (wrap64 (r4))).bind fun r5 => some r5)
end
def f (k : Nat) (a0 : A2) (a1 : Int) (a2 : Int) : Option Int := (metrics_Table_of.f k a0 a1).bind fun r => (runes_Kind.f k a2).bind fun r2 => if (decide (r2 = 1)) = true then (j0 k a2 r2 true r) else (j0 k a2 r2 (decide (r2 = 2)) r)
def sig (k : Nat) : Sig := .p [.c false y31, .c false (.i .i64), .c false (.i .i32)] [.c false (.i .i64)] fun x => f k x.1 x.2.1 x.2.2.1
def E (k : Nat) : List (Nat × Sig) := [(25, metrics_Table_of.sig k), (28, runes_Kind.sig k), (29, metrics_lookup.sig k)]
noncomputable def d : FD := ⟨22, Try.f22, 28, 36, [(7, 28, 8)], [], [], [], [.tmp 6], .s .n (.s .n (.s (.s .n (.s (.j 0 .n (.s .n (.j 1 .n .n))) .n)) .n))⟩
abbrev s0 : Sh := [(2, .v (.i .i32)), (7, .at_ 28), (12, .v (.i .i64)), (13, .v .b), (28, .box y29)]
abbrev s1 : Sh := [(2, .v (.i .i32)), (7, .at_ 28), (18, .v .b), (28, .box y29)]
def O (k : Nat) : List (Orc (denR ([.c false (.i .i64)]))) := [⟨s0, fun y => j0 k y.1 y.2.2.1 y.2.2.2.1 y.2.2.2.2.1⟩, ⟨s1, fun y => j1 k y.1 y.2.2.1 y.2.2.2.1⟩]
theorem e1 (k : Nat) (y : denS s1) : j1 (k + 1) y.1 y.2.2.1 y.2.2.2.1 = SS.ev d E O k [1, 1, 0, 1, 0, 1, 1, 1] s1 y := by rw [j1]; kernel_rfl
theorem e0 (k : Nat) (y : denS s0) : j0 (k + 1) y.1 y.2.2.1 y.2.2.2.1 y.2.2.2.2.1 = SS.ev d E O k [1, 1, 0, 1, 0, 1] s0 y := by rw [j0]; kernel_rfl
theorem ok (k : Nat) : EnvOk Try.prog (22, sig k) := fnP SS d E O sig (fun _ => rfl) Try.func22 (by kernel_rfl) rfl (fun k => ⟨metrics_Table_of.ok k, runes_Kind.ok k, metrics_lookup.ok k, trivial⟩) ⟨fun _ => rfl, fun _ => rfl, trivial⟩ (by kernel_rfl) (fun k => pc 1 rfl (e1 k) <| pc 0 rfl (e0 k) <| pn) (fun k x => by kernel_rfl) k
end metrics_Table_Width
/-! reglet/scaled.Clamp -/
namespace scaled_Clamp
def f (k : Nat) (a0 : Int) : Option Int := some (if (-1152921504606846976) < (if a0 < 1152921504606846976 then a0 else 1152921504606846976) then (if a0 < 1152921504606846976 then a0 else 1152921504606846976) else (-1152921504606846976))
def sig (k : Nat) : Sig := .p [.c false (.i .i64)] [.c false (.i .i64)] fun x => f k x.1
def E (k : Nat) : List (Nat × Sig) := []
noncomputable def d : FD := ⟨32, Try.f32, 6, 6, [], [], [], [], [.tmp 2], .n⟩
def O (k : Nat) : List (Orc (denR ([.c false (.i .i64)]))) := []
theorem ok (k : Nat) : EnvOk Try.prog (32, sig k) := fnP SS d E O sig (fun _ => rfl) Try.func32 (by kernel_rfl) rfl (fun k => trivial) trivial (by kernel_rfl) (fun _ => pn) (fun k x => by kernel_rfl) k
end scaled_Clamp
/-! reglet/scaled.Add -/
namespace scaled_Add
def f (k : Nat) (a0 : Int) (a1 : Int) : Option Int := (scaled_Clamp.f k a0).bind fun r => (scaled_Clamp.f k a1).bind fun r2 => (scaled_Clamp.f k (wrap64 (r + r2))).bind fun r3 => some r3
def sig (k : Nat) : Sig := .p [.c false (.i .i64), .c false (.i .i64)] [.c false (.i .i64)] fun x => f k x.1 x.2.1
def E (k : Nat) : List (Nat × Sig) := [(32, scaled_Clamp.sig k)]
noncomputable def d : FD := ⟨27, Try.f27, 11, 11, [], [], [], [], [.tmp 4], .n⟩
def O (k : Nat) : List (Orc (denR ([.c false (.i .i64)]))) := []
theorem ok (k : Nat) : EnvOk Try.prog (27, sig k) := fnP SS d E O sig (fun _ => rfl) Try.func27 (by kernel_rfl) rfl (fun k => ⟨scaled_Clamp.ok k, trivial⟩) trivial (by kernel_rfl) (fun _ => pn) (fun k x => by kernel_rfl) k
end scaled_Add
/-! (*reglet/metrics.Table).Text -/
namespace metrics_Table_Text
mutual
def l0 : Nat → A2 → Int → Int → A5 → Option Int
 | 0, _, _, _, _ => none
 | k + 1, t, style, sum, t2 => if t2.2 < t2.1.size then ((metrics_Table_Width.f k t style ((Utf8.decode t2.1 t2.2).1 : Int)).bind fun r => (scaled_Add.f k sum r).bind fun r2 => l0 k t style r2 (t2.1, (t2.2 + (Utf8.decode t2.1 t2.2).2))) else (some sum)
end
def f (k : Nat) (a0 : A2) (a1 : Int) (a2 : ByteArray) : Option Int := l0 k a0 a1 0 (a2, 0)
def sig (k : Nat) : Sig := .p [.c false y31, .c false (.i .i64), .c false .s] [.c false (.i .i64)] fun x => f k x.1 x.2.1 x.2.2.1
def E (k : Nat) : List (Nat × Sig) := [(22, metrics_Table_Width.sig k), (27, scaled_Add.sig k)]
noncomputable def d : FD := ⟨21, Try.f21, 22, 22, [], [], [], [], [.tmp 6], .s .n (.s .n (.s (.s .n (.s (.l 0 .n) .n)) .n))⟩
abbrev s0 : Sh := [(0, .v y31), (1, .v (.i .i64)), (7, .v (.i .i64)), (11, .it)]
def O (k : Nat) : List (Orc (denR ([.c false (.i .i64)]))) := [⟨s0, fun y => l0 k y.1 y.2.1 y.2.2.1 y.2.2.2.1⟩]
theorem e0 (k : Nat) (y : denS s0) : l0 (k + 1) y.1 y.2.1 y.2.2.1 y.2.2.2.1 = SS.ev d E O k [1, 1, 0, 1, 0, 0] s0 y := by rw [l0]; kernel_rfl
theorem ok (k : Nat) : EnvOk Try.prog (21, sig k) := fnP SS d E O sig (fun _ => rfl) Try.func21 (by kernel_rfl) rfl (fun k => ⟨metrics_Table_Width.ok k, scaled_Add.ok k, trivial⟩) ⟨fun _ => rfl, trivial⟩ (by kernel_rfl) (fun k => pc 0 rfl (e0 k) <| pn) (fun k x => by kernel_rfl) k
end metrics_Table_Text
/-! reglet/regletlaw04.awake -/
namespace regletlaw04_awake
def f (k : Nat)  : Option Bool := (regletlaw04_table.f k ([(10, 6, 3, 2, 6, 6, ([] : List api_Range), (false))] : List (Int × Int × Int × Int × Int × Int × List api_Range × Bool))).bind fun r => optK r (some false) fun p => (metrics_Table_Styles.f k p).bind fun r2 => if (decide (r2 = 1)) = true then ((metrics_Table_Text.f k p 0 (ByteArray.mk #[97, 98, 99])).bind fun r3 => if (decide (r3 = 18)) = true then ((metrics_Table_Width.f k p 0 173).bind fun r4 => some (decide (r4 = 0))) else (some false)) else (some false)
def sig (k : Nat) : Sig := .p [] [.c false .b] fun x => f k
def E (k : Nat) : List (Nat × Sig) := [(10, regletlaw04_table.sig k), (20, metrics_Table_Styles.sig k), (21, metrics_Table_Text.sig k), (22, metrics_Table_Width.sig k)]
noncomputable def d : FD := ⟨6, Try.f6, 22, 22, [], [], [], [], [.tmp 0], .s .n (.s .n (.s (.f 1 .n) .n))⟩
def O (k : Nat) : List (Orc (denR ([.c false .b]))) := []
theorem ok (k : Nat) : EnvOk Try.prog (6, sig k) := fnP SS d E O sig (fun _ => rfl) Try.func6 (by kernel_rfl) rfl (fun k => ⟨regletlaw04_table.ok k, metrics_Table_Styles.ok k, metrics_Table_Text.ok k, metrics_Table_Width.ok k, trivial⟩) trivial (by kernel_rfl) (fun _ => pn) (fun k x => by kernel_rfl) k
end regletlaw04_awake
/-! reglet/regletref04.Same -/
namespace regletref04_Same
mutual
def l0 : Nat → A2 → A2 → Int → Option Bool
 | 0, _, _, _ => none
 | k + 1, t, t2, t3 => if (decide (t3 < (t.length : Int))) = true then ((at? t t3).bind fun e => (at? t2 t3).bind fun e2 => if (!decide (e.1 = e2.1)) = true then (some false) else (if (!decide (e.2.1 = e2.2.1)) = true then (some false) else (if (!decide (e.2.2.1 = e2.2.2.1)) = true then (some false) else (if (!decide (e.2.2.2.1 = e2.2.2.2.1)) = true then (some false) else (if (!decide (e.2.2.2.2.1 = e2.2.2.2.2.1)) = true then (some false) else (if (!decide (e.2.2.2.2.2.1 = e2.2.2.2.2.2.1)) = true then (some false) else (if (!decide (e.2.2.2.2.2.2.2 = e2.2.2.2.2.2.2.2)) = true then (some false) else (if (!decide ((e.2.2.2.2.2.2.1.length : Int) = (e2.2.2.2.2.2.2.1.length : Int))) = true then (some false) else (j1 k t t2 t3 e e2))))))))) else (some true)
def j1 : Nat → A2 → A2 → Int → A0 → A0 → Option Bool
 | 0, _, _, _, _, _ => none
 | k + 1, t4, t5, t6, t7, t8 => l2 k t4 t5 t6 0 t7 t8
def l2 : Nat → A2 → A2 → Int → Int → A0 → A0 → Option Bool
 | 0, _, _, _, _, _, _ => none
 | k + 1, t9, t10, t11, t12, t13, t14 => if (decide (t12 < (t13.2.2.2.2.2.2.1.length : Int))) = true then ((at? t13.2.2.2.2.2.2.1 t12).bind fun e3 => (at? t14.2.2.2.2.2.2.1 t12).bind fun e4 => if (!(decide (e3.1 = e4.1) && (decide (e3.2.1 = e4.2.1) && (decide (e3.2.2 = e4.2.2) && true)))) = true then (some false) else (l2 k t9 t10 t11 (wrap64 (t12 + 1)) t13 t14)) else (l0 k t9 t10 (wrap64 (t11 + 1)))
end
def f (k : Nat) (a0 : A2) (a1 : A2) : Option Bool := if (!decide ((a0.length : Int) = (a1.length : Int))) = true then (some false) else (l0 k a0 a1 0)
def sig (k : Nat) : Sig := .p [.c false y19, .c false y19] [.c false .b] fun x => f k x.1 x.2.1
def E (k : Nat) : List (Nat × Sig) := []
noncomputable def d : FD := ⟨9, Try.f9, 102, 118, [(6, 102, 8), (7, 110, 8)], [], [], [], [.tmp 4], .s .n (.s .n (.s (.s .n (.s (.l 0 (.s .n (.s (.s (.s .n (.j 1 .n (.s .n (.s (.l 2 .n) .n)))) .n) .n))) .n)) .n))⟩
abbrev s0 : Sh := [(0, .v y19), (1, .v y19), (5, .v (.i .i64))]
abbrev s1 : Sh := [(0, .v y19), (1, .v y19), (5, .v (.i .i64)), (6, .at_ 102), (7, .at_ 110), (102, .box y9), (110, .box y9)]
abbrev s2 : Sh := [(0, .v y19), (1, .v y19), (5, .v (.i .i64)), (6, .at_ 102), (7, .at_ 110), (8, .v (.i .i64)), (102, .box y9), (110, .box y9)]
def O (k : Nat) : List (Orc (denR ([.c false .b]))) := [⟨s0, fun y => l0 k y.1 y.2.1 y.2.2.1⟩, ⟨s1, fun y => j1 k y.1 y.2.1 y.2.2.1 y.2.2.2.2.2.1 y.2.2.2.2.2.2.1⟩, ⟨s2, fun y => l2 k y.1 y.2.1 y.2.2.1 y.2.2.2.2.2.1 y.2.2.2.2.2.2.1 y.2.2.2.2.2.2.2.1⟩]
theorem e2 (k : Nat) (y : denS s2) : l2 (k + 1) y.1 y.2.1 y.2.2.1 y.2.2.2.2.2.1 y.2.2.2.2.2.2.1 y.2.2.2.2.2.2.2.1 = SS.ev d E O k [1, 1, 0, 1, 0, 0, 1, 0, 0, 1, 1, 1, 0, 0] s2 y := by rw [l2]; kernel_rfl
theorem e1 (k : Nat) (y : denS s1) : j1 (k + 1) y.1 y.2.1 y.2.2.1 y.2.2.2.2.2.1 y.2.2.2.2.2.2.1 = SS.ev d E O k [1, 1, 0, 1, 0, 0, 1, 0, 0, 1, 1] s1 y := by rw [j1]; kernel_rfl
theorem e0 (k : Nat) (y : denS s0) : l0 (k + 1) y.1 y.2.1 y.2.2.1 = SS.ev d E O k [1, 1, 0, 1, 0, 0] s0 y := by rw [l0]; kernel_rfl
theorem ok (k : Nat) : EnvOk Try.prog (9, sig k) := fnP SS d E O sig (fun _ => rfl) Try.func9 (by kernel_rfl) rfl (fun k => trivial) ⟨fun _ => rfl, fun _ => rfl, fun _ => rfl, trivial⟩ (by kernel_rfl) (fun k => pc 2 rfl (e2 k) <| pc 1 rfl (e1 k) <| pc 0 rfl (e0 k) <| pn) (fun k x => by kernel_rfl) k
end regletref04_Same
/-! reglet/metrics.alike -/
namespace metrics_alike
mutual
def j0 : Nat → A0 → A0 → Option Bool
 | 0, _, _ => none
 | k + 1, t, t2 => l1 k (t.2.2.2.2.2.2.1.length : Int) 0 t t2
def l1 : Nat → Int → Int → A0 → A0 → Option Bool
 | 0, _, _, _, _ => none
 | k + 1, t3, t4, t5, t6 => if (decide (t4 < t3)) = true then ((at? t5.2.2.2.2.2.2.1 t4).bind fun e => (at? t6.2.2.2.2.2.2.1 t4).bind fun e2 => if (!(decide (e.1 = e2.1) && (decide (e.2.1 = e2.2.1) && (decide (e.2.2 = e2.2.2) && true)))) = true then (some false) else (l1 k t3 (wrap64 (t4 + 1)) t5 t6)) else (some true)
end
def f (k : Nat) (a0 : A0) (a1 : A0) : Option Bool := if (!decide (a0.1 = a1.1)) = true then (some false) else (if (!decide (a0.2.1 = a1.2.1)) = true then (some false) else (if (!decide (a0.2.2.1 = a1.2.2.1)) = true then (some false) else (if (!decide (a0.2.2.2.1 = a1.2.2.2.1)) = true then (some false) else (if (!decide (a0.2.2.2.2.1 = a1.2.2.2.2.1)) = true then (some false) else (if (!decide (a0.2.2.2.2.2.1 = a1.2.2.2.2.2.1)) = true then (some false) else (if (!decide (a0.2.2.2.2.2.2.2 = a1.2.2.2.2.2.2.2)) = true then (some false) else (if (!decide ((a0.2.2.2.2.2.2.1.length : Int) = (a1.2.2.2.2.2.2.1.length : Int))) = true then (some false) else (j0 k a0 a1))))))))
def sig (k : Nat) : Sig := .p [.c true y9, .c true y9] [.c false .b] fun x => f k x.1 x.2.1
def E (k : Nat) : List (Nat × Sig) := []
noncomputable def d : FD := ⟨26, Try.f26, 80, 96, [(2, 80, 8), (3, 88, 8)], [], [], [], [.tmp 4], .s .n (.j 0 .n (.s (.s .n (.s (.l 1 .n) .n)) .n))⟩
abbrev s0 : Sh := [(2, .at_ 80), (3, .at_ 88), (80, .box y9), (88, .box y9)]
abbrev s1 : Sh := [(2, .at_ 80), (3, .at_ 88), (64, .v (.i .i64)), (65, .v (.i .i64)), (80, .box y9), (88, .box y9)]
def O (k : Nat) : List (Orc (denR ([.c false .b]))) := [⟨s0, fun y => j0 k y.2.2.1 y.2.2.2.1⟩, ⟨s1, fun y => l1 k y.2.2.1 y.2.2.2.1 y.2.2.2.2.1 y.2.2.2.2.2.1⟩]
theorem e1 (k : Nat) (y : denS s1) : l1 (k + 1) y.2.2.1 y.2.2.2.1 y.2.2.2.2.1 y.2.2.2.2.2.1 = SS.ev d E O k [1, 1, 0, 1, 0, 0] s1 y := by rw [l1]; kernel_rfl
theorem e0 (k : Nat) (y : denS s0) : j0 (k + 1) y.2.2.1 y.2.2.2.1 = SS.ev d E O k [1, 1] s0 y := by rw [j0]; kernel_rfl
theorem ok (k : Nat) : EnvOk Try.prog (26, sig k) := fnP SS d E O sig (fun _ => rfl) Try.func26 (by kernel_rfl) rfl (fun k => trivial) ⟨fun _ => rfl, fun _ => rfl, trivial⟩ (by kernel_rfl) (fun k => pc 1 rfl (e1 k) <| pc 0 rfl (e0 k) <| pn) (fun k x => by kernel_rfl) k
end metrics_alike
/-! reglet/metrics.Same -/
namespace metrics_Same
mutual
def j0 : Nat → A2 → A2 → Option Bool
 | 0, _, _ => none
 | k + 1, a, b => if (!decide ((a.length : Int) = (b.length : Int))) = true then (some false) else (l1 k a b (a.length : Int) 0)
def l1 : Nat → A2 → A2 → Int → Int → Option Bool
 | 0, _, _, _, _ => none
 | k + 1, a2, b2, t, t2 => if (decide (t2 < t)) = true then ((at? a2 t2).bind fun e => (at? b2 t2).bind fun e2 => (metrics_alike.f k e e2).bind fun r => if (!r) = true then (some false) else (l1 k a2 b2 t (wrap64 (t2 + 1)))) else (some true)
end
def f (k : Nat) (a0 : A6) (a1 : A6) : Option Bool := optK a0 (optK a1 (some true) fun p2 => some false) fun p => optK a1 (some false) fun p3 => j0 k p p3
def sig (k : Nat) : Sig := .p [.o y19, .o y19] [.c false .b] fun x => f k x.1 x.2.1
def E (k : Nat) : List (Nat × Sig) := [(26, metrics_alike.sig k)]
noncomputable def d : FD := ⟨19, Try.f19, 51, 51, [], [], [], [], [.tmp 4], .s .n (.j 0 (.s (.p 0 (.p 1 .n)) (.s (.s (.p 1 .n) .n) .n)) (.s .n (.s (.s .n (.s (.l 1 .n) .n)) .n)))⟩
abbrev s0 : Sh := [(0, .v y21), (1, .v y21)]
abbrev s1 : Sh := [(0, .v y21), (1, .v y21), (30, .v (.i .i64)), (31, .v (.i .i64))]
def O (k : Nat) : List (Orc (denR ([.c false .b]))) := [⟨s0, fun y => j0 k y.1 y.2.1⟩, ⟨s1, fun y => l1 k y.1 y.2.1 y.2.2.1 y.2.2.2.1⟩]
theorem e1 (k : Nat) (y : denS s1) : l1 (k + 1) y.1 y.2.1 y.2.2.1 y.2.2.2.1 = SS.ev d E O k [1, 1, 1, 0, 1, 0, 0] s1 y := by rw [l1]; kernel_rfl
theorem e0 (k : Nat) (y : denS s0) : j0 (k + 1) y.1 y.2.1 = SS.ev d E O k [1, 1] s0 y := by rw [j0]; kernel_rfl
theorem ok (k : Nat) : EnvOk Try.prog (19, sig k) := fnP SS d E O sig (fun _ => rfl) Try.func19 (by kernel_rfl) rfl (fun k => ⟨metrics_alike.ok k, trivial⟩) ⟨fun _ => rfl, fun _ => rfl, trivial⟩ (by kernel_rfl) (fun k => pc 1 rfl (e1 k) <| pc 0 rfl (e0 k) <| pn) (fun k x => by kernel_rfl) k
end metrics_Same
/-! reglet/regletlaw04.awakeNil -/
namespace regletlaw04_awakeNil
def f (k : Nat) (a0 : A6) : Option Bool := optK a0 ((metrics_Same.f k (none : Option (List (Int × Int × Int × Int × Int × Int × List api_Range × Bool))) (none : Option (List (Int × Int × Int × Int × Int × Int × List api_Range × Bool)))).bind fun r => some (!decide (r = true))) fun p => (metrics_Same.f k (none : Option (List (Int × Int × Int × Int × Int × Int × List api_Range × Bool))) (some p)).bind fun r2 => some (!decide (r2 = false))
def sig (k : Nat) : Sig := .p [.o y19] [.c false .b] fun x => f k x.1
def E (k : Nat) : List (Nat × Sig) := [(19, metrics_Same.sig k)]
noncomputable def d : FD := ⟨18, Try.f18, 8, 8, [], [], [], [], [.tmp 2], .s .n (.s (.p 0 .n) .n)⟩
def O (k : Nat) : List (Orc (denR ([.c false .b]))) := []
theorem ok (k : Nat) : EnvOk Try.prog (18, sig k) := fnP SS d E O sig (fun _ => rfl) Try.func18 (by kernel_rfl) rfl (fun k => ⟨metrics_Same.ok k, trivial⟩) trivial (by kernel_rfl) (fun _ => pn) (fun k x => by kernel_rfl) k
end regletlaw04_awakeNil
/-! reglet/regletlaw04.MetricsSame -/
namespace regletlaw04_MetricsSame
mutual
def l0 : Nat → A2 → A2 → A2 → Int → Option Bool
 | 0, _, _, _, _ => none
 | k + 1, t, t2, t3, t4 => if (decide (t4 < (t.length : Int))) = true then ((at? t t4).bind fun e => if (([] : List api_Range).length + e.2.2.2.2.2.2.1.length) * 24 ≤ 140737488355328 then (if (t3.length + ([(e.1, e.2.1, e.2.2.1, e.2.2.2.1, e.2.2.2.2.1, e.2.2.2.2.2.1, ([] : List api_Range) ++ e.2.2.2.2.2.2.1, e.2.2.2.2.2.2.2)] : List (Int × Int × Int × Int × Int × Int × List api_Range × Bool)).length) * 80 ≤ 140737488355328 then (l0 k t t2 (t3 ++ ([(e.1, e.2.1, e.2.2.1, e.2.2.2.1, e.2.2.2.2.1, e.2.2.2.2.2.1, ([] : List api_Range) ++ e.2.2.2.2.2.2.1, e.2.2.2.2.2.2.2)] : List (Int × Int × Int × Int × Int × Int × List api_Range × Bool))) (wrap64 (t4 + 1))) else none) else none) else ((regletlaw04_table.f k t3).bind fun r2 => optK r2 ((regletlaw04_table.f k t2).bind fun r3 => optK r3 ((regletlaw04_table.f k t).bind fun r4 => optK r4 ((regletlaw04_awakeNil.f k (none : Option (List (Int × Int × Int × Int × Int × Int × List api_Range × Bool)))).bind fun r5 => some (!r5)) fun p3 => some false) fun p2 => (regletlaw04_table.f k t).bind fun r6 => optK r6 ((regletlaw04_awakeNil.f k (some p2)).bind fun r7 => some (!r7)) fun p4 => some false) fun p => (regletlaw04_table.f k t2).bind fun r8 => optK r8 ((regletlaw04_table.f k t).bind fun r9 => optK r9 (some false) fun p6 => j1 k t t2 t3 p none p6) fun p5 => (regletlaw04_table.f k t).bind fun r10 => optK r10 (some false) fun p7 => j1 k t t2 t3 p (some p5) p7)
def j1 : Nat → A2 → A2 → A2 → A2 → A6 → A2 → Option Bool
 | 0, _, _, _, _, _, _ => none
 | k + 1, t5, t6, t7, t8, t9, t10 => l2 k t5 t6 t7 t8 t9 t10 0
def l2 : Nat → A2 → A2 → A2 → A2 → A6 → A2 → Int → Option Bool
 | 0, _, _, _, _, _, _, _ => none
 | k + 1, t11, t12, t13, t14, t15, t16, t17 => if (decide (t17 < (t13.length : Int))) = true then (if 0 ≤ t17 ∧ t17 < (t13.length : Int) then ((t13[t17.toNat]?).bind fun e2 => l3 k t11 t12 (t13.set t17.toNat (0, e2.2.1, e2.2.2.1, e2.2.2.2.1, e2.2.2.2.2.1, e2.2.2.2.2.2.1, e2.2.2.2.2.2.2.1, e2.2.2.2.2.2.2.2)) t14 t15 t16 t17 0) else none) else ((metrics_Same.f k (some t14) (some t16)).bind fun r11 => if (!r11) = true then (some false) else ((metrics_Same.f k (some t14) (none : Option (List (Int × Int × Int × Int × Int × Int × List api_Range × Bool)))).bind fun r12 => if r12 = true then (some false) else ((metrics_Same.f k (none : Option (List (Int × Int × Int × Int × Int × Int × List api_Range × Bool))) (some t14)).bind fun r13 => if r13 = true then (some false) else (j4 k t11 t12 t14 t15))))
def l3 : Nat → A2 → A2 → A2 → A2 → A6 → A2 → Int → Int → Option Bool
 | 0, _, _, _, _, _, _, _, _ => none
 | k + 1, t18, t19, t20, t21, t22, t23, t24, t25 => if 0 ≤ t24 ∧ t24 < (t20.length : Int) then ((t20[t24.toNat]?).bind fun e3 => if (decide (t25 < (e3.2.2.2.2.2.2.1.length : Int))) = true then (if 0 ≤ t24 ∧ t24 < (t20.length : Int) then ((t20[t24.toNat]?).bind fun e4 => if 0 ≤ t25 ∧ t25 < (e4.2.2.2.2.2.2.1.length : Int) then ((t20[t24.toNat]?).bind fun e5 => (e5.2.2.2.2.2.2.1[t25.toNat]?).bind fun e6 => l3 k t18 t19 (t20.set t24.toNat (e5.1, e5.2.1, e5.2.2.1, e5.2.2.2.1, e5.2.2.2.2.1, e5.2.2.2.2.2.1, e5.2.2.2.2.2.2.1.set t25.toNat (e6.1, e6.2.1, (-1)), e5.2.2.2.2.2.2.2)) t21 t22 t23 t24 (wrap64 (t25 + 1))) else none) else none) else (l2 k t18 t19 t20 t21 t22 t23 (wrap64 (t24 + 1)))) else none
def j4 : Nat → A2 → A2 → A2 → A6 → Option Bool
 | 0, _, _, _, _ => none
 | k + 1, t26, t27, t28, t29 => optK t29 (some true) fun p8 => (metrics_Same.f k (some t28) (some p8)).bind fun r14 => (regletref04_Same.f k t26 t27).bind fun r15 => if (decide (r14 = r15)) = true then ((metrics_Same.f k (some p8) (some t28)).bind fun r16 => (regletref04_Same.f k t26 t27).bind fun r17 => some (decide (r16 = r17))) else (some false)
end
def f (k : Nat) (a0 : A2) (a1 : A2) : Option Bool := (regletlaw04_awake.f k).bind fun r => if (!r) = true then (some false) else (l0 k a0 a1 ([] : List (Int × Int × Int × Int × Int × Int × List api_Range × Bool)) 0)
def sig (k : Nat) : Sig := .p [.c false y30, .c false y30] [.c false .b] fun x => f k x.1 x.2.1
def E (k : Nat) : List (Nat × Sig) := [(6, regletlaw04_awake.sig k), (9, regletref04_Same.sig k), (10, regletlaw04_table.sig k), (18, regletlaw04_awakeNil.sig k), (19, metrics_Same.sig k)]
noncomputable def d : FD := ⟨5, Try.f5, 117, 125, [(7, 117, 8)], [], [], [], [.tmp 4], .s .n (.s .n (.s .n (.s (.s .n (.s (.l 0 .n) .n)) (.s .n (.j 1 (.s (.f 8 (.f 10 .n)) (.s (.s (.f 9 .n) .n) .n)) (.s (.s .n (.s (.l 2 (.s .n (.s (.s (.s .n (.s .n (.s (.l 3 .n) .n))) .n) .n))) .n)) (.j 4 .n (.s (.p 9 .n) .n))))))))⟩
abbrev s0 : Sh := [(0, .v y30), (1, .v y30), (5, .v y18), (6, .v (.i .i64))]
abbrev s1 : Sh := [(0, .v y30), (1, .v y30), (5, .v y18), (8, .v y31), (9, .opt y30), (10, .v y31)]
abbrev s2 : Sh := [(0, .v y30), (1, .v y30), (5, .v y18), (8, .v y31), (9, .opt y30), (10, .v y31), (11, .v (.i .i64))]
abbrev s3 : Sh := [(0, .v y30), (1, .v y30), (5, .v y18), (8, .v y31), (9, .opt y30), (10, .v y31), (11, .v (.i .i64)), (12, .v (.i .i64))]
abbrev s4 : Sh := [(0, .v y30), (1, .v y30), (8, .v y31), (9, .opt y30)]
def O (k : Nat) : List (Orc (denR ([.c false .b]))) := [⟨s0, fun y => l0 k y.1 y.2.1 y.2.2.1 y.2.2.2.1⟩, ⟨s1, fun y => j1 k y.1 y.2.1 y.2.2.1 y.2.2.2.1 y.2.2.2.2.1 y.2.2.2.2.2.1⟩, ⟨s2, fun y => l2 k y.1 y.2.1 y.2.2.1 y.2.2.2.1 y.2.2.2.2.1 y.2.2.2.2.2.1 y.2.2.2.2.2.2.1⟩, ⟨s3, fun y => l3 k y.1 y.2.1 y.2.2.1 y.2.2.2.1 y.2.2.2.2.1 y.2.2.2.2.2.1 y.2.2.2.2.2.2.1 y.2.2.2.2.2.2.2.1⟩, ⟨s4, fun y => j4 k y.1 y.2.1 y.2.2.1 y.2.2.2.1⟩]
theorem e0 (k : Nat) (y : denS s0) : l0 (k + 1) y.1 y.2.1 y.2.2.1 y.2.2.2.1 = SS.ev d E O k [1, 1, 1, 0, 1, 0, 0] s0 y := by rw [l0]; kernel_rfl
theorem e3 (k : Nat) (y : denS s3) : l3 (k + 1) y.1 y.2.1 y.2.2.1 y.2.2.2.1 y.2.2.2.2.1 y.2.2.2.2.2.1 y.2.2.2.2.2.2.1 y.2.2.2.2.2.2.2.1 = SS.ev d E O k [1, 1, 1, 1, 1, 1, 0, 1, 0, 0, 1, 0, 0, 1, 1, 0, 0] s3 y := by rw [l3]; kernel_rfl
theorem e2 (k : Nat) (y : denS s2) : l2 (k + 1) y.1 y.2.1 y.2.2.1 y.2.2.2.1 y.2.2.2.2.1 y.2.2.2.2.2.1 y.2.2.2.2.2.2.1 = SS.ev d E O k [1, 1, 1, 1, 1, 1, 0, 1, 0, 0] s2 y := by rw [l2]; kernel_rfl
theorem e4 (k : Nat) (y : denS s4) : j4 (k + 1) y.1 y.2.1 y.2.2.1 y.2.2.2.1 = SS.ev d E O k [1, 1, 1, 1, 1, 1, 1, 1] s4 y := by rw [j4]; kernel_rfl
theorem e1 (k : Nat) (y : denS s1) : j1 (k + 1) y.1 y.2.1 y.2.2.1 y.2.2.2.1 y.2.2.2.2.1 y.2.2.2.2.2.1 = SS.ev d E O k [1, 1, 1, 1, 1, 1] s1 y := by rw [j1]; kernel_rfl
theorem ok (k : Nat) : EnvOk Try.prog (5, sig k) := fnP SS d E O sig (fun _ => rfl) Try.func5 (by kernel_rfl) rfl (fun k => ⟨regletlaw04_awake.ok k, regletref04_Same.ok k, regletlaw04_table.ok k, regletlaw04_awakeNil.ok k, metrics_Same.ok k, trivial⟩) ⟨fun _ => rfl, fun _ => rfl, fun _ => rfl, fun _ => rfl, fun _ => rfl, trivial⟩ (by kernel_rfl) (fun k => pc 0 rfl (e0 k) <| pc 3 rfl (e3 k) <| pc 2 rfl (e2 k) <| pc 4 rfl (e4 k) <| pc 1 rfl (e1 k) <| pn) (fun k x => by kernel_rfl) k
end regletlaw04_MetricsSame
end Go.Proofs.Ytepeoiimdefnpaa.Vm
