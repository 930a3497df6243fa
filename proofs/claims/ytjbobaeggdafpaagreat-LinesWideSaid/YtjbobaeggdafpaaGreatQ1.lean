
import Derived.Test.YtjbobaeggdafpaaGreatQ0
namespace Go.Proofs.YtjbobaeggdafpaaGreat.Vm
open Go
open _root_.Go.RowKit (wrap64)
set_option maxRecDepth 100000
set_option linter.unusedVariables false
namespace regletref04_fits
def f (k : Nat) (a0 : Int) (a1 : Int) : Option Bool := if (decide (a1 ≤ a0)) = true then (some (decide (a0 ≤ 1048576))) else (some false)
def sig (k : Nat) : Sig := .p [(false, (.i .i64)), (false, (.i .i64))] [.c false .b] fun x => f k x.1 x.2.1
def E (k : Nat) : List (Nat × Sig) := []
noncomputable def d : FD := ⟨81, Tryz.f81, 12, 12, [], [], [], [], [.tmp 4], .n⟩
def O (k : Nat) : List (Orc (denR ([.c false .b]))) := []
theorem ok (k : Nat) : EnvOk Tryz.prog (81, sig k) := fnP SS d E O sig (fun _ => rfl) Tryz.func81 (by kernel_rfl) rfl (fun k => trivial) trivial (by kernel_rfl) (fun _ => pn) (fun k x => by kernel_rfl) k
end regletref04_fits
namespace regletref04_Style
mutual
def l0 : Nat → (List Int) → Int → A0 → Option Int
 | 0, _, _, _ => none
 | k + 1, t, t2, t3 => if (decide (t2 < (t.length : Int))) = true then (if 0 ≤ t2 ∧ t2 < (t.length : Int) then ((t[t2.toNat]?).bind fun e => (regletref04_fits.f k e 0).bind fun r => if (!r) = true then (some 41) else (l0 k t (wrap64 (t2 + 1)) t3)) else none) else ((regletref04_fits.f k t3.1 1).bind fun r2 => if (!r2) = true then (some 41) else (if (decide (t3.2.1 < t3.2.2.2.1)) = true then (some 41) else (j1 k t3)))
def j1 : Nat → A0 → Option Int
 | 0, _ => none
 | k + 1, t4 => if (decide (64 < (t4.2.2.2.2.2.2.1.length : Int))) = true then (some 42) else (l2 k 0 t4)
def l2 : Nat → Int → A0 → Option Int
 | 0, _, _ => none
 | k + 1, t5, t6 => if (decide (t5 < (t6.2.2.2.2.2.2.1.length : Int))) = true then ((at? t6.2.2.2.2.2.2.1 t5).bind fun e2 => if (decide (t5 = 0)) = true then (if (decide (e2.1 < 0)) = true then (some 42) else (if (decide (0 < t5)) = true then ((at? t6.2.2.2.2.2.2.1 (wrap64 (t5 - 1))).bind fun e3 => if (decide (e2.1 ≤ e3.2.1)) = true then (some 42) else (if (decide (e2.2.1 < e2.1)) = true then (some 42) else (if (decide (1114111 < e2.2.1)) = true then (some 42) else (j3 k t5 t6 e2)))) else (if (decide (e2.2.1 < e2.1)) = true then (some 42) else (if (decide (1114111 < e2.2.1)) = true then (some 42) else (j3 k t5 t6 e2))))) else (if (decide (0 < t5)) = true then ((at? t6.2.2.2.2.2.2.1 (wrap64 (t5 - 1))).bind fun e4 => if (decide (e2.1 ≤ e4.2.1)) = true then (some 42) else (if (decide (e2.2.1 < e2.1)) = true then (some 42) else (if (decide (1114111 < e2.2.1)) = true then (some 42) else (j3 k t5 t6 e2)))) else (if (decide (e2.2.1 < e2.1)) = true then (some 42) else (if (decide (1114111 < e2.2.1)) = true then (some 42) else (j3 k t5 t6 e2))))) else (some 0)
def j3 : Nat → Int → A0 → api_Range → Option Int
 | 0, _, _, _ => none
 | k + 1, t7, t8, t9 => (regletref04_fits.f k t9.2.2 0).bind fun r3 => if (!r3) = true then (some 41) else (l2 k (wrap64 (t7 + 1)) t8)
end
def f (k : Nat) (a0 : A0) : Option Int := l0 k ([a0.2.1, a0.2.2.1, a0.2.2.2.1, a0.2.2.2.2.1, a0.2.2.2.2.2.1] : List Int) 0 a0
def sig (k : Nat) : Sig := .p [(true, y9)] [.c false (.i .i64)] fun x => f k x.1
def E (k : Nat) : List (Nat × Sig) := [(81, regletref04_fits.sig k)]
noncomputable def d : FD := ⟨58, Tryz.f58, 96, 107, [(1, 96, 8), (6, 104, 3)], [], [], [], [.tmp 2], .s .n (.s .n (.s (.s .n (.s (.l 0 .n) .n)) (.j 1 .n (.s .n (.s (.s .n (.s (.l 2 (.s .n (.s (.s (.s .n (.j 3 .n .n)) .n) .n))) .n)) .n)))))⟩
abbrev s0 : Sh := [(1, .at_ 96), (3, .v y10), (4, .v (.i .i64)), (96, .box y9)]
abbrev s1 : Sh := [(1, .at_ 96), (96, .box y9)]
abbrev s2 : Sh := [(1, .at_ 96), (5, .v (.i .i64)), (96, .box y9)]
abbrev s3 : Sh := [(1, .at_ 96), (5, .v (.i .i64)), (6, .at_ 104), (96, .box y9), (104, .box y1)]
def O (k : Nat) : List (Orc (denR ([.c false (.i .i64)]))) := [⟨s0, fun y => l0 k y.2.1 y.2.2.1 y.2.2.2.1⟩, ⟨s1, fun y => j1 k y.2.1⟩, ⟨s2, fun y => l2 k y.2.1 y.2.2.1⟩, ⟨s3, fun y => j3 k y.2.1 y.2.2.2.1 y.2.2.2.2.1⟩]
theorem e0 (k : Nat) (y : denS s0) : l0 (k + 1) y.2.1 y.2.2.1 y.2.2.2.1 = SS.ev d E O k [1, 1, 0, 1, 0, 0] s0 y := by rw [l0]; kernel_rfl
theorem e3 (k : Nat) (y : denS s3) : j3 (k + 1) y.2.1 y.2.2.2.1 y.2.2.2.2.1 = SS.ev d E O k [1, 1, 1, 1, 1, 0, 1, 0, 0, 1, 0, 0, 1, 1] s3 y := by rw [j3]; kernel_rfl
theorem e2 (k : Nat) (y : denS s2) : l2 (k + 1) y.2.1 y.2.2.1 = SS.ev d E O k [1, 1, 1, 1, 1, 0, 1, 0, 0] s2 y := by rw [l2]; kernel_rfl
theorem e1 (k : Nat) (y : denS s1) : j1 (k + 1) y.2.1 = SS.ev d E O k [1, 1, 1, 1] s1 y := by rw [j1]; kernel_rfl
theorem ok (k : Nat) : EnvOk Tryz.prog (58, sig k) := fnP SS d E O sig (fun _ => rfl) Tryz.func58 (by kernel_rfl) rfl (fun k => ⟨regletref04_fits.ok k, trivial⟩) ⟨fun _ => rfl, fun _ => rfl, fun _ => rfl, fun _ => rfl, trivial⟩ (by kernel_rfl) (fun k => pc 0 rfl (e0 k) <| pc 3 rfl (e3 k) <| pc 2 rfl (e2 k) <| pc 1 rfl (e1 k) <| pn) (fun k x => by kernel_rfl) k
end regletref04_Style
namespace regletref04_Check
mutual
def j0 : Nat → A1 → Option (Int × Int)
 | 0, _ => none
 | k + 1, l => l1 k l 0
def l1 : Nat → A1 → Int → Option (Int × Int)
 | 0, _, _ => none
 | k + 1, l2, i => if (decide (i < (l2.length : Int))) = true then ((at? l2 i).bind fun e => (regletref04_Style.f k e).bind fun r => if (!decide (r = 0)) = true then (some (r, i)) else (l1 k l2 (wrap64 (i + 1)))) else (some (0, 0))
end
def f (k : Nat) (a0 : A1) : Option (Int × Int) := if (decide ((a0.length : Int) = 0)) = true then (some (40, 0)) else (if (decide (32 < (a0.length : Int))) = true then (some (40, 0)) else (j0 k a0))
def sig (k : Nat) : Sig := .p [(false, y11)] [.c false (.i .i64), .c false (.i .i64)] fun x => f k x.1
def E (k : Nat) : List (Nat × Sig) := [(58, regletref04_Style.sig k)]
noncomputable def d : FD := ⟨24, Tryz.f24, 29, 29, [], [], [], [], [.tmp 2, .tmp 3], .s .n (.j 0 .n (.s (.s .n (.s (.l 1 .n) .n)) .n))⟩
abbrev s0 : Sh := [(0, .v y11)]
abbrev s1 : Sh := [(0, .v y11), (4, .v (.i .i64))]
def O (k : Nat) : List (Orc (denR ([.c false (.i .i64), .c false (.i .i64)]))) := [⟨s0, fun y => j0 k y.1⟩, ⟨s1, fun y => l1 k y.1 y.2.1⟩]
theorem e1 (k : Nat) (y : denS s1) : l1 (k + 1) y.1 y.2.1 = SS.ev d E O k [1, 1, 0, 1, 0, 0] s1 y := by rw [l1]; kernel_rfl
theorem e0 (k : Nat) (y : denS s0) : j0 (k + 1) y.1 = SS.ev d E O k [1, 1] s0 y := by rw [j0]; kernel_rfl
theorem ok (k : Nat) : EnvOk Tryz.prog (24, sig k) := fnP SS d E O sig (fun _ => rfl) Tryz.func24 (by kernel_rfl) rfl (fun k => ⟨regletref04_Style.ok k, trivial⟩) ⟨fun _ => rfl, fun _ => rfl, trivial⟩ (by kernel_rfl) (fun k => pc 1 rfl (e1 k) <| pc 0 rfl (e0 k) <| pn) (fun k x => by kernel_rfl) k
end regletref04_Check
namespace metrics_unit
def f (k : Nat) (a0 : Int) (a1 : Int) : Option Bool := if (decide (a1 ≤ a0)) = true then (some (decide (a0 ≤ 1048576))) else (some false)
def sig (k : Nat) : Sig := .p [(false, (.i .i64)), (false, (.i .i64))] [.c false .b] fun x => f k x.1 x.2.1
def E (k : Nat) : List (Nat × Sig) := []
noncomputable def d : FD := ⟨82, Tryz.f82, 12, 12, [], [], [], [], [.tmp 4], .n⟩
def O (k : Nat) : List (Orc (denR ([.c false .b]))) := []
theorem ok (k : Nat) : EnvOk Tryz.prog (82, sig k) := fnP SS d E O sig (fun _ => rfl) Tryz.func82 (by kernel_rfl) rfl (fun k => trivial) trivial (by kernel_rfl) (fun _ => pn) (fun k x => by kernel_rfl) k
end metrics_unit
namespace metrics_check
mutual
def j0 : Nat → A0 → Option Int
 | 0, _ => none
 | k + 1, t => if (decide (64 < (t.2.2.2.2.2.2.1.length : Int))) = true then (some 42) else (l1 k (-1) t.2.2.2.2.2.2.1 (t.2.2.2.2.2.2.1.length : Int) 0)
def l1 : Nat → Int → (List api_Range) → Int → Int → Option Int
 | 0, _, _, _, _ => none
 | k + 1, t2, t3, t4, t5 => if (decide (t5 < t4)) = true then ((at? t3 t5).bind fun e => if (decide (e.1 ≤ t2)) = true then (some 42) else (if (decide (e.2.1 < e.1)) = true then (some 42) else (if (decide (1114111 < e.2.1)) = true then (some 42) else (j2 k t3 t4 t5 e)))) else (some 0)
def j2 : Nat → (List api_Range) → Int → Int → api_Range → Option Int
 | 0, _, _, _, _ => none
 | k + 1, t6, t7, t8, t9 => (metrics_unit.f k t9.2.2 0).bind fun r7 => if (!r7) = true then (some 41) else (l1 k t9.2.1 t6 t7 (wrap64 (t8 + 1)))
end
def f (k : Nat) (a0 : A0) : Option Int := (metrics_unit.f k a0.1 1).bind fun r => if (!r) = true then (some 41) else ((metrics_unit.f k a0.2.1 0).bind fun r2 => if (!r2) = true then (some 41) else ((metrics_unit.f k a0.2.2.1 0).bind fun r3 => if (!r3) = true then (some 41) else ((metrics_unit.f k a0.2.2.2.1 0).bind fun r4 => if (!r4) = true then (some 41) else ((metrics_unit.f k a0.2.2.2.2.1 0).bind fun r5 => if (!r5) = true then (some 41) else ((metrics_unit.f k a0.2.2.2.2.2.1 0).bind fun r6 => if (!r6) = true then (some 41) else (if (decide (a0.2.1 < a0.2.2.2.1)) = true then (some 41) else (j0 k a0)))))))
def sig (k : Nat) : Sig := .p [(true, y9)] [.c false (.i .i64)] fun x => f k x.1
def E (k : Nat) : List (Nat × Sig) := [(82, metrics_unit.sig k)]
noncomputable def d : FD := ⟨59, Tryz.f59, 81, 92, [(1, 81, 8), (5, 89, 3)], [], [], [], [.tmp 2], .s .n (.j 0 .n (.s .n (.s .n (.s (.s .n (.s (.l 1 (.s .n (.s .n (.s (.s (.s .n (.j 2 .n .n)) .n) .n)))) .n)) .n))))⟩
abbrev s0 : Sh := [(1, .at_ 81), (81, .box y9)]
abbrev s1 : Sh := [(3, .v (.i .i64)), (52, .v y2), (53, .v (.i .i64)), (54, .v (.i .i64))]
abbrev s2 : Sh := [(5, .at_ 89), (52, .v y2), (53, .v (.i .i64)), (54, .v (.i .i64)), (89, .box y1)]
def O (k : Nat) : List (Orc (denR ([.c false (.i .i64)]))) := [⟨s0, fun y => j0 k y.2.1⟩, ⟨s1, fun y => l1 k y.1 y.2.1 y.2.2.1 y.2.2.2.1⟩, ⟨s2, fun y => j2 k y.2.1 y.2.2.1 y.2.2.2.1 y.2.2.2.2.1⟩]
theorem e2 (k : Nat) (y : denS s2) : j2 (k + 1) y.2.1 y.2.2.1 y.2.2.2.1 y.2.2.2.2.1 = SS.ev d E O k [1, 1, 1, 1, 0, 1, 0, 0, 1, 1, 0, 0, 1, 1] s2 y := by rw [j2]; kernel_rfl
theorem e1 (k : Nat) (y : denS s1) : l1 (k + 1) y.1 y.2.1 y.2.2.1 y.2.2.2.1 = SS.ev d E O k [1, 1, 1, 1, 0, 1, 0, 0] s1 y := by rw [l1]; kernel_rfl
theorem e0 (k : Nat) (y : denS s0) : j0 (k + 1) y.2.1 = SS.ev d E O k [1, 1] s0 y := by rw [j0]; kernel_rfl
theorem ok (k : Nat) : EnvOk Tryz.prog (59, sig k) := fnP SS d E O sig (fun _ => rfl) Tryz.func59 (by kernel_rfl) rfl (fun k => ⟨metrics_unit.ok k, trivial⟩) ⟨fun _ => rfl, fun _ => rfl, fun _ => rfl, trivial⟩ (by kernel_rfl) (fun k => pc 2 rfl (e2 k) <| pc 1 rfl (e1 k) <| pc 0 rfl (e0 k) <| pn) (fun k x => by kernel_rfl) k
end metrics_check
namespace metrics_New
mutual
def j0 : Nat → A1 → Option A2
 | 0, _ => none
 | k + 1, styles => l1 k styles (styles.length : Int) 0 ([] : List (Int × Int × Int × Int × Int × Int × List api_Range × Bool))
def l1 : Nat → A1 → Int → Int → A1 → Option A2
 | 0, _, _, _, _ => none
 | k + 1, t, t2, t3, t4 => if (decide (t3 < t2)) = true then ((at? t t3).bind fun e => (metrics_check.f k e).bind fun r => if (!decide (r = 0)) = true then (some (none, r, t3)) else (if (([] : List api_Range).length + e.2.2.2.2.2.2.1.length) * 24 ≤ 140737488355328 then (if (t4.length + ([(e.1, e.2.1, e.2.2.1, e.2.2.2.1, e.2.2.2.2.1, e.2.2.2.2.2.1, ([] : List api_Range) ++ e.2.2.2.2.2.2.1, e.2.2.2.2.2.2.2)] : List (Int × Int × Int × Int × Int × Int × List api_Range × Bool)).length) * 80 ≤ 140737488355328 then (l1 k t t2 (wrap64 (t3 + 1)) (t4 ++ ([(e.1, e.2.1, e.2.2.1, e.2.2.2.1, e.2.2.2.2.1, e.2.2.2.2.2.1, ([] : List api_Range) ++ e.2.2.2.2.2.2.1, e.2.2.2.2.2.2.2)] : List (Int × Int × Int × Int × Int × Int × List api_Range × Bool)))) else none) else none)) else (some (some t4, 0, 0))
end
def f (k : Nat) (a0 : A1) : Option A2 := if (decide ((a0.length : Int) = 0)) = true then (some (none, 40, 0)) else (if (decide (32 < (a0.length : Int))) = true then (some (none, 40, 0)) else (j0 k a0))
def sig (k : Nat) : Sig := .p [(false, y11)] [.o y20, .c false (.i .i64), .c false (.i .i64)] fun x => f k x.1
def E (k : Nat) : List (Nat × Sig) := [(59, metrics_check.sig k)]
noncomputable def d : FD := ⟨25, Tryz.f25, 49, 58, [(18, 49, 1), (7, 50, 8)], [], [], [], [.tmp 2, .tmp 3, .tmp 4], .s .n (.j 0 .n (.s .n (.s (.s .n (.s (.l 1 .n) .n)) .n)))⟩
abbrev s0 : Sh := [(0, .v y11)]
abbrev s1 : Sh := [(5, .at_ 49), (19, .v y11), (20, .v (.i .i64)), (21, .v (.i .i64)), (49, .box y20)]
def O (k : Nat) : List (Orc (denR ([.o y20, .c false (.i .i64), .c false (.i .i64)]))) := [⟨s0, fun y => j0 k y.1⟩, ⟨s1, fun y => l1 k y.2.1 y.2.2.1 y.2.2.2.1 y.2.2.2.2.1⟩]
theorem e1 (k : Nat) (y : denS s1) : l1 (k + 1) y.2.1 y.2.2.1 y.2.2.2.1 y.2.2.2.2.1 = SS.ev d E O k [1, 1, 1, 0, 1, 0, 0] s1 y := by rw [l1]; kernel_rfl
theorem e0 (k : Nat) (y : denS s0) : j0 (k + 1) y.1 = SS.ev d E O k [1, 1] s0 y := by rw [j0]; kernel_rfl
theorem ok (k : Nat) : EnvOk Tryz.prog (25, sig k) := fnP SS d E O sig (fun _ => rfl) Tryz.func25 (by kernel_rfl) rfl (fun k => ⟨metrics_check.ok k, trivial⟩) ⟨fun _ => rfl, fun _ => rfl, trivial⟩ (by kernel_rfl) (fun k => pc 1 rfl (e1 k) <| pc 0 rfl (e0 k) <| pn) (fun k x => by kernel_rfl) k
end metrics_New
namespace regletlaw10_table
def f (k : Nat) (a0 : A1) : Option A3 := (regletref04_Check.f k a0).bind fun r => if (!decide (r.1 = 0)) = true then (some none) else ((metrics_New.f k a0).bind fun r2 => optK r2.1 (some none) fun p => some (some p))
def sig (k : Nat) : Sig := .p [(false, y11)] [.o y20] fun x => f k x.1
def E (k : Nat) : List (Nat × Sig) := [(24, regletref04_Check.sig k), (25, metrics_New.sig k)]
noncomputable def d : FD := ⟨6, Tryz.f6, 22, 22, [], [], [], [], [.tmp 2], .n⟩
def O (k : Nat) : List (Orc (denR ([.o y20]))) := []
theorem ok (k : Nat) : EnvOk Tryz.prog (6, sig k) := fnP SS d E O sig (fun _ => rfl) Tryz.func6 (by kernel_rfl) rfl (fun k => ⟨regletref04_Check.ok k, metrics_New.ok k, trivial⟩) trivial (by kernel_rfl) (fun _ => pn) (fun k x => by kernel_rfl) k
end regletlaw10_table
namespace items_Forced
def f (k : Nat) (a0 : api_Item) : Option Bool := if (decide (a0.1 = 3)) = true then (some (decide (a0.2.2.2.2.2.1 ≤ (-10000)))) else (some false)
def sig (k : Nat) : Sig := .p [(true, y27)] [.c false .b] fun x => f k x.1
def E (k : Nat) : List (Nat × Sig) := []
noncomputable def d : FD := ⟨46, Tryz.f46, 11, 20, [(1, 11, 9)], [], [], [], [.tmp 2], .n⟩
def O (k : Nat) : List (Orc (denR ([.c false .b]))) := []
theorem ok (k : Nat) : EnvOk Tryz.prog (46, sig k) := fnP SS d E O sig (fun _ => rfl) Tryz.func46 (by kernel_rfl) rfl (fun k => trivial) trivial (by kernel_rfl) (fun _ => pn) (fun k x => by kernel_rfl) k
end items_Forced
namespace items_measure
def f (k : Nat) (a0 : Int) : Option Bool := if (decide (0 ≤ a0)) = true then (some (decide (a0 ≤ 68719476736))) else (some false)
def sig (k : Nat) : Sig := .p [(false, (.i .i64))] [.c false .b] fun x => f k x.1
def E (k : Nat) : List (Nat × Sig) := []
noncomputable def d : FD := ⟨106, Tryz.f106, 9, 9, [], [], [], [], [.tmp 2], .n⟩
def O (k : Nat) : List (Orc (denR ([.c false .b]))) := []
theorem ok (k : Nat) : EnvOk Tryz.prog (106, sig k) := fnP SS d E O sig (fun _ => rfl) Tryz.func106 (by kernel_rfl) rfl (fun k => trivial) trivial (by kernel_rfl) (fun _ => pn) (fun k x => by kernel_rfl) k
end items_measure
namespace items_fits
mutual
def j0 : Nat → api_Item → Option Bool
 | 0, _ => none
 | k + 1, t => if (decide (t.1 = 1)) = true then (if (decide (t.2.2.1 = 0)) = true then (if (decide (t.2.2.2.1 = 0)) = true then (if (decide (t.2.2.2.2.2.1 = 0)) = true then (if (!t.2.2.2.2.1) = true then (some (!t.2.2.2.2.2.2.1)) else (some false)) else (some false)) else (some false)) else (some false)) else (if (decide (t.1 = 2)) = true then (if (decide (t.2.2.2.2.2.1 = 0)) = true then (if (!t.2.2.2.2.2.2.1) = true then (if (!t.2.2.2.2.1) = true then (some true) else (if (decide (t.2.1 = 0)) = true then (some (decide (t.2.2.1 = 0))) else (some false))) else (some false)) else (some false)) else (if (decide (t.1 = 3)) = true then (if (decide (t.2.2.1 = 0)) = true then (if (decide (t.2.2.2.1 = 0)) = true then (if (!t.2.2.2.2.1) = true then (if (decide ((-10000) ≤ t.2.2.2.2.2.1)) = true then (some (decide (t.2.2.2.2.2.1 ≤ 10000))) else (some false)) else (some false)) else (some false)) else (some false)) else (some false)))
end
def f (k : Nat) (a0 : api_Item) : Option Bool := (items_measure.f k a0.2.1).bind fun r => if (!r) = true then (some false) else ((items_measure.f k a0.2.2.1).bind fun r2 => if (!r2) = true then (some false) else ((items_measure.f k a0.2.2.2.1).bind fun r3 => if (!r3) = true then (some false) else (if (decide (a0.2.1 < a0.2.2.2.1)) = true then (some false) else (j0 k a0))))
def sig (k : Nat) : Sig := .p [(true, y27)] [.c false .b] fun x => f k x.1
def E (k : Nat) : List (Nat × Sig) := [(106, items_measure.sig k)]
noncomputable def d : FD := ⟨75, Tryz.f75, 103, 112, [(1, 103, 9)], [], [], [], [.tmp 2], .s .n (.j 0 .n .n)⟩
abbrev s0 : Sh := [(1, .at_ 103), (103, .box y27)]
def O (k : Nat) : List (Orc (denR ([.c false .b]))) := [⟨s0, fun y => j0 k y.2.1⟩]
theorem e0 (k : Nat) (y : denS s0) : j0 (k + 1) y.2.1 = SS.ev d E O k [1, 1] s0 y := by rw [j0]; kernel_rfl
theorem ok (k : Nat) : EnvOk Tryz.prog (75, sig k) := fnP SS d E O sig (fun _ => rfl) Tryz.func75 (by kernel_rfl) rfl (fun k => ⟨items_measure.ok k, trivial⟩) ⟨fun _ => rfl, trivial⟩ (by kernel_rfl) (fun k => pc 0 rfl (e0 k) <| pn) (fun k x => by kernel_rfl) k
end items_fits
namespace items_Right
mutual
def j0 : Nat → (List api_Item) → Option Int
 | 0, _ => none
 | k + 1, list => l1 k 0 list (list.length : Int) 0
def l1 : Nat → Int → (List api_Item) → Int → Int → Option Int
 | 0, _, _, _, _ => none
 | k + 1, at_, t, t2, t3 => if (decide (t3 < t2)) = true then ((at? t t3).bind fun e2 => if (!decide (e2.2.2.2.2.2.2.2.1 = at_)) = true then (some 70) else (if (decide (e2.2.2.2.2.2.2.2.2 < e2.2.2.2.2.2.2.2.1)) = true then (some 70) else (if (decide (65536 < e2.2.2.2.2.2.2.2.2)) = true then (some 70) else ((items_fits.f k e2).bind fun r2 => if (!r2) = true then (some 70) else (j2 k t t2 t3 e2))))) else (some 0)
def j2 : Nat → (List api_Item) → Int → Int → api_Item → Option Int
 | 0, _, _, _, _ => none
 | k + 1, t4, t5, t6, x => l1 k x.2.2.2.2.2.2.2.2 t4 t5 (wrap64 (t6 + 1))
end
def f (k : Nat) (a0 : (List api_Item)) : Option Int := if (decide ((a0.length : Int) = 0)) = true then (some 70) else (if (decide (262144 < (a0.length : Int))) = true then (some 70) else ((at? a0 (wrap64 ((a0.length : Int) - 1))).bind fun e => (items_Forced.f k e).bind fun r => if (!r) = true then (some 70) else (j0 k a0)))
def sig (k : Nat) : Sig := .p [(false, y28)] [.c false (.i .i64)] fun x => f k x.1
def E (k : Nat) : List (Nat × Sig) := [(46, items_Forced.sig k), (75, items_fits.sig k)]
noncomputable def d : FD := ⟨44, Tryz.f44, 54, 63, [(5, 54, 9)], [], [], [], [.tmp 2], .s .n (.j 0 .n (.s .n (.s (.s .n (.s (.l 1 (.s .n (.s .n (.s (.s (.s .n (.j 2 .n .n)) .n) .n)))) .n)) .n)))⟩
abbrev s0 : Sh := [(0, .v y28)]
abbrev s1 : Sh := [(3, .v (.i .i64)), (24, .v y28), (25, .v (.i .i64)), (26, .v (.i .i64))]
abbrev s2 : Sh := [(5, .at_ 54), (24, .v y28), (25, .v (.i .i64)), (26, .v (.i .i64)), (54, .box y27)]
def O (k : Nat) : List (Orc (denR ([.c false (.i .i64)]))) := [⟨s0, fun y => j0 k y.1⟩, ⟨s1, fun y => l1 k y.1 y.2.1 y.2.2.1 y.2.2.2.1⟩, ⟨s2, fun y => j2 k y.2.1 y.2.2.1 y.2.2.2.1 y.2.2.2.2.1⟩]
theorem e2 (k : Nat) (y : denS s2) : j2 (k + 1) y.2.1 y.2.2.1 y.2.2.2.1 y.2.2.2.2.1 = SS.ev d E O k [1, 1, 1, 0, 1, 0, 0, 1, 1, 0, 0, 1, 1] s2 y := by rw [j2]; kernel_rfl
theorem e1 (k : Nat) (y : denS s1) : l1 (k + 1) y.1 y.2.1 y.2.2.1 y.2.2.2.1 = SS.ev d E O k [1, 1, 1, 0, 1, 0, 0] s1 y := by rw [l1]; kernel_rfl
theorem e0 (k : Nat) (y : denS s0) : j0 (k + 1) y.1 = SS.ev d E O k [1, 1] s0 y := by rw [j0]; kernel_rfl
theorem ok (k : Nat) : EnvOk Tryz.prog (44, sig k) := fnP SS d E O sig (fun _ => rfl) Tryz.func44 (by kernel_rfl) rfl (fun k => ⟨items_Forced.ok k, items_fits.ok k, trivial⟩) ⟨fun _ => rfl, fun _ => rfl, fun _ => rfl, trivial⟩ (by kernel_rfl) (fun k => pc 2 rfl (e2 k) <| pc 1 rfl (e1 k) <| pc 0 rfl (e0 k) <| pn) (fun k x => by kernel_rfl) k
end items_Right
namespace items_Legal
mutual
def j0 : Nat → (List api_Item) → Int → Option Bool
 | 0, _, _ => none
 | k + 1, list, k_ => (at? list k_).bind fun e => if (decide (e.1 = 3)) = true then (some (decide (e.2.2.2.2.2.1 < 10000))) else (if (decide (e.1 = 2)) = true then (if (!e.2.2.2.2.1) = true then (if (decide (0 < k_)) = true then ((at? list (wrap64 (k_ - 1))).bind fun e2 => some (decide (e2.1 = 1))) else (some false)) else (some false)) else (some false))
end
def f (k : Nat) (a0 : (List api_Item)) (a1 : Int) : Option Bool := if (decide (a1 < 0)) = true then (some false) else (if (decide ((a0.length : Int) ≤ a1)) = true then (some false) else (j0 k a0 a1))
def sig (k : Nat) : Sig := .p [(false, y28), (false, (.i .i64))] [.c false .b] fun x => f k x.1 x.2.1
def E (k : Nat) : List (Nat × Sig) := []
noncomputable def d : FD := ⟨45, Tryz.f45, 43, 52, [(5, 43, 9)], [], [], [], [.tmp 4], .s .n (.j 0 .n .n)⟩
abbrev s0 : Sh := [(0, .v y28), (1, .v (.i .i64))]
def O (k : Nat) : List (Orc (denR ([.c false .b]))) := [⟨s0, fun y => j0 k y.1 y.2.1⟩]
theorem e0 (k : Nat) (y : denS s0) : j0 (k + 1) y.1 y.2.1 = SS.ev d E O k [1, 1] s0 y := by rw [j0]; kernel_rfl
theorem ok (k : Nat) : EnvOk Tryz.prog (45, sig k) := fnP SS d E O sig (fun _ => rfl) Tryz.func45 (by kernel_rfl) rfl (fun k => trivial) ⟨fun _ => rfl, trivial⟩ (by kernel_rfl) (fun k => pc 0 rfl (e0 k) <| pn) (fun k x => by kernel_rfl) k
end items_Legal
namespace measure_New
mutual
def l0 : Nat → (List api_Item) → Int → Int → Int → Int → (List api_Item) → Int → Int → measure_Para → Option A4
 | 0, _, _, _, _, _, _, _, _, _ => none
 | k + 1, t, t2, t3, t4, t5, t6, t7, t8, t9 => if (decide (t8 < t7)) = true then ((at? t6 t8).bind fun e => if (t9.2.1.length + ([t2] : List Int).length) * 8 ≤ 140737488355328 then (if (t9.2.2.1.length + ([t3] : List Int).length) * 8 ≤ 140737488355328 then (if (t9.2.2.2.1.length + ([t4] : List Int).length) * 8 ≤ 140737488355328 then (if (t9.2.2.2.2.1.length + ([t5] : List Int).length) * 8 ≤ 140737488355328 then (if (decide (e.1 = 3)) = true then (j1 k t t2 t3 t4 t5 t8 t6 t7 t8 (t9.1, t9.2.1 ++ ([t2] : List Int), t9.2.2.1 ++ ([t3] : List Int), t9.2.2.2.1 ++ ([t4] : List Int), t9.2.2.2.2.1 ++ ([t5] : List Int), t9.2.2.2.2.2.1, (if t9.2.2.2.2.2.2.1 < e.2.1 then e.2.1 else t9.2.2.2.2.2.2.1), t9.2.2.2.2.2.2.2) e) else (j1 k t (wrap64 (t2 + e.2.1)) (wrap64 (t3 + e.2.2.1)) (wrap64 (t4 + e.2.2.2.1)) t5 t8 t6 t7 t8 (t9.1, t9.2.1 ++ ([t2] : List Int), t9.2.2.1 ++ ([t3] : List Int), t9.2.2.2.1 ++ ([t4] : List Int), t9.2.2.2.2.1 ++ ([t5] : List Int), t9.2.2.2.2.2.1, t9.2.2.2.2.2.2.1, t9.2.2.2.2.2.2.2) e)) else none) else none) else none) else none) else (if (t9.2.1.length + ([t2] : List Int).length) * 8 ≤ 140737488355328 then (if (t9.2.2.1.length + ([t3] : List Int).length) * 8 ≤ 140737488355328 then (if (t9.2.2.2.1.length + ([t4] : List Int).length) * 8 ≤ 140737488355328 then (if (t9.2.2.2.2.1.length + ([t5] : List Int).length) * 8 ≤ 140737488355328 then (if (wrap64 ((t.length : Int) + 1)) = (wrap64 ((t.length : Int) + 1)) ∧ 0 ≤ (wrap64 ((t.length : Int) + 1)) ∧ (8 : Int) * (wrap64 ((t.length : Int) + 1)) ≤ 281474976710656 then (if 0 ≤ (t.length : Int) ∧ (t.length : Int) < ((List.replicate ((wrap64 ((t.length : Int) + 1)).toNat) 0 : List Int).length : Int) then (((List.replicate ((wrap64 ((t.length : Int) + 1)).toNat) 0 : List Int)[(t.length : Int).toNat]?).bind fun e2 => l2 k t (wrap64 ((t.length : Int) - 1)) (t9.1, t9.2.1 ++ ([t2] : List Int), t9.2.2.1 ++ ([t3] : List Int), t9.2.2.2.1 ++ ([t4] : List Int), t9.2.2.2.2.1 ++ ([t5] : List Int), (List.replicate ((wrap64 ((t.length : Int) + 1)).toNat) 0 : List Int).set ((t.length : Int).toNat) (t.length : Int), t9.2.2.2.2.2.2.1, t9.2.2.2.2.2.2.2)) else none) else none) else none) else none) else none) else none)
def j1 : Nat → (List api_Item) → Int → Int → Int → Int → Int → (List api_Item) → Int → Int → measure_Para → api_Item → Option A4
 | 0, _, _, _, _, _, _, _, _, _, _, _ => none
 | k + 1, t10, t11, t12, t13, t14, t15, t16, t17, t18, t19, t20 => if t20.2.2.2.2.1 = true then (j3 k t10 t11 t12 t13 (wrap64 (t14 + 1)) t15 t16 t17 t18 t19) else (j3 k t10 t11 t12 t13 t14 t15 t16 t17 t18 t19)
def l2 : Nat → (List api_Item) → Int → measure_Para → Option A4
 | 0, _, _, _ => none
 | k + 1, t21, t22, t23 => if (decide (0 ≤ t22)) = true then (if 0 ≤ t22 ∧ t22 < (t23.2.2.2.2.2.1.length : Int) then ((t23.2.2.2.2.2.1[t22.toNat]?).bind fun e3 => (at? t21 t22).bind fun e4 => if (!decide (e4.1 = 1)) = true then ((items_Forced.f k e4).bind fun r2 => if (!r2) = true then (if (!e4.2.2.2.2.1) = true then (if 0 ≤ (wrap64 (t22 + 1)) ∧ (wrap64 (t22 + 1)) < ((t23.2.2.2.2.2.1.set t22.toNat t22).length : Int) then (((t23.2.2.2.2.2.1.set t22.toNat t22)[(wrap64 (t22 + 1)).toNat]?).bind fun e5 => if 0 ≤ t22 ∧ t22 < ((t23.2.2.2.2.2.1.set t22.toNat t22).length : Int) then (((t23.2.2.2.2.2.1.set t22.toNat t22)[t22.toNat]?).bind fun e6 => j4 k t21 t22 (t23.1, t23.2.1, t23.2.2.1, t23.2.2.2.1, t23.2.2.2.2.1, (t23.2.2.2.2.2.1.set t22.toNat t22).set t22.toNat e5, t23.2.2.2.2.2.2.1, t23.2.2.2.2.2.2.2)) else none) else none) else (j4 k t21 t22 (t23.1, t23.2.1, t23.2.2.1, t23.2.2.2.1, t23.2.2.2.2.1, t23.2.2.2.2.2.1.set t22.toNat t22, t23.2.2.2.2.2.2.1, t23.2.2.2.2.2.2.2))) else (j4 k t21 t22 (t23.1, t23.2.1, t23.2.2.1, t23.2.2.2.1, t23.2.2.2.2.1, t23.2.2.2.2.2.1.set t22.toNat t22, t23.2.2.2.2.2.2.1, t23.2.2.2.2.2.2.2))) else (j4 k t21 t22 (t23.1, t23.2.1, t23.2.2.1, t23.2.2.2.1, t23.2.2.2.2.1, t23.2.2.2.2.2.1.set t22.toNat t22, t23.2.2.2.2.2.2.1, t23.2.2.2.2.2.2.2))) else none) else (some (some t23, 0))
def j3 : Nat → (List api_Item) → Int → Int → Int → Int → Int → (List api_Item) → Int → Int → measure_Para → Option A4
 | 0, _, _, _, _, _, _, _, _, _, _ => none
 | k + 1, t24, t25, t26, t27, t28, t29, t30, t31, t32, t33 => (items_Legal.f k t24 t29).bind fun r3 => if r3 = true then (if (t33.2.2.2.2.2.2.2.length + ([t29] : List Int).length) * 8 ≤ 140737488355328 then (l0 k t24 t25 t26 t27 t28 t30 t31 (wrap64 (t32 + 1)) (t33.1, t33.2.1, t33.2.2.1, t33.2.2.2.1, t33.2.2.2.2.1, t33.2.2.2.2.2.1, t33.2.2.2.2.2.2.1, t33.2.2.2.2.2.2.2 ++ ([t29] : List Int))) else none) else (l0 k t24 t25 t26 t27 t28 t30 t31 (wrap64 (t32 + 1)) t33)
def j4 : Nat → (List api_Item) → Int → measure_Para → Option A4
 | 0, _, _, _ => none
 | k + 1, t34, t35, t36 => l2 k t34 (wrap64 (t35 - 1)) t36
end
def f (k : Nat) (a0 : (List api_Item)) : Option A4 := (items_Right.f k a0).bind fun r => if (!decide (r = 0)) = true then (some (none, r)) else (if (([] : List api_Item).length + a0.length) * 72 ≤ 140737488355328 then (l0 k a0 0 0 0 0 a0 (a0.length : Int) 0 (([] : List api_Item) ++ a0, ([] : List Int), ([] : List Int), ([] : List Int), ([] : List Int), ([] : List Int), 0, ([] : List Int))) else none)
def sig (k : Nat) : Sig := .p [(false, y28)] [.o y36, .c false (.i .i64)] fun x => f k x.1
def E (k : Nat) : List (Nat × Sig) := [(44, items_Right.sig k), (45, items_Legal.sig k), (46, items_Forced.sig k)]
noncomputable def d : FD := ⟨15, Tryz.f15, 216, 242, [(23, 216, 8), (11, 224, 9), (13, 233, 9)], [], [], [], [.tmp 2, .tmp 3], .s .n (.s .n (.s .n (.s .n (.s (.s .n (.s (.l 0 (.s .n (.s .n (.s (.s (.s .n (.s .n (.j 1 .n (.j 3 .n .n)))) .n) .n)))) .n)) (.s .n (.s .n (.s .n (.s (.s .n (.s (.l 2 (.s .n (.j 4 .n .n))) .n)) .n))))))))⟩
abbrev s0 : Sh := [(0, .v y28), (5, .at_ 216), (6, .v (.i .i64)), (7, .v (.i .i64)), (8, .v (.i .i64)), (9, .v (.i .i64)), (24, .v y28), (25, .v (.i .i64)), (26, .v (.i .i64)), (216, .box y36)]
abbrev s1 : Sh := [(0, .v y28), (5, .at_ 216), (6, .v (.i .i64)), (7, .v (.i .i64)), (8, .v (.i .i64)), (9, .v (.i .i64)), (10, .v (.i .i64)), (11, .at_ 224), (24, .v y28), (25, .v (.i .i64)), (26, .v (.i .i64)), (216, .box y36), (224, .box y27)]
abbrev s2 : Sh := [(0, .v y28), (5, .at_ 216), (12, .v (.i .i64)), (216, .box y36)]
abbrev s3 : Sh := [(0, .v y28), (5, .at_ 216), (6, .v (.i .i64)), (7, .v (.i .i64)), (8, .v (.i .i64)), (9, .v (.i .i64)), (10, .v (.i .i64)), (24, .v y28), (25, .v (.i .i64)), (26, .v (.i .i64)), (216, .box y36)]
abbrev s4 : Sh := [(0, .v y28), (5, .at_ 216), (12, .v (.i .i64)), (216, .box y36)]
def O (k : Nat) : List (Orc (denR ([.o y36, .c false (.i .i64)]))) := [⟨s0, fun y => l0 k y.1 y.2.2.1 y.2.2.2.1 y.2.2.2.2.1 y.2.2.2.2.2.1 y.2.2.2.2.2.2.1 y.2.2.2.2.2.2.2.1 y.2.2.2.2.2.2.2.2.1 y.2.2.2.2.2.2.2.2.2.1⟩, ⟨s1, fun y => j1 k y.1 y.2.2.1 y.2.2.2.1 y.2.2.2.2.1 y.2.2.2.2.2.1 y.2.2.2.2.2.2.1 y.2.2.2.2.2.2.2.2.1 y.2.2.2.2.2.2.2.2.2.1 y.2.2.2.2.2.2.2.2.2.2.1 y.2.2.2.2.2.2.2.2.2.2.2.1 y.2.2.2.2.2.2.2.2.2.2.2.2.1⟩, ⟨s2, fun y => l2 k y.1 y.2.2.1 y.2.2.2.1⟩, ⟨s3, fun y => j3 k y.1 y.2.2.1 y.2.2.2.1 y.2.2.2.2.1 y.2.2.2.2.2.1 y.2.2.2.2.2.2.1 y.2.2.2.2.2.2.2.1 y.2.2.2.2.2.2.2.2.1 y.2.2.2.2.2.2.2.2.2.1 y.2.2.2.2.2.2.2.2.2.2.1⟩, ⟨s4, fun y => j4 k y.1 y.2.2.1 y.2.2.2.1⟩]
theorem e3 (k : Nat) (y : denS s3) : j3 (k + 1) y.1 y.2.2.1 y.2.2.2.1 y.2.2.2.2.1 y.2.2.2.2.2.1 y.2.2.2.2.2.2.1 y.2.2.2.2.2.2.2.1 y.2.2.2.2.2.2.2.2.1 y.2.2.2.2.2.2.2.2.2.1 y.2.2.2.2.2.2.2.2.2.2.1 = SS.ev d E O k [1, 1, 1, 1, 0, 1, 0, 0, 1, 1, 0, 0, 1, 1, 1, 1] s3 y := by rw [j3]; kernel_rfl
theorem e1 (k : Nat) (y : denS s1) : j1 (k + 1) y.1 y.2.2.1 y.2.2.2.1 y.2.2.2.2.1 y.2.2.2.2.2.1 y.2.2.2.2.2.2.1 y.2.2.2.2.2.2.2.2.1 y.2.2.2.2.2.2.2.2.2.1 y.2.2.2.2.2.2.2.2.2.2.1 y.2.2.2.2.2.2.2.2.2.2.2.1 y.2.2.2.2.2.2.2.2.2.2.2.2.1 = SS.ev d E O k [1, 1, 1, 1, 0, 1, 0, 0, 1, 1, 0, 0, 1, 1, 1] s1 y := by rw [j1]; kernel_rfl
theorem e0 (k : Nat) (y : denS s0) : l0 (k + 1) y.1 y.2.2.1 y.2.2.2.1 y.2.2.2.2.1 y.2.2.2.2.2.1 y.2.2.2.2.2.2.1 y.2.2.2.2.2.2.2.1 y.2.2.2.2.2.2.2.2.1 y.2.2.2.2.2.2.2.2.2.1 = SS.ev d E O k [1, 1, 1, 1, 0, 1, 0, 0] s0 y := by rw [l0]; kernel_rfl
theorem e4 (k : Nat) (y : denS s4) : j4 (k + 1) y.1 y.2.2.1 y.2.2.2.1 = SS.ev d E O k [1, 1, 1, 1, 1, 1, 1, 1, 0, 1, 0, 0, 1, 1] s4 y := by rw [j4]; kernel_rfl
theorem e2 (k : Nat) (y : denS s2) : l2 (k + 1) y.1 y.2.2.1 y.2.2.2.1 = SS.ev d E O k [1, 1, 1, 1, 1, 1, 1, 1, 0, 1, 0, 0] s2 y := by rw [l2]; kernel_rfl
theorem ok (k : Nat) : EnvOk Tryz.prog (15, sig k) := fnP SS d E O sig (fun _ => rfl) Tryz.func15 (by kernel_rfl) rfl (fun k => ⟨items_Right.ok k, items_Legal.ok k, items_Forced.ok k, trivial⟩) ⟨fun _ => rfl, fun _ => rfl, fun _ => rfl, fun _ => rfl, fun _ => rfl, trivial⟩ (by kernel_rfl) (fun k => pc 3 rfl (e3 k) <| pc 1 rfl (e1 k) <| pc 0 rfl (e0 k) <| pc 4 rfl (e4 k) <| pc 2 rfl (e2 k) <| pn) (fun k x => by kernel_rfl) k
end measure_New
namespace measure_Para_Item
mutual
def j0 : Nat → measure_Para → Int → api_Item → Option api_Item
 | 0, _, _, _ => none
 | k + 1, p, k_, t => (at? p.1 k_).bind fun e => some e
end
def f (k : Nat) (a0 : measure_Para) (a1 : Int) : Option api_Item := if (decide (a1 < 0)) = true then (some (0, 0, 0, 0, (false), 0, (false), 0, 0)) else (if (decide ((a0.1.length : Int) ≤ a1)) = true then (some (0, 0, 0, 0, (false), 0, (false), 0, 0)) else (j0 k a0 a1 (0, 0, 0, 0, (false), 0, (false), 0, 0)))
def sig (k : Nat) : Sig := .p [(false, y45), (false, (.i .i64))] [.c true y27] fun x => f k x.1 x.2.1
def E (k : Nat) : List (Nat × Sig) := []
noncomputable def d : FD := ⟨52, Tryz.f52, 24, 33, [(4, 24, 9)], [], [], [], [.cell 4 63], .s .n (.j 0 .n .n)⟩
abbrev s0 : Sh := [(0, .v y45), (1, .v (.i .i64)), (4, .at_ 24), (24, .box y27)]
def O (k : Nat) : List (Orc (denR ([.c true y27]))) := [⟨s0, fun y => j0 k y.1 y.2.1 y.2.2.2.1⟩]
theorem e0 (k : Nat) (y : denS s0) : j0 (k + 1) y.1 y.2.1 y.2.2.2.1 = SS.ev d E O k [1, 1] s0 y := by rw [j0]; kernel_rfl
theorem ok (k : Nat) : EnvOk Tryz.prog (52, sig k) := fnP SS d E O sig (fun _ => rfl) Tryz.func52 (by kernel_rfl) rfl (fun k => trivial) ⟨fun _ => rfl, trivial⟩ (by kernel_rfl) (fun k => pc 0 rfl (e0 k) <| pn) (fun k x => by kernel_rfl) k
end measure_Para_Item
namespace measure_Para_Start
def f (k : Nat) (a0 : measure_Para) (a1 : Int) : Option Int := if (decide (a1 < 0)) = true then (some 0) else (if (decide ((wrap64 ((a0.1.length : Int) - 1)) ≤ a1)) = true then (some (a0.1.length : Int)) else ((at? a0.2.2.2.2.2.1 (wrap64 (a1 + 1))).bind fun e => some e))
def sig (k : Nat) : Sig := .p [(false, y45), (false, (.i .i64))] [.c false (.i .i64)] fun x => f k x.1 x.2.1
def E (k : Nat) : List (Nat × Sig) := []
noncomputable def d : FD := ⟨55, Tryz.f55, 30, 30, [], [], [], [], [.tmp 4], .n⟩
def O (k : Nat) : List (Orc (denR ([.c false (.i .i64)]))) := []
theorem ok (k : Nat) : EnvOk Tryz.prog (55, sig k) := fnP SS d E O sig (fun _ => rfl) Tryz.func55 (by kernel_rfl) rfl (fun k => trivial) trivial (by kernel_rfl) (fun _ => pn) (fun k x => by kernel_rfl) k
end measure_Para_Start
namespace lines_Cuts
mutual
def l0 : Nat → measure_Para → (List Int) → Int → (List Int) → (List Int) → Int → Int → Option (List Int)
 | 0, _, _, _, _, _, _, _ => none
 | k + 1, p, list, size, out, t, t2, t3 => if (decide (t3 < t2)) = true then ((at? t t3).bind fun e => if (decide (t3 = (wrap64 ((list.length : Int) - 1)))) = true then (if (out.length + ([size] : List Int).length) * 8 ≤ 140737488355328 then (some (out ++ ([size] : List Int))) else none) else ((measure_Para_Start.f k p e).bind fun r => (at? list (wrap64 (t3 + 1))).bind fun e2 => (measure_Para_Item.f k p (if e2 < r then e2 else r)).bind fun r2 => if (out.length + ([(if r2.2.2.2.2.2.2.2.1 < size then r2.2.2.2.2.2.2.2.1 else size)] : List Int).length) * 8 ≤ 140737488355328 then (l0 k p list size (out ++ ([(if r2.2.2.2.2.2.2.2.1 < size then r2.2.2.2.2.2.2.2.1 else size)] : List Int)) t t2 (wrap64 (t3 + 1))) else none)) else (some out)
end
def f (k : Nat) (a0 : measure_Para) (a1 : (List Int)) (a2 : Int) : Option (List Int) := l0 k a0 a1 a2 ([] : List Int) a1 (a1.length : Int) 0
def sig (k : Nat) : Sig := .p [(false, y45), (false, y37), (false, (.i .i64))] [.c false y10] fun x => f k x.1 x.2.1 x.2.2.1
def E (k : Nat) : List (Nat × Sig) := [(52, measure_Para_Item.sig k), (55, measure_Para_Start.sig k)]
noncomputable def d : FD := ⟨19, Tryz.f19, 45, 45, [], [], [], [], [.tmp 6], .s .n (.s .n (.s (.s .n (.s (.l 0 .n) .n)) .n))⟩
abbrev s0 : Sh := [(0, .v y45), (1, .v y37), (2, .v (.i .i64)), (7, .v y10), (10, .v y37), (11, .v (.i .i64)), (12, .v (.i .i64))]
def O (k : Nat) : List (Orc (denR ([.c false y10]))) := [⟨s0, fun y => l0 k y.1 y.2.1 y.2.2.1 y.2.2.2.1 y.2.2.2.2.1 y.2.2.2.2.2.1 y.2.2.2.2.2.2.1⟩]
theorem e0 (k : Nat) (y : denS s0) : l0 (k + 1) y.1 y.2.1 y.2.2.1 y.2.2.2.1 y.2.2.2.2.1 y.2.2.2.2.2.1 y.2.2.2.2.2.2.1 = SS.ev d E O k [1, 1, 0, 1, 0, 0] s0 y := by rw [l0]; kernel_rfl
theorem ok (k : Nat) : EnvOk Tryz.prog (19, sig k) := fnP SS d E O sig (fun _ => rfl) Tryz.func19 (by kernel_rfl) rfl (fun k => ⟨measure_Para_Item.ok k, measure_Para_Start.ok k, trivial⟩) ⟨fun _ => rfl, trivial⟩ (by kernel_rfl) (fun k => pc 0 rfl (e0 k) <| pn) (fun k x => by kernel_rfl) k
end lines_Cuts
namespace scaled_Clamp
def f (k : Nat) (a0 : Int) : Option Int := some (if (-1152921504606846976) < (if a0 < 1152921504606846976 then a0 else 1152921504606846976) then (if a0 < 1152921504606846976 then a0 else 1152921504606846976) else (-1152921504606846976))
def sig (k : Nat) : Sig := .p [(false, (.i .i64))] [.c false (.i .i64)] fun x => f k x.1
def E (k : Nat) : List (Nat × Sig) := []
noncomputable def d : FD := ⟨125, Tryz.f125, 6, 6, [], [], [], [], [.tmp 2], .n⟩
def O (k : Nat) : List (Orc (denR ([.c false (.i .i64)]))) := []
theorem ok (k : Nat) : EnvOk Tryz.prog (125, sig k) := fnP SS d E O sig (fun _ => rfl) Tryz.func125 (by kernel_rfl) rfl (fun k => trivial) trivial (by kernel_rfl) (fun _ => pn) (fun k x => by kernel_rfl) k
end scaled_Clamp
namespace bits_Mul64
def f (k : Nat) (a0 : Int) (a1 : Int) : Option (Int × Int) := some (IntKind.u64.wrap ((IntKind.u64.wrap ((IntKind.u64.wrap ((shrI .u64 a0 (32 : Int)) * (shrI .u64 a1 (32 : Int)))) + (shrI .u64 (IntKind.u64.wrap ((IntKind.u64.wrap ((shrI .u64 a0 (32 : Int)) * (andI .u64 a1 (4294967295 : Int)))) + (shrI .u64 (IntKind.u64.wrap ((andI .u64 a0 (4294967295 : Int)) * (andI .u64 a1 (4294967295 : Int)))) (32 : Int)))) (32 : Int)))) + (shrI .u64 (IntKind.u64.wrap ((andI .u64 (IntKind.u64.wrap ((IntKind.u64.wrap ((shrI .u64 a0 (32 : Int)) * (andI .u64 a1 (4294967295 : Int)))) + (shrI .u64 (IntKind.u64.wrap ((andI .u64 a0 (4294967295 : Int)) * (andI .u64 a1 (4294967295 : Int)))) (32 : Int)))) (4294967295 : Int)) + (IntKind.u64.wrap ((andI .u64 a0 (4294967295 : Int)) * (shrI .u64 a1 (32 : Int)))))) (32 : Int))), IntKind.u64.wrap (a0 * a1))
def sig (k : Nat) : Sig := .p [(false, (.i .u64)), (false, (.i .u64))] [.c false (.i .u64), .c false (.i .u64)] fun x => f k x.1 x.2.1
def E (k : Nat) : List (Nat × Sig) := []
noncomputable def d : FD := ⟨133, Tryz.f133, 51, 51, [], [], [], [], [.tmp 4, .tmp 5], .n⟩
def O (k : Nat) : List (Orc (denR ([.c false (.i .u64), .c false (.i .u64)]))) := []
theorem ok (k : Nat) : EnvOk Tryz.prog (133, sig k) := fnP SS d E O sig (fun _ => rfl) Tryz.func133 (by kernel_rfl) rfl (fun k => trivial) trivial (by kernel_rfl) (fun _ => pn) (fun k x => by kernel_rfl) k
end bits_Mul64
namespace scaled_product
def f (k : Nat) (a0 : Int) (a1 : Int) : Option regletref08_Sum := (bits_Mul64.f k a0 a1).bind fun r => some (r.2, r.1, 0, 0)
def sig (k : Nat) : Sig := .p [(false, (.i .u64)), (false, (.i .u64))] [.c true y48] fun x => f k x.1 x.2.1
def E (k : Nat) : List (Nat × Sig) := [(133, bits_Mul64.sig k)]
noncomputable def d : FD := ⟨126, Tryz.f126, 16, 20, [(4, 16, 4)], [], [], [], [.cell 4 184], .n⟩
def O (k : Nat) : List (Orc (denR ([.c true y48]))) := []
theorem ok (k : Nat) : EnvOk Tryz.prog (126, sig k) := fnP SS d E O sig (fun _ => rfl) Tryz.func126 (by kernel_rfl) rfl (fun k => ⟨bits_Mul64.ok k, trivial⟩) trivial (by kernel_rfl) (fun _ => pn) (fun k x => by kernel_rfl) k
end scaled_product
namespace scaled_wide_times
mutual
def l0 : Nat → Int → Int → regletref08_Sum → Int → regletref08_Sum → regletref08_Sum → Option regletref08_Sum
 | 0, _, _, _, _, _, _ => none
 | k + 1, by_, carry, t, t2, t3, out => if (decide (t2 < 4)) = true then ((at? ([t.1, t.2.1, t.2.2.1, t.2.2.2] : List Int) t2).bind fun e => (bits_Mul64.f k e by_).bind fun r => if 0 ≤ r.2 ∧ 0 ≤ carry ∧ 0 ≤ (0 : Int) ∧ (0 : Int) ≤ 1 then (if 0 ≤ t2 ∧ t2 < (4 : Int) then (if t2.toNat < 4 then (l0 k by_ (IntKind.u64.wrap (r.1 + ((r.2 + carry + (0 : Int)) / 18446744073709551616))) t (wrap64 (t2 + 1)) t3 ((if t2.toNat = 0 then ((r.2 + carry + (0 : Int)) % 18446744073709551616) else out.1), (if t2.toNat = 1 then ((r.2 + carry + (0 : Int)) % 18446744073709551616) else out.2.1), (if t2.toNat = 2 then ((r.2 + carry + (0 : Int)) % 18446744073709551616) else out.2.2.1), (if t2.toNat = 3 then ((r.2 + carry + (0 : Int)) % 18446744073709551616) else out.2.2.2))) else none) else none) else none) else (some out)
end
def f (k : Nat) (a0 : regletref08_Sum) (a1 : Int) : Option regletref08_Sum := l0 k a1 0 a0 0 (0, 0, 0, 0) (0, 0, 0, 0)
def sig (k : Nat) : Sig := .p [(true, y48), (false, (.i .u64))] [.c true y48] fun x => f k x.1 x.2.1
def E (k : Nat) : List (Nat × Sig) := [(133, bits_Mul64.sig k)]
noncomputable def d : FD := ⟨127, Tryz.f127, 38, 50, [(2, 38, 4), (4, 42, 4), (5, 46, 4)], [], [], [], [.cell 4 184], .s .n (.s .n (.s .n (.s (.s .n (.s (.l 0 .n) .n)) .n)))⟩
abbrev s0 : Sh := [(1, .v (.i .u64)), (4, .at_ 42), (5, .at_ 46), (6, .v (.i .u64)), (13, .agg y48), (14, .v (.i .i64)), (42, .box y48), (46, .box y48)]
def O (k : Nat) : List (Orc (denR ([.c true y48]))) := [⟨s0, fun y => l0 k y.1 y.2.2.2.1 y.2.2.2.2.1 y.2.2.2.2.2.1 y.2.2.2.2.2.2.1 y.2.2.2.2.2.2.2.1⟩]
theorem e0 (k : Nat) (y : denS s0) : l0 (k + 1) y.1 y.2.2.2.1 y.2.2.2.2.1 y.2.2.2.2.2.1 y.2.2.2.2.2.2.1 y.2.2.2.2.2.2.2.1 = SS.ev d E O k [1, 1, 1, 0, 1, 0, 0] s0 y := by rw [l0]; kernel_rfl
theorem ok (k : Nat) : EnvOk Tryz.prog (127, sig k) := fnP SS d E O sig (fun _ => rfl) Tryz.func127 (by kernel_rfl) rfl (fun k => ⟨bits_Mul64.ok k, trivial⟩) ⟨fun _ => rfl, trivial⟩ (by kernel_rfl) (fun k => pc 0 rfl (e0 k) <| pn) (fun k x => by kernel_rfl) k
end scaled_wide_times
namespace scaled_smaller
mutual
def l0 : Nat → Int → regletref08_Sum → regletref08_Sum → Option Bool
 | 0, _, _, _ => none
 | k + 1, i, a, b => if (decide (0 ≤ i)) = true then (if 0 ≤ i ∧ i < (4 : Int) then ((([a.1, a.2.1, a.2.2.1, a.2.2.2] : List Int)[i.toNat]?).bind fun e => if 0 ≤ i ∧ i < (4 : Int) then ((([b.1, b.2.1, b.2.2.1, b.2.2.2] : List Int)[i.toNat]?).bind fun e2 => if (!decide (e = e2)) = true then (if 0 ≤ i ∧ i < (4 : Int) then ((([a.1, a.2.1, a.2.2.1, a.2.2.2] : List Int)[i.toNat]?).bind fun e3 => if 0 ≤ i ∧ i < (4 : Int) then ((([b.1, b.2.1, b.2.2.1, b.2.2.2] : List Int)[i.toNat]?).bind fun e4 => some (decide (e3 < e4))) else none) else none) else (l0 k (wrap64 (i - 1)) a b)) else none) else none) else (some false)
end
def f (k : Nat) (a0 : regletref08_Sum) (a1 : regletref08_Sum) : Option Bool := l0 k 3 a0 a1
def sig (k : Nat) : Sig := .p [(true, y48), (true, y48)] [.c false .b] fun x => f k x.1 x.2.1
def E (k : Nat) : List (Nat × Sig) := []
noncomputable def d : FD := ⟨128, Tryz.f128, 24, 32, [(2, 24, 4), (3, 28, 4)], [], [], [], [.tmp 4], .s .n (.s (.s .n (.s (.l 0 .n) .n)) .n)⟩
abbrev s0 : Sh := [(2, .at_ 24), (3, .at_ 28), (5, .v (.i .i64)), (24, .box y48), (28, .box y48)]
def O (k : Nat) : List (Orc (denR ([.c false .b]))) := [⟨s0, fun y => l0 k y.2.2.1 y.2.2.2.1 y.2.2.2.2.1⟩]
theorem e0 (k : Nat) (y : denS s0) : l0 (k + 1) y.2.2.1 y.2.2.2.1 y.2.2.2.2.1 = SS.ev d E O k [1, 0, 1, 0, 0] s0 y := by rw [l0]; kernel_rfl
theorem ok (k : Nat) : EnvOk Tryz.prog (128, sig k) := fnP SS d E O sig (fun _ => rfl) Tryz.func128 (by kernel_rfl) rfl (fun k => trivial) ⟨fun _ => rfl, trivial⟩ (by kernel_rfl) (fun k => pc 0 rfl (e0 k) <| pn) (fun k x => by kernel_rfl) k
end scaled_smaller
namespace scaled_Bad
mutual
def j0 : Nat → Int → Int → Option Int
 | 0, _, _ => none
 | k + 1, t, s => (scaled_product.f k (IntKind.u64.wrap (t)) (IntKind.u64.wrap (t))).bind fun r3 => (scaled_wide_times.f k r3 (IntKind.u64.wrap (t))).bind fun r4 => (scaled_wide_times.f k r4 100).bind fun r5 => (scaled_product.f k (IntKind.u64.wrap (s)) (IntKind.u64.wrap (s))).bind fun r6 => (scaled_wide_times.f k r6 (IntKind.u64.wrap (s))).bind fun r7 => l1 k 0 10000 r5 r7
def l1 : Nat → Int → Int → regletref08_Sum → regletref08_Sum → Option Int
 | 0, _, _, _, _ => none
 | k + 1, low, high, left, cube => if (decide (low < high)) = true then ((scaled_wide_times.f k cube (IntKind.u64.wrap (wrap64 ((wrap64 ((wrap64 (low + high)) + 1)).tdiv 2)))).bind fun r8 => (scaled_smaller.f k left r8).bind fun r9 => if r9 = true then (l1 k low (wrap64 ((wrap64 ((wrap64 ((wrap64 (low + high)) + 1)).tdiv 2)) - 1)) left cube) else (l1 k (wrap64 ((wrap64 ((wrap64 (low + high)) + 1)).tdiv 2)) high left cube)) else (some low)
end
def f (k : Nat) (a0 : Int) (a1 : Int) : Option Int := (scaled_Clamp.f k a0).bind fun r => (scaled_Clamp.f k a1).bind fun r2 => if (decide (r ≤ 0)) = true then (some 0) else (if (decide (r2 ≤ 0)) = true then (some 10000) else (if r2 ≠ 0 then (if (decide (5 ≤ (wrap64 (r.tdiv r2)))) = true then (some 10000) else (j0 k r r2)) else none))
def sig (k : Nat) : Sig := .p [(false, (.i .i64)), (false, (.i .i64))] [.c false (.i .i64)] fun x => f k x.1 x.2.1
def E (k : Nat) : List (Nat × Sig) := [(125, scaled_Clamp.sig k), (126, scaled_product.sig k), (127, scaled_wide_times.sig k), (128, scaled_smaller.sig k)]
noncomputable def d : FD := ⟨107, Tryz.f107, 59, 67, [(5, 59, 4), (6, 63, 4)], [], [], [], [.tmp 4], .s .n (.s .n (.s .n (.j 0 .n (.s .n (.s .n (.s .n (.s (.s (.l 1 .n) .n) .n)))))))⟩
abbrev s0 : Sh := [(0, .v (.i .i64)), (1, .v (.i .i64))]
abbrev s1 : Sh := [(5, .at_ 59), (6, .at_ 63), (7, .v (.i .i64)), (8, .v (.i .i64)), (59, .box y48), (63, .box y48)]
def O (k : Nat) : List (Orc (denR ([.c false (.i .i64)]))) := [⟨s0, fun y => j0 k y.1 y.2.1⟩, ⟨s1, fun y => l1 k y.2.2.1 y.2.2.2.1 y.2.2.2.2.1 y.2.2.2.2.2.1⟩]
theorem e1 (k : Nat) (y : denS s1) : l1 (k + 1) y.2.2.1 y.2.2.2.1 y.2.2.2.2.1 y.2.2.2.2.2.1 = SS.ev d E O k [1, 1, 1, 1, 1, 1, 1, 0, 0, 0] s1 y := by rw [l1]; kernel_rfl
theorem e0 (k : Nat) (y : denS s0) : j0 (k + 1) y.1 y.2.1 = SS.ev d E O k [1, 1, 1, 1] s0 y := by rw [j0]; kernel_rfl
theorem ok (k : Nat) : EnvOk Tryz.prog (107, sig k) := fnP SS d E O sig (fun _ => rfl) Tryz.func107 (by kernel_rfl) rfl (fun k => ⟨scaled_Clamp.ok k, scaled_product.ok k, scaled_wide_times.ok k, scaled_smaller.ok k, trivial⟩) ⟨fun _ => rfl, fun _ => rfl, trivial⟩ (by kernel_rfl) (fun k => pc 1 rfl (e1 k) <| pc 0 rfl (e0 k) <| pn) (fun k x => by kernel_rfl) k
end scaled_Bad
namespace scaled_size
def f (k : Nat) (a0 : Int) : Option Int := (scaled_Clamp.f k a0).bind fun r => if (decide (r < 0)) = true then (some (IntKind.u64.wrap (wrap64 (-r)))) else (some (IntKind.u64.wrap (r)))
def sig (k : Nat) : Sig := .p [(false, (.i .i64))] [.c false (.i .u64)] fun x => f k x.1
def E (k : Nat) : List (Nat × Sig) := [(125, scaled_Clamp.sig k)]
noncomputable def d : FD := ⟨135, Tryz.f135, 12, 12, [], [], [], [], [.tmp 2], .n⟩
def O (k : Nat) : List (Orc (denR ([.c false (.i .u64)]))) := []
theorem ok (k : Nat) : EnvOk Tryz.prog (135, sig k) := fnP SS d E O sig (fun _ => rfl) Tryz.func135 (by kernel_rfl) rfl (fun k => ⟨scaled_Clamp.ok k, trivial⟩) trivial (by kernel_rfl) (fun _ => pn) (fun k x => by kernel_rfl) k
end scaled_size
namespace scaled_Gcd
mutual
def l0 : Nat → Int → Int → Option Int
 | 0, _, _ => none
 | k + 1, x, y => if (decide (0 < y)) = true then (if y ≠ 0 then (l0 k y (x.tmod y)) else none) else (some (wrap64 (x)))
end
def f (k : Nat) (a0 : Int) (a1 : Int) : Option Int := (scaled_size.f k a0).bind fun r => (scaled_size.f k a1).bind fun r2 => l0 k r r2
def sig (k : Nat) : Sig := .p [(false, (.i .i64)), (false, (.i .i64))] [.c false (.i .i64)] fun x => f k x.1 x.2.1
def E (k : Nat) : List (Nat × Sig) := [(135, scaled_size.sig k)]
noncomputable def d : FD := ⟨129, Tryz.f129, 19, 19, [], [], [], [], [.tmp 4], .s .n (.s .n (.s (.s (.l 0 .n) .n) .n))⟩
abbrev s0 : Sh := [(5, .v (.i .u64)), (6, .v (.i .u64))]
def O (k : Nat) : List (Orc (denR ([.c false (.i .i64)]))) := [⟨s0, fun y => l0 k y.1 y.2.1⟩]
theorem e0 (k : Nat) (y : denS s0) : l0 (k + 1) y.1 y.2.1 = SS.ev d E O k [1, 1, 0, 0, 0] s0 y := by rw [l0]; kernel_rfl
theorem ok (k : Nat) : EnvOk Tryz.prog (129, sig k) := fnP SS d E O sig (fun _ => rfl) Tryz.func129 (by kernel_rfl) rfl (fun k => ⟨scaled_size.ok k, trivial⟩) ⟨fun _ => rfl, trivial⟩ (by kernel_rfl) (fun k => pc 0 rfl (e0 k) <| pn) (fun k x => by kernel_rfl) k
end scaled_Gcd
namespace scaled_Lowest
mutual
def j0 : Nat → Int → Int → Option (Int × Int)
 | 0, _, _ => none
 | k + 1, a, b => (scaled_Gcd.f k a b).bind fun r3 => if r3 ≠ 0 then (if r3 ≠ 0 then (some (wrap64 (a.tdiv r3), wrap64 (b.tdiv r3))) else none) else none
end
def f (k : Nat) (a0 : Int) (a1 : Int) : Option (Int × Int) := (scaled_Clamp.f k a0).bind fun r => (scaled_Clamp.f k a1).bind fun r2 => if (decide (r2 = 0)) = true then (some (0, 1)) else (if (decide (r2 < 0)) = true then (j0 k (wrap64 (-r)) (wrap64 (-r2))) else (j0 k r r2))
def sig (k : Nat) : Sig := .p [(false, (.i .i64)), (false, (.i .i64))] [.c false (.i .i64), .c false (.i .i64)] fun x => f k x.1 x.2.1
def E (k : Nat) : List (Nat × Sig) := [(125, scaled_Clamp.sig k), (129, scaled_Gcd.sig k)]
noncomputable def d : FD := ⟨108, Tryz.f108, 28, 28, [], [], [], [], [.tmp 4, .tmp 5], .s .n (.s .n (.s .n (.j 0 .n .n)))⟩
abbrev s0 : Sh := [(0, .v (.i .i64)), (1, .v (.i .i64))]
def O (k : Nat) : List (Orc (denR ([.c false (.i .i64), .c false (.i .i64)]))) := [⟨s0, fun y => j0 k y.1 y.2.1⟩]
theorem e0 (k : Nat) (y : denS s0) : j0 (k + 1) y.1 y.2.1 = SS.ev d E O k [1, 1, 1, 1] s0 y := by rw [j0]; kernel_rfl
theorem ok (k : Nat) : EnvOk Tryz.prog (108, sig k) := fnP SS d E O sig (fun _ => rfl) Tryz.func108 (by kernel_rfl) rfl (fun k => ⟨scaled_Clamp.ok k, scaled_Gcd.ok k, trivial⟩) ⟨fun _ => rfl, trivial⟩ (by kernel_rfl) (fun k => pc 0 rfl (e0 k) <| pn) (fun k x => by kernel_rfl) k
end scaled_Lowest
namespace measure_Set
mutual
def j0 : Nat → Int → regletref08_Sum → api_Fit → api_Fit → Option api_Fit
 | 0, _, _, _, _ => none
 | k + 1, t, t2, t3, t4 => (scaled_Lowest.f k t t2.2.1).bind fun r5 => if (decide (12 < t4.2.2.1)) = true then (j3 k t3 (r5.1, r5.2, t4.2.2.1, 2, t4.2.2.2.2)) else (j3 k t3 (r5.1, r5.2, t4.2.2.1, t4.2.2.2.1, t4.2.2.2.2))
def j1 : Nat → regletref08_Sum → api_Fit → api_Fit → Option api_Fit
 | 0, _, _, _ => none
 | k + 1, t5, t6, t7 => if (decide (0 < t5.2.2.1)) = true then (some ((-1), t7.2.1, t7.2.2.1, t7.2.2.2.1, t7.2.2.2.2)) else (some t7)
def j2 : Nat → Int → regletref08_Sum → api_Fit → Option api_Fit
 | 0, _, _, _ => none
 | k + 1, t8, t9, t10 => (scaled_Bad.f k (wrap64 (-t8)) t9.2.2.1).bind fun r6 => (scaled_Lowest.f k t8 t9.2.2.1).bind fun r7 => if (decide (12 < r6)) = true then (some (r7.1, r7.2, r6, 0, (false))) else (some (r7.1, r7.2, r6, 1, (false)))
def j3 : Nat → api_Fit → api_Fit → Option api_Fit
 | 0, _, _ => none
 | k + 1, t11, t12 => if (decide (99 < t12.2.2.1)) = true then (some (t12.1, t12.2.1, t12.2.2.1, 3, t12.2.2.2.2)) else (some t12)
end
def f (k : Nat) (a0 : regletref08_Sum) (a1 : Int) : Option api_Fit := if (decide ((wrap64 (a1 - a0.1)) = 0)) = true then (some (0, 1, 0, 1, (false))) else (if (decide (0 < (wrap64 (a1 - a0.1)))) = true then (if (decide (0 < a0.2.2.2)) = true then (some (0, 1, 0, 1, (false))) else (if (decide (0 < (wrap64 (a1 - a0.1)))) = true then (if (decide (a0.2.1 = 0)) = true then (some (0, 1, 10000, 3, (false))) else (if (decide (0 < (wrap64 (a1 - a0.1)))) = true then ((scaled_Bad.f k (wrap64 (a1 - a0.1)) a0.2.1).bind fun r => j0 k (wrap64 (a1 - a0.1)) a0 (0, 0, 0, 0, (false)) (0, 0, r, 1, (false))) else (if (decide (a0.2.2.1 < (wrap64 (-(wrap64 (a1 - a0.1)))))) = true then (j1 k a0 (0, 0, 0, 0, (false)) (0, 1, 10000, 0, (true))) else (j2 k (wrap64 (a1 - a0.1)) a0 (0, 0, 0, 0, (false)))))) else (if (decide (0 < (wrap64 (a1 - a0.1)))) = true then ((scaled_Bad.f k (wrap64 (a1 - a0.1)) a0.2.1).bind fun r2 => j0 k (wrap64 (a1 - a0.1)) a0 (0, 0, 0, 0, (false)) (0, 0, r2, 1, (false))) else (if (decide (a0.2.2.1 < (wrap64 (-(wrap64 (a1 - a0.1)))))) = true then (j1 k a0 (0, 0, 0, 0, (false)) (0, 1, 10000, 0, (true))) else (j2 k (wrap64 (a1 - a0.1)) a0 (0, 0, 0, 0, (false))))))) else (if (decide (0 < (wrap64 (a1 - a0.1)))) = true then (if (decide (a0.2.1 = 0)) = true then (some (0, 1, 10000, 3, (false))) else (if (decide (0 < (wrap64 (a1 - a0.1)))) = true then ((scaled_Bad.f k (wrap64 (a1 - a0.1)) a0.2.1).bind fun r3 => j0 k (wrap64 (a1 - a0.1)) a0 (0, 0, 0, 0, (false)) (0, 0, r3, 1, (false))) else (if (decide (a0.2.2.1 < (wrap64 (-(wrap64 (a1 - a0.1)))))) = true then (j1 k a0 (0, 0, 0, 0, (false)) (0, 1, 10000, 0, (true))) else (j2 k (wrap64 (a1 - a0.1)) a0 (0, 0, 0, 0, (false)))))) else (if (decide (0 < (wrap64 (a1 - a0.1)))) = true then ((scaled_Bad.f k (wrap64 (a1 - a0.1)) a0.2.1).bind fun r4 => j0 k (wrap64 (a1 - a0.1)) a0 (0, 0, 0, 0, (false)) (0, 0, r4, 1, (false))) else (if (decide (a0.2.2.1 < (wrap64 (-(wrap64 (a1 - a0.1)))))) = true then (j1 k a0 (0, 0, 0, 0, (false)) (0, 1, 10000, 0, (true))) else (j2 k (wrap64 (a1 - a0.1)) a0 (0, 0, 0, 0, (false)))))))
def sig (k : Nat) : Sig := .p [(true, y53), (false, (.i .i64))] [.c true y52] fun x => f k x.1 x.2.1
def E (k : Nat) : List (Nat × Sig) := [(107, scaled_Bad.sig k), (108, scaled_Lowest.sig k)]
noncomputable def d : FD := ⟨77, Tryz.f77, 93, 117, [(2, 93, 4), (4, 97, 5), (6, 102, 5), (7, 107, 5), (8, 112, 5)], [], [], [], [.cell 4 92], .s .n (.s .n (.j 2 (.s (.s .n (.s .n (.s .n (.s .n (.s .n (.s (.j 0 .n (.s .n (.j 3 .n .n))) (.s .n (.s (.j 1 .n .n) .n)))))))) .n) .n))⟩
abbrev s0 : Sh := [(2, .at_ 93), (4, .at_ 97), (5, .v (.i .i64)), (6, .at_ 102), (93, .box y53), (97, .box y52), (102, .box y52)]
abbrev s1 : Sh := [(2, .at_ 93), (4, .at_ 97), (7, .at_ 107), (93, .box y53), (97, .box y52), (107, .box y52)]
abbrev s2 : Sh := [(2, .at_ 93), (4, .at_ 97), (5, .v (.i .i64)), (93, .box y53), (97, .box y52)]
abbrev s3 : Sh := [(4, .at_ 97), (6, .at_ 102), (97, .box y52), (102, .box y52)]
def O (k : Nat) : List (Orc (denR ([.c true y52]))) := [⟨s0, fun y => j0 k y.2.2.1 y.2.2.2.2.1 y.2.2.2.2.2.1 y.2.2.2.2.2.2.1⟩, ⟨s1, fun y => j1 k y.2.2.2.1 y.2.2.2.2.1 y.2.2.2.2.2.1⟩, ⟨s2, fun y => j2 k y.2.2.1 y.2.2.2.1 y.2.2.2.2.1⟩, ⟨s3, fun y => j3 k y.2.2.1 y.2.2.2.1⟩]
theorem e3 (k : Nat) (y : denS s3) : j3 (k + 1) y.2.2.1 y.2.2.2.1 = SS.ev d E O k [1, 1, 0, 0, 1, 1, 1, 1, 1, 0, 1, 1, 1] s3 y := by rw [j3]; kernel_rfl
theorem e0 (k : Nat) (y : denS s0) : j0 (k + 1) y.2.2.1 y.2.2.2.2.1 y.2.2.2.2.2.1 y.2.2.2.2.2.2.1 = SS.ev d E O k [1, 1, 0, 0, 1, 1, 1, 1, 1, 0, 1] s0 y := by rw [j0]; kernel_rfl
theorem e1 (k : Nat) (y : denS s1) : j1 (k + 1) y.2.2.2.1 y.2.2.2.2.1 y.2.2.2.2.2.1 = SS.ev d E O k [1, 1, 0, 0, 1, 1, 1, 1, 1, 1, 1, 0, 1] s1 y := by rw [j1]; kernel_rfl
theorem e2 (k : Nat) (y : denS s2) : j2 (k + 1) y.2.2.1 y.2.2.2.1 y.2.2.2.2.1 = SS.ev d E O k [1, 1, 1] s2 y := by rw [j2]; kernel_rfl
theorem ok (k : Nat) : EnvOk Tryz.prog (77, sig k) := fnP SS d E O sig (fun _ => rfl) Tryz.func77 (by kernel_rfl) rfl (fun k => ⟨scaled_Bad.ok k, scaled_Lowest.ok k, trivial⟩) ⟨fun _ => rfl, fun _ => rfl, fun _ => rfl, fun _ => rfl, trivial⟩ (by kernel_rfl) (fun k => pc 3 rfl (e3 k) <| pc 0 rfl (e0 k) <| pc 1 rfl (e1 k) <| pc 2 rfl (e2 k) <| pn) (fun k x => by kernel_rfl) k
end measure_Set
namespace measure_Para_Line
mutual
def j0 : Nat → measure_Para → Int → Int → regletref08_Sum → Option regletref08_Sum
 | 0, _, _, _, _ => none
 | k + 1, t, t2, t3, t4 => (measure_Para_Start.f k t t2).bind fun r => (at? t.2.1 t3).bind fun e => (at? t.2.1 (if t3 < r then t3 else r)).bind fun e2 => (at? t.2.2.1 t3).bind fun e3 => (at? t.2.2.1 (if t3 < r then t3 else r)).bind fun e4 => (at? t.2.2.2.1 t3).bind fun e5 => (at? t.2.2.2.1 (if t3 < r then t3 else r)).bind fun e6 => (at? t.2.2.2.2.1 t3).bind fun e7 => (at? t.2.2.2.2.1 (if t3 < r then t3 else r)).bind fun e8 => (at? t.1 t3).bind fun e9 => if (decide (e9.1 = 3)) = true then ((at? t.1 t3).bind fun e10 => some (wrap64 ((wrap64 (e - e2)) + e10.2.1), wrap64 (e3 - e4), wrap64 (e5 - e6), wrap64 (e7 - e8))) else (some (wrap64 (e - e2), wrap64 (e3 - e4), wrap64 (e5 - e6), wrap64 (e7 - e8)))
end
def f (k : Nat) (a0 : measure_Para) (a1 : Int) (a2 : Int) : Option regletref08_Sum := if (decide (a2 < 0)) = true then (some (0, 0, 0, 0)) else (if (decide ((a0.1.length : Int) ≤ a2)) = true then (some (0, 0, 0, 0)) else (j0 k a0 a1 a2 (0, 0, 0, 0)))
def sig (k : Nat) : Sig := .p [(false, y45), (false, (.i .i64)), (false, (.i .i64))] [.c true y53] fun x => f k x.1 x.2.1 x.2.2.1
def E (k : Nat) : List (Nat × Sig) := [(55, measure_Para_Start.sig k)]
noncomputable def d : FD := ⟨78, Tryz.f78, 109, 117, [(6, 109, 4), (8, 113, 4)], [], [], [], [.cell 6 143], .s .n (.j 0 .n .n)⟩
abbrev s0 : Sh := [(0, .v y45), (1, .v (.i .i64)), (2, .v (.i .i64)), (6, .at_ 109), (109, .box y53)]
def O (k : Nat) : List (Orc (denR ([.c true y53]))) := [⟨s0, fun y => j0 k y.1 y.2.1 y.2.2.1 y.2.2.2.2.1⟩]
theorem e0 (k : Nat) (y : denS s0) : j0 (k + 1) y.1 y.2.1 y.2.2.1 y.2.2.2.2.1 = SS.ev d E O k [1, 1] s0 y := by rw [j0]; kernel_rfl
theorem ok (k : Nat) : EnvOk Tryz.prog (78, sig k) := fnP SS d E O sig (fun _ => rfl) Tryz.func78 (by kernel_rfl) rfl (fun k => ⟨measure_Para_Start.ok k, trivial⟩) ⟨fun _ => rfl, trivial⟩ (by kernel_rfl) (fun k => pc 0 rfl (e0 k) <| pn) (fun k x => by kernel_rfl) k
end measure_Para_Line
namespace measure_Para_Fit
def f (k : Nat) (a0 : measure_Para) (a1 : Int) (a2 : Int) (a3 : Int) : Option api_Fit := (measure_Para_Line.f k a0 a1 a2).bind fun r => (measure_Set.f k r a3).bind fun r2 => some r2
def sig (k : Nat) : Sig := .p [(false, y45), (false, (.i .i64)), (false, (.i .i64)), (false, (.i .i64))] [.c true y52] fun x => f k x.1 x.2.1 x.2.2.1 x.2.2.2.1
def E (k : Nat) : List (Nat × Sig) := [(77, measure_Set.sig k), (78, measure_Para_Line.sig k)]
noncomputable def d : FD := ⟨51, Tryz.f51, 15, 20, [(8, 15, 5)], [], [], [], [.cell 8 92], .n⟩
def O (k : Nat) : List (Orc (denR ([.c true y52]))) := []
theorem ok (k : Nat) : EnvOk Tryz.prog (51, sig k) := fnP SS d E O sig (fun _ => rfl) Tryz.func51 (by kernel_rfl) rfl (fun k => ⟨measure_Set.ok k, measure_Para_Line.ok k, trivial⟩) trivial (by kernel_rfl) (fun _ => pn) (fun k x => by kernel_rfl) k
end measure_Para_Fit
namespace lines_part
mutual
def l0 : Nat → Int → Int → (List api_Run) → Int → (List api_Run) → Int → Int → Option (List api_Run)
 | 0, _, _, _, _, _, _, _ => none
 | k + 1, t, t2, t3, t4, t5, t6, t7 => if (decide (t7 < t6)) = true then ((at? t5 t7).bind fun e => if (decide ((wrap64 ((if (wrap64 (t4 + e.1)) < t2 then (wrap64 (t4 + e.1)) else t2) - (if t < t4 then t4 else t))) ≤ 0)) = true then (l0 k t t2 t3 (wrap64 (t4 + e.1)) t5 t6 (wrap64 (t7 + 1))) else (if (decide (0 ≤ (wrap64 ((t3.length : Int) - 1)))) = true then (if 0 ≤ (wrap64 ((t3.length : Int) - 1)) ∧ (wrap64 ((t3.length : Int) - 1)) < (t3.length : Int) then ((t3[(wrap64 ((t3.length : Int) - 1)).toNat]?).bind fun e2 => if (decide (e2.2 = e.2)) = true then (if 0 ≤ (wrap64 ((t3.length : Int) - 1)) ∧ (wrap64 ((t3.length : Int) - 1)) < (t3.length : Int) then ((t3[(wrap64 ((t3.length : Int) - 1)).toNat]?).bind fun e3 => if 0 ≤ (wrap64 ((t3.length : Int) - 1)) ∧ (wrap64 ((t3.length : Int) - 1)) < (t3.length : Int) then ((t3[(wrap64 ((t3.length : Int) - 1)).toNat]?).bind fun e4 => l0 k t t2 (t3.set ((wrap64 ((t3.length : Int) - 1)).toNat) (wrap64 (e3.1 + (wrap64 ((if (wrap64 (t4 + e.1)) < t2 then (wrap64 (t4 + e.1)) else t2) - (if t < t4 then t4 else t)))), e4.2)) (wrap64 (t4 + e.1)) t5 t6 (wrap64 (t7 + 1))) else none) else none) else (j1 k t t2 t3 (wrap64 (t4 + e.1)) (wrap64 ((if (wrap64 (t4 + e.1)) < t2 then (wrap64 (t4 + e.1)) else t2) - (if t < t4 then t4 else t))) t5 t6 t7 e)) else none) else (j1 k t t2 t3 (wrap64 (t4 + e.1)) (wrap64 ((if (wrap64 (t4 + e.1)) < t2 then (wrap64 (t4 + e.1)) else t2) - (if t < t4 then t4 else t))) t5 t6 t7 e))) else (some t3)
def j1 : Nat → Int → Int → (List api_Run) → Int → Int → (List api_Run) → Int → Int → api_Run → Option (List api_Run)
 | 0, _, _, _, _, _, _, _, _, _ => none
 | k + 1, t8, t9, t10, t11, t12, t13, t14, t15, t16 => if (t10.length + ([(t12, t16.2)] : List api_Run).length) * 16 ≤ 140737488355328 then (l0 k t8 t9 (t10 ++ ([(t12, t16.2)] : List api_Run)) t11 t13 t14 (wrap64 (t15 + 1))) else none
end
def f (k : Nat) (a0 : (List api_Run)) (a1 : Int) (a2 : Int) : Option (List api_Run) := l0 k a1 a2 ([] : List api_Run) 0 a0 (a0.length : Int) 0
def sig (k : Nat) : Sig := .p [(false, y55), (false, (.i .i64)), (false, (.i .i64))] [.c false y54] fun x => f k x.1 x.2.1 x.2.2.1
def E (k : Nat) : List (Nat × Sig) := []
noncomputable def d : FD := ⟨53, Tryz.f53, 68, 70, [(10, 68, 2)], [], [], [], [.tmp 6], .s .n (.s .n (.s .n (.s (.s .n (.s (.l 0 (.s .n (.s .n (.s (.s (.s .n (.s .n (.s .n (.s .n (.j 1 .n .n))))) .n) .n)))) .n)) .n)))⟩
abbrev s0 : Sh := [(1, .v (.i .i64)), (2, .v (.i .i64)), (7, .v y54), (8, .v (.i .i64)), (13, .v y55), (14, .v (.i .i64)), (15, .v (.i .i64))]
abbrev s1 : Sh := [(1, .v (.i .i64)), (2, .v (.i .i64)), (7, .v y54), (8, .v (.i .i64)), (10, .at_ 68), (11, .v (.i .i64)), (13, .v y55), (14, .v (.i .i64)), (15, .v (.i .i64)), (68, .box y0)]
def O (k : Nat) : List (Orc (denR ([.c false y54]))) := [⟨s0, fun y => l0 k y.1 y.2.1 y.2.2.1 y.2.2.2.1 y.2.2.2.2.1 y.2.2.2.2.2.1 y.2.2.2.2.2.2.1⟩, ⟨s1, fun y => j1 k y.1 y.2.1 y.2.2.1 y.2.2.2.1 y.2.2.2.2.2.1 y.2.2.2.2.2.2.1 y.2.2.2.2.2.2.2.1 y.2.2.2.2.2.2.2.2.1 y.2.2.2.2.2.2.2.2.2.1⟩]
theorem e1 (k : Nat) (y : denS s1) : j1 (k + 1) y.1 y.2.1 y.2.2.1 y.2.2.2.1 y.2.2.2.2.2.1 y.2.2.2.2.2.2.1 y.2.2.2.2.2.2.2.1 y.2.2.2.2.2.2.2.2.1 y.2.2.2.2.2.2.2.2.2.1 = SS.ev d E O k [1, 1, 1, 0, 1, 0, 0, 1, 1, 0, 0, 1, 1, 1, 1, 1] s1 y := by rw [j1]; kernel_rfl
theorem e0 (k : Nat) (y : denS s0) : l0 (k + 1) y.1 y.2.1 y.2.2.1 y.2.2.2.1 y.2.2.2.2.1 y.2.2.2.2.2.1 y.2.2.2.2.2.2.1 = SS.ev d E O k [1, 1, 1, 0, 1, 0, 0] s0 y := by rw [l0]; kernel_rfl
theorem ok (k : Nat) : EnvOk Tryz.prog (53, sig k) := fnP SS d E O sig (fun _ => rfl) Tryz.func53 (by kernel_rfl) rfl (fun k => trivial) ⟨fun _ => rfl, fun _ => rfl, trivial⟩ (by kernel_rfl) (fun k => pc 1 rfl (e1 k) <| pc 0 rfl (e0 k) <| pn) (fun k x => by kernel_rfl) k
end lines_part
namespace metrics_Table_Check
def f (k : Nat) (a0 : A1) (a1 : Int) : Option Int := if (decide (a1 < 0)) = true then (some 43) else (if (decide ((a0.length : Int) ≤ a1)) = true then (some 43) else (some 0))
def sig (k : Nat) : Sig := .p [(false, y56), (false, (.i .i64))] [.c false (.i .i64)] fun x => f k x.1 x.2.1
def E (k : Nat) : List (Nat × Sig) := []
noncomputable def d : FD := ⟨85, Tryz.f85, 16, 16, [], [], [], [], [.tmp 4], .n⟩
def O (k : Nat) : List (Orc (denR ([.c false (.i .i64)]))) := []
theorem ok (k : Nat) : EnvOk Tryz.prog (85, sig k) := fnP SS d E O sig (fun _ => rfl) Tryz.func85 (by kernel_rfl) rfl (fun k => trivial) trivial (by kernel_rfl) (fun _ => pn) (fun k x => by kernel_rfl) k
end metrics_Table_Check
namespace metrics_Table_of
def f (k : Nat) (a0 : A1) (a1 : Int) : Option A5 := (metrics_Table_Check.f k a0 a1).bind fun r => if (!decide (r = 0)) = true then (some (0, 0, 0, 0, 0, 0, ([] : List api_Range), (false))) else ((at? a0 a1).bind fun e => some e)
def sig (k : Nat) : Sig := .p [(false, y66), (false, (.i .i64))] [.c true y64] fun x => f k x.1 x.2.1
def E (k : Nat) : List (Nat × Sig) := [(85, metrics_Table_Check.sig k)]
noncomputable def d : FD := ⟨109, Tryz.f109, 17, 25, [(4, 17, 8)], [], [], [], [.cell 4 68], .n⟩
def O (k : Nat) : List (Orc (denR ([.c true y64]))) := []
theorem ok (k : Nat) : EnvOk Tryz.prog (109, sig k) := fnP SS d E O sig (fun _ => rfl) Tryz.func109 (by kernel_rfl) rfl (fun k => ⟨metrics_Table_Check.ok k, trivial⟩) trivial (by kernel_rfl) (fun _ => pn) (fun k x => by kernel_rfl) k
end metrics_Table_of
namespace metrics_Table_Height
def f (k : Nat) (a0 : A1) (a1 : Int) : Option Int := (metrics_Table_of.f k a0 a1).bind fun r => some r.1
def sig (k : Nat) : Sig := .p [(false, y66), (false, (.i .i64))] [.c false (.i .i64)] fun x => f k x.1 x.2.1
def E (k : Nat) : List (Nat × Sig) := [(109, metrics_Table_of.sig k)]
noncomputable def d : FD := ⟨80, Tryz.f80, 9, 9, [], [], [], [], [.tmp 4], .n⟩
def O (k : Nat) : List (Orc (denR ([.c false (.i .i64)]))) := []
theorem ok (k : Nat) : EnvOk Tryz.prog (80, sig k) := fnP SS d E O sig (fun _ => rfl) Tryz.func80 (by kernel_rfl) rfl (fun k => ⟨metrics_Table_of.ok k, trivial⟩) trivial (by kernel_rfl) (fun _ => pn) (fun k x => by kernel_rfl) k
end metrics_Table_Height
namespace metrics_Table_Tallest
mutual
def l0 : Nat → A1 → Int → (List api_Run) → Int → Int → Option Int
 | 0, _, _, _, _, _ => none
 | k + 1, t, most, t2, t3, t4 => if (decide (t4 < t3)) = true then ((at? t2 t4).bind fun e => if (decide (0 < e.1)) = true then ((metrics_Table_Height.f k t e.2).bind fun r => l0 k t (if most < r then r else most) t2 t3 (wrap64 (t4 + 1))) else (l0 k t most t2 t3 (wrap64 (t4 + 1)))) else (if (decide (most = 0)) = true then ((metrics_Table_Height.f k t 0).bind fun r2 => some r2) else (some most))
end
def f (k : Nat) (a0 : A1) (a1 : (List api_Run)) : Option Int := l0 k a0 0 a1 (a1.length : Int) 0
def sig (k : Nat) : Sig := .p [(false, y66), (false, y55)] [.c false (.i .i64)] fun x => f k x.1 x.2.1
def E (k : Nat) : List (Nat × Sig) := [(80, metrics_Table_Height.sig k)]
noncomputable def d : FD := ⟨79, Tryz.f79, 29, 31, [(7, 29, 2)], [], [], [], [.tmp 4], .s .n (.s .n (.s (.s .n (.s (.l 0 .n) .n)) .n))⟩
abbrev s0 : Sh := [(0, .v y66), (5, .v (.i .i64)), (8, .v y55), (9, .v (.i .i64)), (10, .v (.i .i64))]
def O (k : Nat) : List (Orc (denR ([.c false (.i .i64)]))) := [⟨s0, fun y => l0 k y.1 y.2.1 y.2.2.1 y.2.2.2.1 y.2.2.2.2.1⟩]
theorem e0 (k : Nat) (y : denS s0) : l0 (k + 1) y.1 y.2.1 y.2.2.1 y.2.2.2.1 y.2.2.2.2.1 = SS.ev d E O k [1, 1, 0, 1, 0, 0] s0 y := by rw [l0]; kernel_rfl
theorem ok (k : Nat) : EnvOk Tryz.prog (79, sig k) := fnP SS d E O sig (fun _ => rfl) Tryz.func79 (by kernel_rfl) rfl (fun k => ⟨metrics_Table_Height.ok k, trivial⟩) ⟨fun _ => rfl, trivial⟩ (by kernel_rfl) (fun k => pc 0 rfl (e0 k) <| pn) (fun k x => by kernel_rfl) k
end metrics_Table_Tallest
namespace lines_height
mutual
def l0 : Nat → A1 → (List api_Run) → Int → Option Int
 | 0, _, _, _ => none
 | k + 1, t, all, k_ => if (decide (0 ≤ k_)) = true then ((at? all k_).bind fun e => if (decide (0 < e.1)) = true then ((at? all k_).bind fun e2 => (metrics_Table_Height.f k t e2.2).bind fun r2 => some r2) else (l0 k t all (wrap64 (k_ - 1)))) else ((metrics_Table_Height.f k t 0).bind fun r3 => some r3)
end
def f (k : Nat) (a0 : A1) (a1 : (List api_Run)) (a2 : (List api_Run)) : Option Int := if (decide (0 < (a1.length : Int))) = true then ((metrics_Table_Tallest.f k a0 a1).bind fun r => some r) else (l0 k a0 a2 (wrap64 ((a2.length : Int) - 1)))
def sig (k : Nat) : Sig := .p [(false, y66), (false, y55), (false, y55)] [.c false (.i .i64)] fun x => f k x.1 x.2.1 x.2.2.1
def E (k : Nat) : List (Nat × Sig) := [(79, metrics_Table_Tallest.sig k), (80, metrics_Table_Height.sig k)]
noncomputable def d : FD := ⟨54, Tryz.f54, 36, 36, [], [], [], [], [.tmp 6], .s .n (.s .n (.s (.s .n (.s (.l 0 .n) .n)) .n))⟩
abbrev s0 : Sh := [(0, .v y66), (2, .v y55), (7, .v (.i .i64))]
def O (k : Nat) : List (Orc (denR ([.c false (.i .i64)]))) := [⟨s0, fun y => l0 k y.1 y.2.1 y.2.2.1⟩]
theorem e0 (k : Nat) (y : denS s0) : l0 (k + 1) y.1 y.2.1 y.2.2.1 = SS.ev d E O k [1, 1, 0, 1, 0, 0] s0 y := by rw [l0]; kernel_rfl
theorem ok (k : Nat) : EnvOk Tryz.prog (54, sig k) := fnP SS d E O sig (fun _ => rfl) Tryz.func54 (by kernel_rfl) rfl (fun k => ⟨metrics_Table_Tallest.ok k, metrics_Table_Height.ok k, trivial⟩) ⟨fun _ => rfl, trivial⟩ (by kernel_rfl) (fun k => pc 0 rfl (e0 k) <| pn) (fun k x => by kernel_rfl) k
end lines_height
namespace lines_Lay
mutual
def l0 : Nat → A1 → ByteArray → (List api_Run) → measure_Para → Int → A7 → Int → Int → (List Int) → Int → Int → api_Breaking → Option A6
 | 0, _, _, _, _, _, _, _, _, _, _, _, _ => none
 | k + 1, t, t2, t3, t4, t5, t6, t7, t8, t9, t10, t11, t12 => if (decide (t11 < t10)) = true then (if 0 ≤ t11 ∧ t11 < (t9.length : Int) then ((t9[t11.toNat]?).bind fun e => (at? t12.1 t11).bind fun e2 => (measure_Para_Fit.f k t4 t8 e2 t5).bind fun r2 => (at? t12.1 t11).bind fun e3 => (measure_Para_Item.f k t4 e3).bind fun r3 => (lines_part.f k t3 t7 e).bind fun r4 => (sSub t2 t7 e).bind fun v => (lines_height.f k t r4 t3).bind fun r5 => if r3.2.2.2.2.2.2.1 = true then (if (t6.length + ([(v, r4, r2.1, r2.2.1, r5, decide (r3.2.2.2.2.2.2.2.1 < r3.2.2.2.2.2.2.2.2), 0, decide (t11 = 0), decide (t11 = (wrap64 ((t12.1.length : Int) - 1))))] : List (ByteArray × List api_Run × Int × Int × Int × Bool × Int × Bool × Bool)).length) * 88 ≤ 140737488355328 then (j1 k t t2 t3 t4 t5 (t6 ++ ([(v, r4, r2.1, r2.2.1, r5, decide (r3.2.2.2.2.2.2.2.1 < r3.2.2.2.2.2.2.2.2), 0, decide (t11 = 0), decide (t11 = (wrap64 ((t12.1.length : Int) - 1))))] : List (ByteArray × List api_Run × Int × Int × Int × Bool × Int × Bool × Bool))) t11 e t9 t10 t11 t12) else none) else (if (t6.length + ([(v, r4, r2.1, r2.2.1, r5, (false), 0, decide (t11 = 0), decide (t11 = (wrap64 ((t12.1.length : Int) - 1))))] : List (ByteArray × List api_Run × Int × Int × Int × Bool × Int × Bool × Bool)).length) * 88 ≤ 140737488355328 then (j1 k t t2 t3 t4 t5 (t6 ++ ([(v, r4, r2.1, r2.2.1, r5, (false), 0, decide (t11 = 0), decide (t11 = (wrap64 ((t12.1.length : Int) - 1))))] : List (ByteArray × List api_Run × Int × Int × Int × Bool × Int × Bool × Bool))) t11 e t9 t10 t11 t12) else none)) else none) else (some t6)
def j1 : Nat → A1 → ByteArray → (List api_Run) → measure_Para → Int → A7 → Int → Int → (List Int) → Int → Int → api_Breaking → Option A6
 | 0, _, _, _, _, _, _, _, _, _, _, _, _ => none
 | k + 1, t13, t14, t15, t16, t17, t18, t19, t20, t21, t22, t23, t24 => (at? t24.1 t19).bind fun e4 => l0 k t13 t14 t15 t16 t17 t18 t20 e4 t21 t22 (wrap64 (t23 + 1)) t24
end
def f (k : Nat) (a0 : A1) (a1 : ByteArray) (a2 : (List api_Run)) (a3 : measure_Para) (a4 : api_Breaking) (a5 : Int) : Option A6 := (lines_Cuts.f k a3 a4.1 (a1.size : Int)).bind fun r => l0 k a0 a1 a2 a3 a5 ([] : List (ByteArray × List api_Run × Int × Int × Int × Bool × Int × Bool × Bool)) 0 (-1) r (r.length : Int) 0 a4
def sig (k : Nat) : Sig := .p [(false, y66), (false, .s), (false, y55), (false, y86), (true, y87), (false, (.i .i64))] [.c false y76] fun x => f k x.1 x.2.1 x.2.2.1 x.2.2.2.1 x.2.2.2.2.1 x.2.2.2.2.2.1
def E (k : Nat) : List (Nat × Sig) := [(19, lines_Cuts.sig k), (51, measure_Para_Fit.sig k), (52, measure_Para_Item.sig k), (53, lines_part.sig k), (54, lines_height.sig k)]
noncomputable def d : FD := ⟨18, Tryz.f18, 95, 112, [(10, 95, 3), (18, 98, 5), (19, 103, 9)], [], [], [], [.tmp 12], .s .n (.s .n (.s .n (.s (.s .n (.s (.l 0 (.s .n (.s .n (.s (.s (.s .n (.s .n (.s .n (.s .n (.j 1 .n .n))))) .n) .n)))) .n)) .n)))⟩
abbrev s0 : Sh := [(0, .v y66), (1, .v .s), (2, .v y55), (3, .v y86), (5, .v (.i .i64)), (10, .at_ 95), (13, .v y76), (14, .v (.i .i64)), (15, .v (.i .i64)), (26, .v y10), (27, .v (.i .i64)), (28, .v (.i .i64)), (95, .box y87)]
abbrev s1 : Sh := [(0, .v y66), (1, .v .s), (2, .v y55), (3, .v y86), (5, .v (.i .i64)), (10, .at_ 95), (13, .v y76), (16, .v (.i .i64)), (17, .v (.i .i64)), (26, .v y10), (27, .v (.i .i64)), (28, .v (.i .i64)), (95, .box y87)]
def O (k : Nat) : List (Orc (denR ([.c false y76]))) := [⟨s0, fun y => l0 k y.1 y.2.1 y.2.2.1 y.2.2.2.1 y.2.2.2.2.1 y.2.2.2.2.2.2.1 y.2.2.2.2.2.2.2.1 y.2.2.2.2.2.2.2.2.1 y.2.2.2.2.2.2.2.2.2.1 y.2.2.2.2.2.2.2.2.2.2.1 y.2.2.2.2.2.2.2.2.2.2.2.1 y.2.2.2.2.2.2.2.2.2.2.2.2.1⟩, ⟨s1, fun y => j1 k y.1 y.2.1 y.2.2.1 y.2.2.2.1 y.2.2.2.2.1 y.2.2.2.2.2.2.1 y.2.2.2.2.2.2.2.1 y.2.2.2.2.2.2.2.2.1 y.2.2.2.2.2.2.2.2.2.1 y.2.2.2.2.2.2.2.2.2.2.1 y.2.2.2.2.2.2.2.2.2.2.2.1 y.2.2.2.2.2.2.2.2.2.2.2.2.1⟩]
theorem e1 (k : Nat) (y : denS s1) : j1 (k + 1) y.1 y.2.1 y.2.2.1 y.2.2.2.1 y.2.2.2.2.1 y.2.2.2.2.2.2.1 y.2.2.2.2.2.2.2.1 y.2.2.2.2.2.2.2.2.1 y.2.2.2.2.2.2.2.2.2.1 y.2.2.2.2.2.2.2.2.2.2.1 y.2.2.2.2.2.2.2.2.2.2.2.1 y.2.2.2.2.2.2.2.2.2.2.2.2.1 = SS.ev d E O k [1, 1, 1, 0, 1, 0, 0, 1, 1, 0, 0, 1, 1, 1, 1, 1] s1 y := by rw [j1]; kernel_rfl
theorem e0 (k : Nat) (y : denS s0) : l0 (k + 1) y.1 y.2.1 y.2.2.1 y.2.2.2.1 y.2.2.2.2.1 y.2.2.2.2.2.2.1 y.2.2.2.2.2.2.2.1 y.2.2.2.2.2.2.2.2.1 y.2.2.2.2.2.2.2.2.2.1 y.2.2.2.2.2.2.2.2.2.2.1 y.2.2.2.2.2.2.2.2.2.2.2.1 y.2.2.2.2.2.2.2.2.2.2.2.2.1 = SS.ev d E O k [1, 1, 1, 0, 1, 0, 0] s0 y := by rw [l0]; kernel_rfl
theorem ok (k : Nat) : EnvOk Tryz.prog (18, sig k) := fnP SS d E O sig (fun _ => rfl) Tryz.func18 (by kernel_rfl) rfl (fun k => ⟨lines_Cuts.ok k, measure_Para_Fit.ok k, measure_Para_Item.ok k, lines_part.ok k, lines_height.ok k, trivial⟩) ⟨fun _ => rfl, fun _ => rfl, trivial⟩ (by kernel_rfl) (fun k => pc 1 rfl (e1 k) <| pc 0 rfl (e0 k) <| pn) (fun k x => by kernel_rfl) k
end lines_Lay
namespace runes_size
mutual
def j0 : Nat → ByteArray → Int → Option Int
 | 0, _, _ => none
 | k + 1, t, t2 => (bAt t t2).bind fun e => if (decide (e < 128)) = true then (some 1) else (if (decide (e < 194)) = true then (some 0) else (if (decide (244 < e)) = true then (some 0) else (if (decide (e < 224)) = true then (j1 k t t2 1 128 191 (wrap64 (t2 + 1))) else (if (decide (e < 240)) = true then (j2 k t t2 2 128 191 e (wrap64 (t2 + 1))) else (j3 k t t2 3 128 191 e (wrap64 (t2 + 1)))))))
def j1 : Nat → ByteArray → Int → Int → Int → Int → Int → Option Int
 | 0, _, _, _, _, _, _ => none
 | k + 1, t3, t4, t5, t6, t7, t8 => j4 k t3 t4 t5 t6 t7 t8
def j2 : Nat → ByteArray → Int → Int → Int → Int → Int → Int → Option Int
 | 0, _, _, _, _, _, _, _ => none
 | k + 1, t9, t10, t11, t12, t13, t14, t15 => if (decide (t14 = 224)) = true then (j5 k t9 t10 t11 160 t13 t14 t15) else (j5 k t9 t10 t11 t12 t13 t14 t15)
def j3 : Nat → ByteArray → Int → Int → Int → Int → Int → Int → Option Int
 | 0, _, _, _, _, _, _, _ => none
 | k + 1, t16, t17, t18, t19, t20, t21, t22 => if (decide (t21 = 240)) = true then (j6 k t16 t17 t18 144 t20 t21 t22) else (j6 k t16 t17 t18 t19 t20 t21 t22)
def j4 : Nat → ByteArray → Int → Int → Int → Int → Int → Option Int
 | 0, _, _, _, _, _, _ => none
 | k + 1, t23, t24, t25, t26, t27, t28 => if (decide (t25 = 0)) = true then (some (wrap64 (t28 - t24))) else (if (decide ((t23.size : Int) ≤ t28)) = true then (some 0) else ((bAt t23 t28).bind fun e2 => if (decide (e2 < t26)) = true then (some 0) else ((bAt t23 t28).bind fun e3 => if (decide (t27 < e3)) = true then (some 0) else (j7 k t23 t24 t25 t28))))
def j5 : Nat → ByteArray → Int → Int → Int → Int → Int → Int → Option Int
 | 0, _, _, _, _, _, _, _ => none
 | k + 1, t29, t30, t31, t32, t33, t34, t35 => if (decide (t34 = 237)) = true then (j1 k t29 t30 t31 t32 159 t35) else (j1 k t29 t30 t31 t32 t33 t35)
def j6 : Nat → ByteArray → Int → Int → Int → Int → Int → Int → Option Int
 | 0, _, _, _, _, _, _, _ => none
 | k + 1, t36, t37, t38, t39, t40, t41, t42 => if (decide (t41 = 244)) = true then (j1 k t36 t37 t38 t39 143 t42) else (j1 k t36 t37 t38 t39 t40 t42)
def j7 : Nat → ByteArray → Int → Int → Int → Option Int
 | 0, _, _, _, _ => none
 | k + 1, t43, t44, t45, t46 => j4 k t43 t44 (wrap64 (t45 - 1)) 128 191 (wrap64 (t46 + 1))
end
def f (k : Nat) (a0 : ByteArray) (a1 : Int) : Option Int := if (decide (a1 < 0)) = true then (some 0) else (if (decide ((a0.size : Int) ≤ a1)) = true then (some 0) else (j0 k a0 a1))
def sig (k : Nat) : Sig := .p [(false, .s), (false, (.i .i64))] [.c false (.i .i64)] fun x => f k x.1 x.2.1
def E (k : Nat) : List (Nat × Sig) := []
noncomputable def d : FD := ⟨87, Tryz.f87, 74, 74, [], [], [], [], [.tmp 4], .s .n (.g 0 4 (.j 0 .n (.s .n (.s .n (.s .n (.s .n (.j 1 (.s (.s .n (.s .n (.s .n (.s .n (.s .n (.s .n (.s .n (.s (.j 2 .n (.j 5 .n .n)) (.j 3 .n (.j 6 .n .n)))))))))) .n) (.j 4 .n (.s .n (.j 7 .n .n))))))))))⟩
abbrev s0 : Sh := [(0, .v .s), (1, .v (.i .i64))]
abbrev s1 : Sh := [(0, .v .s), (1, .v (.i .i64)), (5, .v (.i .i64)), (6, .v (.i .u8)), (7, .v (.i .u8)), (9, .v (.i .i64))]
abbrev s2 : Sh := [(0, .v .s), (1, .v (.i .i64)), (5, .v (.i .i64)), (6, .v (.i .u8)), (7, .v (.i .u8)), (8, .v (.i .u8)), (9, .v (.i .i64))]
abbrev s3 : Sh := [(0, .v .s), (1, .v (.i .i64)), (5, .v (.i .i64)), (6, .v (.i .u8)), (7, .v (.i .u8)), (8, .v (.i .u8)), (9, .v (.i .i64))]
abbrev s4 : Sh := [(0, .v .s), (1, .v (.i .i64)), (5, .v (.i .i64)), (6, .v (.i .u8)), (7, .v (.i .u8)), (9, .v (.i .i64))]
abbrev s5 : Sh := [(0, .v .s), (1, .v (.i .i64)), (5, .v (.i .i64)), (6, .v (.i .u8)), (7, .v (.i .u8)), (8, .v (.i .u8)), (9, .v (.i .i64))]
abbrev s6 : Sh := [(0, .v .s), (1, .v (.i .i64)), (5, .v (.i .i64)), (6, .v (.i .u8)), (7, .v (.i .u8)), (8, .v (.i .u8)), (9, .v (.i .i64))]
abbrev s7 : Sh := [(0, .v .s), (1, .v (.i .i64)), (5, .v (.i .i64)), (9, .v (.i .i64))]
def O (k : Nat) : List (Orc (denR ([.c false (.i .i64)]))) := [⟨s0, fun y => j0 k y.1 y.2.1⟩, ⟨s1, fun y => j1 k y.1 y.2.1 y.2.2.1 y.2.2.2.1 y.2.2.2.2.1 y.2.2.2.2.2.1⟩, ⟨s2, fun y => j2 k y.1 y.2.1 y.2.2.1 y.2.2.2.1 y.2.2.2.2.1 y.2.2.2.2.2.1 y.2.2.2.2.2.2.1⟩, ⟨s3, fun y => j3 k y.1 y.2.1 y.2.2.1 y.2.2.2.1 y.2.2.2.2.1 y.2.2.2.2.2.1 y.2.2.2.2.2.2.1⟩, ⟨s4, fun y => j4 k y.1 y.2.1 y.2.2.1 y.2.2.2.1 y.2.2.2.2.1 y.2.2.2.2.2.1⟩, ⟨s5, fun y => j5 k y.1 y.2.1 y.2.2.1 y.2.2.2.1 y.2.2.2.2.1 y.2.2.2.2.2.1 y.2.2.2.2.2.2.1⟩, ⟨s6, fun y => j6 k y.1 y.2.1 y.2.2.1 y.2.2.2.1 y.2.2.2.2.1 y.2.2.2.2.2.1 y.2.2.2.2.2.2.1⟩, ⟨s7, fun y => j7 k y.1 y.2.1 y.2.2.1 y.2.2.2.1⟩]
theorem e5 (k : Nat) (y : denS s5) : j5 (k + 1) y.1 y.2.1 y.2.2.1 y.2.2.2.1 y.2.2.2.2.1 y.2.2.2.2.2.1 y.2.2.2.2.2.2.1 = SS.ev d E O k [1, 0, 1, 1, 1, 1, 1, 0, 0, 1, 1, 1, 1, 1, 1, 1, 0, 1, 1] s5 y := by rw [j5]; kernel_rfl
theorem e2 (k : Nat) (y : denS s2) : j2 (k + 1) y.1 y.2.1 y.2.2.1 y.2.2.2.1 y.2.2.2.2.1 y.2.2.2.2.2.1 y.2.2.2.2.2.2.1 = SS.ev d E O k [1, 0, 1, 1, 1, 1, 1, 0, 0, 1, 1, 1, 1, 1, 1, 1, 0, 1] s2 y := by rw [j2]; kernel_rfl
theorem e6 (k : Nat) (y : denS s6) : j6 (k + 1) y.1 y.2.1 y.2.2.1 y.2.2.2.1 y.2.2.2.2.1 y.2.2.2.2.2.1 y.2.2.2.2.2.2.1 = SS.ev d E O k [1, 0, 1, 1, 1, 1, 1, 0, 0, 1, 1, 1, 1, 1, 1, 1, 1, 1, 1] s6 y := by rw [j6]; kernel_rfl
theorem e3 (k : Nat) (y : denS s3) : j3 (k + 1) y.1 y.2.1 y.2.2.1 y.2.2.2.1 y.2.2.2.2.1 y.2.2.2.2.2.1 y.2.2.2.2.2.2.1 = SS.ev d E O k [1, 0, 1, 1, 1, 1, 1, 0, 0, 1, 1, 1, 1, 1, 1, 1, 1, 1] s3 y := by rw [j3]; kernel_rfl
theorem e7 (k : Nat) (y : denS s7) : j7 (k + 1) y.1 y.2.1 y.2.2.1 y.2.2.2.1 = SS.ev d E O k [1, 0, 1, 1, 1, 1, 1, 1, 1, 1, 1] s7 y := by rw [j7]; kernel_rfl
theorem e4 (k : Nat) (y : denS s4) : j4 (k + 1) y.1 y.2.1 y.2.2.1 y.2.2.2.1 y.2.2.2.2.1 y.2.2.2.2.2.1 = SS.ev d E O k [1, 0, 1, 1, 1, 1, 1, 1, 1] s4 y := by rw [j4]; kernel_rfl
theorem e1 (k : Nat) (y : denS s1) : j1 (k + 1) y.1 y.2.1 y.2.2.1 y.2.2.2.1 y.2.2.2.2.1 y.2.2.2.2.2.1 = SS.ev d E O k [1, 0, 1, 1, 1, 1, 1, 1] s1 y := by rw [j1]; kernel_rfl
theorem e0 (k : Nat) (y : denS s0) : j0 (k + 1) y.1 y.2.1 = SS.ev d E O k [1, 0, 1] s0 y := by rw [j0]; kernel_rfl
theorem ok (k : Nat) : EnvOk Tryz.prog (87, sig k) := fnP SS d E O sig (fun _ => rfl) Tryz.func87 (by kernel_rfl) rfl (fun k => trivial) ⟨fun _ => rfl, fun _ => rfl, fun _ => rfl, fun _ => rfl, fun _ => rfl, fun _ => rfl, fun _ => rfl, fun _ => rfl, trivial⟩ (by kernel_rfl) (fun k => pc 5 rfl (e5 k) <| pc 2 rfl (e2 k) <| pc 6 rfl (e6 k) <| pc 3 rfl (e3 k) <| pc 7 rfl (e7 k) <| pc 4 rfl (e4 k) <| pc 1 rfl (e1 k) <| pc 0 rfl (e0 k) <| pn) (fun k x => by kernel_rfl) k
end runes_size
namespace runes_Bad
mutual
def j0 : Nat → ByteArray → Int → Option Int
 | 0, _, _ => none
 | k + 1, s, at_ => if (decide (at_ = (s.size : Int))) = true then (some (-1)) else ((runes_size.f k s at_).bind fun r => if (decide (r = 0)) = true then (some at_) else (j0 k s (wrap64 (at_ + r))))
end
def f (k : Nat) (a0 : ByteArray) : Option Int := j0 k a0 0
def sig (k : Nat) : Sig := .p [(false, .s)] [.c false (.i .i64)] fun x => f k x.1
def E (k : Nat) : List (Nat × Sig) := [(87, runes_size.sig k)]
noncomputable def d : FD := ⟨110, Tryz.f110, 18, 18, [], [], [], [], [.tmp 2], .s .n (.g 0 0 (.s .n (.j 0 .n .n)))⟩
abbrev s0 : Sh := [(0, .v .s), (3, .v (.i .i64))]
def O (k : Nat) : List (Orc (denR ([.c false (.i .i64)]))) := [⟨s0, fun y => j0 k y.1 y.2.1⟩]
theorem e0 (k : Nat) (y : denS s0) : j0 (k + 1) y.1 y.2.1 = SS.ev d E O k [1, 0, 1, 1] s0 y := by rw [j0]; kernel_rfl
theorem ok (k : Nat) : EnvOk Tryz.prog (110, sig k) := fnP SS d E O sig (fun _ => rfl) Tryz.func110 (by kernel_rfl) rfl (fun k => ⟨runes_size.ok k, trivial⟩) ⟨fun _ => rfl, trivial⟩ (by kernel_rfl) (fun k => pc 0 rfl (e0 k) <| pn) (fun k x => by kernel_rfl) k
end runes_Bad
namespace runes_Check
def f (k : Nat) (a0 : ByteArray) : Option Int := (runes_Bad.f k a0).bind fun r => if (decide (0 ≤ r)) = true then (some 20) else (some 0)
def sig (k : Nat) : Sig := .p [(false, .s)] [.c false (.i .i64)] fun x => f k x.1
def E (k : Nat) : List (Nat × Sig) := [(110, runes_Bad.sig k)]
noncomputable def d : FD := ⟨83, Tryz.f83, 6, 6, [], [], [], [], [.tmp 2], .n⟩
def O (k : Nat) : List (Orc (denR ([.c false (.i .i64)]))) := []
theorem ok (k : Nat) : EnvOk Tryz.prog (83, sig k) := fnP SS d E O sig (fun _ => rfl) Tryz.func83 (by kernel_rfl) rfl (fun k => ⟨runes_Bad.ok k, trivial⟩) trivial (by kernel_rfl) (fun _ => pn) (fun k x => by kernel_rfl) k
end runes_Check
namespace runes_Kind
mutual
def j0 : Nat → Int → Bool → Option Int
 | 0, _, _ => none
 | k + 1, t, t2 => if t2 = true then (some 1) else (if (decide (t = 160)) = true then (j1 k t true) else (j1 k t (decide (t = 8239))))
def j1 : Nat → Int → Bool → Option Int
 | 0, _, _ => none
 | k + 1, t3, t4 => if t4 = true then (some 2) else (if (decide (t3 = 173)) = true then (some 3) else (if (decide (t3 = 8203)) = true then (some 4) else (if (decide (t3 = 8288)) = true then (j2 k t3 true) else (j2 k t3 (decide (t3 = 65279))))))
def j2 : Nat → Int → Bool → Option Int
 | 0, _, _ => none
 | k + 1, t5, t6 => if t6 = true then (some 5) else (if (decide (t5 = 45)) = true then (j3 k t5 true) else (j3 k t5 (decide (t5 = 8208))))
def j3 : Nat → Int → Bool → Option Int
 | 0, _, _ => none
 | k + 1, t7, t8 => if t8 = true then (some 6) else (if (decide (t7 = 8232)) = true then (some 7) else (if (decide (t7 = 10)) = true then (some 8) else (some 0)))
end
def f (k : Nat) (a0 : Int) : Option Int := if (decide (a0 = 32)) = true then (j0 k a0 true) else (j0 k a0 (decide (a0 = 9)))
def sig (k : Nat) : Sig := .p [(false, (.i .i32))] [.c false (.i .i64)] fun x => f k x.1
def E (k : Nat) : List (Nat × Sig) := []
noncomputable def d : FD := ⟨62, Tryz.f62, 24, 24, [], [], [], [], [.tmp 2], .s .n (.s (.s .n (.s (.j 0 .n (.s .n (.j 1 .n (.s .n (.s .n (.s .n (.s .n (.s .n (.j 2 .n (.s .n (.j 3 .n .n))))))))))) .n)) .n)⟩
abbrev s0 : Sh := [(3, .v (.i .i32)), (4, .v .b)]
abbrev s1 : Sh := [(3, .v (.i .i32)), (7, .v .b)]
abbrev s2 : Sh := [(3, .v (.i .i32)), (14, .v .b)]
abbrev s3 : Sh := [(3, .v (.i .i32)), (17, .v .b)]
def O (k : Nat) : List (Orc (denR ([.c false (.i .i64)]))) := [⟨s0, fun y => j0 k y.1 y.2.1⟩, ⟨s1, fun y => j1 k y.1 y.2.1⟩, ⟨s2, fun y => j2 k y.1 y.2.1⟩, ⟨s3, fun y => j3 k y.1 y.2.1⟩]
theorem e3 (k : Nat) (y : denS s3) : j3 (k + 1) y.1 y.2.1 = SS.ev d E O k [1, 0, 1, 0, 1, 1, 1, 1, 1, 1, 1, 1, 1, 1, 1] s3 y := by rw [j3]; kernel_rfl
theorem e2 (k : Nat) (y : denS s2) : j2 (k + 1) y.1 y.2.1 = SS.ev d E O k [1, 0, 1, 0, 1, 1, 1, 1, 1, 1, 1, 1, 1] s2 y := by rw [j2]; kernel_rfl
theorem e1 (k : Nat) (y : denS s1) : j1 (k + 1) y.1 y.2.1 = SS.ev d E O k [1, 0, 1, 0, 1, 1, 1] s1 y := by rw [j1]; kernel_rfl
theorem e0 (k : Nat) (y : denS s0) : j0 (k + 1) y.1 y.2.1 = SS.ev d E O k [1, 0, 1, 0, 1] s0 y := by rw [j0]; kernel_rfl
theorem ok (k : Nat) : EnvOk Tryz.prog (62, sig k) := fnP SS d E O sig (fun _ => rfl) Tryz.func62 (by kernel_rfl) rfl (fun k => trivial) ⟨fun _ => rfl, fun _ => rfl, fun _ => rfl, fun _ => rfl, trivial⟩ (by kernel_rfl) (fun k => pc 3 rfl (e3 k) <| pc 2 rfl (e2 k) <| pc 1 rfl (e1 k) <| pc 0 rfl (e0 k) <| pn) (fun k x => by kernel_rfl) k
end runes_Kind
namespace runes_Lines
mutual
def l0 : Nat → Int → A8 → Option Int
 | 0, _, _ => none
 | k + 1, n, t => if t.2 < t.1.size then ((runes_Kind.f k ((Utf8.decode t.1 t.2).1 : Int)).bind fun r => if (decide (r = 8)) = true then (l0 k (wrap64 (n + 1)) (t.1, (t.2 + (Utf8.decode t.1 t.2).2))) else (l0 k n (t.1, (t.2 + (Utf8.decode t.1 t.2).2)))) else (some n)
end
def f (k : Nat) (a0 : ByteArray) : Option Int := l0 k 0 (a0, 0)
def sig (k : Nat) : Sig := .p [(false, .s)] [.c false (.i .i64)] fun x => f k x.1
def E (k : Nat) : List (Nat × Sig) := [(62, runes_Kind.sig k)]
noncomputable def d : FD := ⟨84, Tryz.f84, 17, 17, [], [], [], [], [.tmp 2], .s .n (.s .n (.s (.s .n (.s (.l 0 .n) .n)) .n))⟩
abbrev s0 : Sh := [(3, .v (.i .i64)), (7, .it)]
def O (k : Nat) : List (Orc (denR ([.c false (.i .i64)]))) := [⟨s0, fun y => l0 k y.1 y.2.1⟩]
theorem e0 (k : Nat) (y : denS s0) : l0 (k + 1) y.1 y.2.1 = SS.ev d E O k [1, 1, 0, 1, 0, 0] s0 y := by rw [l0]; kernel_rfl
theorem ok (k : Nat) : EnvOk Tryz.prog (84, sig k) := fnP SS d E O sig (fun _ => rfl) Tryz.func84 (by kernel_rfl) rfl (fun k => ⟨runes_Kind.ok k, trivial⟩) ⟨fun _ => rfl, trivial⟩ (by kernel_rfl) (fun k => pc 0 rfl (e0 k) <| pn) (fun k x => by kernel_rfl) k
end runes_Lines
namespace runes_Inside
def f (k : Nat) (a0 : Int) : Option Bool := some (decide ((andI .u8 a0 (192 : Int)) = 128))
def sig (k : Nat) : Sig := .p [(false, (.i .u8))] [.c false .b] fun x => f k x.1
def E (k : Nat) : List (Nat × Sig) := []
noncomputable def d : FD := ⟨111, Tryz.f111, 6, 6, [], [], [], [], [.tmp 2], .n⟩
def O (k : Nat) : List (Orc (denR ([.c false .b]))) := []
theorem ok (k : Nat) : EnvOk Tryz.prog (111, sig k) := fnP SS d E O sig (fun _ => rfl) Tryz.func111 (by kernel_rfl) rfl (fun k => trivial) trivial (by kernel_rfl) (fun _ => pn) (fun k x => by kernel_rfl) k
end runes_Inside
namespace runes_Boundary
mutual
def j0 : Nat → ByteArray → Int → Option Int
 | 0, _, _ => none
 | k + 1, s, at_ => if (decide (at_ < (s.size : Int))) = true then ((bAt s at_).bind fun e => (runes_Inside.f k e).bind fun r => if r = true then (some 21) else (some 0)) else (some 0)
end
def f (k : Nat) (a0 : ByteArray) (a1 : Int) : Option Int := if (decide (a1 < 0)) = true then (some 30) else (if (decide ((a0.size : Int) < a1)) = true then (some 30) else (j0 k a0 a1))
def sig (k : Nat) : Sig := .p [(false, .s), (false, (.i .i64))] [.c false (.i .i64)] fun x => f k x.1 x.2.1
def E (k : Nat) : List (Nat × Sig) := [(111, runes_Inside.sig k)]
noncomputable def d : FD := ⟨86, Tryz.f86, 23, 23, [], [], [], [], [.tmp 4], .s .n (.j 0 .n .n)⟩
abbrev s0 : Sh := [(0, .v .s), (1, .v (.i .i64))]
def O (k : Nat) : List (Orc (denR ([.c false (.i .i64)]))) := [⟨s0, fun y => j0 k y.1 y.2.1⟩]
theorem e0 (k : Nat) (y : denS s0) : j0 (k + 1) y.1 y.2.1 = SS.ev d E O k [1, 1] s0 y := by rw [j0]; kernel_rfl
theorem ok (k : Nat) : EnvOk Tryz.prog (86, sig k) := fnP SS d E O sig (fun _ => rfl) Tryz.func86 (by kernel_rfl) rfl (fun k => ⟨runes_Inside.ok k, trivial⟩) ⟨fun _ => rfl, trivial⟩ (by kernel_rfl) (fun k => pc 0 rfl (e0 k) <| pn) (fun k x => by kernel_rfl) k
end runes_Boundary
namespace items_Check
mutual
def j0 : Nat → A1 → ByteArray → (List api_Run) → Option Int
 | 0, _, _, _ => none
 | k + 1, t, t2, t3 => l1 k t t2 0 t3 (t3.length : Int) 0
def l1 : Nat → A1 → ByteArray → Int → (List api_Run) → Int → Int → Option Int
 | 0, _, _, _, _, _, _ => none
 | k + 1, t4, t5, t6, t7, t8, t9 => if (decide (t9 < t8)) = true then ((at? t7 t9).bind fun e2 => if (decide (e2.1 < 0)) = true then (some 70) else (if (decide ((wrap64 ((t5.size : Int) - t6)) < e2.1)) = true then (some 70) else (j2 k t4 t5 t6 t7 t8 t9 e2))) else (if (!decide (t6 = (t5.size : Int))) = true then (some 70) else (some 0))
def j2 : Nat → A1 → ByteArray → Int → (List api_Run) → Int → Int → api_Run → Option Int
 | 0, _, _, _, _, _, _, _ => none
 | k + 1, t10, t11, t12, t13, t14, t15, t16 => (metrics_Table_Check.f k t10 t16.2).bind fun r3 => if (!decide (r3 = 0)) = true then (some r3) else ((runes_Boundary.f k t11 (wrap64 (t12 + t16.1))).bind fun r4 => if (!decide (r4 = 0)) = true then (some r4) else (l1 k t10 t11 (wrap64 (t12 + t16.1)) t13 t14 (wrap64 (t15 + 1))))
end
def f (k : Nat) (a0 : A1) (a1 : ByteArray) (a2 : (List api_Run)) : Option Int := (runes_Check.f k a1).bind fun r => if (!decide (r = 0)) = true then (some r) else ((runes_Lines.f k a1).bind fun r2 => if (decide (a1 = ByteArray.empty)) = true then (some 70) else (if (decide (1 < r2)) = true then (some 70) else (if (decide (r2 = 1)) = true then ((bAt a1 (wrap64 ((a1.size : Int) - 1))).bind fun e => if (!decide (e = 10)) = true then (some 70) else (j0 k a0 a1 a2)) else (j0 k a0 a1 a2))))
def sig (k : Nat) : Sig := .p [(false, y56), (false, .s), (false, y55)] [.c false (.i .i64)] fun x => f k x.1 x.2.1 x.2.2.1
def E (k : Nat) : List (Nat × Sig) := [(83, runes_Check.sig k), (84, runes_Lines.sig k), (85, metrics_Table_Check.sig k), (86, runes_Boundary.sig k)]
noncomputable def d : FD := ⟨60, Tryz.f60, 79, 81, [(11, 79, 2)], [], [], [], [.tmp 6], .s .n (.s .n (.j 0 .n (.s .n (.s (.s .n (.s (.l 1 (.s .n (.s .n (.s (.s (.s .n (.j 2 .n .n)) .n) .n)))) .n)) .n))))⟩
abbrev s0 : Sh := [(0, .v y56), (1, .v .s), (2, .v y55)]
abbrev s1 : Sh := [(0, .v y56), (1, .v .s), (9, .v (.i .i64)), (39, .v y55), (40, .v (.i .i64)), (41, .v (.i .i64))]
abbrev s2 : Sh := [(0, .v y56), (1, .v .s), (9, .v (.i .i64)), (11, .at_ 79), (39, .v y55), (40, .v (.i .i64)), (41, .v (.i .i64)), (79, .box y0)]
def O (k : Nat) : List (Orc (denR ([.c false (.i .i64)]))) := [⟨s0, fun y => j0 k y.1 y.2.1 y.2.2.1⟩, ⟨s1, fun y => l1 k y.1 y.2.1 y.2.2.1 y.2.2.2.1 y.2.2.2.2.1 y.2.2.2.2.2.1⟩, ⟨s2, fun y => j2 k y.1 y.2.1 y.2.2.1 y.2.2.2.2.1 y.2.2.2.2.2.1 y.2.2.2.2.2.2.1 y.2.2.2.2.2.2.2.1⟩]
theorem e2 (k : Nat) (y : denS s2) : j2 (k + 1) y.1 y.2.1 y.2.2.1 y.2.2.2.2.1 y.2.2.2.2.2.1 y.2.2.2.2.2.2.1 y.2.2.2.2.2.2.2.1 = SS.ev d E O k [1, 1, 1, 1, 0, 1, 0, 0, 1, 1, 0, 0, 1, 1] s2 y := by rw [j2]; kernel_rfl
theorem e1 (k : Nat) (y : denS s1) : l1 (k + 1) y.1 y.2.1 y.2.2.1 y.2.2.2.1 y.2.2.2.2.1 y.2.2.2.2.2.1 = SS.ev d E O k [1, 1, 1, 1, 0, 1, 0, 0] s1 y := by rw [l1]; kernel_rfl
theorem e0 (k : Nat) (y : denS s0) : j0 (k + 1) y.1 y.2.1 y.2.2.1 = SS.ev d E O k [1, 1, 1] s0 y := by rw [j0]; kernel_rfl
theorem ok (k : Nat) : EnvOk Tryz.prog (60, sig k) := fnP SS d E O sig (fun _ => rfl) Tryz.func60 (by kernel_rfl) rfl (fun k => ⟨runes_Check.ok k, runes_Lines.ok k, metrics_Table_Check.ok k, runes_Boundary.ok k, trivial⟩) ⟨fun _ => rfl, fun _ => rfl, fun _ => rfl, trivial⟩ (by kernel_rfl) (fun k => pc 2 rfl (e2 k) <| pc 1 rfl (e1 k) <| pc 0 rfl (e0 k) <| pn) (fun k x => by kernel_rfl) k
end items_Check
namespace runes_First
mutual
def l0 : Nat → Int → A8 → Option (Int × Int)
 | 0, _, _ => none
 | k + 1, n, t => if t.2 < t.1.size then (some (((Utf8.decode t.1 t.2).1 : Int), n)) else (some (0, 0))
end
def f (k : Nat) (a0 : ByteArray) : Option (Int × Int) := (runes_size.f k a0 0).bind fun r => (sSub a0 0 r).bind fun v => l0 k r (v, 0)
def sig (k : Nat) : Sig := .p [(false, .s)] [.c false (.i .i32), .c false (.i .i64)] fun x => f k x.1
def E (k : Nat) : List (Nat × Sig) := [(87, runes_size.sig k)]
noncomputable def d : FD := ⟨61, Tryz.f61, 18, 18, [], [], [], [], [.tmp 2, .tmp 3], .s .n (.s .n (.s (.s .n (.s (.l 0 .n) .n)) .n))⟩
abbrev s0 : Sh := [(4, .v (.i .i64)), (12, .it)]
def O (k : Nat) : List (Orc (denR ([.c false (.i .i32), .c false (.i .i64)]))) := [⟨s0, fun y => l0 k y.1 y.2.1⟩]
theorem e0 (k : Nat) (y : denS s0) : l0 (k + 1) y.1 y.2.1 = SS.ev d E O k [1, 1, 0, 1, 0, 0] s0 y := by rw [l0]; kernel_rfl
theorem ok (k : Nat) : EnvOk Tryz.prog (61, sig k) := fnP SS d E O sig (fun _ => rfl) Tryz.func61 (by kernel_rfl) rfl (fun k => ⟨runes_size.ok k, trivial⟩) ⟨fun _ => rfl, trivial⟩ (by kernel_rfl) (fun k => pc 0 rfl (e0 k) <| pn) (fun k x => by kernel_rfl) k
end runes_First
namespace items_builder_put
def f (k : Nat) (a0 : A10) (a1 : api_Item) : Option A9 := if (a0.2.1.length + ([a1] : List api_Item).length) * 72 ≤ 140737488355328 then (some (a0.1, a0.2.1 ++ ([a1] : List api_Item), a0.2.2.1, (false))) else none
def sig (k : Nat) : Sig := .l y89 [(true, y27)] [] fun b x => f k b x.1
def E (k : Nat) : List (Nat × Sig) := []
noncomputable def d : FD := ⟨88, Tryz.f88, 17, 30, [(0, 17, 4), (3, 21, 9)], [0], [], [], [], .n⟩
def O (k : Nat) : List (Orc (denR ([] ++ [.c true y89]))) := []
theorem ok (k : Nat) : EnvOk Tryz.prog (88, sig k) := fnL SS d E O sig (fun _ => rfl) Tryz.func88 (by kernel_rfl) rfl (fun k => trivial) trivial (by kernel_rfl) (fun _ => pn) (fun k b x => by kernel_rfl) k
end items_builder_put
namespace items_builder_end
def f (k : Nat) (a0 : A10) (a1 : Int) (a2 : Int) : Option A9 := (items_builder_put.f k a0 (2, 0, 0, 0, (true), 0, (false), a1, a1)).bind fun r => (items_builder_put.f k r (3, 0, 0, 0, (false), (-10000), (false), a1, a2)).bind fun r2 => some r2
def sig (k : Nat) : Sig := .l y89 [(false, (.i .i64)), (false, (.i .i64))] [] fun b x => f k b x.1 x.2.1
def E (k : Nat) : List (Nat × Sig) := [(88, items_builder_put.sig k)]
noncomputable def d : FD := ⟨63, Tryz.f63, 16, 20, [(0, 16, 4)], [0], [], [], [], .n⟩
def O (k : Nat) : List (Orc (denR ([] ++ [.c true y89]))) := []
theorem ok (k : Nat) : EnvOk Tryz.prog (63, sig k) := fnL SS d E O sig (fun _ => rfl) Tryz.func63 (by kernel_rfl) rfl (fun k => ⟨items_builder_put.ok k, trivial⟩) trivial (by kernel_rfl) (fun _ => pn) (fun k b x => by kernel_rfl) k
end items_builder_end
namespace metrics_Table_Space
def f (k : Nat) (a0 : A1) (a1 : Int) : Option A11 := (metrics_Table_of.f k a0 a1).bind fun r => some (r.2.1, r.2.2.1, r.2.2.2.1)
def sig (k : Nat) : Sig := .p [(false, y66), (false, (.i .i64))] [.c false (.i .i64), .c false (.i .i64), .c false (.i .i64)] fun x => f k x.1 x.2.1
def E (k : Nat) : List (Nat × Sig) := [(109, metrics_Table_of.sig k)]
noncomputable def d : FD := ⟨89, Tryz.f89, 17, 25, [(7, 17, 8)], [], [], [], [.tmp 4, .tmp 5, .tmp 6], .n⟩
def O (k : Nat) : List (Orc (denR ([.c false (.i .i64), .c false (.i .i64), .c false (.i .i64)]))) := []
theorem ok (k : Nat) : EnvOk Tryz.prog (89, sig k) := fnP SS d E O sig (fun _ => rfl) Tryz.func89 (by kernel_rfl) rfl (fun k => ⟨metrics_Table_of.ok k, trivial⟩) trivial (by kernel_rfl) (fun _ => pn) (fun k x => by kernel_rfl) k
end metrics_Table_Space
namespace metrics_Table_Hyphen
def f (k : Nat) (a0 : A1) (a1 : Int) : Option Int := (metrics_Table_of.f k a0 a1).bind fun r => some r.2.2.2.2.1
def sig (k : Nat) : Sig := .p [(false, y66), (false, (.i .i64))] [.c false (.i .i64)] fun x => f k x.1 x.2.1
def E (k : Nat) : List (Nat × Sig) := [(109, metrics_Table_of.sig k)]
noncomputable def d : FD := ⟨90, Tryz.f90, 9, 9, [], [], [], [], [.tmp 4], .n⟩
def O (k : Nat) : List (Orc (denR ([.c false (.i .i64)]))) := []
theorem ok (k : Nat) : EnvOk Tryz.prog (90, sig k) := fnP SS d E O sig (fun _ => rfl) Tryz.func90 (by kernel_rfl) rfl (fun k => ⟨metrics_Table_of.ok k, trivial⟩) trivial (by kernel_rfl) (fun _ => pn) (fun k x => by kernel_rfl) k
end metrics_Table_Hyphen
namespace scaled_Add
def f (k : Nat) (a0 : Int) (a1 : Int) : Option Int := (scaled_Clamp.f k a0).bind fun r => (scaled_Clamp.f k a1).bind fun r2 => (scaled_Clamp.f k (wrap64 (r + r2))).bind fun r3 => some r3
def sig (k : Nat) : Sig := .p [(false, (.i .i64)), (false, (.i .i64))] [.c false (.i .i64)] fun x => f k x.1 x.2.1
def E (k : Nat) : List (Nat × Sig) := [(125, scaled_Clamp.sig k)]
noncomputable def d : FD := ⟨112, Tryz.f112, 11, 11, [], [], [], [], [.tmp 4], .n⟩
def O (k : Nat) : List (Orc (denR ([.c false (.i .i64)]))) := []
theorem ok (k : Nat) : EnvOk Tryz.prog (112, sig k) := fnP SS d E O sig (fun _ => rfl) Tryz.func112 (by kernel_rfl) rfl (fun k => ⟨scaled_Clamp.ok k, trivial⟩) trivial (by kernel_rfl) (fun _ => pn) (fun k x => by kernel_rfl) k
end scaled_Add
namespace items_builder_box
mutual
def j0 : Nat → Int → Int → A10 → Option A9
 | 0, _, _, _ => none
 | k + 1, t, t2, t3 => if 0 ≤ t2 ∧ t2 < (t3.2.1.length : Int) then ((t3.2.1[t2.toNat]?).bind fun e3 => some (t3.1, t3.2.1.set t2.toNat (e3.1, e3.2.1, e3.2.2.1, e3.2.2.2.1, e3.2.2.2.2.1, e3.2.2.2.2.2.1, e3.2.2.2.2.2.2.1, e3.2.2.2.2.2.2.2.1, t), t3.2.2.1, t3.2.2.2)) else none
def j1 : Nat → Int → Int → Int → Int → A10 → Option A9
 | 0, _, _, _, _, _ => none
 | k + 1, t4, t5, t6, t7, t8 => (items_builder_put.f k t8 (1, t4, 0, 0, (false), 0, (false), t6, t7)).bind fun r2 => some (r2.1, r2.2.1, t5, (true))
end
def f (k : Nat) (a0 : A10) (a1 : Int) (a2 : Int) (a3 : Int) (a4 : Int) : Option A9 := if a0.2.2.2 = true then (if (decide (a0.2.2.1 = a2)) = true then (if 0 ≤ (wrap64 ((a0.2.1.length : Int) - 1)) ∧ (wrap64 ((a0.2.1.length : Int) - 1)) < (a0.2.1.length : Int) then ((a0.2.1[(wrap64 ((a0.2.1.length : Int) - 1)).toNat]?).bind fun e => (scaled_Add.f k e.2.1 a1).bind fun r => if 0 ≤ (wrap64 ((a0.2.1.length : Int) - 1)) ∧ (wrap64 ((a0.2.1.length : Int) - 1)) < (a0.2.1.length : Int) then ((a0.2.1[(wrap64 ((a0.2.1.length : Int) - 1)).toNat]?).bind fun e2 => j0 k a4 (wrap64 ((a0.2.1.length : Int) - 1)) (a0.1, a0.2.1.set ((wrap64 ((a0.2.1.length : Int) - 1)).toNat) (e2.1, r, e2.2.2.1, e2.2.2.2.1, e2.2.2.2.2.1, e2.2.2.2.2.2.1, e2.2.2.2.2.2.2.1, e2.2.2.2.2.2.2.2.1, e2.2.2.2.2.2.2.2.2), a0.2.2.1, a0.2.2.2)) else none) else none) else (j1 k a1 a2 a3 a4 a0)) else (j1 k a1 a2 a3 a4 a0)
def sig (k : Nat) : Sig := .l y89 [(false, (.i .i64)), (false, (.i .i64)), (false, (.i .i64)), (false, (.i .i64))] [] fun b x => f k b x.1 x.2.1 x.2.2.1 x.2.2.2.1
def E (k : Nat) : List (Nat × Sig) := [(88, items_builder_put.sig k), (112, scaled_Add.sig k)]
noncomputable def d : FD := ⟨91, Tryz.f91, 67, 71, [(0, 67, 4)], [0], [], [], [], .j 1 (.s .n (.s .n (.s (.j 0 .n .n) .n))) .n⟩
abbrev s0 : Sh := [(0, .at_ 67), (4, .v (.i .i64)), (10, .v (.i .i64)), (67, .box y89)]
abbrev s1 : Sh := [(0, .at_ 67), (1, .v (.i .i64)), (2, .v (.i .i64)), (3, .v (.i .i64)), (4, .v (.i .i64)), (67, .box y89)]
def O (k : Nat) : List (Orc (denR ([] ++ [.c true y89]))) := [⟨s0, fun y => j0 k y.2.1 y.2.2.1 y.2.2.2.1⟩, ⟨s1, fun y => j1 k y.2.1 y.2.2.1 y.2.2.2.1 y.2.2.2.2.1 y.2.2.2.2.2.1⟩]
theorem e0 (k : Nat) (y : denS s0) : j0 (k + 1) y.2.1 y.2.2.1 y.2.2.2.1 = SS.evL d E y89 O k [0, 1, 1, 0, 1] s0 y := by rw [j0]; kernel_rfl
theorem e1 (k : Nat) (y : denS s1) : j1 (k + 1) y.2.1 y.2.2.1 y.2.2.2.1 y.2.2.2.2.1 y.2.2.2.2.2.1 = SS.evL d E y89 O k [1] s1 y := by rw [j1]; kernel_rfl
theorem ok (k : Nat) : EnvOk Tryz.prog (91, sig k) := fnL SS d E O sig (fun _ => rfl) Tryz.func91 (by kernel_rfl) rfl (fun k => ⟨items_builder_put.ok k, scaled_Add.ok k, trivial⟩) ⟨fun _ => rfl, fun _ => rfl, trivial⟩ (by kernel_rfl) (fun k => pc 0 rfl (e0 k) <| pc 1 rfl (e1 k) <| pn) (fun k b x => by kernel_rfl) k
end items_builder_box
namespace metrics_lookup
mutual
def l0 : Nat → Int → Int → Int → A0 → Option Int
 | 0, _, _, _, _ => none
 | k + 1, r, low, high, s => if (decide (low < high)) = true then ((at? s.2.2.2.2.2.2.1 (wrap64 ((wrap64 (low + high)).tdiv 2))).bind fun e => if (decide (e.2.1 < r)) = true then (l0 k r (wrap64 ((wrap64 ((wrap64 (low + high)).tdiv 2)) + 1)) high s) else (l0 k r low (wrap64 ((wrap64 (low + high)).tdiv 2)) s)) else (if (decide (low < (s.2.2.2.2.2.2.1.length : Int))) = true then ((at? s.2.2.2.2.2.2.1 low).bind fun e2 => if (decide (e2.1 ≤ r)) = true then ((at? s.2.2.2.2.2.2.1 low).bind fun e3 => some e3.2.2) else (j1 k s)) else (j1 k s))
def j1 : Nat → A0 → Option Int
 | 0, _ => none
 | k + 1, s2 => some s2.2.2.2.2.2.1
end
def f (k : Nat) (a0 : A0) (a1 : Int) : Option Int := l0 k a1 0 (a0.2.2.2.2.2.2.1.length : Int) a0
def sig (k : Nat) : Sig := .p [(true, y9), (false, (.i .i64))] [.c false (.i .i64)] fun x => f k x.1 x.2.1
def E (k : Nat) : List (Nat × Sig) := []
noncomputable def d : FD := ⟨113, Tryz.f113, 52, 60, [(2, 52, 8)], [], [], [], [.tmp 4], .s .n (.s .n (.s (.s (.l 0 .n) .n) (.j 1 .n .n)))⟩
abbrev s0 : Sh := [(1, .v (.i .i64)), (2, .at_ 52), (5, .v (.i .i64)), (6, .v (.i .i64)), (52, .box y9)]
abbrev s1 : Sh := [(2, .at_ 52), (52, .box y9)]
def O (k : Nat) : List (Orc (denR ([.c false (.i .i64)]))) := [⟨s0, fun y => l0 k y.1 y.2.2.1 y.2.2.2.1 y.2.2.2.2.1⟩, ⟨s1, fun y => j1 k y.2.1⟩]
theorem e0 (k : Nat) (y : denS s0) : l0 (k + 1) y.1 y.2.2.1 y.2.2.2.1 y.2.2.2.2.1 = SS.ev d E O k [1, 1, 0, 0, 0] s0 y := by rw [l0]; kernel_rfl
theorem e1 (k : Nat) (y : denS s1) : j1 (k + 1) y.2.1 = SS.ev d E O k [1, 1, 1, 1] s1 y := by rw [j1]; kernel_rfl
theorem ok (k : Nat) : EnvOk Tryz.prog (113, sig k) := fnP SS d E O sig (fun _ => rfl) Tryz.func113 (by kernel_rfl) rfl (fun k => trivial) ⟨fun _ => rfl, fun _ => rfl, trivial⟩ (by kernel_rfl) (fun k => pc 0 rfl (e0 k) <| pc 1 rfl (e1 k) <| pn) (fun k x => by kernel_rfl) k
end metrics_lookup
namespace metrics_Table_Width
mutual
def j0 : Nat → Int → Int → Bool → A0 → Option Int
 | 0, _, _, _, _ => none
 | k + 1, r3, t, t2, s => if t2 = true then (some s.2.1) else (if (decide (t = 3)) = true then (j1 k r3 true s) else (if (decide (t = 4)) = true then (j1 k r3 true s) else (if (decide (t = 5)) = true then (j1 k r3 true s) else (if (decide (t = 7)) = true then (j1 k r3 true s) else (j1 k r3 (decide (t = 8)) s)))))
def j1 : Nat → Int → Bool → A0 → Option Int
 | 0, _, _, _ => none
 | k + 1, r4, t3, s2 => if t3 = true then (some 0) else ((metrics_lookup.f k s2 (wrap64 (r4))).bind fun r5 => some r5)
end
def f (k : Nat) (a0 : A1) (a1 : Int) (a2 : Int) : Option Int := (metrics_Table_of.f k a0 a1).bind fun r => (runes_Kind.f k a2).bind fun r2 => if (decide (r2 = 1)) = true then (j0 k a2 r2 true r) else (j0 k a2 r2 (decide (r2 = 2)) r)
def sig (k : Nat) : Sig := .p [(false, y66), (false, (.i .i64)), (false, (.i .i32))] [.c false (.i .i64)] fun x => f k x.1 x.2.1 x.2.2.1
def E (k : Nat) : List (Nat × Sig) := [(62, runes_Kind.sig k), (109, metrics_Table_of.sig k), (113, metrics_lookup.sig k)]
noncomputable def d : FD := ⟨92, Tryz.f92, 28, 36, [(7, 28, 8)], [], [], [], [.tmp 6], .s .n (.s .n (.s (.s .n (.s (.j 0 .n (.s .n (.j 1 .n .n))) .n)) .n))⟩
abbrev s0 : Sh := [(2, .v (.i .i32)), (7, .at_ 28), (12, .v (.i .i64)), (13, .v .b), (28, .box y64)]
abbrev s1 : Sh := [(2, .v (.i .i32)), (7, .at_ 28), (18, .v .b), (28, .box y64)]
def O (k : Nat) : List (Orc (denR ([.c false (.i .i64)]))) := [⟨s0, fun y => j0 k y.1 y.2.2.1 y.2.2.2.1 y.2.2.2.2.1⟩, ⟨s1, fun y => j1 k y.1 y.2.2.1 y.2.2.2.1⟩]
theorem e1 (k : Nat) (y : denS s1) : j1 (k + 1) y.1 y.2.2.1 y.2.2.2.1 = SS.ev d E O k [1, 1, 0, 1, 0, 1, 1, 1] s1 y := by rw [j1]; kernel_rfl
theorem e0 (k : Nat) (y : denS s0) : j0 (k + 1) y.1 y.2.2.1 y.2.2.2.1 y.2.2.2.2.1 = SS.ev d E O k [1, 1, 0, 1, 0, 1] s0 y := by rw [j0]; kernel_rfl
theorem ok (k : Nat) : EnvOk Tryz.prog (92, sig k) := fnP SS d E O sig (fun _ => rfl) Tryz.func92 (by kernel_rfl) rfl (fun k => ⟨runes_Kind.ok k, metrics_Table_of.ok k, metrics_lookup.ok k, trivial⟩) ⟨fun _ => rfl, fun _ => rfl, trivial⟩ (by kernel_rfl) (fun k => pc 1 rfl (e1 k) <| pc 0 rfl (e0 k) <| pn) (fun k x => by kernel_rfl) k
end metrics_Table_Width
namespace items_builder_rune
def f (k : Nat) (a0 : A10) (a1 : Int) (a2 : Int) (a3 : Int) (a4 : Int) : Option A9 := (runes_Kind.f k a1).bind fun r => if (decide (r = 1)) = true then ((metrics_Table_Space.f k a0.1 a2).bind fun r2 => (items_builder_put.f k a0 (2, r2.1, r2.2.1, r2.2.2, (false), 0, (false), a3, a4)).bind fun r3 => some r3) else (if (decide (r = 3)) = true then ((metrics_Table_Hyphen.f k a0.1 a2).bind fun r4 => (items_builder_put.f k a0 (3, r4, 0, 0, (false), 50, (true), a3, a4)).bind fun r5 => some r5) else (if (decide (r = 4)) = true then ((items_builder_put.f k a0 (3, 0, 0, 0, (false), 0, (false), a3, a4)).bind fun r6 => some r6) else (if (decide (r = 5)) = true then ((items_builder_put.f k a0 (3, 0, 0, 0, (false), 10000, (false), a3, a4)).bind fun r7 => some r7) else (if (decide (r = 7)) = true then ((items_builder_end.f k a0 a3 a4).bind fun r8 => some r8) else (if (decide (r = 6)) = true then ((metrics_Table_Width.f k a0.1 a2 a1).bind fun r9 => (items_builder_box.f k a0 r9 a2 a3 a4).bind fun r10 => (items_builder_put.f k r10 (3, 0, 0, 0, (false), 50, (true), a4, a4)).bind fun r11 => some r11) else ((metrics_Table_Width.f k a0.1 a2 a1).bind fun r12 => (items_builder_box.f k a0 r12 a2 a3 a4).bind fun r13 => some r13))))))
def sig (k : Nat) : Sig := .l y89 [(false, (.i .i32)), (false, (.i .i64)), (false, (.i .i64)), (false, (.i .i64))] [] fun b x => f k b x.1 x.2.1 x.2.2.1 x.2.2.2.1
def E (k : Nat) : List (Nat × Sig) := [(62, runes_Kind.sig k), (63, items_builder_end.sig k), (88, items_builder_put.sig k), (89, metrics_Table_Space.sig k), (90, metrics_Table_Hyphen.sig k), (91, items_builder_box.sig k), (92, metrics_Table_Width.sig k)]
noncomputable def d : FD := ⟨64, Tryz.f64, 99, 103, [(0, 99, 4)], [0], [], [], [], .n⟩
def O (k : Nat) : List (Orc (denR ([] ++ [.c true y89]))) := []
theorem ok (k : Nat) : EnvOk Tryz.prog (64, sig k) := fnL SS d E O sig (fun _ => rfl) Tryz.func64 (by kernel_rfl) rfl (fun k => ⟨runes_Kind.ok k, items_builder_end.ok k, items_builder_put.ok k, metrics_Table_Space.ok k, metrics_Table_Hyphen.ok k, items_builder_box.ok k, metrics_Table_Width.ok k, trivial⟩) trivial (by kernel_rfl) (fun _ => pn) (fun k b x => by kernel_rfl) k
end items_builder_rune
namespace items_Build
mutual
def l0 : Nat → ByteArray → (List api_Run) → Int → Int → Int → A8 → A10 → Option A12
 | 0, _, _, _, _, _, _, _ => none
 | k + 1, t, t2, t3, t4, t5, t6, t7 => if t6.2 < t6.1.size then (l1 k t t2 t4 t5 (t6.2 : Int) ((Utf8.decode t6.1 t6.2).1 : Int) (t6.1, (t6.2 + (Utf8.decode t6.1 t6.2).2)) t7) else ((items_builder_end.f k t7 t3 t3).bind fun r2 => some (r2.2.1, 0))
def l1 : Nat → ByteArray → (List api_Run) → Int → Int → Int → Int → A8 → A10 → Option A12
 | 0, _, _, _, _, _, _, _, _ => none
 | k + 1, t8, t9, t10, t11, t12, t13, t14, t15 => if (decide (t11 = 0)) = true then ((at? t9 (wrap64 (t10 + 1))).bind fun e => l1 k t8 t9 (wrap64 (t10 + 1)) e.1 t12 t13 (t14.1, t14.2) t15) else ((sSub t8 t12 (t8.size : Int)).bind fun v => (runes_First.f k v).bind fun r3 => if (decide (0 < r3.2)) = true then (j2 k t8 t9 t10 t11 t12 t13 (wrap64 (t12 + r3.2)) (t14.1, t14.2) t15) else (j2 k t8 t9 t10 t11 t12 t13 (t8.size : Int) (t14.1, t14.2) t15))
def j2 : Nat → ByteArray → (List api_Run) → Int → Int → Int → Int → Int → A8 → A10 → Option A12
 | 0, _, _, _, _, _, _, _, _, _ => none
 | k + 1, t16, t17, t18, t19, t20, t21, t22, t23, t24 => (runes_Kind.f k t21).bind fun r4 => if (decide (r4 = 8)) = true then ((items_builder_end.f k t24 t20 t22).bind fun r5 => some (r5.2.1, 0)) else ((at? t17 t18).bind fun e2 => (items_builder_rune.f k t24 t21 e2.2 t20 t22).bind fun r6 => l0 k t16 t17 t22 t18 (wrap64 (t19 - (wrap64 (t22 - t20)))) (t23.1, t23.2) r6)
end
def f (k : Nat) (a0 : A1) (a1 : ByteArray) (a2 : (List api_Run)) : Option A12 := (items_Check.f k a0 a1 a2).bind fun r => if (!decide (r = 0)) = true then (some (([] : List api_Item), r)) else (l0 k a1 a2 0 (-1) 0 (a1, 0) (a0, ([] : List api_Item), 0, (false)))
def sig (k : Nat) : Sig := .p [(false, y66), (false, .s), (false, y55)] [.c false y29, .c false (.i .i64)] fun x => f k x.1 x.2.1 x.2.2.1
def E (k : Nat) : List (Nat × Sig) := [(60, items_Check.sig k), (61, runes_First.sig k), (62, runes_Kind.sig k), (63, items_builder_end.sig k), (64, items_builder_rune.sig k)]
noncomputable def d : FD := ⟨26, Tryz.f26, 92, 96, [(27, 92, 4)], [], [6], [], [.tmp 6, .tmp 7], .s .n (.s .n (.s .n (.s .n (.s (.s .n (.s (.l 0 (.s .n (.s .n (.s (.s .n (.s (.s (.l 1 .n) .n) (.s .n (.j 2 .n .n)))) .n)))) .n)) .n))))⟩
abbrev s0 : Sh := [(1, .v .s), (2, .v y55), (9, .at_ 92), (10, .v (.i .i64)), (11, .v (.i .i64)), (12, .v (.i .i64)), (29, .it), (92, .box y89)]
abbrev s1 : Sh := [(1, .v .s), (2, .v y55), (9, .at_ 92), (11, .v (.i .i64)), (12, .v (.i .i64)), (13, .v (.i .i64)), (14, .v (.i .i32)), (29, .it), (92, .box y89)]
abbrev s2 : Sh := [(1, .v .s), (2, .v y55), (9, .at_ 92), (11, .v (.i .i64)), (12, .v (.i .i64)), (13, .v (.i .i64)), (14, .v (.i .i32)), (15, .v (.i .i64)), (29, .it), (92, .box y89)]
def O (k : Nat) : List (Orc (denR ([.c false y29, .c false (.i .i64)]))) := [⟨s0, fun y => l0 k y.1 y.2.1 y.2.2.2.1 y.2.2.2.2.1 y.2.2.2.2.2.1 y.2.2.2.2.2.2.1 y.2.2.2.2.2.2.2.1⟩, ⟨s1, fun y => l1 k y.1 y.2.1 y.2.2.2.1 y.2.2.2.2.1 y.2.2.2.2.2.1 y.2.2.2.2.2.2.1 y.2.2.2.2.2.2.2.1 y.2.2.2.2.2.2.2.2.1⟩, ⟨s2, fun y => j2 k y.1 y.2.1 y.2.2.2.1 y.2.2.2.2.1 y.2.2.2.2.2.1 y.2.2.2.2.2.2.1 y.2.2.2.2.2.2.2.1 y.2.2.2.2.2.2.2.2.1 y.2.2.2.2.2.2.2.2.2.1⟩]
theorem e1 (k : Nat) (y : denS s1) : l1 (k + 1) y.1 y.2.1 y.2.2.2.1 y.2.2.2.2.1 y.2.2.2.2.2.1 y.2.2.2.2.2.2.1 y.2.2.2.2.2.2.2.1 y.2.2.2.2.2.2.2.2.1 = SS.ev d E O k [1, 1, 1, 1, 0, 1, 0, 0, 1, 1, 0, 1, 0, 0, 0] s1 y := by rw [l1]; kernel_rfl
theorem e2 (k : Nat) (y : denS s2) : j2 (k + 1) y.1 y.2.1 y.2.2.2.1 y.2.2.2.2.1 y.2.2.2.2.2.1 y.2.2.2.2.2.2.1 y.2.2.2.2.2.2.2.1 y.2.2.2.2.2.2.2.2.1 y.2.2.2.2.2.2.2.2.2.1 = SS.ev d E O k [1, 1, 1, 1, 0, 1, 0, 0, 1, 1, 0, 1, 1, 1, 1] s2 y := by rw [j2]; kernel_rfl
theorem e0 (k : Nat) (y : denS s0) : l0 (k + 1) y.1 y.2.1 y.2.2.2.1 y.2.2.2.2.1 y.2.2.2.2.2.1 y.2.2.2.2.2.2.1 y.2.2.2.2.2.2.2.1 = SS.ev d E O k [1, 1, 1, 1, 0, 1, 0, 0] s0 y := by rw [l0]; kernel_rfl
theorem ok (k : Nat) : EnvOk Tryz.prog (26, sig k) := fnP SS d E O sig (fun _ => rfl) Tryz.func26 (by kernel_rfl) rfl (fun k => ⟨items_Check.ok k, runes_First.ok k, runes_Kind.ok k, items_builder_end.ok k, items_builder_rune.ok k, trivial⟩) ⟨fun _ => rfl, fun _ => rfl, fun _ => rfl, trivial⟩ (by kernel_rfl) (fun k => pc 1 rfl (e1 k) <| pc 2 rfl (e2 k) <| pc 0 rfl (e0 k) <| pn) (fun k x => by kernel_rfl) k
end items_Build
namespace measure_Check
mutual
def l0 : Nat → (List Int) → Int → Int → api_Settings → Option Int
 | 0, _, _, _, _ => none
 | k + 1, t, t2, t3, s => if (decide (t3 < t2)) = true then (if 0 ≤ t3 ∧ t3 < (t.length : Int) then ((t[t3.toNat]?).bind fun e => if (decide (e < 0)) = true then (some 80) else (if (decide (10000 < e)) = true then (some 80) else (l0 k t t2 (wrap64 (t3 + 1)) s))) else none) else (l1 k ([s.2.2.1, s.2.2.2.1, s.2.2.2.2.1] : List Int) (([s.2.2.1, s.2.2.2.1, s.2.2.2.2.1] : List Int).length : Int) 0 s)
def l1 : Nat → (List Int) → Int → Int → api_Settings → Option Int
 | 0, _, _, _, _ => none
 | k + 1, t4, t5, t6, s2 => if (decide (t6 < t5)) = true then (if 0 ≤ t6 ∧ t6 < (t4.length : Int) then ((t4[t6.toNat]?).bind fun e2 => if (decide (e2 < 0)) = true then (some 80) else (if (decide (1048576 < e2)) = true then (some 80) else (l1 k t4 t5 (wrap64 (t6 + 1)) s2))) else none) else (l2 k ([s2.2.2.2.2.2.1, s2.2.2.2.2.2.2] : List Int) (([s2.2.2.2.2.2.1, s2.2.2.2.2.2.2] : List Int).length : Int) 0)
def l2 : Nat → (List Int) → Int → Int → Option Int
 | 0, _, _, _ => none
 | k + 1, t7, t8, t9 => if (decide (t9 < t8)) = true then (if 0 ≤ t9 ∧ t9 < (t7.length : Int) then ((t7[t9.toNat]?).bind fun e3 => if (decide (e3 < 1)) = true then (some 80) else (if (decide (100 < e3)) = true then (some 80) else (l2 k t7 t8 (wrap64 (t9 + 1))))) else none) else (some 0)
end
def f (k : Nat) (a0 : api_Settings) : Option Int := l0 k ([a0.1, a0.2.1] : List Int) (([a0.1, a0.2.1] : List Int).length : Int) 0 a0
def sig (k : Nat) : Sig := .p [(true, y92)] [.c false (.i .i64)] fun x => f k x.1
def E (k : Nat) : List (Nat × Sig) := []
noncomputable def d : FD := ⟨65, Tryz.f65, 62, 69, [(1, 62, 7)], [], [], [], [.tmp 2], .s .n (.s (.s .n (.s (.l 0 .n) .n)) (.s (.s .n (.s (.l 1 .n) .n)) (.s (.s .n (.s (.l 2 .n) .n)) .n)))⟩
abbrev s0 : Sh := [(1, .at_ 62), (13, .v y10), (14, .v (.i .i64)), (15, .v (.i .i64)), (62, .box y92)]
abbrev s1 : Sh := [(1, .at_ 62), (32, .v y10), (33, .v (.i .i64)), (34, .v (.i .i64)), (62, .box y92)]
abbrev s2 : Sh := [(49, .v y10), (50, .v (.i .i64)), (51, .v (.i .i64))]
def O (k : Nat) : List (Orc (denR ([.c false (.i .i64)]))) := [⟨s0, fun y => l0 k y.2.1 y.2.2.1 y.2.2.2.1 y.2.2.2.2.1⟩, ⟨s1, fun y => l1 k y.2.1 y.2.2.1 y.2.2.2.1 y.2.2.2.2.1⟩, ⟨s2, fun y => l2 k y.1 y.2.1 y.2.2.1⟩]
theorem e0 (k : Nat) (y : denS s0) : l0 (k + 1) y.2.1 y.2.2.1 y.2.2.2.1 y.2.2.2.2.1 = SS.ev d E O k [1, 0, 1, 0, 0] s0 y := by rw [l0]; kernel_rfl
theorem e1 (k : Nat) (y : denS s1) : l1 (k + 1) y.2.1 y.2.2.1 y.2.2.2.1 y.2.2.2.2.1 = SS.ev d E O k [1, 1, 0, 1, 0, 0] s1 y := by rw [l1]; kernel_rfl
theorem e2 (k : Nat) (y : denS s2) : l2 (k + 1) y.1 y.2.1 y.2.2.1 = SS.ev d E O k [1, 1, 1, 0, 1, 0, 0] s2 y := by rw [l2]; kernel_rfl
theorem ok (k : Nat) : EnvOk Tryz.prog (65, sig k) := fnP SS d E O sig (fun _ => rfl) Tryz.func65 (by kernel_rfl) rfl (fun k => trivial) ⟨fun _ => rfl, fun _ => rfl, fun _ => rfl, trivial⟩ (by kernel_rfl) (fun k => pc 0 rfl (e0 k) <| pc 1 rfl (e1 k) <| pc 2 rfl (e2 k) <| pn) (fun k x => by kernel_rfl) k
end measure_Check
namespace breaks_Check
mutual
def j0 : Nat → api_Settings → Option Int
 | 0, _ => none
 | k + 1, set_ => (measure_Check.f k set_).bind fun r => some r
end
def f (k : Nat) (a0 : Int) (a1 : api_Settings) : Option Int := if (decide (a0 < 1)) = true then (some 41) else (if (decide (1073741824 < a0)) = true then (some 41) else (j0 k a1))
def sig (k : Nat) : Sig := .p [(false, (.i .i64)), (true, y92)] [.c false (.i .i64)] fun x => f k x.1 x.2.1
def E (k : Nat) : List (Nat × Sig) := [(65, measure_Check.sig k)]
noncomputable def d : FD := ⟨27, Tryz.f27, 13, 20, [(3, 13, 7)], [], [], [], [.tmp 4], .s .n (.j 0 .n .n)⟩
abbrev s0 : Sh := [(3, .at_ 13), (13, .box y92)]
def O (k : Nat) : List (Orc (denR ([.c false (.i .i64)]))) := [⟨s0, fun y => j0 k y.2.1⟩]
theorem e0 (k : Nat) (y : denS s0) : j0 (k + 1) y.2.1 = SS.ev d E O k [1, 1] s0 y := by rw [j0]; kernel_rfl
theorem ok (k : Nat) : EnvOk Tryz.prog (27, sig k) := fnP SS d E O sig (fun _ => rfl) Tryz.func27 (by kernel_rfl) rfl (fun k => ⟨measure_Check.ok k, trivial⟩) ⟨fun _ => rfl, trivial⟩ (by kernel_rfl) (fun k => pc 0 rfl (e0 k) <| pn) (fun k x => by kernel_rfl) k
end breaks_Check
namespace measure_Para_Ends
def f (k : Nat) (a0 : measure_Para) : Option Int := some (a0.2.2.2.2.2.2.2.length : Int)
def sig (k : Nat) : Sig := .p [(false, y45)] [.c false (.i .i64)] fun x => f k x.1
def E (k : Nat) : List (Nat × Sig) := []
noncomputable def d : FD := ⟨93, Tryz.f93, 8, 8, [], [], [], [], [.tmp 2], .n⟩
def O (k : Nat) : List (Orc (denR ([.c false (.i .i64)]))) := []
theorem ok (k : Nat) : EnvOk Tryz.prog (93, sig k) := fnP SS d E O sig (fun _ => rfl) Tryz.func93 (by kernel_rfl) rfl (fun k => trivial) trivial (by kernel_rfl) (fun _ => pn) (fun k x => by kernel_rfl) k
end measure_Para_Ends
namespace measure_Para_End
mutual
def j0 : Nat → measure_Para → Int → Option Int
 | 0, _, _ => none
 | k + 1, p, n => (at? p.2.2.2.2.2.2.2 n).bind fun e => some e
end
def f (k : Nat) (a0 : measure_Para) (a1 : Int) : Option Int := if (decide (a1 < 0)) = true then (some (-1)) else (if (decide ((a0.2.2.2.2.2.2.2.length : Int) ≤ a1)) = true then (some (-1)) else (j0 k a0 a1))
def sig (k : Nat) : Sig := .p [(false, y45), (false, (.i .i64))] [.c false (.i .i64)] fun x => f k x.1 x.2.1
def E (k : Nat) : List (Nat × Sig) := []
noncomputable def d : FD := ⟨94, Tryz.f94, 23, 23, [], [], [], [], [.tmp 4], .s .n (.j 0 .n .n)⟩
abbrev s0 : Sh := [(0, .v y45), (1, .v (.i .i64))]
def O (k : Nat) : List (Orc (denR ([.c false (.i .i64)]))) := [⟨s0, fun y => j0 k y.1 y.2.1⟩]
theorem e0 (k : Nat) (y : denS s0) : j0 (k + 1) y.1 y.2.1 = SS.ev d E O k [1, 1] s0 y := by rw [j0]; kernel_rfl
theorem ok (k : Nat) : EnvOk Tryz.prog (94, sig k) := fnP SS d E O sig (fun _ => rfl) Tryz.func94 (by kernel_rfl) rfl (fun k => trivial) ⟨fun _ => rfl, trivial⟩ (by kernel_rfl) (fun k => pc 0 rfl (e0 k) <| pn) (fun k x => by kernel_rfl) k
end measure_Para_End
namespace breaks_search_forced
mutual
def l0 : Nat → Int → Int → breaks_search → Option breaks_search
 | 0, _, _, _ => none
 | k + 1, last, k_, s => if (decide (0 ≤ k_)) = true then (if 0 ≤ (wrap64 (k_ + 1)) ∧ (wrap64 (k_ + 1)) < (s.2.2.2.2.2.2.2.2.2.2.2.length : Int) then ((s.2.2.2.2.2.2.2.2.2.2.2[(wrap64 (k_ + 1)).toNat]?).bind fun e2 => (measure_Para_End.f k s.1 k_).bind fun r2 => (measure_Para_Item.f k s.1 r2).bind fun r3 => (items_Forced.f k r3).bind fun r4 => if r4 = true then (j1 k k_ k_ (s.1, s.2.1, s.2.2.1, s.2.2.2.1, s.2.2.2.2.1, s.2.2.2.2.2.1, s.2.2.2.2.2.2.1, s.2.2.2.2.2.2.2.1, s.2.2.2.2.2.2.2.2.1, s.2.2.2.2.2.2.2.2.2.1, s.2.2.2.2.2.2.2.2.2.2.1, s.2.2.2.2.2.2.2.2.2.2.2.set ((wrap64 (k_ + 1)).toNat) last)) else (j1 k last k_ (s.1, s.2.1, s.2.2.1, s.2.2.2.1, s.2.2.2.2.1, s.2.2.2.2.2.1, s.2.2.2.2.2.2.1, s.2.2.2.2.2.2.2.1, s.2.2.2.2.2.2.2.2.1, s.2.2.2.2.2.2.2.2.2.1, s.2.2.2.2.2.2.2.2.2.2.1, s.2.2.2.2.2.2.2.2.2.2.2.set ((wrap64 (k_ + 1)).toNat) last))) else none) else (if 0 ≤ (0 : Int) ∧ (0 : Int) < (s.2.2.2.2.2.2.2.2.2.2.2.length : Int) then ((s.2.2.2.2.2.2.2.2.2.2.2[(0 : Int).toNat]?).bind fun e3 => some (s.1, s.2.1, s.2.2.1, s.2.2.2.1, s.2.2.2.2.1, s.2.2.2.2.2.1, s.2.2.2.2.2.2.1, s.2.2.2.2.2.2.2.1, s.2.2.2.2.2.2.2.2.1, s.2.2.2.2.2.2.2.2.2.1, s.2.2.2.2.2.2.2.2.2.2.1, s.2.2.2.2.2.2.2.2.2.2.2.set ((0 : Int).toNat) last)) else none)
def j1 : Nat → Int → Int → breaks_search → Option breaks_search
 | 0, _, _, _ => none
 | k + 1, last2, k_2, s2 => l0 k last2 (wrap64 (k_2 - 1)) s2
end
def f (k : Nat) (a0 : breaks_search) : Option breaks_search := (measure_Para_Ends.f k a0.1).bind fun r => if (wrap64 (r + 1)) = (wrap64 (r + 1)) ∧ 0 ≤ (wrap64 (r + 1)) ∧ (8 : Int) * (wrap64 (r + 1)) ≤ 281474976710656 then (if 0 ≤ r ∧ r < ((List.replicate ((wrap64 (r + 1)).toNat) 0 : List Int).length : Int) then (((List.replicate ((wrap64 (r + 1)).toNat) 0 : List Int)[r.toNat]?).bind fun e => l0 k (wrap64 (r - 1)) (wrap64 (r - 1)) (a0.1, a0.2.1, a0.2.2.1, a0.2.2.2.1, a0.2.2.2.2.1, a0.2.2.2.2.2.1, a0.2.2.2.2.2.2.1, a0.2.2.2.2.2.2.2.1, a0.2.2.2.2.2.2.2.2.1, a0.2.2.2.2.2.2.2.2.2.1, a0.2.2.2.2.2.2.2.2.2.2.1, (List.replicate ((wrap64 (r + 1)).toNat) 0 : List Int).set r.toNat (wrap64 (r - 1)))) else none) else none
def sig (k : Nat) : Sig := .l y104 [] [] fun b x => f k b
def E (k : Nat) : List (Nat × Sig) := [(46, items_Forced.sig k), (52, measure_Para_Item.sig k), (93, measure_Para_Ends.sig k), (94, measure_Para_End.sig k)]
noncomputable def d : FD := ⟨66, Tryz.f66, 59, 71, [(0, 59, 12)], [0], [], [], [], .s .n (.s .n (.s .n (.s .n (.s (.s .n (.s (.l 0 (.s .n (.j 1 .n .n))) .n)) .n))))⟩
abbrev s0 : Sh := [(0, .at_ 59), (3, .v (.i .i64)), (4, .v (.i .i64)), (59, .box y104)]
abbrev s1 : Sh := [(0, .at_ 59), (3, .v (.i .i64)), (4, .v (.i .i64)), (59, .box y104)]
def O (k : Nat) : List (Orc (denR ([] ++ [.c true y104]))) := [⟨s0, fun y => l0 k y.2.1 y.2.2.1 y.2.2.2.1⟩, ⟨s1, fun y => j1 k y.2.1 y.2.2.1 y.2.2.2.1⟩]
theorem e1 (k : Nat) (y : denS s1) : j1 (k + 1) y.2.1 y.2.2.1 y.2.2.2.1 = SS.evL d E y104 O k [1, 1, 1, 1, 0, 1, 0, 0, 1, 1] s1 y := by rw [j1]; kernel_rfl
theorem e0 (k : Nat) (y : denS s0) : l0 (k + 1) y.2.1 y.2.2.1 y.2.2.2.1 = SS.evL d E y104 O k [1, 1, 1, 1, 0, 1, 0, 0] s0 y := by rw [l0]; kernel_rfl
theorem ok (k : Nat) : EnvOk Tryz.prog (66, sig k) := fnL SS d E O sig (fun _ => rfl) Tryz.func66 (by kernel_rfl) rfl (fun k => ⟨items_Forced.ok k, measure_Para_Item.ok k, measure_Para_Ends.ok k, measure_Para_End.ok k, trivial⟩) ⟨fun _ => rfl, fun _ => rfl, trivial⟩ (by kernel_rfl) (fun k => pc 1 rfl (e1 k) <| pc 0 rfl (e0 k) <| pn) (fun k b x => by kernel_rfl) k
end breaks_search_forced
namespace breaks_search_may
def f (k : Nat) (a0 : breaks_search) (a1 : api_Fit) (a2 : Bool) : Option Bool := if (!a0.2.2.2.2.2.2.2.2.2.1) = true then (if (!a1.2.2.2.2) = true then (some (decide (a1.2.2.1 ≤ a0.2.2.1))) else (some false)) else (if a1.2.2.2.2 = true then (some a2) else (some true))
def sig (k : Nat) : Sig := .p [(false, y117), (true, y52), (false, .b)] [.c false .b] fun x => f k x.1 x.2.1 x.2.2.1
def E (k : Nat) : List (Nat × Sig) := []
noncomputable def d : FD := ⟨116, Tryz.f116, 30, 35, [(4, 30, 5)], [], [], [], [.tmp 6], .n⟩
def O (k : Nat) : List (Orc (denR ([.c false .b]))) := []
theorem ok (k : Nat) : EnvOk Tryz.prog (116, sig k) := fnP SS d E O sig (fun _ => rfl) Tryz.func116 (by kernel_rfl) rfl (fun k => trivial) trivial (by kernel_rfl) (fun _ => pn) (fun k x => by kernel_rfl) k
end breaks_search_may
namespace breaks_search_line
def f (k : Nat) (a0 : breaks_search) (a1 : Int) (a2 : Int) : Option (api_Fit × Bool) := (measure_Para_End.f k a0.1 a1).bind fun r => (measure_Para_End.f k a0.1 a2).bind fun r2 => (measure_Para_Fit.f k a0.1 r r2 a0.2.1).bind fun r3 => (breaks_search_may.f k a0 r3 (decide (a2 = (wrap64 (a1 + 1))))).bind fun r4 => some (r3, r4)
def sig (k : Nat) : Sig := .p [(false, y117), (false, (.i .i64)), (false, (.i .i64))] [.c true y52, .c false .b] fun x => f k x.1 x.2.1 x.2.2.1
def E (k : Nat) : List (Nat × Sig) := [(51, measure_Para_Fit.sig k), (94, measure_Para_End.sig k), (116, breaks_search_may.sig k)]
noncomputable def d : FD := ⟨96, Tryz.f96, 38, 48, [(6, 38, 5), (8, 43, 5)], [], [], [], [.cell 6 92, .tmp 7], .n⟩
def O (k : Nat) : List (Orc (denR ([.c true y52, .c false .b]))) := []
theorem ok (k : Nat) : EnvOk Tryz.prog (96, sig k) := fnP SS d E O sig (fun _ => rfl) Tryz.func96 (by kernel_rfl) rfl (fun k => ⟨measure_Para_Fit.ok k, measure_Para_End.ok k, breaks_search_may.ok k, trivial⟩) trivial (by kernel_rfl) (fun _ => pn) (fun k x => by kernel_rfl) k
end breaks_search_line
namespace measure_Total
def f (k : Nat) (a0 : Int) (a1 : Int) : Option Int := (scaled_Add.f k a0 a1).bind fun r => some (if 1125899906842624 < r then 1125899906842624 else r)
def sig (k : Nat) : Sig := .p [(false, (.i .i64)), (false, (.i .i64))] [.c false (.i .i64)] fun x => f k x.1 x.2.1
def E (k : Nat) : List (Nat × Sig) := [(112, scaled_Add.sig k)]
noncomputable def d : FD := ⟨97, Tryz.f97, 9, 9, [], [], [], [], [.tmp 4], .n⟩
def O (k : Nat) : List (Orc (denR ([.c false (.i .i64)]))) := []
theorem ok (k : Nat) : EnvOk Tryz.prog (97, sig k) := fnP SS d E O sig (fun _ => rfl) Tryz.func97 (by kernel_rfl) rfl (fun k => ⟨scaled_Add.ok k, trivial⟩) trivial (by kernel_rfl) (fun _ => pn) (fun k x => by kernel_rfl) k
end measure_Total
namespace scaled_signed
mutual
def j0 : Nat → Bool → Int → Option Int
 | 0, _, _ => none
 | k + 1, neg, n => if neg = true then (some (wrap64 (-n))) else (some n)
end
def f (k : Nat) (a0 : Bool) (a1 : Int) (a2 : Int) : Option Int := if (decide (a1 = 0)) = true then (if (decide (a2 < 1152921504606846976)) = true then (j0 k a0 (wrap64 (a2))) else (j0 k a0 1152921504606846976)) else (j0 k a0 1152921504606846976)
def sig (k : Nat) : Sig := .p [(false, .b), (false, (.i .u64)), (false, (.i .u64))] [.c false (.i .i64)] fun x => f k x.1 x.2.1 x.2.2.1
def E (k : Nat) : List (Nat × Sig) := []
noncomputable def d : FD := ⟨138, Tryz.f138, 20, 20, [], [], [], [], [.tmp 6], .s .n (.s .n (.j 0 .n .n))⟩
abbrev s0 : Sh := [(0, .v .b), (7, .v (.i .i64))]
def O (k : Nat) : List (Orc (denR ([.c false (.i .i64)]))) := [⟨s0, fun y => j0 k y.1 y.2.1⟩]
theorem e0 (k : Nat) (y : denS s0) : j0 (k + 1) y.1 y.2.1 = SS.ev d E O k [1, 1, 1] s0 y := by rw [j0]; kernel_rfl
theorem ok (k : Nat) : EnvOk Tryz.prog (138, sig k) := fnP SS d E O sig (fun _ => rfl) Tryz.func138 (by kernel_rfl) rfl (fun k => trivial) ⟨fun _ => rfl, trivial⟩ (by kernel_rfl) (fun k => pc 0 rfl (e0 k) <| pn) (fun k x => by kernel_rfl) k
end scaled_signed
namespace scaled_Mul
def f (k : Nat) (a0 : Int) (a1 : Int) : Option Int := (scaled_size.f k a0).bind fun r => (scaled_size.f k a1).bind fun r2 => (bits_Mul64.f k r r2).bind fun r3 => (scaled_signed.f k (!decide ((decide (a0 < 0)) = (decide (a1 < 0)))) r3.1 r3.2).bind fun r4 => some r4
def sig (k : Nat) : Sig := .p [(false, (.i .i64)), (false, (.i .i64))] [.c false (.i .i64)] fun x => f k x.1 x.2.1
def E (k : Nat) : List (Nat × Sig) := [(133, bits_Mul64.sig k), (135, scaled_size.sig k), (138, scaled_signed.sig k)]
noncomputable def d : FD := ⟨136, Tryz.f136, 23, 23, [], [], [], [], [.tmp 4], .n⟩
def O (k : Nat) : List (Orc (denR ([.c false (.i .i64)]))) := []
theorem ok (k : Nat) : EnvOk Tryz.prog (136, sig k) := fnP SS d E O sig (fun _ => rfl) Tryz.func136 (by kernel_rfl) rfl (fun k => ⟨bits_Mul64.ok k, scaled_size.ok k, scaled_signed.ok k, trivial⟩) trivial (by kernel_rfl) (fun _ => pn) (fun k x => by kernel_rfl) k
end scaled_Mul
namespace scaled_Neg
def f (k : Nat) (a0 : Int) : Option Int := (scaled_Clamp.f k a0).bind fun r => some (wrap64 (-r))
def sig (k : Nat) : Sig := .p [(false, (.i .i64))] [.c false (.i .i64)] fun x => f k x.1
def E (k : Nat) : List (Nat × Sig) := [(125, scaled_Clamp.sig k)]
noncomputable def d : FD := ⟨139, Tryz.f139, 6, 6, [], [], [], [], [.tmp 2], .n⟩
def O (k : Nat) : List (Orc (denR ([.c false (.i .i64)]))) := []
theorem ok (k : Nat) : EnvOk Tryz.prog (139, sig k) := fnP SS d E O sig (fun _ => rfl) Tryz.func139 (by kernel_rfl) rfl (fun k => ⟨scaled_Clamp.ok k, trivial⟩) trivial (by kernel_rfl) (fun _ => pn) (fun k x => by kernel_rfl) k
end scaled_Neg
namespace scaled_Sub
def f (k : Nat) (a0 : Int) (a1 : Int) : Option Int := (scaled_Neg.f k a1).bind fun r => (scaled_Add.f k a0 r).bind fun r2 => some r2
def sig (k : Nat) : Sig := .p [(false, (.i .i64)), (false, (.i .i64))] [.c false (.i .i64)] fun x => f k x.1 x.2.1
def E (k : Nat) : List (Nat × Sig) := [(112, scaled_Add.sig k), (139, scaled_Neg.sig k)]
noncomputable def d : FD := ⟨137, Tryz.f137, 9, 9, [], [], [], [], [.tmp 4], .n⟩
def O (k : Nat) : List (Orc (denR ([.c false (.i .i64)]))) := []
theorem ok (k : Nat) : EnvOk Tryz.prog (137, sig k) := fnP SS d E O sig (fun _ => rfl) Tryz.func137 (by kernel_rfl) rfl (fun k => ⟨scaled_Add.ok k, scaled_Neg.ok k, trivial⟩) trivial (by kernel_rfl) (fun _ => pn) (fun k x => by kernel_rfl) k
end scaled_Sub
namespace scaled_Demerits
mutual
def j0 : Nat → Int → Option Int
 | 0, _ => none
 | k + 1, d => some (if 0 < d then d else 0)
end
def f (k : Nat) (a0 : Int) (a1 : Int) (a2 : Int) : Option Int := (scaled_Add.f k a0 a1).bind fun r => (scaled_Mul.f k r r).bind fun r2 => if (decide (0 ≤ a2)) = true then ((scaled_Mul.f k a2 a2).bind fun r3 => (scaled_Add.f k r2 r3).bind fun r4 => j0 k r4) else (if (decide ((-10000) < a2)) = true then ((scaled_Mul.f k a2 a2).bind fun r5 => (scaled_Sub.f k r2 r5).bind fun r6 => j0 k r6) else (j0 k r2))
def sig (k : Nat) : Sig := .p [(false, (.i .i64)), (false, (.i .i64)), (false, (.i .i64))] [.c false (.i .i64)] fun x => f k x.1 x.2.1 x.2.2.1
def E (k : Nat) : List (Nat × Sig) := [(112, scaled_Add.sig k), (136, scaled_Mul.sig k), (137, scaled_Sub.sig k)]
noncomputable def d : FD := ⟨130, Tryz.f130, 33, 33, [], [], [], [], [.tmp 6], .s .n (.s .n (.s .n (.j 0 .n .n)))⟩
abbrev s0 : Sh := [(8, .v (.i .i64))]
def O (k : Nat) : List (Orc (denR ([.c false (.i .i64)]))) := [⟨s0, fun y => j0 k y.1⟩]
theorem e0 (k : Nat) (y : denS s0) : j0 (k + 1) y.1 = SS.ev d E O k [1, 1, 1, 1] s0 y := by rw [j0]; kernel_rfl
theorem ok (k : Nat) : EnvOk Tryz.prog (130, sig k) := fnP SS d E O sig (fun _ => rfl) Tryz.func130 (by kernel_rfl) rfl (fun k => ⟨scaled_Add.ok k, scaled_Mul.ok k, scaled_Sub.ok k, trivial⟩) ⟨fun _ => rfl, trivial⟩ (by kernel_rfl) (fun k => pc 0 rfl (e0 k) <| pn) (fun k x => by kernel_rfl) k
end scaled_Demerits
namespace measure_apart
def f (k : Nat) (a0 : Int) (a1 : Int) : Option Bool := if (decide (1 < (wrap64 (a0 - a1)))) = true then (some true) else (some (decide (1 < (wrap64 (a1 - a0)))))
def sig (k : Nat) : Sig := .p [(false, (.i .i64)), (false, (.i .i64))] [.c false .b] fun x => f k x.1 x.2.1
def E (k : Nat) : List (Nat × Sig) := []
noncomputable def d : FD := ⟨131, Tryz.f131, 15, 15, [], [], [], [], [.tmp 4], .n⟩
def O (k : Nat) : List (Orc (denR ([.c false .b]))) := []
theorem ok (k : Nat) : EnvOk Tryz.prog (131, sig k) := fnP SS d E O sig (fun _ => rfl) Tryz.func131 (by kernel_rfl) rfl (fun k => trivial) trivial (by kernel_rfl) (fun _ => pn) (fun k x => by kernel_rfl) k
end measure_apart
namespace measure_Cost
mutual
def j0 : Nat → Bool → Int → api_Settings → api_Item → measure_Ahead → Option Int
 | 0, _, _, _, _, _ => none
 | k + 1, last, d, s, end_, ahead => if ahead.2 = true then (if end_.2.2.2.2.2.2.1 = true then ((scaled_Add.f k d s.2.2.2.1).bind fun r4 => j1 k last r4 s ahead) else (j1 k last d s ahead)) else (j1 k last d s ahead)
def j1 : Nat → Bool → Int → api_Settings → measure_Ahead → Option Int
 | 0, _, _, _, _ => none
 | k + 1, last2, d2, s2, ahead2 => if ahead2.2 = true then (if last2 = true then ((scaled_Add.f k d2 s2.2.2.2.2.1).bind fun r5 => j2 k r5) else (j2 k d2)) else (j2 k d2)
def j2 : Nat → Int → Option Int
 | 0, _ => none
 | k + 1, d3 => some (if 1125899906842624 < d3 then 1125899906842624 else d3)
end
def f (k : Nat) (a0 : api_Settings) (a1 : api_Fit) (a2 : api_Item) (a3 : measure_Ahead) (a4 : Bool) : Option Int := if a1.2.2.2.2 = true then (some 1125899906842624) else ((scaled_Demerits.f k a0.2.1 a1.2.2.1 a2.2.2.2.2.2.1).bind fun r => if (decide (0 ≤ a3.1)) = true then ((measure_apart.f k a1.2.2.2.1 a3.1).bind fun r2 => if r2 = true then ((scaled_Add.f k r a0.2.2.1).bind fun r3 => j0 k a4 r3 a0 a2 a3) else (j0 k a4 r a0 a2 a3)) else (j0 k a4 r a0 a2 a3))
def sig (k : Nat) : Sig := .p [(true, y92), (true, y52), (true, y27), (true, y49), (false, .b)] [.c false (.i .i64)] fun x => f k x.1 x.2.1 x.2.2.1 x.2.2.2.1 x.2.2.2.2.1
def E (k : Nat) : List (Nat × Sig) := [(112, scaled_Add.sig k), (130, scaled_Demerits.sig k), (131, measure_apart.sig k)]
noncomputable def d : FD := ⟨117, Tryz.f117, 56, 79, [(5, 56, 7), (6, 63, 5), (7, 68, 9), (8, 77, 2)], [], [], [], [.tmp 10], .s .n (.s .n (.s .n (.j 0 .n (.j 1 .n (.j 2 .n .n)))))⟩
abbrev s0 : Sh := [(4, .v .b), (5, .at_ 56), (7, .at_ 68), (8, .at_ 77), (11, .v (.i .i64)), (56, .box y92), (68, .box y27), (77, .box y49)]
abbrev s1 : Sh := [(4, .v .b), (5, .at_ 56), (8, .at_ 77), (11, .v (.i .i64)), (56, .box y92), (77, .box y49)]
abbrev s2 : Sh := [(11, .v (.i .i64))]
def O (k : Nat) : List (Orc (denR ([.c false (.i .i64)]))) := [⟨s0, fun y => j0 k y.1 y.2.2.2.2.1 y.2.2.2.2.2.1 y.2.2.2.2.2.2.1 y.2.2.2.2.2.2.2.1⟩, ⟨s1, fun y => j1 k y.1 y.2.2.2.1 y.2.2.2.2.1 y.2.2.2.2.2.1⟩, ⟨s2, fun y => j2 k y.1⟩]
theorem e2 (k : Nat) (y : denS s2) : j2 (k + 1) y.1 = SS.ev d E O k [1, 1, 1, 1, 1, 1] s2 y := by rw [j2]; kernel_rfl
theorem e1 (k : Nat) (y : denS s1) : j1 (k + 1) y.1 y.2.2.2.1 y.2.2.2.2.1 y.2.2.2.2.2.1 = SS.ev d E O k [1, 1, 1, 1, 1] s1 y := by rw [j1]; kernel_rfl
theorem e0 (k : Nat) (y : denS s0) : j0 (k + 1) y.1 y.2.2.2.2.1 y.2.2.2.2.2.1 y.2.2.2.2.2.2.1 y.2.2.2.2.2.2.2.1 = SS.ev d E O k [1, 1, 1, 1] s0 y := by rw [j0]; kernel_rfl
theorem ok (k : Nat) : EnvOk Tryz.prog (117, sig k) := fnP SS d E O sig (fun _ => rfl) Tryz.func117 (by kernel_rfl) rfl (fun k => ⟨scaled_Add.ok k, scaled_Demerits.ok k, measure_apart.ok k, trivial⟩) ⟨fun _ => rfl, fun _ => rfl, fun _ => rfl, trivial⟩ (by kernel_rfl) (fun k => pc 2 rfl (e2 k) <| pc 1 rfl (e1 k) <| pc 0 rfl (e0 k) <| pn) (fun k x => by kernel_rfl) k
end measure_Cost
namespace breaks_search_cost
mutual
def j0 : Nat → breaks_search → Int → api_Fit → measure_Ahead → Option Int
 | 0, _, _, _, _ => none
 | k + 1, s, j, f, ahead => (measure_Para_End.f k s.1 j).bind fun r3 => (measure_Para_Item.f k s.1 r3).bind fun r4 => (measure_Para_Ends.f k s.1).bind fun r5 => (measure_Cost.f k (s.2.2.1, s.2.2.2.1, s.2.2.2.2.1, s.2.2.2.2.2.1, s.2.2.2.2.2.2.1, s.2.2.2.2.2.2.2.1, s.2.2.2.2.2.2.2.2.1) f r4 ahead (decide (j = (wrap64 (r5 - 1))))).bind fun r6 => some r6
end
def f (k : Nat) (a0 : breaks_search) (a1 : Int) (a2 : Int) (a3 : api_Fit) (a4 : Int) : Option Int := if (decide (0 ≤ a1)) = true then ((measure_Para_End.f k a0.1 a1).bind fun r => (measure_Para_Item.f k a0.1 r).bind fun r2 => j0 k a0 a2 a3 (a4, r2.2.2.2.2.2.2.1)) else (j0 k a0 a2 a3 ((-1), (false)))
def sig (k : Nat) : Sig := .p [(false, y117), (false, (.i .i64)), (false, (.i .i64)), (true, y52), (false, (.i .i64))] [.c false (.i .i64)] fun x => f k x.1 x.2.1 x.2.2.1 x.2.2.2.1 x.2.2.2.2.1
def E (k : Nat) : List (Nat × Sig) := [(52, measure_Para_Item.sig k), (93, measure_Para_Ends.sig k), (94, measure_Para_End.sig k), (117, measure_Cost.sig k)]
noncomputable def d : FD := ⟨98, Tryz.f98, 56, 63, [(8, 56, 5), (11, 61, 2)], [], [], [], [.tmp 10], .s .n (.s .n (.j 0 .n .n))⟩
abbrev s0 : Sh := [(0, .v y117), (2, .v (.i .i64)), (8, .at_ 56), (11, .at_ 61), (56, .box y52), (61, .box y49)]
def O (k : Nat) : List (Orc (denR ([.c false (.i .i64)]))) := [⟨s0, fun y => j0 k y.1 y.2.1 y.2.2.2.2.1 y.2.2.2.2.2.1⟩]
theorem e0 (k : Nat) (y : denS s0) : j0 (k + 1) y.1 y.2.1 y.2.2.2.2.1 y.2.2.2.2.2.1 = SS.ev d E O k [1, 1, 1] s0 y := by rw [j0]; kernel_rfl
theorem ok (k : Nat) : EnvOk Tryz.prog (98, sig k) := fnP SS d E O sig (fun _ => rfl) Tryz.func98 (by kernel_rfl) rfl (fun k => ⟨measure_Para_Item.ok k, measure_Para_Ends.ok k, measure_Para_End.ok k, measure_Cost.ok k, trivial⟩) ⟨fun _ => rfl, trivial⟩ (by kernel_rfl) (fun k => pc 0 rfl (e0 k) <| pn) (fun k x => by kernel_rfl) k
end breaks_search_cost
namespace measure_Para_Bounds
mutual
def j0 : Nat → measure_Para → regletref08_Sum → Option A13
 | 0, _, _ => none
 | k + 1, p, s => some (wrap64 (s.1 - s.2.2.1), wrap64 ((wrap64 (s.1 + (wrap64 (5 * s.2.1)))) + p.2.2.2.2.2.2.1), decide (0 < s.2.2.2))
end
def f (k : Nat) (a0 : measure_Para) (a1 : Int) (a2 : Int) : Option A13 := (measure_Para_Line.f k a0 a1 a2).bind fun r => (measure_Para_Item.f k a0 a2).bind fun r2 => if (decide (r2.1 = 3)) = true then (j0 k a0 (wrap64 (r.1 - r2.2.1), r.2.1, r.2.2.1, r.2.2.2)) else (j0 k a0 r)
def sig (k : Nat) : Sig := .p [(false, y45), (false, (.i .i64)), (false, (.i .i64))] [.c false (.i .i64), .c false (.i .i64), .c false .b] fun x => f k x.1 x.2.1 x.2.2.1
def E (k : Nat) : List (Nat × Sig) := [(52, measure_Para_Item.sig k), (78, measure_Para_Line.sig k)]
noncomputable def d : FD := ⟨115, Tryz.f115, 46, 59, [(9, 46, 4), (10, 50, 9)], [], [], [], [.tmp 6, .tmp 7, .tmp 8], .s .n (.s .n (.j 0 .n .n))⟩
abbrev s0 : Sh := [(0, .v y45), (9, .at_ 46), (46, .box y53)]
def O (k : Nat) : List (Orc (denR ([.c false (.i .i64), .c false (.i .i64), .c false .b]))) := [⟨s0, fun y => j0 k y.1 y.2.2.1⟩]
theorem e0 (k : Nat) (y : denS s0) : j0 (k + 1) y.1 y.2.2.1 = SS.ev d E O k [1, 1, 1] s0 y := by rw [j0]; kernel_rfl
theorem ok (k : Nat) : EnvOk Tryz.prog (115, sig k) := fnP SS d E O sig (fun _ => rfl) Tryz.func115 (by kernel_rfl) rfl (fun k => ⟨measure_Para_Item.ok k, measure_Para_Line.ok k, trivial⟩) ⟨fun _ => rfl, trivial⟩ (by kernel_rfl) (fun k => pc 0 rfl (e0 k) <| pn) (fun k x => by kernel_rfl) k
end measure_Para_Bounds
namespace breaks_search_first
mutual
def j0 : Nat → breaks_search → Int → Int → Option Int
 | 0, _, _, _ => none
 | k + 1, t, t2, t3 => (measure_Para_End.f k t.1 t2).bind fun r => l1 k t (wrap64 (t2 + 1)) t3 r
def l1 : Nat → breaks_search → Int → Int → Int → Option Int
 | 0, _, _, _, _ => none
 | k + 1, t4, t5, t6, t7 => if (decide (t5 < t6)) = true then ((measure_Para_End.f k t4.1 (wrap64 ((wrap64 (t5 + t6)).tdiv 2))).bind fun r2 => (measure_Para_Bounds.f k t4.1 t7 r2).bind fun r3 => if (decide (r3.2.1 < t4.2.1)) = true then (if (!r3.2.2) = true then (l1 k t4 (wrap64 ((wrap64 ((wrap64 (t5 + t6)).tdiv 2)) + 1)) t6 t7) else (l1 k t4 t5 (wrap64 ((wrap64 (t5 + t6)).tdiv 2)) t7)) else (l1 k t4 t5 (wrap64 ((wrap64 (t5 + t6)).tdiv 2)) t7)) else (some t5)
end
def f (k : Nat) (a0 : breaks_search) (a1 : Int) (a2 : Int) : Option Int := if a0.2.2.2.2.2.2.2.2.2.1 = true then (some (wrap64 (a1 + 1))) else (if (decide (10000 ≤ a0.2.2.1)) = true then (some (wrap64 (a1 + 1))) else (j0 k a0 a1 a2))
def sig (k : Nat) : Sig := .p [(false, y117), (false, (.i .i64)), (false, (.i .i64))] [.c false (.i .i64)] fun x => f k x.1 x.2.1 x.2.2.1
def E (k : Nat) : List (Nat × Sig) := [(94, measure_Para_End.sig k), (115, measure_Para_Bounds.sig k)]
noncomputable def d : FD := ⟨114, Tryz.f114, 74, 74, [], [], [], [], [.tmp 6], .s .n (.j 0 .n (.s .n (.s .n (.s (.s (.l 1 .n) .n) .n))))⟩
abbrev s0 : Sh := [(0, .v y117), (1, .v (.i .i64)), (2, .v (.i .i64))]
abbrev s1 : Sh := [(0, .v y117), (7, .v (.i .i64)), (8, .v (.i .i64)), (9, .v (.i .i64))]
def O (k : Nat) : List (Orc (denR ([.c false (.i .i64)]))) := [⟨s0, fun y => j0 k y.1 y.2.1 y.2.2.1⟩, ⟨s1, fun y => l1 k y.1 y.2.1 y.2.2.1 y.2.2.2.1⟩]
theorem e1 (k : Nat) (y : denS s1) : l1 (k + 1) y.1 y.2.1 y.2.2.1 y.2.2.2.1 = SS.ev d E O k [1, 1, 1, 1, 0, 0, 0] s1 y := by rw [l1]; kernel_rfl
theorem e0 (k : Nat) (y : denS s0) : j0 (k + 1) y.1 y.2.1 y.2.2.1 = SS.ev d E O k [1, 1] s0 y := by rw [j0]; kernel_rfl
theorem ok (k : Nat) : EnvOk Tryz.prog (114, sig k) := fnP SS d E O sig (fun _ => rfl) Tryz.func114 (by kernel_rfl) rfl (fun k => ⟨measure_Para_End.ok k, measure_Para_Bounds.ok k, trivial⟩) ⟨fun _ => rfl, fun _ => rfl, trivial⟩ (by kernel_rfl) (fun k => pc 1 rfl (e1 k) <| pc 0 rfl (e0 k) <| pn) (fun k x => by kernel_rfl) k
end breaks_search_first
namespace breaks_search_best
mutual
def l0 : Nat → breaks_search → Int → Int → Int → regletref08_Sum → regletref08_Sum → Option regletref08_Sum
 | 0, _, _, _, _, _, _ => none
 | k + 1, t, t2, t3, t4, t5, t6 => if (decide (t4 ≤ t3)) = true then ((breaks_search_line.f k t t2 t4).bind fun r2 => (measure_Para_End.f k t.1 t2).bind fun r3 => (measure_Para_End.f k t.1 t4).bind fun r4 => (measure_Para_Bounds.f k t.1 r3 r4).bind fun r5 => if (decide (t.2.1 < r5.1)) = true then (if (decide ((wrap64 (t2 + 1)) < t4)) = true then (some t6) else (j1 k t t2 t3 t4 r2.2 t5 t6 r2.1)) else (j1 k t t2 t3 t4 r2.2 t5 t6 r2.1)) else (some t6)
def j1 : Nat → breaks_search → Int → Int → Int → Bool → regletref08_Sum → regletref08_Sum → api_Fit → Option regletref08_Sum
 | 0, _, _, _, _, _, _, _, _ => none
 | k + 1, t7, t8, t9, t10, t11, t12, t13, t14 => if (!t11) = true then (j2 k t7 t8 t9 t10 t12 t13) else ((measure_Para_Ends.f k t7.1).bind fun r6 => if (decide (t10 < (wrap64 (r6 - 1)))) = true then ((at? t7.2.2.2.2.2.2.2.2.2.2.1 t10).bind fun e2 => (at? ([e2.1, e2.2.1, e2.2.2.1, e2.2.2.2] : List Int) t14.2.2.2.1).bind fun e3 => j3 k t7 t8 t9 t10 e3 t12 t13 t14) else (j3 k t7 t8 t9 t10 0 t12 t13 t14))
def j2 : Nat → breaks_search → Int → Int → Int → regletref08_Sum → regletref08_Sum → Option regletref08_Sum
 | 0, _, _, _, _, _, _ => none
 | k + 1, t15, t16, t17, t18, t19, t20 => l0 k t15 t16 t17 (wrap64 (t18 + 1)) t19 t20
def j3 : Nat → breaks_search → Int → Int → Int → Int → regletref08_Sum → regletref08_Sum → api_Fit → Option regletref08_Sum
 | 0, _, _, _, _, _, _, _, _ => none
 | k + 1, t21, t22, t23, t24, t25, t26, t27, t28 => if (decide (t25 = 1125899906842625)) = true then (j2 k t21 t22 t23 t24 t26 t27) else (l4 k t21 t22 t23 t24 t25 0 t26 t27 t28)
def l4 : Nat → breaks_search → Int → Int → Int → Int → Int → regletref08_Sum → regletref08_Sum → api_Fit → Option regletref08_Sum
 | 0, _, _, _, _, _, _, _, _, _ => none
 | k + 1, t29, t30, t31, t32, t33, t34, t35, t36, t37 => if (decide (t34 < 4)) = true then (if 0 ≤ t34 ∧ t34 < (4 : Int) then ((([t36.1, t36.2.1, t36.2.2.1, t36.2.2.2] : List Int)[t34.toNat]?).bind fun e4 => (breaks_search_cost.f k t29 t30 t32 t37 t34).bind fun r7 => (measure_Total.f k r7 t33).bind fun r8 => if 0 ≤ t34 ∧ t34 < (4 : Int) then (if t34.toNat < 4 then (l4 k t29 t30 t31 t32 t33 (wrap64 (t34 + 1)) t35 ((if t34.toNat = 0 then (if r8 < e4 then r8 else e4) else t36.1), (if t34.toNat = 1 then (if r8 < e4 then r8 else e4) else t36.2.1), (if t34.toNat = 2 then (if r8 < e4 then r8 else e4) else t36.2.2.1), (if t34.toNat = 3 then (if r8 < e4 then r8 else e4) else t36.2.2.2)) t37) else none) else none) else none) else (j2 k t29 t30 t31 t32 t35 t36)
end
def f (k : Nat) (a0 : breaks_search) (a1 : Int) : Option regletref08_Sum := (at? a0.2.2.2.2.2.2.2.2.2.2.2 (wrap64 (a1 + 1))).bind fun e => (breaks_search_first.f k a0 a1 e).bind fun r => l0 k a0 a1 e r (0, 0, 0, 0) (1125899906842625, 1125899906842625, 1125899906842625, 1125899906842625)
def sig (k : Nat) : Sig := .p [(false, y117), (false, (.i .i64))] [.c true y53] fun x => f k x.1 x.2.1
def E (k : Nat) : List (Nat × Sig) := [(93, measure_Para_Ends.sig k), (94, measure_Para_End.sig k), (96, breaks_search_line.sig k), (97, measure_Total.sig k), (98, breaks_search_cost.sig k), (114, breaks_search_first.sig k), (115, measure_Para_Bounds.sig k)]
noncomputable def d : FD := ⟨95, Tryz.f95, 114, 127, [(4, 114, 4), (5, 118, 4), (8, 122, 5)], [], [], [], [.cell 4 157], .s .n (.s (.s .n (.s .n (.s .n (.s (.s .n (.s (.l 0 (.s .n (.j 2 (.s (.s .n (.j 1 .n (.s .n (.s .n (.j 3 .n (.s .n (.s .n (.s (.l 4 .n) .n)))))))) .n) .n))) .n)) .n)))) .n)⟩
abbrev s0 : Sh := [(0, .v y117), (1, .v (.i .i64)), (4, .at_ 114), (5, .at_ 118), (6, .v (.i .i64)), (7, .v (.i .i64)), (114, .box y53), (118, .box y53)]
abbrev s1 : Sh := [(0, .v y117), (1, .v (.i .i64)), (4, .at_ 114), (5, .at_ 118), (6, .v (.i .i64)), (7, .v (.i .i64)), (8, .at_ 122), (9, .v .b), (114, .box y53), (118, .box y53), (122, .box y52)]
abbrev s2 : Sh := [(0, .v y117), (1, .v (.i .i64)), (4, .at_ 114), (5, .at_ 118), (6, .v (.i .i64)), (7, .v (.i .i64)), (114, .box y53), (118, .box y53)]
abbrev s3 : Sh := [(0, .v y117), (1, .v (.i .i64)), (4, .at_ 114), (5, .at_ 118), (6, .v (.i .i64)), (7, .v (.i .i64)), (8, .at_ 122), (13, .v (.i .i64)), (114, .box y53), (118, .box y53), (122, .box y52)]
abbrev s4 : Sh := [(0, .v y117), (1, .v (.i .i64)), (4, .at_ 114), (5, .at_ 118), (6, .v (.i .i64)), (7, .v (.i .i64)), (8, .at_ 122), (13, .v (.i .i64)), (95, .v (.i .i64)), (114, .box y53), (118, .box y53), (122, .box y52)]
def O (k : Nat) : List (Orc (denR ([.c true y53]))) := [⟨s0, fun y => l0 k y.1 y.2.1 y.2.2.2.2.1 y.2.2.2.2.2.1 y.2.2.2.2.2.2.1 y.2.2.2.2.2.2.2.1⟩, ⟨s1, fun y => j1 k y.1 y.2.1 y.2.2.2.2.1 y.2.2.2.2.2.1 y.2.2.2.2.2.2.2.1 y.2.2.2.2.2.2.2.2.1 y.2.2.2.2.2.2.2.2.2.1 y.2.2.2.2.2.2.2.2.2.2.1⟩, ⟨s2, fun y => j2 k y.1 y.2.1 y.2.2.2.2.1 y.2.2.2.2.2.1 y.2.2.2.2.2.2.1 y.2.2.2.2.2.2.2.1⟩, ⟨s3, fun y => j3 k y.1 y.2.1 y.2.2.2.2.1 y.2.2.2.2.2.1 y.2.2.2.2.2.2.2.1 y.2.2.2.2.2.2.2.2.1 y.2.2.2.2.2.2.2.2.2.1 y.2.2.2.2.2.2.2.2.2.2.1⟩, ⟨s4, fun y => l4 k y.1 y.2.1 y.2.2.2.2.1 y.2.2.2.2.2.1 y.2.2.2.2.2.2.2.1 y.2.2.2.2.2.2.2.2.1 y.2.2.2.2.2.2.2.2.2.1 y.2.2.2.2.2.2.2.2.2.2.1 y.2.2.2.2.2.2.2.2.2.2.2.1⟩]
theorem e4 (k : Nat) (y : denS s4) : l4 (k + 1) y.1 y.2.1 y.2.2.2.2.1 y.2.2.2.2.2.1 y.2.2.2.2.2.2.2.1 y.2.2.2.2.2.2.2.2.1 y.2.2.2.2.2.2.2.2.2.1 y.2.2.2.2.2.2.2.2.2.2.1 y.2.2.2.2.2.2.2.2.2.2.2.1 = SS.ev d E O k [1, 0, 1, 1, 1, 0, 1, 0, 0, 1, 0, 0, 1, 1, 1, 1, 1, 1, 1, 0, 0] s4 y := by rw [l4]; kernel_rfl
theorem e3 (k : Nat) (y : denS s3) : j3 (k + 1) y.1 y.2.1 y.2.2.2.2.1 y.2.2.2.2.2.1 y.2.2.2.2.2.2.2.1 y.2.2.2.2.2.2.2.2.1 y.2.2.2.2.2.2.2.2.2.1 y.2.2.2.2.2.2.2.2.2.2.1 = SS.ev d E O k [1, 0, 1, 1, 1, 0, 1, 0, 0, 1, 0, 0, 1, 1, 1, 1, 1] s3 y := by rw [j3]; kernel_rfl
theorem e1 (k : Nat) (y : denS s1) : j1 (k + 1) y.1 y.2.1 y.2.2.2.2.1 y.2.2.2.2.2.1 y.2.2.2.2.2.2.2.1 y.2.2.2.2.2.2.2.2.1 y.2.2.2.2.2.2.2.2.2.1 y.2.2.2.2.2.2.2.2.2.2.1 = SS.ev d E O k [1, 0, 1, 1, 1, 0, 1, 0, 0, 1, 0, 0, 1, 1] s1 y := by rw [j1]; kernel_rfl
theorem e2 (k : Nat) (y : denS s2) : j2 (k + 1) y.1 y.2.1 y.2.2.2.2.1 y.2.2.2.2.2.1 y.2.2.2.2.2.2.1 y.2.2.2.2.2.2.2.1 = SS.ev d E O k [1, 0, 1, 1, 1, 0, 1, 0, 0, 1, 1] s2 y := by rw [j2]; kernel_rfl
theorem e0 (k : Nat) (y : denS s0) : l0 (k + 1) y.1 y.2.1 y.2.2.2.2.1 y.2.2.2.2.2.1 y.2.2.2.2.2.2.1 y.2.2.2.2.2.2.2.1 = SS.ev d E O k [1, 0, 1, 1, 1, 0, 1, 0, 0] s0 y := by rw [l0]; kernel_rfl
theorem ok (k : Nat) : EnvOk Tryz.prog (95, sig k) := fnP SS d E O sig (fun _ => rfl) Tryz.func95 (by kernel_rfl) rfl (fun k => ⟨measure_Para_Ends.ok k, measure_Para_End.ok k, breaks_search_line.ok k, measure_Total.ok k, breaks_search_cost.ok k, breaks_search_first.ok k, measure_Para_Bounds.ok k, trivial⟩) ⟨fun _ => rfl, fun _ => rfl, fun _ => rfl, fun _ => rfl, fun _ => rfl, trivial⟩ (by kernel_rfl) (fun k => pc 4 rfl (e4 k) <| pc 3 rfl (e3 k) <| pc 1 rfl (e1 k) <| pc 2 rfl (e2 k) <| pc 0 rfl (e0 k) <| pn) (fun k x => by kernel_rfl) k
end breaks_search_best
namespace breaks_search_weigh
mutual
def l0 : Nat → Int → breaks_search → Option A14
 | 0, _, _ => none
 | k + 1, k_, s => if (decide (0 ≤ k_)) = true then ((breaks_search_best.f k s k_).bind fun r2 => if 0 ≤ k_ ∧ k_ < (s.2.2.2.2.2.2.2.2.2.2.1.length : Int) then ((s.2.2.2.2.2.2.2.2.2.2.1[k_.toNat]?).bind fun e => l0 k (wrap64 (k_ - 1)) (s.1, s.2.1, s.2.2.1, s.2.2.2.1, s.2.2.2.2.1, s.2.2.2.2.2.1, s.2.2.2.2.2.2.1, s.2.2.2.2.2.2.2.1, s.2.2.2.2.2.2.2.2.1, s.2.2.2.2.2.2.2.2.2.1, s.2.2.2.2.2.2.2.2.2.2.1.set k_.toNat r2, s.2.2.2.2.2.2.2.2.2.2.2)) else none) else ((breaks_search_best.f k s (-1)).bind fun r3 => some (r3.1, s))
end
def f (k : Nat) (a0 : breaks_search) : Option A14 := (measure_Para_Ends.f k a0.1).bind fun r => if r = r ∧ 0 ≤ r ∧ (32 : Int) * r ≤ 281474976710656 then (l0 k (wrap64 (r - 2)) (a0.1, a0.2.1, a0.2.2.1, a0.2.2.2.1, a0.2.2.2.2.1, a0.2.2.2.2.2.1, a0.2.2.2.2.2.2.1, a0.2.2.2.2.2.2.2.1, a0.2.2.2.2.2.2.2.2.1, a0.2.2.2.2.2.2.2.2.2.1, (List.replicate r.toNat (0, 0, 0, 0) : List regletref08_Sum), a0.2.2.2.2.2.2.2.2.2.2.2)) else none
def sig (k : Nat) : Sig := .l y104 [] [.c false (.i .i64)] fun b x => f k b
def E (k : Nat) : List (Nat × Sig) := [(93, measure_Para_Ends.sig k), (95, breaks_search_best.sig k)]
noncomputable def d : FD := ⟨67, Tryz.f67, 33, 45, [(0, 33, 12)], [0], [], [], [.tmp 2], .s .n (.s .n (.s .n (.s (.s .n (.s (.l 0 .n) .n)) .n)))⟩
abbrev s0 : Sh := [(0, .at_ 33), (4, .v (.i .i64)), (33, .box y104)]
def O (k : Nat) : List (Orc (denR ([.c false (.i .i64)] ++ [.c true y104]))) := [⟨s0, fun y => l0 k y.2.1 y.2.2.1⟩]
theorem e0 (k : Nat) (y : denS s0) : l0 (k + 1) y.2.1 y.2.2.1 = SS.evL d E y104 O k [1, 1, 1, 0, 1, 0, 0] s0 y := by rw [l0]; kernel_rfl
theorem ok (k : Nat) : EnvOk Tryz.prog (67, sig k) := fnL SS d E O sig (fun _ => rfl) Tryz.func67 (by kernel_rfl) rfl (fun k => ⟨measure_Para_Ends.ok k, breaks_search_best.ok k, trivial⟩) ⟨fun _ => rfl, trivial⟩ (by kernel_rfl) (fun k => pc 0 rfl (e0 k) <| pn) (fun k b x => by kernel_rfl) k
end breaks_search_weigh
namespace breaks_search_choose
mutual
def j0 : Nat → breaks_search → Int → (List Int) → Int → Int → Int → Int → Option (List Int)
 | 0, _, _, _, _, _, _, _ => none
 | k + 1, t, t2, t3, t4, t5, t6, t7 => if (decide (t4 = (wrap64 (t7 - 1)))) = true then (some t3) else ((at? t.2.2.2.2.2.2.2.2.2.2.2 (wrap64 (t4 + 1))).bind fun e => l1 k t t2 t3 t4 t5 t6 t7 e (wrap64 (t4 + 1)))
def l1 : Nat → breaks_search → Int → (List Int) → Int → Int → Int → Int → Int → Int → Option (List Int)
 | 0, _, _, _, _, _, _, _, _, _ => none
 | k + 1, t8, t9, t10, t11, t12, t13, t14, t15, t16 => if (decide (t16 ≤ t15)) = true then ((breaks_search_line.f k t8 t11 t16).bind fun r2 => if (!r2.2) = true then (j2 k t8 t9 t10 t11 t12 t13 t14 t15 t16) else (if (decide (t16 < (wrap64 (t14 - 1)))) = true then ((at? t8.2.2.2.2.2.2.2.2.2.2.1 t16).bind fun e2 => (at? ([e2.1, e2.2.1, e2.2.2.1, e2.2.2.2] : List Int) r2.1.2.2.2.1).bind fun e3 => j3 k t8 t9 t10 t11 t12 t13 t14 t15 t16 e3 r2.1) else (j3 k t8 t9 t10 t11 t12 t13 t14 t15 t16 0 r2.1))) else (some t10)
def j2 : Nat → breaks_search → Int → (List Int) → Int → Int → Int → Int → Int → Int → Option (List Int)
 | 0, _, _, _, _, _, _, _, _, _ => none
 | k + 1, t17, t18, t19, t20, t21, t22, t23, t24, t25 => l1 k t17 t18 t19 t20 t21 t22 t23 t24 (wrap64 (t25 + 1))
def j3 : Nat → breaks_search → Int → (List Int) → Int → Int → Int → Int → Int → Int → Int → api_Fit → Option (List Int)
 | 0, _, _, _, _, _, _, _, _, _, _, _ => none
 | k + 1, t26, t27, t28, t29, t30, t31, t32, t33, t34, t35, t36 => (breaks_search_cost.f k t26 t29 t34 t36 t30).bind fun r3 => (measure_Total.f k t31 r3).bind fun r4 => if (decide (t35 = 1125899906842625)) = true then (j2 k t26 t27 t28 t29 t30 t31 t32 t33 t34) else ((measure_Total.f k r4 t35).bind fun r5 => if (!decide (r5 = t27)) = true then (j2 k t26 t27 t28 t29 t30 t31 t32 t33 t34) else (j4 k t26 t27 t28 t32 t34 r4 t36))
def j4 : Nat → breaks_search → Int → (List Int) → Int → Int → Int → api_Fit → Option (List Int)
 | 0, _, _, _, _, _, _, _ => none
 | k + 1, t37, t38, t39, t40, t41, t42, t43 => (measure_Para_End.f k t37.1 t41).bind fun r6 => if (t39.length + ([r6] : List Int).length) * 8 ≤ 140737488355328 then (j0 k t37 t38 (t39 ++ ([r6] : List Int)) t41 t43.2.2.2.1 t42 t40) else none
end
def f (k : Nat) (a0 : breaks_search) (a1 : Int) : Option (List Int) := (measure_Para_Ends.f k a0.1).bind fun r => j0 k a0 a1 ([] : List Int) (-1) 0 0 r
def sig (k : Nat) : Sig := .p [(false, y117), (false, (.i .i64))] [.c false y10] fun x => f k x.1 x.2.1
def E (k : Nat) : List (Nat × Sig) := [(93, measure_Para_Ends.sig k), (94, measure_Para_End.sig k), (96, breaks_search_line.sig k), (97, measure_Total.sig k), (98, breaks_search_cost.sig k)]
noncomputable def d : FD := ⟨68, Tryz.f68, 95, 100, [(12, 95, 5)], [], [], [], [.tmp 4], .s .n (.g 0 0 (.s .n (.s .n (.s .n (.j 0 .n (.s .n (.s .n (.s (.s .n (.s (.l 1 (.s .n (.j 2 (.s (.s .n (.s .n (.s .n (.j 3 .n (.s .n (.j 4 .n .n)))))) .n) .n))) .n)) .n))))))))⟩
abbrev s0 : Sh := [(0, .v y117), (1, .v (.i .i64)), (5, .v y10), (6, .v (.i .i64)), (7, .v (.i .i64)), (8, .v (.i .i64)), (9, .v (.i .i64))]
abbrev s1 : Sh := [(0, .v y117), (1, .v (.i .i64)), (5, .v y10), (6, .v (.i .i64)), (7, .v (.i .i64)), (8, .v (.i .i64)), (9, .v (.i .i64)), (10, .v (.i .i64)), (11, .v (.i .i64))]
abbrev s2 : Sh := [(0, .v y117), (1, .v (.i .i64)), (5, .v y10), (6, .v (.i .i64)), (7, .v (.i .i64)), (8, .v (.i .i64)), (9, .v (.i .i64)), (10, .v (.i .i64)), (11, .v (.i .i64))]
abbrev s3 : Sh := [(0, .v y117), (1, .v (.i .i64)), (5, .v y10), (6, .v (.i .i64)), (7, .v (.i .i64)), (8, .v (.i .i64)), (9, .v (.i .i64)), (10, .v (.i .i64)), (11, .v (.i .i64)), (12, .at_ 95), (14, .v (.i .i64)), (95, .box y52)]
abbrev s4 : Sh := [(0, .v y117), (1, .v (.i .i64)), (5, .v y10), (9, .v (.i .i64)), (11, .v (.i .i64)), (12, .at_ 95), (15, .v (.i .i64)), (95, .box y52)]
def O (k : Nat) : List (Orc (denR ([.c false y10]))) := [⟨s0, fun y => j0 k y.1 y.2.1 y.2.2.1 y.2.2.2.1 y.2.2.2.2.1 y.2.2.2.2.2.1 y.2.2.2.2.2.2.1⟩, ⟨s1, fun y => l1 k y.1 y.2.1 y.2.2.1 y.2.2.2.1 y.2.2.2.2.1 y.2.2.2.2.2.1 y.2.2.2.2.2.2.1 y.2.2.2.2.2.2.2.1 y.2.2.2.2.2.2.2.2.1⟩, ⟨s2, fun y => j2 k y.1 y.2.1 y.2.2.1 y.2.2.2.1 y.2.2.2.2.1 y.2.2.2.2.2.1 y.2.2.2.2.2.2.1 y.2.2.2.2.2.2.2.1 y.2.2.2.2.2.2.2.2.1⟩, ⟨s3, fun y => j3 k y.1 y.2.1 y.2.2.1 y.2.2.2.1 y.2.2.2.2.1 y.2.2.2.2.2.1 y.2.2.2.2.2.2.1 y.2.2.2.2.2.2.2.1 y.2.2.2.2.2.2.2.2.1 y.2.2.2.2.2.2.2.2.2.2.1 y.2.2.2.2.2.2.2.2.2.2.2.1⟩, ⟨s4, fun y => j4 k y.1 y.2.1 y.2.2.1 y.2.2.2.1 y.2.2.2.2.1 y.2.2.2.2.2.2.1 y.2.2.2.2.2.2.2.1⟩]
theorem e4 (k : Nat) (y : denS s4) : j4 (k + 1) y.1 y.2.1 y.2.2.1 y.2.2.2.1 y.2.2.2.2.1 y.2.2.2.2.2.2.1 y.2.2.2.2.2.2.2.1 = SS.ev d E O k [1, 0, 1, 1, 1, 1, 1, 1, 0, 1, 0, 0, 1, 0, 0, 1, 1, 1, 1, 1, 1] s4 y := by rw [j4]; kernel_rfl
theorem e3 (k : Nat) (y : denS s3) : j3 (k + 1) y.1 y.2.1 y.2.2.1 y.2.2.2.1 y.2.2.2.2.1 y.2.2.2.2.2.1 y.2.2.2.2.2.2.1 y.2.2.2.2.2.2.2.1 y.2.2.2.2.2.2.2.2.1 y.2.2.2.2.2.2.2.2.2.2.1 y.2.2.2.2.2.2.2.2.2.2.2.1 = SS.ev d E O k [1, 0, 1, 1, 1, 1, 1, 1, 0, 1, 0, 0, 1, 0, 0, 1, 1, 1, 1] s3 y := by rw [j3]; kernel_rfl
theorem e2 (k : Nat) (y : denS s2) : j2 (k + 1) y.1 y.2.1 y.2.2.1 y.2.2.2.1 y.2.2.2.2.1 y.2.2.2.2.2.1 y.2.2.2.2.2.2.1 y.2.2.2.2.2.2.2.1 y.2.2.2.2.2.2.2.2.1 = SS.ev d E O k [1, 0, 1, 1, 1, 1, 1, 1, 0, 1, 0, 0, 1, 1] s2 y := by rw [j2]; kernel_rfl
theorem e1 (k : Nat) (y : denS s1) : l1 (k + 1) y.1 y.2.1 y.2.2.1 y.2.2.2.1 y.2.2.2.2.1 y.2.2.2.2.2.1 y.2.2.2.2.2.2.1 y.2.2.2.2.2.2.2.1 y.2.2.2.2.2.2.2.2.1 = SS.ev d E O k [1, 0, 1, 1, 1, 1, 1, 1, 0, 1, 0, 0] s1 y := by rw [l1]; kernel_rfl
theorem e0 (k : Nat) (y : denS s0) : j0 (k + 1) y.1 y.2.1 y.2.2.1 y.2.2.2.1 y.2.2.2.2.1 y.2.2.2.2.2.1 y.2.2.2.2.2.2.1 = SS.ev d E O k [1, 0, 1, 1, 1, 1] s0 y := by rw [j0]; kernel_rfl
theorem ok (k : Nat) : EnvOk Tryz.prog (68, sig k) := fnP SS d E O sig (fun _ => rfl) Tryz.func68 (by kernel_rfl) rfl (fun k => ⟨measure_Para_Ends.ok k, measure_Para_End.ok k, breaks_search_line.ok k, measure_Total.ok k, breaks_search_cost.ok k, trivial⟩) ⟨fun _ => rfl, fun _ => rfl, fun _ => rfl, fun _ => rfl, fun _ => rfl, trivial⟩ (by kernel_rfl) (fun k => pc 4 rfl (e4 k) <| pc 3 rfl (e3 k) <| pc 2 rfl (e2 k) <| pc 1 rfl (e1 k) <| pc 0 rfl (e0 k) <| pn) (fun k x => by kernel_rfl) k
end breaks_search_choose
namespace breaks_Break
mutual
def j0 : Nat → Int → api_Breaking → breaks_search → Option A15
 | 0, _, _, _ => none
 | k + 1, total, t, s => (breaks_search_choose.f k s total).bind fun r5 => some ((r5, total, s.2.2.2.2.2.2.2.2.2.1), 0)
end
def f (k : Nat) (a0 : measure_Para) (a1 : Int) (a2 : api_Settings) : Option A15 := (breaks_Check.f k a1 a2).bind fun r => if (!decide (r = 0)) = true then (some ((([] : List Int), 0, (false)), r)) else ((breaks_search_forced.f k (a0, a1, a2.1, a2.2.1, a2.2.2.1, a2.2.2.2.1, a2.2.2.2.2.1, a2.2.2.2.2.2.1, a2.2.2.2.2.2.2, (false), ([] : List regletref08_Sum), ([] : List Int))).bind fun r2 => (breaks_search_weigh.f k r2).bind fun r3 => if (decide (r3.1 = 1125899906842625)) = true then ((breaks_search_weigh.f k (r3.2.1, r3.2.2.1, r3.2.2.2.1, r3.2.2.2.2.1, r3.2.2.2.2.2.1, r3.2.2.2.2.2.2.1, r3.2.2.2.2.2.2.2.1, r3.2.2.2.2.2.2.2.2.1, r3.2.2.2.2.2.2.2.2.2.1, (true), r3.2.2.2.2.2.2.2.2.2.2.2.1, r3.2.2.2.2.2.2.2.2.2.2.2.2)).bind fun r4 => j0 k r4.1 (([] : List Int), 0, (false)) r4.2) else (j0 k r3.1 (([] : List Int), 0, (false)) r3.2))
def sig (k : Nat) : Sig := .p [(false, y86), (false, (.i .i64)), (true, y92)] [.c true y118, .c false (.i .i64)] fun x => f k x.1 x.2.1 x.2.2.1
def E (k : Nat) : List (Nat × Sig) := [(27, breaks_Check.sig k), (66, breaks_search_forced.sig k), (67, breaks_search_weigh.sig k), (68, breaks_search_choose.sig k)]
noncomputable def d : FD := ⟨28, Tryz.f28, 46, 71, [(5, 46, 7), (6, 53, 3), (23, 56, 12), (11, 68, 3)], [], [], [], [.cell 6 35, .tmp 7], .s .n (.s .n (.s .n (.s .n (.s .n (.j 0 .n .n)))))⟩
abbrev s0 : Sh := [(6, .at_ 53), (9, .at_ 56), (10, .v (.i .i64)), (53, .box y118), (56, .box y104)]
def O (k : Nat) : List (Orc (denR ([.c true y118, .c false (.i .i64)]))) := [⟨s0, fun y => j0 k y.2.2.1 y.2.2.2.1 y.2.2.2.2.1⟩]
theorem e0 (k : Nat) (y : denS s0) : j0 (k + 1) y.2.2.1 y.2.2.2.1 y.2.2.2.2.1 = SS.ev d E O k [1, 1, 1, 1, 1, 1] s0 y := by rw [j0]; kernel_rfl
theorem ok (k : Nat) : EnvOk Tryz.prog (28, sig k) := fnP SS d E O sig (fun _ => rfl) Tryz.func28 (by kernel_rfl) rfl (fun k => ⟨breaks_Check.ok k, breaks_search_forced.ok k, breaks_search_weigh.ok k, breaks_search_choose.ok k, trivial⟩) ⟨fun _ => rfl, trivial⟩ (by kernel_rfl) (fun k => pc 0 rfl (e0 k) <| pn) (fun k x => by kernel_rfl) k
end breaks_Break
namespace lines_Paragraph
def f (k : Nat) (a0 : A1) (a1 : ByteArray) (a2 : (List api_Run)) (a3 : Int) (a4 : api_Settings) : Option A16 := (items_Build.f k a0 a1 a2).bind fun r => if (!decide (r.2 = 0)) = true then (some (([] : List (ByteArray × List api_Run × Int × Int × Int × Bool × Int × Bool × Bool)), (([] : List Int), 0, (false)), r.2)) else ((breaks_Check.f k a3 a4).bind fun r2 => if (!decide (r2 = 0)) = true then (some (([] : List (ByteArray × List api_Run × Int × Int × Int × Bool × Int × Bool × Bool)), (([] : List Int), 0, (false)), r2)) else ((measure_New.f k r.1).bind fun r3 => optK r3.1 (if (!decide (r3.2 = 0)) = true then (some (([] : List (ByteArray × List api_Run × Int × Int × Int × Bool × Int × Bool × Bool)), (([] : List Int), 0, (false)), r3.2)) else (none)) fun p => if (!decide (r3.2 = 0)) = true then (some (([] : List (ByteArray × List api_Run × Int × Int × Int × Bool × Int × Bool × Bool)), (([] : List Int), 0, (false)), r3.2)) else ((breaks_Break.f k p a3 a4).bind fun r4 => if (!decide (r4.2 = 0)) = true then (some (([] : List (ByteArray × List api_Run × Int × Int × Int × Bool × Int × Bool × Bool)), (([] : List Int), 0, (false)), r4.2)) else ((lines_Lay.f k a0 a1 a2 p r4.1 a3).bind fun r5 => some (r5, r4.1, 0)))))
def sig (k : Nat) : Sig := .p [(false, y66), (false, .s), (false, y55), (false, (.i .i64)), (true, y92)] [.c false y76, .c true y87, .c false (.i .i64)] fun x => f k x.1 x.2.1 x.2.2.1 x.2.2.2.1 x.2.2.2.2.1
def E (k : Nat) : List (Nat × Sig) := [(15, measure_New.sig k), (18, lines_Lay.sig k), (26, items_Build.sig k), (27, breaks_Check.sig k), (28, breaks_Break.sig k)]
noncomputable def d : FD := ⟨8, Tryz.f8, 64, 77, [(9, 64, 7), (11, 71, 3), (17, 74, 3)], [], [], [], [.tmp 10, .cell 11 35, .tmp 12], .s .n (.s .n (.s .n (.s .n (.s .n (.s .n (.s (.f 16 .n) (.s .n (.s (.f 74 .n) .n))))))))⟩
def O (k : Nat) : List (Orc (denR ([.c false y76, .c true y87, .c false (.i .i64)]))) := []
theorem ok (k : Nat) : EnvOk Tryz.prog (8, sig k) := fnP SS d E O sig (fun _ => rfl) Tryz.func8 (by kernel_rfl) rfl (fun k => ⟨measure_New.ok k, lines_Lay.ok k, items_Build.ok k, breaks_Check.ok k, breaks_Break.ok k, trivial⟩) trivial (by kernel_rfl) (fun _ => pn) (fun k x => by kernel_rfl) k
end lines_Paragraph
namespace regletlaw10_awake
def f (k : Nat)  : Option Bool := (regletlaw10_table.f k ([(10, 6, 3, 2, 6, 6, ([] : List api_Range), (false))] : List (Int × Int × Int × Int × Int × Int × List api_Range × Bool))).bind fun r => optK r (some false) fun p => (lines_Paragraph.f k p (ByteArray.mk #[97, 97, 32, 98, 98, 10]) ([(6, 0)] : List api_Run) 20 (200, 10, 0, 0, 0, 1, 1)).bind fun r2 => if (decide (r2.2.2 = 0)) = true then (if (decide ((r2.2.1.1.length : Int) = 2)) = true then (if (decide ((r2.1.length : Int) = 2)) = true then ((at? r2.1 0).bind fun e => if (decide (e.1 = (ByteArray.mk #[97, 97, 32]))) = true then ((at? r2.1 1).bind fun e2 => if (decide (e2.1 = (ByteArray.mk #[98, 98, 10]))) = true then ((at? r2.1 1).bind fun e3 => if e3.2.2.2.2.2.2.2.2 = true then ((at? r2.1 0).bind fun e4 => some (decide (e4.2.2.2.2.1 = 10))) else (some false)) else (some false)) else (some false)) else (some false)) else (some false)) else (some false)
def sig (k : Nat) : Sig := .p [] [.c false .b] fun x => f k
def E (k : Nat) : List (Nat × Sig) := [(6, regletlaw10_table.sig k), (8, lines_Paragraph.sig k)]
noncomputable def d : FD := ⟨5, Tryz.f5, 61, 64, [(4, 61, 3)], [], [], [], [.tmp 0], .s .n (.s .n (.s .n (.s (.s (.f 2 .n) .n) (.s .n (.s (.f 3 .n) .n)))))⟩
def O (k : Nat) : List (Orc (denR ([.c false .b]))) := []
theorem ok (k : Nat) : EnvOk Tryz.prog (5, sig k) := fnP SS d E O sig (fun _ => rfl) Tryz.func5 (by kernel_rfl) rfl (fun k => ⟨regletlaw10_table.ok k, lines_Paragraph.ok k, trivial⟩) trivial (by kernel_rfl) (fun _ => pn) (fun k x => by kernel_rfl) k
end regletlaw10_awake
namespace regletlaw10_few
def f (k : Nat) (a0 : A17) : Option Bool := if (decide ((a0.1.size : Int) ≤ 400)) = true then (some (decide ((a0.2.1.length : Int) ≤ 100))) else (some false)
def sig (k : Nat) : Sig := .p [(true, y121)] [.c false .b] fun x => f k x.1
def E (k : Nat) : List (Nat × Sig) := []
noncomputable def d : FD := ⟨7, Tryz.f7, 13, 23, [(1, 13, 10)], [], [], [], [.tmp 2], .n⟩
def O (k : Nat) : List (Orc (denR ([.c false .b]))) := []
theorem ok (k : Nat) : EnvOk Tryz.prog (7, sig k) := fnP SS d E O sig (fun _ => rfl) Tryz.func7 (by kernel_rfl) rfl (fun k => trivial) trivial (by kernel_rfl) (fun _ => pn) (fun k x => by kernel_rfl) k
end regletlaw10_few
namespace regletref02_value
mutual
def l0 : Nat → ByteArray → Int → Int → Int → Int → Option Int
 | 0, _, _, _, _, _ => none
 | k + 1, s, at_, n, r, i => if (decide (i < n)) = true then ((bAt s (wrap64 (at_ + i))).bind fun e2 => l0 k s at_ n (wrap64 ((wrap64 (r * 64)) + ((wrap64 (e2)).tmod 64))) (wrap64 (i + 1))) else (some r)
end
def f (k : Nat) (a0 : ByteArray) (a1 : Int) (a2 : Int) : Option Int := (bAt a0 a1).bind fun e => if (decide (a2 = 1)) = true then (some (wrap64 (e))) else (if 0 ≤ (wrap64 (7 - a2)) then (if (shlI .i64 (1 : Int) (wrap64 (7 - a2))) ≠ 0 then (l0 k a0 a1 a2 ((wrap64 (e)).tmod (shlI .i64 (1 : Int) (wrap64 (7 - a2)))) 1) else none) else none)
def sig (k : Nat) : Sig := .p [(false, .s), (false, (.i .i64)), (false, (.i .i64))] [.c false (.i .i64)] fun x => f k x.1 x.2.1 x.2.2.1
def E (k : Nat) : List (Nat × Sig) := []
noncomputable def d : FD := ⟨99, Tryz.f99, 38, 38, [], [], [], [], [.tmp 6], .s .n (.s .n (.s .n (.s .n (.s (.s .n (.s (.l 0 .n) .n)) .n))))⟩
abbrev s0 : Sh := [(0, .v .s), (1, .v (.i .i64)), (2, .v (.i .i64)), (8, .v (.i .i64)), (9, .v (.i .i64))]
def O (k : Nat) : List (Orc (denR ([.c false (.i .i64)]))) := [⟨s0, fun y => l0 k y.1 y.2.1 y.2.2.1 y.2.2.2.1 y.2.2.2.2.1⟩]
theorem e0 (k : Nat) (y : denS s0) : l0 (k + 1) y.1 y.2.1 y.2.2.1 y.2.2.2.1 y.2.2.2.2.1 = SS.ev d E O k [1, 1, 1, 1, 0, 1, 0, 0] s0 y := by rw [l0]; kernel_rfl
theorem ok (k : Nat) : EnvOk Tryz.prog (99, sig k) := fnP SS d E O sig (fun _ => rfl) Tryz.func99 (by kernel_rfl) rfl (fun k => trivial) ⟨fun _ => rfl, trivial⟩ (by kernel_rfl) (fun k => pc 0 rfl (e0 k) <| pn) (fun k x => by kernel_rfl) k
end regletref02_value
namespace regletref02_IsRune
def f (k : Nat) (a0 : Int) : Option Bool := if (decide (0 ≤ a0)) = true then (if (decide (a0 ≤ 1114111)) = true then (if (decide (a0 < 55296)) = true then (some true) else (some (decide (57343 < a0)))) else (some false)) else (some false)
def sig (k : Nat) : Sig := .p [(false, (.i .i64))] [.c false .b] fun x => f k x.1
def E (k : Nat) : List (Nat × Sig) := []
noncomputable def d : FD := ⟨118, Tryz.f118, 17, 17, [], [], [], [], [.tmp 2], .n⟩
def O (k : Nat) : List (Orc (denR ([.c false .b]))) := []
theorem ok (k : Nat) : EnvOk Tryz.prog (118, sig k) := fnP SS d E O sig (fun _ => rfl) Tryz.func118 (by kernel_rfl) rfl (fun k => trivial) trivial (by kernel_rfl) (fun _ => pn) (fun k x => by kernel_rfl) k
end regletref02_IsRune
namespace regletref02_Bytes
def f (k : Nat) (a0 : Int) : Option (List Int) := (regletref02_IsRune.f k a0).bind fun r => if (!r) = true then (some ([] : List Int)) else (if (decide (a0 < 128)) = true then (some ([a0] : List Int)) else (if (decide (a0 < 2048)) = true then (some ([wrap64 (192 + (wrap64 (a0.tdiv 64))), wrap64 (128 + (a0.tmod 64))] : List Int)) else (if (decide (a0 < 65536)) = true then (some ([wrap64 (224 + (wrap64 (a0.tdiv 4096))), wrap64 (128 + ((wrap64 (a0.tdiv 64)).tmod 64)), wrap64 (128 + (a0.tmod 64))] : List Int)) else (some ([wrap64 (240 + (wrap64 (a0.tdiv 262144))), wrap64 (128 + ((wrap64 (a0.tdiv 4096)).tmod 64)), wrap64 (128 + ((wrap64 (a0.tdiv 64)).tmod 64)), wrap64 (128 + (a0.tmod 64))] : List Int)))))
def sig (k : Nat) : Sig := .p [(false, (.i .i64))] [.c false y10] fun x => f k x.1
def E (k : Nat) : List (Nat × Sig) := [(118, regletref02_IsRune.sig k)]
noncomputable def d : FD := ⟨100, Tryz.f100, 47, 47, [], [], [], [], [.tmp 2], .n⟩
def O (k : Nat) : List (Orc (denR ([.c false y10]))) := []
theorem ok (k : Nat) : EnvOk Tryz.prog (100, sig k) := fnP SS d E O sig (fun _ => rfl) Tryz.func100 (by kernel_rfl) rfl (fun k => ⟨regletref02_IsRune.ok k, trivial⟩) trivial (by kernel_rfl) (fun _ => pn) (fun k x => by kernel_rfl) k
end regletref02_Bytes
namespace regletref02_begins
mutual
def j0 : Nat → ByteArray → Int → (List Int) → Option Bool
 | 0, _, _, _ => none
 | k + 1, s, at_, l => l1 k s at_ l 0
def l1 : Nat → ByteArray → Int → (List Int) → Int → Option Bool
 | 0, _, _, _, _ => none
 | k + 1, s2, at_2, l2, i => if (decide (i < (l2.length : Int))) = true then ((bAt s2 (wrap64 (at_2 + i))).bind fun e => (at? l2 i).bind fun e2 => if (!decide ((wrap64 (e)) = e2)) = true then (some false) else (l1 k s2 at_2 l2 (wrap64 (i + 1)))) else (some true)
end
def f (k : Nat) (a0 : ByteArray) (a1 : Int) (a2 : (List Int)) : Option Bool := if (decide ((a2.length : Int) = 0)) = true then (some false) else (if (decide ((a0.size : Int) < (wrap64 (a1 + (a2.length : Int))))) = true then (some false) else (j0 k a0 a1 a2))
def sig (k : Nat) : Sig := .p [(false, .s), (false, (.i .i64)), (false, y37)] [.c false .b] fun x => f k x.1 x.2.1 x.2.2.1
def E (k : Nat) : List (Nat × Sig) := []
noncomputable def d : FD := ⟨101, Tryz.f101, 37, 37, [], [], [], [], [.tmp 6], .s .n (.j 0 .n (.s (.s .n (.s (.l 1 .n) .n)) .n))⟩
abbrev s0 : Sh := [(0, .v .s), (1, .v (.i .i64)), (2, .v y37)]
abbrev s1 : Sh := [(0, .v .s), (1, .v (.i .i64)), (2, .v y37), (7, .v (.i .i64))]
def O (k : Nat) : List (Orc (denR ([.c false .b]))) := [⟨s0, fun y => j0 k y.1 y.2.1 y.2.2.1⟩, ⟨s1, fun y => l1 k y.1 y.2.1 y.2.2.1 y.2.2.2.1⟩]
theorem e1 (k : Nat) (y : denS s1) : l1 (k + 1) y.1 y.2.1 y.2.2.1 y.2.2.2.1 = SS.ev d E O k [1, 1, 0, 1, 0, 0] s1 y := by rw [l1]; kernel_rfl
theorem e0 (k : Nat) (y : denS s0) : j0 (k + 1) y.1 y.2.1 y.2.2.1 = SS.ev d E O k [1, 1] s0 y := by rw [j0]; kernel_rfl
theorem ok (k : Nat) : EnvOk Tryz.prog (101, sig k) := fnP SS d E O sig (fun _ => rfl) Tryz.func101 (by kernel_rfl) rfl (fun k => trivial) ⟨fun _ => rfl, fun _ => rfl, trivial⟩ (by kernel_rfl) (fun k => pc 1 rfl (e1 k) <| pc 0 rfl (e0 k) <| pn) (fun k x => by kernel_rfl) k
end regletref02_begins
namespace regletref02_Read
mutual
def l0 : Nat → ByteArray → Int → Int → Option (Int × Int)
 | 0, _, _, _ => none
 | k + 1, s, at_, n => if (decide (n ≤ 4)) = true then (if (decide ((wrap64 (at_ + n)) ≤ (s.size : Int))) = true then (j1 k s at_ n) else (some ((-1), 0))) else (some ((-1), 0))
def j1 : Nat → ByteArray → Int → Int → Option (Int × Int)
 | 0, _, _, _ => none
 | k + 1, s2, at_2, n2 => (regletref02_value.f k s2 at_2 n2).bind fun r => (regletref02_Bytes.f k r).bind fun r2 => if (decide ((r2.length : Int) = n2)) = true then ((regletref02_begins.f k s2 at_2 r2).bind fun r3 => if r3 = true then (some (r, n2)) else (j2 k s2 at_2 n2)) else (j2 k s2 at_2 n2)
def j2 : Nat → ByteArray → Int → Int → Option (Int × Int)
 | 0, _, _, _ => none
 | k + 1, s3, at_3, n3 => l0 k s3 at_3 (wrap64 (n3 + 1))
end
def f (k : Nat) (a0 : ByteArray) (a1 : Int) : Option (Int × Int) := l0 k a0 a1 1
def sig (k : Nat) : Sig := .p [(false, .s), (false, (.i .i64))] [.c false (.i .i64), .c false (.i .i64)] fun x => f k x.1 x.2.1
def E (k : Nat) : List (Nat × Sig) := [(99, regletref02_value.sig k), (100, regletref02_Bytes.sig k), (101, regletref02_begins.sig k)]
noncomputable def d : FD := ⟨71, Tryz.f71, 39, 39, [], [], [], [], [.tmp 4, .tmp 5], .s .n (.s (.s .n (.s (.l 0 (.j 1 .n (.j 2 .n .n))) .n)) .n)⟩
abbrev s0 : Sh := [(0, .v .s), (1, .v (.i .i64)), (6, .v (.i .i64))]
abbrev s1 : Sh := [(0, .v .s), (1, .v (.i .i64)), (6, .v (.i .i64))]
abbrev s2 : Sh := [(0, .v .s), (1, .v (.i .i64)), (6, .v (.i .i64))]
def O (k : Nat) : List (Orc (denR ([.c false (.i .i64), .c false (.i .i64)]))) := [⟨s0, fun y => l0 k y.1 y.2.1 y.2.2.1⟩, ⟨s1, fun y => j1 k y.1 y.2.1 y.2.2.1⟩, ⟨s2, fun y => j2 k y.1 y.2.1 y.2.2.1⟩]
theorem e2 (k : Nat) (y : denS s2) : j2 (k + 1) y.1 y.2.1 y.2.2.1 = SS.ev d E O k [1, 0, 1, 0, 0, 1, 1] s2 y := by rw [j2]; kernel_rfl
theorem e1 (k : Nat) (y : denS s1) : j1 (k + 1) y.1 y.2.1 y.2.2.1 = SS.ev d E O k [1, 0, 1, 0, 0, 1] s1 y := by rw [j1]; kernel_rfl
theorem e0 (k : Nat) (y : denS s0) : l0 (k + 1) y.1 y.2.1 y.2.2.1 = SS.ev d E O k [1, 0, 1, 0, 0] s0 y := by rw [l0]; kernel_rfl
theorem ok (k : Nat) : EnvOk Tryz.prog (71, sig k) := fnP SS d E O sig (fun _ => rfl) Tryz.func71 (by kernel_rfl) rfl (fun k => ⟨regletref02_value.ok k, regletref02_Bytes.ok k, regletref02_begins.ok k, trivial⟩) ⟨fun _ => rfl, fun _ => rfl, fun _ => rfl, trivial⟩ (by kernel_rfl) (fun k => pc 2 rfl (e2 k) <| pc 1 rfl (e1 k) <| pc 0 rfl (e0 k) <| pn) (fun k x => by kernel_rfl) k
end regletref02_Read
namespace regletref02_Runes
mutual
def l0 : Nat → ByteArray → (List Int) → (List Int) → Int → Option A18
 | 0, _, _, _, _ => none
 | k + 1, s, l, at_, i => if (decide (i < (s.size : Int))) = true then ((regletref02_Read.f k s i).bind fun r => if (decide (r.2 = 0)) = true then (some (l, at_, i)) else (if (l.length + ([r.1] : List Int).length) * 8 ≤ 140737488355328 then (if (at_.length + ([i] : List Int).length) * 8 ≤ 140737488355328 then (l0 k s (l ++ ([r.1] : List Int)) (at_ ++ ([i] : List Int)) (wrap64 (i + r.2))) else none) else none)) else (some (l, at_, (-1)))
end
def f (k : Nat) (a0 : ByteArray) : Option A18 := l0 k a0 ([] : List Int) ([] : List Int) 0
def sig (k : Nat) : Sig := .p [(false, .s)] [.c false y10, .c false y10, .c false (.i .i64)] fun x => f k x.1
def E (k : Nat) : List (Nat × Sig) := [(71, regletref02_Read.sig k)]
noncomputable def d : FD := ⟨30, Tryz.f30, 38, 38, [], [], [], [], [.tmp 2, .tmp 3, .tmp 4], .s .n (.s .n (.s (.s .n (.s (.l 0 .n) .n)) .n))⟩
abbrev s0 : Sh := [(0, .v .s), (5, .v y10), (6, .v y10), (7, .v (.i .i64))]
def O (k : Nat) : List (Orc (denR ([.c false y10, .c false y10, .c false (.i .i64)]))) := [⟨s0, fun y => l0 k y.1 y.2.1 y.2.2.1 y.2.2.2.1⟩]
theorem e0 (k : Nat) (y : denS s0) : l0 (k + 1) y.1 y.2.1 y.2.2.1 y.2.2.2.1 = SS.ev d E O k [1, 1, 0, 1, 0, 0] s0 y := by rw [l0]; kernel_rfl
theorem ok (k : Nat) : EnvOk Tryz.prog (30, sig k) := fnP SS d E O sig (fun _ => rfl) Tryz.func30 (by kernel_rfl) rfl (fun k => ⟨regletref02_Read.ok k, trivial⟩) ⟨fun _ => rfl, trivial⟩ (by kernel_rfl) (fun k => pc 0 rfl (e0 k) <| pn) (fun k x => by kernel_rfl) k
end regletref02_Runes
namespace regletref02_Right
def f (k : Nat) (a0 : ByteArray) : Option Bool := (regletref02_Runes.f k a0).bind fun r => some (decide (r.2.2 < 0))
def sig (k : Nat) : Sig := .p [(false, .s)] [.c false .b] fun x => f k x.1
def E (k : Nat) : List (Nat × Sig) := [(30, regletref02_Runes.sig k)]
noncomputable def d : FD := ⟨69, Tryz.f69, 14, 14, [], [], [], [], [.tmp 2], .n⟩
def O (k : Nat) : List (Orc (denR ([.c false .b]))) := []
theorem ok (k : Nat) : EnvOk Tryz.prog (69, sig k) := fnP SS d E O sig (fun _ => rfl) Tryz.func69 (by kernel_rfl) rfl (fun k => ⟨regletref02_Runes.ok k, trivial⟩) trivial (by kernel_rfl) (fun _ => pn) (fun k x => by kernel_rfl) k
end regletref02_Right
namespace regletref02_Between
mutual
def l0 : Nat → ByteArray → Int → (List Int) → Int → Option Bool
 | 0, _, _, _, _ => none
 | k + 1, s, at_, l, i => if (decide (i < (l.length : Int))) = true then (if 0 ≤ i ∧ i < (l.length : Int) then ((l[i.toNat]?).bind fun e => if (decide (e = at_)) = true then (some true) else (l0 k s at_ l (wrap64 (i + 1)))) else none) else (some (decide (at_ = (s.size : Int))))
end
def f (k : Nat) (a0 : ByteArray) (a1 : Int) : Option Bool := (regletref02_Runes.f k a0).bind fun r => l0 k a0 a1 r.2.1 0
def sig (k : Nat) : Sig := .p [(false, .s), (false, (.i .i64))] [.c false .b] fun x => f k x.1 x.2.1
def E (k : Nat) : List (Nat × Sig) := [(30, regletref02_Runes.sig k)]
noncomputable def d : FD := ⟨70, Tryz.f70, 31, 31, [], [], [], [], [.tmp 4], .s .n (.s .n (.s (.s .n (.s (.l 0 .n) .n)) .n))⟩
abbrev s0 : Sh := [(0, .v .s), (1, .v (.i .i64)), (6, .v y10), (8, .v (.i .i64))]
def O (k : Nat) : List (Orc (denR ([.c false .b]))) := [⟨s0, fun y => l0 k y.1 y.2.1 y.2.2.1 y.2.2.2.1⟩]
theorem e0 (k : Nat) (y : denS s0) : l0 (k + 1) y.1 y.2.1 y.2.2.1 y.2.2.2.1 = SS.ev d E O k [1, 1, 0, 1, 0, 0] s0 y := by rw [l0]; kernel_rfl
theorem ok (k : Nat) : EnvOk Tryz.prog (70, sig k) := fnP SS d E O sig (fun _ => rfl) Tryz.func70 (by kernel_rfl) rfl (fun k => ⟨regletref02_Runes.ok k, trivial⟩) ⟨fun _ => rfl, trivial⟩ (by kernel_rfl) (fun k => pc 0 rfl (e0 k) <| pn) (fun k x => by kernel_rfl) k
end regletref02_Between
namespace regletref07_Check
mutual
def l0 : Nat → A1 → ByteArray → (List api_Run) → Int → Option Int
 | 0, _, _, _, _ => none
 | k + 1, t, t2, t3, t4 => if (decide ((wrap64 (t4 + 1)) < (t2.size : Int))) = true then ((bAt t2 t4).bind fun e => if (decide (e = 10)) = true then (some 70) else (l0 k t t2 t3 (wrap64 (t4 + 1)))) else (l1 k t t2 t3 0 0)
def l1 : Nat → A1 → ByteArray → (List api_Run) → Int → Int → Option Int
 | 0, _, _, _, _, _ => none
 | k + 1, t5, t6, t7, t8, t9 => if (decide (t9 < (t7.length : Int))) = true then ((at? t7 t9).bind fun e2 => if (decide (e2.1 < 0)) = true then (some 70) else ((at? t7 t9).bind fun e3 => if (decide ((wrap64 ((t6.size : Int) - t8)) < e3.1)) = true then (some 70) else (j2 k t5 t6 t7 t8 t9))) else (if (!decide (t8 = (t6.size : Int))) = true then (some 70) else (some 0))
def j2 : Nat → A1 → ByteArray → (List api_Run) → Int → Int → Option Int
 | 0, _, _, _, _, _ => none
 | k + 1, t10, t11, t12, t13, t14 => (at? t12 t14).bind fun e4 => if (decide (e4.2 < 0)) = true then (some 43) else ((at? t12 t14).bind fun e5 => if (decide ((t10.length : Int) ≤ e5.2)) = true then (some 43) else (j3 k t10 t11 t12 t13 t14))
def j3 : Nat → A1 → ByteArray → (List api_Run) → Int → Int → Option Int
 | 0, _, _, _, _, _ => none
 | k + 1, t15, t16, t17, t18, t19 => (at? t17 t19).bind fun e6 => (regletref02_Between.f k t16 (wrap64 (t18 + e6.1))).bind fun r2 => if (!r2) = true then (some 21) else (l1 k t15 t16 t17 (wrap64 (t18 + e6.1)) (wrap64 (t19 + 1)))
end
def f (k : Nat) (a0 : A1) (a1 : ByteArray) (a2 : (List api_Run)) : Option Int := (regletref02_Right.f k a1).bind fun r => if (!r) = true then (some 20) else (if (decide (a1 = ByteArray.empty)) = true then (some 70) else (l0 k a0 a1 a2 0))
def sig (k : Nat) : Sig := .p [(false, y11), (false, .s), (false, y55)] [.c false (.i .i64)] fun x => f k x.1 x.2.1 x.2.2.1
def E (k : Nat) : List (Nat × Sig) := [(69, regletref02_Right.sig k), (70, regletref02_Between.sig k)]
noncomputable def d : FD := ⟨29, Tryz.f29, 81, 81, [], [], [], [], [.tmp 6], .s .n (.s .n (.s .n (.s (.s .n (.s (.l 0 .n) .n)) (.s .n (.s (.s .n (.s (.l 1 (.s .n (.s (.s (.j 2 .n (.j 3 .n .n)) .n) .n))) .n)) .n)))))⟩
abbrev s0 : Sh := [(0, .v y11), (1, .v .s), (2, .v y55), (7, .v (.i .i64))]
abbrev s1 : Sh := [(0, .v y11), (1, .v .s), (2, .v y55), (8, .v (.i .i64)), (9, .v (.i .i64))]
abbrev s2 : Sh := [(0, .v y11), (1, .v .s), (2, .v y55), (8, .v (.i .i64)), (9, .v (.i .i64))]
abbrev s3 : Sh := [(0, .v y11), (1, .v .s), (2, .v y55), (8, .v (.i .i64)), (9, .v (.i .i64))]
def O (k : Nat) : List (Orc (denR ([.c false (.i .i64)]))) := [⟨s0, fun y => l0 k y.1 y.2.1 y.2.2.1 y.2.2.2.1⟩, ⟨s1, fun y => l1 k y.1 y.2.1 y.2.2.1 y.2.2.2.1 y.2.2.2.2.1⟩, ⟨s2, fun y => j2 k y.1 y.2.1 y.2.2.1 y.2.2.2.1 y.2.2.2.2.1⟩, ⟨s3, fun y => j3 k y.1 y.2.1 y.2.2.1 y.2.2.2.1 y.2.2.2.2.1⟩]
theorem e0 (k : Nat) (y : denS s0) : l0 (k + 1) y.1 y.2.1 y.2.2.1 y.2.2.2.1 = SS.ev d E O k [1, 1, 1, 0, 1, 0, 0] s0 y := by rw [l0]; kernel_rfl
theorem e3 (k : Nat) (y : denS s3) : j3 (k + 1) y.1 y.2.1 y.2.2.1 y.2.2.2.1 y.2.2.2.2.1 = SS.ev d E O k [1, 1, 1, 1, 1, 0, 1, 0, 0, 1, 0, 0, 1, 1] s3 y := by rw [j3]; kernel_rfl
theorem e2 (k : Nat) (y : denS s2) : j2 (k + 1) y.1 y.2.1 y.2.2.1 y.2.2.2.1 y.2.2.2.2.1 = SS.ev d E O k [1, 1, 1, 1, 1, 0, 1, 0, 0, 1, 0, 0, 1] s2 y := by rw [j2]; kernel_rfl
theorem e1 (k : Nat) (y : denS s1) : l1 (k + 1) y.1 y.2.1 y.2.2.1 y.2.2.2.1 y.2.2.2.2.1 = SS.ev d E O k [1, 1, 1, 1, 1, 0, 1, 0, 0] s1 y := by rw [l1]; kernel_rfl
theorem ok (k : Nat) : EnvOk Tryz.prog (29, sig k) := fnP SS d E O sig (fun _ => rfl) Tryz.func29 (by kernel_rfl) rfl (fun k => ⟨regletref02_Right.ok k, regletref02_Between.ok k, trivial⟩) ⟨fun _ => rfl, fun _ => rfl, fun _ => rfl, fun _ => rfl, trivial⟩ (by kernel_rfl) (fun k => pc 0 rfl (e0 k) <| pc 3 rfl (e3 k) <| pc 2 rfl (e2 k) <| pc 1 rfl (e1 k) <| pn) (fun k x => by kernel_rfl) k
end regletref07_Check
namespace regletref07_StyleAt
mutual
def l0 : Nat → (List api_Run) → Int → Int → Option Int
 | 0, _, _, _ => none
 | k + 1, list, at_, i => if (decide (i < (list.length : Int))) = true then ((at? list i).bind fun e => if (decide (at_ < e.1)) = true then ((at? list i).bind fun e2 => some e2.2) else ((at? list i).bind fun e3 => l0 k list (wrap64 (at_ - e3.1)) (wrap64 (i + 1)))) else (some 0)
end
def f (k : Nat) (a0 : (List api_Run)) (a1 : Int) : Option Int := l0 k a0 a1 0
def sig (k : Nat) : Sig := .p [(false, y55), (false, (.i .i64))] [.c false (.i .i64)] fun x => f k x.1 x.2.1
def E (k : Nat) : List (Nat × Sig) := []
noncomputable def d : FD := ⟨31, Tryz.f31, 31, 31, [], [], [], [], [.tmp 4], .s .n (.s (.s .n (.s (.l 0 .n) .n)) .n)⟩
abbrev s0 : Sh := [(0, .v y55), (1, .v (.i .i64)), (5, .v (.i .i64))]
def O (k : Nat) : List (Orc (denR ([.c false (.i .i64)]))) := [⟨s0, fun y => l0 k y.1 y.2.1 y.2.2.1⟩]
theorem e0 (k : Nat) (y : denS s0) : l0 (k + 1) y.1 y.2.1 y.2.2.1 = SS.ev d E O k [1, 0, 1, 0, 0] s0 y := by rw [l0]; kernel_rfl
theorem ok (k : Nat) : EnvOk Tryz.prog (31, sig k) := fnP SS d E O sig (fun _ => rfl) Tryz.func31 (by kernel_rfl) rfl (fun k => trivial) ⟨fun _ => rfl, trivial⟩ (by kernel_rfl) (fun k => pc 0 rfl (e0 k) <| pn) (fun k x => by kernel_rfl) k
end regletref07_StyleAt
namespace regletref02_Kind
mutual
def l0 : Nat → Int → A19 → Int → Option Int
 | 0, _, _, _ => none
 | k + 1, r, kinds, k_ => if (decide (k_ < (kinds.length : Int))) = true then (l1 k r kinds k_ 0) else (some 0)
def l1 : Nat → Int → A19 → Int → Int → Option Int
 | 0, _, _, _, _ => none
 | k + 1, r2, kinds2, k_2, i => (at? kinds2 k_2).bind fun e => if (decide (i < (e.length : Int))) = true then ((at? kinds2 k_2).bind fun e2 => (at? e2 i).bind fun e3 => if (decide (e3 = r2)) = true then (some k_2) else (l1 k r2 kinds2 k_2 (wrap64 (i + 1)))) else (l0 k r2 kinds2 (wrap64 (k_2 + 1)))
end
def f (k : Nat) (a0 : Int) : Option Int := l0 k a0 ([([] : List Int), ([32, 9] : List Int), ([160, 8239] : List Int), ([173] : List Int), ([8203] : List Int), ([8288, 65279] : List Int), ([45, 8208] : List Int), ([8232] : List Int), ([10] : List Int)] : List (List Int)) 1
def sig (k : Nat) : Sig := .p [(false, (.i .i64))] [.c false (.i .i64)] fun x => f k x.1
def E (k : Nat) : List (Nat × Sig) := []
noncomputable def d : FD := ⟨33, Tryz.f33, 41, 41, [], [], [], [], [.tmp 2], .s .n (.s .n (.s (.s .n (.s (.l 0 (.s .n (.s (.s (.s .n (.s (.l 1 (.s (.s (.f 3 .n) .n) .n)) .n)) .n) .n))) .n)) .n))⟩
abbrev s0 : Sh := [(0, .v (.i .i64)), (3, .v y122), (4, .v (.i .i64))]
abbrev s1 : Sh := [(0, .v (.i .i64)), (3, .v y122), (4, .v (.i .i64)), (5, .v (.i .i64))]
def O (k : Nat) : List (Orc (denR ([.c false (.i .i64)]))) := [⟨s0, fun y => l0 k y.1 y.2.1 y.2.2.1⟩, ⟨s1, fun y => l1 k y.1 y.2.1 y.2.2.1 y.2.2.2.1⟩]
theorem e1 (k : Nat) (y : denS s1) : l1 (k + 1) y.1 y.2.1 y.2.2.1 y.2.2.2.1 = SS.ev d E O k [1, 1, 0, 1, 0, 0, 1, 0, 0, 1, 0, 0] s1 y := by rw [l1]; kernel_rfl
theorem e0 (k : Nat) (y : denS s0) : l0 (k + 1) y.1 y.2.1 y.2.2.1 = SS.ev d E O k [1, 1, 0, 1, 0, 0] s0 y := by rw [l0]; kernel_rfl
theorem ok (k : Nat) : EnvOk Tryz.prog (33, sig k) := fnP SS d E O sig (fun _ => rfl) Tryz.func33 (by kernel_rfl) rfl (fun k => trivial) ⟨fun _ => rfl, fun _ => rfl, trivial⟩ (by kernel_rfl) (fun k => pc 1 rfl (e1 k) <| pc 0 rfl (e0 k) <| pn) (fun k x => by kernel_rfl) k
end regletref02_Kind
namespace regletref04_Of
mutual
def j0 : Nat → A1 → Int → A0 → Option A5
 | 0, _, _, _ => none
 | k + 1, l, style, t => (at? l style).bind fun e => some e
end
def f (k : Nat) (a0 : A1) (a1 : Int) : Option A5 := if (decide (a1 < 0)) = true then (some (0, 0, 0, 0, 0, 0, ([] : List api_Range), (false))) else (if (decide ((a0.length : Int) ≤ a1)) = true then (some (0, 0, 0, 0, 0, 0, ([] : List api_Range), (false))) else (j0 k a0 a1 (0, 0, 0, 0, 0, 0, ([] : List api_Range), (false))))
def sig (k : Nat) : Sig := .p [(false, y65), (false, (.i .i64))] [.c true y64] fun x => f k x.1 x.2.1
def E (k : Nat) : List (Nat × Sig) := []
noncomputable def d : FD := ⟨35, Tryz.f35, 18, 26, [(4, 18, 8)], [], [], [], [.cell 4 68], .s .n (.j 0 .n .n)⟩
abbrev s0 : Sh := [(0, .v y65), (1, .v (.i .i64)), (4, .at_ 18), (18, .box y19)]
def O (k : Nat) : List (Orc (denR ([.c true y64]))) := [⟨s0, fun y => j0 k y.1 y.2.1 y.2.2.2.1⟩]
theorem e0 (k : Nat) (y : denS s0) : j0 (k + 1) y.1 y.2.1 y.2.2.2.1 = SS.ev d E O k [1, 1] s0 y := by rw [j0]; kernel_rfl
theorem ok (k : Nat) : EnvOk Tryz.prog (35, sig k) := fnP SS d E O sig (fun _ => rfl) Tryz.func35 (by kernel_rfl) rfl (fun k => trivial) ⟨fun _ => rfl, trivial⟩ (by kernel_rfl) (fun k => pc 0 rfl (e0 k) <| pn) (fun k x => by kernel_rfl) k
end regletref04_Of
namespace regletref04_Width
mutual
def j0 : Nat → Int → Int → Bool → A0 → Option Int
 | 0, _, _, _, _ => none
 | k + 1, r3, t, t2, s => if t2 = true then (some s.2.1) else (if (decide (t = 3)) = true then (j1 k r3 true s) else (if (decide (t = 4)) = true then (j1 k r3 true s) else (if (decide (t = 5)) = true then (j1 k r3 true s) else (if (decide (t = 7)) = true then (j1 k r3 true s) else (j1 k r3 (decide (t = 8)) s)))))
def j1 : Nat → Int → Bool → A0 → Option Int
 | 0, _, _, _ => none
 | k + 1, r4, t3, s2 => if t3 = true then (some 0) else (l2 k r4 0 s2)
def l2 : Nat → Int → Int → A0 → Option Int
 | 0, _, _, _ => none
 | k + 1, r5, i, s3 => if (decide (i < (s3.2.2.2.2.2.2.1.length : Int))) = true then ((at? s3.2.2.2.2.2.2.1 i).bind fun e => if (decide (e.1 ≤ r5)) = true then ((at? s3.2.2.2.2.2.2.1 i).bind fun e2 => if (decide (r5 ≤ e2.2.1)) = true then ((at? s3.2.2.2.2.2.2.1 i).bind fun e3 => some e3.2.2) else (j3 k r5 i s3)) else (j3 k r5 i s3)) else (some s3.2.2.2.2.2.1)
def j3 : Nat → Int → Int → A0 → Option Int
 | 0, _, _, _ => none
 | k + 1, r6, i2, s4 => l2 k r6 (wrap64 (i2 + 1)) s4
end
def f (k : Nat) (a0 : A1) (a1 : Int) (a2 : Int) : Option Int := (regletref04_Of.f k a0 a1).bind fun r => (regletref02_Kind.f k a2).bind fun r2 => if (decide (r2 = 1)) = true then (j0 k a2 r2 true r) else (j0 k a2 r2 (decide (r2 = 2)) r)
def sig (k : Nat) : Sig := .p [(false, y65), (false, (.i .i64)), (false, (.i .i64))] [.c false (.i .i64)] fun x => f k x.1 x.2.1 x.2.2.1
def E (k : Nat) : List (Nat × Sig) := [(33, regletref02_Kind.sig k), (35, regletref04_Of.sig k)]
noncomputable def d : FD := ⟨32, Tryz.f32, 58, 66, [(7, 58, 8)], [], [], [], [.tmp 6], .s .n (.s .n (.s (.s .n (.s (.j 0 .n (.s .n (.j 1 .n .n))) .n)) (.s (.s .n (.s (.l 2 (.s .n (.j 3 .n .n))) .n)) .n)))⟩
abbrev s0 : Sh := [(2, .v (.i .i64)), (7, .at_ 58), (13, .v (.i .i64)), (14, .v .b), (58, .box y64)]
abbrev s1 : Sh := [(2, .v (.i .i64)), (7, .at_ 58), (19, .v .b), (58, .box y64)]
abbrev s2 : Sh := [(2, .v (.i .i64)), (7, .at_ 58), (8, .v (.i .i64)), (58, .box y64)]
abbrev s3 : Sh := [(2, .v (.i .i64)), (7, .at_ 58), (8, .v (.i .i64)), (58, .box y64)]
def O (k : Nat) : List (Orc (denR ([.c false (.i .i64)]))) := [⟨s0, fun y => j0 k y.1 y.2.2.1 y.2.2.2.1 y.2.2.2.2.1⟩, ⟨s1, fun y => j1 k y.1 y.2.2.1 y.2.2.2.1⟩, ⟨s2, fun y => l2 k y.1 y.2.2.1 y.2.2.2.1⟩, ⟨s3, fun y => j3 k y.1 y.2.2.1 y.2.2.2.1⟩]
theorem e1 (k : Nat) (y : denS s1) : j1 (k + 1) y.1 y.2.2.1 y.2.2.2.1 = SS.ev d E O k [1, 1, 0, 1, 0, 1, 1, 1] s1 y := by rw [j1]; kernel_rfl
theorem e0 (k : Nat) (y : denS s0) : j0 (k + 1) y.1 y.2.2.1 y.2.2.2.1 y.2.2.2.2.1 = SS.ev d E O k [1, 1, 0, 1, 0, 1] s0 y := by rw [j0]; kernel_rfl
theorem e3 (k : Nat) (y : denS s3) : j3 (k + 1) y.1 y.2.2.1 y.2.2.2.1 = SS.ev d E O k [1, 1, 1, 0, 1, 0, 0, 1, 1] s3 y := by rw [j3]; kernel_rfl
theorem e2 (k : Nat) (y : denS s2) : l2 (k + 1) y.1 y.2.2.1 y.2.2.2.1 = SS.ev d E O k [1, 1, 1, 0, 1, 0, 0] s2 y := by rw [l2]; kernel_rfl
theorem ok (k : Nat) : EnvOk Tryz.prog (32, sig k) := fnP SS d E O sig (fun _ => rfl) Tryz.func32 (by kernel_rfl) rfl (fun k => ⟨regletref02_Kind.ok k, regletref04_Of.ok k, trivial⟩) ⟨fun _ => rfl, fun _ => rfl, fun _ => rfl, fun _ => rfl, trivial⟩ (by kernel_rfl) (fun k => pc 1 rfl (e1 k) <| pc 0 rfl (e0 k) <| pc 3 rfl (e3 k) <| pc 2 rfl (e2 k) <| pn) (fun k x => by kernel_rfl) k
end regletref04_Width
namespace regletref01_Clamp
def f (k : Nat) (a0 : Int) : Option Int := if (decide (1152921504606846976 < a0)) = true then (some 1152921504606846976) else (if (decide (a0 < (-1152921504606846976))) = true then (some (-1152921504606846976)) else (some a0))
def sig (k : Nat) : Sig := .p [(false, (.i .i64))] [.c false (.i .i64)] fun x => f k x.1
def E (k : Nat) : List (Nat × Sig) := []
noncomputable def d : FD := ⟨72, Tryz.f72, 8, 8, [], [], [], [], [.tmp 2], .n⟩
def O (k : Nat) : List (Orc (denR ([.c false (.i .i64)]))) := []
theorem ok (k : Nat) : EnvOk Tryz.prog (72, sig k) := fnP SS d E O sig (fun _ => rfl) Tryz.func72 (by kernel_rfl) rfl (fun k => trivial) trivial (by kernel_rfl) (fun _ => pn) (fun k x => by kernel_rfl) k
end regletref01_Clamp
namespace regletref01_Add
def f (k : Nat) (a0 : Int) (a1 : Int) : Option Int := (regletref01_Clamp.f k a0).bind fun r => (regletref01_Clamp.f k a1).bind fun r2 => (regletref01_Clamp.f k (wrap64 (r + r2))).bind fun r3 => some r3
def sig (k : Nat) : Sig := .p [(false, (.i .i64)), (false, (.i .i64))] [.c false (.i .i64)] fun x => f k x.1 x.2.1
def E (k : Nat) : List (Nat × Sig) := [(72, regletref01_Clamp.sig k)]
noncomputable def d : FD := ⟨34, Tryz.f34, 11, 11, [], [], [], [], [.tmp 4], .n⟩
def O (k : Nat) : List (Orc (denR ([.c false (.i .i64)]))) := []
theorem ok (k : Nat) : EnvOk Tryz.prog (34, sig k) := fnP SS d E O sig (fun _ => rfl) Tryz.func34 (by kernel_rfl) rfl (fun k => ⟨regletref01_Clamp.ok k, trivial⟩) trivial (by kernel_rfl) (fun _ => pn) (fun k x => by kernel_rfl) k
end regletref01_Add
namespace regletref07_fill
def f (k : Nat) (a0 : Int) (a1 : Int) : Option (List api_Item) := some ([(2, 0, 0, 0, (true), 0, (false), a0, a0), (3, 0, 0, 0, (false), (-10000), (false), a0, a1)] : List api_Item)
def sig (k : Nat) : Sig := .p [(false, (.i .i64)), (false, (.i .i64))] [.c false y29] fun x => f k x.1 x.2.1
def E (k : Nat) : List (Nat × Sig) := []
noncomputable def d : FD := ⟨36, Tryz.f36, 12, 12, [], [], [], [], [.tmp 4], .n⟩
def O (k : Nat) : List (Orc (denR ([.c false y29]))) := []
theorem ok (k : Nat) : EnvOk Tryz.prog (36, sig k) := fnP SS d E O sig (fun _ => rfl) Tryz.func36 (by kernel_rfl) rfl (fun k => trivial) trivial (by kernel_rfl) (fun _ => pn) (fun k x => by kernel_rfl) k
end regletref07_fill
namespace regletref07_Build
mutual
def l0 : Nat → A1 → ByteArray → (List api_Run) → (List Int) → (List Int) → (List api_Item) → Int → Int → Option A12
 | 0, _, _, _, _, _, _, _, _ => none
 | k + 1, t, t2, t3, t4, t5, t6, t7, t8 => if (decide (t8 < (t4.length : Int))) = true then (if 0 ≤ t8 ∧ t8 < (t5.length : Int) then ((t5[t8.toNat]?).bind fun e => if (decide ((wrap64 (t8 + 1)) < (t5.length : Int))) = true then (if 0 ≤ (wrap64 (t8 + 1)) ∧ (wrap64 (t8 + 1)) < (t5.length : Int) then ((t5[(wrap64 (t8 + 1)).toNat]?).bind fun e2 => j1 k t t2 t3 t4 t5 t6 t7 t8 e e2) else none) else (j1 k t t2 t3 t4 t5 t6 t7 t8 e (t2.size : Int))) else none) else ((regletref07_fill.f k (t2.size : Int) (t2.size : Int)).bind fun r3 => if (t6.length + r3.length) * 72 ≤ 140737488355328 then (some (t6 ++ r3, 0)) else none)
def j1 : Nat → A1 → ByteArray → (List api_Run) → (List Int) → (List Int) → (List api_Item) → Int → Int → Int → Int → Option A12
 | 0, _, _, _, _, _, _, _, _, _, _ => none
 | k + 1, t9, t10, t11, t12, t13, t14, t15, t16, t17, t18 => (regletref07_StyleAt.f k t11 t17).bind fun r4 => if 0 ≤ t16 ∧ t16 < (t12.length : Int) then ((t12[t16.toNat]?).bind fun e3 => (regletref04_Width.f k t9 r4 e3).bind fun r5 => if 0 ≤ t16 ∧ t16 < (t12.length : Int) then ((t12[t16.toNat]?).bind fun e4 => (regletref02_Kind.f k e4).bind fun r6 => if (decide (r6 = 0)) = true then (j2 k t9 t10 t11 t12 t13 t14 t15 t16 t17 t18 r4 r5 r6 (wrap64 ((t14.length : Int) - 1))) else (if (decide (r6 = 2)) = true then (j2 k t9 t10 t11 t12 t13 t14 t15 t16 t17 t18 r4 r5 r6 (wrap64 ((t14.length : Int) - 1))) else (if (decide (r6 = 6)) = true then (j2 k t9 t10 t11 t12 t13 t14 t15 t16 t17 t18 r4 r5 r6 (wrap64 ((t14.length : Int) - 1))) else (j3 k t9 t10 t11 t12 t13 t14 t16 t17 t18 r4 r6)))) else none) else none
def j2 : Nat → A1 → ByteArray → (List api_Run) → (List Int) → (List Int) → (List api_Item) → Int → Int → Int → Int → Int → Int → Int → Int → Option A12
 | 0, _, _, _, _, _, _, _, _, _, _, _, _, _, _ => none
 | k + 1, t19, t20, t21, t22, t23, t24, t25, t26, t27, t28, t29, t30, t31, t32 => if (decide (t25 = t29)) = true then (if 0 ≤ t32 ∧ t32 < (t24.length : Int) then ((t24[t32.toNat]?).bind fun e5 => (regletref01_Add.f k e5.2.1 t30).bind fun r7 => if 0 ≤ t32 ∧ t32 < (t24.length : Int) then ((t24[t32.toNat]?).bind fun e6 => if 0 ≤ t32 ∧ t32 < ((t24.set t32.toNat (e6.1, r7, e6.2.2.1, e6.2.2.2.1, e6.2.2.2.2.1, e6.2.2.2.2.2.1, e6.2.2.2.2.2.2.1, e6.2.2.2.2.2.2.2.1, e6.2.2.2.2.2.2.2.2)).length : Int) then (((t24.set t32.toNat (e6.1, r7, e6.2.2.1, e6.2.2.2.1, e6.2.2.2.2.1, e6.2.2.2.2.2.1, e6.2.2.2.2.2.2.1, e6.2.2.2.2.2.2.2.1, e6.2.2.2.2.2.2.2.2))[t32.toNat]?).bind fun e7 => j4 k t19 t20 t21 t22 t23 ((t24.set t32.toNat (e6.1, r7, e6.2.2.1, e6.2.2.2.1, e6.2.2.2.2.1, e6.2.2.2.2.2.1, e6.2.2.2.2.2.2.1, e6.2.2.2.2.2.2.2.1, e6.2.2.2.2.2.2.2.2)).set t32.toNat (e7.1, e7.2.1, e7.2.2.1, e7.2.2.2.1, e7.2.2.2.2.1, e7.2.2.2.2.2.1, e7.2.2.2.2.2.2.1, e7.2.2.2.2.2.2.2.1, t28)) t26 t28 t29 t31) else none) else none) else none) else (if (t24.length + ([(1, t30, 0, 0, (false), 0, (false), t27, t28)] : List api_Item).length) * 72 ≤ 140737488355328 then (j4 k t19 t20 t21 t22 t23 (t24 ++ ([(1, t30, 0, 0, (false), 0, (false), t27, t28)] : List api_Item)) t26 t28 t29 t31) else none)
def j3 : Nat → A1 → ByteArray → (List api_Run) → (List Int) → (List Int) → (List api_Item) → Int → Int → Int → Int → Int → Option A12
 | 0, _, _, _, _, _, _, _, _, _, _, _ => none
 | k + 1, t33, t34, t35, t36, t37, t38, t39, t40, t41, t42, t43 => (regletref04_Of.f k t33 t42).bind fun r8 => if (decide (t43 = 1)) = true then (if (t38.length + ([(2, r8.2.1, r8.2.2.1, r8.2.2.2.1, (false), 0, (false), t40, t41)] : List api_Item).length) * 72 ≤ 140737488355328 then (j5 k t33 t34 t35 t36 t37 (t38 ++ ([(2, r8.2.1, r8.2.2.1, r8.2.2.2.1, (false), 0, (false), t40, t41)] : List api_Item)) (-1) t39 t43) else none) else (if (decide (t43 = 3)) = true then (if (t38.length + ([(3, r8.2.2.2.2.1, 0, 0, (false), 50, (true), t40, t41)] : List api_Item).length) * 72 ≤ 140737488355328 then (j5 k t33 t34 t35 t36 t37 (t38 ++ ([(3, r8.2.2.2.2.1, 0, 0, (false), 50, (true), t40, t41)] : List api_Item)) (-1) t39 t43) else none) else (if (decide (t43 = 4)) = true then (if (t38.length + ([(3, 0, 0, 0, (false), 0, (false), t40, t41)] : List api_Item).length) * 72 ≤ 140737488355328 then (j5 k t33 t34 t35 t36 t37 (t38 ++ ([(3, 0, 0, 0, (false), 0, (false), t40, t41)] : List api_Item)) (-1) t39 t43) else none) else (if (decide (t43 = 5)) = true then (if (t38.length + ([(3, 0, 0, 0, (false), 10000, (false), t40, t41)] : List api_Item).length) * 72 ≤ 140737488355328 then (j5 k t33 t34 t35 t36 t37 (t38 ++ ([(3, 0, 0, 0, (false), 10000, (false), t40, t41)] : List api_Item)) (-1) t39 t43) else none) else ((regletref07_fill.f k t40 t41).bind fun r9 => if (t38.length + r9.length) * 72 ≤ 140737488355328 then (j5 k t33 t34 t35 t36 t37 (t38 ++ r9) (-1) t39 t43) else none))))
def j4 : Nat → A1 → ByteArray → (List api_Run) → (List Int) → (List Int) → (List api_Item) → Int → Int → Int → Int → Option A12
 | 0, _, _, _, _, _, _, _, _, _, _ => none
 | k + 1, t44, t45, t46, t47, t48, t49, t50, t51, t52, t53 => if (decide (t53 = 6)) = true then (if (t49.length + ([(3, 0, 0, 0, (false), 50, (true), t51, t51)] : List api_Item).length) * 72 ≤ 140737488355328 then (j6 k t44 t45 t46 t47 t48 (t49 ++ ([(3, 0, 0, 0, (false), 50, (true), t51, t51)] : List api_Item)) (-1) t50) else none) else (j6 k t44 t45 t46 t47 t48 t49 t52 t50)
def j5 : Nat → A1 → ByteArray → (List api_Run) → (List Int) → (List Int) → (List api_Item) → Int → Int → Int → Option A12
 | 0, _, _, _, _, _, _, _, _, _ => none
 | k + 1, t54, t55, t56, t57, t58, t59, t60, t61, t62 => if (decide (t62 = 8)) = true then (some (t59, 0)) else (j6 k t54 t55 t56 t57 t58 t59 t60 t61)
def j6 : Nat → A1 → ByteArray → (List api_Run) → (List Int) → (List Int) → (List api_Item) → Int → Int → Option A12
 | 0, _, _, _, _, _, _, _, _ => none
 | k + 1, t63, t64, t65, t66, t67, t68, t69, t70 => l0 k t63 t64 t65 t66 t67 t68 t69 (wrap64 (t70 + 1))
end
def f (k : Nat) (a0 : A1) (a1 : ByteArray) (a2 : (List api_Run)) : Option A12 := (regletref07_Check.f k a0 a1 a2).bind fun r => if (!decide (r = 0)) = true then (some (([] : List api_Item), r)) else ((regletref02_Runes.f k a1).bind fun r2 => l0 k a0 a1 a2 r2.1 r2.2.1 ([] : List api_Item) (-1) 0)
def sig (k : Nat) : Sig := .p [(false, y65), (false, .s), (false, y67)] [.c false y29, .c false (.i .i64)] fun x => f k x.1 x.2.1 x.2.2.1
def E (k : Nat) : List (Nat × Sig) := [(29, regletref07_Check.sig k), (30, regletref02_Runes.sig k), (31, regletref07_StyleAt.sig k), (32, regletref04_Width.sig k), (33, regletref02_Kind.sig k), (34, regletref01_Add.sig k), (35, regletref04_Of.sig k), (36, regletref07_fill.sig k)]
noncomputable def d : FD := ⟨9, Tryz.f9, 179, 187, [(21, 179, 8)], [], [], [], [.tmp 6, .tmp 7], .s .n (.s .n (.s .n (.s .n (.s .n (.s (.s .n (.s (.l 0 (.s .n (.j 6 (.s (.s .n (.j 1 .n (.s .n (.s .n (.s .n (.j 3 (.s .n (.s (.j 4 (.j 2 .n .n) .n) .n)) (.s .n (.s .n (.j 5 .n .n))))))))) .n) .n))) .n)) .n)))))⟩
abbrev s0 : Sh := [(0, .v y65), (1, .v .s), (2, .v y67), (9, .v y10), (10, .v y10), (12, .v y29), (13, .v (.i .i64)), (14, .v (.i .i64))]
abbrev s1 : Sh := [(0, .v y65), (1, .v .s), (2, .v y67), (9, .v y10), (10, .v y10), (12, .v y29), (13, .v (.i .i64)), (14, .v (.i .i64)), (15, .v (.i .i64)), (16, .v (.i .i64))]
abbrev s2 : Sh := [(0, .v y65), (1, .v .s), (2, .v y67), (9, .v y10), (10, .v y10), (12, .v y29), (13, .v (.i .i64)), (14, .v (.i .i64)), (15, .v (.i .i64)), (16, .v (.i .i64)), (17, .v (.i .i64)), (18, .v (.i .i64)), (19, .v (.i .i64)), (20, .v (.i .i64))]
abbrev s3 : Sh := [(0, .v y65), (1, .v .s), (2, .v y67), (9, .v y10), (10, .v y10), (12, .v y29), (14, .v (.i .i64)), (15, .v (.i .i64)), (16, .v (.i .i64)), (17, .v (.i .i64)), (19, .v (.i .i64))]
abbrev s4 : Sh := [(0, .v y65), (1, .v .s), (2, .v y67), (9, .v y10), (10, .v y10), (12, .v y29), (14, .v (.i .i64)), (16, .v (.i .i64)), (17, .v (.i .i64)), (19, .v (.i .i64))]
abbrev s5 : Sh := [(0, .v y65), (1, .v .s), (2, .v y67), (9, .v y10), (10, .v y10), (12, .v y29), (13, .v (.i .i64)), (14, .v (.i .i64)), (19, .v (.i .i64))]
abbrev s6 : Sh := [(0, .v y65), (1, .v .s), (2, .v y67), (9, .v y10), (10, .v y10), (12, .v y29), (13, .v (.i .i64)), (14, .v (.i .i64))]
def O (k : Nat) : List (Orc (denR ([.c false y29, .c false (.i .i64)]))) := [⟨s0, fun y => l0 k y.1 y.2.1 y.2.2.1 y.2.2.2.1 y.2.2.2.2.1 y.2.2.2.2.2.1 y.2.2.2.2.2.2.1 y.2.2.2.2.2.2.2.1⟩, ⟨s1, fun y => j1 k y.1 y.2.1 y.2.2.1 y.2.2.2.1 y.2.2.2.2.1 y.2.2.2.2.2.1 y.2.2.2.2.2.2.1 y.2.2.2.2.2.2.2.1 y.2.2.2.2.2.2.2.2.1 y.2.2.2.2.2.2.2.2.2.1⟩, ⟨s2, fun y => j2 k y.1 y.2.1 y.2.2.1 y.2.2.2.1 y.2.2.2.2.1 y.2.2.2.2.2.1 y.2.2.2.2.2.2.1 y.2.2.2.2.2.2.2.1 y.2.2.2.2.2.2.2.2.1 y.2.2.2.2.2.2.2.2.2.1 y.2.2.2.2.2.2.2.2.2.2.1 y.2.2.2.2.2.2.2.2.2.2.2.1 y.2.2.2.2.2.2.2.2.2.2.2.2.1 y.2.2.2.2.2.2.2.2.2.2.2.2.2.1⟩, ⟨s3, fun y => j3 k y.1 y.2.1 y.2.2.1 y.2.2.2.1 y.2.2.2.2.1 y.2.2.2.2.2.1 y.2.2.2.2.2.2.1 y.2.2.2.2.2.2.2.1 y.2.2.2.2.2.2.2.2.1 y.2.2.2.2.2.2.2.2.2.1 y.2.2.2.2.2.2.2.2.2.2.1⟩, ⟨s4, fun y => j4 k y.1 y.2.1 y.2.2.1 y.2.2.2.1 y.2.2.2.2.1 y.2.2.2.2.2.1 y.2.2.2.2.2.2.1 y.2.2.2.2.2.2.2.1 y.2.2.2.2.2.2.2.2.1 y.2.2.2.2.2.2.2.2.2.1⟩, ⟨s5, fun y => j5 k y.1 y.2.1 y.2.2.1 y.2.2.2.1 y.2.2.2.2.1 y.2.2.2.2.2.1 y.2.2.2.2.2.2.1 y.2.2.2.2.2.2.2.1 y.2.2.2.2.2.2.2.2.1⟩, ⟨s6, fun y => j6 k y.1 y.2.1 y.2.2.1 y.2.2.2.1 y.2.2.2.2.1 y.2.2.2.2.2.1 y.2.2.2.2.2.2.1 y.2.2.2.2.2.2.2.1⟩]
theorem e2 (k : Nat) (y : denS s2) : j2 (k + 1) y.1 y.2.1 y.2.2.1 y.2.2.2.1 y.2.2.2.2.1 y.2.2.2.2.2.1 y.2.2.2.2.2.2.1 y.2.2.2.2.2.2.2.1 y.2.2.2.2.2.2.2.2.1 y.2.2.2.2.2.2.2.2.2.1 y.2.2.2.2.2.2.2.2.2.2.1 y.2.2.2.2.2.2.2.2.2.2.2.1 y.2.2.2.2.2.2.2.2.2.2.2.2.1 y.2.2.2.2.2.2.2.2.2.2.2.2.2.1 = SS.ev d E O k [1, 1, 1, 1, 1, 0, 1, 0, 0, 1, 0, 0, 1, 1, 1, 1, 1, 0, 1, 0, 0, 1] s2 y := by rw [j2]; kernel_rfl
theorem e4 (k : Nat) (y : denS s4) : j4 (k + 1) y.1 y.2.1 y.2.2.1 y.2.2.2.1 y.2.2.2.2.1 y.2.2.2.2.2.1 y.2.2.2.2.2.2.1 y.2.2.2.2.2.2.2.1 y.2.2.2.2.2.2.2.2.1 y.2.2.2.2.2.2.2.2.2.1 = SS.ev d E O k [1, 1, 1, 1, 1, 0, 1, 0, 0, 1, 0, 0, 1, 1, 1, 1, 1, 0, 1, 0, 1] s4 y := by rw [j4]; kernel_rfl
theorem e5 (k : Nat) (y : denS s5) : j5 (k + 1) y.1 y.2.1 y.2.2.1 y.2.2.2.1 y.2.2.2.2.1 y.2.2.2.2.2.1 y.2.2.2.2.2.2.1 y.2.2.2.2.2.2.2.1 y.2.2.2.2.2.2.2.2.1 = SS.ev d E O k [1, 1, 1, 1, 1, 0, 1, 0, 0, 1, 0, 0, 1, 1, 1, 1, 1, 1, 1, 1, 1] s5 y := by rw [j5]; kernel_rfl
theorem e3 (k : Nat) (y : denS s3) : j3 (k + 1) y.1 y.2.1 y.2.2.1 y.2.2.2.1 y.2.2.2.2.1 y.2.2.2.2.2.1 y.2.2.2.2.2.2.1 y.2.2.2.2.2.2.2.1 y.2.2.2.2.2.2.2.2.1 y.2.2.2.2.2.2.2.2.2.1 y.2.2.2.2.2.2.2.2.2.2.1 = SS.ev d E O k [1, 1, 1, 1, 1, 0, 1, 0, 0, 1, 0, 0, 1, 1, 1, 1, 1, 1] s3 y := by rw [j3]; kernel_rfl
theorem e1 (k : Nat) (y : denS s1) : j1 (k + 1) y.1 y.2.1 y.2.2.1 y.2.2.2.1 y.2.2.2.2.1 y.2.2.2.2.2.1 y.2.2.2.2.2.2.1 y.2.2.2.2.2.2.2.1 y.2.2.2.2.2.2.2.2.1 y.2.2.2.2.2.2.2.2.2.1 = SS.ev d E O k [1, 1, 1, 1, 1, 0, 1, 0, 0, 1, 0, 0, 1, 1] s1 y := by rw [j1]; kernel_rfl
theorem e6 (k : Nat) (y : denS s6) : j6 (k + 1) y.1 y.2.1 y.2.2.1 y.2.2.2.1 y.2.2.2.2.1 y.2.2.2.2.2.1 y.2.2.2.2.2.2.1 y.2.2.2.2.2.2.2.1 = SS.ev d E O k [1, 1, 1, 1, 1, 0, 1, 0, 0, 1, 1] s6 y := by rw [j6]; kernel_rfl
theorem e0 (k : Nat) (y : denS s0) : l0 (k + 1) y.1 y.2.1 y.2.2.1 y.2.2.2.1 y.2.2.2.2.1 y.2.2.2.2.2.1 y.2.2.2.2.2.2.1 y.2.2.2.2.2.2.2.1 = SS.ev d E O k [1, 1, 1, 1, 1, 0, 1, 0, 0] s0 y := by rw [l0]; kernel_rfl
theorem ok (k : Nat) : EnvOk Tryz.prog (9, sig k) := fnP SS d E O sig (fun _ => rfl) Tryz.func9 (by kernel_rfl) rfl (fun k => ⟨regletref07_Check.ok k, regletref02_Runes.ok k, regletref07_StyleAt.ok k, regletref04_Width.ok k, regletref02_Kind.ok k, regletref01_Add.ok k, regletref04_Of.ok k, regletref07_fill.ok k, trivial⟩) ⟨fun _ => rfl, fun _ => rfl, fun _ => rfl, fun _ => rfl, fun _ => rfl, fun _ => rfl, fun _ => rfl, trivial⟩ (by kernel_rfl) (fun k => pc 2 rfl (e2 k) <| pc 4 rfl (e4 k) <| pc 5 rfl (e5 k) <| pc 3 rfl (e3 k) <| pc 1 rfl (e1 k) <| pc 6 rfl (e6 k) <| pc 0 rfl (e0 k) <| pn) (fun k x => by kernel_rfl) k
end regletref07_Build
namespace regletref10_Items
def f (k : Nat) (a0 : A1) (a1 : ByteArray) (a2 : (List api_Run)) : Option (List api_Item) := (regletref07_Build.f k a0 a1 a2).bind fun r => some r.1
def sig (k : Nat) : Sig := .p [(false, y65), (false, .s), (false, y67)] [.c false y29] fun x => f k x.1 x.2.1 x.2.2.1
def E (k : Nat) : List (Nat × Sig) := [(9, regletref07_Build.sig k)]
noncomputable def d : FD := ⟨21, Tryz.f21, 17, 17, [], [], [], [], [.tmp 6], .n⟩
def O (k : Nat) : List (Orc (denR ([.c false y29]))) := []
theorem ok (k : Nat) : EnvOk Tryz.prog (21, sig k) := fnP SS d E O sig (fun _ => rfl) Tryz.func21 (by kernel_rfl) rfl (fun k => ⟨regletref07_Build.ok k, trivial⟩) trivial (by kernel_rfl) (fun _ => pn) (fun k x => by kernel_rfl) k
end regletref10_Items
namespace regletref07_Forced
def f (k : Nat) (a0 : api_Item) : Option Bool := if (decide (a0.1 = 3)) = true then (some (decide (a0.2.2.2.2.2.1 ≤ (-10000)))) else (some false)
def sig (k : Nat) : Sig := .p [(true, y27)] [.c false .b] fun x => f k x.1
def E (k : Nat) : List (Nat × Sig) := []
noncomputable def d : FD := ⟨23, Tryz.f23, 11, 20, [(1, 11, 9)], [], [], [], [.tmp 2], .n⟩
def O (k : Nat) : List (Orc (denR ([.c false .b]))) := []
theorem ok (k : Nat) : EnvOk Tryz.prog (23, sig k) := fnP SS d E O sig (fun _ => rfl) Tryz.func23 (by kernel_rfl) rfl (fun k => trivial) trivial (by kernel_rfl) (fun _ => pn) (fun k x => by kernel_rfl) k
end regletref07_Forced
namespace regletref08_Start
mutual
def l0 : Nat → (List api_Item) → Int → Int → Option Int
 | 0, _, _, _ => none
 | k + 1, l, a, k_ => if (decide (k_ < (l.length : Int))) = true then (if (decide (a < k_)) = true then ((at? l k_).bind fun e => if (decide (e.1 = 1)) = true then (some k_) else ((at? l k_).bind fun e2 => (regletref07_Forced.f k e2).bind fun r => if r = true then (some k_) else ((at? l k_).bind fun e3 => if (decide (e3.1 = 2)) = true then ((at? l k_).bind fun e4 => if e4.2.2.2.2.1 = true then (some k_) else (j1 k l a k_)) else (j1 k l a k_)))) else (j1 k l a k_)) else (some (l.length : Int))
def j1 : Nat → (List api_Item) → Int → Int → Option Int
 | 0, _, _, _ => none
 | k + 1, l2, a2, k_2 => l0 k l2 a2 (wrap64 (k_2 + 1))
end
def f (k : Nat) (a0 : (List api_Item)) (a1 : Int) : Option Int := if (decide (a1 < 0)) = true then (some 0) else (l0 k a0 a1 a1)
def sig (k : Nat) : Sig := .p [(false, y28), (false, (.i .i64))] [.c false (.i .i64)] fun x => f k x.1 x.2.1
def E (k : Nat) : List (Nat × Sig) := [(23, regletref07_Forced.sig k)]
noncomputable def d : FD := ⟨56, Tryz.f56, 51, 51, [], [], [], [], [.tmp 4], .s .n (.s .n (.s (.s .n (.s (.l 0 (.s .n (.j 1 .n .n))) .n)) .n))⟩
abbrev s0 : Sh := [(0, .v y28), (1, .v (.i .i64)), (5, .v (.i .i64))]
abbrev s1 : Sh := [(0, .v y28), (1, .v (.i .i64)), (5, .v (.i .i64))]
def O (k : Nat) : List (Orc (denR ([.c false (.i .i64)]))) := [⟨s0, fun y => l0 k y.1 y.2.1 y.2.2.1⟩, ⟨s1, fun y => j1 k y.1 y.2.1 y.2.2.1⟩]
theorem e1 (k : Nat) (y : denS s1) : j1 (k + 1) y.1 y.2.1 y.2.2.1 = SS.ev d E O k [1, 1, 0, 1, 0, 0, 1, 1] s1 y := by rw [j1]; kernel_rfl
theorem e0 (k : Nat) (y : denS s0) : l0 (k + 1) y.1 y.2.1 y.2.2.1 = SS.ev d E O k [1, 1, 0, 1, 0, 0] s0 y := by rw [l0]; kernel_rfl
theorem ok (k : Nat) : EnvOk Tryz.prog (56, sig k) := fnP SS d E O sig (fun _ => rfl) Tryz.func56 (by kernel_rfl) rfl (fun k => ⟨regletref07_Forced.ok k, trivial⟩) ⟨fun _ => rfl, fun _ => rfl, trivial⟩ (by kernel_rfl) (fun k => pc 1 rfl (e1 k) <| pc 0 rfl (e0 k) <| pn) (fun k x => by kernel_rfl) k
end regletref08_Start
namespace regletref08_Line
mutual
def j0 : Nat → (List api_Item) → Int → Int → regletref08_Sum → regletref08_Sum → Option A20
 | 0, _, _, _, _, _ => none
 | k + 1, t, t2, t3, t4, t5 => (regletref08_Start.f k t t2).bind fun r => l1 k t t3 r t4 t5
def l1 : Nat → (List api_Item) → Int → Int → regletref08_Sum → regletref08_Sum → Option A20
 | 0, _, _, _, _, _ => none
 | k + 1, t6, t7, t8, t9, t10 => if (decide (t8 < t7)) = true then ((at? t6 t8).bind fun e => if (!decide (e.1 = 3)) = true then ((at? t6 t8).bind fun e2 => (at? t6 t8).bind fun e3 => (at? t6 t8).bind fun e4 => j2 k t6 t7 t8 t9 (wrap64 (t10.1 + e2.2.1), wrap64 (t10.2.1 + e3.2.2.1), wrap64 (t10.2.2.1 + e4.2.2.2.1), t10.2.2.2)) else (j2 k t6 t7 t8 t9 t10)) else (some (t10, true))
def j2 : Nat → (List api_Item) → Int → Int → regletref08_Sum → regletref08_Sum → Option A20
 | 0, _, _, _, _, _ => none
 | k + 1, t11, t12, t13, t14, t15 => (at? t11 t13).bind fun e5 => if e5.2.2.2.2.1 = true then (j3 k t11 t12 t13 t14 (t15.1, t15.2.1, t15.2.2.1, wrap64 (t15.2.2.2 + 1))) else (j3 k t11 t12 t13 t14 t15)
def j3 : Nat → (List api_Item) → Int → Int → regletref08_Sum → regletref08_Sum → Option A20
 | 0, _, _, _, _, _ => none
 | k + 1, t16, t17, t18, t19, t20 => l1 k t16 t17 (wrap64 (t18 + 1)) t19 t20
end
def f (k : Nat) (a0 : (List api_Item)) (a1 : Int) (a2 : Int) : Option A20 := if (decide (a2 < 0)) = true then (some ((0, 0, 0, 0), false)) else (if (decide ((a0.length : Int) ≤ a2)) = true then (some ((0, 0, 0, 0), false)) else (j0 k a0 a1 a2 (0, 0, 0, 0) (0, 0, 0, 0)))
def sig (k : Nat) : Sig := .p [(false, y28), (false, (.i .i64)), (false, (.i .i64))] [.c true y53, .c false .b] fun x => f k x.1 x.2.1 x.2.2.1
def E (k : Nat) : List (Nat × Sig) := [(56, regletref08_Start.sig k)]
noncomputable def d : FD := ⟨57, Tryz.f57, 70, 78, [(6, 70, 4), (8, 74, 4)], [], [], [], [.cell 6 59, .tmp 7], .s .n (.s .n (.j 0 .n (.s (.s .n (.s (.l 1 (.s .n (.j 3 (.s (.j 2 .n .n) .n) .n))) .n)) .n)))⟩
abbrev s0 : Sh := [(0, .v y28), (1, .v (.i .i64)), (2, .v (.i .i64)), (6, .at_ 70), (8, .at_ 74), (70, .box y53), (74, .box y53)]
abbrev s1 : Sh := [(0, .v y28), (2, .v (.i .i64)), (6, .at_ 70), (8, .at_ 74), (9, .v (.i .i64)), (70, .box y53), (74, .box y53)]
abbrev s2 : Sh := [(0, .v y28), (2, .v (.i .i64)), (6, .at_ 70), (8, .at_ 74), (9, .v (.i .i64)), (70, .box y53), (74, .box y53)]
abbrev s3 : Sh := [(0, .v y28), (2, .v (.i .i64)), (6, .at_ 70), (8, .at_ 74), (9, .v (.i .i64)), (70, .box y53), (74, .box y53)]
def O (k : Nat) : List (Orc (denR ([.c true y53, .c false .b]))) := [⟨s0, fun y => j0 k y.1 y.2.1 y.2.2.1 y.2.2.2.2.2.1 y.2.2.2.2.2.2.1⟩, ⟨s1, fun y => l1 k y.1 y.2.1 y.2.2.2.2.1 y.2.2.2.2.2.1 y.2.2.2.2.2.2.1⟩, ⟨s2, fun y => j2 k y.1 y.2.1 y.2.2.2.2.1 y.2.2.2.2.2.1 y.2.2.2.2.2.2.1⟩, ⟨s3, fun y => j3 k y.1 y.2.1 y.2.2.2.2.1 y.2.2.2.2.2.1 y.2.2.2.2.2.2.1⟩]
theorem e2 (k : Nat) (y : denS s2) : j2 (k + 1) y.1 y.2.1 y.2.2.2.2.1 y.2.2.2.2.2.1 y.2.2.2.2.2.2.1 = SS.ev d E O k [1, 1, 1, 0, 1, 0, 0, 1, 0, 0, 1] s2 y := by rw [j2]; kernel_rfl
theorem e3 (k : Nat) (y : denS s3) : j3 (k + 1) y.1 y.2.1 y.2.2.2.2.1 y.2.2.2.2.2.1 y.2.2.2.2.2.2.1 = SS.ev d E O k [1, 1, 1, 0, 1, 0, 0, 1, 1] s3 y := by rw [j3]; kernel_rfl
theorem e1 (k : Nat) (y : denS s1) : l1 (k + 1) y.1 y.2.1 y.2.2.2.2.1 y.2.2.2.2.2.1 y.2.2.2.2.2.2.1 = SS.ev d E O k [1, 1, 1, 0, 1, 0, 0] s1 y := by rw [l1]; kernel_rfl
theorem e0 (k : Nat) (y : denS s0) : j0 (k + 1) y.1 y.2.1 y.2.2.1 y.2.2.2.2.2.1 y.2.2.2.2.2.2.1 = SS.ev d E O k [1, 1, 1] s0 y := by rw [j0]; kernel_rfl
theorem ok (k : Nat) : EnvOk Tryz.prog (57, sig k) := fnP SS d E O sig (fun _ => rfl) Tryz.func57 (by kernel_rfl) rfl (fun k => ⟨regletref08_Start.ok k, trivial⟩) ⟨fun _ => rfl, fun _ => rfl, fun _ => rfl, fun _ => rfl, trivial⟩ (by kernel_rfl) (fun k => pc 2 rfl (e2 k) <| pc 3 rfl (e3 k) <| pc 1 rfl (e1 k) <| pc 0 rfl (e0 k) <| pn) (fun k x => by kernel_rfl) k
end regletref08_Line
namespace regletref08_Whole
def f (k : Nat) (a0 : (List api_Item)) (a1 : Int) (a2 : Int) : Option regletref08_Sum := (regletref08_Line.f k a0 a1 a2).bind fun r => if r.2 = true then ((at? a0 a2).bind fun e => if (decide (e.1 = 3)) = true then ((at? a0 a2).bind fun e2 => some (wrap64 (r.1.1 + e2.2.1), r.1.2.1, r.1.2.2.1, r.1.2.2.2)) else (some r.1)) else (some r.1)
def sig (k : Nat) : Sig := .p [(false, y28), (false, (.i .i64)), (false, (.i .i64))] [.c true y53] fun x => f k x.1 x.2.1 x.2.2.1
def E (k : Nat) : List (Nat × Sig) := [(57, regletref08_Line.sig k)]
noncomputable def d : FD := ⟨22, Tryz.f22, 35, 43, [(6, 35, 4), (7, 39, 4)], [], [], [], [.cell 6 59], .n⟩
def O (k : Nat) : List (Orc (denR ([.c true y53]))) := []
theorem ok (k : Nat) : EnvOk Tryz.prog (22, sig k) := fnP SS d E O sig (fun _ => rfl) Tryz.func22 (by kernel_rfl) rfl (fun k => ⟨regletref08_Line.ok k, trivial⟩) trivial (by kernel_rfl) (fun _ => pn) (fun k x => by kernel_rfl) k
end regletref08_Whole
namespace regletlaw10_LinesWide
mutual
def j0 : Nat → A1 → A1 → A17 → Option Bool
 | 0, _, _, _ => none
 | k + 1, t, t2, t3 => (lines_Paragraph.f k t2 t3.1 t3.2.1 t3.2.2.1 t3.2.2.2).bind fun r4 => (regletref10_Items.f k t t3.1 t3.2.1).bind fun r5 => if (!decide (r4.2.2 = 0)) = true then (some true) else (if r4.2.1.2.2 = true then (some true) else (if (decide (10000 ≤ t3.2.2.2.1)) = true then (some true) else (j1 k r4.1 r5 t3 r4.2.1)))
def j1 : Nat → A7 → (List api_Item) → A17 → api_Breaking → Option Bool
 | 0, _, _, _, _ => none
 | k + 1, t4, t5, t6, t7 => l2 k t4 t5 (-1) 0 t6 t7
def l2 : Nat → A7 → (List api_Item) → Int → Int → A17 → api_Breaking → Option Bool
 | 0, _, _, _, _, _, _ => none
 | k + 1, t8, t9, t10, t11, t12, t13 => if (decide (t11 < (t8.length : Int))) = true then ((at? t13.1 t11).bind fun e => (regletref08_Whole.f k t9 t10 e).bind fun r6 => if (decide (0 < r6.2.2.2)) = true then (j3 k t8 t9 e t11 t12 t13) else (if 0 ≤ e ∧ e < (t9.length : Int) then ((t9[e.toNat]?).bind fun e2 => (regletref07_Forced.f k e2).bind fun r7 => if r7 = true then (j3 k t8 t9 e t11 t12 t13) else (j4 k t8 t9 e t11 t12 t13 r6)) else none)) else (some true)
def j3 : Nat → A7 → (List api_Item) → Int → Int → A17 → api_Breaking → Option Bool
 | 0, _, _, _, _, _, _ => none
 | k + 1, t14, t15, t16, t17, t18, t19 => l2 k t14 t15 t16 (wrap64 (t17 + 1)) t18 t19
def j4 : Nat → A7 → (List api_Item) → Int → Int → A17 → api_Breaking → regletref08_Sum → Option Bool
 | 0, _, _, _, _, _, _, _ => none
 | k + 1, t20, t21, t22, t23, t24, t25, t26 => if 0 ≤ t23 ∧ t23 < (t20.length : Int) then ((t20[t23.toNat]?).bind fun e3 => if (decide (e3.2.2.1 < 0)) = true then (j5 k t20 t21 t22 t23 t26.2.2.1 t24 t25 t26) else (j5 k t20 t21 t22 t23 t26.2.1 t24 t25 t26)) else none
def j5 : Nat → A7 → (List api_Item) → Int → Int → Int → A17 → api_Breaking → regletref08_Sum → Option Bool
 | 0, _, _, _, _, _, _, _, _ => none
 | k + 1, t27, t28, t29, t30, t31, t32, t33, t34 => if 0 ≤ t30 ∧ t30 < (t27.length : Int) then ((t27[t30.toNat]?).bind fun e4 => if 0 ≤ t30 ∧ t30 < (t27.length : Int) then ((t27[t30.toNat]?).bind fun e5 => if 0 ≤ t30 ∧ t30 < (t27.length : Int) then ((t27[t30.toNat]?).bind fun e6 => if (!decide ((wrap64 ((wrap64 (t34.1 * e4.2.2.2.1)) + (wrap64 (t31 * e5.2.2.1)))) = (wrap64 (t32.2.2.1 * e6.2.2.2.1)))) = true then (some false) else (j3 k t27 t28 t29 t30 t32 t33)) else none) else none) else none
end
def f (k : Nat) (a0 : A1) (a1 : A17) : Option Bool := (regletlaw10_awake.f k).bind fun r => if (!r) = true then (some false) else ((regletlaw10_table.f k a0).bind fun r2 => optK r2 (some true) fun p => (regletlaw10_few.f k a1).bind fun r3 => if (!r3) = true then (some true) else (if (decide (16777216 < a1.2.2.1)) = true then (some true) else (j0 k a0 p a1)))
def sig (k : Nat) : Sig := .p [(false, y65), (true, y124)] [.c false .b] fun x => f k x.1 x.2.1
def E (k : Nat) : List (Nat × Sig) := [(5, regletlaw10_awake.sig k), (6, regletlaw10_table.sig k), (7, regletlaw10_few.sig k), (8, lines_Paragraph.sig k), (21, regletref10_Items.sig k), (22, regletref08_Whole.sig k), (23, regletref07_Forced.sig k)]
noncomputable def d : FD := ⟨4, Tryz.f4, 124, 141, [(3, 124, 10), (7, 134, 3), (13, 137, 4)], [], [], [], [.tmp 4], .s .n (.s .n (.s .n (.j 0 (.s (.f 5 .n) .n) (.s .n (.s .n (.j 1 .n (.s .n (.s (.s .n (.s (.l 2 (.s .n (.j 3 (.s (.s .n (.s .n (.s .n (.j 4 .n (.s .n (.j 5 .n .n)))))) .n) .n))) .n)) .n))))))))⟩
abbrev s0 : Sh := [(0, .v y65), (3, .at_ 124), (5, .v y66), (124, .box y124)]
abbrev s1 : Sh := [(3, .at_ 124), (6, .v y76), (7, .at_ 134), (9, .v y29), (124, .box y124), (134, .box y87)]
abbrev s2 : Sh := [(3, .at_ 124), (6, .v y76), (7, .at_ 134), (9, .v y29), (10, .v (.i .i64)), (11, .v (.i .i64)), (124, .box y124), (134, .box y87)]
abbrev s3 : Sh := [(3, .at_ 124), (6, .v y76), (7, .at_ 134), (9, .v y29), (10, .v (.i .i64)), (11, .v (.i .i64)), (124, .box y124), (134, .box y87)]
abbrev s4 : Sh := [(3, .at_ 124), (6, .v y76), (7, .at_ 134), (9, .v y29), (10, .v (.i .i64)), (11, .v (.i .i64)), (13, .at_ 137), (124, .box y124), (134, .box y87), (137, .box y53)]
abbrev s5 : Sh := [(3, .at_ 124), (6, .v y76), (7, .at_ 134), (9, .v y29), (10, .v (.i .i64)), (11, .v (.i .i64)), (13, .at_ 137), (14, .v (.i .i64)), (124, .box y124), (134, .box y87), (137, .box y53)]
def O (k : Nat) : List (Orc (denR ([.c false .b]))) := [⟨s0, fun y => j0 k y.1 y.2.2.1 y.2.2.2.1⟩, ⟨s1, fun y => j1 k y.2.1 y.2.2.2.1 y.2.2.2.2.1 y.2.2.2.2.2.1⟩, ⟨s2, fun y => l2 k y.2.1 y.2.2.2.1 y.2.2.2.2.1 y.2.2.2.2.2.1 y.2.2.2.2.2.2.1 y.2.2.2.2.2.2.2.1⟩, ⟨s3, fun y => j3 k y.2.1 y.2.2.2.1 y.2.2.2.2.1 y.2.2.2.2.2.1 y.2.2.2.2.2.2.1 y.2.2.2.2.2.2.2.1⟩, ⟨s4, fun y => j4 k y.2.1 y.2.2.2.1 y.2.2.2.2.1 y.2.2.2.2.2.1 y.2.2.2.2.2.2.2.1 y.2.2.2.2.2.2.2.2.1 y.2.2.2.2.2.2.2.2.2.1⟩, ⟨s5, fun y => j5 k y.2.1 y.2.2.2.1 y.2.2.2.2.1 y.2.2.2.2.2.1 y.2.2.2.2.2.2.2.1 y.2.2.2.2.2.2.2.2.1 y.2.2.2.2.2.2.2.2.2.1 y.2.2.2.2.2.2.2.2.2.2.1⟩]
theorem e5 (k : Nat) (y : denS s5) : j5 (k + 1) y.2.1 y.2.2.2.1 y.2.2.2.2.1 y.2.2.2.2.2.1 y.2.2.2.2.2.2.2.1 y.2.2.2.2.2.2.2.2.1 y.2.2.2.2.2.2.2.2.2.1 y.2.2.2.2.2.2.2.2.2.2.1 = SS.ev d E O k [1, 1, 1, 1, 1, 1, 1, 1, 0, 1, 0, 0, 1, 0, 0, 1, 1, 1, 1, 1, 1] s5 y := by rw [j5]; kernel_rfl
theorem e4 (k : Nat) (y : denS s4) : j4 (k + 1) y.2.1 y.2.2.2.1 y.2.2.2.2.1 y.2.2.2.2.2.1 y.2.2.2.2.2.2.2.1 y.2.2.2.2.2.2.2.2.1 y.2.2.2.2.2.2.2.2.2.1 = SS.ev d E O k [1, 1, 1, 1, 1, 1, 1, 1, 0, 1, 0, 0, 1, 0, 0, 1, 1, 1, 1] s4 y := by rw [j4]; kernel_rfl
theorem e3 (k : Nat) (y : denS s3) : j3 (k + 1) y.2.1 y.2.2.2.1 y.2.2.2.2.1 y.2.2.2.2.2.1 y.2.2.2.2.2.2.1 y.2.2.2.2.2.2.2.1 = SS.ev d E O k [1, 1, 1, 1, 1, 1, 1, 1, 0, 1, 0, 0, 1, 1] s3 y := by rw [j3]; kernel_rfl
theorem e2 (k : Nat) (y : denS s2) : l2 (k + 1) y.2.1 y.2.2.2.1 y.2.2.2.2.1 y.2.2.2.2.2.1 y.2.2.2.2.2.2.1 y.2.2.2.2.2.2.2.1 = SS.ev d E O k [1, 1, 1, 1, 1, 1, 1, 1, 0, 1, 0, 0] s2 y := by rw [l2]; kernel_rfl
theorem e1 (k : Nat) (y : denS s1) : j1 (k + 1) y.2.1 y.2.2.2.1 y.2.2.2.2.1 y.2.2.2.2.2.1 = SS.ev d E O k [1, 1, 1, 1, 1, 1, 1] s1 y := by rw [j1]; kernel_rfl
theorem e0 (k : Nat) (y : denS s0) : j0 (k + 1) y.1 y.2.2.1 y.2.2.2.1 = SS.ev d E O k [1, 1, 1, 1] s0 y := by rw [j0]; kernel_rfl
theorem ok (k : Nat) : EnvOk Tryz.prog (4, sig k) := fnP SS d E O sig (fun _ => rfl) Tryz.func4 (by kernel_rfl) rfl (fun k => ⟨regletlaw10_awake.ok k, regletlaw10_table.ok k, regletlaw10_few.ok k, lines_Paragraph.ok k, regletref10_Items.ok k, regletref08_Whole.ok k, regletref07_Forced.ok k, trivial⟩) ⟨fun _ => rfl, fun _ => rfl, fun _ => rfl, fun _ => rfl, fun _ => rfl, fun _ => rfl, trivial⟩ (by kernel_rfl) (fun k => pc 5 rfl (e5 k) <| pc 4 rfl (e4 k) <| pc 3 rfl (e3 k) <| pc 2 rfl (e2 k) <| pc 1 rfl (e1 k) <| pc 0 rfl (e0 k) <| pn) (fun k x => by kernel_rfl) k
end regletlaw10_LinesWide
end Go.Proofs.YtjbobaeggdafpaaGreat.Vm
