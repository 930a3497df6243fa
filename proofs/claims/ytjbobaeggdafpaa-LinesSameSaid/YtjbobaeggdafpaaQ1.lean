-- PRINTED by vq.py. Not trusted: Lean checks it.
import Derived.Test.YtjbobaeggdafpaaQ0
namespace Go.Proofs.Ytjbobaeggdafpaa.Vm
open Go
open _root_.Go.RowKit (wrap64)
set_option maxRecDepth 100000
set_option linter.unusedVariables false
/-! reglet/regletref04.fits -/
namespace regletref04_fits
def f (k : Nat) (a0 : Int) (a1 : Int) : Option Bool := if (decide (a1 ≤ a0)) = true then (some (decide (a0 ≤ 1048576))) else (some false)
def sig (k : Nat) : Sig := .p [(false, (.i .i64)), (false, (.i .i64))] [.c false .b] fun x => f k x.1 x.2.1
def E (k : Nat) : List (Nat × Sig) := []
noncomputable def d : FD := ⟨56, Try.f56, 12, 12, [], [], [], [], [.tmp 4], .n⟩
def O (k : Nat) : List (Orc (denR ([.c false .b]))) := []
theorem ok (k : Nat) : EnvOk Try.prog (56, sig k) := fnP SS d E O sig (fun _ => rfl) Try.func56 (by kernel_rfl) rfl (fun k => trivial) trivial (by kernel_rfl) (fun _ => pn) (fun k x => by kernel_rfl) k
end regletref04_fits
/-! reglet/regletref04.Style -/
namespace regletref04_Style
mutual
def l0 : Nat → (List Int) → Int → A0 → Option Int
 | 0, _, _, _ => none
 | k + 1, t, t2, t3 => if (decide (t2 < (t.length : Int))) = true then (if 0 ≤ t2 ∧ t2 < (t.length : Int) then ((t[t2.toNat]?).bind fun e => (regletref04_fits.f k e 0).bind fun r => if (!r) = true then (some 41) else (l0 k t (wrap64 (t2 + 1)) t3)) else none) else ((regletref04_fits.f k t3.1 1).bind fun r2 => if (!r2) = true then (some 41) else (if (decide (t3.2.1 < t3.2.2.2.1)) = true then (some 41) else (j1 k t3)))
def j1 : Nat → A0 → Option Int
 | 0, _ => none
 | k + 1, t4 => if (decide (64 < (t4.2.2.2.2.2.2.1.length : Int))) = true then (some 42) else (l2 k 0 t4)
def l2 : Nat → Int → A0 → Option Int
 | 0, _, _ => none
 | k + 1, t5, t6 => if (decide (t5 < (t6.2.2.2.2.2.2.1.length : Int))) = true then ((at? t6.2.2.2.2.2.2.1 t5).bind fun e2 => if (decide (t5 = 0)) = true then (if (decide (e2.1 < 0)) = true then (some 42) else (if (decide (0 < t5)) = true then ((at? t6.2.2.2.2.2.2.1 (wrap64 (t5 - 1))).bind fun e3 => if (decide (e2.1 ≤ e3.2.1)) = true then (some 42) else (if (decide (e2.2.1 < e2.1)) = true then (some 42) else (if (decide (1114111 < e2.2.1)) = true then (some 42) else (j3 k t5 t6 e2)))) else (if (decide (e2.2.1 < e2.1)) = true then (some 42) else (if (decide (1114111 < e2.2.1)) = true then (some 42) else (j3 k t5 t6 e2))))) else (if (decide (0 < t5)) = true then ((at? t6.2.2.2.2.2.2.1 (wrap64 (t5 - 1))).bind fun e4 => if (decide (e2.1 ≤ e4.2.1)) = true then (some 42) else (if (decide (e2.2.1 < e2.1)) = true then (some 42) else (if (decide (1114111 < e2.2.1)) = true then (some 42) else (j3 k t5 t6 e2)))) else (if (decide (e2.2.1 < e2.1)) = true then (some 42) else (if (decide (1114111 < e2.2.1)) = true then (some 42) else (j3 k t5 t6 e2))))) else (some 0)
def j3 : Nat → Int → A0 → api_Range → Option Int
 | 0, _, _, _ => none
 | k + 1, t7, t8, t9 => (regletref04_fits.f k t9.2.2 0).bind fun r3 => if (!r3) = true then (some 41) else (l2 k (wrap64 (t7 + 1)) t8)
end
def f (k : Nat) (a0 : A0) : Option Int := l0 k ([a0.2.1, a0.2.2.1, a0.2.2.2.1, a0.2.2.2.2.1, a0.2.2.2.2.2.1] : List Int) 0 a0
def sig (k : Nat) : Sig := .p [(true, y9)] [.c false (.i .i64)] fun x => f k x.1
def E (k : Nat) : List (Nat × Sig) := [(56, regletref04_fits.sig k)]
noncomputable def d : FD := ⟨34, Try.f34, 96, 107, [(1, 96, 8), (6, 104, 3)], [], [], [], [.tmp 2], .s .n (.s .n (.s (.s .n (.s (.l 0 .n) .n)) (.j 1 .n (.s .n (.s (.s .n (.s (.l 2 (.s .n (.s (.s (.s .n (.j 3 .n .n)) .n) .n))) .n)) .n)))))⟩
abbrev s0 : Sh := [(1, .at_ 96), (3, .v y10), (4, .v (.i .i64)), (96, .box y9)]
abbrev s1 : Sh := [(1, .at_ 96), (96, .box y9)]
abbrev s2 : Sh := [(1, .at_ 96), (5, .v (.i .i64)), (96, .box y9)]
abbrev s3 : Sh := [(1, .at_ 96), (5, .v (.i .i64)), (6, .at_ 104), (96, .box y9), (104, .box y1)]
def O (k : Nat) : List (Orc (denR ([.c false (.i .i64)]))) := [⟨s0, fun y => l0 k y.2.1 y.2.2.1 y.2.2.2.1⟩, ⟨s1, fun y => j1 k y.2.1⟩, ⟨s2, fun y => l2 k y.2.1 y.2.2.1⟩, ⟨s3, fun y => j3 k y.2.1 y.2.2.2.1 y.2.2.2.2.1⟩]
theorem e0 (k : Nat) (y : denS s0) : l0 (k + 1) y.2.1 y.2.2.1 y.2.2.2.1 = SS.ev d E O k [1, 1, 0, 1, 0, 0] s0 y := by rw [l0]; kernel_rfl
theorem e3 (k : Nat) (y : denS s3) : j3 (k + 1) y.2.1 y.2.2.2.1 y.2.2.2.2.1 = SS.ev d E O k [1, 1, 1, 1, 1, 0, 1, 0, 0, 1, 0, 0, 1, 1] s3 y := by rw [j3]; kernel_rfl
theorem e2 (k : Nat) (y : denS s2) : l2 (k + 1) y.2.1 y.2.2.1 = SS.ev d E O k [1, 1, 1, 1, 1, 0, 1, 0, 0] s2 y := by rw [l2]; kernel_rfl
theorem e1 (k : Nat) (y : denS s1) : j1 (k + 1) y.2.1 = SS.ev d E O k [1, 1, 1, 1] s1 y := by rw [j1]; kernel_rfl
theorem ok (k : Nat) : EnvOk Try.prog (34, sig k) := fnP SS d E O sig (fun _ => rfl) Try.func34 (by kernel_rfl) rfl (fun k => ⟨regletref04_fits.ok k, trivial⟩) ⟨fun _ => rfl, fun _ => rfl, fun _ => rfl, fun _ => rfl, trivial⟩ (by kernel_rfl) (fun k => pc 0 rfl (e0 k) <| pc 3 rfl (e3 k) <| pc 2 rfl (e2 k) <| pc 1 rfl (e1 k) <| pn) (fun k x => by kernel_rfl) k
end regletref04_Style
/-! reglet/regletref04.Check -/
namespace regletref04_Check
mutual
def j0 : Nat → A1 → Option (Int × Int)
 | 0, _ => none
 | k + 1, l => l1 k l 0
def l1 : Nat → A1 → Int → Option (Int × Int)
 | 0, _, _ => none
 | k + 1, l2, i => if (decide (i < (l2.length : Int))) = true then ((at? l2 i).bind fun e => (regletref04_Style.f k e).bind fun r => if (!decide (r = 0)) = true then (some (r, i)) else (l1 k l2 (wrap64 (i + 1)))) else (some (0, 0))
end
def f (k : Nat) (a0 : A1) : Option (Int × Int) := if (decide ((a0.length : Int) = 0)) = true then (some (40, 0)) else (if (decide (32 < (a0.length : Int))) = true then (some (40, 0)) else (j0 k a0))
def sig (k : Nat) : Sig := .p [(false, y11)] [.c false (.i .i64), .c false (.i .i64)] fun x => f k x.1
def E (k : Nat) : List (Nat × Sig) := [(34, regletref04_Style.sig k)]
noncomputable def d : FD := ⟨21, Try.f21, 29, 29, [], [], [], [], [.tmp 2, .tmp 3], .s .n (.j 0 .n (.s (.s .n (.s (.l 1 .n) .n)) .n))⟩
abbrev s0 : Sh := [(0, .v y11)]
abbrev s1 : Sh := [(0, .v y11), (4, .v (.i .i64))]
def O (k : Nat) : List (Orc (denR ([.c false (.i .i64), .c false (.i .i64)]))) := [⟨s0, fun y => j0 k y.1⟩, ⟨s1, fun y => l1 k y.1 y.2.1⟩]
theorem e1 (k : Nat) (y : denS s1) : l1 (k + 1) y.1 y.2.1 = SS.ev d E O k [1, 1, 0, 1, 0, 0] s1 y := by rw [l1]; kernel_rfl
theorem e0 (k : Nat) (y : denS s0) : j0 (k + 1) y.1 = SS.ev d E O k [1, 1] s0 y := by rw [j0]; kernel_rfl
theorem ok (k : Nat) : EnvOk Try.prog (21, sig k) := fnP SS d E O sig (fun _ => rfl) Try.func21 (by kernel_rfl) rfl (fun k => ⟨regletref04_Style.ok k, trivial⟩) ⟨fun _ => rfl, fun _ => rfl, trivial⟩ (by kernel_rfl) (fun k => pc 1 rfl (e1 k) <| pc 0 rfl (e0 k) <| pn) (fun k x => by kernel_rfl) k
end regletref04_Check
/-! reglet/metrics.unit -/
namespace metrics_unit
def f (k : Nat) (a0 : Int) (a1 : Int) : Option Bool := if (decide (a1 ≤ a0)) = true then (some (decide (a0 ≤ 1048576))) else (some false)
def sig (k : Nat) : Sig := .p [(false, (.i .i64)), (false, (.i .i64))] [.c false .b] fun x => f k x.1 x.2.1
def E (k : Nat) : List (Nat × Sig) := []
noncomputable def d : FD := ⟨57, Try.f57, 12, 12, [], [], [], [], [.tmp 4], .n⟩
def O (k : Nat) : List (Orc (denR ([.c false .b]))) := []
theorem ok (k : Nat) : EnvOk Try.prog (57, sig k) := fnP SS d E O sig (fun _ => rfl) Try.func57 (by kernel_rfl) rfl (fun k => trivial) trivial (by kernel_rfl) (fun _ => pn) (fun k x => by kernel_rfl) k
end metrics_unit
/-! reglet/metrics.check -/
namespace metrics_check
mutual
def j0 : Nat → A0 → Option Int
 | 0, _ => none
 | k + 1, t => if (decide (64 < (t.2.2.2.2.2.2.1.length : Int))) = true then (some 42) else (l1 k (-1) t.2.2.2.2.2.2.1 (t.2.2.2.2.2.2.1.length : Int) 0)
def l1 : Nat → Int → (List api_Range) → Int → Int → Option Int
 | 0, _, _, _, _ => none
 | k + 1, t2, t3, t4, t5 => if (decide (t5 < t4)) = true then ((at? t3 t5).bind fun e => if (decide (e.1 ≤ t2)) = true then (some 42) else (if (decide (e.2.1 < e.1)) = true then (some 42) else (if (decide (1114111 < e.2.1)) = true then (some 42) else (j2 k t3 t4 t5 e)))) else (some 0)
def j2 : Nat → (List api_Range) → Int → Int → api_Range → Option Int
 | 0, _, _, _, _ => none
 | k + 1, t6, t7, t8, t9 => (metrics_unit.f k t9.2.2 0).bind fun r7 => if (!r7) = true then (some 41) else (l1 k t9.2.1 t6 t7 (wrap64 (t8 + 1)))
end
def f (k : Nat) (a0 : A0) : Option Int := (metrics_unit.f k a0.1 1).bind fun r => if (!r) = true then (some 41) else ((metrics_unit.f k a0.2.1 0).bind fun r2 => if (!r2) = true then (some 41) else ((metrics_unit.f k a0.2.2.1 0).bind fun r3 => if (!r3) = true then (some 41) else ((metrics_unit.f k a0.2.2.2.1 0).bind fun r4 => if (!r4) = true then (some 41) else ((metrics_unit.f k a0.2.2.2.2.1 0).bind fun r5 => if (!r5) = true then (some 41) else ((metrics_unit.f k a0.2.2.2.2.2.1 0).bind fun r6 => if (!r6) = true then (some 41) else (if (decide (a0.2.1 < a0.2.2.2.1)) = true then (some 41) else (j0 k a0)))))))
def sig (k : Nat) : Sig := .p [(true, y9)] [.c false (.i .i64)] fun x => f k x.1
def E (k : Nat) : List (Nat × Sig) := [(57, metrics_unit.sig k)]
noncomputable def d : FD := ⟨35, Try.f35, 81, 92, [(1, 81, 8), (5, 89, 3)], [], [], [], [.tmp 2], .s .n (.j 0 .n (.s .n (.s .n (.s (.s .n (.s (.l 1 (.s .n (.s .n (.s (.s (.s .n (.j 2 .n .n)) .n) .n)))) .n)) .n))))⟩
abbrev s0 : Sh := [(1, .at_ 81), (81, .box y9)]
abbrev s1 : Sh := [(3, .v (.i .i64)), (52, .v y2), (53, .v (.i .i64)), (54, .v (.i .i64))]
abbrev s2 : Sh := [(5, .at_ 89), (52, .v y2), (53, .v (.i .i64)), (54, .v (.i .i64)), (89, .box y1)]
def O (k : Nat) : List (Orc (denR ([.c false (.i .i64)]))) := [⟨s0, fun y => j0 k y.2.1⟩, ⟨s1, fun y => l1 k y.1 y.2.1 y.2.2.1 y.2.2.2.1⟩, ⟨s2, fun y => j2 k y.2.1 y.2.2.1 y.2.2.2.1 y.2.2.2.2.1⟩]
theorem e2 (k : Nat) (y : denS s2) : j2 (k + 1) y.2.1 y.2.2.1 y.2.2.2.1 y.2.2.2.2.1 = SS.ev d E O k [1, 1, 1, 1, 0, 1, 0, 0, 1, 1, 0, 0, 1, 1] s2 y := by rw [j2]; kernel_rfl
theorem e1 (k : Nat) (y : denS s1) : l1 (k + 1) y.1 y.2.1 y.2.2.1 y.2.2.2.1 = SS.ev d E O k [1, 1, 1, 1, 0, 1, 0, 0] s1 y := by rw [l1]; kernel_rfl
theorem e0 (k : Nat) (y : denS s0) : j0 (k + 1) y.2.1 = SS.ev d E O k [1, 1] s0 y := by rw [j0]; kernel_rfl
theorem ok (k : Nat) : EnvOk Try.prog (35, sig k) := fnP SS d E O sig (fun _ => rfl) Try.func35 (by kernel_rfl) rfl (fun k => ⟨metrics_unit.ok k, trivial⟩) ⟨fun _ => rfl, fun _ => rfl, fun _ => rfl, trivial⟩ (by kernel_rfl) (fun k => pc 2 rfl (e2 k) <| pc 1 rfl (e1 k) <| pc 0 rfl (e0 k) <| pn) (fun k x => by kernel_rfl) k
end metrics_check
/-! reglet/metrics.New -/
namespace metrics_New
mutual
def j0 : Nat → A1 → Option A2
 | 0, _ => none
 | k + 1, styles => l1 k styles (styles.length : Int) 0 ([] : List (Int × Int × Int × Int × Int × Int × List api_Range × Bool))
def l1 : Nat → A1 → Int → Int → A1 → Option A2
 | 0, _, _, _, _ => none
 | k + 1, t, t2, t3, t4 => if (decide (t3 < t2)) = true then ((at? t t3).bind fun e => (metrics_check.f k e).bind fun r => if (!decide (r = 0)) = true then (some (none, r, t3)) else (if (([] : List api_Range).length + e.2.2.2.2.2.2.1.length) * 24 ≤ 140737488355328 then (if (t4.length + ([(e.1, e.2.1, e.2.2.1, e.2.2.2.1, e.2.2.2.2.1, e.2.2.2.2.2.1, ([] : List api_Range) ++ e.2.2.2.2.2.2.1, e.2.2.2.2.2.2.2)] : List (Int × Int × Int × Int × Int × Int × List api_Range × Bool)).length) * 80 ≤ 140737488355328 then (l1 k t t2 (wrap64 (t3 + 1)) (t4 ++ ([(e.1, e.2.1, e.2.2.1, e.2.2.2.1, e.2.2.2.2.1, e.2.2.2.2.2.1, ([] : List api_Range) ++ e.2.2.2.2.2.2.1, e.2.2.2.2.2.2.2)] : List (Int × Int × Int × Int × Int × Int × List api_Range × Bool)))) else none) else none)) else (some (some t4, 0, 0))
end
def f (k : Nat) (a0 : A1) : Option A2 := if (decide ((a0.length : Int) = 0)) = true then (some (none, 40, 0)) else (if (decide (32 < (a0.length : Int))) = true then (some (none, 40, 0)) else (j0 k a0))
def sig (k : Nat) : Sig := .p [(false, y11)] [.o y20, .c false (.i .i64), .c false (.i .i64)] fun x => f k x.1
def E (k : Nat) : List (Nat × Sig) := [(35, metrics_check.sig k)]
noncomputable def d : FD := ⟨22, Try.f22, 49, 58, [(18, 49, 1), (7, 50, 8)], [], [], [], [.tmp 2, .tmp 3, .tmp 4], .s .n (.j 0 .n (.s .n (.s (.s .n (.s (.l 1 .n) .n)) .n)))⟩
abbrev s0 : Sh := [(0, .v y11)]
abbrev s1 : Sh := [(5, .at_ 49), (19, .v y11), (20, .v (.i .i64)), (21, .v (.i .i64)), (49, .box y20)]
def O (k : Nat) : List (Orc (denR ([.o y20, .c false (.i .i64), .c false (.i .i64)]))) := [⟨s0, fun y => j0 k y.1⟩, ⟨s1, fun y => l1 k y.2.1 y.2.2.1 y.2.2.2.1 y.2.2.2.2.1⟩]
theorem e1 (k : Nat) (y : denS s1) : l1 (k + 1) y.2.1 y.2.2.1 y.2.2.2.1 y.2.2.2.2.1 = SS.ev d E O k [1, 1, 1, 0, 1, 0, 0] s1 y := by rw [l1]; kernel_rfl
theorem e0 (k : Nat) (y : denS s0) : j0 (k + 1) y.1 = SS.ev d E O k [1, 1] s0 y := by rw [j0]; kernel_rfl
theorem ok (k : Nat) : EnvOk Try.prog (22, sig k) := fnP SS d E O sig (fun _ => rfl) Try.func22 (by kernel_rfl) rfl (fun k => ⟨metrics_check.ok k, trivial⟩) ⟨fun _ => rfl, fun _ => rfl, trivial⟩ (by kernel_rfl) (fun k => pc 1 rfl (e1 k) <| pc 0 rfl (e0 k) <| pn) (fun k x => by kernel_rfl) k
end metrics_New
/-! reglet/regletlaw10.table -/
namespace regletlaw10_table
def f (k : Nat) (a0 : A1) : Option A3 := (regletref04_Check.f k a0).bind fun r => if (!decide (r.1 = 0)) = true then (some none) else ((metrics_New.f k a0).bind fun r2 => optK r2.1 (some none) fun p => some (some p))
def sig (k : Nat) : Sig := .p [(false, y11)] [.o y20] fun x => f k x.1
def E (k : Nat) : List (Nat × Sig) := [(21, regletref04_Check.sig k), (22, metrics_New.sig k)]
noncomputable def d : FD := ⟨8, Try.f8, 22, 22, [], [], [], [], [.tmp 2], .n⟩
def O (k : Nat) : List (Orc (denR ([.o y20]))) := []
theorem ok (k : Nat) : EnvOk Try.prog (8, sig k) := fnP SS d E O sig (fun _ => rfl) Try.func8 (by kernel_rfl) rfl (fun k => ⟨regletref04_Check.ok k, metrics_New.ok k, trivial⟩) trivial (by kernel_rfl) (fun _ => pn) (fun k x => by kernel_rfl) k
end regletlaw10_table
/-! reglet/runes.Kind -/
namespace runes_Kind
mutual
def j0 : Nat → Int → Bool → Option Int
 | 0, _, _ => none
 | k + 1, t, t2 => if t2 = true then (some 1) else (if (decide (t = 160)) = true then (j1 k t true) else (j1 k t (decide (t = 8239))))
def j1 : Nat → Int → Bool → Option Int
 | 0, _, _ => none
 | k + 1, t3, t4 => if t4 = true then (some 2) else (if (decide (t3 = 173)) = true then (some 3) else (if (decide (t3 = 8203)) = true then (some 4) else (if (decide (t3 = 8288)) = true then (j2 k t3 true) else (j2 k t3 (decide (t3 = 65279))))))
def j2 : Nat → Int → Bool → Option Int
 | 0, _, _ => none
 | k + 1, t5, t6 => if t6 = true then (some 5) else (if (decide (t5 = 45)) = true then (j3 k t5 true) else (j3 k t5 (decide (t5 = 8208))))
def j3 : Nat → Int → Bool → Option Int
 | 0, _, _ => none
 | k + 1, t7, t8 => if t8 = true then (some 6) else (if (decide (t7 = 8232)) = true then (some 7) else (if (decide (t7 = 10)) = true then (some 8) else (some 0)))
end
def f (k : Nat) (a0 : Int) : Option Int := if (decide (a0 = 32)) = true then (j0 k a0 true) else (j0 k a0 (decide (a0 = 9)))
def sig (k : Nat) : Sig := .p [(false, (.i .i32))] [.c false (.i .i64)] fun x => f k x.1
def E (k : Nat) : List (Nat × Sig) := []
noncomputable def d : FD := ⟨29, Try.f29, 24, 24, [], [], [], [], [.tmp 2], .s .n (.s (.s .n (.s (.j 0 .n (.s .n (.j 1 .n (.s .n (.s .n (.s .n (.s .n (.s .n (.j 2 .n (.s .n (.j 3 .n .n))))))))))) .n)) .n)⟩
abbrev s0 : Sh := [(3, .v (.i .i32)), (4, .v .b)]
abbrev s1 : Sh := [(3, .v (.i .i32)), (7, .v .b)]
abbrev s2 : Sh := [(3, .v (.i .i32)), (14, .v .b)]
abbrev s3 : Sh := [(3, .v (.i .i32)), (17, .v .b)]
def O (k : Nat) : List (Orc (denR ([.c false (.i .i64)]))) := [⟨s0, fun y => j0 k y.1 y.2.1⟩, ⟨s1, fun y => j1 k y.1 y.2.1⟩, ⟨s2, fun y => j2 k y.1 y.2.1⟩, ⟨s3, fun y => j3 k y.1 y.2.1⟩]
theorem e3 (k : Nat) (y : denS s3) : j3 (k + 1) y.1 y.2.1 = SS.ev d E O k [1, 0, 1, 0, 1, 1, 1, 1, 1, 1, 1, 1, 1, 1, 1] s3 y := by rw [j3]; kernel_rfl
theorem e2 (k : Nat) (y : denS s2) : j2 (k + 1) y.1 y.2.1 = SS.ev d E O k [1, 0, 1, 0, 1, 1, 1, 1, 1, 1, 1, 1, 1] s2 y := by rw [j2]; kernel_rfl
theorem e1 (k : Nat) (y : denS s1) : j1 (k + 1) y.1 y.2.1 = SS.ev d E O k [1, 0, 1, 0, 1, 1, 1] s1 y := by rw [j1]; kernel_rfl
theorem e0 (k : Nat) (y : denS s0) : j0 (k + 1) y.1 y.2.1 = SS.ev d E O k [1, 0, 1, 0, 1] s0 y := by rw [j0]; kernel_rfl
theorem ok (k : Nat) : EnvOk Try.prog (29, sig k) := fnP SS d E O sig (fun _ => rfl) Try.func29 (by kernel_rfl) rfl (fun k => trivial) ⟨fun _ => rfl, fun _ => rfl, fun _ => rfl, fun _ => rfl, trivial⟩ (by kernel_rfl) (fun k => pc 3 rfl (e3 k) <| pc 2 rfl (e2 k) <| pc 1 rfl (e1 k) <| pc 0 rfl (e0 k) <| pn) (fun k x => by kernel_rfl) k
end runes_Kind
/-! reglet/runes.size -/
namespace runes_size
mutual
def j0 : Nat → ByteArray → Int → Option Int
 | 0, _, _ => none
 | k + 1, t, t2 => (bAt t t2).bind fun e => if (decide (e < 128)) = true then (some 1) else (if (decide (e < 194)) = true then (some 0) else (if (decide (244 < e)) = true then (some 0) else (if (decide (e < 224)) = true then (j1 k t t2 1 128 191 (wrap64 (t2 + 1))) else (if (decide (e < 240)) = true then (j2 k t t2 2 128 191 e (wrap64 (t2 + 1))) else (j3 k t t2 3 128 191 e (wrap64 (t2 + 1)))))))
def j1 : Nat → ByteArray → Int → Int → Int → Int → Int → Option Int
 | 0, _, _, _, _, _, _ => none
 | k + 1, t3, t4, t5, t6, t7, t8 => j4 k t3 t4 t5 t6 t7 t8
def j2 : Nat → ByteArray → Int → Int → Int → Int → Int → Int → Option Int
 | 0, _, _, _, _, _, _, _ => none
 | k + 1, t9, t10, t11, t12, t13, t14, t15 => if (decide (t14 = 224)) = true then (j5 k t9 t10 t11 160 t13 t14 t15) else (j5 k t9 t10 t11 t12 t13 t14 t15)
def j3 : Nat → ByteArray → Int → Int → Int → Int → Int → Int → Option Int
 | 0, _, _, _, _, _, _, _ => none
 | k + 1, t16, t17, t18, t19, t20, t21, t22 => if (decide (t21 = 240)) = true then (j6 k t16 t17 t18 144 t20 t21 t22) else (j6 k t16 t17 t18 t19 t20 t21 t22)
def j4 : Nat → ByteArray → Int → Int → Int → Int → Int → Option Int
 | 0, _, _, _, _, _, _ => none
 | k + 1, t23, t24, t25, t26, t27, t28 => if (decide (t25 = 0)) = true then (some (wrap64 (t28 - t24))) else (if (decide ((t23.size : Int) ≤ t28)) = true then (some 0) else ((bAt t23 t28).bind fun e2 => if (decide (e2 < t26)) = true then (some 0) else ((bAt t23 t28).bind fun e3 => if (decide (t27 < e3)) = true then (some 0) else (j7 k t23 t24 t25 t28))))
def j5 : Nat → ByteArray → Int → Int → Int → Int → Int → Int → Option Int
 | 0, _, _, _, _, _, _, _ => none
 | k + 1, t29, t30, t31, t32, t33, t34, t35 => if (decide (t34 = 237)) = true then (j1 k t29 t30 t31 t32 159 t35) else (j1 k t29 t30 t31 t32 t33 t35)
def j6 : Nat → ByteArray → Int → Int → Int → Int → Int → Int → Option Int
 | 0, _, _, _, _, _, _, _ => none
 | k + 1, t36, t37, t38, t39, t40, t41, t42 => if (decide (t41 = 244)) = true then (j1 k t36 t37 t38 t39 143 t42) else (j1 k t36 t37 t38 t39 t40 t42)
def j7 : Nat → ByteArray → Int → Int → Int → Option Int
 | 0, _, _, _, _ => none
 | k + 1, t43, t44, t45, t46 => j4 k t43 t44 (wrap64 (t45 - 1)) 128 191 (wrap64 (t46 + 1))
end
def f (k : Nat) (a0 : ByteArray) (a1 : Int) : Option Int := if (decide (a1 < 0)) = true then (some 0) else (if (decide ((a0.size : Int) ≤ a1)) = true then (some 0) else (j0 k a0 a1))
def sig (k : Nat) : Sig := .p [(false, .s), (false, (.i .i64))] [.c false (.i .i64)] fun x => f k x.1 x.2.1
def E (k : Nat) : List (Nat × Sig) := []
noncomputable def d : FD := ⟨62, Try.f62, 74, 74, [], [], [], [], [.tmp 4], .s .n (.g 0 4 (.j 0 .n (.s .n (.s .n (.s .n (.s .n (.j 1 (.s (.s .n (.s .n (.s .n (.s .n (.s .n (.s .n (.s .n (.s (.j 2 .n (.j 5 .n .n)) (.j 3 .n (.j 6 .n .n)))))))))) .n) (.j 4 .n (.s .n (.j 7 .n .n))))))))))⟩
abbrev s0 : Sh := [(0, .v .s), (1, .v (.i .i64))]
abbrev s1 : Sh := [(0, .v .s), (1, .v (.i .i64)), (5, .v (.i .i64)), (6, .v (.i .u8)), (7, .v (.i .u8)), (9, .v (.i .i64))]
abbrev s2 : Sh := [(0, .v .s), (1, .v (.i .i64)), (5, .v (.i .i64)), (6, .v (.i .u8)), (7, .v (.i .u8)), (8, .v (.i .u8)), (9, .v (.i .i64))]
abbrev s3 : Sh := [(0, .v .s), (1, .v (.i .i64)), (5, .v (.i .i64)), (6, .v (.i .u8)), (7, .v (.i .u8)), (8, .v (.i .u8)), (9, .v (.i .i64))]
abbrev s4 : Sh := [(0, .v .s), (1, .v (.i .i64)), (5, .v (.i .i64)), (6, .v (.i .u8)), (7, .v (.i .u8)), (9, .v (.i .i64))]
abbrev s5 : Sh := [(0, .v .s), (1, .v (.i .i64)), (5, .v (.i .i64)), (6, .v (.i .u8)), (7, .v (.i .u8)), (8, .v (.i .u8)), (9, .v (.i .i64))]
abbrev s6 : Sh := [(0, .v .s), (1, .v (.i .i64)), (5, .v (.i .i64)), (6, .v (.i .u8)), (7, .v (.i .u8)), (8, .v (.i .u8)), (9, .v (.i .i64))]
abbrev s7 : Sh := [(0, .v .s), (1, .v (.i .i64)), (5, .v (.i .i64)), (9, .v (.i .i64))]
def O (k : Nat) : List (Orc (denR ([.c false (.i .i64)]))) := [⟨s0, fun y => j0 k y.1 y.2.1⟩, ⟨s1, fun y => j1 k y.1 y.2.1 y.2.2.1 y.2.2.2.1 y.2.2.2.2.1 y.2.2.2.2.2.1⟩, ⟨s2, fun y => j2 k y.1 y.2.1 y.2.2.1 y.2.2.2.1 y.2.2.2.2.1 y.2.2.2.2.2.1 y.2.2.2.2.2.2.1⟩, ⟨s3, fun y => j3 k y.1 y.2.1 y.2.2.1 y.2.2.2.1 y.2.2.2.2.1 y.2.2.2.2.2.1 y.2.2.2.2.2.2.1⟩, ⟨s4, fun y => j4 k y.1 y.2.1 y.2.2.1 y.2.2.2.1 y.2.2.2.2.1 y.2.2.2.2.2.1⟩, ⟨s5, fun y => j5 k y.1 y.2.1 y.2.2.1 y.2.2.2.1 y.2.2.2.2.1 y.2.2.2.2.2.1 y.2.2.2.2.2.2.1⟩, ⟨s6, fun y => j6 k y.1 y.2.1 y.2.2.1 y.2.2.2.1 y.2.2.2.2.1 y.2.2.2.2.2.1 y.2.2.2.2.2.2.1⟩, ⟨s7, fun y => j7 k y.1 y.2.1 y.2.2.1 y.2.2.2.1⟩]
theorem e5 (k : Nat) (y : denS s5) : j5 (k + 1) y.1 y.2.1 y.2.2.1 y.2.2.2.1 y.2.2.2.2.1 y.2.2.2.2.2.1 y.2.2.2.2.2.2.1 = SS.ev d E O k [1, 0, 1, 1, 1, 1, 1, 0, 0, 1, 1, 1, 1, 1, 1, 1, 0, 1, 1] s5 y := by rw [j5]; kernel_rfl
theorem e2 (k : Nat) (y : denS s2) : j2 (k + 1) y.1 y.2.1 y.2.2.1 y.2.2.2.1 y.2.2.2.2.1 y.2.2.2.2.2.1 y.2.2.2.2.2.2.1 = SS.ev d E O k [1, 0, 1, 1, 1, 1, 1, 0, 0, 1, 1, 1, 1, 1, 1, 1, 0, 1] s2 y := by rw [j2]; kernel_rfl
theorem e6 (k : Nat) (y : denS s6) : j6 (k + 1) y.1 y.2.1 y.2.2.1 y.2.2.2.1 y.2.2.2.2.1 y.2.2.2.2.2.1 y.2.2.2.2.2.2.1 = SS.ev d E O k [1, 0, 1, 1, 1, 1, 1, 0, 0, 1, 1, 1, 1, 1, 1, 1, 1, 1, 1] s6 y := by rw [j6]; kernel_rfl
theorem e3 (k : Nat) (y : denS s3) : j3 (k + 1) y.1 y.2.1 y.2.2.1 y.2.2.2.1 y.2.2.2.2.1 y.2.2.2.2.2.1 y.2.2.2.2.2.2.1 = SS.ev d E O k [1, 0, 1, 1, 1, 1, 1, 0, 0, 1, 1, 1, 1, 1, 1, 1, 1, 1] s3 y := by rw [j3]; kernel_rfl
theorem e7 (k : Nat) (y : denS s7) : j7 (k + 1) y.1 y.2.1 y.2.2.1 y.2.2.2.1 = SS.ev d E O k [1, 0, 1, 1, 1, 1, 1, 1, 1, 1, 1] s7 y := by rw [j7]; kernel_rfl
theorem e4 (k : Nat) (y : denS s4) : j4 (k + 1) y.1 y.2.1 y.2.2.1 y.2.2.2.1 y.2.2.2.2.1 y.2.2.2.2.2.1 = SS.ev d E O k [1, 0, 1, 1, 1, 1, 1, 1, 1] s4 y := by rw [j4]; kernel_rfl
theorem e1 (k : Nat) (y : denS s1) : j1 (k + 1) y.1 y.2.1 y.2.2.1 y.2.2.2.1 y.2.2.2.2.1 y.2.2.2.2.2.1 = SS.ev d E O k [1, 0, 1, 1, 1, 1, 1, 1] s1 y := by rw [j1]; kernel_rfl
theorem e0 (k : Nat) (y : denS s0) : j0 (k + 1) y.1 y.2.1 = SS.ev d E O k [1, 0, 1] s0 y := by rw [j0]; kernel_rfl
theorem ok (k : Nat) : EnvOk Try.prog (62, sig k) := fnP SS d E O sig (fun _ => rfl) Try.func62 (by kernel_rfl) rfl (fun k => trivial) ⟨fun _ => rfl, fun _ => rfl, fun _ => rfl, fun _ => rfl, fun _ => rfl, fun _ => rfl, fun _ => rfl, fun _ => rfl, trivial⟩ (by kernel_rfl) (fun k => pc 5 rfl (e5 k) <| pc 2 rfl (e2 k) <| pc 6 rfl (e6 k) <| pc 3 rfl (e3 k) <| pc 7 rfl (e7 k) <| pc 4 rfl (e4 k) <| pc 1 rfl (e1 k) <| pc 0 rfl (e0 k) <| pn) (fun k x => by kernel_rfl) k
end runes_size
/-! reglet/runes.Bad -/
namespace runes_Bad
mutual
def j0 : Nat → ByteArray → Int → Option Int
 | 0, _, _ => none
 | k + 1, s, at_ => if (decide (at_ = (s.size : Int))) = true then (some (-1)) else ((runes_size.f k s at_).bind fun r => if (decide (r = 0)) = true then (some at_) else (j0 k s (wrap64 (at_ + r))))
end
def f (k : Nat) (a0 : ByteArray) : Option Int := j0 k a0 0
def sig (k : Nat) : Sig := .p [(false, .s)] [.c false (.i .i64)] fun x => f k x.1
def E (k : Nat) : List (Nat × Sig) := [(62, runes_size.sig k)]
noncomputable def d : FD := ⟨82, Try.f82, 18, 18, [], [], [], [], [.tmp 2], .s .n (.g 0 0 (.s .n (.j 0 .n .n)))⟩
abbrev s0 : Sh := [(0, .v .s), (3, .v (.i .i64))]
def O (k : Nat) : List (Orc (denR ([.c false (.i .i64)]))) := [⟨s0, fun y => j0 k y.1 y.2.1⟩]
theorem e0 (k : Nat) (y : denS s0) : j0 (k + 1) y.1 y.2.1 = SS.ev d E O k [1, 0, 1, 1] s0 y := by rw [j0]; kernel_rfl
theorem ok (k : Nat) : EnvOk Try.prog (82, sig k) := fnP SS d E O sig (fun _ => rfl) Try.func82 (by kernel_rfl) rfl (fun k => ⟨runes_size.ok k, trivial⟩) ⟨fun _ => rfl, trivial⟩ (by kernel_rfl) (fun k => pc 0 rfl (e0 k) <| pn) (fun k x => by kernel_rfl) k
end runes_Bad
/-! reglet/runes.Check -/
namespace runes_Check
def f (k : Nat) (a0 : ByteArray) : Option Int := (runes_Bad.f k a0).bind fun r => if (decide (0 ≤ r)) = true then (some 20) else (some 0)
def sig (k : Nat) : Sig := .p [(false, .s)] [.c false (.i .i64)] fun x => f k x.1
def E (k : Nat) : List (Nat × Sig) := [(82, runes_Bad.sig k)]
noncomputable def d : FD := ⟨58, Try.f58, 6, 6, [], [], [], [], [.tmp 2], .n⟩
def O (k : Nat) : List (Orc (denR ([.c false (.i .i64)]))) := []
theorem ok (k : Nat) : EnvOk Try.prog (58, sig k) := fnP SS d E O sig (fun _ => rfl) Try.func58 (by kernel_rfl) rfl (fun k => ⟨runes_Bad.ok k, trivial⟩) trivial (by kernel_rfl) (fun _ => pn) (fun k x => by kernel_rfl) k
end runes_Check
/-! reglet/runes.Lines -/
namespace runes_Lines
mutual
def l0 : Nat → Int → A4 → Option Int
 | 0, _, _ => none
 | k + 1, n, t => if t.2 < t.1.size then ((runes_Kind.f k ((Utf8.decode t.1 t.2).1 : Int)).bind fun r => if (decide (r = 8)) = true then (l0 k (wrap64 (n + 1)) (t.1, (t.2 + (Utf8.decode t.1 t.2).2))) else (l0 k n (t.1, (t.2 + (Utf8.decode t.1 t.2).2)))) else (some n)
end
def f (k : Nat) (a0 : ByteArray) : Option Int := l0 k 0 (a0, 0)
def sig (k : Nat) : Sig := .p [(false, .s)] [.c false (.i .i64)] fun x => f k x.1
def E (k : Nat) : List (Nat × Sig) := [(29, runes_Kind.sig k)]
noncomputable def d : FD := ⟨59, Try.f59, 17, 17, [], [], [], [], [.tmp 2], .s .n (.s .n (.s (.s .n (.s (.l 0 .n) .n)) .n))⟩
abbrev s0 : Sh := [(3, .v (.i .i64)), (7, .it)]
def O (k : Nat) : List (Orc (denR ([.c false (.i .i64)]))) := [⟨s0, fun y => l0 k y.1 y.2.1⟩]
theorem e0 (k : Nat) (y : denS s0) : l0 (k + 1) y.1 y.2.1 = SS.ev d E O k [1, 1, 0, 1, 0, 0] s0 y := by rw [l0]; kernel_rfl
theorem ok (k : Nat) : EnvOk Try.prog (59, sig k) := fnP SS d E O sig (fun _ => rfl) Try.func59 (by kernel_rfl) rfl (fun k => ⟨runes_Kind.ok k, trivial⟩) ⟨fun _ => rfl, trivial⟩ (by kernel_rfl) (fun k => pc 0 rfl (e0 k) <| pn) (fun k x => by kernel_rfl) k
end runes_Lines
/-! (*reglet/metrics.Table).Check -/
namespace metrics_Table_Check
def f (k : Nat) (a0 : A1) (a1 : Int) : Option Int := if (decide (a1 < 0)) = true then (some 43) else (if (decide ((a0.length : Int) ≤ a1)) = true then (some 43) else (some 0))
def sig (k : Nat) : Sig := .p [(false, y21), (false, (.i .i64))] [.c false (.i .i64)] fun x => f k x.1 x.2.1
def E (k : Nat) : List (Nat × Sig) := []
noncomputable def d : FD := ⟨60, Try.f60, 16, 16, [], [], [], [], [.tmp 4], .n⟩
def O (k : Nat) : List (Orc (denR ([.c false (.i .i64)]))) := []
theorem ok (k : Nat) : EnvOk Try.prog (60, sig k) := fnP SS d E O sig (fun _ => rfl) Try.func60 (by kernel_rfl) rfl (fun k => trivial) trivial (by kernel_rfl) (fun _ => pn) (fun k x => by kernel_rfl) k
end metrics_Table_Check
/-! reglet/runes.Inside -/
namespace runes_Inside
def f (k : Nat) (a0 : Int) : Option Bool := some (decide ((andI .u8 a0 (192 : Int)) = 128))
def sig (k : Nat) : Sig := .p [(false, (.i .u8))] [.c false .b] fun x => f k x.1
def E (k : Nat) : List (Nat × Sig) := []
noncomputable def d : FD := ⟨83, Try.f83, 6, 6, [], [], [], [], [.tmp 2], .n⟩
def O (k : Nat) : List (Orc (denR ([.c false .b]))) := []
theorem ok (k : Nat) : EnvOk Try.prog (83, sig k) := fnP SS d E O sig (fun _ => rfl) Try.func83 (by kernel_rfl) rfl (fun k => trivial) trivial (by kernel_rfl) (fun _ => pn) (fun k x => by kernel_rfl) k
end runes_Inside
/-! reglet/runes.Boundary -/
namespace runes_Boundary
mutual
def j0 : Nat → ByteArray → Int → Option Int
 | 0, _, _ => none
 | k + 1, s, at_ => if (decide (at_ < (s.size : Int))) = true then ((bAt s at_).bind fun e => (runes_Inside.f k e).bind fun r => if r = true then (some 21) else (some 0)) else (some 0)
end
def f (k : Nat) (a0 : ByteArray) (a1 : Int) : Option Int := if (decide (a1 < 0)) = true then (some 30) else (if (decide ((a0.size : Int) < a1)) = true then (some 30) else (j0 k a0 a1))
def sig (k : Nat) : Sig := .p [(false, .s), (false, (.i .i64))] [.c false (.i .i64)] fun x => f k x.1 x.2.1
def E (k : Nat) : List (Nat × Sig) := [(83, runes_Inside.sig k)]
noncomputable def d : FD := ⟨61, Try.f61, 23, 23, [], [], [], [], [.tmp 4], .s .n (.j 0 .n .n)⟩
abbrev s0 : Sh := [(0, .v .s), (1, .v (.i .i64))]
def O (k : Nat) : List (Orc (denR ([.c false (.i .i64)]))) := [⟨s0, fun y => j0 k y.1 y.2.1⟩]
theorem e0 (k : Nat) (y : denS s0) : j0 (k + 1) y.1 y.2.1 = SS.ev d E O k [1, 1] s0 y := by rw [j0]; kernel_rfl
theorem ok (k : Nat) : EnvOk Try.prog (61, sig k) := fnP SS d E O sig (fun _ => rfl) Try.func61 (by kernel_rfl) rfl (fun k => ⟨runes_Inside.ok k, trivial⟩) ⟨fun _ => rfl, trivial⟩ (by kernel_rfl) (fun k => pc 0 rfl (e0 k) <| pn) (fun k x => by kernel_rfl) k
end runes_Boundary
/-! reglet/items.Check -/
namespace items_Check
mutual
def j0 : Nat → A1 → ByteArray → (List api_Run) → Option Int
 | 0, _, _, _ => none
 | k + 1, t, t2, t3 => l1 k t t2 0 t3 (t3.length : Int) 0
def l1 : Nat → A1 → ByteArray → Int → (List api_Run) → Int → Int → Option Int
 | 0, _, _, _, _, _, _ => none
 | k + 1, t4, t5, t6, t7, t8, t9 => if (decide (t9 < t8)) = true then ((at? t7 t9).bind fun e2 => if (decide (e2.1 < 0)) = true then (some 70) else (if (decide ((wrap64 ((t5.size : Int) - t6)) < e2.1)) = true then (some 70) else (j2 k t4 t5 t6 t7 t8 t9 e2))) else (if (!decide (t6 = (t5.size : Int))) = true then (some 70) else (some 0))
def j2 : Nat → A1 → ByteArray → Int → (List api_Run) → Int → Int → api_Run → Option Int
 | 0, _, _, _, _, _, _, _ => none
 | k + 1, t10, t11, t12, t13, t14, t15, t16 => (metrics_Table_Check.f k t10 t16.2).bind fun r3 => if (!decide (r3 = 0)) = true then (some r3) else ((runes_Boundary.f k t11 (wrap64 (t12 + t16.1))).bind fun r4 => if (!decide (r4 = 0)) = true then (some r4) else (l1 k t10 t11 (wrap64 (t12 + t16.1)) t13 t14 (wrap64 (t15 + 1))))
end
def f (k : Nat) (a0 : A1) (a1 : ByteArray) (a2 : (List api_Run)) : Option Int := (runes_Check.f k a1).bind fun r => if (!decide (r = 0)) = true then (some r) else ((runes_Lines.f k a1).bind fun r2 => if (decide (a1 = ByteArray.empty)) = true then (some 70) else (if (decide (1 < r2)) = true then (some 70) else (if (decide (r2 = 1)) = true then ((bAt a1 (wrap64 ((a1.size : Int) - 1))).bind fun e => if (!decide (e = 10)) = true then (some 70) else (j0 k a0 a1 a2)) else (j0 k a0 a1 a2))))
def sig (k : Nat) : Sig := .p [(false, y21), (false, .s), (false, y22)] [.c false (.i .i64)] fun x => f k x.1 x.2.1 x.2.2.1
def E (k : Nat) : List (Nat × Sig) := [(58, runes_Check.sig k), (59, runes_Lines.sig k), (60, metrics_Table_Check.sig k), (61, runes_Boundary.sig k)]
noncomputable def d : FD := ⟨36, Try.f36, 79, 81, [(11, 79, 2)], [], [], [], [.tmp 6], .s .n (.s .n (.j 0 .n (.s .n (.s (.s .n (.s (.l 1 (.s .n (.s .n (.s (.s (.s .n (.j 2 .n .n)) .n) .n)))) .n)) .n))))⟩
abbrev s0 : Sh := [(0, .v y21), (1, .v .s), (2, .v y22)]
abbrev s1 : Sh := [(0, .v y21), (1, .v .s), (9, .v (.i .i64)), (39, .v y22), (40, .v (.i .i64)), (41, .v (.i .i64))]
abbrev s2 : Sh := [(0, .v y21), (1, .v .s), (9, .v (.i .i64)), (11, .at_ 79), (39, .v y22), (40, .v (.i .i64)), (41, .v (.i .i64)), (79, .box y0)]
def O (k : Nat) : List (Orc (denR ([.c false (.i .i64)]))) := [⟨s0, fun y => j0 k y.1 y.2.1 y.2.2.1⟩, ⟨s1, fun y => l1 k y.1 y.2.1 y.2.2.1 y.2.2.2.1 y.2.2.2.2.1 y.2.2.2.2.2.1⟩, ⟨s2, fun y => j2 k y.1 y.2.1 y.2.2.1 y.2.2.2.2.1 y.2.2.2.2.2.1 y.2.2.2.2.2.2.1 y.2.2.2.2.2.2.2.1⟩]
theorem e2 (k : Nat) (y : denS s2) : j2 (k + 1) y.1 y.2.1 y.2.2.1 y.2.2.2.2.1 y.2.2.2.2.2.1 y.2.2.2.2.2.2.1 y.2.2.2.2.2.2.2.1 = SS.ev d E O k [1, 1, 1, 1, 0, 1, 0, 0, 1, 1, 0, 0, 1, 1] s2 y := by rw [j2]; kernel_rfl
theorem e1 (k : Nat) (y : denS s1) : l1 (k + 1) y.1 y.2.1 y.2.2.1 y.2.2.2.1 y.2.2.2.2.1 y.2.2.2.2.2.1 = SS.ev d E O k [1, 1, 1, 1, 0, 1, 0, 0] s1 y := by rw [l1]; kernel_rfl
theorem e0 (k : Nat) (y : denS s0) : j0 (k + 1) y.1 y.2.1 y.2.2.1 = SS.ev d E O k [1, 1, 1] s0 y := by rw [j0]; kernel_rfl
theorem ok (k : Nat) : EnvOk Try.prog (36, sig k) := fnP SS d E O sig (fun _ => rfl) Try.func36 (by kernel_rfl) rfl (fun k => ⟨runes_Check.ok k, runes_Lines.ok k, metrics_Table_Check.ok k, runes_Boundary.ok k, trivial⟩) ⟨fun _ => rfl, fun _ => rfl, fun _ => rfl, trivial⟩ (by kernel_rfl) (fun k => pc 2 rfl (e2 k) <| pc 1 rfl (e1 k) <| pc 0 rfl (e0 k) <| pn) (fun k x => by kernel_rfl) k
end items_Check
/-! reglet/runes.First -/
namespace runes_First
mutual
def l0 : Nat → Int → A4 → Option (Int × Int)
 | 0, _, _ => none
 | k + 1, n, t => if t.2 < t.1.size then (some (((Utf8.decode t.1 t.2).1 : Int), n)) else (some (0, 0))
end
def f (k : Nat) (a0 : ByteArray) : Option (Int × Int) := (runes_size.f k a0 0).bind fun r => (sSub a0 0 r).bind fun v => l0 k r (v, 0)
def sig (k : Nat) : Sig := .p [(false, .s)] [.c false (.i .i32), .c false (.i .i64)] fun x => f k x.1
def E (k : Nat) : List (Nat × Sig) := [(62, runes_size.sig k)]
noncomputable def d : FD := ⟨37, Try.f37, 18, 18, [], [], [], [], [.tmp 2, .tmp 3], .s .n (.s .n (.s (.s .n (.s (.l 0 .n) .n)) .n))⟩
abbrev s0 : Sh := [(4, .v (.i .i64)), (12, .it)]
def O (k : Nat) : List (Orc (denR ([.c false (.i .i32), .c false (.i .i64)]))) := [⟨s0, fun y => l0 k y.1 y.2.1⟩]
theorem e0 (k : Nat) (y : denS s0) : l0 (k + 1) y.1 y.2.1 = SS.ev d E O k [1, 1, 0, 1, 0, 0] s0 y := by rw [l0]; kernel_rfl
theorem ok (k : Nat) : EnvOk Try.prog (37, sig k) := fnP SS d E O sig (fun _ => rfl) Try.func37 (by kernel_rfl) rfl (fun k => ⟨runes_size.ok k, trivial⟩) ⟨fun _ => rfl, trivial⟩ (by kernel_rfl) (fun k => pc 0 rfl (e0 k) <| pn) (fun k x => by kernel_rfl) k
end runes_First
/-! (*reglet/items.builder).put -/
namespace items_builder_put
def f (k : Nat) (a0 : A6) (a1 : api_Item) : Option A5 := if (a0.2.1.length + ([a1] : List api_Item).length) * 72 ≤ 140737488355328 then (some (a0.1, a0.2.1 ++ ([a1] : List api_Item), a0.2.2.1, (false))) else none
def sig (k : Nat) : Sig := .l y43 [(true, y29)] [] fun b x => f k b x.1
def E (k : Nat) : List (Nat × Sig) := []
noncomputable def d : FD := ⟨63, Try.f63, 17, 30, [(0, 17, 4), (3, 21, 9)], [0], [], [], [], .n⟩
def O (k : Nat) : List (Orc (denR ([] ++ [.c true y43]))) := []
theorem ok (k : Nat) : EnvOk Try.prog (63, sig k) := fnL SS d E O sig (fun _ => rfl) Try.func63 (by kernel_rfl) rfl (fun k => trivial) trivial (by kernel_rfl) (fun _ => pn) (fun k b x => by kernel_rfl) k
end items_builder_put
/-! (*reglet/items.builder).end -/
namespace items_builder_end
def f (k : Nat) (a0 : A6) (a1 : Int) (a2 : Int) : Option A5 := (items_builder_put.f k a0 (2, 0, 0, 0, (true), 0, (false), a1, a1)).bind fun r => (items_builder_put.f k r (3, 0, 0, 0, (false), (-10000), (false), a1, a2)).bind fun r2 => some r2
def sig (k : Nat) : Sig := .l y43 [(false, (.i .i64)), (false, (.i .i64))] [] fun b x => f k b x.1 x.2.1
def E (k : Nat) : List (Nat × Sig) := [(63, items_builder_put.sig k)]
noncomputable def d : FD := ⟨38, Try.f38, 16, 20, [(0, 16, 4)], [0], [], [], [], .n⟩
def O (k : Nat) : List (Orc (denR ([] ++ [.c true y43]))) := []
theorem ok (k : Nat) : EnvOk Try.prog (38, sig k) := fnL SS d E O sig (fun _ => rfl) Try.func38 (by kernel_rfl) rfl (fun k => ⟨items_builder_put.ok k, trivial⟩) trivial (by kernel_rfl) (fun _ => pn) (fun k b x => by kernel_rfl) k
end items_builder_end
/-! (*reglet/metrics.Table).of -/
namespace metrics_Table_of
def f (k : Nat) (a0 : A1) (a1 : Int) : Option A7 := (metrics_Table_Check.f k a0 a1).bind fun r => if (!decide (r = 0)) = true then (some (0, 0, 0, 0, 0, 0, ([] : List api_Range), (false))) else ((at? a0 a1).bind fun e => some e)
def sig (k : Nat) : Sig := .p [(false, y39), (false, (.i .i64))] [.c true y37] fun x => f k x.1 x.2.1
def E (k : Nat) : List (Nat × Sig) := [(60, metrics_Table_Check.sig k)]
noncomputable def d : FD := ⟨84, Try.f84, 17, 25, [(4, 17, 8)], [], [], [], [.cell 4 59], .n⟩
def O (k : Nat) : List (Orc (denR ([.c true y37]))) := []
theorem ok (k : Nat) : EnvOk Try.prog (84, sig k) := fnP SS d E O sig (fun _ => rfl) Try.func84 (by kernel_rfl) rfl (fun k => ⟨metrics_Table_Check.ok k, trivial⟩) trivial (by kernel_rfl) (fun _ => pn) (fun k x => by kernel_rfl) k
end metrics_Table_of
/-! (*reglet/metrics.Table).Space -/
namespace metrics_Table_Space
def f (k : Nat) (a0 : A1) (a1 : Int) : Option A8 := (metrics_Table_of.f k a0 a1).bind fun r => some (r.2.1, r.2.2.1, r.2.2.2.1)
def sig (k : Nat) : Sig := .p [(false, y39), (false, (.i .i64))] [.c false (.i .i64), .c false (.i .i64), .c false (.i .i64)] fun x => f k x.1 x.2.1
def E (k : Nat) : List (Nat × Sig) := [(84, metrics_Table_of.sig k)]
noncomputable def d : FD := ⟨64, Try.f64, 17, 25, [(7, 17, 8)], [], [], [], [.tmp 4, .tmp 5, .tmp 6], .n⟩
def O (k : Nat) : List (Orc (denR ([.c false (.i .i64), .c false (.i .i64), .c false (.i .i64)]))) := []
theorem ok (k : Nat) : EnvOk Try.prog (64, sig k) := fnP SS d E O sig (fun _ => rfl) Try.func64 (by kernel_rfl) rfl (fun k => ⟨metrics_Table_of.ok k, trivial⟩) trivial (by kernel_rfl) (fun _ => pn) (fun k x => by kernel_rfl) k
end metrics_Table_Space
/-! (*reglet/metrics.Table).Hyphen -/
namespace metrics_Table_Hyphen
def f (k : Nat) (a0 : A1) (a1 : Int) : Option Int := (metrics_Table_of.f k a0 a1).bind fun r => some r.2.2.2.2.1
def sig (k : Nat) : Sig := .p [(false, y39), (false, (.i .i64))] [.c false (.i .i64)] fun x => f k x.1 x.2.1
def E (k : Nat) : List (Nat × Sig) := [(84, metrics_Table_of.sig k)]
noncomputable def d : FD := ⟨65, Try.f65, 9, 9, [], [], [], [], [.tmp 4], .n⟩
def O (k : Nat) : List (Orc (denR ([.c false (.i .i64)]))) := []
theorem ok (k : Nat) : EnvOk Try.prog (65, sig k) := fnP SS d E O sig (fun _ => rfl) Try.func65 (by kernel_rfl) rfl (fun k => ⟨metrics_Table_of.ok k, trivial⟩) trivial (by kernel_rfl) (fun _ => pn) (fun k x => by kernel_rfl) k
end metrics_Table_Hyphen
/-! reglet/scaled.Clamp -/
namespace scaled_Clamp
def f (k : Nat) (a0 : Int) : Option Int := some (if (-1152921504606846976) < (if a0 < 1152921504606846976 then a0 else 1152921504606846976) then (if a0 < 1152921504606846976 then a0 else 1152921504606846976) else (-1152921504606846976))
def sig (k : Nat) : Sig := .p [(false, (.i .i64))] [.c false (.i .i64)] fun x => f k x.1
def E (k : Nat) : List (Nat × Sig) := []
noncomputable def d : FD := ⟨94, Try.f94, 6, 6, [], [], [], [], [.tmp 2], .n⟩
def O (k : Nat) : List (Orc (denR ([.c false (.i .i64)]))) := []
theorem ok (k : Nat) : EnvOk Try.prog (94, sig k) := fnP SS d E O sig (fun _ => rfl) Try.func94 (by kernel_rfl) rfl (fun k => trivial) trivial (by kernel_rfl) (fun _ => pn) (fun k x => by kernel_rfl) k
end scaled_Clamp
/-! reglet/scaled.Add -/
namespace scaled_Add
def f (k : Nat) (a0 : Int) (a1 : Int) : Option Int := (scaled_Clamp.f k a0).bind fun r => (scaled_Clamp.f k a1).bind fun r2 => (scaled_Clamp.f k (wrap64 (r + r2))).bind fun r3 => some r3
def sig (k : Nat) : Sig := .p [(false, (.i .i64)), (false, (.i .i64))] [.c false (.i .i64)] fun x => f k x.1 x.2.1
def E (k : Nat) : List (Nat × Sig) := [(94, scaled_Clamp.sig k)]
noncomputable def d : FD := ⟨85, Try.f85, 11, 11, [], [], [], [], [.tmp 4], .n⟩
def O (k : Nat) : List (Orc (denR ([.c false (.i .i64)]))) := []
theorem ok (k : Nat) : EnvOk Try.prog (85, sig k) := fnP SS d E O sig (fun _ => rfl) Try.func85 (by kernel_rfl) rfl (fun k => ⟨scaled_Clamp.ok k, trivial⟩) trivial (by kernel_rfl) (fun _ => pn) (fun k x => by kernel_rfl) k
end scaled_Add
/-! (*reglet/items.builder).box -/
namespace items_builder_box
mutual
def j0 : Nat → Int → Int → A6 → Option A5
 | 0, _, _, _ => none
 | k + 1, t, t2, t3 => if 0 ≤ t2 ∧ t2 < (t3.2.1.length : Int) then ((t3.2.1[t2.toNat]?).bind fun e3 => some (t3.1, t3.2.1.set t2.toNat (e3.1, e3.2.1, e3.2.2.1, e3.2.2.2.1, e3.2.2.2.2.1, e3.2.2.2.2.2.1, e3.2.2.2.2.2.2.1, e3.2.2.2.2.2.2.2.1, t), t3.2.2.1, t3.2.2.2)) else none
def j1 : Nat → Int → Int → Int → Int → A6 → Option A5
 | 0, _, _, _, _, _ => none
 | k + 1, t4, t5, t6, t7, t8 => (items_builder_put.f k t8 (1, t4, 0, 0, (false), 0, (false), t6, t7)).bind fun r2 => some (r2.1, r2.2.1, t5, (true))
end
def f (k : Nat) (a0 : A6) (a1 : Int) (a2 : Int) (a3 : Int) (a4 : Int) : Option A5 := if a0.2.2.2 = true then (if (decide (a0.2.2.1 = a2)) = true then (if 0 ≤ (wrap64 ((a0.2.1.length : Int) - 1)) ∧ (wrap64 ((a0.2.1.length : Int) - 1)) < (a0.2.1.length : Int) then ((a0.2.1[(wrap64 ((a0.2.1.length : Int) - 1)).toNat]?).bind fun e => (scaled_Add.f k e.2.1 a1).bind fun r => if 0 ≤ (wrap64 ((a0.2.1.length : Int) - 1)) ∧ (wrap64 ((a0.2.1.length : Int) - 1)) < (a0.2.1.length : Int) then ((a0.2.1[(wrap64 ((a0.2.1.length : Int) - 1)).toNat]?).bind fun e2 => j0 k a4 (wrap64 ((a0.2.1.length : Int) - 1)) (a0.1, a0.2.1.set ((wrap64 ((a0.2.1.length : Int) - 1)).toNat) (e2.1, r, e2.2.2.1, e2.2.2.2.1, e2.2.2.2.2.1, e2.2.2.2.2.2.1, e2.2.2.2.2.2.2.1, e2.2.2.2.2.2.2.2.1, e2.2.2.2.2.2.2.2.2), a0.2.2.1, a0.2.2.2)) else none) else none) else (j1 k a1 a2 a3 a4 a0)) else (j1 k a1 a2 a3 a4 a0)
def sig (k : Nat) : Sig := .l y43 [(false, (.i .i64)), (false, (.i .i64)), (false, (.i .i64)), (false, (.i .i64))] [] fun b x => f k b x.1 x.2.1 x.2.2.1 x.2.2.2.1
def E (k : Nat) : List (Nat × Sig) := [(63, items_builder_put.sig k), (85, scaled_Add.sig k)]
noncomputable def d : FD := ⟨66, Try.f66, 67, 71, [(0, 67, 4)], [0], [], [], [], .j 1 (.s .n (.s .n (.s (.j 0 .n .n) .n))) .n⟩
abbrev s0 : Sh := [(0, .at_ 67), (4, .v (.i .i64)), (10, .v (.i .i64)), (67, .box y43)]
abbrev s1 : Sh := [(0, .at_ 67), (1, .v (.i .i64)), (2, .v (.i .i64)), (3, .v (.i .i64)), (4, .v (.i .i64)), (67, .box y43)]
def O (k : Nat) : List (Orc (denR ([] ++ [.c true y43]))) := [⟨s0, fun y => j0 k y.2.1 y.2.2.1 y.2.2.2.1⟩, ⟨s1, fun y => j1 k y.2.1 y.2.2.1 y.2.2.2.1 y.2.2.2.2.1 y.2.2.2.2.2.1⟩]
theorem e0 (k : Nat) (y : denS s0) : j0 (k + 1) y.2.1 y.2.2.1 y.2.2.2.1 = SS.evL d E y43 O k [0, 1, 1, 0, 1] s0 y := by rw [j0]; kernel_rfl
theorem e1 (k : Nat) (y : denS s1) : j1 (k + 1) y.2.1 y.2.2.1 y.2.2.2.1 y.2.2.2.2.1 y.2.2.2.2.2.1 = SS.evL d E y43 O k [1] s1 y := by rw [j1]; kernel_rfl
theorem ok (k : Nat) : EnvOk Try.prog (66, sig k) := fnL SS d E O sig (fun _ => rfl) Try.func66 (by kernel_rfl) rfl (fun k => ⟨items_builder_put.ok k, scaled_Add.ok k, trivial⟩) ⟨fun _ => rfl, fun _ => rfl, trivial⟩ (by kernel_rfl) (fun k => pc 0 rfl (e0 k) <| pc 1 rfl (e1 k) <| pn) (fun k b x => by kernel_rfl) k
end items_builder_box
/-! reglet/metrics.lookup -/
namespace metrics_lookup
mutual
def l0 : Nat → Int → Int → Int → A0 → Option Int
 | 0, _, _, _, _ => none
 | k + 1, r, low, high, s => if (decide (low < high)) = true then ((at? s.2.2.2.2.2.2.1 (wrap64 ((wrap64 (low + high)).tdiv 2))).bind fun e => if (decide (e.2.1 < r)) = true then (l0 k r (wrap64 ((wrap64 ((wrap64 (low + high)).tdiv 2)) + 1)) high s) else (l0 k r low (wrap64 ((wrap64 (low + high)).tdiv 2)) s)) else (if (decide (low < (s.2.2.2.2.2.2.1.length : Int))) = true then ((at? s.2.2.2.2.2.2.1 low).bind fun e2 => if (decide (e2.1 ≤ r)) = true then ((at? s.2.2.2.2.2.2.1 low).bind fun e3 => some e3.2.2) else (j1 k s)) else (j1 k s))
def j1 : Nat → A0 → Option Int
 | 0, _ => none
 | k + 1, s2 => some s2.2.2.2.2.2.1
end
def f (k : Nat) (a0 : A0) (a1 : Int) : Option Int := l0 k a1 0 (a0.2.2.2.2.2.2.1.length : Int) a0
def sig (k : Nat) : Sig := .p [(true, y9), (false, (.i .i64))] [.c false (.i .i64)] fun x => f k x.1 x.2.1
def E (k : Nat) : List (Nat × Sig) := []
noncomputable def d : FD := ⟨86, Try.f86, 52, 60, [(2, 52, 8)], [], [], [], [.tmp 4], .s .n (.s .n (.s (.s (.l 0 .n) .n) (.j 1 .n .n)))⟩
abbrev s0 : Sh := [(1, .v (.i .i64)), (2, .at_ 52), (5, .v (.i .i64)), (6, .v (.i .i64)), (52, .box y9)]
abbrev s1 : Sh := [(2, .at_ 52), (52, .box y9)]
def O (k : Nat) : List (Orc (denR ([.c false (.i .i64)]))) := [⟨s0, fun y => l0 k y.1 y.2.2.1 y.2.2.2.1 y.2.2.2.2.1⟩, ⟨s1, fun y => j1 k y.2.1⟩]
theorem e0 (k : Nat) (y : denS s0) : l0 (k + 1) y.1 y.2.2.1 y.2.2.2.1 y.2.2.2.2.1 = SS.ev d E O k [1, 1, 0, 0, 0] s0 y := by rw [l0]; kernel_rfl
theorem e1 (k : Nat) (y : denS s1) : j1 (k + 1) y.2.1 = SS.ev d E O k [1, 1, 1, 1] s1 y := by rw [j1]; kernel_rfl
theorem ok (k : Nat) : EnvOk Try.prog (86, sig k) := fnP SS d E O sig (fun _ => rfl) Try.func86 (by kernel_rfl) rfl (fun k => trivial) ⟨fun _ => rfl, fun _ => rfl, trivial⟩ (by kernel_rfl) (fun k => pc 0 rfl (e0 k) <| pc 1 rfl (e1 k) <| pn) (fun k x => by kernel_rfl) k
end metrics_lookup
/-! (*reglet/metrics.Table).Width -/
namespace metrics_Table_Width
mutual
def j0 : Nat → Int → Int → Bool → A0 → Option Int
 | 0, _, _, _, _ => none
 | k + 1, r3, t, t2, s => if t2 = true then (some s.2.1) else (if (decide (t = 3)) = true then (j1 k r3 true s) else (if (decide (t = 4)) = true then (j1 k r3 true s) else (if (decide (t = 5)) = true then (j1 k r3 true s) else (if (decide (t = 7)) = true then (j1 k r3 true s) else (j1 k r3 (decide (t = 8)) s)))))
def j1 : Nat → Int → Bool → A0 → Option Int
 | 0, _, _, _ => none
 | k + 1, r4, t3, s2 => if t3 = true then (some 0) else ((metrics_lookup.f k s2 (wrap64 (r4))).bind fun r5 => some r5)
end
def f (k : Nat) (a0 : A1) (a1 : Int) (a2 : Int) : Option Int := (metrics_Table_of.f k a0 a1).bind fun r => (runes_Kind.f k a2).bind fun r2 => if (decide (r2 = 1)) = true then (j0 k a2 r2 true r) else (j0 k a2 r2 (decide (r2 = 2)) r)
def sig (k : Nat) : Sig := .p [(false, y39), (false, (.i .i64)), (false, (.i .i32))] [.c false (.i .i64)] fun x => f k x.1 x.2.1 x.2.2.1
def E (k : Nat) : List (Nat × Sig) := [(29, runes_Kind.sig k), (84, metrics_Table_of.sig k), (86, metrics_lookup.sig k)]
noncomputable def d : FD := ⟨67, Try.f67, 28, 36, [(7, 28, 8)], [], [], [], [.tmp 6], .s .n (.s .n (.s (.s .n (.s (.j 0 .n (.s .n (.j 1 .n .n))) .n)) .n))⟩
abbrev s0 : Sh := [(2, .v (.i .i32)), (7, .at_ 28), (12, .v (.i .i64)), (13, .v .b), (28, .box y37)]
abbrev s1 : Sh := [(2, .v (.i .i32)), (7, .at_ 28), (18, .v .b), (28, .box y37)]
def O (k : Nat) : List (Orc (denR ([.c false (.i .i64)]))) := [⟨s0, fun y => j0 k y.1 y.2.2.1 y.2.2.2.1 y.2.2.2.2.1⟩, ⟨s1, fun y => j1 k y.1 y.2.2.1 y.2.2.2.1⟩]
theorem e1 (k : Nat) (y : denS s1) : j1 (k + 1) y.1 y.2.2.1 y.2.2.2.1 = SS.ev d E O k [1, 1, 0, 1, 0, 1, 1, 1] s1 y := by rw [j1]; kernel_rfl
theorem e0 (k : Nat) (y : denS s0) : j0 (k + 1) y.1 y.2.2.1 y.2.2.2.1 y.2.2.2.2.1 = SS.ev d E O k [1, 1, 0, 1, 0, 1] s0 y := by rw [j0]; kernel_rfl
theorem ok (k : Nat) : EnvOk Try.prog (67, sig k) := fnP SS d E O sig (fun _ => rfl) Try.func67 (by kernel_rfl) rfl (fun k => ⟨runes_Kind.ok k, metrics_Table_of.ok k, metrics_lookup.ok k, trivial⟩) ⟨fun _ => rfl, fun _ => rfl, trivial⟩ (by kernel_rfl) (fun k => pc 1 rfl (e1 k) <| pc 0 rfl (e0 k) <| pn) (fun k x => by kernel_rfl) k
end metrics_Table_Width
/-! (*reglet/items.builder).rune -/
namespace items_builder_rune
def f (k : Nat) (a0 : A6) (a1 : Int) (a2 : Int) (a3 : Int) (a4 : Int) : Option A5 := (runes_Kind.f k a1).bind fun r => if (decide (r = 1)) = true then ((metrics_Table_Space.f k a0.1 a2).bind fun r2 => (items_builder_put.f k a0 (2, r2.1, r2.2.1, r2.2.2, (false), 0, (false), a3, a4)).bind fun r3 => some r3) else (if (decide (r = 3)) = true then ((metrics_Table_Hyphen.f k a0.1 a2).bind fun r4 => (items_builder_put.f k a0 (3, r4, 0, 0, (false), 50, (true), a3, a4)).bind fun r5 => some r5) else (if (decide (r = 4)) = true then ((items_builder_put.f k a0 (3, 0, 0, 0, (false), 0, (false), a3, a4)).bind fun r6 => some r6) else (if (decide (r = 5)) = true then ((items_builder_put.f k a0 (3, 0, 0, 0, (false), 10000, (false), a3, a4)).bind fun r7 => some r7) else (if (decide (r = 7)) = true then ((items_builder_end.f k a0 a3 a4).bind fun r8 => some r8) else (if (decide (r = 6)) = true then ((metrics_Table_Width.f k a0.1 a2 a1).bind fun r9 => (items_builder_box.f k a0 r9 a2 a3 a4).bind fun r10 => (items_builder_put.f k r10 (3, 0, 0, 0, (false), 50, (true), a4, a4)).bind fun r11 => some r11) else ((metrics_Table_Width.f k a0.1 a2 a1).bind fun r12 => (items_builder_box.f k a0 r12 a2 a3 a4).bind fun r13 => some r13))))))
def sig (k : Nat) : Sig := .l y43 [(false, (.i .i32)), (false, (.i .i64)), (false, (.i .i64)), (false, (.i .i64))] [] fun b x => f k b x.1 x.2.1 x.2.2.1 x.2.2.2.1
def E (k : Nat) : List (Nat × Sig) := [(29, runes_Kind.sig k), (38, items_builder_end.sig k), (63, items_builder_put.sig k), (64, metrics_Table_Space.sig k), (65, metrics_Table_Hyphen.sig k), (66, items_builder_box.sig k), (67, metrics_Table_Width.sig k)]
noncomputable def d : FD := ⟨39, Try.f39, 99, 103, [(0, 99, 4)], [0], [], [], [], .n⟩
def O (k : Nat) : List (Orc (denR ([] ++ [.c true y43]))) := []
theorem ok (k : Nat) : EnvOk Try.prog (39, sig k) := fnL SS d E O sig (fun _ => rfl) Try.func39 (by kernel_rfl) rfl (fun k => ⟨runes_Kind.ok k, items_builder_end.ok k, items_builder_put.ok k, metrics_Table_Space.ok k, metrics_Table_Hyphen.ok k, items_builder_box.ok k, metrics_Table_Width.ok k, trivial⟩) trivial (by kernel_rfl) (fun _ => pn) (fun k b x => by kernel_rfl) k
end items_builder_rune
/-! reglet/items.Build -/
namespace items_Build
mutual
def l0 : Nat → ByteArray → (List api_Run) → Int → Int → Int → A4 → A6 → Option A9
 | 0, _, _, _, _, _, _, _ => none
 | k + 1, t, t2, t3, t4, t5, t6, t7 => if t6.2 < t6.1.size then (l1 k t t2 t4 t5 (t6.2 : Int) ((Utf8.decode t6.1 t6.2).1 : Int) (t6.1, (t6.2 + (Utf8.decode t6.1 t6.2).2)) t7) else ((items_builder_end.f k t7 t3 t3).bind fun r2 => some (r2.2.1, 0))
def l1 : Nat → ByteArray → (List api_Run) → Int → Int → Int → Int → A4 → A6 → Option A9
 | 0, _, _, _, _, _, _, _, _ => none
 | k + 1, t8, t9, t10, t11, t12, t13, t14, t15 => if (decide (t11 = 0)) = true then ((at? t9 (wrap64 (t10 + 1))).bind fun e => l1 k t8 t9 (wrap64 (t10 + 1)) e.1 t12 t13 (t14.1, t14.2) t15) else ((sSub t8 t12 (t8.size : Int)).bind fun v => (runes_First.f k v).bind fun r3 => if (decide (0 < r3.2)) = true then (j2 k t8 t9 t10 t11 t12 t13 (wrap64 (t12 + r3.2)) (t14.1, t14.2) t15) else (j2 k t8 t9 t10 t11 t12 t13 (t8.size : Int) (t14.1, t14.2) t15))
def j2 : Nat → ByteArray → (List api_Run) → Int → Int → Int → Int → Int → A4 → A6 → Option A9
 | 0, _, _, _, _, _, _, _, _, _ => none
 | k + 1, t16, t17, t18, t19, t20, t21, t22, t23, t24 => (runes_Kind.f k t21).bind fun r4 => if (decide (r4 = 8)) = true then ((items_builder_end.f k t24 t20 t22).bind fun r5 => some (r5.2.1, 0)) else ((at? t17 t18).bind fun e2 => (items_builder_rune.f k t24 t21 e2.2 t20 t22).bind fun r6 => l0 k t16 t17 t22 t18 (wrap64 (t19 - (wrap64 (t22 - t20)))) (t23.1, t23.2) r6)
end
def f (k : Nat) (a0 : A1) (a1 : ByteArray) (a2 : (List api_Run)) : Option A9 := (items_Check.f k a0 a1 a2).bind fun r => if (!decide (r = 0)) = true then (some (([] : List api_Item), r)) else (l0 k a1 a2 0 (-1) 0 (a1, 0) (a0, ([] : List api_Item), 0, (false)))
def sig (k : Nat) : Sig := .p [(false, y39), (false, .s), (false, y22)] [.c false y40, .c false (.i .i64)] fun x => f k x.1 x.2.1 x.2.2.1
def E (k : Nat) : List (Nat × Sig) := [(29, runes_Kind.sig k), (36, items_Check.sig k), (37, runes_First.sig k), (38, items_builder_end.sig k), (39, items_builder_rune.sig k)]
noncomputable def d : FD := ⟨23, Try.f23, 92, 96, [(27, 92, 4)], [], [6], [], [.tmp 6, .tmp 7], .s .n (.s .n (.s .n (.s .n (.s (.s .n (.s (.l 0 (.s .n (.s .n (.s (.s .n (.s (.s (.l 1 .n) .n) (.s .n (.j 2 .n .n)))) .n)))) .n)) .n))))⟩
abbrev s0 : Sh := [(1, .v .s), (2, .v y22), (9, .at_ 92), (10, .v (.i .i64)), (11, .v (.i .i64)), (12, .v (.i .i64)), (29, .it), (92, .box y43)]
abbrev s1 : Sh := [(1, .v .s), (2, .v y22), (9, .at_ 92), (11, .v (.i .i64)), (12, .v (.i .i64)), (13, .v (.i .i64)), (14, .v (.i .i32)), (29, .it), (92, .box y43)]
abbrev s2 : Sh := [(1, .v .s), (2, .v y22), (9, .at_ 92), (11, .v (.i .i64)), (12, .v (.i .i64)), (13, .v (.i .i64)), (14, .v (.i .i32)), (15, .v (.i .i64)), (29, .it), (92, .box y43)]
def O (k : Nat) : List (Orc (denR ([.c false y40, .c false (.i .i64)]))) := [⟨s0, fun y => l0 k y.1 y.2.1 y.2.2.2.1 y.2.2.2.2.1 y.2.2.2.2.2.1 y.2.2.2.2.2.2.1 y.2.2.2.2.2.2.2.1⟩, ⟨s1, fun y => l1 k y.1 y.2.1 y.2.2.2.1 y.2.2.2.2.1 y.2.2.2.2.2.1 y.2.2.2.2.2.2.1 y.2.2.2.2.2.2.2.1 y.2.2.2.2.2.2.2.2.1⟩, ⟨s2, fun y => j2 k y.1 y.2.1 y.2.2.2.1 y.2.2.2.2.1 y.2.2.2.2.2.1 y.2.2.2.2.2.2.1 y.2.2.2.2.2.2.2.1 y.2.2.2.2.2.2.2.2.1 y.2.2.2.2.2.2.2.2.2.1⟩]
theorem e1 (k : Nat) (y : denS s1) : l1 (k + 1) y.1 y.2.1 y.2.2.2.1 y.2.2.2.2.1 y.2.2.2.2.2.1 y.2.2.2.2.2.2.1 y.2.2.2.2.2.2.2.1 y.2.2.2.2.2.2.2.2.1 = SS.ev d E O k [1, 1, 1, 1, 0, 1, 0, 0, 1, 1, 0, 1, 0, 0, 0] s1 y := by rw [l1]; kernel_rfl
theorem e2 (k : Nat) (y : denS s2) : j2 (k + 1) y.1 y.2.1 y.2.2.2.1 y.2.2.2.2.1 y.2.2.2.2.2.1 y.2.2.2.2.2.2.1 y.2.2.2.2.2.2.2.1 y.2.2.2.2.2.2.2.2.1 y.2.2.2.2.2.2.2.2.2.1 = SS.ev d E O k [1, 1, 1, 1, 0, 1, 0, 0, 1, 1, 0, 1, 1, 1, 1] s2 y := by rw [j2]; kernel_rfl
theorem e0 (k : Nat) (y : denS s0) : l0 (k + 1) y.1 y.2.1 y.2.2.2.1 y.2.2.2.2.1 y.2.2.2.2.2.1 y.2.2.2.2.2.2.1 y.2.2.2.2.2.2.2.1 = SS.ev d E O k [1, 1, 1, 1, 0, 1, 0, 0] s0 y := by rw [l0]; kernel_rfl
theorem ok (k : Nat) : EnvOk Try.prog (23, sig k) := fnP SS d E O sig (fun _ => rfl) Try.func23 (by kernel_rfl) rfl (fun k => ⟨runes_Kind.ok k, items_Check.ok k, runes_First.ok k, items_builder_end.ok k, items_builder_rune.ok k, trivial⟩) ⟨fun _ => rfl, fun _ => rfl, fun _ => rfl, trivial⟩ (by kernel_rfl) (fun k => pc 1 rfl (e1 k) <| pc 2 rfl (e2 k) <| pc 0 rfl (e0 k) <| pn) (fun k x => by kernel_rfl) k
end items_Build
/-! reglet/measure.Check -/
namespace measure_Check
mutual
def l0 : Nat → (List Int) → Int → Int → api_Settings → Option Int
 | 0, _, _, _, _ => none
 | k + 1, t, t2, t3, s => if (decide (t3 < t2)) = true then (if 0 ≤ t3 ∧ t3 < (t.length : Int) then ((t[t3.toNat]?).bind fun e => if (decide (e < 0)) = true then (some 80) else (if (decide (10000 < e)) = true then (some 80) else (l0 k t t2 (wrap64 (t3 + 1)) s))) else none) else (l1 k ([s.2.2.1, s.2.2.2.1, s.2.2.2.2.1] : List Int) (([s.2.2.1, s.2.2.2.1, s.2.2.2.2.1] : List Int).length : Int) 0 s)
def l1 : Nat → (List Int) → Int → Int → api_Settings → Option Int
 | 0, _, _, _, _ => none
 | k + 1, t4, t5, t6, s2 => if (decide (t6 < t5)) = true then (if 0 ≤ t6 ∧ t6 < (t4.length : Int) then ((t4[t6.toNat]?).bind fun e2 => if (decide (e2 < 0)) = true then (some 80) else (if (decide (1048576 < e2)) = true then (some 80) else (l1 k t4 t5 (wrap64 (t6 + 1)) s2))) else none) else (l2 k ([s2.2.2.2.2.2.1, s2.2.2.2.2.2.2] : List Int) (([s2.2.2.2.2.2.1, s2.2.2.2.2.2.2] : List Int).length : Int) 0)
def l2 : Nat → (List Int) → Int → Int → Option Int
 | 0, _, _, _ => none
 | k + 1, t7, t8, t9 => if (decide (t9 < t8)) = true then (if 0 ≤ t9 ∧ t9 < (t7.length : Int) then ((t7[t9.toNat]?).bind fun e3 => if (decide (e3 < 1)) = true then (some 80) else (if (decide (100 < e3)) = true then (some 80) else (l2 k t7 t8 (wrap64 (t9 + 1))))) else none) else (some 0)
end
def f (k : Nat) (a0 : api_Settings) : Option Int := l0 k ([a0.1, a0.2.1] : List Int) (([a0.1, a0.2.1] : List Int).length : Int) 0 a0
def sig (k : Nat) : Sig := .p [(true, y48)] [.c false (.i .i64)] fun x => f k x.1
def E (k : Nat) : List (Nat × Sig) := []
noncomputable def d : FD := ⟨40, Try.f40, 62, 69, [(1, 62, 7)], [], [], [], [.tmp 2], .s .n (.s (.s .n (.s (.l 0 .n) .n)) (.s (.s .n (.s (.l 1 .n) .n)) (.s (.s .n (.s (.l 2 .n) .n)) .n)))⟩
abbrev s0 : Sh := [(1, .at_ 62), (13, .v y10), (14, .v (.i .i64)), (15, .v (.i .i64)), (62, .box y48)]
abbrev s1 : Sh := [(1, .at_ 62), (32, .v y10), (33, .v (.i .i64)), (34, .v (.i .i64)), (62, .box y48)]
abbrev s2 : Sh := [(49, .v y10), (50, .v (.i .i64)), (51, .v (.i .i64))]
def O (k : Nat) : List (Orc (denR ([.c false (.i .i64)]))) := [⟨s0, fun y => l0 k y.2.1 y.2.2.1 y.2.2.2.1 y.2.2.2.2.1⟩, ⟨s1, fun y => l1 k y.2.1 y.2.2.1 y.2.2.2.1 y.2.2.2.2.1⟩, ⟨s2, fun y => l2 k y.1 y.2.1 y.2.2.1⟩]
theorem e0 (k : Nat) (y : denS s0) : l0 (k + 1) y.2.1 y.2.2.1 y.2.2.2.1 y.2.2.2.2.1 = SS.ev d E O k [1, 0, 1, 0, 0] s0 y := by rw [l0]; kernel_rfl
theorem e1 (k : Nat) (y : denS s1) : l1 (k + 1) y.2.1 y.2.2.1 y.2.2.2.1 y.2.2.2.2.1 = SS.ev d E O k [1, 1, 0, 1, 0, 0] s1 y := by rw [l1]; kernel_rfl
theorem e2 (k : Nat) (y : denS s2) : l2 (k + 1) y.1 y.2.1 y.2.2.1 = SS.ev d E O k [1, 1, 1, 0, 1, 0, 0] s2 y := by rw [l2]; kernel_rfl
theorem ok (k : Nat) : EnvOk Try.prog (40, sig k) := fnP SS d E O sig (fun _ => rfl) Try.func40 (by kernel_rfl) rfl (fun k => trivial) ⟨fun _ => rfl, fun _ => rfl, fun _ => rfl, trivial⟩ (by kernel_rfl) (fun k => pc 0 rfl (e0 k) <| pc 1 rfl (e1 k) <| pc 2 rfl (e2 k) <| pn) (fun k x => by kernel_rfl) k
end measure_Check
/-! reglet/breaks.Check -/
namespace breaks_Check
mutual
def j0 : Nat → api_Settings → Option Int
 | 0, _ => none
 | k + 1, set_ => (measure_Check.f k set_).bind fun r => some r
end
def f (k : Nat) (a0 : Int) (a1 : api_Settings) : Option Int := if (decide (a0 < 1)) = true then (some 41) else (if (decide (1073741824 < a0)) = true then (some 41) else (j0 k a1))
def sig (k : Nat) : Sig := .p [(false, (.i .i64)), (true, y48)] [.c false (.i .i64)] fun x => f k x.1 x.2.1
def E (k : Nat) : List (Nat × Sig) := [(40, measure_Check.sig k)]
noncomputable def d : FD := ⟨24, Try.f24, 13, 20, [(3, 13, 7)], [], [], [], [.tmp 4], .s .n (.j 0 .n .n)⟩
abbrev s0 : Sh := [(3, .at_ 13), (13, .box y48)]
def O (k : Nat) : List (Orc (denR ([.c false (.i .i64)]))) := [⟨s0, fun y => j0 k y.2.1⟩]
theorem e0 (k : Nat) (y : denS s0) : j0 (k + 1) y.2.1 = SS.ev d E O k [1, 1] s0 y := by rw [j0]; kernel_rfl
theorem ok (k : Nat) : EnvOk Try.prog (24, sig k) := fnP SS d E O sig (fun _ => rfl) Try.func24 (by kernel_rfl) rfl (fun k => ⟨measure_Check.ok k, trivial⟩) ⟨fun _ => rfl, trivial⟩ (by kernel_rfl) (fun k => pc 0 rfl (e0 k) <| pn) (fun k x => by kernel_rfl) k
end breaks_Check
/-! reglet/items.Forced -/
namespace items_Forced
def f (k : Nat) (a0 : api_Item) : Option Bool := if (decide (a0.1 = 3)) = true then (some (decide (a0.2.2.2.2.2.1 ≤ (-10000)))) else (some false)
def sig (k : Nat) : Sig := .p [(true, y29)] [.c false .b] fun x => f k x.1
def E (k : Nat) : List (Nat × Sig) := []
noncomputable def d : FD := ⟨43, Try.f43, 11, 20, [(1, 11, 9)], [], [], [], [.tmp 2], .n⟩
def O (k : Nat) : List (Orc (denR ([.c false .b]))) := []
theorem ok (k : Nat) : EnvOk Try.prog (43, sig k) := fnP SS d E O sig (fun _ => rfl) Try.func43 (by kernel_rfl) rfl (fun k => trivial) trivial (by kernel_rfl) (fun _ => pn) (fun k x => by kernel_rfl) k
end items_Forced
/-! reglet/items.measure -/
namespace items_measure
def f (k : Nat) (a0 : Int) : Option Bool := if (decide (0 ≤ a0)) = true then (some (decide (a0 ≤ 68719476736))) else (some false)
def sig (k : Nat) : Sig := .p [(false, (.i .i64))] [.c false .b] fun x => f k x.1
def E (k : Nat) : List (Nat × Sig) := []
noncomputable def d : FD := ⟨87, Try.f87, 9, 9, [], [], [], [], [.tmp 2], .n⟩
def O (k : Nat) : List (Orc (denR ([.c false .b]))) := []
theorem ok (k : Nat) : EnvOk Try.prog (87, sig k) := fnP SS d E O sig (fun _ => rfl) Try.func87 (by kernel_rfl) rfl (fun k => trivial) trivial (by kernel_rfl) (fun _ => pn) (fun k x => by kernel_rfl) k
end items_measure
/-! reglet/items.fits -/
namespace items_fits
mutual
def j0 : Nat → api_Item → Option Bool
 | 0, _ => none
 | k + 1, t => if (decide (t.1 = 1)) = true then (if (decide (t.2.2.1 = 0)) = true then (if (decide (t.2.2.2.1 = 0)) = true then (if (decide (t.2.2.2.2.2.1 = 0)) = true then (if (!t.2.2.2.2.1) = true then (some (!t.2.2.2.2.2.2.1)) else (some false)) else (some false)) else (some false)) else (some false)) else (if (decide (t.1 = 2)) = true then (if (decide (t.2.2.2.2.2.1 = 0)) = true then (if (!t.2.2.2.2.2.2.1) = true then (if (!t.2.2.2.2.1) = true then (some true) else (if (decide (t.2.1 = 0)) = true then (some (decide (t.2.2.1 = 0))) else (some false))) else (some false)) else (some false)) else (if (decide (t.1 = 3)) = true then (if (decide (t.2.2.1 = 0)) = true then (if (decide (t.2.2.2.1 = 0)) = true then (if (!t.2.2.2.2.1) = true then (if (decide ((-10000) ≤ t.2.2.2.2.2.1)) = true then (some (decide (t.2.2.2.2.2.1 ≤ 10000))) else (some false)) else (some false)) else (some false)) else (some false)) else (some false)))
end
def f (k : Nat) (a0 : api_Item) : Option Bool := (items_measure.f k a0.2.1).bind fun r => if (!r) = true then (some false) else ((items_measure.f k a0.2.2.1).bind fun r2 => if (!r2) = true then (some false) else ((items_measure.f k a0.2.2.2.1).bind fun r3 => if (!r3) = true then (some false) else (if (decide (a0.2.1 < a0.2.2.2.1)) = true then (some false) else (j0 k a0))))
def sig (k : Nat) : Sig := .p [(true, y29)] [.c false .b] fun x => f k x.1
def E (k : Nat) : List (Nat × Sig) := [(87, items_measure.sig k)]
noncomputable def d : FD := ⟨68, Try.f68, 103, 112, [(1, 103, 9)], [], [], [], [.tmp 2], .s .n (.j 0 .n .n)⟩
abbrev s0 : Sh := [(1, .at_ 103), (103, .box y29)]
def O (k : Nat) : List (Orc (denR ([.c false .b]))) := [⟨s0, fun y => j0 k y.2.1⟩]
theorem e0 (k : Nat) (y : denS s0) : j0 (k + 1) y.2.1 = SS.ev d E O k [1, 1] s0 y := by rw [j0]; kernel_rfl
theorem ok (k : Nat) : EnvOk Try.prog (68, sig k) := fnP SS d E O sig (fun _ => rfl) Try.func68 (by kernel_rfl) rfl (fun k => ⟨items_measure.ok k, trivial⟩) ⟨fun _ => rfl, trivial⟩ (by kernel_rfl) (fun k => pc 0 rfl (e0 k) <| pn) (fun k x => by kernel_rfl) k
end items_fits
/-! reglet/items.Right -/
namespace items_Right
mutual
def j0 : Nat → (List api_Item) → Option Int
 | 0, _ => none
 | k + 1, list => l1 k 0 list (list.length : Int) 0
def l1 : Nat → Int → (List api_Item) → Int → Int → Option Int
 | 0, _, _, _, _ => none
 | k + 1, at_, t, t2, t3 => if (decide (t3 < t2)) = true then ((at? t t3).bind fun e2 => if (!decide (e2.2.2.2.2.2.2.2.1 = at_)) = true then (some 70) else (if (decide (e2.2.2.2.2.2.2.2.2 < e2.2.2.2.2.2.2.2.1)) = true then (some 70) else (if (decide (65536 < e2.2.2.2.2.2.2.2.2)) = true then (some 70) else ((items_fits.f k e2).bind fun r2 => if (!r2) = true then (some 70) else (j2 k t t2 t3 e2))))) else (some 0)
def j2 : Nat → (List api_Item) → Int → Int → api_Item → Option Int
 | 0, _, _, _, _ => none
 | k + 1, t4, t5, t6, x => l1 k x.2.2.2.2.2.2.2.2 t4 t5 (wrap64 (t6 + 1))
end
def f (k : Nat) (a0 : (List api_Item)) : Option Int := if (decide ((a0.length : Int) = 0)) = true then (some 70) else (if (decide (262144 < (a0.length : Int))) = true then (some 70) else ((at? a0 (wrap64 ((a0.length : Int) - 1))).bind fun e => (items_Forced.f k e).bind fun r => if (!r) = true then (some 70) else (j0 k a0)))
def sig (k : Nat) : Sig := .p [(false, y49)] [.c false (.i .i64)] fun x => f k x.1
def E (k : Nat) : List (Nat × Sig) := [(43, items_Forced.sig k), (68, items_fits.sig k)]
noncomputable def d : FD := ⟨41, Try.f41, 54, 63, [(5, 54, 9)], [], [], [], [.tmp 2], .s .n (.j 0 .n (.s .n (.s (.s .n (.s (.l 1 (.s .n (.s .n (.s (.s (.s .n (.j 2 .n .n)) .n) .n)))) .n)) .n)))⟩
abbrev s0 : Sh := [(0, .v y49)]
abbrev s1 : Sh := [(3, .v (.i .i64)), (24, .v y49), (25, .v (.i .i64)), (26, .v (.i .i64))]
abbrev s2 : Sh := [(5, .at_ 54), (24, .v y49), (25, .v (.i .i64)), (26, .v (.i .i64)), (54, .box y29)]
def O (k : Nat) : List (Orc (denR ([.c false (.i .i64)]))) := [⟨s0, fun y => j0 k y.1⟩, ⟨s1, fun y => l1 k y.1 y.2.1 y.2.2.1 y.2.2.2.1⟩, ⟨s2, fun y => j2 k y.2.1 y.2.2.1 y.2.2.2.1 y.2.2.2.2.1⟩]
theorem e2 (k : Nat) (y : denS s2) : j2 (k + 1) y.2.1 y.2.2.1 y.2.2.2.1 y.2.2.2.2.1 = SS.ev d E O k [1, 1, 1, 0, 1, 0, 0, 1, 1, 0, 0, 1, 1] s2 y := by rw [j2]; kernel_rfl
theorem e1 (k : Nat) (y : denS s1) : l1 (k + 1) y.1 y.2.1 y.2.2.1 y.2.2.2.1 = SS.ev d E O k [1, 1, 1, 0, 1, 0, 0] s1 y := by rw [l1]; kernel_rfl
theorem e0 (k : Nat) (y : denS s0) : j0 (k + 1) y.1 = SS.ev d E O k [1, 1] s0 y := by rw [j0]; kernel_rfl
theorem ok (k : Nat) : EnvOk Try.prog (41, sig k) := fnP SS d E O sig (fun _ => rfl) Try.func41 (by kernel_rfl) rfl (fun k => ⟨items_Forced.ok k, items_fits.ok k, trivial⟩) ⟨fun _ => rfl, fun _ => rfl, fun _ => rfl, trivial⟩ (by kernel_rfl) (fun k => pc 2 rfl (e2 k) <| pc 1 rfl (e1 k) <| pc 0 rfl (e0 k) <| pn) (fun k x => by kernel_rfl) k
end items_Right
/-! reglet/items.Legal -/
namespace items_Legal
mutual
def j0 : Nat → (List api_Item) → Int → Option Bool
 | 0, _, _ => none
 | k + 1, list, k_ => (at? list k_).bind fun e => if (decide (e.1 = 3)) = true then (some (decide (e.2.2.2.2.2.1 < 10000))) else (if (decide (e.1 = 2)) = true then (if (!e.2.2.2.2.1) = true then (if (decide (0 < k_)) = true then ((at? list (wrap64 (k_ - 1))).bind fun e2 => some (decide (e2.1 = 1))) else (some false)) else (some false)) else (some false))
end
def f (k : Nat) (a0 : (List api_Item)) (a1 : Int) : Option Bool := if (decide (a1 < 0)) = true then (some false) else (if (decide ((a0.length : Int) ≤ a1)) = true then (some false) else (j0 k a0 a1))
def sig (k : Nat) : Sig := .p [(false, y49), (false, (.i .i64))] [.c false .b] fun x => f k x.1 x.2.1
def E (k : Nat) : List (Nat × Sig) := []
noncomputable def d : FD := ⟨42, Try.f42, 43, 52, [(5, 43, 9)], [], [], [], [.tmp 4], .s .n (.j 0 .n .n)⟩
abbrev s0 : Sh := [(0, .v y49), (1, .v (.i .i64))]
def O (k : Nat) : List (Orc (denR ([.c false .b]))) := [⟨s0, fun y => j0 k y.1 y.2.1⟩]
theorem e0 (k : Nat) (y : denS s0) : j0 (k + 1) y.1 y.2.1 = SS.ev d E O k [1, 1] s0 y := by rw [j0]; kernel_rfl
theorem ok (k : Nat) : EnvOk Try.prog (42, sig k) := fnP SS d E O sig (fun _ => rfl) Try.func42 (by kernel_rfl) rfl (fun k => trivial) ⟨fun _ => rfl, trivial⟩ (by kernel_rfl) (fun k => pc 0 rfl (e0 k) <| pn) (fun k x => by kernel_rfl) k
end items_Legal
/-! reglet/measure.New -/
namespace measure_New
mutual
def l0 : Nat → (List api_Item) → Int → Int → Int → Int → (List api_Item) → Int → Int → A11 → Option A10
 | 0, _, _, _, _, _, _, _, _, _ => none
 | k + 1, t, t2, t3, t4, t5, t6, t7, t8, t9 => if (decide (t8 < t7)) = true then ((at? t6 t8).bind fun e => if (t9.2.1.length + ([t2] : List Int).length) * 8 ≤ 140737488355328 then (if (t9.2.2.1.length + ([t3] : List Int).length) * 8 ≤ 140737488355328 then (if (t9.2.2.2.1.length + ([t4] : List Int).length) * 8 ≤ 140737488355328 then (if (t9.2.2.2.2.1.length + ([t5] : List Int).length) * 8 ≤ 140737488355328 then (if (decide (e.1 = 3)) = true then (j1 k t t2 t3 t4 t5 t8 t6 t7 t8 (t9.1, t9.2.1 ++ ([t2] : List Int), t9.2.2.1 ++ ([t3] : List Int), t9.2.2.2.1 ++ ([t4] : List Int), t9.2.2.2.2.1 ++ ([t5] : List Int), t9.2.2.2.2.2.1, (if t9.2.2.2.2.2.2.1 < e.2.1 then e.2.1 else t9.2.2.2.2.2.2.1), t9.2.2.2.2.2.2.2) e) else (j1 k t (wrap64 (t2 + e.2.1)) (wrap64 (t3 + e.2.2.1)) (wrap64 (t4 + e.2.2.2.1)) t5 t8 t6 t7 t8 (t9.1, t9.2.1 ++ ([t2] : List Int), t9.2.2.1 ++ ([t3] : List Int), t9.2.2.2.1 ++ ([t4] : List Int), t9.2.2.2.2.1 ++ ([t5] : List Int), t9.2.2.2.2.2.1, t9.2.2.2.2.2.2.1, t9.2.2.2.2.2.2.2) e)) else none) else none) else none) else none) else (if (t9.2.1.length + ([t2] : List Int).length) * 8 ≤ 140737488355328 then (if (t9.2.2.1.length + ([t3] : List Int).length) * 8 ≤ 140737488355328 then (if (t9.2.2.2.1.length + ([t4] : List Int).length) * 8 ≤ 140737488355328 then (if (t9.2.2.2.2.1.length + ([t5] : List Int).length) * 8 ≤ 140737488355328 then (if (wrap64 ((t.length : Int) + 1)) = (wrap64 ((t.length : Int) + 1)) ∧ 0 ≤ (wrap64 ((t.length : Int) + 1)) ∧ (8 : Int) * (wrap64 ((t.length : Int) + 1)) ≤ 281474976710656 then (if 0 ≤ (t.length : Int) ∧ (t.length : Int) < ((List.replicate ((wrap64 ((t.length : Int) + 1)).toNat) 0 : List Int).length : Int) then (((List.replicate ((wrap64 ((t.length : Int) + 1)).toNat) 0 : List Int)[(t.length : Int).toNat]?).bind fun e2 => l2 k t (wrap64 ((t.length : Int) - 1)) (t9.1, t9.2.1 ++ ([t2] : List Int), t9.2.2.1 ++ ([t3] : List Int), t9.2.2.2.1 ++ ([t4] : List Int), t9.2.2.2.2.1 ++ ([t5] : List Int), (List.replicate ((wrap64 ((t.length : Int) + 1)).toNat) 0 : List Int).set ((t.length : Int).toNat) (t.length : Int), t9.2.2.2.2.2.2.1, t9.2.2.2.2.2.2.2)) else none) else none) else none) else none) else none) else none)
def j1 : Nat → (List api_Item) → Int → Int → Int → Int → Int → (List api_Item) → Int → Int → A11 → api_Item → Option A10
 | 0, _, _, _, _, _, _, _, _, _, _, _ => none
 | k + 1, t10, t11, t12, t13, t14, t15, t16, t17, t18, t19, t20 => if t20.2.2.2.2.1 = true then (j3 k t10 t11 t12 t13 (wrap64 (t14 + 1)) t15 t16 t17 t18 t19) else (j3 k t10 t11 t12 t13 t14 t15 t16 t17 t18 t19)
def l2 : Nat → (List api_Item) → Int → A11 → Option A10
 | 0, _, _, _ => none
 | k + 1, t21, t22, t23 => if (decide (0 ≤ t22)) = true then (if 0 ≤ t22 ∧ t22 < (t23.2.2.2.2.2.1.length : Int) then ((t23.2.2.2.2.2.1[t22.toNat]?).bind fun e3 => (at? t21 t22).bind fun e4 => if (!decide (e4.1 = 1)) = true then ((items_Forced.f k e4).bind fun r2 => if (!r2) = true then (if (!e4.2.2.2.2.1) = true then (if 0 ≤ (wrap64 (t22 + 1)) ∧ (wrap64 (t22 + 1)) < ((t23.2.2.2.2.2.1.set t22.toNat t22).length : Int) then (((t23.2.2.2.2.2.1.set t22.toNat t22)[(wrap64 (t22 + 1)).toNat]?).bind fun e5 => if 0 ≤ t22 ∧ t22 < ((t23.2.2.2.2.2.1.set t22.toNat t22).length : Int) then (((t23.2.2.2.2.2.1.set t22.toNat t22)[t22.toNat]?).bind fun e6 => j4 k t21 t22 (t23.1, t23.2.1, t23.2.2.1, t23.2.2.2.1, t23.2.2.2.2.1, (t23.2.2.2.2.2.1.set t22.toNat t22).set t22.toNat e5, t23.2.2.2.2.2.2.1, t23.2.2.2.2.2.2.2)) else none) else none) else (j4 k t21 t22 (t23.1, t23.2.1, t23.2.2.1, t23.2.2.2.1, t23.2.2.2.2.1, t23.2.2.2.2.2.1.set t22.toNat t22, t23.2.2.2.2.2.2.1, t23.2.2.2.2.2.2.2))) else (j4 k t21 t22 (t23.1, t23.2.1, t23.2.2.1, t23.2.2.2.1, t23.2.2.2.2.1, t23.2.2.2.2.2.1.set t22.toNat t22, t23.2.2.2.2.2.2.1, t23.2.2.2.2.2.2.2))) else (j4 k t21 t22 (t23.1, t23.2.1, t23.2.2.1, t23.2.2.2.1, t23.2.2.2.2.1, t23.2.2.2.2.2.1.set t22.toNat t22, t23.2.2.2.2.2.2.1, t23.2.2.2.2.2.2.2))) else none) else (some (some t23, 0))
def j3 : Nat → (List api_Item) → Int → Int → Int → Int → Int → (List api_Item) → Int → Int → A11 → Option A10
 | 0, _, _, _, _, _, _, _, _, _, _ => none
 | k + 1, t24, t25, t26, t27, t28, t29, t30, t31, t32, t33 => (items_Legal.f k t24 t29).bind fun r3 => if r3 = true then (if (t33.2.2.2.2.2.2.2.length + ([t29] : List Int).length) * 8 ≤ 140737488355328 then (l0 k t24 t25 t26 t27 t28 t30 t31 (wrap64 (t32 + 1)) (t33.1, t33.2.1, t33.2.2.1, t33.2.2.2.1, t33.2.2.2.2.1, t33.2.2.2.2.2.1, t33.2.2.2.2.2.2.1, t33.2.2.2.2.2.2.2 ++ ([t29] : List Int))) else none) else (l0 k t24 t25 t26 t27 t28 t30 t31 (wrap64 (t32 + 1)) t33)
def j4 : Nat → (List api_Item) → Int → A11 → Option A10
 | 0, _, _, _ => none
 | k + 1, t34, t35, t36 => l2 k t34 (wrap64 (t35 - 1)) t36
end
def f (k : Nat) (a0 : (List api_Item)) : Option A10 := (items_Right.f k a0).bind fun r => if (!decide (r = 0)) = true then (some (none, r)) else (if (([] : List api_Item).length + a0.length) * 72 ≤ 140737488355328 then (l0 k a0 0 0 0 0 a0 (a0.length : Int) 0 (([] : List api_Item) ++ a0, ([] : List Int), ([] : List Int), ([] : List Int), ([] : List Int), ([] : List Int), 0, ([] : List Int))) else none)
def sig (k : Nat) : Sig := .p [(false, y49)] [.o y56, .c false (.i .i64)] fun x => f k x.1
def E (k : Nat) : List (Nat × Sig) := [(41, items_Right.sig k), (42, items_Legal.sig k), (43, items_Forced.sig k)]
noncomputable def d : FD := ⟨25, Try.f25, 216, 242, [(23, 216, 8), (11, 224, 9), (13, 233, 9)], [], [], [], [.tmp 2, .tmp 3], .s .n (.s .n (.s .n (.s .n (.s (.s .n (.s (.l 0 (.s .n (.s .n (.s (.s (.s .n (.s .n (.j 1 .n (.j 3 .n .n)))) .n) .n)))) .n)) (.s .n (.s .n (.s .n (.s (.s .n (.s (.l 2 (.s .n (.j 4 .n .n))) .n)) .n))))))))⟩
abbrev s0 : Sh := [(0, .v y49), (5, .at_ 216), (6, .v (.i .i64)), (7, .v (.i .i64)), (8, .v (.i .i64)), (9, .v (.i .i64)), (24, .v y49), (25, .v (.i .i64)), (26, .v (.i .i64)), (216, .box y56)]
abbrev s1 : Sh := [(0, .v y49), (5, .at_ 216), (6, .v (.i .i64)), (7, .v (.i .i64)), (8, .v (.i .i64)), (9, .v (.i .i64)), (10, .v (.i .i64)), (11, .at_ 224), (24, .v y49), (25, .v (.i .i64)), (26, .v (.i .i64)), (216, .box y56), (224, .box y29)]
abbrev s2 : Sh := [(0, .v y49), (5, .at_ 216), (12, .v (.i .i64)), (216, .box y56)]
abbrev s3 : Sh := [(0, .v y49), (5, .at_ 216), (6, .v (.i .i64)), (7, .v (.i .i64)), (8, .v (.i .i64)), (9, .v (.i .i64)), (10, .v (.i .i64)), (24, .v y49), (25, .v (.i .i64)), (26, .v (.i .i64)), (216, .box y56)]
abbrev s4 : Sh := [(0, .v y49), (5, .at_ 216), (12, .v (.i .i64)), (216, .box y56)]
def O (k : Nat) : List (Orc (denR ([.o y56, .c false (.i .i64)]))) := [⟨s0, fun y => l0 k y.1 y.2.2.1 y.2.2.2.1 y.2.2.2.2.1 y.2.2.2.2.2.1 y.2.2.2.2.2.2.1 y.2.2.2.2.2.2.2.1 y.2.2.2.2.2.2.2.2.1 y.2.2.2.2.2.2.2.2.2.1⟩, ⟨s1, fun y => j1 k y.1 y.2.2.1 y.2.2.2.1 y.2.2.2.2.1 y.2.2.2.2.2.1 y.2.2.2.2.2.2.1 y.2.2.2.2.2.2.2.2.1 y.2.2.2.2.2.2.2.2.2.1 y.2.2.2.2.2.2.2.2.2.2.1 y.2.2.2.2.2.2.2.2.2.2.2.1 y.2.2.2.2.2.2.2.2.2.2.2.2.1⟩, ⟨s2, fun y => l2 k y.1 y.2.2.1 y.2.2.2.1⟩, ⟨s3, fun y => j3 k y.1 y.2.2.1 y.2.2.2.1 y.2.2.2.2.1 y.2.2.2.2.2.1 y.2.2.2.2.2.2.1 y.2.2.2.2.2.2.2.1 y.2.2.2.2.2.2.2.2.1 y.2.2.2.2.2.2.2.2.2.1 y.2.2.2.2.2.2.2.2.2.2.1⟩, ⟨s4, fun y => j4 k y.1 y.2.2.1 y.2.2.2.1⟩]
theorem e3 (k : Nat) (y : denS s3) : j3 (k + 1) y.1 y.2.2.1 y.2.2.2.1 y.2.2.2.2.1 y.2.2.2.2.2.1 y.2.2.2.2.2.2.1 y.2.2.2.2.2.2.2.1 y.2.2.2.2.2.2.2.2.1 y.2.2.2.2.2.2.2.2.2.1 y.2.2.2.2.2.2.2.2.2.2.1 = SS.ev d E O k [1, 1, 1, 1, 0, 1, 0, 0, 1, 1, 0, 0, 1, 1, 1, 1] s3 y := by rw [j3]; kernel_rfl
theorem e1 (k : Nat) (y : denS s1) : j1 (k + 1) y.1 y.2.2.1 y.2.2.2.1 y.2.2.2.2.1 y.2.2.2.2.2.1 y.2.2.2.2.2.2.1 y.2.2.2.2.2.2.2.2.1 y.2.2.2.2.2.2.2.2.2.1 y.2.2.2.2.2.2.2.2.2.2.1 y.2.2.2.2.2.2.2.2.2.2.2.1 y.2.2.2.2.2.2.2.2.2.2.2.2.1 = SS.ev d E O k [1, 1, 1, 1, 0, 1, 0, 0, 1, 1, 0, 0, 1, 1, 1] s1 y := by rw [j1]; kernel_rfl
theorem e0 (k : Nat) (y : denS s0) : l0 (k + 1) y.1 y.2.2.1 y.2.2.2.1 y.2.2.2.2.1 y.2.2.2.2.2.1 y.2.2.2.2.2.2.1 y.2.2.2.2.2.2.2.1 y.2.2.2.2.2.2.2.2.1 y.2.2.2.2.2.2.2.2.2.1 = SS.ev d E O k [1, 1, 1, 1, 0, 1, 0, 0] s0 y := by rw [l0]; kernel_rfl
theorem e4 (k : Nat) (y : denS s4) : j4 (k + 1) y.1 y.2.2.1 y.2.2.2.1 = SS.ev d E O k [1, 1, 1, 1, 1, 1, 1, 1, 0, 1, 0, 0, 1, 1] s4 y := by rw [j4]; kernel_rfl
theorem e2 (k : Nat) (y : denS s2) : l2 (k + 1) y.1 y.2.2.1 y.2.2.2.1 = SS.ev d E O k [1, 1, 1, 1, 1, 1, 1, 1, 0, 1, 0, 0] s2 y := by rw [l2]; kernel_rfl
theorem ok (k : Nat) : EnvOk Try.prog (25, sig k) := fnP SS d E O sig (fun _ => rfl) Try.func25 (by kernel_rfl) rfl (fun k => ⟨items_Right.ok k, items_Legal.ok k, items_Forced.ok k, trivial⟩) ⟨fun _ => rfl, fun _ => rfl, fun _ => rfl, fun _ => rfl, fun _ => rfl, trivial⟩ (by kernel_rfl) (fun k => pc 3 rfl (e3 k) <| pc 1 rfl (e1 k) <| pc 0 rfl (e0 k) <| pc 4 rfl (e4 k) <| pc 2 rfl (e2 k) <| pn) (fun k x => by kernel_rfl) k
end measure_New
/-! (*reglet/measure.Para).Item -/
namespace measure_Para_Item
mutual
def j0 : Nat → A11 → Int → api_Item → Option api_Item
 | 0, _, _, _ => none
 | k + 1, p, k_, t => (at? p.1 k_).bind fun e => some e
end
def f (k : Nat) (a0 : A11) (a1 : Int) : Option api_Item := if (decide (a1 < 0)) = true then (some (0, 0, 0, 0, (false), 0, (false), 0, 0)) else (if (decide ((a0.1.length : Int) ≤ a1)) = true then (some (0, 0, 0, 0, (false), 0, (false), 0, 0)) else (j0 k a0 a1 (0, 0, 0, 0, (false), 0, (false), 0, 0)))
def sig (k : Nat) : Sig := .p [(false, y65), (false, (.i .i64))] [.c true y29] fun x => f k x.1 x.2.1
def E (k : Nat) : List (Nat × Sig) := []
noncomputable def d : FD := ⟨49, Try.f49, 24, 33, [(4, 24, 9)], [], [], [], [.cell 4 98], .s .n (.j 0 .n .n)⟩
abbrev s0 : Sh := [(0, .v y65), (1, .v (.i .i64)), (4, .at_ 24), (24, .box y29)]
def O (k : Nat) : List (Orc (denR ([.c true y29]))) := [⟨s0, fun y => j0 k y.1 y.2.1 y.2.2.2.1⟩]
theorem e0 (k : Nat) (y : denS s0) : j0 (k + 1) y.1 y.2.1 y.2.2.2.1 = SS.ev d E O k [1, 1] s0 y := by rw [j0]; kernel_rfl
theorem ok (k : Nat) : EnvOk Try.prog (49, sig k) := fnP SS d E O sig (fun _ => rfl) Try.func49 (by kernel_rfl) rfl (fun k => trivial) ⟨fun _ => rfl, trivial⟩ (by kernel_rfl) (fun k => pc 0 rfl (e0 k) <| pn) (fun k x => by kernel_rfl) k
end measure_Para_Item
/-! (*reglet/measure.Para).Ends -/
namespace measure_Para_Ends
def f (k : Nat) (a0 : A11) : Option Int := some (a0.2.2.2.2.2.2.2.length : Int)
def sig (k : Nat) : Sig := .p [(false, y65)] [.c false (.i .i64)] fun x => f k x.1
def E (k : Nat) : List (Nat × Sig) := []
noncomputable def d : FD := ⟨69, Try.f69, 8, 8, [], [], [], [], [.tmp 2], .n⟩
def O (k : Nat) : List (Orc (denR ([.c false (.i .i64)]))) := []
theorem ok (k : Nat) : EnvOk Try.prog (69, sig k) := fnP SS d E O sig (fun _ => rfl) Try.func69 (by kernel_rfl) rfl (fun k => trivial) trivial (by kernel_rfl) (fun _ => pn) (fun k x => by kernel_rfl) k
end measure_Para_Ends
/-! (*reglet/measure.Para).End -/
namespace measure_Para_End
mutual
def j0 : Nat → A11 → Int → Option Int
 | 0, _, _ => none
 | k + 1, p, n => (at? p.2.2.2.2.2.2.2 n).bind fun e => some e
end
def f (k : Nat) (a0 : A11) (a1 : Int) : Option Int := if (decide (a1 < 0)) = true then (some (-1)) else (if (decide ((a0.2.2.2.2.2.2.2.length : Int) ≤ a1)) = true then (some (-1)) else (j0 k a0 a1))
def sig (k : Nat) : Sig := .p [(false, y65), (false, (.i .i64))] [.c false (.i .i64)] fun x => f k x.1 x.2.1
def E (k : Nat) : List (Nat × Sig) := []
noncomputable def d : FD := ⟨70, Try.f70, 23, 23, [], [], [], [], [.tmp 4], .s .n (.j 0 .n .n)⟩
abbrev s0 : Sh := [(0, .v y65), (1, .v (.i .i64))]
def O (k : Nat) : List (Orc (denR ([.c false (.i .i64)]))) := [⟨s0, fun y => j0 k y.1 y.2.1⟩]
theorem e0 (k : Nat) (y : denS s0) : j0 (k + 1) y.1 y.2.1 = SS.ev d E O k [1, 1] s0 y := by rw [j0]; kernel_rfl
theorem ok (k : Nat) : EnvOk Try.prog (70, sig k) := fnP SS d E O sig (fun _ => rfl) Try.func70 (by kernel_rfl) rfl (fun k => trivial) ⟨fun _ => rfl, trivial⟩ (by kernel_rfl) (fun k => pc 0 rfl (e0 k) <| pn) (fun k x => by kernel_rfl) k
end measure_Para_End
/-! (*reglet/breaks.search).forced -/
namespace breaks_search_forced
mutual
def l0 : Nat → Int → Int → A13 → Option A12
 | 0, _, _, _ => none
 | k + 1, last, k_, s => if (decide (0 ≤ k_)) = true then (if 0 ≤ (wrap64 (k_ + 1)) ∧ (wrap64 (k_ + 1)) < (s.2.2.2.2.2.2.2.2.2.2.2.length : Int) then ((s.2.2.2.2.2.2.2.2.2.2.2[(wrap64 (k_ + 1)).toNat]?).bind fun e2 => (measure_Para_End.f k s.1 k_).bind fun r2 => (measure_Para_Item.f k s.1 r2).bind fun r3 => (items_Forced.f k r3).bind fun r4 => if r4 = true then (j1 k k_ k_ (s.1, s.2.1, s.2.2.1, s.2.2.2.1, s.2.2.2.2.1, s.2.2.2.2.2.1, s.2.2.2.2.2.2.1, s.2.2.2.2.2.2.2.1, s.2.2.2.2.2.2.2.2.1, s.2.2.2.2.2.2.2.2.2.1, s.2.2.2.2.2.2.2.2.2.2.1, s.2.2.2.2.2.2.2.2.2.2.2.set ((wrap64 (k_ + 1)).toNat) last)) else (j1 k last k_ (s.1, s.2.1, s.2.2.1, s.2.2.2.1, s.2.2.2.2.1, s.2.2.2.2.2.1, s.2.2.2.2.2.2.1, s.2.2.2.2.2.2.2.1, s.2.2.2.2.2.2.2.2.1, s.2.2.2.2.2.2.2.2.2.1, s.2.2.2.2.2.2.2.2.2.2.1, s.2.2.2.2.2.2.2.2.2.2.2.set ((wrap64 (k_ + 1)).toNat) last))) else none) else (if 0 ≤ (0 : Int) ∧ (0 : Int) < (s.2.2.2.2.2.2.2.2.2.2.2.length : Int) then ((s.2.2.2.2.2.2.2.2.2.2.2[(0 : Int).toNat]?).bind fun e3 => some (s.1, s.2.1, s.2.2.1, s.2.2.2.1, s.2.2.2.2.1, s.2.2.2.2.2.1, s.2.2.2.2.2.2.1, s.2.2.2.2.2.2.2.1, s.2.2.2.2.2.2.2.2.1, s.2.2.2.2.2.2.2.2.2.1, s.2.2.2.2.2.2.2.2.2.2.1, s.2.2.2.2.2.2.2.2.2.2.2.set ((0 : Int).toNat) last)) else none)
def j1 : Nat → Int → Int → A13 → Option A12
 | 0, _, _, _ => none
 | k + 1, last2, k_2, s2 => l0 k last2 (wrap64 (k_2 - 1)) s2
end
def f (k : Nat) (a0 : A13) : Option A12 := (measure_Para_Ends.f k a0.1).bind fun r => if (wrap64 (r + 1)) = (wrap64 (r + 1)) ∧ 0 ≤ (wrap64 (r + 1)) ∧ (8 : Int) * (wrap64 (r + 1)) ≤ 281474976710656 then (if 0 ≤ r ∧ r < ((List.replicate ((wrap64 (r + 1)).toNat) 0 : List Int).length : Int) then (((List.replicate ((wrap64 (r + 1)).toNat) 0 : List Int)[r.toNat]?).bind fun e => l0 k (wrap64 (r - 1)) (wrap64 (r - 1)) (a0.1, a0.2.1, a0.2.2.1, a0.2.2.2.1, a0.2.2.2.2.1, a0.2.2.2.2.2.1, a0.2.2.2.2.2.2.1, a0.2.2.2.2.2.2.2.1, a0.2.2.2.2.2.2.2.2.1, a0.2.2.2.2.2.2.2.2.2.1, a0.2.2.2.2.2.2.2.2.2.2.1, (List.replicate ((wrap64 (r + 1)).toNat) 0 : List Int).set r.toNat (wrap64 (r - 1)))) else none) else none
def sig (k : Nat) : Sig := .l y87 [] [] fun b x => f k b
def E (k : Nat) : List (Nat × Sig) := [(43, items_Forced.sig k), (49, measure_Para_Item.sig k), (69, measure_Para_Ends.sig k), (70, measure_Para_End.sig k)]
noncomputable def d : FD := ⟨44, Try.f44, 59, 71, [(0, 59, 12)], [0], [], [], [], .s .n (.s .n (.s .n (.s .n (.s (.s .n (.s (.l 0 (.s .n (.j 1 .n .n))) .n)) .n))))⟩
abbrev s0 : Sh := [(0, .at_ 59), (3, .v (.i .i64)), (4, .v (.i .i64)), (59, .box y87)]
abbrev s1 : Sh := [(0, .at_ 59), (3, .v (.i .i64)), (4, .v (.i .i64)), (59, .box y87)]
def O (k : Nat) : List (Orc (denR ([] ++ [.c true y87]))) := [⟨s0, fun y => l0 k y.2.1 y.2.2.1 y.2.2.2.1⟩, ⟨s1, fun y => j1 k y.2.1 y.2.2.1 y.2.2.2.1⟩]
theorem e1 (k : Nat) (y : denS s1) : j1 (k + 1) y.2.1 y.2.2.1 y.2.2.2.1 = SS.evL d E y87 O k [1, 1, 1, 1, 0, 1, 0, 0, 1, 1] s1 y := by rw [j1]; kernel_rfl
theorem e0 (k : Nat) (y : denS s0) : l0 (k + 1) y.2.1 y.2.2.1 y.2.2.2.1 = SS.evL d E y87 O k [1, 1, 1, 1, 0, 1, 0, 0] s0 y := by rw [l0]; kernel_rfl
theorem ok (k : Nat) : EnvOk Try.prog (44, sig k) := fnL SS d E O sig (fun _ => rfl) Try.func44 (by kernel_rfl) rfl (fun k => ⟨items_Forced.ok k, measure_Para_Item.ok k, measure_Para_Ends.ok k, measure_Para_End.ok k, trivial⟩) ⟨fun _ => rfl, fun _ => rfl, trivial⟩ (by kernel_rfl) (fun k => pc 1 rfl (e1 k) <| pc 0 rfl (e0 k) <| pn) (fun k b x => by kernel_rfl) k
end breaks_search_forced
/-! math/bits.Mul64 -/
namespace bits_Mul64
def f (k : Nat) (a0 : Int) (a1 : Int) : Option (Int × Int) := some (IntKind.u64.wrap ((IntKind.u64.wrap ((IntKind.u64.wrap ((shrI .u64 a0 (32 : Int)) * (shrI .u64 a1 (32 : Int)))) + (shrI .u64 (IntKind.u64.wrap ((IntKind.u64.wrap ((shrI .u64 a0 (32 : Int)) * (andI .u64 a1 (4294967295 : Int)))) + (shrI .u64 (IntKind.u64.wrap ((andI .u64 a0 (4294967295 : Int)) * (andI .u64 a1 (4294967295 : Int)))) (32 : Int)))) (32 : Int)))) + (shrI .u64 (IntKind.u64.wrap ((andI .u64 (IntKind.u64.wrap ((IntKind.u64.wrap ((shrI .u64 a0 (32 : Int)) * (andI .u64 a1 (4294967295 : Int)))) + (shrI .u64 (IntKind.u64.wrap ((andI .u64 a0 (4294967295 : Int)) * (andI .u64 a1 (4294967295 : Int)))) (32 : Int)))) (4294967295 : Int)) + (IntKind.u64.wrap ((andI .u64 a0 (4294967295 : Int)) * (shrI .u64 a1 (32 : Int)))))) (32 : Int))), IntKind.u64.wrap (a0 * a1))
def sig (k : Nat) : Sig := .p [(false, (.i .u64)), (false, (.i .u64))] [.c false (.i .u64), .c false (.i .u64)] fun x => f k x.1 x.2.1
def E (k : Nat) : List (Nat × Sig) := []
noncomputable def d : FD := ⟨103, Try.f103, 51, 51, [], [], [], [], [.tmp 4, .tmp 5], .n⟩
def O (k : Nat) : List (Orc (denR ([.c false (.i .u64), .c false (.i .u64)]))) := []
theorem ok (k : Nat) : EnvOk Try.prog (103, sig k) := fnP SS d E O sig (fun _ => rfl) Try.func103 (by kernel_rfl) rfl (fun k => trivial) trivial (by kernel_rfl) (fun _ => pn) (fun k x => by kernel_rfl) k
end bits_Mul64
/-! reglet/scaled.product -/
namespace scaled_product
def f (k : Nat) (a0 : Int) (a1 : Int) : Option measure_Sum := (bits_Mul64.f k a0 a1).bind fun r => some (r.2, r.1, 0, 0)
def sig (k : Nat) : Sig := .p [(false, (.i .u64)), (false, (.i .u64))] [.c true y90] fun x => f k x.1 x.2.1
def E (k : Nat) : List (Nat × Sig) := [(103, bits_Mul64.sig k)]
noncomputable def d : FD := ⟨97, Try.f97, 16, 20, [(4, 16, 4)], [], [], [], [.cell 4 160], .n⟩
def O (k : Nat) : List (Orc (denR ([.c true y90]))) := []
theorem ok (k : Nat) : EnvOk Try.prog (97, sig k) := fnP SS d E O sig (fun _ => rfl) Try.func97 (by kernel_rfl) rfl (fun k => ⟨bits_Mul64.ok k, trivial⟩) trivial (by kernel_rfl) (fun _ => pn) (fun k x => by kernel_rfl) k
end scaled_product
/-! (reglet/scaled.wide).times -/
namespace scaled_wide_times
mutual
def l0 : Nat → Int → Int → measure_Sum → Int → measure_Sum → measure_Sum → Option measure_Sum
 | 0, _, _, _, _, _, _ => none
 | k + 1, by_, carry, t, t2, t3, out => if (decide (t2 < 4)) = true then ((at? ([t.1, t.2.1, t.2.2.1, t.2.2.2] : List Int) t2).bind fun e => (bits_Mul64.f k e by_).bind fun r => if 0 ≤ r.2 ∧ 0 ≤ carry ∧ 0 ≤ (0 : Int) ∧ (0 : Int) ≤ 1 then (if 0 ≤ t2 ∧ t2 < (4 : Int) then (if t2.toNat < 4 then (l0 k by_ (IntKind.u64.wrap (r.1 + ((r.2 + carry + (0 : Int)) / 18446744073709551616))) t (wrap64 (t2 + 1)) t3 ((if t2.toNat = 0 then ((r.2 + carry + (0 : Int)) % 18446744073709551616) else out.1), (if t2.toNat = 1 then ((r.2 + carry + (0 : Int)) % 18446744073709551616) else out.2.1), (if t2.toNat = 2 then ((r.2 + carry + (0 : Int)) % 18446744073709551616) else out.2.2.1), (if t2.toNat = 3 then ((r.2 + carry + (0 : Int)) % 18446744073709551616) else out.2.2.2))) else none) else none) else none) else (some out)
end
def f (k : Nat) (a0 : measure_Sum) (a1 : Int) : Option measure_Sum := l0 k a1 0 a0 0 (0, 0, 0, 0) (0, 0, 0, 0)
def sig (k : Nat) : Sig := .p [(true, y90), (false, (.i .u64))] [.c true y90] fun x => f k x.1 x.2.1
def E (k : Nat) : List (Nat × Sig) := [(103, bits_Mul64.sig k)]
noncomputable def d : FD := ⟨98, Try.f98, 38, 50, [(2, 38, 4), (4, 42, 4), (5, 46, 4)], [], [], [], [.cell 4 160], .s .n (.s .n (.s .n (.s (.s .n (.s (.l 0 .n) .n)) .n)))⟩
abbrev s0 : Sh := [(1, .v (.i .u64)), (4, .at_ 42), (5, .at_ 46), (6, .v (.i .u64)), (13, .agg y90), (14, .v (.i .i64)), (42, .box y90), (46, .box y90)]
def O (k : Nat) : List (Orc (denR ([.c true y90]))) := [⟨s0, fun y => l0 k y.1 y.2.2.2.1 y.2.2.2.2.1 y.2.2.2.2.2.1 y.2.2.2.2.2.2.1 y.2.2.2.2.2.2.2.1⟩]
theorem e0 (k : Nat) (y : denS s0) : l0 (k + 1) y.1 y.2.2.2.1 y.2.2.2.2.1 y.2.2.2.2.2.1 y.2.2.2.2.2.2.1 y.2.2.2.2.2.2.2.1 = SS.ev d E O k [1, 1, 1, 0, 1, 0, 0] s0 y := by rw [l0]; kernel_rfl
theorem ok (k : Nat) : EnvOk Try.prog (98, sig k) := fnP SS d E O sig (fun _ => rfl) Try.func98 (by kernel_rfl) rfl (fun k => ⟨bits_Mul64.ok k, trivial⟩) ⟨fun _ => rfl, trivial⟩ (by kernel_rfl) (fun k => pc 0 rfl (e0 k) <| pn) (fun k x => by kernel_rfl) k
end scaled_wide_times
/-! reglet/scaled.smaller -/
namespace scaled_smaller
mutual
def l0 : Nat → Int → measure_Sum → measure_Sum → Option Bool
 | 0, _, _, _ => none
 | k + 1, i, a, b => if (decide (0 ≤ i)) = true then (if 0 ≤ i ∧ i < (4 : Int) then ((([a.1, a.2.1, a.2.2.1, a.2.2.2] : List Int)[i.toNat]?).bind fun e => if 0 ≤ i ∧ i < (4 : Int) then ((([b.1, b.2.1, b.2.2.1, b.2.2.2] : List Int)[i.toNat]?).bind fun e2 => if (!decide (e = e2)) = true then (if 0 ≤ i ∧ i < (4 : Int) then ((([a.1, a.2.1, a.2.2.1, a.2.2.2] : List Int)[i.toNat]?).bind fun e3 => if 0 ≤ i ∧ i < (4 : Int) then ((([b.1, b.2.1, b.2.2.1, b.2.2.2] : List Int)[i.toNat]?).bind fun e4 => some (decide (e3 < e4))) else none) else none) else (l0 k (wrap64 (i - 1)) a b)) else none) else none) else (some false)
end
def f (k : Nat) (a0 : measure_Sum) (a1 : measure_Sum) : Option Bool := l0 k 3 a0 a1
def sig (k : Nat) : Sig := .p [(true, y90), (true, y90)] [.c false .b] fun x => f k x.1 x.2.1
def E (k : Nat) : List (Nat × Sig) := []
noncomputable def d : FD := ⟨99, Try.f99, 24, 32, [(2, 24, 4), (3, 28, 4)], [], [], [], [.tmp 4], .s .n (.s (.s .n (.s (.l 0 .n) .n)) .n)⟩
abbrev s0 : Sh := [(2, .at_ 24), (3, .at_ 28), (5, .v (.i .i64)), (24, .box y90), (28, .box y90)]
def O (k : Nat) : List (Orc (denR ([.c false .b]))) := [⟨s0, fun y => l0 k y.2.2.1 y.2.2.2.1 y.2.2.2.2.1⟩]
theorem e0 (k : Nat) (y : denS s0) : l0 (k + 1) y.2.2.1 y.2.2.2.1 y.2.2.2.2.1 = SS.ev d E O k [1, 0, 1, 0, 0] s0 y := by rw [l0]; kernel_rfl
theorem ok (k : Nat) : EnvOk Try.prog (99, sig k) := fnP SS d E O sig (fun _ => rfl) Try.func99 (by kernel_rfl) rfl (fun k => trivial) ⟨fun _ => rfl, trivial⟩ (by kernel_rfl) (fun k => pc 0 rfl (e0 k) <| pn) (fun k x => by kernel_rfl) k
end scaled_smaller
/-! reglet/scaled.Bad -/
namespace scaled_Bad
mutual
def j0 : Nat → Int → Int → Option Int
 | 0, _, _ => none
 | k + 1, t, s => (scaled_product.f k (IntKind.u64.wrap (t)) (IntKind.u64.wrap (t))).bind fun r3 => (scaled_wide_times.f k r3 (IntKind.u64.wrap (t))).bind fun r4 => (scaled_wide_times.f k r4 100).bind fun r5 => (scaled_product.f k (IntKind.u64.wrap (s)) (IntKind.u64.wrap (s))).bind fun r6 => (scaled_wide_times.f k r6 (IntKind.u64.wrap (s))).bind fun r7 => l1 k 0 10000 r5 r7
def l1 : Nat → Int → Int → measure_Sum → measure_Sum → Option Int
 | 0, _, _, _, _ => none
 | k + 1, low, high, left, cube => if (decide (low < high)) = true then ((scaled_wide_times.f k cube (IntKind.u64.wrap (wrap64 ((wrap64 ((wrap64 (low + high)) + 1)).tdiv 2)))).bind fun r8 => (scaled_smaller.f k left r8).bind fun r9 => if r9 = true then (l1 k low (wrap64 ((wrap64 ((wrap64 ((wrap64 (low + high)) + 1)).tdiv 2)) - 1)) left cube) else (l1 k (wrap64 ((wrap64 ((wrap64 (low + high)) + 1)).tdiv 2)) high left cube)) else (some low)
end
def f (k : Nat) (a0 : Int) (a1 : Int) : Option Int := (scaled_Clamp.f k a0).bind fun r => (scaled_Clamp.f k a1).bind fun r2 => if (decide (r ≤ 0)) = true then (some 0) else (if (decide (r2 ≤ 0)) = true then (some 10000) else (if r2 ≠ 0 then (if (decide (5 ≤ (wrap64 (r.tdiv r2)))) = true then (some 10000) else (j0 k r r2)) else none))
def sig (k : Nat) : Sig := .p [(false, (.i .i64)), (false, (.i .i64))] [.c false (.i .i64)] fun x => f k x.1 x.2.1
def E (k : Nat) : List (Nat × Sig) := [(94, scaled_Clamp.sig k), (97, scaled_product.sig k), (98, scaled_wide_times.sig k), (99, scaled_smaller.sig k)]
noncomputable def d : FD := ⟨92, Try.f92, 59, 67, [(5, 59, 4), (6, 63, 4)], [], [], [], [.tmp 4], .s .n (.s .n (.s .n (.j 0 .n (.s .n (.s .n (.s .n (.s (.s (.l 1 .n) .n) .n)))))))⟩
abbrev s0 : Sh := [(0, .v (.i .i64)), (1, .v (.i .i64))]
abbrev s1 : Sh := [(5, .at_ 59), (6, .at_ 63), (7, .v (.i .i64)), (8, .v (.i .i64)), (59, .box y90), (63, .box y90)]
def O (k : Nat) : List (Orc (denR ([.c false (.i .i64)]))) := [⟨s0, fun y => j0 k y.1 y.2.1⟩, ⟨s1, fun y => l1 k y.2.2.1 y.2.2.2.1 y.2.2.2.2.1 y.2.2.2.2.2.1⟩]
theorem e1 (k : Nat) (y : denS s1) : l1 (k + 1) y.2.2.1 y.2.2.2.1 y.2.2.2.2.1 y.2.2.2.2.2.1 = SS.ev d E O k [1, 1, 1, 1, 1, 1, 1, 0, 0, 0] s1 y := by rw [l1]; kernel_rfl
theorem e0 (k : Nat) (y : denS s0) : j0 (k + 1) y.1 y.2.1 = SS.ev d E O k [1, 1, 1, 1] s0 y := by rw [j0]; kernel_rfl
theorem ok (k : Nat) : EnvOk Try.prog (92, sig k) := fnP SS d E O sig (fun _ => rfl) Try.func92 (by kernel_rfl) rfl (fun k => ⟨scaled_Clamp.ok k, scaled_product.ok k, scaled_wide_times.ok k, scaled_smaller.ok k, trivial⟩) ⟨fun _ => rfl, fun _ => rfl, trivial⟩ (by kernel_rfl) (fun k => pc 1 rfl (e1 k) <| pc 0 rfl (e0 k) <| pn) (fun k x => by kernel_rfl) k
end scaled_Bad
/-! reglet/scaled.size -/
namespace scaled_size
def f (k : Nat) (a0 : Int) : Option Int := (scaled_Clamp.f k a0).bind fun r => if (decide (r < 0)) = true then (some (IntKind.u64.wrap (wrap64 (-r)))) else (some (IntKind.u64.wrap (r)))
def sig (k : Nat) : Sig := .p [(false, (.i .i64))] [.c false (.i .u64)] fun x => f k x.1
def E (k : Nat) : List (Nat × Sig) := [(94, scaled_Clamp.sig k)]
noncomputable def d : FD := ⟨105, Try.f105, 12, 12, [], [], [], [], [.tmp 2], .n⟩
def O (k : Nat) : List (Orc (denR ([.c false (.i .u64)]))) := []
theorem ok (k : Nat) : EnvOk Try.prog (105, sig k) := fnP SS d E O sig (fun _ => rfl) Try.func105 (by kernel_rfl) rfl (fun k => ⟨scaled_Clamp.ok k, trivial⟩) trivial (by kernel_rfl) (fun _ => pn) (fun k x => by kernel_rfl) k
end scaled_size
/-! reglet/scaled.Gcd -/
namespace scaled_Gcd
mutual
def l0 : Nat → Int → Int → Option Int
 | 0, _, _ => none
 | k + 1, x, y => if (decide (0 < y)) = true then (if y ≠ 0 then (l0 k y (x.tmod y)) else none) else (some (wrap64 (x)))
end
def f (k : Nat) (a0 : Int) (a1 : Int) : Option Int := (scaled_size.f k a0).bind fun r => (scaled_size.f k a1).bind fun r2 => l0 k r r2
def sig (k : Nat) : Sig := .p [(false, (.i .i64)), (false, (.i .i64))] [.c false (.i .i64)] fun x => f k x.1 x.2.1
def E (k : Nat) : List (Nat × Sig) := [(105, scaled_size.sig k)]
noncomputable def d : FD := ⟨100, Try.f100, 19, 19, [], [], [], [], [.tmp 4], .s .n (.s .n (.s (.s (.l 0 .n) .n) .n))⟩
abbrev s0 : Sh := [(5, .v (.i .u64)), (6, .v (.i .u64))]
def O (k : Nat) : List (Orc (denR ([.c false (.i .i64)]))) := [⟨s0, fun y => l0 k y.1 y.2.1⟩]
theorem e0 (k : Nat) (y : denS s0) : l0 (k + 1) y.1 y.2.1 = SS.ev d E O k [1, 1, 0, 0, 0] s0 y := by rw [l0]; kernel_rfl
theorem ok (k : Nat) : EnvOk Try.prog (100, sig k) := fnP SS d E O sig (fun _ => rfl) Try.func100 (by kernel_rfl) rfl (fun k => ⟨scaled_size.ok k, trivial⟩) ⟨fun _ => rfl, trivial⟩ (by kernel_rfl) (fun k => pc 0 rfl (e0 k) <| pn) (fun k x => by kernel_rfl) k
end scaled_Gcd
/-! reglet/scaled.Lowest -/
namespace scaled_Lowest
mutual
def j0 : Nat → Int → Int → Option (Int × Int)
 | 0, _, _ => none
 | k + 1, a, b => (scaled_Gcd.f k a b).bind fun r3 => if r3 ≠ 0 then (if r3 ≠ 0 then (some (wrap64 (a.tdiv r3), wrap64 (b.tdiv r3))) else none) else none
end
def f (k : Nat) (a0 : Int) (a1 : Int) : Option (Int × Int) := (scaled_Clamp.f k a0).bind fun r => (scaled_Clamp.f k a1).bind fun r2 => if (decide (r2 = 0)) = true then (some (0, 1)) else (if (decide (r2 < 0)) = true then (j0 k (wrap64 (-r)) (wrap64 (-r2))) else (j0 k r r2))
def sig (k : Nat) : Sig := .p [(false, (.i .i64)), (false, (.i .i64))] [.c false (.i .i64), .c false (.i .i64)] fun x => f k x.1 x.2.1
def E (k : Nat) : List (Nat × Sig) := [(94, scaled_Clamp.sig k), (100, scaled_Gcd.sig k)]
noncomputable def d : FD := ⟨93, Try.f93, 28, 28, [], [], [], [], [.tmp 4, .tmp 5], .s .n (.s .n (.s .n (.j 0 .n .n)))⟩
abbrev s0 : Sh := [(0, .v (.i .i64)), (1, .v (.i .i64))]
def O (k : Nat) : List (Orc (denR ([.c false (.i .i64), .c false (.i .i64)]))) := [⟨s0, fun y => j0 k y.1 y.2.1⟩]
theorem e0 (k : Nat) (y : denS s0) : j0 (k + 1) y.1 y.2.1 = SS.ev d E O k [1, 1, 1, 1] s0 y := by rw [j0]; kernel_rfl
theorem ok (k : Nat) : EnvOk Try.prog (93, sig k) := fnP SS d E O sig (fun _ => rfl) Try.func93 (by kernel_rfl) rfl (fun k => ⟨scaled_Clamp.ok k, scaled_Gcd.ok k, trivial⟩) ⟨fun _ => rfl, trivial⟩ (by kernel_rfl) (fun k => pc 0 rfl (e0 k) <| pn) (fun k x => by kernel_rfl) k
end scaled_Lowest
/-! reglet/measure.Set -/
namespace measure_Set
mutual
def j0 : Nat → Int → measure_Sum → api_Fit → api_Fit → Option api_Fit
 | 0, _, _, _, _ => none
 | k + 1, t, t2, t3, t4 => (scaled_Lowest.f k t t2.2.1).bind fun r5 => if (decide (12 < t4.2.2.1)) = true then (j3 k t3 (r5.1, r5.2, t4.2.2.1, 2, t4.2.2.2.2)) else (j3 k t3 (r5.1, r5.2, t4.2.2.1, t4.2.2.2.1, t4.2.2.2.2))
def j1 : Nat → measure_Sum → api_Fit → api_Fit → Option api_Fit
 | 0, _, _, _ => none
 | k + 1, t5, t6, t7 => if (decide (0 < t5.2.2.1)) = true then (some ((-1), t7.2.1, t7.2.2.1, t7.2.2.2.1, t7.2.2.2.2)) else (some t7)
def j2 : Nat → Int → measure_Sum → api_Fit → Option api_Fit
 | 0, _, _, _ => none
 | k + 1, t8, t9, t10 => (scaled_Bad.f k (wrap64 (-t8)) t9.2.2.1).bind fun r6 => (scaled_Lowest.f k t8 t9.2.2.1).bind fun r7 => if (decide (12 < r6)) = true then (some (r7.1, r7.2, r6, 0, (false))) else (some (r7.1, r7.2, r6, 1, (false)))
def j3 : Nat → api_Fit → api_Fit → Option api_Fit
 | 0, _, _ => none
 | k + 1, t11, t12 => if (decide (99 < t12.2.2.1)) = true then (some (t12.1, t12.2.1, t12.2.2.1, 3, t12.2.2.2.2)) else (some t12)
end
def f (k : Nat) (a0 : measure_Sum) (a1 : Int) : Option api_Fit := if (decide ((wrap64 (a1 - a0.1)) = 0)) = true then (some (0, 1, 0, 1, (false))) else (if (decide (0 < (wrap64 (a1 - a0.1)))) = true then (if (decide (0 < a0.2.2.2)) = true then (some (0, 1, 0, 1, (false))) else (if (decide (0 < (wrap64 (a1 - a0.1)))) = true then (if (decide (a0.2.1 = 0)) = true then (some (0, 1, 10000, 3, (false))) else (if (decide (0 < (wrap64 (a1 - a0.1)))) = true then ((scaled_Bad.f k (wrap64 (a1 - a0.1)) a0.2.1).bind fun r => j0 k (wrap64 (a1 - a0.1)) a0 (0, 0, 0, 0, (false)) (0, 0, r, 1, (false))) else (if (decide (a0.2.2.1 < (wrap64 (-(wrap64 (a1 - a0.1)))))) = true then (j1 k a0 (0, 0, 0, 0, (false)) (0, 1, 10000, 0, (true))) else (j2 k (wrap64 (a1 - a0.1)) a0 (0, 0, 0, 0, (false)))))) else (if (decide (0 < (wrap64 (a1 - a0.1)))) = true then ((scaled_Bad.f k (wrap64 (a1 - a0.1)) a0.2.1).bind fun r2 => j0 k (wrap64 (a1 - a0.1)) a0 (0, 0, 0, 0, (false)) (0, 0, r2, 1, (false))) else (if (decide (a0.2.2.1 < (wrap64 (-(wrap64 (a1 - a0.1)))))) = true then (j1 k a0 (0, 0, 0, 0, (false)) (0, 1, 10000, 0, (true))) else (j2 k (wrap64 (a1 - a0.1)) a0 (0, 0, 0, 0, (false))))))) else (if (decide (0 < (wrap64 (a1 - a0.1)))) = true then (if (decide (a0.2.1 = 0)) = true then (some (0, 1, 10000, 3, (false))) else (if (decide (0 < (wrap64 (a1 - a0.1)))) = true then ((scaled_Bad.f k (wrap64 (a1 - a0.1)) a0.2.1).bind fun r3 => j0 k (wrap64 (a1 - a0.1)) a0 (0, 0, 0, 0, (false)) (0, 0, r3, 1, (false))) else (if (decide (a0.2.2.1 < (wrap64 (-(wrap64 (a1 - a0.1)))))) = true then (j1 k a0 (0, 0, 0, 0, (false)) (0, 1, 10000, 0, (true))) else (j2 k (wrap64 (a1 - a0.1)) a0 (0, 0, 0, 0, (false)))))) else (if (decide (0 < (wrap64 (a1 - a0.1)))) = true then ((scaled_Bad.f k (wrap64 (a1 - a0.1)) a0.2.1).bind fun r4 => j0 k (wrap64 (a1 - a0.1)) a0 (0, 0, 0, 0, (false)) (0, 0, r4, 1, (false))) else (if (decide (a0.2.2.1 < (wrap64 (-(wrap64 (a1 - a0.1)))))) = true then (j1 k a0 (0, 0, 0, 0, (false)) (0, 1, 10000, 0, (true))) else (j2 k (wrap64 (a1 - a0.1)) a0 (0, 0, 0, 0, (false)))))))
def sig (k : Nat) : Sig := .p [(true, y45), (false, (.i .i64))] [.c true y93] fun x => f k x.1 x.2.1
def E (k : Nat) : List (Nat × Sig) := [(92, scaled_Bad.sig k), (93, scaled_Lowest.sig k)]
noncomputable def d : FD := ⟨76, Try.f76, 93, 117, [(2, 93, 4), (4, 97, 5), (6, 102, 5), (7, 107, 5), (8, 112, 5)], [], [], [], [.cell 4 108], .s .n (.s .n (.j 2 (.s (.s .n (.s .n (.s .n (.s .n (.s .n (.s (.j 0 .n (.s .n (.j 3 .n .n))) (.s .n (.s (.j 1 .n .n) .n)))))))) .n) .n))⟩
abbrev s0 : Sh := [(2, .at_ 93), (4, .at_ 97), (5, .v (.i .i64)), (6, .at_ 102), (93, .box y45), (97, .box y93), (102, .box y93)]
abbrev s1 : Sh := [(2, .at_ 93), (4, .at_ 97), (7, .at_ 107), (93, .box y45), (97, .box y93), (107, .box y93)]
abbrev s2 : Sh := [(2, .at_ 93), (4, .at_ 97), (5, .v (.i .i64)), (93, .box y45), (97, .box y93)]
abbrev s3 : Sh := [(4, .at_ 97), (6, .at_ 102), (97, .box y93), (102, .box y93)]
def O (k : Nat) : List (Orc (denR ([.c true y93]))) := [⟨s0, fun y => j0 k y.2.2.1 y.2.2.2.2.1 y.2.2.2.2.2.1 y.2.2.2.2.2.2.1⟩, ⟨s1, fun y => j1 k y.2.2.2.1 y.2.2.2.2.1 y.2.2.2.2.2.1⟩, ⟨s2, fun y => j2 k y.2.2.1 y.2.2.2.1 y.2.2.2.2.1⟩, ⟨s3, fun y => j3 k y.2.2.1 y.2.2.2.1⟩]
theorem e3 (k : Nat) (y : denS s3) : j3 (k + 1) y.2.2.1 y.2.2.2.1 = SS.ev d E O k [1, 1, 0, 0, 1, 1, 1, 1, 1, 0, 1, 1, 1] s3 y := by rw [j3]; kernel_rfl
theorem e0 (k : Nat) (y : denS s0) : j0 (k + 1) y.2.2.1 y.2.2.2.2.1 y.2.2.2.2.2.1 y.2.2.2.2.2.2.1 = SS.ev d E O k [1, 1, 0, 0, 1, 1, 1, 1, 1, 0, 1] s0 y := by rw [j0]; kernel_rfl
theorem e1 (k : Nat) (y : denS s1) : j1 (k + 1) y.2.2.2.1 y.2.2.2.2.1 y.2.2.2.2.2.1 = SS.ev d E O k [1, 1, 0, 0, 1, 1, 1, 1, 1, 1, 1, 0, 1] s1 y := by rw [j1]; kernel_rfl
theorem e2 (k : Nat) (y : denS s2) : j2 (k + 1) y.2.2.1 y.2.2.2.1 y.2.2.2.2.1 = SS.ev d E O k [1, 1, 1] s2 y := by rw [j2]; kernel_rfl
theorem ok (k : Nat) : EnvOk Try.prog (76, sig k) := fnP SS d E O sig (fun _ => rfl) Try.func76 (by kernel_rfl) rfl (fun k => ⟨scaled_Bad.ok k, scaled_Lowest.ok k, trivial⟩) ⟨fun _ => rfl, fun _ => rfl, fun _ => rfl, fun _ => rfl, trivial⟩ (by kernel_rfl) (fun k => pc 3 rfl (e3 k) <| pc 0 rfl (e0 k) <| pc 1 rfl (e1 k) <| pc 2 rfl (e2 k) <| pn) (fun k x => by kernel_rfl) k
end measure_Set
/-! (*reglet/measure.Para).Start -/
namespace measure_Para_Start
def f (k : Nat) (a0 : A11) (a1 : Int) : Option Int := if (decide (a1 < 0)) = true then (some 0) else (if (decide ((wrap64 ((a0.1.length : Int) - 1)) ≤ a1)) = true then (some (a0.1.length : Int)) else ((at? a0.2.2.2.2.2.1 (wrap64 (a1 + 1))).bind fun e => some e))
def sig (k : Nat) : Sig := .p [(false, y65), (false, (.i .i64))] [.c false (.i .i64)] fun x => f k x.1 x.2.1
def E (k : Nat) : List (Nat × Sig) := []
noncomputable def d : FD := ⟨75, Try.f75, 30, 30, [], [], [], [], [.tmp 4], .n⟩
def O (k : Nat) : List (Orc (denR ([.c false (.i .i64)]))) := []
theorem ok (k : Nat) : EnvOk Try.prog (75, sig k) := fnP SS d E O sig (fun _ => rfl) Try.func75 (by kernel_rfl) rfl (fun k => trivial) trivial (by kernel_rfl) (fun _ => pn) (fun k x => by kernel_rfl) k
end measure_Para_Start
/-! (*reglet/measure.Para).Line -/
namespace measure_Para_Line
mutual
def j0 : Nat → A11 → Int → Int → measure_Sum → Option measure_Sum
 | 0, _, _, _, _ => none
 | k + 1, t, t2, t3, t4 => (measure_Para_Start.f k t t2).bind fun r => (at? t.2.1 t3).bind fun e => (at? t.2.1 (if t3 < r then t3 else r)).bind fun e2 => (at? t.2.2.1 t3).bind fun e3 => (at? t.2.2.1 (if t3 < r then t3 else r)).bind fun e4 => (at? t.2.2.2.1 t3).bind fun e5 => (at? t.2.2.2.1 (if t3 < r then t3 else r)).bind fun e6 => (at? t.2.2.2.2.1 t3).bind fun e7 => (at? t.2.2.2.2.1 (if t3 < r then t3 else r)).bind fun e8 => (at? t.1 t3).bind fun e9 => if (decide (e9.1 = 3)) = true then ((at? t.1 t3).bind fun e10 => some (wrap64 ((wrap64 (e - e2)) + e10.2.1), wrap64 (e3 - e4), wrap64 (e5 - e6), wrap64 (e7 - e8))) else (some (wrap64 (e - e2), wrap64 (e3 - e4), wrap64 (e5 - e6), wrap64 (e7 - e8)))
end
def f (k : Nat) (a0 : A11) (a1 : Int) (a2 : Int) : Option measure_Sum := if (decide (a2 < 0)) = true then (some (0, 0, 0, 0)) else (if (decide ((a0.1.length : Int) ≤ a2)) = true then (some (0, 0, 0, 0)) else (j0 k a0 a1 a2 (0, 0, 0, 0)))
def sig (k : Nat) : Sig := .p [(false, y65), (false, (.i .i64)), (false, (.i .i64))] [.c true y45] fun x => f k x.1 x.2.1 x.2.2.1
def E (k : Nat) : List (Nat × Sig) := [(75, measure_Para_Start.sig k)]
noncomputable def d : FD := ⟨77, Try.f77, 109, 117, [(6, 109, 4), (8, 113, 4)], [], [], [], [.cell 6 142], .s .n (.j 0 .n .n)⟩
abbrev s0 : Sh := [(0, .v y65), (1, .v (.i .i64)), (2, .v (.i .i64)), (6, .at_ 109), (109, .box y45)]
def O (k : Nat) : List (Orc (denR ([.c true y45]))) := [⟨s0, fun y => j0 k y.1 y.2.1 y.2.2.1 y.2.2.2.2.1⟩]
theorem e0 (k : Nat) (y : denS s0) : j0 (k + 1) y.1 y.2.1 y.2.2.1 y.2.2.2.2.1 = SS.ev d E O k [1, 1] s0 y := by rw [j0]; kernel_rfl
theorem ok (k : Nat) : EnvOk Try.prog (77, sig k) := fnP SS d E O sig (fun _ => rfl) Try.func77 (by kernel_rfl) rfl (fun k => ⟨measure_Para_Start.ok k, trivial⟩) ⟨fun _ => rfl, trivial⟩ (by kernel_rfl) (fun k => pc 0 rfl (e0 k) <| pn) (fun k x => by kernel_rfl) k
end measure_Para_Line
/-! (*reglet/measure.Para).Fit -/
namespace measure_Para_Fit
def f (k : Nat) (a0 : A11) (a1 : Int) (a2 : Int) (a3 : Int) : Option api_Fit := (measure_Para_Line.f k a0 a1 a2).bind fun r => (measure_Set.f k r a3).bind fun r2 => some r2
def sig (k : Nat) : Sig := .p [(false, y65), (false, (.i .i64)), (false, (.i .i64)), (false, (.i .i64))] [.c true y93] fun x => f k x.1 x.2.1 x.2.2.1 x.2.2.2.1
def E (k : Nat) : List (Nat × Sig) := [(76, measure_Set.sig k), (77, measure_Para_Line.sig k)]
noncomputable def d : FD := ⟨48, Try.f48, 15, 20, [(8, 15, 5)], [], [], [], [.cell 8 108], .n⟩
def O (k : Nat) : List (Orc (denR ([.c true y93]))) := []
theorem ok (k : Nat) : EnvOk Try.prog (48, sig k) := fnP SS d E O sig (fun _ => rfl) Try.func48 (by kernel_rfl) rfl (fun k => ⟨measure_Set.ok k, measure_Para_Line.ok k, trivial⟩) trivial (by kernel_rfl) (fun _ => pn) (fun k x => by kernel_rfl) k
end measure_Para_Fit
/-! (*reglet/breaks.search).may -/
namespace breaks_search_may
def f (k : Nat) (a0 : A13) (a1 : api_Fit) (a2 : Bool) : Option Bool := if (!a0.2.2.2.2.2.2.2.2.2.1) = true then (if (!a1.2.2.2.2) = true then (some (decide (a1.2.2.1 ≤ a0.2.2.1))) else (some false)) else (if a1.2.2.2.2 = true then (some a2) else (some true))
def sig (k : Nat) : Sig := .p [(false, y106), (true, y93), (false, .b)] [.c false .b] fun x => f k x.1 x.2.1 x.2.2.1
def E (k : Nat) : List (Nat × Sig) := []
noncomputable def d : FD := ⟨90, Try.f90, 30, 35, [(4, 30, 5)], [], [], [], [.tmp 6], .n⟩
def O (k : Nat) : List (Orc (denR ([.c false .b]))) := []
theorem ok (k : Nat) : EnvOk Try.prog (90, sig k) := fnP SS d E O sig (fun _ => rfl) Try.func90 (by kernel_rfl) rfl (fun k => trivial) trivial (by kernel_rfl) (fun _ => pn) (fun k x => by kernel_rfl) k
end breaks_search_may
/-! (*reglet/breaks.search).line -/
namespace breaks_search_line
def f (k : Nat) (a0 : A13) (a1 : Int) (a2 : Int) : Option (api_Fit × Bool) := (measure_Para_End.f k a0.1 a1).bind fun r => (measure_Para_End.f k a0.1 a2).bind fun r2 => (measure_Para_Fit.f k a0.1 r r2 a0.2.1).bind fun r3 => (breaks_search_may.f k a0 r3 (decide (a2 = (wrap64 (a1 + 1))))).bind fun r4 => some (r3, r4)
def sig (k : Nat) : Sig := .p [(false, y106), (false, (.i .i64)), (false, (.i .i64))] [.c true y93, .c false .b] fun x => f k x.1 x.2.1 x.2.2.1
def E (k : Nat) : List (Nat × Sig) := [(48, measure_Para_Fit.sig k), (70, measure_Para_End.sig k), (90, breaks_search_may.sig k)]
noncomputable def d : FD := ⟨72, Try.f72, 38, 48, [(6, 38, 5), (8, 43, 5)], [], [], [], [.cell 6 108, .tmp 7], .n⟩
def O (k : Nat) : List (Orc (denR ([.c true y93, .c false .b]))) := []
theorem ok (k : Nat) : EnvOk Try.prog (72, sig k) := fnP SS d E O sig (fun _ => rfl) Try.func72 (by kernel_rfl) rfl (fun k => ⟨measure_Para_Fit.ok k, measure_Para_End.ok k, breaks_search_may.ok k, trivial⟩) trivial (by kernel_rfl) (fun _ => pn) (fun k x => by kernel_rfl) k
end breaks_search_line
/-! reglet/measure.Total -/
namespace measure_Total
def f (k : Nat) (a0 : Int) (a1 : Int) : Option Int := (scaled_Add.f k a0 a1).bind fun r => some (if 1125899906842624 < r then 1125899906842624 else r)
def sig (k : Nat) : Sig := .p [(false, (.i .i64)), (false, (.i .i64))] [.c false (.i .i64)] fun x => f k x.1 x.2.1
def E (k : Nat) : List (Nat × Sig) := [(85, scaled_Add.sig k)]
noncomputable def d : FD := ⟨73, Try.f73, 9, 9, [], [], [], [], [.tmp 4], .n⟩
def O (k : Nat) : List (Orc (denR ([.c false (.i .i64)]))) := []
theorem ok (k : Nat) : EnvOk Try.prog (73, sig k) := fnP SS d E O sig (fun _ => rfl) Try.func73 (by kernel_rfl) rfl (fun k => ⟨scaled_Add.ok k, trivial⟩) trivial (by kernel_rfl) (fun _ => pn) (fun k x => by kernel_rfl) k
end measure_Total
/-! reglet/scaled.signed -/
namespace scaled_signed
mutual
def j0 : Nat → Bool → Int → Option Int
 | 0, _, _ => none
 | k + 1, neg, n => if neg = true then (some (wrap64 (-n))) else (some n)
end
def f (k : Nat) (a0 : Bool) (a1 : Int) (a2 : Int) : Option Int := if (decide (a1 = 0)) = true then (if (decide (a2 < 1152921504606846976)) = true then (j0 k a0 (wrap64 (a2))) else (j0 k a0 1152921504606846976)) else (j0 k a0 1152921504606846976)
def sig (k : Nat) : Sig := .p [(false, .b), (false, (.i .u64)), (false, (.i .u64))] [.c false (.i .i64)] fun x => f k x.1 x.2.1 x.2.2.1
def E (k : Nat) : List (Nat × Sig) := []
noncomputable def d : FD := ⟨106, Try.f106, 20, 20, [], [], [], [], [.tmp 6], .s .n (.s .n (.j 0 .n .n))⟩
abbrev s0 : Sh := [(0, .v .b), (7, .v (.i .i64))]
def O (k : Nat) : List (Orc (denR ([.c false (.i .i64)]))) := [⟨s0, fun y => j0 k y.1 y.2.1⟩]
theorem e0 (k : Nat) (y : denS s0) : j0 (k + 1) y.1 y.2.1 = SS.ev d E O k [1, 1, 1] s0 y := by rw [j0]; kernel_rfl
theorem ok (k : Nat) : EnvOk Try.prog (106, sig k) := fnP SS d E O sig (fun _ => rfl) Try.func106 (by kernel_rfl) rfl (fun k => trivial) ⟨fun _ => rfl, trivial⟩ (by kernel_rfl) (fun k => pc 0 rfl (e0 k) <| pn) (fun k x => by kernel_rfl) k
end scaled_signed
/-! reglet/scaled.Mul -/
namespace scaled_Mul
def f (k : Nat) (a0 : Int) (a1 : Int) : Option Int := (scaled_size.f k a0).bind fun r => (scaled_size.f k a1).bind fun r2 => (bits_Mul64.f k r r2).bind fun r3 => (scaled_signed.f k (!decide ((decide (a0 < 0)) = (decide (a1 < 0)))) r3.1 r3.2).bind fun r4 => some r4
def sig (k : Nat) : Sig := .p [(false, (.i .i64)), (false, (.i .i64))] [.c false (.i .i64)] fun x => f k x.1 x.2.1
def E (k : Nat) : List (Nat × Sig) := [(103, bits_Mul64.sig k), (105, scaled_size.sig k), (106, scaled_signed.sig k)]
noncomputable def d : FD := ⟨101, Try.f101, 23, 23, [], [], [], [], [.tmp 4], .n⟩
def O (k : Nat) : List (Orc (denR ([.c false (.i .i64)]))) := []
theorem ok (k : Nat) : EnvOk Try.prog (101, sig k) := fnP SS d E O sig (fun _ => rfl) Try.func101 (by kernel_rfl) rfl (fun k => ⟨bits_Mul64.ok k, scaled_size.ok k, scaled_signed.ok k, trivial⟩) trivial (by kernel_rfl) (fun _ => pn) (fun k x => by kernel_rfl) k
end scaled_Mul
/-! reglet/scaled.Neg -/
namespace scaled_Neg
def f (k : Nat) (a0 : Int) : Option Int := (scaled_Clamp.f k a0).bind fun r => some (wrap64 (-r))
def sig (k : Nat) : Sig := .p [(false, (.i .i64))] [.c false (.i .i64)] fun x => f k x.1
def E (k : Nat) : List (Nat × Sig) := [(94, scaled_Clamp.sig k)]
noncomputable def d : FD := ⟨107, Try.f107, 6, 6, [], [], [], [], [.tmp 2], .n⟩
def O (k : Nat) : List (Orc (denR ([.c false (.i .i64)]))) := []
theorem ok (k : Nat) : EnvOk Try.prog (107, sig k) := fnP SS d E O sig (fun _ => rfl) Try.func107 (by kernel_rfl) rfl (fun k => ⟨scaled_Clamp.ok k, trivial⟩) trivial (by kernel_rfl) (fun _ => pn) (fun k x => by kernel_rfl) k
end scaled_Neg
/-! reglet/scaled.Sub -/
namespace scaled_Sub
def f (k : Nat) (a0 : Int) (a1 : Int) : Option Int := (scaled_Neg.f k a1).bind fun r => (scaled_Add.f k a0 r).bind fun r2 => some r2
def sig (k : Nat) : Sig := .p [(false, (.i .i64)), (false, (.i .i64))] [.c false (.i .i64)] fun x => f k x.1 x.2.1
def E (k : Nat) : List (Nat × Sig) := [(85, scaled_Add.sig k), (107, scaled_Neg.sig k)]
noncomputable def d : FD := ⟨102, Try.f102, 9, 9, [], [], [], [], [.tmp 4], .n⟩
def O (k : Nat) : List (Orc (denR ([.c false (.i .i64)]))) := []
theorem ok (k : Nat) : EnvOk Try.prog (102, sig k) := fnP SS d E O sig (fun _ => rfl) Try.func102 (by kernel_rfl) rfl (fun k => ⟨scaled_Add.ok k, scaled_Neg.ok k, trivial⟩) trivial (by kernel_rfl) (fun _ => pn) (fun k x => by kernel_rfl) k
end scaled_Sub
/-! reglet/scaled.Demerits -/
namespace scaled_Demerits
mutual
def j0 : Nat → Int → Option Int
 | 0, _ => none
 | k + 1, d => some (if 0 < d then d else 0)
end
def f (k : Nat) (a0 : Int) (a1 : Int) (a2 : Int) : Option Int := (scaled_Add.f k a0 a1).bind fun r => (scaled_Mul.f k r r).bind fun r2 => if (decide (0 ≤ a2)) = true then ((scaled_Mul.f k a2 a2).bind fun r3 => (scaled_Add.f k r2 r3).bind fun r4 => j0 k r4) else (if (decide ((-10000) < a2)) = true then ((scaled_Mul.f k a2 a2).bind fun r5 => (scaled_Sub.f k r2 r5).bind fun r6 => j0 k r6) else (j0 k r2))
def sig (k : Nat) : Sig := .p [(false, (.i .i64)), (false, (.i .i64)), (false, (.i .i64))] [.c false (.i .i64)] fun x => f k x.1 x.2.1 x.2.2.1
def E (k : Nat) : List (Nat × Sig) := [(85, scaled_Add.sig k), (101, scaled_Mul.sig k), (102, scaled_Sub.sig k)]
noncomputable def d : FD := ⟨95, Try.f95, 33, 33, [], [], [], [], [.tmp 6], .s .n (.s .n (.s .n (.j 0 .n .n)))⟩
abbrev s0 : Sh := [(8, .v (.i .i64))]
def O (k : Nat) : List (Orc (denR ([.c false (.i .i64)]))) := [⟨s0, fun y => j0 k y.1⟩]
theorem e0 (k : Nat) (y : denS s0) : j0 (k + 1) y.1 = SS.ev d E O k [1, 1, 1, 1] s0 y := by rw [j0]; kernel_rfl
theorem ok (k : Nat) : EnvOk Try.prog (95, sig k) := fnP SS d E O sig (fun _ => rfl) Try.func95 (by kernel_rfl) rfl (fun k => ⟨scaled_Add.ok k, scaled_Mul.ok k, scaled_Sub.ok k, trivial⟩) ⟨fun _ => rfl, trivial⟩ (by kernel_rfl) (fun k => pc 0 rfl (e0 k) <| pn) (fun k x => by kernel_rfl) k
end scaled_Demerits
/-! reglet/measure.apart -/
namespace measure_apart
def f (k : Nat) (a0 : Int) (a1 : Int) : Option Bool := if (decide (1 < (wrap64 (a0 - a1)))) = true then (some true) else (some (decide (1 < (wrap64 (a1 - a0)))))
def sig (k : Nat) : Sig := .p [(false, (.i .i64)), (false, (.i .i64))] [.c false .b] fun x => f k x.1 x.2.1
def E (k : Nat) : List (Nat × Sig) := []
noncomputable def d : FD := ⟨96, Try.f96, 15, 15, [], [], [], [], [.tmp 4], .n⟩
def O (k : Nat) : List (Orc (denR ([.c false .b]))) := []
theorem ok (k : Nat) : EnvOk Try.prog (96, sig k) := fnP SS d E O sig (fun _ => rfl) Try.func96 (by kernel_rfl) rfl (fun k => trivial) trivial (by kernel_rfl) (fun _ => pn) (fun k x => by kernel_rfl) k
end measure_apart
/-! reglet/measure.Cost -/
namespace measure_Cost
mutual
def j0 : Nat → Bool → Int → api_Settings → api_Item → measure_Ahead → Option Int
 | 0, _, _, _, _, _ => none
 | k + 1, last, d, s, end_, ahead => if ahead.2 = true then (if end_.2.2.2.2.2.2.1 = true then ((scaled_Add.f k d s.2.2.2.1).bind fun r4 => j1 k last r4 s ahead) else (j1 k last d s ahead)) else (j1 k last d s ahead)
def j1 : Nat → Bool → Int → api_Settings → measure_Ahead → Option Int
 | 0, _, _, _, _ => none
 | k + 1, last2, d2, s2, ahead2 => if ahead2.2 = true then (if last2 = true then ((scaled_Add.f k d2 s2.2.2.2.2.1).bind fun r5 => j2 k r5) else (j2 k d2)) else (j2 k d2)
def j2 : Nat → Int → Option Int
 | 0, _ => none
 | k + 1, d3 => some (if 1125899906842624 < d3 then 1125899906842624 else d3)
end
def f (k : Nat) (a0 : api_Settings) (a1 : api_Fit) (a2 : api_Item) (a3 : measure_Ahead) (a4 : Bool) : Option Int := if a1.2.2.2.2 = true then (some 1125899906842624) else ((scaled_Demerits.f k a0.2.1 a1.2.2.1 a2.2.2.2.2.2.1).bind fun r => if (decide (0 ≤ a3.1)) = true then ((measure_apart.f k a1.2.2.2.1 a3.1).bind fun r2 => if r2 = true then ((scaled_Add.f k r a0.2.2.1).bind fun r3 => j0 k a4 r3 a0 a2 a3) else (j0 k a4 r a0 a2 a3)) else (j0 k a4 r a0 a2 a3))
def sig (k : Nat) : Sig := .p [(true, y48), (true, y93), (true, y29), (true, y41), (false, .b)] [.c false (.i .i64)] fun x => f k x.1 x.2.1 x.2.2.1 x.2.2.2.1 x.2.2.2.2.1
def E (k : Nat) : List (Nat × Sig) := [(85, scaled_Add.sig k), (95, scaled_Demerits.sig k), (96, measure_apart.sig k)]
noncomputable def d : FD := ⟨91, Try.f91, 56, 79, [(5, 56, 7), (6, 63, 5), (7, 68, 9), (8, 77, 2)], [], [], [], [.tmp 10], .s .n (.s .n (.s .n (.j 0 .n (.j 1 .n (.j 2 .n .n)))))⟩
abbrev s0 : Sh := [(4, .v .b), (5, .at_ 56), (7, .at_ 68), (8, .at_ 77), (11, .v (.i .i64)), (56, .box y48), (68, .box y29), (77, .box y41)]
abbrev s1 : Sh := [(4, .v .b), (5, .at_ 56), (8, .at_ 77), (11, .v (.i .i64)), (56, .box y48), (77, .box y41)]
abbrev s2 : Sh := [(11, .v (.i .i64))]
def O (k : Nat) : List (Orc (denR ([.c false (.i .i64)]))) := [⟨s0, fun y => j0 k y.1 y.2.2.2.2.1 y.2.2.2.2.2.1 y.2.2.2.2.2.2.1 y.2.2.2.2.2.2.2.1⟩, ⟨s1, fun y => j1 k y.1 y.2.2.2.1 y.2.2.2.2.1 y.2.2.2.2.2.1⟩, ⟨s2, fun y => j2 k y.1⟩]
theorem e2 (k : Nat) (y : denS s2) : j2 (k + 1) y.1 = SS.ev d E O k [1, 1, 1, 1, 1, 1] s2 y := by rw [j2]; kernel_rfl
theorem e1 (k : Nat) (y : denS s1) : j1 (k + 1) y.1 y.2.2.2.1 y.2.2.2.2.1 y.2.2.2.2.2.1 = SS.ev d E O k [1, 1, 1, 1, 1] s1 y := by rw [j1]; kernel_rfl
theorem e0 (k : Nat) (y : denS s0) : j0 (k + 1) y.1 y.2.2.2.2.1 y.2.2.2.2.2.1 y.2.2.2.2.2.2.1 y.2.2.2.2.2.2.2.1 = SS.ev d E O k [1, 1, 1, 1] s0 y := by rw [j0]; kernel_rfl
theorem ok (k : Nat) : EnvOk Try.prog (91, sig k) := fnP SS d E O sig (fun _ => rfl) Try.func91 (by kernel_rfl) rfl (fun k => ⟨scaled_Add.ok k, scaled_Demerits.ok k, measure_apart.ok k, trivial⟩) ⟨fun _ => rfl, fun _ => rfl, fun _ => rfl, trivial⟩ (by kernel_rfl) (fun k => pc 2 rfl (e2 k) <| pc 1 rfl (e1 k) <| pc 0 rfl (e0 k) <| pn) (fun k x => by kernel_rfl) k
end measure_Cost
/-! (*reglet/breaks.search).cost -/
namespace breaks_search_cost
mutual
def j0 : Nat → A13 → Int → api_Fit → measure_Ahead → Option Int
 | 0, _, _, _, _ => none
 | k + 1, s, j, f, ahead => (measure_Para_End.f k s.1 j).bind fun r3 => (measure_Para_Item.f k s.1 r3).bind fun r4 => (measure_Para_Ends.f k s.1).bind fun r5 => (measure_Cost.f k (s.2.2.1, s.2.2.2.1, s.2.2.2.2.1, s.2.2.2.2.2.1, s.2.2.2.2.2.2.1, s.2.2.2.2.2.2.2.1, s.2.2.2.2.2.2.2.2.1) f r4 ahead (decide (j = (wrap64 (r5 - 1))))).bind fun r6 => some r6
end
def f (k : Nat) (a0 : A13) (a1 : Int) (a2 : Int) (a3 : api_Fit) (a4 : Int) : Option Int := if (decide (0 ≤ a1)) = true then ((measure_Para_End.f k a0.1 a1).bind fun r => (measure_Para_Item.f k a0.1 r).bind fun r2 => j0 k a0 a2 a3 (a4, r2.2.2.2.2.2.2.1)) else (j0 k a0 a2 a3 ((-1), (false)))
def sig (k : Nat) : Sig := .p [(false, y106), (false, (.i .i64)), (false, (.i .i64)), (true, y93), (false, (.i .i64))] [.c false (.i .i64)] fun x => f k x.1 x.2.1 x.2.2.1 x.2.2.2.1 x.2.2.2.2.1
def E (k : Nat) : List (Nat × Sig) := [(49, measure_Para_Item.sig k), (69, measure_Para_Ends.sig k), (70, measure_Para_End.sig k), (91, measure_Cost.sig k)]
noncomputable def d : FD := ⟨74, Try.f74, 56, 63, [(8, 56, 5), (11, 61, 2)], [], [], [], [.tmp 10], .s .n (.s .n (.j 0 .n .n))⟩
abbrev s0 : Sh := [(0, .v y106), (2, .v (.i .i64)), (8, .at_ 56), (11, .at_ 61), (56, .box y93), (61, .box y41)]
def O (k : Nat) : List (Orc (denR ([.c false (.i .i64)]))) := [⟨s0, fun y => j0 k y.1 y.2.1 y.2.2.2.2.1 y.2.2.2.2.2.1⟩]
theorem e0 (k : Nat) (y : denS s0) : j0 (k + 1) y.1 y.2.1 y.2.2.2.2.1 y.2.2.2.2.2.1 = SS.ev d E O k [1, 1, 1] s0 y := by rw [j0]; kernel_rfl
theorem ok (k : Nat) : EnvOk Try.prog (74, sig k) := fnP SS d E O sig (fun _ => rfl) Try.func74 (by kernel_rfl) rfl (fun k => ⟨measure_Para_Item.ok k, measure_Para_Ends.ok k, measure_Para_End.ok k, measure_Cost.ok k, trivial⟩) ⟨fun _ => rfl, trivial⟩ (by kernel_rfl) (fun k => pc 0 rfl (e0 k) <| pn) (fun k x => by kernel_rfl) k
end breaks_search_cost
/-! (*reglet/measure.Para).Bounds -/
namespace measure_Para_Bounds
mutual
def j0 : Nat → A11 → measure_Sum → Option A14
 | 0, _, _ => none
 | k + 1, p, s => some (wrap64 (s.1 - s.2.2.1), wrap64 ((wrap64 (s.1 + (wrap64 (5 * s.2.1)))) + p.2.2.2.2.2.2.1), decide (0 < s.2.2.2))
end
def f (k : Nat) (a0 : A11) (a1 : Int) (a2 : Int) : Option A14 := (measure_Para_Line.f k a0 a1 a2).bind fun r => (measure_Para_Item.f k a0 a2).bind fun r2 => if (decide (r2.1 = 3)) = true then (j0 k a0 (wrap64 (r.1 - r2.2.1), r.2.1, r.2.2.1, r.2.2.2)) else (j0 k a0 r)
def sig (k : Nat) : Sig := .p [(false, y65), (false, (.i .i64)), (false, (.i .i64))] [.c false (.i .i64), .c false (.i .i64), .c false .b] fun x => f k x.1 x.2.1 x.2.2.1
def E (k : Nat) : List (Nat × Sig) := [(49, measure_Para_Item.sig k), (77, measure_Para_Line.sig k)]
noncomputable def d : FD := ⟨89, Try.f89, 46, 59, [(9, 46, 4), (10, 50, 9)], [], [], [], [.tmp 6, .tmp 7, .tmp 8], .s .n (.s .n (.j 0 .n .n))⟩
abbrev s0 : Sh := [(0, .v y65), (9, .at_ 46), (46, .box y45)]
def O (k : Nat) : List (Orc (denR ([.c false (.i .i64), .c false (.i .i64), .c false .b]))) := [⟨s0, fun y => j0 k y.1 y.2.2.1⟩]
theorem e0 (k : Nat) (y : denS s0) : j0 (k + 1) y.1 y.2.2.1 = SS.ev d E O k [1, 1, 1] s0 y := by rw [j0]; kernel_rfl
theorem ok (k : Nat) : EnvOk Try.prog (89, sig k) := fnP SS d E O sig (fun _ => rfl) Try.func89 (by kernel_rfl) rfl (fun k => ⟨measure_Para_Item.ok k, measure_Para_Line.ok k, trivial⟩) ⟨fun _ => rfl, trivial⟩ (by kernel_rfl) (fun k => pc 0 rfl (e0 k) <| pn) (fun k x => by kernel_rfl) k
end measure_Para_Bounds
/-! (*reglet/breaks.search).first -/
namespace breaks_search_first
mutual
def j0 : Nat → A13 → Int → Int → Option Int
 | 0, _, _, _ => none
 | k + 1, t, t2, t3 => (measure_Para_End.f k t.1 t2).bind fun r => l1 k t (wrap64 (t2 + 1)) t3 r
def l1 : Nat → A13 → Int → Int → Int → Option Int
 | 0, _, _, _, _ => none
 | k + 1, t4, t5, t6, t7 => if (decide (t5 < t6)) = true then ((measure_Para_End.f k t4.1 (wrap64 ((wrap64 (t5 + t6)).tdiv 2))).bind fun r2 => (measure_Para_Bounds.f k t4.1 t7 r2).bind fun r3 => if (decide (r3.2.1 < t4.2.1)) = true then (if (!r3.2.2) = true then (l1 k t4 (wrap64 ((wrap64 ((wrap64 (t5 + t6)).tdiv 2)) + 1)) t6 t7) else (l1 k t4 t5 (wrap64 ((wrap64 (t5 + t6)).tdiv 2)) t7)) else (l1 k t4 t5 (wrap64 ((wrap64 (t5 + t6)).tdiv 2)) t7)) else (some t5)
end
def f (k : Nat) (a0 : A13) (a1 : Int) (a2 : Int) : Option Int := if a0.2.2.2.2.2.2.2.2.2.1 = true then (some (wrap64 (a1 + 1))) else (if (decide (10000 ≤ a0.2.2.1)) = true then (some (wrap64 (a1 + 1))) else (j0 k a0 a1 a2))
def sig (k : Nat) : Sig := .p [(false, y106), (false, (.i .i64)), (false, (.i .i64))] [.c false (.i .i64)] fun x => f k x.1 x.2.1 x.2.2.1
def E (k : Nat) : List (Nat × Sig) := [(70, measure_Para_End.sig k), (89, measure_Para_Bounds.sig k)]
noncomputable def d : FD := ⟨88, Try.f88, 74, 74, [], [], [], [], [.tmp 6], .s .n (.j 0 .n (.s .n (.s .n (.s (.s (.l 1 .n) .n) .n))))⟩
abbrev s0 : Sh := [(0, .v y106), (1, .v (.i .i64)), (2, .v (.i .i64))]
abbrev s1 : Sh := [(0, .v y106), (7, .v (.i .i64)), (8, .v (.i .i64)), (9, .v (.i .i64))]
def O (k : Nat) : List (Orc (denR ([.c false (.i .i64)]))) := [⟨s0, fun y => j0 k y.1 y.2.1 y.2.2.1⟩, ⟨s1, fun y => l1 k y.1 y.2.1 y.2.2.1 y.2.2.2.1⟩]
theorem e1 (k : Nat) (y : denS s1) : l1 (k + 1) y.1 y.2.1 y.2.2.1 y.2.2.2.1 = SS.ev d E O k [1, 1, 1, 1, 0, 0, 0] s1 y := by rw [l1]; kernel_rfl
theorem e0 (k : Nat) (y : denS s0) : j0 (k + 1) y.1 y.2.1 y.2.2.1 = SS.ev d E O k [1, 1] s0 y := by rw [j0]; kernel_rfl
theorem ok (k : Nat) : EnvOk Try.prog (88, sig k) := fnP SS d E O sig (fun _ => rfl) Try.func88 (by kernel_rfl) rfl (fun k => ⟨measure_Para_End.ok k, measure_Para_Bounds.ok k, trivial⟩) ⟨fun _ => rfl, fun _ => rfl, trivial⟩ (by kernel_rfl) (fun k => pc 1 rfl (e1 k) <| pc 0 rfl (e0 k) <| pn) (fun k x => by kernel_rfl) k
end breaks_search_first
/-! (*reglet/breaks.search).best -/
namespace breaks_search_best
mutual
def l0 : Nat → A13 → Int → Int → Int → measure_Sum → measure_Sum → Option measure_Sum
 | 0, _, _, _, _, _, _ => none
 | k + 1, t, t2, t3, t4, t5, t6 => if (decide (t4 ≤ t3)) = true then ((breaks_search_line.f k t t2 t4).bind fun r2 => (measure_Para_End.f k t.1 t2).bind fun r3 => (measure_Para_End.f k t.1 t4).bind fun r4 => (measure_Para_Bounds.f k t.1 r3 r4).bind fun r5 => if (decide (t.2.1 < r5.1)) = true then (if (decide ((wrap64 (t2 + 1)) < t4)) = true then (some t6) else (j1 k t t2 t3 t4 r2.2 t5 t6 r2.1)) else (j1 k t t2 t3 t4 r2.2 t5 t6 r2.1)) else (some t6)
def j1 : Nat → A13 → Int → Int → Int → Bool → measure_Sum → measure_Sum → api_Fit → Option measure_Sum
 | 0, _, _, _, _, _, _, _, _ => none
 | k + 1, t7, t8, t9, t10, t11, t12, t13, t14 => if (!t11) = true then (j2 k t7 t8 t9 t10 t12 t13) else ((measure_Para_Ends.f k t7.1).bind fun r6 => if (decide (t10 < (wrap64 (r6 - 1)))) = true then ((at? t7.2.2.2.2.2.2.2.2.2.2.1 t10).bind fun e2 => (at? ([e2.1, e2.2.1, e2.2.2.1, e2.2.2.2] : List Int) t14.2.2.2.1).bind fun e3 => j3 k t7 t8 t9 t10 e3 t12 t13 t14) else (j3 k t7 t8 t9 t10 0 t12 t13 t14))
def j2 : Nat → A13 → Int → Int → Int → measure_Sum → measure_Sum → Option measure_Sum
 | 0, _, _, _, _, _, _ => none
 | k + 1, t15, t16, t17, t18, t19, t20 => l0 k t15 t16 t17 (wrap64 (t18 + 1)) t19 t20
def j3 : Nat → A13 → Int → Int → Int → Int → measure_Sum → measure_Sum → api_Fit → Option measure_Sum
 | 0, _, _, _, _, _, _, _, _ => none
 | k + 1, t21, t22, t23, t24, t25, t26, t27, t28 => if (decide (t25 = 1125899906842625)) = true then (j2 k t21 t22 t23 t24 t26 t27) else (l4 k t21 t22 t23 t24 t25 0 t26 t27 t28)
def l4 : Nat → A13 → Int → Int → Int → Int → Int → measure_Sum → measure_Sum → api_Fit → Option measure_Sum
 | 0, _, _, _, _, _, _, _, _, _ => none
 | k + 1, t29, t30, t31, t32, t33, t34, t35, t36, t37 => if (decide (t34 < 4)) = true then (if 0 ≤ t34 ∧ t34 < (4 : Int) then ((([t36.1, t36.2.1, t36.2.2.1, t36.2.2.2] : List Int)[t34.toNat]?).bind fun e4 => (breaks_search_cost.f k t29 t30 t32 t37 t34).bind fun r7 => (measure_Total.f k r7 t33).bind fun r8 => if 0 ≤ t34 ∧ t34 < (4 : Int) then (if t34.toNat < 4 then (l4 k t29 t30 t31 t32 t33 (wrap64 (t34 + 1)) t35 ((if t34.toNat = 0 then (if r8 < e4 then r8 else e4) else t36.1), (if t34.toNat = 1 then (if r8 < e4 then r8 else e4) else t36.2.1), (if t34.toNat = 2 then (if r8 < e4 then r8 else e4) else t36.2.2.1), (if t34.toNat = 3 then (if r8 < e4 then r8 else e4) else t36.2.2.2)) t37) else none) else none) else none) else (j2 k t29 t30 t31 t32 t35 t36)
end
def f (k : Nat) (a0 : A13) (a1 : Int) : Option measure_Sum := (at? a0.2.2.2.2.2.2.2.2.2.2.2 (wrap64 (a1 + 1))).bind fun e => (breaks_search_first.f k a0 a1 e).bind fun r => l0 k a0 a1 e r (0, 0, 0, 0) (1125899906842625, 1125899906842625, 1125899906842625, 1125899906842625)
def sig (k : Nat) : Sig := .p [(false, y106), (false, (.i .i64))] [.c true y45] fun x => f k x.1 x.2.1
def E (k : Nat) : List (Nat × Sig) := [(69, measure_Para_Ends.sig k), (70, measure_Para_End.sig k), (72, breaks_search_line.sig k), (73, measure_Total.sig k), (74, breaks_search_cost.sig k), (88, breaks_search_first.sig k), (89, measure_Para_Bounds.sig k)]
noncomputable def d : FD := ⟨71, Try.f71, 114, 127, [(4, 114, 4), (5, 118, 4), (8, 122, 5)], [], [], [], [.cell 4 134], .s .n (.s (.s .n (.s .n (.s .n (.s (.s .n (.s (.l 0 (.s .n (.j 2 (.s (.s .n (.j 1 .n (.s .n (.s .n (.j 3 .n (.s .n (.s .n (.s (.l 4 .n) .n)))))))) .n) .n))) .n)) .n)))) .n)⟩
abbrev s0 : Sh := [(0, .v y106), (1, .v (.i .i64)), (4, .at_ 114), (5, .at_ 118), (6, .v (.i .i64)), (7, .v (.i .i64)), (114, .box y45), (118, .box y45)]
abbrev s1 : Sh := [(0, .v y106), (1, .v (.i .i64)), (4, .at_ 114), (5, .at_ 118), (6, .v (.i .i64)), (7, .v (.i .i64)), (8, .at_ 122), (9, .v .b), (114, .box y45), (118, .box y45), (122, .box y93)]
abbrev s2 : Sh := [(0, .v y106), (1, .v (.i .i64)), (4, .at_ 114), (5, .at_ 118), (6, .v (.i .i64)), (7, .v (.i .i64)), (114, .box y45), (118, .box y45)]
abbrev s3 : Sh := [(0, .v y106), (1, .v (.i .i64)), (4, .at_ 114), (5, .at_ 118), (6, .v (.i .i64)), (7, .v (.i .i64)), (8, .at_ 122), (13, .v (.i .i64)), (114, .box y45), (118, .box y45), (122, .box y93)]
abbrev s4 : Sh := [(0, .v y106), (1, .v (.i .i64)), (4, .at_ 114), (5, .at_ 118), (6, .v (.i .i64)), (7, .v (.i .i64)), (8, .at_ 122), (13, .v (.i .i64)), (95, .v (.i .i64)), (114, .box y45), (118, .box y45), (122, .box y93)]
def O (k : Nat) : List (Orc (denR ([.c true y45]))) := [⟨s0, fun y => l0 k y.1 y.2.1 y.2.2.2.2.1 y.2.2.2.2.2.1 y.2.2.2.2.2.2.1 y.2.2.2.2.2.2.2.1⟩, ⟨s1, fun y => j1 k y.1 y.2.1 y.2.2.2.2.1 y.2.2.2.2.2.1 y.2.2.2.2.2.2.2.1 y.2.2.2.2.2.2.2.2.1 y.2.2.2.2.2.2.2.2.2.1 y.2.2.2.2.2.2.2.2.2.2.1⟩, ⟨s2, fun y => j2 k y.1 y.2.1 y.2.2.2.2.1 y.2.2.2.2.2.1 y.2.2.2.2.2.2.1 y.2.2.2.2.2.2.2.1⟩, ⟨s3, fun y => j3 k y.1 y.2.1 y.2.2.2.2.1 y.2.2.2.2.2.1 y.2.2.2.2.2.2.2.1 y.2.2.2.2.2.2.2.2.1 y.2.2.2.2.2.2.2.2.2.1 y.2.2.2.2.2.2.2.2.2.2.1⟩, ⟨s4, fun y => l4 k y.1 y.2.1 y.2.2.2.2.1 y.2.2.2.2.2.1 y.2.2.2.2.2.2.2.1 y.2.2.2.2.2.2.2.2.1 y.2.2.2.2.2.2.2.2.2.1 y.2.2.2.2.2.2.2.2.2.2.1 y.2.2.2.2.2.2.2.2.2.2.2.1⟩]
theorem e4 (k : Nat) (y : denS s4) : l4 (k + 1) y.1 y.2.1 y.2.2.2.2.1 y.2.2.2.2.2.1 y.2.2.2.2.2.2.2.1 y.2.2.2.2.2.2.2.2.1 y.2.2.2.2.2.2.2.2.2.1 y.2.2.2.2.2.2.2.2.2.2.1 y.2.2.2.2.2.2.2.2.2.2.2.1 = SS.ev d E O k [1, 0, 1, 1, 1, 0, 1, 0, 0, 1, 0, 0, 1, 1, 1, 1, 1, 1, 1, 0, 0] s4 y := by rw [l4]; kernel_rfl
theorem e3 (k : Nat) (y : denS s3) : j3 (k + 1) y.1 y.2.1 y.2.2.2.2.1 y.2.2.2.2.2.1 y.2.2.2.2.2.2.2.1 y.2.2.2.2.2.2.2.2.1 y.2.2.2.2.2.2.2.2.2.1 y.2.2.2.2.2.2.2.2.2.2.1 = SS.ev d E O k [1, 0, 1, 1, 1, 0, 1, 0, 0, 1, 0, 0, 1, 1, 1, 1, 1] s3 y := by rw [j3]; kernel_rfl
theorem e1 (k : Nat) (y : denS s1) : j1 (k + 1) y.1 y.2.1 y.2.2.2.2.1 y.2.2.2.2.2.1 y.2.2.2.2.2.2.2.1 y.2.2.2.2.2.2.2.2.1 y.2.2.2.2.2.2.2.2.2.1 y.2.2.2.2.2.2.2.2.2.2.1 = SS.ev d E O k [1, 0, 1, 1, 1, 0, 1, 0, 0, 1, 0, 0, 1, 1] s1 y := by rw [j1]; kernel_rfl
theorem e2 (k : Nat) (y : denS s2) : j2 (k + 1) y.1 y.2.1 y.2.2.2.2.1 y.2.2.2.2.2.1 y.2.2.2.2.2.2.1 y.2.2.2.2.2.2.2.1 = SS.ev d E O k [1, 0, 1, 1, 1, 0, 1, 0, 0, 1, 1] s2 y := by rw [j2]; kernel_rfl
theorem e0 (k : Nat) (y : denS s0) : l0 (k + 1) y.1 y.2.1 y.2.2.2.2.1 y.2.2.2.2.2.1 y.2.2.2.2.2.2.1 y.2.2.2.2.2.2.2.1 = SS.ev d E O k [1, 0, 1, 1, 1, 0, 1, 0, 0] s0 y := by rw [l0]; kernel_rfl
theorem ok (k : Nat) : EnvOk Try.prog (71, sig k) := fnP SS d E O sig (fun _ => rfl) Try.func71 (by kernel_rfl) rfl (fun k => ⟨measure_Para_Ends.ok k, measure_Para_End.ok k, breaks_search_line.ok k, measure_Total.ok k, breaks_search_cost.ok k, breaks_search_first.ok k, measure_Para_Bounds.ok k, trivial⟩) ⟨fun _ => rfl, fun _ => rfl, fun _ => rfl, fun _ => rfl, fun _ => rfl, trivial⟩ (by kernel_rfl) (fun k => pc 4 rfl (e4 k) <| pc 3 rfl (e3 k) <| pc 1 rfl (e1 k) <| pc 2 rfl (e2 k) <| pc 0 rfl (e0 k) <| pn) (fun k x => by kernel_rfl) k
end breaks_search_best
/-! (*reglet/breaks.search).weigh -/
namespace breaks_search_weigh
mutual
def l0 : Nat → Int → A13 → Option A15
 | 0, _, _ => none
 | k + 1, k_, s => if (decide (0 ≤ k_)) = true then ((breaks_search_best.f k s k_).bind fun r2 => if 0 ≤ k_ ∧ k_ < (s.2.2.2.2.2.2.2.2.2.2.1.length : Int) then ((s.2.2.2.2.2.2.2.2.2.2.1[k_.toNat]?).bind fun e => l0 k (wrap64 (k_ - 1)) (s.1, s.2.1, s.2.2.1, s.2.2.2.1, s.2.2.2.2.1, s.2.2.2.2.2.1, s.2.2.2.2.2.2.1, s.2.2.2.2.2.2.2.1, s.2.2.2.2.2.2.2.2.1, s.2.2.2.2.2.2.2.2.2.1, s.2.2.2.2.2.2.2.2.2.2.1.set k_.toNat r2, s.2.2.2.2.2.2.2.2.2.2.2)) else none) else ((breaks_search_best.f k s (-1)).bind fun r3 => some (r3.1, s))
end
def f (k : Nat) (a0 : A13) : Option A15 := (measure_Para_Ends.f k a0.1).bind fun r => if r = r ∧ 0 ≤ r ∧ (32 : Int) * r ≤ 281474976710656 then (l0 k (wrap64 (r - 2)) (a0.1, a0.2.1, a0.2.2.1, a0.2.2.2.1, a0.2.2.2.2.1, a0.2.2.2.2.2.1, a0.2.2.2.2.2.2.1, a0.2.2.2.2.2.2.2.1, a0.2.2.2.2.2.2.2.2.1, a0.2.2.2.2.2.2.2.2.2.1, (List.replicate r.toNat (0, 0, 0, 0) : List measure_Sum), a0.2.2.2.2.2.2.2.2.2.2.2)) else none
def sig (k : Nat) : Sig := .l y87 [] [.c false (.i .i64)] fun b x => f k b
def E (k : Nat) : List (Nat × Sig) := [(69, measure_Para_Ends.sig k), (71, breaks_search_best.sig k)]
noncomputable def d : FD := ⟨45, Try.f45, 33, 45, [(0, 33, 12)], [0], [], [], [.tmp 2], .s .n (.s .n (.s .n (.s (.s .n (.s (.l 0 .n) .n)) .n)))⟩
abbrev s0 : Sh := [(0, .at_ 33), (4, .v (.i .i64)), (33, .box y87)]
def O (k : Nat) : List (Orc (denR ([.c false (.i .i64)] ++ [.c true y87]))) := [⟨s0, fun y => l0 k y.2.1 y.2.2.1⟩]
theorem e0 (k : Nat) (y : denS s0) : l0 (k + 1) y.2.1 y.2.2.1 = SS.evL d E y87 O k [1, 1, 1, 0, 1, 0, 0] s0 y := by rw [l0]; kernel_rfl
theorem ok (k : Nat) : EnvOk Try.prog (45, sig k) := fnL SS d E O sig (fun _ => rfl) Try.func45 (by kernel_rfl) rfl (fun k => ⟨measure_Para_Ends.ok k, breaks_search_best.ok k, trivial⟩) ⟨fun _ => rfl, trivial⟩ (by kernel_rfl) (fun k => pc 0 rfl (e0 k) <| pn) (fun k b x => by kernel_rfl) k
end breaks_search_weigh
/-! (*reglet/breaks.search).choose -/
namespace breaks_search_choose
mutual
def j0 : Nat → A13 → Int → (List Int) → Int → Int → Int → Int → Option (List Int)
 | 0, _, _, _, _, _, _, _ => none
 | k + 1, t, t2, t3, t4, t5, t6, t7 => if (decide (t4 = (wrap64 (t7 - 1)))) = true then (some t3) else ((at? t.2.2.2.2.2.2.2.2.2.2.2 (wrap64 (t4 + 1))).bind fun e => l1 k t t2 t3 t4 t5 t6 t7 e (wrap64 (t4 + 1)))
def l1 : Nat → A13 → Int → (List Int) → Int → Int → Int → Int → Int → Int → Option (List Int)
 | 0, _, _, _, _, _, _, _, _, _ => none
 | k + 1, t8, t9, t10, t11, t12, t13, t14, t15, t16 => if (decide (t16 ≤ t15)) = true then ((breaks_search_line.f k t8 t11 t16).bind fun r2 => if (!r2.2) = true then (j2 k t8 t9 t10 t11 t12 t13 t14 t15 t16) else (if (decide (t16 < (wrap64 (t14 - 1)))) = true then ((at? t8.2.2.2.2.2.2.2.2.2.2.1 t16).bind fun e2 => (at? ([e2.1, e2.2.1, e2.2.2.1, e2.2.2.2] : List Int) r2.1.2.2.2.1).bind fun e3 => j3 k t8 t9 t10 t11 t12 t13 t14 t15 t16 e3 r2.1) else (j3 k t8 t9 t10 t11 t12 t13 t14 t15 t16 0 r2.1))) else (some t10)
def j2 : Nat → A13 → Int → (List Int) → Int → Int → Int → Int → Int → Int → Option (List Int)
 | 0, _, _, _, _, _, _, _, _, _ => none
 | k + 1, t17, t18, t19, t20, t21, t22, t23, t24, t25 => l1 k t17 t18 t19 t20 t21 t22 t23 t24 (wrap64 (t25 + 1))
def j3 : Nat → A13 → Int → (List Int) → Int → Int → Int → Int → Int → Int → Int → api_Fit → Option (List Int)
 | 0, _, _, _, _, _, _, _, _, _, _, _ => none
 | k + 1, t26, t27, t28, t29, t30, t31, t32, t33, t34, t35, t36 => (breaks_search_cost.f k t26 t29 t34 t36 t30).bind fun r3 => (measure_Total.f k t31 r3).bind fun r4 => if (decide (t35 = 1125899906842625)) = true then (j2 k t26 t27 t28 t29 t30 t31 t32 t33 t34) else ((measure_Total.f k r4 t35).bind fun r5 => if (!decide (r5 = t27)) = true then (j2 k t26 t27 t28 t29 t30 t31 t32 t33 t34) else (j4 k t26 t27 t28 t32 t34 r4 t36))
def j4 : Nat → A13 → Int → (List Int) → Int → Int → Int → api_Fit → Option (List Int)
 | 0, _, _, _, _, _, _, _ => none
 | k + 1, t37, t38, t39, t40, t41, t42, t43 => (measure_Para_End.f k t37.1 t41).bind fun r6 => if (t39.length + ([r6] : List Int).length) * 8 ≤ 140737488355328 then (j0 k t37 t38 (t39 ++ ([r6] : List Int)) t41 t43.2.2.2.1 t42 t40) else none
end
def f (k : Nat) (a0 : A13) (a1 : Int) : Option (List Int) := (measure_Para_Ends.f k a0.1).bind fun r => j0 k a0 a1 ([] : List Int) (-1) 0 0 r
def sig (k : Nat) : Sig := .p [(false, y106), (false, (.i .i64))] [.c false y10] fun x => f k x.1 x.2.1
def E (k : Nat) : List (Nat × Sig) := [(69, measure_Para_Ends.sig k), (70, measure_Para_End.sig k), (72, breaks_search_line.sig k), (73, measure_Total.sig k), (74, breaks_search_cost.sig k)]
noncomputable def d : FD := ⟨46, Try.f46, 95, 100, [(12, 95, 5)], [], [], [], [.tmp 4], .s .n (.g 0 0 (.s .n (.s .n (.s .n (.j 0 .n (.s .n (.s .n (.s (.s .n (.s (.l 1 (.s .n (.j 2 (.s (.s .n (.s .n (.s .n (.j 3 .n (.s .n (.j 4 .n .n)))))) .n) .n))) .n)) .n))))))))⟩
abbrev s0 : Sh := [(0, .v y106), (1, .v (.i .i64)), (5, .v y10), (6, .v (.i .i64)), (7, .v (.i .i64)), (8, .v (.i .i64)), (9, .v (.i .i64))]
abbrev s1 : Sh := [(0, .v y106), (1, .v (.i .i64)), (5, .v y10), (6, .v (.i .i64)), (7, .v (.i .i64)), (8, .v (.i .i64)), (9, .v (.i .i64)), (10, .v (.i .i64)), (11, .v (.i .i64))]
abbrev s2 : Sh := [(0, .v y106), (1, .v (.i .i64)), (5, .v y10), (6, .v (.i .i64)), (7, .v (.i .i64)), (8, .v (.i .i64)), (9, .v (.i .i64)), (10, .v (.i .i64)), (11, .v (.i .i64))]
abbrev s3 : Sh := [(0, .v y106), (1, .v (.i .i64)), (5, .v y10), (6, .v (.i .i64)), (7, .v (.i .i64)), (8, .v (.i .i64)), (9, .v (.i .i64)), (10, .v (.i .i64)), (11, .v (.i .i64)), (12, .at_ 95), (14, .v (.i .i64)), (95, .box y93)]
abbrev s4 : Sh := [(0, .v y106), (1, .v (.i .i64)), (5, .v y10), (9, .v (.i .i64)), (11, .v (.i .i64)), (12, .at_ 95), (15, .v (.i .i64)), (95, .box y93)]
def O (k : Nat) : List (Orc (denR ([.c false y10]))) := [⟨s0, fun y => j0 k y.1 y.2.1 y.2.2.1 y.2.2.2.1 y.2.2.2.2.1 y.2.2.2.2.2.1 y.2.2.2.2.2.2.1⟩, ⟨s1, fun y => l1 k y.1 y.2.1 y.2.2.1 y.2.2.2.1 y.2.2.2.2.1 y.2.2.2.2.2.1 y.2.2.2.2.2.2.1 y.2.2.2.2.2.2.2.1 y.2.2.2.2.2.2.2.2.1⟩, ⟨s2, fun y => j2 k y.1 y.2.1 y.2.2.1 y.2.2.2.1 y.2.2.2.2.1 y.2.2.2.2.2.1 y.2.2.2.2.2.2.1 y.2.2.2.2.2.2.2.1 y.2.2.2.2.2.2.2.2.1⟩, ⟨s3, fun y => j3 k y.1 y.2.1 y.2.2.1 y.2.2.2.1 y.2.2.2.2.1 y.2.2.2.2.2.1 y.2.2.2.2.2.2.1 y.2.2.2.2.2.2.2.1 y.2.2.2.2.2.2.2.2.1 y.2.2.2.2.2.2.2.2.2.2.1 y.2.2.2.2.2.2.2.2.2.2.2.1⟩, ⟨s4, fun y => j4 k y.1 y.2.1 y.2.2.1 y.2.2.2.1 y.2.2.2.2.1 y.2.2.2.2.2.2.1 y.2.2.2.2.2.2.2.1⟩]
theorem e4 (k : Nat) (y : denS s4) : j4 (k + 1) y.1 y.2.1 y.2.2.1 y.2.2.2.1 y.2.2.2.2.1 y.2.2.2.2.2.2.1 y.2.2.2.2.2.2.2.1 = SS.ev d E O k [1, 0, 1, 1, 1, 1, 1, 1, 0, 1, 0, 0, 1, 0, 0, 1, 1, 1, 1, 1, 1] s4 y := by rw [j4]; kernel_rfl
theorem e3 (k : Nat) (y : denS s3) : j3 (k + 1) y.1 y.2.1 y.2.2.1 y.2.2.2.1 y.2.2.2.2.1 y.2.2.2.2.2.1 y.2.2.2.2.2.2.1 y.2.2.2.2.2.2.2.1 y.2.2.2.2.2.2.2.2.1 y.2.2.2.2.2.2.2.2.2.2.1 y.2.2.2.2.2.2.2.2.2.2.2.1 = SS.ev d E O k [1, 0, 1, 1, 1, 1, 1, 1, 0, 1, 0, 0, 1, 0, 0, 1, 1, 1, 1] s3 y := by rw [j3]; kernel_rfl
theorem e2 (k : Nat) (y : denS s2) : j2 (k + 1) y.1 y.2.1 y.2.2.1 y.2.2.2.1 y.2.2.2.2.1 y.2.2.2.2.2.1 y.2.2.2.2.2.2.1 y.2.2.2.2.2.2.2.1 y.2.2.2.2.2.2.2.2.1 = SS.ev d E O k [1, 0, 1, 1, 1, 1, 1, 1, 0, 1, 0, 0, 1, 1] s2 y := by rw [j2]; kernel_rfl
theorem e1 (k : Nat) (y : denS s1) : l1 (k + 1) y.1 y.2.1 y.2.2.1 y.2.2.2.1 y.2.2.2.2.1 y.2.2.2.2.2.1 y.2.2.2.2.2.2.1 y.2.2.2.2.2.2.2.1 y.2.2.2.2.2.2.2.2.1 = SS.ev d E O k [1, 0, 1, 1, 1, 1, 1, 1, 0, 1, 0, 0] s1 y := by rw [l1]; kernel_rfl
theorem e0 (k : Nat) (y : denS s0) : j0 (k + 1) y.1 y.2.1 y.2.2.1 y.2.2.2.1 y.2.2.2.2.1 y.2.2.2.2.2.1 y.2.2.2.2.2.2.1 = SS.ev d E O k [1, 0, 1, 1, 1, 1] s0 y := by rw [j0]; kernel_rfl
theorem ok (k : Nat) : EnvOk Try.prog (46, sig k) := fnP SS d E O sig (fun _ => rfl) Try.func46 (by kernel_rfl) rfl (fun k => ⟨measure_Para_Ends.ok k, measure_Para_End.ok k, breaks_search_line.ok k, measure_Total.ok k, breaks_search_cost.ok k, trivial⟩) ⟨fun _ => rfl, fun _ => rfl, fun _ => rfl, fun _ => rfl, fun _ => rfl, trivial⟩ (by kernel_rfl) (fun k => pc 4 rfl (e4 k) <| pc 3 rfl (e3 k) <| pc 2 rfl (e2 k) <| pc 1 rfl (e1 k) <| pc 0 rfl (e0 k) <| pn) (fun k x => by kernel_rfl) k
end breaks_search_choose
/-! reglet/breaks.Break -/
namespace breaks_Break
mutual
def j0 : Nat → Int → api_Breaking → A13 → Option A16
 | 0, _, _, _ => none
 | k + 1, total, t, s => (breaks_search_choose.f k s total).bind fun r5 => some ((r5, total, s.2.2.2.2.2.2.2.2.2.1), 0)
end
def f (k : Nat) (a0 : A11) (a1 : Int) (a2 : api_Settings) : Option A16 := (breaks_Check.f k a1 a2).bind fun r => if (!decide (r = 0)) = true then (some ((([] : List Int), 0, (false)), r)) else ((breaks_search_forced.f k (a0, a1, a2.1, a2.2.1, a2.2.2.1, a2.2.2.2.1, a2.2.2.2.2.1, a2.2.2.2.2.2.1, a2.2.2.2.2.2.2, (false), ([] : List measure_Sum), ([] : List Int))).bind fun r2 => (breaks_search_weigh.f k r2).bind fun r3 => if (decide (r3.1 = 1125899906842625)) = true then ((breaks_search_weigh.f k (r3.2.1, r3.2.2.1, r3.2.2.2.1, r3.2.2.2.2.1, r3.2.2.2.2.2.1, r3.2.2.2.2.2.2.1, r3.2.2.2.2.2.2.2.1, r3.2.2.2.2.2.2.2.2.1, r3.2.2.2.2.2.2.2.2.2.1, (true), r3.2.2.2.2.2.2.2.2.2.2.2.1, r3.2.2.2.2.2.2.2.2.2.2.2.2)).bind fun r4 => j0 k r4.1 (([] : List Int), 0, (false)) r4.2) else (j0 k r3.1 (([] : List Int), 0, (false)) r3.2))
def sig (k : Nat) : Sig := .p [(false, y75), (false, (.i .i64)), (true, y48)] [.c true y107, .c false (.i .i64)] fun x => f k x.1 x.2.1 x.2.2.1
def E (k : Nat) : List (Nat × Sig) := [(24, breaks_Check.sig k), (44, breaks_search_forced.sig k), (45, breaks_search_weigh.sig k), (46, breaks_search_choose.sig k)]
noncomputable def d : FD := ⟨26, Try.f26, 46, 71, [(5, 46, 7), (6, 53, 3), (23, 56, 12), (11, 68, 3)], [], [], [], [.cell 6 35, .tmp 7], .s .n (.s .n (.s .n (.s .n (.s .n (.j 0 .n .n)))))⟩
abbrev s0 : Sh := [(6, .at_ 53), (9, .at_ 56), (10, .v (.i .i64)), (53, .box y107), (56, .box y87)]
def O (k : Nat) : List (Orc (denR ([.c true y107, .c false (.i .i64)]))) := [⟨s0, fun y => j0 k y.2.2.1 y.2.2.2.1 y.2.2.2.2.1⟩]
theorem e0 (k : Nat) (y : denS s0) : j0 (k + 1) y.2.2.1 y.2.2.2.1 y.2.2.2.2.1 = SS.ev d E O k [1, 1, 1, 1, 1, 1] s0 y := by rw [j0]; kernel_rfl
theorem ok (k : Nat) : EnvOk Try.prog (26, sig k) := fnP SS d E O sig (fun _ => rfl) Try.func26 (by kernel_rfl) rfl (fun k => ⟨breaks_Check.ok k, breaks_search_forced.ok k, breaks_search_weigh.ok k, breaks_search_choose.ok k, trivial⟩) ⟨fun _ => rfl, trivial⟩ (by kernel_rfl) (fun k => pc 0 rfl (e0 k) <| pn) (fun k x => by kernel_rfl) k
end breaks_Break
/-! reglet/lines.Cuts -/
namespace lines_Cuts
mutual
def l0 : Nat → A11 → (List Int) → Int → (List Int) → (List Int) → Int → Int → Option (List Int)
 | 0, _, _, _, _, _, _, _ => none
 | k + 1, p, list, size, out, t, t2, t3 => if (decide (t3 < t2)) = true then ((at? t t3).bind fun e => if (decide (t3 = (wrap64 ((list.length : Int) - 1)))) = true then (if (out.length + ([size] : List Int).length) * 8 ≤ 140737488355328 then (some (out ++ ([size] : List Int))) else none) else ((measure_Para_Start.f k p e).bind fun r => (at? list (wrap64 (t3 + 1))).bind fun e2 => (measure_Para_Item.f k p (if e2 < r then e2 else r)).bind fun r2 => if (out.length + ([(if r2.2.2.2.2.2.2.2.1 < size then r2.2.2.2.2.2.2.2.1 else size)] : List Int).length) * 8 ≤ 140737488355328 then (l0 k p list size (out ++ ([(if r2.2.2.2.2.2.2.2.1 < size then r2.2.2.2.2.2.2.2.1 else size)] : List Int)) t t2 (wrap64 (t3 + 1))) else none)) else (some out)
end
def f (k : Nat) (a0 : A11) (a1 : (List Int)) (a2 : Int) : Option (List Int) := l0 k a0 a1 a2 ([] : List Int) a1 (a1.length : Int) 0
def sig (k : Nat) : Sig := .p [(false, y65), (false, y57), (false, (.i .i64))] [.c false y10] fun x => f k x.1 x.2.1 x.2.2.1
def E (k : Nat) : List (Nat × Sig) := [(49, measure_Para_Item.sig k), (75, measure_Para_Start.sig k)]
noncomputable def d : FD := ⟨47, Try.f47, 45, 45, [], [], [], [], [.tmp 6], .s .n (.s .n (.s (.s .n (.s (.l 0 .n) .n)) .n))⟩
abbrev s0 : Sh := [(0, .v y65), (1, .v y57), (2, .v (.i .i64)), (7, .v y10), (10, .v y57), (11, .v (.i .i64)), (12, .v (.i .i64))]
def O (k : Nat) : List (Orc (denR ([.c false y10]))) := [⟨s0, fun y => l0 k y.1 y.2.1 y.2.2.1 y.2.2.2.1 y.2.2.2.2.1 y.2.2.2.2.2.1 y.2.2.2.2.2.2.1⟩]
theorem e0 (k : Nat) (y : denS s0) : l0 (k + 1) y.1 y.2.1 y.2.2.1 y.2.2.2.1 y.2.2.2.2.1 y.2.2.2.2.2.1 y.2.2.2.2.2.2.1 = SS.ev d E O k [1, 1, 0, 1, 0, 0] s0 y := by rw [l0]; kernel_rfl
theorem ok (k : Nat) : EnvOk Try.prog (47, sig k) := fnP SS d E O sig (fun _ => rfl) Try.func47 (by kernel_rfl) rfl (fun k => ⟨measure_Para_Item.ok k, measure_Para_Start.ok k, trivial⟩) ⟨fun _ => rfl, trivial⟩ (by kernel_rfl) (fun k => pc 0 rfl (e0 k) <| pn) (fun k x => by kernel_rfl) k
end lines_Cuts
/-! reglet/lines.part -/
namespace lines_part
mutual
def l0 : Nat → Int → Int → (List api_Run) → Int → (List api_Run) → Int → Int → Option (List api_Run)
 | 0, _, _, _, _, _, _, _ => none
 | k + 1, t, t2, t3, t4, t5, t6, t7 => if (decide (t7 < t6)) = true then ((at? t5 t7).bind fun e => if (decide ((wrap64 ((if (wrap64 (t4 + e.1)) < t2 then (wrap64 (t4 + e.1)) else t2) - (if t < t4 then t4 else t))) ≤ 0)) = true then (l0 k t t2 t3 (wrap64 (t4 + e.1)) t5 t6 (wrap64 (t7 + 1))) else (if (decide (0 ≤ (wrap64 ((t3.length : Int) - 1)))) = true then (if 0 ≤ (wrap64 ((t3.length : Int) - 1)) ∧ (wrap64 ((t3.length : Int) - 1)) < (t3.length : Int) then ((t3[(wrap64 ((t3.length : Int) - 1)).toNat]?).bind fun e2 => if (decide (e2.2 = e.2)) = true then (if 0 ≤ (wrap64 ((t3.length : Int) - 1)) ∧ (wrap64 ((t3.length : Int) - 1)) < (t3.length : Int) then ((t3[(wrap64 ((t3.length : Int) - 1)).toNat]?).bind fun e3 => if 0 ≤ (wrap64 ((t3.length : Int) - 1)) ∧ (wrap64 ((t3.length : Int) - 1)) < (t3.length : Int) then ((t3[(wrap64 ((t3.length : Int) - 1)).toNat]?).bind fun e4 => l0 k t t2 (t3.set ((wrap64 ((t3.length : Int) - 1)).toNat) (wrap64 (e3.1 + (wrap64 ((if (wrap64 (t4 + e.1)) < t2 then (wrap64 (t4 + e.1)) else t2) - (if t < t4 then t4 else t)))), e4.2)) (wrap64 (t4 + e.1)) t5 t6 (wrap64 (t7 + 1))) else none) else none) else (j1 k t t2 t3 (wrap64 (t4 + e.1)) (wrap64 ((if (wrap64 (t4 + e.1)) < t2 then (wrap64 (t4 + e.1)) else t2) - (if t < t4 then t4 else t))) t5 t6 t7 e)) else none) else (j1 k t t2 t3 (wrap64 (t4 + e.1)) (wrap64 ((if (wrap64 (t4 + e.1)) < t2 then (wrap64 (t4 + e.1)) else t2) - (if t < t4 then t4 else t))) t5 t6 t7 e))) else (some t3)
def j1 : Nat → Int → Int → (List api_Run) → Int → Int → (List api_Run) → Int → Int → api_Run → Option (List api_Run)
 | 0, _, _, _, _, _, _, _, _, _ => none
 | k + 1, t8, t9, t10, t11, t12, t13, t14, t15, t16 => if (t10.length + ([(t12, t16.2)] : List api_Run).length) * 16 ≤ 140737488355328 then (l0 k t8 t9 (t10 ++ ([(t12, t16.2)] : List api_Run)) t11 t13 t14 (wrap64 (t15 + 1))) else none
end
def f (k : Nat) (a0 : (List api_Run)) (a1 : Int) (a2 : Int) : Option (List api_Run) := l0 k a1 a2 ([] : List api_Run) 0 a0 (a0.length : Int) 0
def sig (k : Nat) : Sig := .p [(false, y22), (false, (.i .i64)), (false, (.i .i64))] [.c false y108] fun x => f k x.1 x.2.1 x.2.2.1
def E (k : Nat) : List (Nat × Sig) := []
noncomputable def d : FD := ⟨50, Try.f50, 68, 70, [(10, 68, 2)], [], [], [], [.tmp 6], .s .n (.s .n (.s .n (.s (.s .n (.s (.l 0 (.s .n (.s .n (.s (.s (.s .n (.s .n (.s .n (.s .n (.j 1 .n .n))))) .n) .n)))) .n)) .n)))⟩
abbrev s0 : Sh := [(1, .v (.i .i64)), (2, .v (.i .i64)), (7, .v y108), (8, .v (.i .i64)), (13, .v y22), (14, .v (.i .i64)), (15, .v (.i .i64))]
abbrev s1 : Sh := [(1, .v (.i .i64)), (2, .v (.i .i64)), (7, .v y108), (8, .v (.i .i64)), (10, .at_ 68), (11, .v (.i .i64)), (13, .v y22), (14, .v (.i .i64)), (15, .v (.i .i64)), (68, .box y0)]
def O (k : Nat) : List (Orc (denR ([.c false y108]))) := [⟨s0, fun y => l0 k y.1 y.2.1 y.2.2.1 y.2.2.2.1 y.2.2.2.2.1 y.2.2.2.2.2.1 y.2.2.2.2.2.2.1⟩, ⟨s1, fun y => j1 k y.1 y.2.1 y.2.2.1 y.2.2.2.1 y.2.2.2.2.2.1 y.2.2.2.2.2.2.1 y.2.2.2.2.2.2.2.1 y.2.2.2.2.2.2.2.2.1 y.2.2.2.2.2.2.2.2.2.1⟩]
theorem e1 (k : Nat) (y : denS s1) : j1 (k + 1) y.1 y.2.1 y.2.2.1 y.2.2.2.1 y.2.2.2.2.2.1 y.2.2.2.2.2.2.1 y.2.2.2.2.2.2.2.1 y.2.2.2.2.2.2.2.2.1 y.2.2.2.2.2.2.2.2.2.1 = SS.ev d E O k [1, 1, 1, 0, 1, 0, 0, 1, 1, 0, 0, 1, 1, 1, 1, 1] s1 y := by rw [j1]; kernel_rfl
theorem e0 (k : Nat) (y : denS s0) : l0 (k + 1) y.1 y.2.1 y.2.2.1 y.2.2.2.1 y.2.2.2.2.1 y.2.2.2.2.2.1 y.2.2.2.2.2.2.1 = SS.ev d E O k [1, 1, 1, 0, 1, 0, 0] s0 y := by rw [l0]; kernel_rfl
theorem ok (k : Nat) : EnvOk Try.prog (50, sig k) := fnP SS d E O sig (fun _ => rfl) Try.func50 (by kernel_rfl) rfl (fun k => trivial) ⟨fun _ => rfl, fun _ => rfl, trivial⟩ (by kernel_rfl) (fun k => pc 1 rfl (e1 k) <| pc 0 rfl (e0 k) <| pn) (fun k x => by kernel_rfl) k
end lines_part
/-! (*reglet/metrics.Table).Height -/
namespace metrics_Table_Height
def f (k : Nat) (a0 : A1) (a1 : Int) : Option Int := (metrics_Table_of.f k a0 a1).bind fun r => some r.1
def sig (k : Nat) : Sig := .p [(false, y39), (false, (.i .i64))] [.c false (.i .i64)] fun x => f k x.1 x.2.1
def E (k : Nat) : List (Nat × Sig) := [(84, metrics_Table_of.sig k)]
noncomputable def d : FD := ⟨79, Try.f79, 9, 9, [], [], [], [], [.tmp 4], .n⟩
def O (k : Nat) : List (Orc (denR ([.c false (.i .i64)]))) := []
theorem ok (k : Nat) : EnvOk Try.prog (79, sig k) := fnP SS d E O sig (fun _ => rfl) Try.func79 (by kernel_rfl) rfl (fun k => ⟨metrics_Table_of.ok k, trivial⟩) trivial (by kernel_rfl) (fun _ => pn) (fun k x => by kernel_rfl) k
end metrics_Table_Height
/-! (*reglet/metrics.Table).Tallest -/
namespace metrics_Table_Tallest
mutual
def l0 : Nat → A1 → Int → (List api_Run) → Int → Int → Option Int
 | 0, _, _, _, _, _ => none
 | k + 1, t, most, t2, t3, t4 => if (decide (t4 < t3)) = true then ((at? t2 t4).bind fun e => if (decide (0 < e.1)) = true then ((metrics_Table_Height.f k t e.2).bind fun r => l0 k t (if most < r then r else most) t2 t3 (wrap64 (t4 + 1))) else (l0 k t most t2 t3 (wrap64 (t4 + 1)))) else (if (decide (most = 0)) = true then ((metrics_Table_Height.f k t 0).bind fun r2 => some r2) else (some most))
end
def f (k : Nat) (a0 : A1) (a1 : (List api_Run)) : Option Int := l0 k a0 0 a1 (a1.length : Int) 0
def sig (k : Nat) : Sig := .p [(false, y39), (false, y22)] [.c false (.i .i64)] fun x => f k x.1 x.2.1
def E (k : Nat) : List (Nat × Sig) := [(79, metrics_Table_Height.sig k)]
noncomputable def d : FD := ⟨78, Try.f78, 29, 31, [(7, 29, 2)], [], [], [], [.tmp 4], .s .n (.s .n (.s (.s .n (.s (.l 0 .n) .n)) .n))⟩
abbrev s0 : Sh := [(0, .v y39), (5, .v (.i .i64)), (8, .v y22), (9, .v (.i .i64)), (10, .v (.i .i64))]
def O (k : Nat) : List (Orc (denR ([.c false (.i .i64)]))) := [⟨s0, fun y => l0 k y.1 y.2.1 y.2.2.1 y.2.2.2.1 y.2.2.2.2.1⟩]
theorem e0 (k : Nat) (y : denS s0) : l0 (k + 1) y.1 y.2.1 y.2.2.1 y.2.2.2.1 y.2.2.2.2.1 = SS.ev d E O k [1, 1, 0, 1, 0, 0] s0 y := by rw [l0]; kernel_rfl
theorem ok (k : Nat) : EnvOk Try.prog (78, sig k) := fnP SS d E O sig (fun _ => rfl) Try.func78 (by kernel_rfl) rfl (fun k => ⟨metrics_Table_Height.ok k, trivial⟩) ⟨fun _ => rfl, trivial⟩ (by kernel_rfl) (fun k => pc 0 rfl (e0 k) <| pn) (fun k x => by kernel_rfl) k
end metrics_Table_Tallest
/-! reglet/lines.height -/
namespace lines_height
mutual
def l0 : Nat → A1 → (List api_Run) → Int → Option Int
 | 0, _, _, _ => none
 | k + 1, t, all, k_ => if (decide (0 ≤ k_)) = true then ((at? all k_).bind fun e => if (decide (0 < e.1)) = true then ((at? all k_).bind fun e2 => (metrics_Table_Height.f k t e2.2).bind fun r2 => some r2) else (l0 k t all (wrap64 (k_ - 1)))) else ((metrics_Table_Height.f k t 0).bind fun r3 => some r3)
end
def f (k : Nat) (a0 : A1) (a1 : (List api_Run)) (a2 : (List api_Run)) : Option Int := if (decide (0 < (a1.length : Int))) = true then ((metrics_Table_Tallest.f k a0 a1).bind fun r => some r) else (l0 k a0 a2 (wrap64 ((a2.length : Int) - 1)))
def sig (k : Nat) : Sig := .p [(false, y39), (false, y22), (false, y22)] [.c false (.i .i64)] fun x => f k x.1 x.2.1 x.2.2.1
def E (k : Nat) : List (Nat × Sig) := [(78, metrics_Table_Tallest.sig k), (79, metrics_Table_Height.sig k)]
noncomputable def d : FD := ⟨51, Try.f51, 36, 36, [], [], [], [], [.tmp 6], .s .n (.s .n (.s (.s .n (.s (.l 0 .n) .n)) .n))⟩
abbrev s0 : Sh := [(0, .v y39), (2, .v y22), (7, .v (.i .i64))]
def O (k : Nat) : List (Orc (denR ([.c false (.i .i64)]))) := [⟨s0, fun y => l0 k y.1 y.2.1 y.2.2.1⟩]
theorem e0 (k : Nat) (y : denS s0) : l0 (k + 1) y.1 y.2.1 y.2.2.1 = SS.ev d E O k [1, 1, 0, 1, 0, 0] s0 y := by rw [l0]; kernel_rfl
theorem ok (k : Nat) : EnvOk Try.prog (51, sig k) := fnP SS d E O sig (fun _ => rfl) Try.func51 (by kernel_rfl) rfl (fun k => ⟨metrics_Table_Tallest.ok k, metrics_Table_Height.ok k, trivial⟩) ⟨fun _ => rfl, trivial⟩ (by kernel_rfl) (fun k => pc 0 rfl (e0 k) <| pn) (fun k x => by kernel_rfl) k
end lines_height
/-! reglet/lines.Lay -/
namespace lines_Lay
mutual
def l0 : Nat → A1 → ByteArray → (List api_Run) → A11 → Int → A18 → Int → Int → (List Int) → Int → Int → api_Breaking → Option A17
 | 0, _, _, _, _, _, _, _, _, _, _, _, _ => none
 | k + 1, t, t2, t3, t4, t5, t6, t7, t8, t9, t10, t11, t12 => if (decide (t11 < t10)) = true then (if 0 ≤ t11 ∧ t11 < (t9.length : Int) then ((t9[t11.toNat]?).bind fun e => (at? t12.1 t11).bind fun e2 => (measure_Para_Fit.f k t4 t8 e2 t5).bind fun r2 => (at? t12.1 t11).bind fun e3 => (measure_Para_Item.f k t4 e3).bind fun r3 => (lines_part.f k t3 t7 e).bind fun r4 => (sSub t2 t7 e).bind fun v => (lines_height.f k t r4 t3).bind fun r5 => if r3.2.2.2.2.2.2.1 = true then (if (t6.length + ([(v, r4, r2.1, r2.2.1, r5, decide (r3.2.2.2.2.2.2.2.1 < r3.2.2.2.2.2.2.2.2), 0, decide (t11 = 0), decide (t11 = (wrap64 ((t12.1.length : Int) - 1))))] : List (ByteArray × List api_Run × Int × Int × Int × Bool × Int × Bool × Bool)).length) * 88 ≤ 140737488355328 then (j1 k t t2 t3 t4 t5 (t6 ++ ([(v, r4, r2.1, r2.2.1, r5, decide (r3.2.2.2.2.2.2.2.1 < r3.2.2.2.2.2.2.2.2), 0, decide (t11 = 0), decide (t11 = (wrap64 ((t12.1.length : Int) - 1))))] : List (ByteArray × List api_Run × Int × Int × Int × Bool × Int × Bool × Bool))) t11 e t9 t10 t11 t12) else none) else (if (t6.length + ([(v, r4, r2.1, r2.2.1, r5, (false), 0, decide (t11 = 0), decide (t11 = (wrap64 ((t12.1.length : Int) - 1))))] : List (ByteArray × List api_Run × Int × Int × Int × Bool × Int × Bool × Bool)).length) * 88 ≤ 140737488355328 then (j1 k t t2 t3 t4 t5 (t6 ++ ([(v, r4, r2.1, r2.2.1, r5, (false), 0, decide (t11 = 0), decide (t11 = (wrap64 ((t12.1.length : Int) - 1))))] : List (ByteArray × List api_Run × Int × Int × Int × Bool × Int × Bool × Bool))) t11 e t9 t10 t11 t12) else none)) else none) else (some t6)
def j1 : Nat → A1 → ByteArray → (List api_Run) → A11 → Int → A18 → Int → Int → (List Int) → Int → Int → api_Breaking → Option A17
 | 0, _, _, _, _, _, _, _, _, _, _, _, _ => none
 | k + 1, t13, t14, t15, t16, t17, t18, t19, t20, t21, t22, t23, t24 => (at? t24.1 t19).bind fun e4 => l0 k t13 t14 t15 t16 t17 t18 t20 e4 t21 t22 (wrap64 (t23 + 1)) t24
end
def f (k : Nat) (a0 : A1) (a1 : ByteArray) (a2 : (List api_Run)) (a3 : A11) (a4 : api_Breaking) (a5 : Int) : Option A17 := (lines_Cuts.f k a3 a4.1 (a1.size : Int)).bind fun r => l0 k a0 a1 a2 a3 a5 ([] : List (ByteArray × List api_Run × Int × Int × Int × Bool × Int × Bool × Bool)) 0 (-1) r (r.length : Int) 0 a4
def sig (k : Nat) : Sig := .p [(false, y39), (false, .s), (false, y22), (false, y75), (true, y118), (false, (.i .i64))] [.c false y117] fun x => f k x.1 x.2.1 x.2.2.1 x.2.2.2.1 x.2.2.2.2.1 x.2.2.2.2.2.1
def E (k : Nat) : List (Nat × Sig) := [(47, lines_Cuts.sig k), (48, measure_Para_Fit.sig k), (49, measure_Para_Item.sig k), (50, lines_part.sig k), (51, lines_height.sig k)]
noncomputable def d : FD := ⟨27, Try.f27, 95, 112, [(10, 95, 3), (18, 98, 5), (19, 103, 9)], [], [], [], [.tmp 12], .s .n (.s .n (.s .n (.s (.s .n (.s (.l 0 (.s .n (.s .n (.s (.s (.s .n (.s .n (.s .n (.s .n (.j 1 .n .n))))) .n) .n)))) .n)) .n)))⟩
abbrev s0 : Sh := [(0, .v y39), (1, .v .s), (2, .v y22), (3, .v y75), (5, .v (.i .i64)), (10, .at_ 95), (13, .v y117), (14, .v (.i .i64)), (15, .v (.i .i64)), (26, .v y10), (27, .v (.i .i64)), (28, .v (.i .i64)), (95, .box y118)]
abbrev s1 : Sh := [(0, .v y39), (1, .v .s), (2, .v y22), (3, .v y75), (5, .v (.i .i64)), (10, .at_ 95), (13, .v y117), (16, .v (.i .i64)), (17, .v (.i .i64)), (26, .v y10), (27, .v (.i .i64)), (28, .v (.i .i64)), (95, .box y118)]
def O (k : Nat) : List (Orc (denR ([.c false y117]))) := [⟨s0, fun y => l0 k y.1 y.2.1 y.2.2.1 y.2.2.2.1 y.2.2.2.2.1 y.2.2.2.2.2.2.1 y.2.2.2.2.2.2.2.1 y.2.2.2.2.2.2.2.2.1 y.2.2.2.2.2.2.2.2.2.1 y.2.2.2.2.2.2.2.2.2.2.1 y.2.2.2.2.2.2.2.2.2.2.2.1 y.2.2.2.2.2.2.2.2.2.2.2.2.1⟩, ⟨s1, fun y => j1 k y.1 y.2.1 y.2.2.1 y.2.2.2.1 y.2.2.2.2.1 y.2.2.2.2.2.2.1 y.2.2.2.2.2.2.2.1 y.2.2.2.2.2.2.2.2.1 y.2.2.2.2.2.2.2.2.2.1 y.2.2.2.2.2.2.2.2.2.2.1 y.2.2.2.2.2.2.2.2.2.2.2.1 y.2.2.2.2.2.2.2.2.2.2.2.2.1⟩]
theorem e1 (k : Nat) (y : denS s1) : j1 (k + 1) y.1 y.2.1 y.2.2.1 y.2.2.2.1 y.2.2.2.2.1 y.2.2.2.2.2.2.1 y.2.2.2.2.2.2.2.1 y.2.2.2.2.2.2.2.2.1 y.2.2.2.2.2.2.2.2.2.1 y.2.2.2.2.2.2.2.2.2.2.1 y.2.2.2.2.2.2.2.2.2.2.2.1 y.2.2.2.2.2.2.2.2.2.2.2.2.1 = SS.ev d E O k [1, 1, 1, 0, 1, 0, 0, 1, 1, 0, 0, 1, 1, 1, 1, 1] s1 y := by rw [j1]; kernel_rfl
theorem e0 (k : Nat) (y : denS s0) : l0 (k + 1) y.1 y.2.1 y.2.2.1 y.2.2.2.1 y.2.2.2.2.1 y.2.2.2.2.2.2.1 y.2.2.2.2.2.2.2.1 y.2.2.2.2.2.2.2.2.1 y.2.2.2.2.2.2.2.2.2.1 y.2.2.2.2.2.2.2.2.2.2.1 y.2.2.2.2.2.2.2.2.2.2.2.1 y.2.2.2.2.2.2.2.2.2.2.2.2.1 = SS.ev d E O k [1, 1, 1, 0, 1, 0, 0] s0 y := by rw [l0]; kernel_rfl
theorem ok (k : Nat) : EnvOk Try.prog (27, sig k) := fnP SS d E O sig (fun _ => rfl) Try.func27 (by kernel_rfl) rfl (fun k => ⟨lines_Cuts.ok k, measure_Para_Fit.ok k, measure_Para_Item.ok k, lines_part.ok k, lines_height.ok k, trivial⟩) ⟨fun _ => rfl, fun _ => rfl, trivial⟩ (by kernel_rfl) (fun k => pc 1 rfl (e1 k) <| pc 0 rfl (e0 k) <| pn) (fun k x => by kernel_rfl) k
end lines_Lay
/-! reglet/lines.Paragraph -/
namespace lines_Paragraph
def f (k : Nat) (a0 : A1) (a1 : ByteArray) (a2 : (List api_Run)) (a3 : Int) (a4 : api_Settings) : Option A19 := (items_Build.f k a0 a1 a2).bind fun r => if (!decide (r.2 = 0)) = true then (some (([] : List (ByteArray × List api_Run × Int × Int × Int × Bool × Int × Bool × Bool)), (([] : List Int), 0, (false)), r.2)) else ((breaks_Check.f k a3 a4).bind fun r2 => if (!decide (r2 = 0)) = true then (some (([] : List (ByteArray × List api_Run × Int × Int × Int × Bool × Int × Bool × Bool)), (([] : List Int), 0, (false)), r2)) else ((measure_New.f k r.1).bind fun r3 => optK r3.1 (if (!decide (r3.2 = 0)) = true then (some (([] : List (ByteArray × List api_Run × Int × Int × Int × Bool × Int × Bool × Bool)), (([] : List Int), 0, (false)), r3.2)) else (none)) fun p => if (!decide (r3.2 = 0)) = true then (some (([] : List (ByteArray × List api_Run × Int × Int × Int × Bool × Int × Bool × Bool)), (([] : List Int), 0, (false)), r3.2)) else ((breaks_Break.f k p a3 a4).bind fun r4 => if (!decide (r4.2 = 0)) = true then (some (([] : List (ByteArray × List api_Run × Int × Int × Int × Bool × Int × Bool × Bool)), (([] : List Int), 0, (false)), r4.2)) else ((lines_Lay.f k a0 a1 a2 p r4.1 a3).bind fun r5 => some (r5, r4.1, 0)))))
def sig (k : Nat) : Sig := .p [(false, y39), (false, .s), (false, y22), (false, (.i .i64)), (true, y48)] [.c false y117, .c true y118, .c false (.i .i64)] fun x => f k x.1 x.2.1 x.2.2.1 x.2.2.2.1 x.2.2.2.2.1
def E (k : Nat) : List (Nat × Sig) := [(23, items_Build.sig k), (24, breaks_Check.sig k), (25, measure_New.sig k), (26, breaks_Break.sig k), (27, lines_Lay.sig k)]
noncomputable def d : FD := ⟨10, Try.f10, 64, 77, [(9, 64, 7), (11, 71, 3), (17, 74, 3)], [], [], [], [.tmp 10, .cell 11 35, .tmp 12], .s .n (.s .n (.s .n (.s .n (.s .n (.s .n (.s (.f 16 .n) (.s .n (.s (.f 74 .n) .n))))))))⟩
def O (k : Nat) : List (Orc (denR ([.c false y117, .c true y118, .c false (.i .i64)]))) := []
theorem ok (k : Nat) : EnvOk Try.prog (10, sig k) := fnP SS d E O sig (fun _ => rfl) Try.func10 (by kernel_rfl) rfl (fun k => ⟨items_Build.ok k, breaks_Check.ok k, measure_New.ok k, breaks_Break.ok k, lines_Lay.ok k, trivial⟩) trivial (by kernel_rfl) (fun _ => pn) (fun k x => by kernel_rfl) k
end lines_Paragraph
/-! reglet/regletlaw10.awake -/
namespace regletlaw10_awake
def f (k : Nat)  : Option Bool := (regletlaw10_table.f k ([(10, 6, 3, 2, 6, 6, ([] : List api_Range), (false))] : List (Int × Int × Int × Int × Int × Int × List api_Range × Bool))).bind fun r => optK r (some false) fun p => (lines_Paragraph.f k p (ByteArray.mk #[97, 97, 32, 98, 98, 10]) ([(6, 0)] : List api_Run) 20 (200, 10, 0, 0, 0, 1, 1)).bind fun r2 => if (decide (r2.2.2 = 0)) = true then (if (decide ((r2.2.1.1.length : Int) = 2)) = true then (if (decide ((r2.1.length : Int) = 2)) = true then ((at? r2.1 0).bind fun e => if (decide (e.1 = (ByteArray.mk #[97, 97, 32]))) = true then ((at? r2.1 1).bind fun e2 => if (decide (e2.1 = (ByteArray.mk #[98, 98, 10]))) = true then ((at? r2.1 1).bind fun e3 => if e3.2.2.2.2.2.2.2.2 = true then ((at? r2.1 0).bind fun e4 => some (decide (e4.2.2.2.2.1 = 10))) else (some false)) else (some false)) else (some false)) else (some false)) else (some false)) else (some false)
def sig (k : Nat) : Sig := .p [] [.c false .b] fun x => f k
def E (k : Nat) : List (Nat × Sig) := [(8, regletlaw10_table.sig k), (10, lines_Paragraph.sig k)]
noncomputable def d : FD := ⟨7, Try.f7, 61, 64, [(4, 61, 3)], [], [], [], [.tmp 0], .s .n (.s .n (.s .n (.s (.s (.f 2 .n) .n) (.s .n (.s (.f 3 .n) .n)))))⟩
def O (k : Nat) : List (Orc (denR ([.c false .b]))) := []
theorem ok (k : Nat) : EnvOk Try.prog (7, sig k) := fnP SS d E O sig (fun _ => rfl) Try.func7 (by kernel_rfl) rfl (fun k => ⟨regletlaw10_table.ok k, lines_Paragraph.ok k, trivial⟩) trivial (by kernel_rfl) (fun _ => pn) (fun k x => by kernel_rfl) k
end regletlaw10_awake
/-! reglet/regletref05.Merged -/
namespace regletref05_Merged
mutual
def l0 : Nat → (List api_Run) → (List api_Run) → Int → Option (List api_Run)
 | 0, _, _, _ => none
 | k + 1, l, out, i => if (decide (i < (l.length : Int))) = true then ((at? l i).bind fun e => if (decide (e.1 ≤ 0)) = true then (j1 k l out i) else (if (decide (0 < (out.length : Int))) = true then (if 0 ≤ (wrap64 ((out.length : Int) - 1)) ∧ (wrap64 ((out.length : Int) - 1)) < (out.length : Int) then ((out[(wrap64 ((out.length : Int) - 1)).toNat]?).bind fun e2 => (at? l i).bind fun e3 => if (decide (e2.2 = e3.2)) = true then (if 0 ≤ (wrap64 ((out.length : Int) - 1)) ∧ (wrap64 ((out.length : Int) - 1)) < (out.length : Int) then ((out[(wrap64 ((out.length : Int) - 1)).toNat]?).bind fun e4 => (at? l i).bind fun e5 => if 0 ≤ (wrap64 ((out.length : Int) - 1)) ∧ (wrap64 ((out.length : Int) - 1)) < (out.length : Int) then ((out[(wrap64 ((out.length : Int) - 1)).toNat]?).bind fun e6 => j1 k l (out.set ((wrap64 ((out.length : Int) - 1)).toNat) (wrap64 (e4.1 + e5.1), e6.2)) i) else none) else none) else (j2 k l out i)) else none) else (j2 k l out i))) else (some out)
def j1 : Nat → (List api_Run) → (List api_Run) → Int → Option (List api_Run)
 | 0, _, _, _ => none
 | k + 1, l2, out2, i2 => l0 k l2 out2 (wrap64 (i2 + 1))
def j2 : Nat → (List api_Run) → (List api_Run) → Int → Option (List api_Run)
 | 0, _, _, _ => none
 | k + 1, l3, out3, i3 => (at? l3 i3).bind fun e7 => if (out3.length + ([e7] : List api_Run).length) * 16 ≤ 140737488355328 then (j1 k l3 (out3 ++ ([e7] : List api_Run)) i3) else none
end
def f (k : Nat) (a0 : (List api_Run)) : Option (List api_Run) := l0 k a0 ([] : List api_Run) 0
def sig (k : Nat) : Sig := .p [(false, y22)] [.c false y108] fun x => f k x.1
def E (k : Nat) : List (Nat × Sig) := []
noncomputable def d : FD := ⟨14, Try.f14, 62, 62, [], [], [], [], [.tmp 2], .s .n (.s .n (.s (.s .n (.s (.l 0 (.s .n (.j 1 (.s (.s .n (.j 2 .n .n)) .n) .n))) .n)) .n))⟩
abbrev s0 : Sh := [(0, .v y22), (3, .v y108), (4, .v (.i .i64))]
abbrev s1 : Sh := [(0, .v y22), (3, .v y108), (4, .v (.i .i64))]
abbrev s2 : Sh := [(0, .v y22), (3, .v y108), (4, .v (.i .i64))]
def O (k : Nat) : List (Orc (denR ([.c false y108]))) := [⟨s0, fun y => l0 k y.1 y.2.1 y.2.2.1⟩, ⟨s1, fun y => j1 k y.1 y.2.1 y.2.2.1⟩, ⟨s2, fun y => j2 k y.1 y.2.1 y.2.2.1⟩]
theorem e2 (k : Nat) (y : denS s2) : j2 (k + 1) y.1 y.2.1 y.2.2.1 = SS.ev d E O k [1, 1, 0, 1, 0, 0, 1, 0, 0, 1, 1] s2 y := by rw [j2]; kernel_rfl
theorem e1 (k : Nat) (y : denS s1) : j1 (k + 1) y.1 y.2.1 y.2.2.1 = SS.ev d E O k [1, 1, 0, 1, 0, 0, 1, 1] s1 y := by rw [j1]; kernel_rfl
theorem e0 (k : Nat) (y : denS s0) : l0 (k + 1) y.1 y.2.1 y.2.2.1 = SS.ev d E O k [1, 1, 0, 1, 0, 0] s0 y := by rw [l0]; kernel_rfl
theorem ok (k : Nat) : EnvOk Try.prog (14, sig k) := fnP SS d E O sig (fun _ => rfl) Try.func14 (by kernel_rfl) rfl (fun k => trivial) ⟨fun _ => rfl, fun _ => rfl, fun _ => rfl, trivial⟩ (by kernel_rfl) (fun k => pc 2 rfl (e2 k) <| pc 1 rfl (e1 k) <| pc 0 rfl (e0 k) <| pn) (fun k x => by kernel_rfl) k
end regletref05_Merged
/-! reglet/lines.Copy -/
namespace lines_Copy
def f (k : Nat) (a0 : A21) : Option A20 := if (([] : List api_Run).length + a0.2.1.length) * 16 ≤ 140737488355328 then (some (a0.1, ([] : List api_Run) ++ a0.2.1, a0.2.2.1, a0.2.2.2.1, a0.2.2.2.2.1, a0.2.2.2.2.2.1, a0.2.2.2.2.2.2.1, a0.2.2.2.2.2.2.2.1, a0.2.2.2.2.2.2.2.2)) else none
def sig (k : Nat) : Sig := .p [(true, y120)] [.c true y116] fun x => f k x.1
def E (k : Nat) : List (Nat × Sig) := []
noncomputable def d : FD := ⟨18, Try.f18, 9, 27, [(1, 9, 9), (2, 18, 9)], [], [], [], [.cell 2 41], .n⟩
def O (k : Nat) : List (Orc (denR ([.c true y116]))) := []
theorem ok (k : Nat) : EnvOk Try.prog (18, sig k) := fnP SS d E O sig (fun _ => rfl) Try.func18 (by kernel_rfl) rfl (fun k => trivial) trivial (by kernel_rfl) (fun _ => pn) (fun k x => by kernel_rfl) k
end lines_Copy
/-! (*reglet/runs.List).put -/
namespace runs_List_put
mutual
def j0 : Nat → Int → Int → runs_List → Option runs_List
 | 0, _, _, _ => none
 | k + 1, n, s, l => if (l.1.length + ([(n, s)] : List api_Run).length) * 16 ≤ 140737488355328 then (some (l.1 ++ ([(n, s)] : List api_Run), l.2.1, l.2.2)) else none
end
def f (k : Nat) (a0 : runs_List) (a1 : Int) (a2 : Int) : Option runs_List := if (decide (a1 ≤ 0)) = true then (some a0) else (if (decide (0 < (a0.1.length : Int))) = true then (if 0 ≤ (wrap64 ((a0.1.length : Int) - 1)) ∧ (wrap64 ((a0.1.length : Int) - 1)) < (a0.1.length : Int) then ((a0.1[(wrap64 ((a0.1.length : Int) - 1)).toNat]?).bind fun e => if (decide (e.2 = a2)) = true then (if 0 ≤ (wrap64 ((a0.1.length : Int) - 1)) ∧ (wrap64 ((a0.1.length : Int) - 1)) < (a0.1.length : Int) then ((a0.1[(wrap64 ((a0.1.length : Int) - 1)).toNat]?).bind fun e2 => if 0 ≤ (wrap64 ((a0.1.length : Int) - 1)) ∧ (wrap64 ((a0.1.length : Int) - 1)) < (a0.1.length : Int) then ((a0.1[(wrap64 ((a0.1.length : Int) - 1)).toNat]?).bind fun e3 => some (a0.1.set ((wrap64 ((a0.1.length : Int) - 1)).toNat) (wrap64 (e2.1 + a1), e3.2), wrap64 (a0.2.1 + a1), a0.2.2)) else none) else none) else (j0 k a1 a2 (a0.1, wrap64 (a0.2.1 + a1), a0.2.2))) else none) else (j0 k a1 a2 (a0.1, wrap64 (a0.2.1 + a1), a0.2.2)))
def sig (k : Nat) : Sig := .l y121 [(false, (.i .i64)), (false, (.i .i64))] [] fun b x => f k b x.1 x.2.1
def E (k : Nat) : List (Nat × Sig) := []
noncomputable def d : FD := ⟨55, Try.f55, 62, 65, [(0, 62, 3)], [0], [], [], [], .s .n (.s .n (.j 0 .n .n))⟩
abbrev s0 : Sh := [(0, .at_ 62), (1, .v (.i .i64)), (2, .v (.i .i64)), (62, .box y121)]
def O (k : Nat) : List (Orc (denR ([] ++ [.c true y121]))) := [⟨s0, fun y => j0 k y.2.1 y.2.2.1 y.2.2.2.1⟩]
theorem e0 (k : Nat) (y : denS s0) : j0 (k + 1) y.2.1 y.2.2.1 y.2.2.2.1 = SS.evL d E y121 O k [1, 1, 1] s0 y := by rw [j0]; kernel_rfl
theorem ok (k : Nat) : EnvOk Try.prog (55, sig k) := fnL SS d E O sig (fun _ => rfl) Try.func55 (by kernel_rfl) rfl (fun k => trivial) ⟨fun _ => rfl, trivial⟩ (by kernel_rfl) (fun k => pc 0 rfl (e0 k) <| pn) (fun k b x => by kernel_rfl) k
end runs_List_put
/-! reglet/runs.Same -/
namespace runs_Same
mutual
def l0 : Nat → (List api_Run) → (List api_Run) → Int → Int → runs_List → runs_List → Option Bool
 | 0, _, _, _, _, _, _ => none
 | k + 1, t, t2, t3, t4, t5, t6 => if (decide (t4 < t3)) = true then ((at? t2 t4).bind fun e => (runs_List_put.f k t5 e.1 e.2).bind fun r => l0 k t t2 t3 (wrap64 (t4 + 1)) r t6) else (l1 k t (t.length : Int) 0 t5 t6)
def l1 : Nat → (List api_Run) → Int → Int → runs_List → runs_List → Option Bool
 | 0, _, _, _, _, _ => none
 | k + 1, t7, t8, t9, t10, t11 => if (decide (t9 < t8)) = true then ((at? t7 t9).bind fun e2 => (runs_List_put.f k t11 e2.1 e2.2).bind fun r2 => l1 k t7 t8 (wrap64 (t9 + 1)) t10 r2) else (if (!decide ((t10.1.length : Int) = (t11.1.length : Int))) = true then (some false) else (l2 k (t10.1.length : Int) 0 t10 t11))
def l2 : Nat → Int → Int → runs_List → runs_List → Option Bool
 | 0, _, _, _, _ => none
 | k + 1, t12, t13, t14, t15 => if (decide (t13 < t12)) = true then (if 0 ≤ t13 ∧ t13 < (t14.1.length : Int) then ((t14.1[t13.toNat]?).bind fun e3 => if 0 ≤ t13 ∧ t13 < (t15.1.length : Int) then ((t15.1[t13.toNat]?).bind fun e4 => if (!(decide (e3.1 = e4.1) && (decide (e3.2 = e4.2) && true))) = true then (some false) else (l2 k t12 (wrap64 (t13 + 1)) t14 t15)) else none) else none) else (some true)
end
def f (k : Nat) (a0 : (List api_Run)) (a1 : (List api_Run)) : Option Bool := l0 k a1 a0 (a0.length : Int) 0 (([] : List api_Run), 0, 0) (([] : List api_Run), 0, 0)
def sig (k : Nat) : Sig := .p [(false, y22), (false, y22)] [.c false .b] fun x => f k x.1 x.2.1
def E (k : Nat) : List (Nat × Sig) := [(55, runs_List_put.sig k)]
noncomputable def d : FD := ⟨33, Try.f33, 74, 86, [(14, 74, 3), (16, 77, 3), (8, 80, 2), (10, 82, 2), (12, 84, 2)], [], [], [], [.tmp 4], .s .n (.s .n (.s (.s .n (.s (.l 0 .n) .n)) (.s (.s .n (.s (.l 1 .n) .n)) (.s .n (.s (.s .n (.s (.l 2 .n) .n)) .n)))))⟩
abbrev s0 : Sh := [(1, .v y22), (5, .at_ 74), (6, .at_ 77), (17, .v y22), (18, .v (.i .i64)), (19, .v (.i .i64)), (74, .box y121), (77, .box y121)]
abbrev s1 : Sh := [(5, .at_ 74), (6, .at_ 77), (30, .v y22), (31, .v (.i .i64)), (32, .v (.i .i64)), (74, .box y121), (77, .box y121)]
abbrev s2 : Sh := [(6, .at_ 77), (57, .al 74), (58, .v (.i .i64)), (59, .v (.i .i64)), (74, .box y121), (77, .box y121)]
def O (k : Nat) : List (Orc (denR ([.c false .b]))) := [⟨s0, fun y => l0 k y.1 y.2.2.2.1 y.2.2.2.2.1 y.2.2.2.2.2.1 y.2.2.2.2.2.2.1 y.2.2.2.2.2.2.2.1⟩, ⟨s1, fun y => l1 k y.2.2.1 y.2.2.2.1 y.2.2.2.2.1 y.2.2.2.2.2.1 y.2.2.2.2.2.2.1⟩, ⟨s2, fun y => l2 k y.2.2.1 y.2.2.2.1 y.2.2.2.2.1 y.2.2.2.2.2.1⟩]
theorem e0 (k : Nat) (y : denS s0) : l0 (k + 1) y.1 y.2.2.2.1 y.2.2.2.2.1 y.2.2.2.2.2.1 y.2.2.2.2.2.2.1 y.2.2.2.2.2.2.2.1 = SS.ev d E O k [1, 1, 0, 1, 0, 0] s0 y := by rw [l0]; kernel_rfl
theorem e1 (k : Nat) (y : denS s1) : l1 (k + 1) y.2.2.1 y.2.2.2.1 y.2.2.2.2.1 y.2.2.2.2.2.1 y.2.2.2.2.2.2.1 = SS.ev d E O k [1, 1, 1, 0, 1, 0, 0] s1 y := by rw [l1]; kernel_rfl
theorem e2 (k : Nat) (y : denS s2) : l2 (k + 1) y.2.2.1 y.2.2.2.1 y.2.2.2.2.1 y.2.2.2.2.2.1 = SS.ev d E O k [1, 1, 1, 1, 1, 0, 1, 0, 0] s2 y := by rw [l2]; kernel_rfl
theorem ok (k : Nat) : EnvOk Try.prog (33, sig k) := fnP SS d E O sig (fun _ => rfl) Try.func33 (by kernel_rfl) rfl (fun k => ⟨runs_List_put.ok k, trivial⟩) ⟨fun _ => rfl, fun _ => rfl, fun _ => rfl, trivial⟩ (by kernel_rfl) (fun k => pc 0 rfl (e0 k) <| pc 1 rfl (e1 k) <| pc 2 rfl (e2 k) <| pn) (fun k x => by kernel_rfl) k
end runs_Same
/-! reglet/lines.Same -/
namespace lines_Same
def f (k : Nat) (a0 : A21) (a1 : A21) : Option Bool := if (decide (a0.1 = a1.1)) = true then (if (decide (a0.2.2.1 = a1.2.2.1)) = true then (if (decide (a0.2.2.2.1 = a1.2.2.2.1)) = true then (if (decide (a0.2.2.2.2.1 = a1.2.2.2.2.1)) = true then (if (decide (a0.2.2.2.2.2.1 = a1.2.2.2.2.2.1)) = true then (if (decide (a0.2.2.2.2.2.2.1 = a1.2.2.2.2.2.2.1)) = true then (if (decide (a0.2.2.2.2.2.2.2.1 = a1.2.2.2.2.2.2.2.1)) = true then (if (decide (a0.2.2.2.2.2.2.2.2 = a1.2.2.2.2.2.2.2.2)) = true then ((runs_Same.f k a0.2.1 a1.2.1).bind fun r => some r) else (some false)) else (some false)) else (some false)) else (some false)) else (some false)) else (some false)) else (some false)) else (some false)
def sig (k : Nat) : Sig := .p [(true, y120), (true, y120)] [.c false .b] fun x => f k x.1 x.2.1
def E (k : Nat) : List (Nat × Sig) := [(33, runs_Same.sig k)]
noncomputable def d : FD := ⟨19, Try.f19, 66, 84, [(2, 66, 9), (3, 75, 9)], [], [], [], [.tmp 4], .n⟩
def O (k : Nat) : List (Orc (denR ([.c false .b]))) := []
theorem ok (k : Nat) : EnvOk Try.prog (19, sig k) := fnP SS d E O sig (fun _ => rfl) Try.func19 (by kernel_rfl) rfl (fun k => ⟨runs_Same.ok k, trivial⟩) trivial (by kernel_rfl) (fun _ => pn) (fun k x => by kernel_rfl) k
end lines_Same
/-! reglet/regletref05.Same -/
namespace regletref05_Same
mutual
def l0 : Nat → (List api_Run) → (List api_Run) → Int → Option Bool
 | 0, _, _, _ => none
 | k + 1, a, b, i => if (decide (i < (a.length : Int))) = true then ((at? a i).bind fun e => (at? b i).bind fun e2 => if (!(decide (e.1 = e2.1) && (decide (e.2 = e2.2) && true))) = true then (some false) else (l0 k a b (wrap64 (i + 1)))) else (some true)
end
def f (k : Nat) (a0 : (List api_Run)) (a1 : (List api_Run)) : Option Bool := if (!decide ((a0.length : Int) = (a1.length : Int))) = true then (some false) else (l0 k a0 a1 0)
def sig (k : Nat) : Sig := .p [(false, y22), (false, y22)] [.c false .b] fun x => f k x.1 x.2.1
def E (k : Nat) : List (Nat × Sig) := []
noncomputable def d : FD := ⟨13, Try.f13, 26, 26, [], [], [], [], [.tmp 4], .s .n (.s .n (.s (.s .n (.s (.l 0 .n) .n)) .n))⟩
abbrev s0 : Sh := [(0, .v y22), (1, .v y22), (5, .v (.i .i64))]
def O (k : Nat) : List (Orc (denR ([.c false .b]))) := [⟨s0, fun y => l0 k y.1 y.2.1 y.2.2.1⟩]
theorem e0 (k : Nat) (y : denS s0) : l0 (k + 1) y.1 y.2.1 y.2.2.1 = SS.ev d E O k [1, 1, 0, 1, 0, 0] s0 y := by rw [l0]; kernel_rfl
theorem ok (k : Nat) : EnvOk Try.prog (13, sig k) := fnP SS d E O sig (fun _ => rfl) Try.func13 (by kernel_rfl) rfl (fun k => trivial) ⟨fun _ => rfl, trivial⟩ (by kernel_rfl) (fun k => pc 0 rfl (e0 k) <| pn) (fun k x => by kernel_rfl) k
end regletref05_Same
/-! reglet/regletref10.Same -/
namespace regletref10_Same
def f (k : Nat) (a0 : A21) (a1 : A21) : Option Bool := if (decide (a0.1 = a1.1)) = true then (if (decide (a0.2.2.1 = a1.2.2.1)) = true then (if (decide (a0.2.2.2.1 = a1.2.2.2.1)) = true then (if (decide (a0.2.2.2.2.1 = a1.2.2.2.2.1)) = true then (if (decide (a0.2.2.2.2.2.1 = a1.2.2.2.2.2.1)) = true then (if (decide (a0.2.2.2.2.2.2.1 = a1.2.2.2.2.2.2.1)) = true then (if (decide (a0.2.2.2.2.2.2.2.1 = a1.2.2.2.2.2.2.2.1)) = true then (if (decide (a0.2.2.2.2.2.2.2.2 = a1.2.2.2.2.2.2.2.2)) = true then ((regletref05_Same.f k a0.2.1 a1.2.1).bind fun r => some r) else (some false)) else (some false)) else (some false)) else (some false)) else (some false)) else (some false)) else (some false)) else (some false)
def sig (k : Nat) : Sig := .p [(true, y120), (true, y120)] [.c false .b] fun x => f k x.1 x.2.1
def E (k : Nat) : List (Nat × Sig) := [(13, regletref05_Same.sig k)]
noncomputable def d : FD := ⟨20, Try.f20, 66, 84, [(2, 66, 9), (3, 75, 9)], [], [], [], [.tmp 4], .n⟩
def O (k : Nat) : List (Orc (denR ([.c false .b]))) := []
theorem ok (k : Nat) : EnvOk Try.prog (20, sig k) := fnP SS d E O sig (fun _ => rfl) Try.func20 (by kernel_rfl) rfl (fun k => ⟨regletref05_Same.ok k, trivial⟩) trivial (by kernel_rfl) (fun _ => pn) (fun k x => by kernel_rfl) k
end regletref10_Same
/-! reglet/regletlaw10.LinesSame -/
namespace regletlaw10_LinesSame
mutual
def j0 : Nat → A21 → A21 → Option Bool
 | 0, _, _ => none
 | k + 1, t, t2 => l1 k 0 t t2
def l1 : Nat → Int → A21 → A21 → Option Bool
 | 0, _, _, _ => none
 | k + 1, t3, t4, t5 => if (decide (t3 < (t4.2.1.length : Int))) = true then ((at? t4.2.1 t3).bind fun e => if (decide (1099511627776 < e.1)) = true then (some true) else (l1 k (wrap64 (t3 + 1)) t4 t5)) else (l2 k 0 t4 t5)
def l2 : Nat → Int → A21 → A21 → Option Bool
 | 0, _, _, _ => none
 | k + 1, t6, t7, t8 => if (decide (t6 < (t8.2.1.length : Int))) = true then ((at? t8.2.1 t6).bind fun e2 => if (decide (1099511627776 < e2.1)) = true then (some true) else (l2 k (wrap64 (t6 + 1)) t7 t8)) else ((regletref05_Merged.f k t7.2.1).bind fun r2 => (regletref05_Merged.f k t8.2.1).bind fun r3 => (lines_Copy.f k t7).bind fun r4 => (lines_Same.f k t7 t8).bind fun r5 => (regletref10_Same.f k (t7.1, r2, t7.2.2.1, t7.2.2.2.1, t7.2.2.2.2.1, t7.2.2.2.2.2.1, t7.2.2.2.2.2.2.1, t7.2.2.2.2.2.2.2.1, t7.2.2.2.2.2.2.2.2) (t8.1, r3, t8.2.2.1, t8.2.2.2.1, t8.2.2.2.2.1, t8.2.2.2.2.2.1, t8.2.2.2.2.2.2.1, t8.2.2.2.2.2.2.2.1, t8.2.2.2.2.2.2.2.2)).bind fun r6 => if (!decide (r5 = r6)) = true then (some false) else ((lines_Same.f k t7 r4).bind fun r7 => if (!r7) = true then (some false) else ((lines_Same.f k r4 t7).bind fun r8 => if (!r8) = true then (some false) else (j3 k t7 r4))))
def j3 : Nat → A21 → A21 → Option Bool
 | 0, _, _ => none
 | k + 1, t9, t10 => if (decide (0 < (t10.2.1.length : Int))) = true then ((at? t9.2.1 0).bind fun e3 => if 0 ≤ (0 : Int) ∧ (0 : Int) < (t10.2.1.length : Int) then ((t10.2.1[(0 : Int).toNat]?).bind fun e4 => (at? t9.2.1 0).bind fun e5 => if (!(decide (e5.1 = e3.1) && (decide (e5.2 = e3.2) && true))) = true then (some false) else (some true)) else none) else (some true)
end
def f (k : Nat) (a0 : A21) (a1 : A21) : Option Bool := (regletlaw10_awake.f k).bind fun r => if (!r) = true then (some false) else (if (decide (50 < (a0.2.1.length : Int))) = true then (some true) else (if (decide (50 < (a1.2.1.length : Int))) = true then (some true) else (j0 k a0 a1)))
def sig (k : Nat) : Sig := .p [(true, y123), (true, y123)] [.c false .b] fun x => f k x.1 x.2.1
def E (k : Nat) : List (Nat × Sig) := [(7, regletlaw10_awake.sig k), (14, regletref05_Merged.sig k), (18, lines_Copy.sig k), (19, lines_Same.sig k), (20, regletref10_Same.sig k)]
noncomputable def d : FD := ⟨6, Try.f6, 100, 147, [(2, 100, 9), (3, 109, 9), (7, 118, 9), (8, 127, 9), (9, 136, 9), (10, 145, 2)], [], [], [66, 67, 72, 77], [.tmp 4], .s .n (.s .n (.j 0 .n (.s (.s .n (.s (.l 1 .n) .n)) (.s (.s .n (.s (.l 2 .n) .n)) (.s .n (.s .n (.s .n (.j 3 .n .n))))))))⟩
abbrev s0 : Sh := [(2, .at_ 100), (3, .at_ 109), (100, .box y123), (109, .box y123)]
abbrev s1 : Sh := [(2, .at_ 100), (3, .at_ 109), (5, .v (.i .i64)), (100, .box y123), (109, .box y123)]
abbrev s2 : Sh := [(2, .at_ 100), (3, .at_ 109), (6, .v (.i .i64)), (100, .box y123), (109, .box y123)]
abbrev s3 : Sh := [(2, .at_ 100), (9, .at_ 136), (100, .box y123), (136, .box y116)]
def O (k : Nat) : List (Orc (denR ([.c false .b]))) := [⟨s0, fun y => j0 k y.2.2.1 y.2.2.2.1⟩, ⟨s1, fun y => l1 k y.2.2.1 y.2.2.2.1 y.2.2.2.2.1⟩, ⟨s2, fun y => l2 k y.2.2.1 y.2.2.2.1 y.2.2.2.2.1⟩, ⟨s3, fun y => j3 k y.2.2.1 y.2.2.2.1⟩]
theorem e1 (k : Nat) (y : denS s1) : l1 (k + 1) y.2.2.1 y.2.2.2.1 y.2.2.2.2.1 = SS.ev d E O k [1, 1, 1, 0, 1, 0, 0] s1 y := by rw [l1]; kernel_rfl
theorem e2 (k : Nat) (y : denS s2) : l2 (k + 1) y.2.2.1 y.2.2.2.1 y.2.2.2.2.1 = SS.ev d E O k [1, 1, 1, 1, 0, 1, 0, 0] s2 y := by rw [l2]; kernel_rfl
theorem e3 (k : Nat) (y : denS s3) : j3 (k + 1) y.2.2.1 y.2.2.2.1 = SS.ev d E O k [1, 1, 1, 1, 1, 1, 1, 1, 1] s3 y := by rw [j3]; kernel_rfl
theorem e0 (k : Nat) (y : denS s0) : j0 (k + 1) y.2.2.1 y.2.2.2.1 = SS.ev d E O k [1, 1, 1] s0 y := by rw [j0]; kernel_rfl
theorem ok (k : Nat) : EnvOk Try.prog (6, sig k) := fnP SS d E O sig (fun _ => rfl) Try.func6 (by kernel_rfl) rfl (fun k => ⟨regletlaw10_awake.ok k, regletref05_Merged.ok k, lines_Copy.ok k, lines_Same.ok k, regletref10_Same.ok k, trivial⟩) ⟨fun _ => rfl, fun _ => rfl, fun _ => rfl, fun _ => rfl, trivial⟩ (by kernel_rfl) (fun k => pc 1 rfl (e1 k) <| pc 2 rfl (e2 k) <| pc 3 rfl (e3 k) <| pc 0 rfl (e0 k) <| pn) (fun k x => by kernel_rfl) k
end regletlaw10_LinesSame
end Go.Proofs.Ytjbobaeggdafpaa.Vm
