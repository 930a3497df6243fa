
import Derived.Test.YtjbobaeggdafpaaGreatQa
namespace Go.Proofs.YtjbobaeggdafpaaGreat.Vm
open Go
open _root_.Go.RowKit (wrap64)
set_option maxRecDepth 100000
set_option linter.unusedVariables false
namespace xN
mutual
def l0 : Nat → A7 → A7 → Int → Option Bool
 | 0, _, _, _ => none
 | k + 1, a, b, i => if (decide (i < (a.length : Int))) = true then ((at? a i).bind fun e => (at? b i).bind fun e2 => (qO.f k e e2).bind fun r => if (!r) = true then (some false) else (l0 k a b (wrap64 (i + 1)))) else (some true)
end
def f (k : Nat) (a0 : A7) (a1 : A7) : Option Bool := if (!decide ((a0.length : Int) = (a1.length : Int))) = true then (some false) else (l0 k a0 a1 0)
def sig (k : Nat) : Sig := .p [(false, y126), (false, y126)] [.c false .b] fun x => f k x.1 x.2.1
def E (k : Nat) : List (Nat × Sig) := [(50, qO.sig k)]
noncomputable def d : FD := ⟨17, Tryz.f17, 27, 27, [], [], [], [], [.tmp 4], .s .n (.s .n (.s (.s .n (.s (.l 0 .n) .n)) .n))⟩
abbrev s0 : Sh := [(0, .v y126), (1, .v y126), (5, .v (.i .i64))]
def O (k : Nat) : List (Orc (denR ([.c false .b]))) := [⟨s0, fun y => l0 k y.1 y.2.1 y.2.2.1⟩]
theorem e0 (k : Nat) (y : denS s0) : l0 (k + 1) y.1 y.2.1 y.2.2.1 = SS.ev d E O k [1, 1, 0, 1, 0, 0] s0 y := by rw [l0]; kernel_rfl
theorem ok (k : Nat) : zU Tryz.prog (17, sig k) := fnP SS d E O sig (fun _ => rfl) Tryz.func17 (by kernel_rfl) rfl (fun k => ⟨qO.ok k, trivial⟩) ⟨fun _ => rfl, trivial⟩ (by kernel_rfl) (fun k => pc 0 rfl (e0 k) <| pn) (fun k x => by kernel_rfl) k
end xN
namespace yI
mutual
def j0 : Nat → A1 → A1 → A17 → Option Bool
 | 0, _, _, _ => none
 | k + 1, t, t2, t3 => (wV.f k t2 t3.1 t3.2.1 t3.2.2.1 t3.2.2.2).bind fun r4 => (zH.f k t t3.1 t3.2.1).bind fun r5 => if (!decide (r5.2 = 0)) = true then (if (decide (r4.2.2 = r5.2)) = true then (if (decide ((r4.1.length : Int) = 0)) = true then (some (decide ((r4.2.1.1.length : Int) = 0))) else (some false)) else (some false)) else (if (decide (t3.2.2.1 < 1)) = true then (if (decide (r4.2.2 = 41)) = true then (some (decide ((r4.1.length : Int) = 0))) else (some false)) else (if (decide (1073741824 < t3.2.2.1)) = true then (if (decide (r4.2.2 = 41)) = true then (some (decide ((r4.1.length : Int) = 0))) else (some false)) else ((zZ.f k t3.2.2.2).bind fun r6 => if (!r6) = true then (if (decide (r4.2.2 = 80)) = true then (some (decide ((r4.1.length : Int) = 0))) else (some false)) else (j1 k t t2 r4.1 r4.2.2 r5.1 t3 r4.2.1))))
def j1 : Nat → A1 → A1 → A7 → Int → (List zA) → A17 → zO → Option Bool
 | 0, _, _, _, _, _, _, _ => none
 | k + 1, t4, t5, t6, t7, t8, t9, t10 => (zN.f k t8 t10.1 t9.2.2.1 t9.2.2.2 t10.2.2).bind fun r7 => if (!decide (t7 = 0)) = true then (some false) else (if (!r7.2) = true then (some false) else (if (!decide (r7.1 = t10.2.1)) = true then (some false) else (j2 k t4 t5 t6 t8 t9 t10)))
def j2 : Nat → A1 → A1 → A7 → (List zA) → A17 → zO → Option Bool
 | 0, _, _, _, _, _, _ => none
 | k + 1, t11, t12, t13, t14, t15, t16 => (yC.f k t14).bind fun r8 => if (decide ((r8.length : Int) ≤ 9)) = true then ((vJ.f k t14 t15.2.2.1 t15.2.2.2).bind fun r9 => (wW.f k t16 r9).bind fun r10 => if (!r10) = true then (some false) else (j3 k t11 t12 t13 t14 t15 t16)) else (j3 k t11 t12 t13 t14 t15 t16)
def j3 : Nat → A1 → A1 → A7 → (List zA) → A17 → zO → Option Bool
 | 0, _, _, _, _, _, _ => none
 | k + 1, t17, t18, t19, t20, t21, t22 => (xB.f k t20).bind fun r11 => optK r11.1 ((xP.f k t17 t21.1 t21.2.1 t20 t22 t21.2.2.1).bind fun r12 => if (!decide (r11.2 = 0)) = true then (some false) else (none)) fun p2 => (xP.f k t17 t21.1 t21.2.1 t20 t22 t21.2.2.1).bind fun r13 => if (!decide (r11.2 = 0)) = true then (some false) else ((qC.f k t18 t21.1 t21.2.1 p2 t22 t21.2.2.1).bind fun r14 => (xN.f k r14 r13).bind fun r15 => if (!r15) = true then (some false) else (j4 k t19 t20 p2 r13 t21 t22))
def j4 : Nat → A7 → (List zA) → zE → A7 → A17 → zO → Option Bool
 | 0, _, _, _, _, _, _ => none
 | k + 1, t23, t24, t25, t26, t27, t28 => (qR.f k t25 t28.1 (t27.1.size : Int)).bind fun r16 => (xC.f k t24 t28.1 (t27.1.size : Int)).bind fun r17 => if (!decide ((r16.length : Int) = (r17.length : Int))) = true then (some false) else (l5 k t23 t26 r16 r17 0)
def l5 : Nat → A7 → A7 → (List Int) → (List Int) → Int → Option Bool
 | 0, _, _, _, _, _ => none
 | k + 1, t29, t30, t31, t32, t33 => if (decide (t33 < (t31.length : Int))) = true then (if 0 ≤ t33 ∧ t33 < (t31.length : Int) then ((t31[t33.toNat]?).bind fun e => if 0 ≤ t33 ∧ t33 < (t32.length : Int) then ((t32[t33.toNat]?).bind fun e2 => if (!decide (e = e2)) = true then (some false) else (l5 k t29 t30 t31 t32 (wrap64 (t33 + 1)))) else none) else none) else ((xN.f k t29 t30).bind fun r18 => some r18)
end
def f (k : Nat) (a0 : A1) (a1 : A17) : Option Bool := (qF.f k).bind fun r => if (!r) = true then (some false) else ((xZ.f k a0).bind fun r2 => optK r2 (some true) fun p => (zAg.f k a1).bind fun r3 => if (!r3) = true then (some true) else (j0 k a0 p a1))
def sig (k : Nat) : Sig := .p [(false, y65), (true, y128)] [.c false .b] fun x => f k x.1 x.2.1
def E (k : Nat) : List (Nat × Sig) := [(5, qF.sig k), (6, xZ.sig k), (7, zAg.sig k), (8, wV.sig k), (9, zH.sig k), (10, zZ.sig k), (11, zN.sig k), (12, yC.sig k), (13, wW.sig k), (14, vJ.sig k), (15, xB.sig k), (16, xP.sig k), (17, xN.sig k), (18, qC.sig k), (19, qR.sig k), (20, xC.sig k)]
noncomputable def d : FD := ⟨3, Tryz.f3, 206, 219, [(3, 206, 10), (7, 216, 3)], [], [], [], [.tmp 4], .s .n (.s .n (.s .n (.j 0 (.s (.f 5 .n) .n) (.s .n (.s .n (.j 1 .n (.s .n (.j 2 .n (.j 3 (.s (.f 9 .n) .n) (.s .n (.s .n (.j 4 (.s (.f 13 .n) .n) (.s .n (.s .n (.s (.s .n (.s (.l 5 .n) .n)) .n)))))))))))))))⟩
abbrev s0 : Sh := [(0, .v y65), (3, .at_ 206), (5, .v y66), (206, .box y128)]
abbrev s1 : Sh := [(0, .v y65), (3, .at_ 206), (5, .v y66), (6, .v y76), (7, .at_ 216), (8, .v (.i .i64)), (9, .v y29), (206, .box y128), (216, .box y87)]
abbrev s2 : Sh := [(0, .v y65), (3, .at_ 206), (5, .v y66), (6, .v y76), (7, .at_ 216), (9, .v y29), (206, .box y128), (216, .box y87)]
abbrev s3 : Sh := [(0, .v y65), (3, .at_ 206), (5, .v y66), (6, .v y76), (7, .at_ 216), (9, .v y77), (206, .box y128), (216, .box y87)]
abbrev s4 : Sh := [(3, .at_ 206), (6, .v y76), (7, .at_ 216), (9, .v y77), (13, .v y86), (14, .v y76), (206, .box y128), (216, .box y87)]
abbrev s5 : Sh := [(6, .v y76), (14, .v y76), (15, .v y10), (16, .v y10), (17, .v (.i .i64))]
def O (k : Nat) : List (Orc (denR ([.c false .b]))) := [⟨s0, fun y => j0 k y.1 y.2.2.1 y.2.2.2.1⟩, ⟨s1, fun y => j1 k y.1 y.2.2.1 y.2.2.2.1 y.2.2.2.2.2.1 y.2.2.2.2.2.2.1 y.2.2.2.2.2.2.2.1 y.2.2.2.2.2.2.2.2.1⟩, ⟨s2, fun y => j2 k y.1 y.2.2.1 y.2.2.2.1 y.2.2.2.2.2.1 y.2.2.2.2.2.2.1 y.2.2.2.2.2.2.2.1⟩, ⟨s3, fun y => j3 k y.1 y.2.2.1 y.2.2.2.1 y.2.2.2.2.2.1 y.2.2.2.2.2.2.1 y.2.2.2.2.2.2.2.1⟩, ⟨s4, fun y => j4 k y.2.1 y.2.2.2.1 y.2.2.2.2.1 y.2.2.2.2.2.1 y.2.2.2.2.2.2.1 y.2.2.2.2.2.2.2.1⟩, ⟨s5, fun y => l5 k y.1 y.2.1 y.2.2.1 y.2.2.2.1 y.2.2.2.2.1⟩]
theorem e5 (k : Nat) (y : denS s5) : l5 (k + 1) y.1 y.2.1 y.2.2.1 y.2.2.2.1 y.2.2.2.2.1 = SS.ev d E O k [1, 1, 1, 1, 1, 1, 1, 1, 1, 1, 1, 1, 1, 1, 1, 0, 1, 0, 0] s5 y := by rw [l5]; kernel_rfl
theorem e4 (k : Nat) (y : denS s4) : j4 (k + 1) y.2.1 y.2.2.2.1 y.2.2.2.2.1 y.2.2.2.2.2.1 y.2.2.2.2.2.2.1 y.2.2.2.2.2.2.2.1 = SS.ev d E O k [1, 1, 1, 1, 1, 1, 1, 1, 1, 1, 1, 1, 1] s4 y := by rw [j4]; kernel_rfl
theorem e3 (k : Nat) (y : denS s3) : j3 (k + 1) y.1 y.2.2.1 y.2.2.2.1 y.2.2.2.2.2.1 y.2.2.2.2.2.2.1 y.2.2.2.2.2.2.2.1 = SS.ev d E O k [1, 1, 1, 1, 1, 1, 1, 1, 1, 1] s3 y := by rw [j3]; kernel_rfl
theorem e2 (k : Nat) (y : denS s2) : j2 (k + 1) y.1 y.2.2.1 y.2.2.2.1 y.2.2.2.2.2.1 y.2.2.2.2.2.2.1 y.2.2.2.2.2.2.2.1 = SS.ev d E O k [1, 1, 1, 1, 1, 1, 1, 1, 1] s2 y := by rw [j2]; kernel_rfl
theorem e1 (k : Nat) (y : denS s1) : j1 (k + 1) y.1 y.2.2.1 y.2.2.2.1 y.2.2.2.2.2.1 y.2.2.2.2.2.2.1 y.2.2.2.2.2.2.2.1 y.2.2.2.2.2.2.2.2.1 = SS.ev d E O k [1, 1, 1, 1, 1, 1, 1] s1 y := by rw [j1]; kernel_rfl
theorem e0 (k : Nat) (y : denS s0) : j0 (k + 1) y.1 y.2.2.1 y.2.2.2.1 = SS.ev d E O k [1, 1, 1, 1] s0 y := by rw [j0]; kernel_rfl
theorem ok (k : Nat) : zU Tryz.prog (3, sig k) := fnP SS d E O sig (fun _ => rfl) Tryz.func3 (by kernel_rfl) rfl (fun k => ⟨qF.ok k, xZ.ok k, zAg.ok k, wV.ok k, zH.ok k, zZ.ok k, zN.ok k, yC.ok k, wW.ok k, vJ.ok k, xB.ok k, xP.ok k, xN.ok k, qC.ok k, qR.ok k, xC.ok k, trivial⟩) ⟨fun _ => rfl, fun _ => rfl, fun _ => rfl, fun _ => rfl, fun _ => rfl, fun _ => rfl, trivial⟩ (by kernel_rfl) (fun k => pc 5 rfl (e5 k) <| pc 4 rfl (e4 k) <| pc 3 rfl (e3 k) <| pc 2 rfl (e2 k) <| pc 1 rfl (e1 k) <| pc 0 rfl (e0 k) <| pn) (fun k x => by kernel_rfl) k
end yI
end Go.Proofs.YtjbobaeggdafpaaGreat.Vm
